import PyProof.Rows.All
import Wide.All
import OpenK.AllK
import Wide.FinOn
import HandS.ForMost
import HandS.ForExc
import HandS.IsInst
import HandS.Deep
import HandS.TupAny
import HandS.ExcInit
import HandS.TryOnly
import HandS.Small
import HandS.More
import KE.KExcIs
import KE.GoesMore
import KE.KeyNested
import KE.KDictKeyed
import KE.KDictDisplayH
import KE.SortData
import HandS.Defaults
import HandS.Flow
import HandS.Style
import HandS.TupMul
import PyProof.EqKinds
import HandS.DictEq
import HandS.Conv
import HandS.TupLe
import HandS.Set
import HandS.SetTxt0
import HandS.SetFor
import HandS.Strs
import HandS.DictComp
import HandS.SetBool
import HandS.Comp
import HandS.ExcField
import PyProof.StrLawsRepr
import PyProof.P3Eq
import PySem.Challenge.RW_factsandfar_k03_concepts_of_ontology
set_option Elab.async false
set_option linter.all false
set_option maxRecDepth 100000
set_option maxHeartbeats 4000000
/-! MP: a small Python over trees, with an evaluator. Values: trees (a list or dict that nobody will change is a tree too), references to cells. -/
namespace MP
open PySem

inductive A where
  | non | bl (b : Bool) | int (i : Int) | str (s : Str)
  | tup (xs : List A) | lst (xs : List A) | dct (kvs : List (A × A)) | ref (n : Nat)
  deriving Inhabited

inductive Cell where
  | lst (xs : List A) | dct (kvs : List (A × A)) | dead
  deriving Inhabited
abbrev Mem := List Cell

structure Exc where
  cls : Str
  fld : Option (Str × A)
  deriving Inhabited

inductive Out (α : Type) where
  | ok (a : α) (M : Mem)
  | exc (x : Exc) (M : Mem)
  | stuck
  deriving Inhabited
def Out.bind {α β : Type} (o : Out α) (f : α → Mem → Out β) : Out β := match o with
  | .ok a M => f a M
  | .exc x M => .exc x M
  | .stuck => .stuck
def Out.noExc {α : Type} (o : Out α) : Out α := match o with
  | .exc _ _ => .stuck
  | o => o
@[simp] theorem Out.bind_ok {α β : Type} (a : α) (M : Mem) (f : α → Mem → Out β) : (Out.ok a M).bind f = f a M := rfl
@[simp] theorem Out.bind_exc {α β : Type} (x : Exc) (M : Mem) (f : α → Mem → Out β) : (Out.exc x M : Out α).bind f = .exc x M := rfl
@[simp] theorem Out.bind_stuck {α β : Type} (f : α → Mem → Out β) : (Out.stuck : Out α).bind f = .stuck := rfl
@[simp] theorem Out.noExc_ok {α : Type} (a : α) (M : Mem) : (Out.ok a M).noExc = .ok a M := rfl

/-! ### trees as plain data -/
mutual
def A.toD : A → Option PyData
  | .non => some .none
  | .bl b => some (.bool b)
  | .int i => some (.int i)
  | .str s => some (.str s)
  | .tup xs => (A.toDs xs).map .tuple
  | .lst xs => (A.toDs xs).map .list
  | .dct _ => none
  | .ref _ => none
def A.toDs : List A → Option (List PyData)
  | [] => some []
  | x :: xs => match A.toD x, A.toDs xs with
    | some d, some ds => some (d :: ds)
    | _, _ => none
end
mutual
/-- .. the empty dict within -/
def A.toR : A → Option PyData
  | .non => some .none
  | .bl b => some (.bool b)
  | .int i => some (.int i)
  | .str s => some (.str s)
  | .tup xs => (A.toRs xs).map .tuple
  | .lst xs => (A.toRs xs).map .list
  | .dct kvs => (A.toRk kvs).map .dict
  | .ref _ => none
def A.toRs : List A → Option (List PyData)
  | [] => some []
  | x :: xs => match A.toR x, A.toRs xs with
    | some d, some ds => some (d :: ds)
    | _, _ => none
def A.toRk : List (A × A) → Option (List (PyData × PyData))
  | [] => some []
  | p :: ps => match A.toRp p, A.toRk ps with
    | some d, some ds => some (d :: ds)
    | _, _ => none
def A.toRp : A × A → Option (PyData × PyData)
  | (x, y) => match A.toR x, A.toR y with
    | some d, some e => some (d, e)
    | _, _ => none
end
mutual
/-- a list within -/
def A.hasL : A → Bool
  | .tup xs => A.hasLs xs
  | .lst _ => true
  | .ref _ => true
  | .dct kvs => !kvs.isEmpty
  | _ => false
def A.hasLs : List A → Bool
  | [] => false
  | x :: xs => A.hasL x || A.hasLs xs
end
def A.toDM (M : Mem) (a : A) : Option PyData := match a with
  | .ref n => match M[n]? with
    | some (.lst xs) => (A.toDs xs).map .list
    | _ => none
  | a => a.toD
def A.toRM (M : Mem) (a : A) : Option PyData := match a with
  | .ref n => match M[n]? with
    | some (.lst xs) => (A.toRs xs).map .list
    | _ => none
  | a => a.toR
/-! ### keys of dicts -/
mutual
def toNK : A → Option NestedKey
  | .non => some .none
  | .bl b => some (.num (if b = true then 1 else 0))
  | .int i => some (.num i)
  | .str s => some (.text s)
  | .tup xs => (toNKs xs).map .tup
  | _ => none
def toNKs : List A → Option (List NestedKey)
  | [] => some []
  | x :: xs => match toNK x, toNKs xs with
    | some d, some ds => some (d :: ds)
    | _, _ => none
end
/-- a tuple that may be a key -/
def tkey (a : A) : Option NestedKey := match a with
  | .tup xs => match toNK (.tup xs) with
    | some k => if k.depth ≤ 8 then some k else none
    | none => none
  | _ => none
def hasKey (kvs : List (A × A)) (k : NestedKey) : Bool := kvs.any fun p => decide (toNK p.1 = some k)
def putD (kvs : List (A × A)) (k : NestedKey) (a v : A) : List (A × A) := if hasKey kvs k = true then kvs.map (fun p => if toNK p.1 = some k then (p.1, v) else p) else kvs ++ [(a, v)]
/-- how a key of a dict of texts and ints stands -/
def keyA : A → Option L2.Key
  | .int i => some (.inl i)
  | .str s => some (.inr s)
  | _ => none
/-- a text's or an int's key -/
def nkK : L2.Key → NestedKey
  | .inl i => .num i
  | .inr s => .text s
def isTA : A → Bool
  | .tup _ => true
  | _ => false
def isSA : A → Bool
  | .int _ => true
  | .str _ => true
  | _ => false
/-- the key a in a dict of its sort -/
def kOf (a : A) (kvs : List (A × A)) : Option NestedKey := match a with
  | .tup xs => if (kvs.all fun p => isTA p.1) = true then tkey (.tup xs) else none
  | .int i => if (kvs.all fun p => isSA p.1) = true then some (.num i) else none
  | .str s => if (kvs.all fun p => isSA p.1) = true then some (.text s) else none
  | _ => none
def findK (kvs : List (A × A)) (k : NestedKey) : Option A := (kvs.find? fun p => decide (toNK p.1 = some k)).map (·.2)
/-- a dict's entries -/
def asD (M : Mem) (a : A) : Option (List (A × A)) := match a with
  | .dct kvs => some kvs
  | .ref n => match M[n]? with
    | some (.dct kvs) => some kvs
    | _ => none
  | _ => none
/-- a list's items -/
def asL (M : Mem) (a : A) : Option (List A) := match a with
  | .lst xs => some xs
  | .ref n => match M[n]? with
    | some (.lst xs) => some xs
    | _ => none
  | _ => none
def asSeq (M : Mem) (a : A) : Option (List A) := match a with
  | .tup xs => some xs
  | a => asL M a
def seqItems (a : A) : Option (List A) := match a with
  | .lst xs => some xs
  | .tup xs => some xs
  | _ => none
def enumA : Nat → List A → List A
  | _, [] => []
  | n, x :: xs => .tup [.int (n : Int), x] :: enumA (n + 1) xs
/-- what a for goes over -/
def itemsOf (a : A) : Option (List A) := match a with
  | .lst xs => some xs
  | .tup xs => some xs
  | .str s => some (s.cps.toList.map fun c => .str ⟨#[c]⟩)
  | _ => none

/-- a new list: kept as a cell of its own (o), or as a tree -/
def finL (o : Bool) (xs : List A) (M : Mem) : Out A :=
  if xs.length ≤ sizeLine then (if o = true then .ok (.ref M.length) (M ++ [.lst xs]) else .ok (.lst xs) M) else .stuck

/-! ### operators by values -/
def addA (o : Bool) (a b : A) (M : Mem) : Out A := match a with
  | .int i => match b with
    | .int j => .ok (.int (i + j)) M
    | _ => .stuck
  | .str x => match b with
    | .str y => if x.length + y.length ≤ sizeLine then .ok (.str (x ++ y)) M else .stuck
    | _ => .stuck
  | .tup xs => match b with
    | .tup ys => if xs.length + ys.length ≤ sizeLine then .ok (.tup (xs ++ ys)) M else .stuck
    | _ => .stuck
  | a => match asL M a with
    | some xs => match asL M b with
      | some ys => finL o (xs ++ ys) M
      | none => .stuck
    | none => .stuck
def okMul (i j : Int) : Bool := (decide (-(2 ^ 64) < i) && decide (i < 2 ^ 64)) || (decide (-(2 ^ 64) < j) && decide (j < 2 ^ 64))
def binI (op : Operator) (i j : Int) (M : Mem) : Out A := match op with
  | .Sub => .ok (.int (i - j)) M
  | .Mult => if okMul i j = true then .ok (.int (i * j)) M else .stuck
  | .FloorDiv => if 0 < j ∧ j < 1073741824 then .ok (.int (i / j)) M else .stuck
  | .Mod => if 0 < j then .ok (.int (i % j)) M else .stuck
  | .Pow => if 0 ≤ j ∧ j ≤ 1000000 ∧ i.natAbs < 2 ^ 64 then .ok (.int (i ^ j.toNat)) M else .stuck
  | _ => .stuck
def binN (op : Operator) (a b : A) (M : Mem) : Out A := match a with
  | .int i => match b with
    | .int j => binI op i j M
    | _ => .stuck
  | _ => .stuck
/-- xs * k -/
def repL (o : Bool) (k : Int) (a : A) (M : Mem) : Out A := match asL M a with
  | some xs => if 0 ≤ k ∧ k ≤ 1000 ∧ xs.length ≤ 1000 then finL o (List.flatten (List.replicate k.toNat xs)) M else .stuck
  | none => .stuck
def repA (o : Bool) (a b : A) (M : Mem) : Out A := match b with
  | .int k => match a with
    | .tup xs => if xs.isEmpty = false ∧ 0 ≤ k ∧ k ≤ 1000 ∧ xs.length ≤ 1000 then .ok (.tup (List.flatten (List.replicate k.toNat xs))) M else .stuck
    | a => repL o k a M
  | _ => .stuck
def isI : A → Bool
  | .int _ => true
  | _ => false
def mulA (o : Bool) (a b : A) (M : Mem) : Out A := if isI a = true then binN .Mult a b M else repA o a b M
def binA (o : Bool) (op : Operator) (a b : A) (M : Mem) : Out A := match op with
  | .Add => addA o a b M
  | .Mult => mulA o a b M
  | op => binN op a b M

def scalA : A → A → Bool
  | .non, .non => true | .non, .int _ => true | .int _, .non => true | .non, .bl _ => true | .bl _, .non => true | .non, .str _ => true | .str _, .non => true
  | .int _, .int _ => true | .bl _, .bl _ => true | .str _, .str _ => true
  | .int _, .str _ => true | .str _, .int _ => true | .bl _, .str _ => true | .str _, .bl _ => true
  | _, _ => false
/-- == of two flat things of which at most one kind is a number -/
def scalEq : A → A → Bool
  | .non, .non => true
  | .int i, .int j => decide (i = j)
  | .bl a, .bl b => decide (a = b)
  | .str x, .str y => decide (x = y)
  | _, _ => false
mutual
def eqT : A → A → Bool
  | .non, .non => true
  | .bl a, .bl b => a == b
  | .bl a, .int j => (if a then 1 else 0) == j
  | .int i, .bl b => i == (if b then 1 else 0)
  | .int i, .int j => i == j
  | .str x, .str y => x == y
  | .tup xs, .tup ys => eqTs xs ys
  | .lst xs, .lst ys => eqTs xs ys
  | .dct _, .dct _ => true
  | _, _ => false
def eqTs : List A → List A → Bool
  | [], [] => true
  | x :: xs, y :: ys => eqT x y && eqTs xs ys
  | _, _ => false
end
/-- a tree of at most that depth -/
def pl : Nat → A → Bool
  | _, .non => true
  | _, .bl _ => true
  | _, .int _ => true
  | _, .str _ => true
  | n + 1, .tup xs => xs.all (pl n)
  | n + 1, .lst xs => xs.all (pl n)
  | _, .dct kvs => kvs.isEmpty
  | _, _ => false
def eqG (a b : A) : Option Bool := if (pl 60 a && pl 60 b) = true then some (eqT a b) else none
def inG (a : A) (ys : List A) : Option Bool := if (pl 60 a && ys.all (pl 60)) = true then some (ys.any fun y => eqT y a) else none
def eqA (a b : A) (M : Mem) : Option Bool :=
  if scalA a b = true then some (scalEq a b) else
    match a.toDM M with
    | some d => match b.toDM M with
      | some e => if (SeqAt.shaped d && SeqAt.shaped e) = true then some (PyData.eqv d e) else none
      | none => none
    | none => none
def isNon : A → Bool
  | .non => true
  | _ => false
def flatA : A → Bool
  | .non => true
  | .bl _ => true
  | .int _ => true
  | .str _ => true
  | _ => false
def eqF : A → A → Bool
  | .non, .non => true
  | .bl a, .bl b => a == b
  | .bl a, .int b => (if a then 1 else 0) == b
  | .int a, .bl b => a == (if b then 1 else 0)
  | .int a, .int b => a == b
  | .str a, .str b => a == b
  | _, _ => false
/-- x in y -/
def inSeq (a b : A) (M : Mem) : Option Bool := match asSeq M b with
  | some ys => if (flatA a && ys.all flatA) = true then some (ys.any fun y => eqF y a) else
      match a.toDM M with
      | some d => match b.toDM M with
        | some (.list ds) => if (SeqAt.shaped d && SeqAt.shaped (.list ds)) = true then some (ds.any fun z => PyData.eqv z d) else none
        | _ => none
      | none => none
  | none => none
def inStr (a : A) (z : Str) : Option Bool := match a with
  | .str x => if x.cps.size = 1 then some (decide (x.cps.getD 0 0 ∈ z.cps.toList)) else none
  | _ => none
def inL (a b : A) (M : Mem) : Option Bool := match asSeq M b with
  | some ys => match inG a ys with
    | some k => some k
    | none => inSeq a b M
  | none => none
def inA (a b : A) (M : Mem) : Option Bool := match asD M b with
  | some kvs => (kOf a kvs).map fun k => hasKey kvs k
  | none => match b with
    | .str z => inStr a z
    | b => inL a b M
/-- x == y -/
def eqX (a b : A) (M : Mem) : Option Bool := match eqG a b with
  | some k => some k
  | none => eqA a b M
def isD : A → Bool
  | .dct _ => true
  | _ => false
/-- {} and a tuple -/
def isDT (a b : A) : Bool := match a with
  | .dct [] => match b with
    | .tup _ => true
    | _ => false
  | _ => false
/-- x != y -/
def neX (a b : A) (M : Mem) : Option Bool := if isDT a b = true then some true else if (isD a || isD b) = true then (eqA a b M).map (!·) else (eqX a b M).map (!·)
def ltI (op : CmpOp) (i j : Int) : Option Bool := match op with
  | .Lt => some (decide (i < j))
  | .LtE => some (decide (i ≤ j))
  | .Gt => some (decide (j < i))
  | .GtE => some (decide (j ≤ i))
  | _ => none
def ltA (op : CmpOp) (a b : A) : Option Bool := match a with
  | .int i => match b with
    | .int j => ltI op i j
    | _ => none
  | _ => none
def isNone? (a b : A) : Option Bool := if isNon b = true then some (isNon a) else none
/-- x is None, x is True -/
def isX (a b : A) : Option Bool := match isNone? a b with
  | some k => some k
  | none => match a with
    | .bl p => match b with
      | .bl q => some (decide (p = q))
      | _ => none
    | _ => none
def cmpB (op : CmpOp) (a b : A) (M : Mem) : Option Bool := match op with
  | .Eq => eqX a b M
  | .NotEq => neX a b M
  | .Is => isX a b
  | .IsNot => (isX a b).map (!·)
  | .In => inA a b M
  | .NotIn => (inA a b M).map (!·)
  | op => ltA op a b
def outB (o : Option Bool) (M : Mem) : Out A := match o with
  | some b => .ok (.bl b) M
  | none => .stuck
def outT (o : Option Bool) (M : Mem) : Out Bool := match o with
  | some b => .ok b M
  | none => .stuck

/-- truth -/
def truA (a : A) (M : Mem) : Option Bool := match a with
  | .non => some false
  | .bl b => some b
  | .int i => some (i != 0)
  | .str s => if s.length ≤ sizeLine then some ((s.length : Int) != 0) else none
  | .tup xs => some (!xs.isEmpty)
  | a => (asL M a).map fun xs => !xs.isEmpty
/-- a value's type -/
inductive Ty where
  | non | bool | int | str | tuple | list | dict
  deriving DecidableEq
def Ty.nm : Ty → String
  | .non => "NoneType" | .bool => "bool" | .int => "int" | .str => "str" | .tuple => "tuple" | .list => "list" | .dict => "dict"
def tyA (a : A) (M : Mem) : Option Ty := match a with
  | .non => some .non
  | .bl _ => some .bool
  | .int _ => some .int
  | .str _ => some .str
  | .tup _ => some .tuple
  | .lst _ => some .list
  | .dct _ => some .dict
  | .ref n => match M[n]? with
    | some (.lst _) => some .list
    | some (.dct _) => some .dict
    | _ => none
/-- isinstance(x of type t, c) -/
def isiT (t c : Ty) : Bool := decide (t = c) || (decide (t = .bool) && decide (c = .int))
def isiA (a : A) (c : Ty) (M : Mem) : Option Bool := (tyA a M).map fun t => isiT t c
def lenA (a : A) (M : Mem) : Option Nat := match a with
  | .str s => if s.length ≤ sizeLine then some s.length else none
  | a => (asSeq M a).map List.length
/-- the order of plain data -/
def ltD (a b : A) : Bool := match a.toD with
  | some d => match b.toD with
    | some e => PySem.W.dataLt d e
    | none => false
  | none => false
def isStA : A → Bool
  | .str _ => true
  | _ => false
def strA : A → Str
  | .str s => s
  | _ => Str.empty
def leS (a b : Str) : Bool := !Spec.ltCps b.cps.toList a.cps.toList
/-- texts, sorted -/
def sortS (ks : List Str) : List Str := ks.mergeSort leS
/-- each text once -/
def dedS : List Str → List Str
  | [] => []
  | k :: r => if k ∈ r then dedS r else k :: dedS r
def keyD (a : A) : PyData := (a.toD).getD .none
def sortL (xs : List A) : List A := xs.mergeSort fun a b => !ltD b a
def allD (xs : List A) : Bool := xs.all fun a => a.toD.isSome
/-- what sorts: data of one kind -/
def okSort (xs : List A) : Bool := allD xs && (xs.all fun a => xs.all fun b => PySem.W.alike (keyD a) (keyD b)) && ((xs.all fun a => match keyD a with | .tuple (_ :: _) => true | _ => false) || xs.all fun a => match keyD a with | .none => false | .tuple _ => false | _ => true) && (xs.all fun a => decide ((keyD a).depth ≤ 30)) && decide (xs.length ≤ sizeLine)
def allBl : List A → Option (List Bool)
  | [] => some []
  | .bl b :: r => (allBl r).map (b :: ·)
  | _ => none
def outI (o : Option Nat) (M : Mem) : Out A := match o with
  | some n => .ok (.int n) M
  | none => .stuck
def reprA (a : A) (M : Mem) : Out A := match a.toRM M with
  | some d => if (d.showable && decide (d.shown.length ≤ sizeLine) && decide (d.depth ≤ 60)) = true then .ok (.str d.shown) M else .stuck
  | none => .stuck
def one? : List A → Option A
  | [a] => some a
  | _ => none
def ints2? : List A → Option (Int × Int)
  | [.int i, .int j] => some (i, j)
  | _ => none
/-- a built-in function -/
inductive B where
  | len | all | any | max | min | int | repr | list | tuple | sorted | str
  deriving DecidableEq, Inhabited
def B.nm : B → String
  | .len => "len" | .all => "all" | .any => "any" | .max => "max" | .min => "min" | .int => "int" | .repr => "repr" | .list => "list" | .tuple => "tuple" | .sorted => "sorted" | .str => "str"
def toIntA (a : A) : Option Int := match a with
  | .int i => some i
  | .bl k => some (if k then 1 else 0)
  | _ => none
def outV (o : Option A) (M : Mem) : Out A := match o with
  | some a => .ok a M
  | none => .stuck
/-- str of an int -/
def strOf (a : A) : Option A := match a with
  | .int i => if i.natAbs.log2 < 1920 then some (.str (toString i)) else none
  | _ => none
def blt1 (o : Bool) (f : B) (a : A) (M : Mem) : Out A := match f with
  | .len => outI (lenA a M) M
  | .all => outV (((asL M a).bind allBl).map fun bs => .bl (bs.all id)) M
  | .any => outV (((asL M a).bind allBl).map fun bs => .bl (bs.any id)) M
  | .int => outV ((toIntA a).map .int) M
  | .repr => reprA a M
  | .list => match asD M a with
    | some kvs => if kvs.length < 1000000 then finL o (kvs.map (·.1)) M else .stuck
    | none => match asSeq M a with
      | some ys => finL o ys M
      | none => .stuck
  | .sorted => match asL M a with
    | some xs => if okSort xs = true then finL o (sortL xs) M else .stuck
    | none => match asD M a with
      | some kvs => if (kvs.all (fun p => isStA p.1) && decide (kvs.length < 64)) = true then finL o ((sortS (kvs.map fun p => strA p.1)).map .str) M else .stuck
      | none => .stuck
  | .tuple => outV ((asSeq M a).map .tup) M
  | .str => outV (strOf a) M
  | _ => .stuck
def blt2 (f : B) (i j : Int) (M : Mem) : Out A := match f with
  | .max => .ok (.int (if j > i then j else i)) M
  | .min => .ok (.int (if j < i then j else i)) M
  | _ => .stuck
def bltA (o : Bool) (f : B) (xs : List A) (M : Mem) : Out A := match one? xs with
  | some a => blt1 o f a M
  | none => match ints2? xs with
    | some p => blt2 f p.1 p.2 M
    | none => .stuck
/-- xs[i] -/
def idxS (a i : A) (M : Mem) : Out A := match i with
  | .int k => match a with
    | .str z => if z.length ≤ sizeLine then (match L2.atI z.cps.toList k with
        | some c => .ok (.str ⟨#[c]⟩) M
        | none => .stuck) else .stuck
    | a => match asSeq M a with
      | some xs => match L2.atI xs k with
        | some x => .ok x M
        | none => .stuck
      | none => .stuck
  | _ => .stuck
def idxA (a i : A) (M : Mem) : Out A := match asD M a with
  | some kvs => match kOf i kvs with
    | some k => outV (findK kvs k) M
    | none => .stuck
  | none => idxS a i M
def cutA (xs : List A) (lo hi : Option Int) : List A := (xs.drop (HT.sIx xs.length 0 lo)).take (HT.sIx xs.length xs.length hi - HT.sIx xs.length 0 lo)
def sliceA (o : Bool) (a : A) (lo hi : Option Int) (M : Mem) : Out A := match a with
  | .tup xs => .ok (.tup (cutA xs lo hi)) M
  | a => match asL M a with
    | some xs => finL o (cutA xs lo hi) M
    | none => .stuck
/-- o.m(..) of a built-in type -/
inductive Mth where
  | append | insert | pop | extend | get
  deriving DecidableEq, Inhabited
def Mth.nm : Mth → String
  | .append => "append" | .insert => "insert" | .pop => "pop" | .extend => "extend" | .get => "get"
def appA (a x : A) (M : Mem) : Out A := match a with
  | .ref n => match M[n]? with
    | some (.lst ys) => if ys.length < sizeLine then .ok .non (M.set n (.lst (ys ++ [x]))) else .stuck
    | _ => .stuck
  | _ => .stuck
/-- xs.insert(i, x), i a place within -/
def insA (a : A) (i : Int) (x : A) (M : Mem) : Out A := match a with
  | .ref n => match M[n]? with
    | some (.lst ys) => if ys.length < sizeLine ∧ 0 ≤ i ∧ i ≤ (ys.length : Int) then .ok .non (M.set n (.lst (ys.take i.toNat ++ x :: ys.drop i.toNat))) else .stuck
    | _ => .stuck
  | _ => .stuck
def two? : List A → Option (A × A)
  | [a, b] => some (a, b)
  | _ => none
/-- xs.pop(0) -/
def popA (a : A) (i : Int) (M : Mem) : Out A := match a with
  | .ref n => match M[n]? with
    | some (.lst ys) => match L2.ixN ys.length i with
      | some j => match ys[j]? with
        | some y => if ys.length ≤ sizeLine then .ok y (M.set n (.lst (ys.eraseIdx j))) else .stuck
        | none => .stuck
      | none => .stuck
    | _ => .stuck
  | _ => .stuck
/-- xs.extend(ys), ys no cell of its own -/
def extA (a : A) (b : A) (M : Mem) : Out A := match a with
  | .ref n => match M[n]? with
    | some (.lst ys) => match asSeq M b with
      | some zs => if ys.length + zs.length ≤ sizeLine then .ok .non (M.set n (.lst (ys ++ zs))) else .stuck
      | none => .stuck
    | _ => .stuck
  | _ => .stuck
def getA (a i x : A) (M : Mem) : Out A := match asD M a with
  | some kvs => match kOf i kvs with
    | some k => .ok ((findK kvs k).getD x) M
    | none => .stuck
  | none => .stuck
/-- the receiver is of the method's type -/
def recvOk (m : Mth) (a : A) (M : Mem) : Bool := match m with
  | .get => (asD M a).isSome
  | _ => (asL M a).isSome
def methA (m : Mth) (a : A) (xs : List A) (M : Mem) : Out A := match m with
  | .append => match one? xs with
    | some x => appA a x M
    | none => .stuck
  | .insert => match two? xs with
    | some (.int i, x) => insA a i x M
    | _ => .stuck
  | .pop => match one? xs with
    | some (.int i) => popA a i M
    | _ => .stuck
  | .extend => match one? xs with
    | some x => extA a x M
    | none => .stuck
  | .get => match one? xs with
    | some i => getA a i .non M
    | none => match two? xs with
      | some (i, x) => getA a i x M
      | none => .stuck
/-- a list given over: from now on a tree -/
def frzA (a : A) (M : Mem) : Out A := match a with
  | .ref n => match M[n]? with
    | some (.lst xs) => .ok (.lst xs) (M.set n .dead)
    | some (.dct kvs) => .ok (.dct kvs) (M.set n .dead)
    | _ => .stuck
  | a => .ok a M
/-- a[i] = x -/
def setA (a i x : A) (M : Mem) : Out Unit := match a with
  | .ref n => match M[n]? with
    | some (.lst ys) => match i with
      | .int k => match L2.ixN ys.length k with
        | some j => .ok () (M.set n (.lst (ys.set j x)))
        | none => .stuck
      | _ => .stuck
    | some (.dct kvs) => match kOf i kvs with
      | some k => if kvs.length < sizeLine then .ok () (M.set n (.dct (putD kvs k i x))) else .stuck
      | none => .stuck
    | _ => .stuck
  | _ => .stuck

/-! ### the text -/
inductive Tg where
  | name (i : Nat)
  | tup (is : List Nat)
  deriving Inhabited, DecidableEq
def Tg.slots : Tg → List Nat
  | .name i => [i]
  | .tup is => is
mutual
inductive E where
  | var (i : Nat)
  | con (c : Const)
  | glob (x : Str)
  | tup (es : List E)
  | lst (o : Bool) (es : List E)
  | bin (o : Bool) (op : Operator) (a b : E)
  | neg (a : E)
  | cmp (op : CmpOp) (a b : E)
  | chain (op op' : CmpOp) (a b c : E)
  | and (a b : E)
  | or (a b : E)
  | not (a : E)
  | ite (c a b : E)
  | call (f : Str) (es : List E)
  | callK (f : Str) (n : Nat) (ks : List Str) (es kes : List E)
  | blt (o : Bool) (f : B) (es : List E)
  | isi (a : E) (c : Ty)
  | idx (a i : E)
  | slice (o : Bool) (a : E) (lo hi : Option E)
  | lc (o : Bool) (vs : List Nat) (elt : E) (tg : Tg) (it : It) (ifs : List E)
  | meth (m : Mth) (a : E) (es : List E)
  | frzv (a : E)
  | dnew
  | dcell
  | dsp (t o : Bool) (k v : E) (kvs : List E)
  | rev (o : Bool) (a : E)
  | gix (x : Str) (i : E)
  | dctOf (o : Bool) (e : E)
  | revT (a : E)
  | lcC (o : Bool) (vs : List Nat) (elt : E) (tg : Tg) (m : E) (ifs : List E)
  | uniq (o : Bool) (vs vs1 : List Nat) (kx : E) (tg : Tg) (it : It) (tg1 : Tg) (it1 : It) (ifs1 : List E)
  | sset (o q : Bool) (a : E)
  | ssetC (o : Bool) (vs : List Nat) (elt : E) (tg : Tg) (it : It) (ifs : List E)
  | lc2 (o : Bool) (vs vs1 : List Nat) (elt : E) (tg : Tg) (it : It) (ifs : List E) (tg1 : Tg) (it1 : It) (ifs1 : List E)
inductive It where
  | over (e : E)
  | range1 (e : E)
  | enum (e : E)
end
instance : Inhabited E := ⟨.var 0⟩
/-- what a suite says of its exception -/
inductive HE where
  | con (c : Const) | fld (f : Str) | isi (c : Str) | not (a : HE) | and (a b : HE) | or (a b : HE) | lst (es : List HE)
  deriving Inhabited
inductive HS where
  | asg (i : Nat) (e : HE) | ret (e : HE) | ife (c : HE) (a b : List HS)
  deriving Inhabited
/-- a try's one statement -/
inductive TB where
  | asg (i : Nat) | expr | ret
  deriving Inhabited, DecidableEq
inductive S where
  | asg (i : Nat) (e : E)
  | asgT (tg : Tg) (e : E)
  | set (a i e : E)
  | expr (e : E)
  | ret (e : E)
  | retN
  | ife (c : E) (a b : List S)
  | forS (tg : Tg) (it : It) (body : List S)
  | forC (en : Bool) (tg : Tg) (e : E) (body : List S)
  | whl (c : E) (body : List S)
  | brk | cnt | pass
  | raise (c : Str) (e : Option E)
  | tryE (b : TB) (e : E) (c : Str) (n : Option Nat) (hs : List HS)
  | frz (i : Nat)
  | par (i j : Nat) (a b : E)
  | swp (a i b j e f : E)
  deriving Inhabited

abbrev Loc := List (Option A)
inductive Fl where
  | nxt | brk | cnt | ret (a : A)
  deriving Inhabited

def cA : Const → Option A
  | .none => some .non
  | .bool b => some (.bl b)
  | .int i => some (.int i)
  | .str s => some (.str s)
  | _ => none
def wipeA (ς : Loc) : List Nat → Loc
  | [] => ς
  | v :: vs => (wipeA ς vs).set v none
def setAll (ς : Loc) : List Nat → List A → Option Loc
  | [], [] => some ς
  | i :: is, x :: xs => setAll (ς.set i (some x)) is xs
  | _, _ => none
def bindT (tg : Tg) (x : A) (ς : Loc) : Option Loc := match tg with
  | .name i => some (ς.set i (some x))
  | .tup is => match x with
    | .tup xs => setAll ς is xs
    | .lst xs => setAll ς is xs
    | _ => none

/-- the exception classes: those that are raised, with their field; which clause takes which; what isinstance says -/
structure XT where
  cls : List (Str × Option Str)
  exm : List ((Str × Str) × Bool)
  isc : List ((Str × Str) × Bool)
instance : Inhabited XT := ⟨⟨[], [], []⟩⟩
/-- where a parameter's value comes from, in a call with keywords or defaults: the i-th written value; a constant -/
inductive Src where
  | arg (i : Nat) | dfl (c : Const)
  deriving Inhabited, DecidableEq
def arrA (ss : List Src) (xs : List A) : Option (List A) := match ss with
  | [] => some []
  | .arg i :: r => match xs[i]?, arrA r xs with
    | some x, some ys => some (x :: ys)
    | _, _ => none
  | .dfl c :: r => match cA c, arrA r xs with
    | some x, some ys => some (x :: ys)
    | _, _ => none
/-- calls with keywords: the def, the number of positional values, the keywords; the parameters' values -/
abbrev KB := List ((Str × Nat × List Str) × List Src)
structure Par where
  call : Str → List A → Mem → Out A
  glob : Str → Option A
  wf : Nat
  xt : XT
  kb : KB
  gd : Str → Option (List (Str × A))
instance : Inhabited Par := ⟨⟨fun _ _ _ => .stuck, fun _ => none, 0, default, [], fun _ => none⟩⟩
def callKA (P : Par) (f : Str) (n : Nat) (ks : List Str) (xs zs : List A) (M : Mem) : Out A := if xs.length = n ∧ zs.length = ks.length then (match P.kb.lookup (f, n, ks) with
  | some ss => match arrA ss (xs ++ zs) with
    | some ys => P.call f ys M
    | none => .stuck
  | none => .stuck) else .stuck
/-- pairs of a display -/
def pairA : List A → Option (List (A × A))
  | [] => some []
  | k :: v :: r => (pairA r).map ((k, v) :: ·)
  | _ => none
/-- the pairs stored one after another; the keys tuples (t), or texts and ints -/
def putAll (t : Bool) (kvs : List (A × A)) : List (A × A) → Option (List (A × A))
  | [] => some kvs
  | (k, v) :: r => match (if t = true then tkey k else (keyA k).map nkK) with
    | some nk => putAll t (putD kvs nk k v) r
    | none => none
/-- a new dict: kept as a cell of its own (o), or as a tree -/
def finD (o : Bool) (kvs : List (A × A)) (M : Mem) : Out A :=
  if kvs.length ≤ sizeLine then (if o = true then .ok (.ref M.length) (M ++ [.dct kvs]) else .ok (.dct kvs) M) else .stuck
/-- {k: v, ..}, at most 15 of them -/
def dspA (t o : Bool) (xs : List A) (M : Mem) : Out A := match pairA xs with
  | some ps => if ps.length ≤ 15 then (match putAll t [] ps with
    | some kvs => finD o kvs M
    | none => .stuck) else .stuck
  | none => .stuck
/-- pairs -/
def prsA : List A → Option (List (A × A))
  | [] => some []
  | x :: r => match x with
    | .tup [k, v] => (prsA r).map ((k, v) :: ·)
    | _ => none
/-- dict(xs), xs a list of pairs whose keys are tuples -/
def dctOfA (o : Bool) (a : A) (M : Mem) : Out A := match asL M a with
  | some xs => match prsA xs with
    | some ps => if ps.isEmpty = false then (match putAll true [] ps with
      | some kvs => finD o kvs M
      | none => .stuck) else .stuck
    | none => .stuck
  | none => .stuck
/-- the item of a global dict of texts -/
def gixA (l : Option (List (Str × A))) (y : A) (M : Mem) : Out A := match l with
  | some l => match y with
    | .str z => outV (l.lookup z) M
    | _ => .stuck
  | none => .stuck
def revA (o : Bool) (a : A) (M : Mem) : Out A := match asL M a with
  | some xs => finL o xs.reverse M
  | none => .stuck

/-- how many there are in the set of these texts (q), or the set, sorted -/
def setQ (q o : Bool) (a : A) (M : Mem) : Out A := match asL M a with
  | some xs => if (xs.all isStA && decide (xs.length < 64)) = true then (if q = true then .ok (.int (dedS (xs.map strA)).length) M else finL o ((sortS (dedS (xs.map strA))).map .str) M) else .stuck
  | none => .stuck
/-- a comprehension over the items -/
def lcL (f : A → Mem → Out (Option A)) : List A → Mem → Out (List A)
  | [], M => .ok [] M
  | x :: xs, M => (f x M).bind fun r M1 => (lcL f xs M1).bind fun ys M2 => .ok (match r with | some y => y :: ys | none => ys) M2
/-- a comprehension over a list's cell, as the list stands at each turn -/
def lcCL (f : A → Mem → Out (Option A)) (n : Nat) : Nat → Nat → Mem → Out (List A)
  | 0, _, _ => .stuck
  | m + 1, i, M => match M[n]? with
    | some (.lst xs) => match xs[i]? with
      | some x => (f x M).bind fun r M1 => (lcCL f n m (i + 1) M1).bind fun ys M2 => .ok (match r with | some y => y :: ys | none => ys) M2
      | none => .ok [] M
    | _ => .stuck
def forL (f : A → Loc → Mem → Out (Fl × Loc)) : List A → Loc → Mem → Out (Fl × Loc)
  | [], ς, M => .ok (.nxt, ς) M
  | x :: xs, ς, M => (f x ς M).bind fun r M1 => match r.1 with
    | .nxt => forL f xs r.2 M1
    | .cnt => forL f xs r.2 M1
    | .brk => .ok (.nxt, r.2) M1
    | .ret a => .ok (.ret a, r.2) M1
def whileL (c : Loc → Mem → Out Bool) (b : Loc → Mem → Out (Fl × Loc)) : Nat → Loc → Mem → Out (Fl × Loc)
  | 0, _, _ => .stuck
  | n + 1, ς, M => (c ς M).bind fun t M1 => if t = true then (b ς M1).bind (fun r M2 => match r.1 with
    | .nxt => whileL c b n r.2 M2
    | .cnt => whileL c b n r.2 M2
    | .brk => .ok (.nxt, r.2) M2
    | .ret a => .ok (.ret a, r.2) M2) else .ok (.nxt, ς) M1
/-- a for over a list's cell, as the list stands at each turn (en: with the turn's number) -/
def forCL (f : A → Loc → Mem → Out (Fl × Loc)) (n : Nat) (en : Bool) : Nat → Nat → Loc → Mem → Out (Fl × Loc)
  | 0, _, _, _ => .stuck
  | m + 1, i, ς, M => match M[n]? with
    | some (.lst xs) => match xs[i]? with
      | some x => (f (if en = true then .tup [.int (i : Int), x] else x) ς M).bind fun r M1 => match r.1 with
        | .nxt => forCL f n en m (i + 1) r.2 M1
        | .cnt => forCL f n en m (i + 1) r.2 M1
        | .brk => .ok (.nxt, r.2) M1
        | .ret a => .ok (.ret a, r.2) M1
      | none => .ok (.nxt, ς) M
    | _ => .stuck
def rangeA (n : Int) : List A := (List.range n.toNat).map fun (k : Nat) => A.int (k : Int)
def optI (o : Option A) : Option (Option Int) := match o with
  | none => some none
  | some (.int i) => some (some i)
  | _ => none

/-- a dict of texts, built up in the cell n -/
def forU (f : A → Mem → Out Unit) : List A → Mem → Out Unit
  | [], M => .ok () M
  | x :: xs, M => (f x M).bind fun _ M1 => forU f xs M1
def addU (n : Nat) (k : A) (M : Mem) : Out Unit := match k with
  | .str s => match M[n]? with
    | some (.dct kvs) => if kvs.length < sizeLine ∧ (kvs.all fun p => isSA p.1) = true then .ok () (M.set n (.dct (putD kvs (.text s) (.str s) (.bl true)))) else .stuck
    | _ => .stuck
  | _ => .stuck
def keysU (n : Nat) (M : Mem) : Option (List A) := match M[n]? with
  | some (.dct kvs) => if (kvs.all fun p => isSA p.1) = true then some (kvs.map fun p => p.1) else none
  | _ => none
def finU (o : Bool) (n : Nat) (M : Mem) : Out A := match keysU n M with
  | some ks => finL o ks M
  | none => .stuck
/-- a list, built up in the cell n -/
def pushU (n : Nat) (z : A) (M : Mem) : Out Unit := match M[n]? with
  | some (.lst xs) => if xs.length < sizeLine then .ok () (M.set n (.lst (xs ++ [z]))) else .stuck
  | _ => .stuck
def endU (o : Bool) (n : Nat) (M : Mem) : Out A := if o = true then .ok (.ref n) M else frzA (.ref n) M
mutual
def evE (P : Par) : E → Loc → Mem → Out A
  | .var i, ς, M => match ς[i]? with
    | some (some a) => .ok a M
    | _ => .stuck
  | .con c, _, M => match cA c with
    | some a => .ok a M
    | none => .stuck
  | .glob x, _, M => match P.glob x with
    | some a => .ok a M
    | none => .stuck
  | .tup es, ς, M => (evEs P es ς M).bind fun xs M1 => if xs.length ≤ sizeLine then .ok (.tup xs) M1 else .stuck
  | .lst o es, ς, M => (evEs P es ς M).bind fun xs M1 => finL o xs M1
  | .bin o op a b, ς, M => (evE P a ς M).bind fun x M1 => (evE P b ς M1).bind fun y M2 => binA o op x y M2
  | .neg a, ς, M => (evE P a ς M).bind fun x M1 => match x with
    | .int i => .ok (.int (-i)) M1
    | _ => .stuck
  | .cmp op a b, ς, M => (evE P a ς M).bind fun x M1 => (evE P b ς M1).bind fun y M2 => outB (cmpB op x y M2) M2
  | .chain op op' a b c, ς, M => (evE P a ς M).bind fun x M1 => (evE P b ς M1).bind fun y M2 => match cmpB op x y M2 with
    | some true => (evE P c ς M2).bind fun z M3 => outB (cmpB op' y z M3) M3
    | some false => .ok (.bl false) M2
    | none => .stuck
  | .and a b, ς, M => (evE P a ς M).bind fun x M1 => match x with
    | .bl true => evE P b ς M1
    | .bl false => .ok (.bl false) M1
    | _ => .stuck
  | .or a b, ς, M => (evE P a ς M).bind fun x M1 => match x with
    | .bl true => .ok (.bl true) M1
    | .bl false => evE P b ς M1
    | _ => .stuck
  | .not a, ς, M => (evE P a ς M).bind fun x M1 => match x with
    | .bl b => .ok (.bl (!b)) M1
    | _ => .stuck
  | .ite c a b, ς, M => (evT P c ς M).bind fun t M1 => if t = true then evE P a ς M1 else evE P b ς M1
  | .call f es, ς, M => (evEs P es ς M).bind fun xs M1 => P.call f xs M1
  | .blt o f es, ς, M => (evEs P es ς M).bind fun xs M1 => bltA o f xs M1
  | .isi a c, ς, M => (evE P a ς M).bind fun x M1 => outB (isiA x c M1) M1
  | .idx a i, ς, M => (evE P a ς M).bind fun x M1 => (evE P i ς M1).bind fun y M2 => idxA x y M2
  | .slice o a lo hi, ς, M => (evE P a ς M).bind fun x M1 => (evO P lo ς M1).bind fun l M2 => (evO P hi ς M2).bind fun h M3 => sliceA o x l h M3
  | .lc o vs elt tg it ifs, ς, M => (evI P it ς M).bind fun xs M1 => (lcL (fun x M2 => match bindT tg x (wipeA ς vs) with
      | some ς2 => (evTs P ifs ς2 M2).bind fun b M3 => if b = true then (evE P elt ς2 M3).bind fun y M4 => .ok (some y) M4 else .ok none M3
      | none => .stuck) xs M1).noExc.bind fun ys M2 => finL o ys M2
  | .meth m a es, ς, M => (evE P a ς M).bind fun x M1 => if recvOk m x M1 = true then (evEs P es ς M1).bind fun xs M2 => methA m x xs M2 else .stuck
  | .frzv a, ς, M => (evE P a ς M).bind fun x M1 => frzA x M1
  | .dnew, _, M => .ok (.dct []) M
  | .dcell, _, M => .ok (.ref M.length) (M ++ [.dct []])
  | .callK f n ks es kes, ς, M => (evEs P es ς M).bind fun xs M1 => (evEs P kes ς M1).bind fun zs M2 => callKA P f n ks xs zs M2
  | .dsp t o k v kvs, ς, M => (evE P k ς M).bind fun a M1 => (evE P v ς M1).bind fun b M2 => (evEs P kvs ς M2).bind fun xs M3 => dspA t o (a :: b :: xs) M3
  | .rev o a, ς, M => (evE P a ς M).bind fun x M1 => revA o x M1
  | .gix x i, ς, M => (evE P i ς M).bind fun y M1 => gixA (P.gd x) y M1
  | .revT a, ς, M => (evE P a ς M).bind fun x M1 => match x with
    | .tup xs => .ok (.tup xs.reverse) M1
    | _ => .stuck
  | .dctOf o a, ς, M => (evE P a ς M).bind fun x M1 => dctOfA o x M1
  | .lcC o vs elt tg m ifs, ς, M => (evE P m ς M).bind fun x M1 => match x with
    | .ref n => (lcCL (fun x M2 => match bindT tg x (wipeA ς vs) with
      | some ς2 => (evTs P ifs ς2 M2).bind fun b M3 => if b = true then (evE P elt ς2 M3).bind fun y M4 => .ok (some y) M4 else .ok none M3
      | none => .stuck) n P.wf 0 M1).noExc.bind fun ys M2 => finL o ys M2
    | _ => .stuck
  | .uniq o vs vs1 kx tg it tg1 it1 ifs1, ς, M => (evI P it ς M).bind fun xs M1 => (forU (fun x M2 => match bindT tg x (wipeA ς vs) with
      | some ς2 => (evI P it1 ς2 M2).bind fun ys M3 => forU (fun y M4 => match bindT tg1 y (wipeA ς2 vs1) with
        | some ς3 => (evTs P ifs1 ς3 M4).bind fun b M5 => if b = true then (evE P kx ς3 M5).bind fun k M6 => addU M1.length k M6 else .ok () M5
        | none => .stuck) ys M3
      | none => .stuck) xs (M1 ++ [.dct []])).noExc.bind fun _ M2 => finU o M1.length M2
  | .sset o q a, ς, M => (evE P a ς M).bind fun x M1 => setQ q o x M1
  | .ssetC o vs elt tg it ifs, ς, M => (evI P it ς M).bind fun xs M1 => (lcL (fun x M2 => match bindT tg x (wipeA ς vs) with
      | some ς2 => (evTs P ifs ς2 M2).bind fun b M3 => if b = true then (evE P elt ς2 M3).bind fun y M4 => .ok (some y) M4 else .ok none M3
      | none => .stuck) xs M1).noExc.bind fun ys M2 => setQ false o (.lst ys) M2
  | .lc2 o vs vs1 elt tg it ifs tg1 it1 ifs1, ς, M => (evI P it ς M).bind fun xs M1 => (forU (fun x M2 => match bindT tg x (wipeA ς vs) with
      | some ς2 => (evTs P ifs ς2 M2).bind fun b M3 => if b = true then (evI P it1 ς2 M3).bind fun ys M4 => forU (fun y M5 => match bindT tg1 y (wipeA ς2 vs1) with
        | some ς3 => (evTs P ifs1 ς3 M5).bind fun b M6 => if b = true then (evE P elt ς3 M6).bind fun z M7 => pushU M1.length z M7 else .ok () M6
        | none => .stuck) ys M4 else .ok () M3
      | none => .stuck) xs (M1 ++ [.lst []])).noExc.bind fun _ M2 => endU o M1.length M2
def evEs (P : Par) : List E → Loc → Mem → Out (List A)
  | [], _, M => .ok [] M
  | e :: es, ς, M => (evE P e ς M).bind fun x M1 => (evEs P es ς M1).bind fun xs M2 => .ok (x :: xs) M2
/-- as a test -/
def evT (P : Par) : E → Loc → Mem → Out Bool
  | .and a b, ς, M => (evT P a ς M).bind fun t M1 => if t = true then evT P b ς M1 else .ok false M1
  | .or a b, ς, M => (evT P a ς M).bind fun t M1 => if t = true then .ok true M1 else evT P b ς M1
  | .not a, ς, M => (evT P a ς M).bind fun t M1 => .ok (!t) M1
  | .ite c a b, ς, M => (evT P c ς M).bind fun t M1 => if t = true then evT P a ς M1 else evT P b ς M1
  | .cmp op a b, ς, M => (evE P a ς M).bind fun x M1 => (evE P b ς M1).bind fun y M2 => outT (cmpB op x y M2) M2
  | .chain op op' a b c, ς, M => (evE P a ς M).bind fun x M1 => (evE P b ς M1).bind fun y M2 => match cmpB op x y M2 with
    | some true => (evE P c ς M2).bind fun z M3 => outT (cmpB op' y z M3) M3
    | some false => .ok false M2
    | none => .stuck
  | e, ς, M => (evE P e ς M).bind fun x M1 => outT (truA x M1) M1
def evTs (P : Par) : List E → Loc → Mem → Out Bool
  | [], _, M => .ok true M
  | e :: es, ς, M => (evT P e ς M).bind fun t M1 => if t = true then evTs P es ς M1 else .ok false M1
def evO (P : Par) : Option E → Loc → Mem → Out (Option Int)
  | none, _, M => .ok none M
  | some e, ς, M => (evE P e ς M).bind fun x M1 => match x with
    | .int i => .ok (some i) M1
    | _ => .stuck
def evI (P : Par) : It → Loc → Mem → Out (List A)
  | .over e, ς, M => (evE P e ς M).bind fun x M1 => match itemsOf x with
    | some xs => .ok xs M1
    | none => .stuck
  | .range1 e, ς, M => (evE P e ς M).bind fun x M1 => match x with
    | .int n => if -(2 ^ 62) ≤ n ∧ n < 2 ^ 62 then .ok (rangeA n) M1 else .stuck
    | _ => .stuck
  | .enum e, ς, M => (evE P e ς M).bind fun x M1 => match seqItems x with
    | some xs => .ok (enumA 0 xs) M1
    | none => .stuck
end

/-! ### suites -/
mutual
def evH (T : XT) (x : Exc) : HE → Mem → Out A
  | .con c, M => match cA c with
    | some a => .ok a M
    | none => .stuck
  | .fld f, M => match T.cls.lookup x.cls with
    | some (some g) => match x.fld with
      | some (g', a) => if f = g ∧ f = g' then .ok a M else .stuck
      | none => .stuck
    | _ => .stuck
  | .isi c, M => match T.isc.lookup (x.cls, c) with
    | some b => .ok (.bl b) M
    | none => .stuck
  | .not a, M => (evH T x a M).bind fun y M1 => match y with
    | .bl b => .ok (.bl (!b)) M1
    | _ => .stuck
  | .and a b, M => (evH T x a M).bind fun y M1 => match y with
    | .bl true => evH T x b M1
    | .bl false => .ok (.bl false) M1
    | _ => .stuck
  | .or a b, M => (evH T x a M).bind fun y M1 => match y with
    | .bl true => .ok (.bl true) M1
    | .bl false => evH T x b M1
    | _ => .stuck
  | .lst es, M => (evHs T x es M).bind fun xs M1 => finL false xs M1
def evHs (T : XT) (x : Exc) : List HE → Mem → Out (List A)
  | [], M => .ok [] M
  | e :: es, M => (evH T x e M).bind fun y M1 => (evHs T x es M1).bind fun ys M2 => .ok (y :: ys) M2
end
/-- as a test -/
def evHT (T : XT) (x : Exc) : HE → Mem → Out Bool
  | .not a, M => (evHT T x a M).bind fun b M1 => .ok (!b) M1
  | .and a b, M => (evHT T x a M).bind fun t M1 => if t = true then evHT T x b M1 else .ok false M1
  | .or a b, M => (evHT T x a M).bind fun t M1 => if t = true then .ok true M1 else evHT T x b M1
  | .isi c, M => (evH T x (.isi c) M).bind fun y M1 => match y with
    | .bl b => .ok b M1
    | _ => .stuck
  | _, _ => .stuck
mutual
def evHS (T : XT) (x : Exc) : HS → Loc → Mem → Out (Fl × Loc)
  | .asg i e, ς, M => (evH T x e M).bind fun y M1 => .ok (.nxt, ς.set i (some y)) M1
  | .ret e, ς, M => (evH T x e M).bind fun y M1 => .ok (.ret y, ς) M1
  | .ife c a b, ς, M => (evHT T x c M).bind fun t M1 => if t = true then evHSs T x a ς M1 else evHSs T x b ς M1
def evHSs (T : XT) (x : Exc) : List HS → Loc → Mem → Out (Fl × Loc)
  | [], ς, M => .ok (.nxt, ς) M
  | s :: ss, ς, M => (evHS T x s ς M).bind fun r M1 => match r.1 with
    | .nxt => evHSs T x ss r.2 M1
    | _ => .ok r M1
end
def unN (n : Option Nat) (ς : Loc) : Loc := match n with
  | some i => ς.set i none
  | none => ς
/-- the try's one statement behind its expression -/
def tbA (b : TB) (x : A) (ς : Loc) (M : Mem) : Out (Fl × Loc) := match b with
  | .asg i => .ok (.nxt, ς.set i (some x)) M
  | .expr => .ok (.nxt, ς) M
  | .ret => .ok (.ret x, ς) M
/-- the clause -/
def clauseA (T : XT) (c : Str) (n : Option Nat) (hs : List HS) (x : Exc) (ς : Loc) (M : Mem) : Out (Fl × Loc) := match T.exm.lookup (x.cls, c) with
  | some true => (evHSs T x hs (unN n ς) M).bind fun r M1 => .ok (r.1, unN n r.2) M1
  | some false => .exc x M
  | none => .stuck

mutual
def evS (P : Par) : S → Loc → Mem → Out (Fl × Loc)
  | .asg i e, ς, M => (evE P e ς M).bind fun x M1 => .ok (.nxt, ς.set i (some x)) M1
  | .asgT tg e, ς, M => (evE P e ς M).bind fun x M1 => match bindT tg x ς with
    | some ς' => .ok (.nxt, ς') M1
    | none => .stuck
  | .set a i e, ς, M => (evE P e ς M).bind fun x M1 => (evE P a ς M1).bind fun y M2 => (evE P i ς M2).bind fun z M3 => (setA y z x M3).bind fun _ M4 => .ok (.nxt, ς) M4
  | .expr e, ς, M => (evE P e ς M).bind fun _ M1 => .ok (.nxt, ς) M1
  | .ret e, ς, M => (evE P e ς M).bind fun x M1 => .ok (.ret x, ς) M1
  | .retN, ς, M => .ok (.ret .non, ς) M
  | .ife c a b, ς, M => (evT P c ς M).bind fun t M1 => if t = true then evSs P a ς M1 else evSs P b ς M1
  | .forS tg it body, ς, M => (evI P it ς M).bind fun xs M1 => forL (fun x ς1 M2 => match bindT tg x ς1 with
      | some ς2 => evSs P body ς2 M2
      | none => .stuck) xs ς M1
  | .forC en tg e body, ς, M => (evE P e ς M).bind fun x M1 => match x with
    | .ref n => forCL (fun x ς1 M2 => match bindT tg x ς1 with
      | some ς2 => evSs P body ς2 M2
      | none => .stuck) n en P.wf 0 ς M1
    | _ => .stuck
  | .whl c body, ς, M => whileL (fun ς M => evT P c ς M) (fun ς M => evSs P body ς M) P.wf ς M
  | .brk, ς, M => .ok (.brk, ς) M
  | .cnt, ς, M => .ok (.cnt, ς) M
  | .pass, ς, M => .ok (.nxt, ς) M
  | .raise c e, ς, M => match P.xt.cls.lookup c with
    | some (some f) => match e with
      | some e => (evE P e ς M).bind fun x M1 => .exc ⟨c, some (f, x)⟩ M1
      | none => .stuck
    | some none => match e with
      | none => .exc ⟨c, none⟩ M
      | some _ => .stuck
    | none => .stuck
  | .tryE b e c n hs, ς, M => match evE P e ς M with
    | .ok x M1 => tbA b x ς M1
    | .exc x M1 => clauseA P.xt c n hs x ς M1
    | .stuck => .stuck
  | .frz i, ς, M => match ς[i]? with
    | some (some a) => (frzA a M).bind fun x M1 => .ok (.nxt, ς.set i (some x)) M1
    | _ => .ok (.nxt, ς) M
  | .par i j a b, ς, M => (evE P a ς M).bind fun x M1 => (evE P b ς M1).bind fun y M2 => .ok (.nxt, (ς.set i (some x)).set j (some y)) M2
  | .swp a i b j e f, ς, M => (evE P (.tup [e, f]) ς M).bind fun t M1 => match t with
    | .tup xs => match two? xs with
      | some (x, y) => (evE P a ς M1).bind fun p M2 => (evE P i ς M2).bind fun k M3 => (setA p k x M3).bind fun _ M4 =>
        (evE P b ς M4).bind fun q M5 => (evE P j ς M5).bind fun l M6 => (setA q l y M6).bind fun _ M7 => .ok (.nxt, ς) M7
      | none => .stuck
    | _ => .stuck
def evSs (P : Par) : List S → Loc → Mem → Out (Fl × Loc)
  | [], ς, M => .ok (.nxt, ς) M
  | s :: ss, ς, M => (evS P s ς M).bind fun r M1 => match r.1 with
    | .nxt => evSs P ss r.2 M1
    | _ => .ok r M1
end
structure Fn where
  ps : List Str
  ns : List Str
  body : List S
  deriving Inhabited
abbrev Tbl := List (Str × Fn)
def startA (n : Nat) (xs : List A) : Loc := xs.map some ++ List.replicate (n - xs.length) none
def retOf (o : Out (Fl × Loc)) : Out A := o.bind fun r M => match r.1 with
  | .nxt => .ok .non M
  | .ret a => .ok a M
  | _ => .stuck
/-- a program -/
structure Prg where
  wf : Nat
  T : Tbl
  G : Str → Option A
  xt : XT
  kb : KB
  gd : Str → Option (List (Str × A))
def runF (p : Prg) : Nat → Str → List A → Mem → Out A
  | 0, _, _, _ => .stuck
  | k + 1, f, xs, M => match p.T.lookup f with
    | some d => if xs.length = d.ps.length then retOf (evSs ⟨runF p k, p.G, p.wf, p.xt, p.kb, p.gd⟩ d.body (startA d.ns.length xs) M) else .stuck
    | none => .stuck
end MP

/-! MP, part B: how a tree stands in the abstract heap; what an evaluation's end says of it -/
namespace MP
open PySem PySem.Spec PyProof.Rows L2

/-- what is never changed once it is tracked -/
def stab : HO → Bool
  | .tup _ => true
  | .frz _ _ => true
  | .xd _ => true
  | _ => false
/-- from (ρ, H) to (ρ', H'): new cells at new addresses; what is no cell, and what is never changed, stays -/
structure Grow (ρ : List Addr) (H : Hp) (ρ' : List Addr) (H' : Hp) : Prop where
  ad : ∃ t, ρ' = ρ ++ t ∧ ∀ a ∈ t, H a = none
  st : ∀ b o, H b = some o → (b ∉ ρ ∨ stab o = true) → H' b = some o
  th : ∀ b, H b ≠ none → H' b ≠ none
theorem Grow.refl (ρ : List Addr) (H : Hp) : Grow ρ H ρ H := ⟨⟨[], by simp, fun a h => by simp at h⟩, fun _ _ h _ => h, fun _ h => h⟩
theorem Grow.trans {ρ ρ1 ρ2 : List Addr} {H H1 H2 : Hp} (g : Grow ρ H ρ1 H1) (k : Grow ρ1 H1 ρ2 H2) : Grow ρ H ρ2 H2 := by
  obtain ⟨t, rfl, ht⟩ := g.ad
  obtain ⟨u, rfl, hu⟩ := k.ad
  refine ⟨⟨t ++ u, by simp, fun a ha => ?_⟩, fun b o h hb => ?_, fun b h => k.th b (g.th b h)⟩
  · rcases List.mem_append.mp ha with h | h
    · exact ht a h
    · have := hu a h
      cases q : H a with
      | none => rfl
      | some o => exact absurd this (g.th a (by rw [q]; simp))
  · refine k.st b o (g.st b o h hb) ?_
    rcases hb with hb | hb
    · left
      intro hm
      rcases List.mem_append.mp hm with h' | h'
      · exact hb h'
      · rw [ht b h'] at h; cases h
    · exact .inr hb
theorem Grow.get {ρ ρ' : List Addr} {H H' : Hp} (g : Grow ρ H ρ' H') {n : Nat} {a : Addr} (h : ρ[n]? = some a) : ρ'[n]? = some a := by
  obtain ⟨t, rfl, _⟩ := g.ad
  rw [List.getElem?_append_left (List.getElem?_eq_some_iff.mp h).1]; exact h
/-- a new thing is laid at a place of no cell -/
theorem Grow.laid {ρ : List Addr} {H : Hp} {p : Addr} {o : HO} (hp : H p = none) : Grow ρ H ρ (upd H p o) :=
  ⟨⟨[], by simp, fun a h => by simp at h⟩, fun b u h _ => by rw [upd_ne (ne_of_none h hp)]; exact h, fun b h => by
    by_cases e : b = p
    · subst e; exact absurd hp h
    · rw [upd_ne e]; exact h⟩
/-- .. as a cell -/
theorem Grow.cell {ρ : List Addr} {H : Hp} {p : Addr} {o : HO} (hp : H p = none) : Grow ρ H (ρ ++ [p]) (upd H p o) :=
  ⟨⟨[p], rfl, fun a h => by simp at h; subst h; exact hp⟩, (Grow.laid (ρ := ρ) (o := o) hp).st, (Grow.laid (ρ := ρ) (o := o) hp).th⟩
theorem Grow.laid2 {ρ : List Addr} {H : Hp} {p : Addr} {o u : HO} (hp : H p = none) : Grow ρ H ρ (upd (upd H p o) p u) := by
  rw [upd_upd]; exact Grow.laid hp
/-- a cell is written -/
theorem Grow.write {ρ : List Addr} {H : Hp} {p : Addr} {o u : HO} (hm : p ∈ ρ) (ho : H p = some o) (hs : stab o = false) : Grow ρ H ρ (upd H p u) := by
  refine ⟨⟨[], by simp, fun a h => by simp at h⟩, fun b v h hb => ?_, fun b h => ?_⟩
  · rw [upd_ne]
    · exact h
    · rintro rfl
      rcases hb with hb | hb
      · exact hb hm
      · rw [ho] at h
        cases h
        rw [hs] at hb
        exact Bool.noConfusion hb
  · by_cases e : b = p
    · subst e; rw [upd_same]; simp
    · rw [upd_ne e]; exact h

/-- a list that nobody will change -/
def FzL (K : PySem.W.Frag) (H : Hp) (a : Addr) (xs : List V) : Prop :=
  (∃ o, H a = some (.frz o (.lst xs))) ∨
    ∃ (its : Array Value) (n : Nat), K.lookup a = some { cls := .type "list", data := .seq its n } ∧ its.size ≤ sizeLine ∧ Vals xs its.toList
/-- a list that is read -/
def SqX (K : PySem.W.Frag) (H : Hp) (a : Addr) (xs : List V) : Prop :=
  Rd H a (.lst xs) ∨
    ∃ (its : Array Value) (n : Nat), K.lookup a = some { cls := .type "list", data := .seq its n } ∧ its.size ≤ sizeLine ∧ Vals xs its.toList
theorem SqX.of {K : PySem.W.Frag} {H : Hp} {a : Addr} {xs : List V} (h : H a = some (.lst xs)) : SqX K H a xs := .inl (.inl h)
theorem SqX.sq {K : PySem.W.Frag} {H : Hp} {a : Addr} {xs : List V} (h : SqX K H a xs) : SqL K H a xs := by
  rcases h with h | ⟨its, n, h1, h2, h3⟩
  · exact .inl h
  · exact .inr ⟨_, its, n, h1, rfl, rfl, rfl, h2, h3⟩
theorem Inv.listX {X : Cx} {pins : List (Addr × Obj)} {σ : L2.St} {H : Hp} {s : Shared} {a : Addr} {xs : List V} (I : Inv X pins σ H s) (h : SqX X.K H a xs) : ∃ (its : List Value) (n : Nat), Vals xs its ∧ s.heap.get? a = some { cls := .type "list", data := .seq its.toArray n } ∧ xs.length ≤ sizeLine := by
  rcases h with h | ⟨its, n, h1, h2, h3⟩
  · obtain ⟨z, its, n, r, e⟩ := h.ok I.hok
    exact ⟨its, n, r, e, z⟩
  · refine ⟨its.toList, n, h3, ?_, ?_⟩
    · have := I.kIn a _ h1
      simpa using this
    · have e := h3.length
      simp only [Array.length_toList] at e
      omega
theorem FzL.sx {K : PySem.W.Frag} {H : Hp} {a : Addr} {xs : List V} (h : FzL K H a xs) : SqX K H a xs := by
  rcases h with h | h
  · exact .inl (.inr h)
  · exact .inr h
theorem FzL.sq {K : PySem.W.Frag} {H : Hp} {a : Addr} {xs : List V} (h : FzL K H a xs) : SqL K H a xs := by
  exact h.sx.sq
theorem FzL.mono {K : PySem.W.Frag} {ρ ρ' : List Addr} {H H' : Hp} {a : Addr} {xs : List V} (g : Grow ρ H ρ' H') (h : FzL K H a xs) : FzL K H' a xs := by
  rcases h with ⟨o, h⟩ | h
  · exact .inl ⟨o, g.st _ _ h (.inr rfl)⟩
  · exact .inr h
theorem SqT.mono {K : PySem.W.Frag} {ρ ρ' : List Addr} {H H' : Hp} {a : Addr} {xs : List V} (g : Grow ρ H ρ' H') (h : SqT K H a xs) : SqT K H' a xs := by
  rcases h with (h | ⟨o, h⟩) | h
  · exact .inl (.inl (g.st _ _ h (.inr rfl)))
  · exact .inl (.inr ⟨o, g.st _ _ h (.inr rfl)⟩)
  · exact .inr h

/-- whose hashes -/
class WLD where
  P : Program
  w : World
variable [WLD]
/-- the dict at a has these entries -/
def DctAt (a : Addr) (xs : List (NestedKey × Addr × Value)) (h : Heap) : Prop := ∃ o es ep, h.get? a = some o ∧ o.ExactDict ∧ o.data = .dict es ep ∧ es.toList = xs.map (entryOfKey (nestedKind WLD.P WLD.w)) ∧ (xs.map (·.1)).Nodup
theorem szK : ∀ l : List (A × A), sizeOf (l.map (·.1)) ≤ sizeOf l ∧ sizeOf (l.map (·.2)) ≤ sizeOf l
  | [] => ⟨Nat.le_refl _, Nat.le_refl _⟩
  | (a, b) :: l => by
    have ih := szK l
    simp only [List.map_cons, List.cons.sizeOf_spec, Prod.mk.sizeOf_spec]
    omega
/-- a dict's entries by their keys' and values' own values -/
def DcO (a : Addr) (kvs : List (A × A)) (ks us : List V) (u : HO) : Prop :=
  (∃ vs : List (L2.Key × V), u = .dK vs ∧ kvs.map (fun p => keyA p.1) = vs.map (fun q => some q.1) ∧ ks = vs.map (fun q => kV q.1) ∧ us = vs.map (·.2)) ∨
    ∃ xs : List (NestedKey × Addr × Value), u = .ext (DctAt a xs) ∧ (a == sysModules) = false ∧ kvs.length ≤ sizeLine ∧ kvs.map (fun p => toNK p.1) = xs.map (fun q => some q.1) ∧ (∀ q ∈ xs, q.1.depth ≤ 8) ∧ ks = xs.map (fun q => .ref q.2.1) ∧ Vals us (xs.map (·.2.2))
mutual
inductive Rep (K : PySem.W.Frag) (ρ : List Addr) (H : Hp) : A → V → Prop
  | non : Rep K ρ H .non .non
  | bl (b : Bool) : Rep K ρ H (.bl b) (.bl b)
  | int (i : Int) : Rep K ρ H (.int i) (.int i)
  | str (x : Str) : Rep K ρ H (.str x) (.str x)
  | tup {a : Addr} {xs : List A} {vs : List V} : SqT K H a vs → RepAll K ρ H xs vs → Rep K ρ H (.tup xs) (.ref a)
  | lst {a : Addr} {xs : List A} {vs : List V} : FzL K H a vs → RepAll K ρ H xs vs → Rep K ρ H (.lst xs) (.ref a)
  | dct {a : Addr} {o : Obj} : H a = some (.frz o (.dK [])) → Rep K ρ H (.dct []) (.ref a)
  | dctN {a : Addr} {o : Obj} {u : HO} {p : A × A} {kvs : List (A × A)} {ks us : List V} : H a = some (.frz o u) → DcO a (p :: kvs) ks us u → RepAll K ρ H ((p :: kvs).map (·.1)) ks → RepAll K ρ H ((p :: kvs).map (·.2)) us → Rep K ρ H (.dct (p :: kvs)) (.ref a)
  | ref {a : Addr} {n : Nat} : ρ[n]? = some a → Rep K ρ H (.ref n) (.ref a)
inductive RepAll (K : PySem.W.Frag) (ρ : List Addr) (H : Hp) : List A → List V → Prop
  | nil : RepAll K ρ H [] []
  | cons {x : A} {v : V} {xs : List A} {vs : List V} : Rep K ρ H x v → RepAll K ρ H xs vs → RepAll K ρ H (x :: xs) (v :: vs)
end
section
variable {K : PySem.W.Frag} {ρ ρ' : List Addr} {H H' : Hp}
mutual
theorem Rep.mono (g : Grow ρ H ρ' H') : ∀ {x : A} {v : V}, Rep K ρ H x v → Rep K ρ' H' x v
  | _, _, .non => .non
  | _, _, .bl b => .bl b
  | _, _, .int i => .int i
  | _, _, .str s => .str s
  | _, _, .tup h r => .tup (SqT.mono g h) (RepAll.mono g r)
  | _, _, .lst h r => .lst (h.mono g) (RepAll.mono g r)
  | _, _, .dct h => .dct (g.st _ _ h (.inr rfl))
  | _, _, .dctN h d r1 r2 => .dctN (g.st _ _ h (.inr rfl)) d (RepAll.mono g r1) (RepAll.mono g r2)
  | _, _, .ref h => .ref (g.get h)
theorem RepAll.mono (g : Grow ρ H ρ' H') : ∀ {xs : List A} {vs : List V}, RepAll K ρ H xs vs → RepAll K ρ' H' xs vs
  | _, _, .nil => .nil
  | _, _, .cons h r => .cons (Rep.mono g h) (RepAll.mono g r)
end
theorem RepAll.length : ∀ {xs : List A} {vs : List V}, RepAll K ρ H xs vs → xs.length = vs.length
  | _, _, .nil => rfl
  | _, _, .cons _ r => by simp [r.length]
theorem RepAll.get : ∀ {xs : List A} {vs : List V} {i : Nat} {x : A}, RepAll K ρ H xs vs → xs[i]? = some x → ∃ v, vs[i]? = some v ∧ Rep K ρ H x v
  | _, _, _, _, .nil, e => by simp at e
  | _, _, 0, _, .cons h _, e => by simp at e; subst e; exact ⟨_, rfl, h⟩
  | _, _, i + 1, x, .cons _ r, e => by
    obtain ⟨v, h1, h2⟩ := r.get (i := i) (x := x) (by simpa using e)
    exact ⟨v, by simpa using h1, h2⟩
theorem RepAll.getV : ∀ {xs : List A} {vs : List V} {i : Nat} {v : V}, RepAll K ρ H xs vs → vs[i]? = some v → ∃ x, xs[i]? = some x ∧ Rep K ρ H x v
  | _, _, _, _, .nil, e => by simp at e
  | _, _, 0, _, .cons h _, e => by simp at e; subst e; exact ⟨_, rfl, h⟩
  | _, _, i + 1, v, .cons _ r, e => by
    obtain ⟨x, h1, h2⟩ := r.getV (i := i) (v := v) (by simpa using e)
    exact ⟨x, by simpa using h1, h2⟩
theorem RepAll.append : ∀ {xs ys : List A} {vs ws : List V}, RepAll K ρ H xs vs → RepAll K ρ H ys ws → RepAll K ρ H (xs ++ ys) (vs ++ ws)
  | _, _, _, _, .nil, s => s
  | _, _, _, _, .cons h r, s => .cons h (r.append s)
theorem RepAll.take : ∀ {xs : List A} {vs : List V} (n : Nat), RepAll K ρ H xs vs → RepAll K ρ H (xs.take n) (vs.take n)
  | _, _, 0, _ => .nil
  | _, _, _ + 1, .nil => .nil
  | _, _, n + 1, .cons h r => .cons h (RepAll.take n r)
theorem RepAll.drop : ∀ {xs : List A} {vs : List V} (n : Nat), RepAll K ρ H xs vs → RepAll K ρ H (xs.drop n) (vs.drop n)
  | _, _, 0, r => r
  | _, _, _ + 1, .nil => .nil
  | _, _, n + 1, .cons _ r => RepAll.drop n r
theorem RepAll.set {x : A} {v : V} (h : Rep K ρ H x v) : ∀ {xs : List A} {vs : List V} (i : Nat), RepAll K ρ H xs vs → RepAll K ρ H (xs.set i x) (vs.set i v)
  | _, _, _, .nil => .nil
  | _, _, 0, .cons _ r => .cons h r
  | _, _, i + 1, .cons q r => .cons q (RepAll.set h i r)

/-- an entry stands -/
structure KRep (K : PySem.W.Frag) (ρ : List Addr) (H : Hp) (p : A × A) (q : NestedKey × Addr × Value) : Prop where
  k : toNK p.1 = some q.1
  d : q.1.depth ≤ 8
  r : Rep K ρ H p.1 (.ref q.2.1)
  v : ∃ v, RelV v q.2.2 ∧ Rep K ρ H p.2 v
theorem KRep.map {K : PySem.W.Frag} {ρ ρ' : List Addr} {H H' : Hp} (f : ∀ {x v}, Rep K ρ H x v → Rep K ρ' H' x v) {p : A × A} {q : NestedKey × Addr × Value} (h : KRep K ρ H p q) : KRep K ρ' H' p q :=
  ⟨h.k, h.d, f h.r, h.v.imp fun _ z => ⟨z.1, f z.2⟩⟩
/-- an entry of a dict of texts and ints stands -/
def SRep (K : PySem.W.Frag) (ρ : List Addr) (H : Hp) (p : A × A) (q : L2.Key × V) : Prop := keyA p.1 = some q.1 ∧ Rep K ρ H p.2 q.2
/-- u is a dict's thing at a, these its entries -/
def DD (K : PySem.W.Frag) (ρ : List Addr) (H : Hp) (kvs : List (A × A)) (a : Addr) (u : HO) : Prop :=
  (∃ xs, kvs ≠ [] ∧ u = .ext (DctAt a xs) ∧ (a == sysModules) = false ∧ kvs.length ≤ sizeLine ∧ Paired (KRep K ρ H) kvs xs) ∨ ∃ vs, u = .dK vs ∧ Paired (SRep K ρ H) kvs vs
theorem DD.map {K : PySem.W.Frag} {ρ ρ' : List Addr} {H H' : Hp} (f : ∀ {x v}, Rep K ρ H x v → Rep K ρ' H' x v) {kvs : List (A × A)} {a : Addr} {u : HO} (d : DD K ρ H kvs a u) : DD K ρ' H' kvs a u := by
  rcases d with ⟨xs, h0, h1, h2, h3, h4⟩ | ⟨vs, h1, h4⟩
  · exact .inl ⟨xs, h0, h1, h2, h3, L2.Paired.mapP h4 fun _ _ h => h.map f⟩
  · exact .inr ⟨vs, h1, L2.Paired.mapP h4 fun _ _ h => ⟨h.1, f h.2⟩⟩
theorem DD.stab {K : PySem.W.Frag} {ρ : List Addr} {H : Hp} {kvs : List (A × A)} {a : Addr} {u : HO} (d : DD K ρ H kvs a u) : stab u = false := by
  rcases d with ⟨xs, _, rfl, _⟩ | ⟨vs, rfl, _⟩ <;> rfl
theorem keyA_v {K : PySem.W.Frag} {ρ : List Addr} {H : Hp} {x : A} {k : L2.Key} (h : keyA x = some k) : Rep K ρ H x (kV k) := by
  cases x <;> cases h
  · exact .int _
  · exact .str _
/-- a dict that nobody will change, from its entries -/
theorem DD.tree {K : PySem.W.Frag} {ρ : List Addr} {H : Hp} {kvs : List (A × A)} {a : Addr} {u : HO} {o : Obj} (h : H a = some (.frz o u)) (d : DD K ρ H kvs a u) (h0 : kvs ≠ []) : Rep K ρ H (.dct kvs) (.ref a) := by
  cases kvs with
  | nil => exact absurd rfl h0
  | cons p r =>
    rcases d with ⟨xs, _, h1, h2, h3, h4⟩ | ⟨vs, h1, h4⟩
    · have q : ∀ {l : List (A × A)} {ys : List (NestedKey × Addr × Value)}, Paired (KRep K ρ H) l ys → ∃ us, l.map (fun p => toNK p.1) = ys.map (fun q => some q.1) ∧ (∀ q ∈ ys, q.1.depth ≤ 8) ∧ RepAll K ρ H (l.map (·.1)) (ys.map fun q => .ref q.2.1) ∧ RepAll K ρ H (l.map (·.2)) us ∧ Vals us (ys.map (·.2.2)) := by
        intro l ys q
        induction q with
        | nil => exact ⟨[], rfl, fun _ h => absurd h (by simp), .nil, .nil, .nil⟩
        | cons h _ ih =>
          obtain ⟨us, e1, e2, e3, e4, e5⟩ := ih
          obtain ⟨v, w1, w2⟩ := h.v
          refine ⟨v :: us, by simp only [List.map_cons, e1, h.k], fun q hq => ?_, .cons h.r e3, .cons w2 e4, .cons w1 e5⟩
          rcases List.mem_cons.mp hq with rfl | hq
          · exact h.d
          · exact e2 q hq
      obtain ⟨us, e1, e2, e3, e4, e5⟩ := q h4
      exact .dctN h (.inr ⟨xs, h1, h2, h3, e1, e2, rfl, e5⟩) e3 e4
    · have q : ∀ {l : List (A × A)} {ys : List (L2.Key × V)}, Paired (SRep K ρ H) l ys → l.map (fun p => keyA p.1) = ys.map (fun q => some q.1) ∧ RepAll K ρ H (l.map (·.1)) (ys.map fun q => kV q.1) ∧ RepAll K ρ H (l.map (·.2)) (ys.map (·.2)) := by
        intro l ys q
        induction q with
        | nil => exact ⟨rfl, .nil, .nil⟩
        | cons h _ ih =>
          obtain ⟨e1, e2, e3⟩ := ih
          exact ⟨by simp only [List.map_cons, e1, h.1], .cons (keyA_v h.1) e2, .cons h.2 e3⟩
      obtain ⟨e1, e2, e3⟩ := q h4
      exact .dctN h (.inl ⟨vs, h1, e1, rfl, rfl⟩) e2 e3
theorem DD.treeE {K : PySem.W.Frag} {ρ : List Addr} {H : Hp} {kvs : List (A × A)} {a : Addr} {u : HO} {o : Obj} (d : DD K ρ H kvs a u) (h : H a = some (.frz o u)) (h1 : kvs = [] → ∃ o, H a = some (.frz o (.dK []))) : Rep K ρ H (.dct kvs) (.ref a) := by
  cases kvs with
  | nil => obtain ⟨o, h⟩ := h1 rfl; exact .dct h
  | cons p r => exact DD.tree h d (by simp)
theorem DD.ofDcO {K : PySem.W.Frag} {ρ : List Addr} {H : Hp} {kvs : List (A × A)} {a : Addr} {u : HO} {ks us : List V} (hne : kvs ≠ []) (d : DcO a kvs ks us u) (r1 : RepAll K ρ H (kvs.map (·.1)) ks) (r2 : RepAll K ρ H (kvs.map (·.2)) us) : DD K ρ H kvs a u := by
  rcases d with ⟨vs, h1, h2, rfl, rfl⟩ | ⟨xs, h1, h2, h3, h4, h5, rfl, h6⟩
  · refine .inr ⟨vs, h1, ?_⟩
    have q : ∀ (l : List (A × A)) (ys : List (L2.Key × V)), l.map (fun p => keyA p.1) = ys.map (fun q => some q.1) → RepAll K ρ H (l.map (·.2)) (ys.map (·.2)) → Paired (SRep K ρ H) l ys := by
      intro l
      induction l with
      | nil => intro ys e _; cases ys with
        | nil => exact .nil
        | cons _ _ => simp at e
      | cons p l ih => intro ys e r; cases ys with
        | nil => simp at e
        | cons q ys =>
          simp only [List.map_cons, List.cons.injEq] at e
          cases r with
          | cons r1 r2 => exact .cons ⟨e.1, r1⟩ (ih ys e.2 r2)
    exact q kvs vs h2 r2
  · refine .inl ⟨xs, hne, h1, h2, h3, ?_⟩
    have q : ∀ (l : List (A × A)) (ys : List (NestedKey × Addr × Value)) (us : List V), l.map (fun p => toNK p.1) = ys.map (fun q => some q.1) → (∀ q ∈ ys, q.1.depth ≤ 8) → RepAll K ρ H (l.map (·.1)) (ys.map fun q => .ref q.2.1) → RepAll K ρ H (l.map (·.2)) us → Vals us (ys.map (·.2.2)) → Paired (KRep K ρ H) l ys := by
      intro l
      induction l with
      | nil => intro ys us e _ _ _ _; cases ys with
        | nil => exact .nil
        | cons _ _ => simp at e
      | cons p l ih => intro ys us e d r1 r2 v; cases ys with
        | nil => simp at e
        | cons q ys =>
          simp only [List.map_cons, List.cons.injEq] at e
          cases r1 with
          | cons r1 r1' =>
            cases r2 with
            | cons r2 r2' =>
              cases v with
              | cons v v' => exact .cons ⟨e.1, d q List.mem_cons_self, r1, _, v, r2⟩ (ih ys _ e.2 (fun q hq => d q (List.mem_cons_of_mem _ hq)) r1' r2' v')
    exact q kvs xs us h4 h5 r1 r2 h6
def CellRep (K : PySem.W.Frag) (ρ : List Addr) (H : Hp) (a : Addr) : Cell → Prop
  | .lst xs => ∃ vs, H a = some (.lst vs) ∧ RepAll K ρ H xs vs
  | .dct kvs => ∃ u, H a = some u ∧ DD K ρ H kvs a u
  | .dead => True
/-- the cells -/
structure RepM (K : PySem.W.Frag) (ρ : List Addr) (H : Hp) (M : Mem) : Prop where
  len : ρ.length = M.length
  nd : ρ.Nodup
  th : ∀ a ∈ ρ, H a ≠ none
  cell : ∀ (n : Nat) (c : Cell) (a : Addr), M[n]? = some c → ρ[n]? = some a → CellRep K ρ H a c
/-- the names -/
def RepS (K : PySem.W.Frag) (ρ : List Addr) (H : Hp) (ς : Loc) (σ : L2.St) : Prop :=
  ς.length = σ.length ∧ ∀ (i : Nat) (x : A), ς[i]? = some (some x) → ∃ v, σ[i]? = some (some v) ∧ Rep K ρ H x v
theorem RepS.mono {ς : Loc} {σ : L2.St} (g : Grow ρ H ρ' H') (h : RepS K ρ H ς σ) : RepS K ρ' H' ς σ :=
  ⟨h.1, fun i x e => let ⟨v, a, b⟩ := h.2 i x e; ⟨v, a, b.mono g⟩⟩
theorem RepS.set {ς : Loc} {σ : L2.St} {i : Nat} {x : A} {v : V} (h : RepS K ρ H ς σ) (r : Rep K ρ H x v) : RepS K ρ H (ς.set i (some x)) (σ.set i (some v)) := by
  refine ⟨by simp [h.1], fun j y e => ?_⟩
  by_cases hj : j = i
  · subst hj
    have hl : j < ς.length := by
      have := (List.getElem?_eq_some_iff.mp e).1
      simpa using this
    rw [List.getElem?_set_self hl] at e
    cases e
    exact ⟨v, by rw [List.getElem?_set_self (by rw [← h.1]; exact hl)], r⟩
  · rw [List.getElem?_set_ne (Ne.symm hj)] at e
    obtain ⟨w, a, b⟩ := h.2 j y e
    exact ⟨w, by rw [List.getElem?_set_ne (Ne.symm hj)]; exact a, b⟩
theorem RepS.unset {ς : Loc} {σ : L2.St} {i : Nat} (h : RepS K ρ H ς σ) : RepS K ρ H (ς.set i none) (σ.set i none) := by
  refine ⟨by simp [h.1], fun j y e => ?_⟩
  by_cases hj : j = i
  · subst hj
    have hl : j < ς.length := by
      have := (List.getElem?_eq_some_iff.mp e).1
      simpa using this
    rw [List.getElem?_set_self hl] at e
    cases e
  · rw [List.getElem?_set_ne (Ne.symm hj)] at e
    obtain ⟨w, a, b⟩ := h.2 j y e
    exact ⟨w, by rw [List.getElem?_set_ne (Ne.symm hj)]; exact a, b⟩
theorem RepS.wipe {ς : Loc} {σ : L2.St} (h : RepS K ρ H ς σ) : ∀ vs : List Nat, RepS K ρ H (wipeA ς vs) (wipe σ vs)
  | [] => h
  | v :: vs => (RepS.wipe h vs).unset
/-- the cells stay where something that is no cell is laid -/
theorem RepM.laid {M : Mem} {p : Addr} {o : HO} (m : RepM K ρ H M) (hp : H p = none) : RepM K ρ (upd H p o) M := by
  have g : Grow ρ H ρ (upd H p o) := Grow.laid hp
  refine ⟨m.len, m.nd, fun a ha => g.th a (m.th a ha), fun n c a h1 h2 => ?_⟩
  have hc := m.cell n c a h1 h2
  have ha : a ≠ p := fun e => m.th a (List.mem_of_getElem? h2) (by rw [e]; exact hp)
  cases c with
  | lst xs =>
    obtain ⟨vs, e, r⟩ := hc
    exact ⟨vs, by rw [upd_ne ha]; exact e, r.mono g⟩
  | dct kvs =>
    obtain ⟨xs, e, q⟩ := hc
    exact ⟨xs, by rw [upd_ne ha]; exact e, q.map fun {x v} h => h.mono g⟩
  | dead => trivial
theorem RepM.laid2 {M : Mem} {p : Addr} {o u : HO} (m : RepM K ρ H M) (hp : H p = none) : RepM K ρ (upd (upd H p o) p u) M := by
  rw [upd_upd]; exact m.laid hp
/-- a place of no cell is changed -/
theorem RepM.other {M : Mem} {p : Addr} {o u : HO} (m : RepM K ρ H M) (hp : p ∉ ρ) (ho : H p = some o) (hs : stab o = false) : RepM K ρ (upd H p u) M ∧ ∀ {x v}, Rep K ρ H x v → Rep K ρ (upd H p u) x v := by
  have kt : ∀ {a vs}, SqT K H a vs → SqT K (upd H p u) a vs := fun {a vs} h => by
    rcases h with (h | ⟨w, h⟩) | h
    · exact .inl (.inl (by rw [upd_ne]; exact h; rintro rfl; rw [ho] at h; cases h; cases hs))
    · exact .inl (.inr ⟨w, by rw [upd_ne]; exact h; rintro rfl; rw [ho] at h; cases h; cases hs⟩)
    · exact .inr h
  have kl : ∀ {a vs}, FzL K H a vs → FzL K (upd H p u) a vs := fun {a vs} h => by
    rcases h with ⟨w, h⟩ | h
    · exact .inl ⟨w, by rw [upd_ne]; exact h; rintro rfl; rw [ho] at h; cases h; cases hs⟩
    · exact .inr h
  have ka : ∀ n : Nat, (∀ {x v}, sizeOf x < n → Rep K ρ H x v → Rep K ρ (upd H p u) x v) ∧ (∀ {xs vs}, sizeOf xs < n → RepAll K ρ H xs vs → RepAll K ρ (upd H p u) xs vs) := by
    intro n
    induction n with
    | zero => exact ⟨fun h => absurd h (Nat.not_lt_zero _), fun h => absurd h (Nat.not_lt_zero _)⟩
    | succ n ih =>
      refine ⟨fun {x v} hn h => ?_, fun {xs vs} hn h => ?_⟩
      · cases h with
        | non => exact .non
        | bl b => exact .bl b
        | int i => exact .int i
        | str s => exact .str s
        | tup h r => exact .tup (kt h) (ih.2 (by simp at hn; omega) r)
        | lst h r => exact .lst (kl h) (ih.2 (by simp at hn; omega) r)
        | dct h => exact .dct (by rw [upd_ne]; exact h; rintro rfl; rw [ho] at h; cases h; cases hs)
        | dctN h d r1 r2 => exact .dctN (by rw [upd_ne]; exact h; rintro rfl; rw [ho] at h; cases h; cases hs) d (ih.2 (Nat.lt_of_le_of_lt (szK _).1 (by simp only [A.dct.sizeOf_spec] at hn; omega)) r1) (ih.2 (Nat.lt_of_le_of_lt (szK _).2 (by simp only [A.dct.sizeOf_spec] at hn; omega)) r2)
        | ref h => exact .ref h
      · cases h with
        | nil => exact .nil
        | cons h r => exact .cons (ih.1 (by simp at hn; omega) h) (ih.2 (by simp at hn; omega) r)
  refine ⟨⟨m.len, m.nd, fun a ha => ?_, fun n c a h1 h2 => ?_⟩, fun {x v} h => (ka (sizeOf x + 1)).1 (Nat.lt_succ_self _) h⟩
  · rw [upd_ne (fun e : a = p => hp (by rw [← e]; exact ha))]; exact m.th a ha
  · have hc := m.cell n c a h1 h2
    have ha : a ≠ p := fun e => hp (by rw [← e]; exact List.mem_of_getElem? h2)
    cases c with
    | lst xs =>
      obtain ⟨vs, e, r⟩ := hc
      exact ⟨vs, by rw [upd_ne ha]; exact e, (ka (sizeOf xs + 1)).2 (Nat.lt_succ_self _) r⟩
    | dct kvs =>
      obtain ⟨xs, e, q⟩ := hc
      exact ⟨xs, by rw [upd_ne ha]; exact e, q.map fun {x v} h => (ka (sizeOf x + 1)).1 (Nat.lt_succ_self _) h⟩
    | dead => trivial
/-- a new cell -/
theorem RepM.cellNew {M : Mem} {p : Addr} {xs : List A} {vs : List V} (m : RepM K ρ H M) (hp : H p = none) (r : RepAll K ρ H xs vs) : RepM K (ρ ++ [p]) (upd H p (.lst vs)) (M ++ [.lst xs]) := by
  have g : Grow ρ H (ρ ++ [p]) (upd H p (.lst vs)) := Grow.cell hp
  have hnp : p ∉ ρ := fun h => m.th p h hp
  refine ⟨by simp [m.len], ?_, fun a ha => ?_, fun n c a h1 h2 => ?_⟩
  · rw [List.nodup_append]
    exact ⟨m.nd, by simp, fun a ha b hb e => by simp at hb; subst hb; subst e; exact hnp ha⟩
  · rcases List.mem_append.mp ha with h | h
    · exact g.th a (m.th a h)
    · simp at h; subst h; rw [upd_same]; simp
  · by_cases hn : n < M.length
    · rw [List.getElem?_append_left hn] at h1
      rw [List.getElem?_append_left (by rw [m.len]; exact hn)] at h2
      have hc := m.cell n c a h1 h2
      have ha : a ≠ p := fun e => hnp (by rw [← e]; exact List.mem_of_getElem? h2)
      cases c with
      | lst xs =>
        obtain ⟨vs, e, r⟩ := hc
        exact ⟨vs, by rw [upd_ne ha]; exact e, r.mono g⟩
      | dct kvs =>
        obtain ⟨xs, e, q⟩ := hc
        exact ⟨xs, by rw [upd_ne ha]; exact e, q.map fun {x v} h => h.mono g⟩
      | dead => trivial
    · rw [List.getElem?_append_right (Nat.le_of_not_lt hn)] at h1
      rw [List.getElem?_append_right (by rw [m.len]; exact Nat.le_of_not_lt hn), m.len] at h2
      cases hk : n - M.length with
      | zero =>
        rw [hk] at h1 h2
        simp at h1 h2
        subst h1 h2
        exact ⟨vs, upd_same, r.mono g⟩
      | succ k => rw [hk] at h1; simp at h1
/-- a cell's list is changed -/
theorem RepM.cellSet {M : Mem} {n : Nat} {p : Addr} {xs : List A} {vs0 vs : List V} (m : RepM K ρ H M) (hn : ρ[n]? = some p) (h0 : H p = some (.lst vs0)) (r : RepAll K ρ H xs vs) : RepM K ρ (upd H p (.lst vs)) (M.set n (.lst xs)) := by
  have g : Grow ρ H ρ (upd H p (.lst vs)) := Grow.write (List.mem_of_getElem? hn) h0 rfl
  refine ⟨by simp [m.len], m.nd, fun a ha => g.th a (m.th a ha), fun j c a h1 h2 => ?_⟩
  by_cases hj : j = n
  · subst hj
    rw [hn] at h2; cases h2
    have hl : j < M.length := by rw [← m.len]; exact (List.getElem?_eq_some_iff.mp hn).1
    rw [List.getElem?_set_self hl] at h1
    cases h1
    exact ⟨vs, upd_same, r.mono g⟩
  · rw [List.getElem?_set_ne (Ne.symm hj)] at h1
    have hc := m.cell j c a h1 h2
    have ha : a ≠ p := fun e => by
      subst e
      exact hj (nodup_ixA m.nd h2 hn)
    cases c with
    | lst xs =>
      obtain ⟨ws, e, r⟩ := hc
      exact ⟨ws, by rw [upd_ne ha]; exact e, r.mono g⟩
    | dct kvs =>
      obtain ⟨xs, e, q⟩ := hc
      exact ⟨xs, by rw [upd_ne ha]; exact e, q.map fun {x v} h => h.mono g⟩
    | dead => trivial
where
  nodup_ixA {l : List Addr} (hN : l.Nodup) {i j : Nat} {x : Addr} (a : l[i]? = some x) (b : l[j]? = some x) : i = j := by
    obtain ⟨h1, e1⟩ := List.getElem?_eq_some_iff.mp a
    obtain ⟨h2, e2⟩ := List.getElem?_eq_some_iff.mp b
    exact (List.getElem_inj hN).mp (e1.trans e2.symm)
/-- a cell is given over -/
theorem RepM.cellFrz {M : Mem} {n : Nat} {p : Addr} {o : Obj} {vs : List V} (m : RepM K ρ H M) (hn : ρ[n]? = some p) (h0 : H p = some (.lst vs)) : RepM K ρ (upd H p (.frz o (.lst vs))) (M.set n .dead) := by
  have g : Grow ρ H ρ (upd H p (.frz o (.lst vs))) := Grow.write (List.mem_of_getElem? hn) h0 rfl
  refine ⟨by simp [m.len], m.nd, fun a ha => g.th a (m.th a ha), fun j c a h1 h2 => ?_⟩
  by_cases hj : j = n
  · subst hj
    have hl : j < M.length := by rw [← m.len]; exact (List.getElem?_eq_some_iff.mp hn).1
    rw [List.getElem?_set_self hl] at h1
    cases h1
    trivial
  · rw [List.getElem?_set_ne (Ne.symm hj)] at h1
    have hc := m.cell j c a h1 h2
    have ha : a ≠ p := fun e => by
      subst e
      exact hj (RepM.cellSet.nodup_ixA m.nd h2 hn)
    cases c with
    | lst xs =>
      obtain ⟨ws, e, r⟩ := hc
      exact ⟨ws, by rw [upd_ne ha]; exact e, r.mono g⟩
    | dct kvs =>
      obtain ⟨xs, e, q⟩ := hc
      exact ⟨xs, by rw [upd_ne ha]; exact e, q.map fun {x v} h => h.mono g⟩
    | dead => trivial
/-- a new cell: any -/
theorem RepM.cellNewO {M : Mem} {p : Addr} {u : HO} {c0 : Cell} (m : RepM K ρ H M) (hp : H p = none) (r : CellRep K (ρ ++ [p]) (upd H p u) p c0) : RepM K (ρ ++ [p]) (upd H p u) (M ++ [c0]) := by
  have g : Grow ρ H (ρ ++ [p]) (upd H p u) := Grow.cell hp
  have hnp : p ∉ ρ := fun h => m.th p h hp
  refine ⟨by simp [m.len], ?_, fun a ha => ?_, fun n c a h1 h2 => ?_⟩
  · rw [List.nodup_append]
    exact ⟨m.nd, by simp, fun a ha b hb e => by simp at hb; subst hb; subst e; exact hnp ha⟩
  · rcases List.mem_append.mp ha with h | h
    · exact g.th a (m.th a h)
    · simp at h; subst h; rw [upd_same]; simp
  · by_cases hn : n < M.length
    · rw [List.getElem?_append_left hn] at h1
      rw [List.getElem?_append_left (by rw [m.len]; exact hn)] at h2
      have hc := m.cell n c a h1 h2
      have ha : a ≠ p := fun e => hnp (by rw [← e]; exact List.mem_of_getElem? h2)
      cases c with
      | lst xs =>
        obtain ⟨vs, e, r⟩ := hc
        exact ⟨vs, by rw [upd_ne ha]; exact e, r.mono g⟩
      | dct kvs =>
        obtain ⟨xs, e, q⟩ := hc
        exact ⟨xs, by rw [upd_ne ha]; exact e, q.map fun {x v} h => h.mono g⟩
      | dead => trivial
    · rw [List.getElem?_append_right (Nat.le_of_not_lt hn)] at h1
      rw [List.getElem?_append_right (by rw [m.len]; exact Nat.le_of_not_lt hn), m.len] at h2
      cases hk : n - M.length with
      | zero =>
        rw [hk] at h1 h2
        simp at h1 h2
        subst h1 h2
        exact r
      | succ k => rw [hk] at h1; simp at h1
/-- a cell is changed: any -/
theorem RepM.cellSetO {M : Mem} {n : Nat} {p : Addr} {u0 u : HO} {c0 : Cell} (m : RepM K ρ H M) (hn : ρ[n]? = some p) (h0 : H p = some u0) (hs : stab u0 = false) (r : CellRep K ρ (upd H p u) p c0) : RepM K ρ (upd H p u) (M.set n c0) := by
  have g : Grow ρ H ρ (upd H p u) := Grow.write (List.mem_of_getElem? hn) h0 hs
  refine ⟨by simp [m.len], m.nd, fun a ha => g.th a (m.th a ha), fun j c a h1 h2 => ?_⟩
  by_cases hj : j = n
  · subst hj
    rw [hn] at h2; cases h2
    have hl : j < M.length := by rw [← m.len]; exact (List.getElem?_eq_some_iff.mp hn).1
    rw [List.getElem?_set_self hl] at h1
    cases h1
    exact r
  · rw [List.getElem?_set_ne (Ne.symm hj)] at h1
    have hc := m.cell j c a h1 h2
    have ha : a ≠ p := fun e => by
      subst e
      exact hj (RepM.cellSet.nodup_ixA m.nd h2 hn)
    cases c with
    | lst xs =>
      obtain ⟨ws, e, r⟩ := hc
      exact ⟨ws, by rw [upd_ne ha]; exact e, r.mono g⟩
    | dct kvs =>
      obtain ⟨xs, e, q⟩ := hc
      exact ⟨xs, by rw [upd_ne ha]; exact e, q.map fun {x v} h => h.mono g⟩
    | dead => trivial
/-- a cell of any kind is given over -/
theorem RepM.cellFrzO {M : Mem} {n : Nat} {p : Addr} {o : Obj} {u u' : HO} (m : RepM K ρ H M) (hn : ρ[n]? = some p) (h0 : H p = some u) (hs : stab u = false) : RepM K ρ (upd H p (.frz o u')) (M.set n .dead) := m.cellSetO (c0 := .dead) hn h0 hs trivial
end

variable [WLD]
/-! ### ends -/
abbrev WX0 : WX := fun _ _ _ _ => False
/-- an exception as it flies: its class's address and its own dict -/
def ExcRep (K : PySem.W.Frag) (mg : Str → Option Value) (ρ : List Addr) (H : Hp) (x : Exc) (cls : Value) (d : Option Addr) : Prop :=
  (∃ C, mg x.cls = some (.ref C) ∧ cls = .ref C) ∧ match x.fld with
    | none => d = none
    | some (f, a) => ∃ dd v, d = some dd ∧ H dd = some (.xd [(f, v)]) ∧ Rep K ρ H a v
/-- what an evaluation's end says: with any heap in which the value and the cells stand, what follows holds -/
def Post {α β : Type} (K : PySem.W.Frag) (mg : Str → Option Value) (R : List Addr → Hp → α → β → Prop) (ρ : List Addr) (H : Hp) (o : Out α) (Q : β → Hp → Prop) (E : Value → Option Addr → Hp → Prop) : Prop := match o with
  | .ok a M => ∀ (v : β) (ρ' : List Addr) (H' : Hp), Grow ρ H ρ' H' → R ρ' H' a v → RepM K ρ' H' M → Q v H'
  | .exc x M => ∀ (cls : Value) (d : Option Addr) (ρ' : List Addr) (H' : Hp), Grow ρ H ρ' H' → ExcRep K mg ρ' H' x cls d → RepM K ρ' H' M → E cls d H'
  | .stuck => False
section
variable {K : PySem.W.Frag} {mg : Str → Option Value} {α β γ δ : Type} {R : List Addr → Hp → α → β → Prop} {S : List Addr → Hp → γ → δ → Prop} {ρ ρ' : List Addr} {H H' : Hp} {o : Out α} {Q Q' : β → Hp → Prop} {E E' : Value → Option Addr → Hp → Prop}
theorem Post.grow (g : Grow ρ H ρ' H') (h : Post K mg R ρ H o Q E) : Post K mg R ρ' H' o Q E := by
  cases o with
  | ok a M => exact fun v ρ2 H2 g2 => h v ρ2 H2 (g.trans g2)
  | exc x M => exact fun c d ρ2 H2 g2 => h c d ρ2 H2 (g.trans g2)
  | stuck => exact h
theorem Post.imp (h : Post K mg R ρ H o Q E) (q : ∀ v H, Q v H → Q' v H) (e : ∀ c d H, E c d H → E' c d H) : Post K mg R ρ H o Q' E' := by
  cases o with
  | ok a M => exact fun v ρ2 H2 g2 r m => q _ _ (h v ρ2 H2 g2 r m)
  | exc x M => exact fun c d ρ2 H2 g2 r m => e _ _ _ (h c d ρ2 H2 g2 r m)
  | stuck => exact h
/-- one after the other -/
theorem Post.bind {f : α → Mem → Out γ} {Q : δ → Hp → Prop} (h : Post K mg S ρ H (o.bind f) Q E) :
    Post K mg R ρ H o (fun v H1 => ∃ a M1 ρ1, Grow ρ H ρ1 H1 ∧ R ρ1 H1 a v ∧ RepM K ρ1 H1 M1 ∧ Post K mg S ρ1 H1 (f a M1) Q E) E := by
  cases o with
  | ok a M => exact fun v ρ1 H1 g r m => ⟨a, M, ρ1, g, r, m, h.grow g⟩
  | exc x M => exact h
  | stuck => exact h
theorem Post.noExc (h : Post K mg R ρ H o.noExc Q E) : Post K mg R ρ H o Q E' := by
  cases o with
  | ok a M => exact h
  | exc x M => exact False.elim h
  | stuck => exact h
end
/-- the state stands for (ς, M) -/
structure At (K : PySem.W.Frag) (ρ : List Addr) (H : Hp) (ς : Loc) (σ : L2.St) (M : Mem) : Prop where
  s : RepS K ρ H ς σ
  m : RepM K ρ H M

/-! ### readings -/
section
variable (K : PySem.W.Frag) (mg : Str → Option Value) (W : WX)
def LE (f : Loc → Mem → Out A) : TE := fun σ H Q => ∃ ρ ς M, At K ρ H ς σ M ∧ Post K mg (Rep K) ρ H (f ς M) Q fun c d H' => W c d σ H'
def LA (f : Loc → Mem → Out (List A)) : TA := fun σ H Q => ∃ ρ ς M, At K ρ H ς σ M ∧ Post K mg (RepAll K) ρ H (f ς M) Q fun c d H' => W c d σ H'
def LT (f : Loc → Mem → Out Bool) : TT := fun σ H Q => ∃ ρ ς M, At K ρ H ς σ M ∧ Post K mg (fun _ _ a v => a = v) ρ H (f ς M) Q fun c d H' => W c d σ H'
def LO (f : Loc → Mem → Out (Option Int)) : TO := fun σ H Q => ∃ ρ ς M, At K ρ H ς σ M ∧ Post K mg (fun _ _ a v => a = v) ρ H (f ς M) Q fun c d H' => W c d σ H'
/-- the iterator J goes over the items -/
def ItRep (J : L2.It) (ρ : List Addr) (H : Hp) (xs : List A) : Prop := ∀ ρ' H', Grow ρ H ρ' H' → J.stop xs.length H' ∧ ∀ i x, xs[i]? = some x → J.go i H' ∧ ∀ v H'', J.yld i H' v H'' → Grow ρ' H' ρ' H'' ∧ Rep K ρ' H'' x v ∧ ∀ M, RepM K ρ' H' M → RepM K ρ' H'' M
def LI (f : Loc → Mem → Out (List A)) : TI := fun σ H R => ∃ ρ ς M, At K ρ H ς σ M ∧ Post K mg (fun ρ H xs J => ItRep K J ρ H xs) ρ H (f ς M) R fun c d H' => W c d σ H'
def LG (tg : Tg) : TG := fun v σ H Q => ∃ ρ ς M x, At K ρ H ς σ M ∧ Rep K ρ H x v ∧ ∃ ς', bindT tg x ς = some ς' ∧ ∀ σ', RepS K ρ H ς' σ' → (∀ j, j ∉ tg.slots → σ'[j]? = σ[j]?) → Q σ' H
/-- a statement's end -/
def PostS (ρ : List Addr) (H : Hp) (o : Out (Fl × Loc)) (D : Ends) : Prop := match o with
  | .ok (fl, ς) M => ∀ (ρ' : List Addr) (H' : Hp), Grow ρ H ρ' H' → match fl with
    | .nxt => ∀ σ', At K ρ' H' ς σ' M → D.nx σ' H'
    | .brk => ∀ σ', At K ρ' H' ς σ' M → D.bk σ' H'
    | .cnt => ∀ σ', At K ρ' H' ς σ' M → D.ct σ' H'
    | .ret a => ∀ v, Rep K ρ' H' a v → RepM K ρ' H' M → D.rt v H'
  | .exc x M => ∀ (cls : Value) (d : Option Addr) (ρ' : List Addr) (H' : Hp) (σ' : L2.St), Grow ρ H ρ' H' → ExcRep K mg ρ' H' x cls d → RepM K ρ' H' M → W cls d σ' H'
  | .stuck => False
def LS (f : Loc → Mem → Out (Fl × Loc)) : TS := fun D σ H => ∃ ρ ς M, At K ρ H ς σ M ∧ PostS K mg W ρ H (f ς M) D
end
end MP

/-! MP, part C: judgements weakened, ghost steps, defs by their promise, rules by values -/
namespace MP
open PySem PySem.Spec PyProof.Rows L2
variable [WLD]

section
variable {X : Cx} {pins : List (Addr × Obj)} {σ : L2.St} {H : Hp} {s : Shared}
theorem pe_w {e : Expr} {t t' : TE} (h : PE X e t) (w : ∀ σ H Q, t' σ H Q → t σ H Q) : PE X e t' := ⟨fun pins s σ H Q I q => h.run pins s σ H Q I (w _ _ _ q)⟩
theorem pt_w {e : Expr} {t t' : TT} (h : PT X e t) (w : ∀ σ H Q, t' σ H Q → t σ H Q) : PT X e t' := ⟨fun pins s σ H Q I q => h.run pins s σ H Q I (w _ _ _ q)⟩
theorem pw_w {e : Expr} {t t' : TT} (h : PW X e t) (w : ∀ σ H Q, t' σ H Q → t σ H Q) : PW X e t' := ⟨fun wh pins s σ H Q I q => h.run wh pins s σ H Q I (w _ _ _ q)⟩
theorem pts_w {e : List Expr} {t t' : TT} (h : PTs X e t) (w : ∀ σ H Q, t' σ H Q → t σ H Q) : PTs X e t' := ⟨fun pins s σ H Q I q => h.run pins s σ H Q I (w _ _ _ q)⟩
theorem pa_w {e : List Expr} {t t' : TA} (h : PA X e t) (w : ∀ σ H Q, t' σ H Q → t σ H Q) : PA X e t' := ⟨fun pos pins s σ H Q I q => h.run pos pins s σ H Q I (w _ _ _ q)⟩
theorem po_w {e : Option Expr} {t t' : TO} (h : PO X e t) (w : ∀ σ H Q, t' σ H Q → t σ H Q) : PO X e t' := ⟨fun pins s σ H Q I q => h.run pins s σ H Q I (w _ _ _ q)⟩
theorem pi_w {tg e : Expr} {t t' : TI} (h : PI X tg e t) (w : ∀ σ H Q, t' σ H Q → t σ H Q) : PI X tg e t' := ⟨fun pins s σ H Q I q => h.run pins s σ H Q I (w _ _ _ q)⟩
theorem pg_w {e : Expr} {t t' : TG} (h : PG X e t) (w : ∀ v σ H Q, t' v σ H Q → t v σ H Q) : PG X e t' := ⟨fun pins s σ H v u Q I r q => h.run pins s σ H v u Q I r (w _ _ _ _ q)⟩
theorem ps_w {e : Stmt} {t t' : TS} (h : PS X e t) (w : ∀ D σ H, t' D σ H → t D σ H) : PS X e t' := ⟨fun pins s σ H D I q => h.run pins s σ H D I (w _ _ _ q)⟩
theorem pss_w {e : List Stmt} {t t' : TS} (h : PSs X e t) (w : ∀ D σ H, t' D σ H → t D σ H) : PSs X e t' := ⟨fun pins s σ H D I q => h.run pins s σ H D I (w _ _ _ q)⟩

/-! ### a list given over (nobody will change it): a ghost step -/
/-- a list, a dict -/
def FzU (p : Addr) (u : HO) : Prop := (∃ vs, u = .lst vs) ∨ (∃ vs, u = .dK vs) ∨ ∃ xs, u = .ext (DctAt p xs)
/-- as what it is given over: an empty dict has no kind of keys -/
def FzT (p : Addr) (u u' : HO) : Prop := (FzU p u ∧ u' = u) ∨ (u = .ext (DctAt p []) ∧ (p == sysModules) = false ∧ u' = .dK [])
theorem FzT.u {p : Addr} {u u' : HO} (h : FzT p u u') : FzU p u := by
  rcases h with ⟨h, _⟩ | ⟨rfl, _⟩
  · exact h
  · exact .inr (.inr ⟨[], rfl⟩)
theorem FzT.ok {P : Program} {w : World} {h : Heap} {p : Addr} {u u' : HO} (z : FzT p u u') (k : ObjOk P w H h p u) : ObjOk P w H h p u' := by
  rcases z with ⟨_, rfl⟩ | ⟨rfl, hs, rfl⟩
  · exact k
  · obtain ⟨⟨o, es, ep, e1, e2, e3, e4, _⟩, _⟩ := k
    have e5 : es = #[] := Array.toList_inj.mp (by simpa using e4)
    subst e5
    exact ⟨Nat.zero_le _, hs, [], .nil, o, #[], ep, e1, e2, e3, fun e he => absurd he (by simp), .nil, List.nodup_nil⟩
theorem Inv.freeze {p : Addr} {u u' : HO} (I : Inv X pins σ H s) (h : H p = some u) (hz : FzT p u u') : ∃ o, Inv X pins σ (upd H p (.frz o u')) s := by
  have hu := hz.u
  obtain ⟨ob, e⟩ : ∃ ob, s.heap.get? p = some ob := by
    have k := I.hok p _ h
    rcases hu with ⟨vs, rfl⟩ | ⟨vs, rfl⟩ | ⟨xs, rfl⟩
    · obtain ⟨_, its, n, _, e⟩ := k; exact ⟨_, e⟩
    · obtain ⟨_, _, _, _, o, _, _, e, _⟩ := k; exact ⟨_, e⟩
    · obtain ⟨_, e, _⟩ := k; exact e
  refine ⟨ob, ?_⟩
  have np : ∀ {b : Addr} {v : HO}, H b = some v → ¬ FzU b v → b ≠ p := fun {b v} hb hv q => by
    subst q
    rw [h] at hb
    cases hb
    exact hv hu
  have n1 : ∀ {b : Addr} {xs : List V}, ¬ FzU b (.tup xs) := by rintro b xs (⟨_, z⟩ | ⟨_, z⟩ | ⟨_, z⟩) <;> cases z
  have n2 : ∀ {b : Addr} {o : Obj} {v : HO}, ¬ FzU b (.frz o v) := by rintro b o v (⟨_, z⟩ | ⟨_, z⟩ | ⟨_, z⟩) <;> cases z
  have n3 : ∀ {b : Addr} {ps : Array Value}, ¬ FzU b (.tbl ps) := by rintro b ps (⟨_, z⟩ | ⟨_, z⟩ | ⟨_, z⟩) <;> cases z
  have n4 : ∀ {b y : Addr}, ¬ FzU b (.own y) := by rintro b y (⟨_, z⟩ | ⟨_, z⟩ | ⟨_, z⟩) <;> cases z
  have un : Un X.fs [] H (upd H p (.frz ob u')) s.heap s.heap := by
    refine ⟨fun b o q _ _ _ => q, fun b o q _ _ _ => ⟨o.slots, q⟩, fun b o q n _ => ?_, fun b o q _ => ⟨o, q⟩, fun b xs q => ?_, fun b o u q => ?_, fun b ps q => ⟨#[], ?_⟩⟩
    · rw [upd_ne]
      · exact n
      · rintro rfl
        rw [h] at n
        cases n
    · rw [upd_ne (np q n1)]; exact q
    · rw [upd_ne (np q n2)]; exact q
    · rw [upd_ne (np q n3)]; simpa using q
  have hok : HOk X.prog X.w (upd H p (.frz ob u')) s.heap := fun b v q => by
    by_cases hb : b = p
    · subst hb
      rw [upd_same] at q
      cases q
      refine ⟨e, ?_⟩
      refine (hz.ok (I.hok b u h)).stay (fun _ _ _ q => q) (fun c q => ?_) fun c xs q => ?_
      · rw [upd_ne (np q n4)]; exact q
      · rw [upd_ne (np q n1)]; exact q
    · rw [upd_ne hb] at q
      refine (I.hok b v q).stay (fun _ _ _ q => q) (fun c q => ?_) fun c xs q => ?_
      · rw [upd_ne (np q n4)]; exact q
      · rw [upd_ne (np q n1)]; exact q
  exact I.un (h' := s.heap) (t' := s.toks) un hok
/-- what follows may be shown from the heap as it is, or with a list given over -/
def Fz (Q : VK) : VK := fun v H => Q v H ∨ ∃ p u u', FzT p u u' ∧ H p = some u ∧ ∀ o, Q v (upd H p (.frz o u'))
theorem pe_fz {e : Expr} {t : TE} (h : PE X e t) : PE X e (fun σ H Q => t σ H (Fz Q)) := by
  refine ⟨fun pins s σ H Q I q => thn (h.run pins s σ H _ I q) fun u s1 ⟨v, H1, I1, r, q1⟩ => ?_⟩
  rcases q1 with q1 | ⟨p, u, u', fu, hp, q1⟩
  · exact ⟨v, H1, I1, r, q1⟩
  · obtain ⟨o, I2⟩ := Inv.freeze I1 hp fu
    exact ⟨v, _, I2, r, q1 o⟩
def FzN (N : L2.St → Hp → Prop) : L2.St → Hp → Prop := fun σ H => N σ H ∨ ∃ p u u', FzT p u u' ∧ H p = some u ∧ ∀ o, N σ (upd H p (.frz o u'))
theorem ps_fz {st : Stmt} {t : TS} (h : PS X st t) : PS X st (fun D σ H => t { D with nx := FzN D.nx } σ H) := by
  refine ⟨fun pins s σ H D I q => thn (h.run pins s σ H _ I q) fun f s1 q1 => ?_⟩
  cases f with
  | next =>
    obtain ⟨σ', H1, I1, q1⟩ := q1
    rcases q1 with q1 | ⟨p, u, u', fu, hp, q1⟩
    · exact ⟨σ', H1, I1, q1⟩
    · obtain ⟨o, I2⟩ := Inv.freeze I1 hp fu
      exact ⟨σ', _, I2, q1 o⟩
  | brk => exact q1
  | cont => exact q1
  | ret u => exact q1
end

/-! ### defs -/
/-- a def keeps its promise: as the hand layer's, and no repr is under way -/
structure FnG (P : Program) (w : World) (K : PySem.W.Frag) (mg : Str → Option Value) (base : Heap) (k : Nat) (f : Addr) (fd : FuncData) (ps : List Str) (sp : Sp) : Prop where
  len : ∀ vs H Q E, sp vs H Q E → vs.length = ps.length
  run : ∀ (A : Around) (outer : List Env) (s : Shared) (H : Hp) (args : Args) (us : List Value) (vs : List V) (Q : VK) (E : XK), Room (k + 2) A → A.guards = some [] → Env0 P w K mg base A outer s H → BindsTo s fd args (ps.zip us) → Vals vs us → sp vs H Q E →
    codeAny (model P w) A (.call (.ref f) args) (CR (L2.CX P w) outer P w H s Q E) s
theorem run_fnG {X : Cx} {W : WX} {k : Nat} {f : Addr} {fd : FuncData} {ps : List Str} {sp : Sp} {E : XK} {pins : List (Addr × Obj)} {σ : L2.St} {H : Hp} {s : Shared} {Q : VK} {us : List Value} {vs : List V}
    (F : FnG X.prog X.w X.K X.mg X.base k f fd ps sp) (hr : Room (k + 2) X.A) (hgd : X.A.guards = some []) (hb : Binds X.K fd ps []) (tk : Takes X W) (hE : ∀ cls d H', E cls d H' → W cls d σ H') (I : Inv X pins σ H s) (r : Vals vs us) (h : sp vs H Q E) :
    wpAny (model X.prog X.w) X.A (call (.ref f) us) (EP X pins σ Q) X.xe s := by
  have hl : us.length = ps.length := by rw [← r.length]; exact F.len _ _ _ _ h
  have hb' := hb s us I.kIn (by simpa using hl)
  rw [List.append_nil] at hb'
  refine wpAny_call (codeAny_mono (F.run X.A X.stack s H ⟨us, []⟩ us vs Q E hr hgd I.env0 hb' r h) fun r s' hq => ?_)
  cases r with
  | error e => exact tk e s' (XE.of_call I hE hq)
  | ok fl =>
    cases fl with
    | ret u => exact I.after hq
    | next => exact False.elim hq
    | brk => exact False.elim hq
    | cont => exact False.elim hq
theorem fn_ofG {P : Program} {w : World} {K : PySem.W.Frag} {mg : Str → Option Value} {base : Heap} {k : Nat} {f : Addr} {name qual : Str} {params : Arguments} {body : List Stmt} {scope : Scope} {dV kV doc pm cdv ct oc : Value} {an od : Option Addr}
    {osl : Array (Option Value)} {N ps : List Str} {sp : Sp} (lk : K.lookup f = some ⟨oc, od, .func (PySem.W.fnOf name qual params body scope dV kV doc pm an cdv ct), osl⟩) (hcd : PySem.W.codeIn K cdv qual = true) (S : FnScope N ps scope)
    (len : ∀ vs H Q E, sp vs H Q E → vs.length = ps.length)
    (hbody : ∀ (A : Around) (outer : List Env) (s : Shared) (H : Hp) (vs : List V) (Q : VK) (E : XK), Room (k + 2) (A.deeper (envOfC qual scope s.heap.objs.size f cdv)) → A.guards = some [] → sp vs H Q E →
      ∃ t, PSs (cxOf (L2.CX P w) P w K mg base N qual scope f cdv A outer s H E) body t ∧ t { nx := fun _ H' => Q .non H', rt := Q } (start N vs) H) :
    FnG P w K mg base (k + 1) f (PySem.W.fnOf name qual params body scope dV kV doc pm an cdv ct) ps sp := by
  refine ⟨len, fun A outer s H args us vs Q E hr hgd e0 hb r hsp => ?_⟩
  have hl := len _ _ _ _ hsp
  have KX : K.In s.heap := e0.mod.kin.keeps fun b o e => (e0.bs b o e).1
  have lim : s.heap.NoLimit := e0.mod.nolimit.keeps fun b o e => (e0.bs b o e).1
  have hkind : ∀ y ∈ ps.zip us, scope.names.lookup y.1 = some .local ∨ (scope.names.lookup y.1 = some .cell ∧ ((cellsFrom (s.heap.objs.size + 1) scope.names []).lookup y.1).isSome = true) := fun ⟨n, v⟩ hy => by
    rcases S.par n (List.of_mem_zip hy).1 with q | q
    · exact .inl q
    · exact .inr ⟨q, PySem.W.cellsFrom_some _ _ _ (.inl q)⟩
  refine codeAny_call_function hr.depth (KX _ _ lk) rfl S.co S.gen rfl (PySem.W.codeRec_of KX hcd) (hb _ _ _ _ ?_)
  refine wpAny_newFunctionEnv_cells S.kind hkind fun env he s1 x => ?_
  subst he
  refine ⟨lim.keeps x.toInCall.keep, codeAny_func ?_⟩
  obtain ⟨t, ht, hq⟩ := hbody A outer s H vs Q E (hr.deeper _) hgd hsp
  have I : Inv (cxOf (L2.CX P w) P w K mg base N qual scope f cdv A outer s H E) [] (start N vs) H s1 := inv_start S hr.hd e0 hl r x
  refine wpAny_mono (ht.run [] s1 (start N vs) H _ I hq) (fun fl s' hs => ?_) fun e s' hs => hs
  have fin : ∀ {σ' : L2.St} {H' : Hp} {v : V} {u : Value}, Inv (cxOf (L2.CX P w) P w K mg base N qual scope f cdv A outer s H E) [] σ' H' s' → RelV v u → Q v H' → CE outer P w H s Q u s' :=
    fun {σ' H' v u} J rv q => ⟨v, H', J.os, J.bare, J.base, J.hok, rv, q⟩
  cases fl with
  | ret u =>
    obtain ⟨v, σ', H', J, rv, q⟩ := hs
    exact fin J rv q
  | next =>
    obtain ⟨σ', H', J, q⟩ := hs
    exact fin (v := V.non) (u := Value.none) J rfl q
  | brk =>
    obtain ⟨_, _, _, q⟩ := hs
    exact False.elim q
  | cont =>
    obtain ⟨_, _, _, q⟩ := hs
    exact False.elim q
/-- a def's promise by its evaluation -/
def spOf (K : PySem.W.Frag) (mg : Str → Option Value) (g : List A → Mem → Out A) (n : Nat) : Sp := fun vs H Q E =>
  vs.length = n ∧ ∃ ρ M xs, RepAll K ρ H xs vs ∧ RepM K ρ H M ∧ Post K mg (Rep K) ρ H (g xs M) Q E

/-- a dict as it is given over -/
theorem DD.fzt {K : PySem.W.Frag} {ρ : List Addr} {H : Hp} {kvs : List (A × A)} {a : Addr} {u : HO} (d : DD K ρ H kvs a u) : ∃ u', FzT a u u' ∧ DD K ρ H kvs a u' ∧ (kvs = [] → u' = .dK []) := by
  rcases d with ⟨xs, h0, rfl, h2, h3, h4⟩ | ⟨vs, rfl, h4⟩
  · exact ⟨_, .inl ⟨.inr (.inr ⟨_, rfl⟩), rfl⟩, .inl ⟨_, h0, rfl, h2, h3, h4⟩, fun h => absurd h h0⟩
  · refine ⟨_, .inl ⟨.inr (.inl ⟨_, rfl⟩), rfl⟩, .inr ⟨_, rfl, h4⟩, fun h => ?_⟩
    subst h
    cases h4
    rfl
/-! ### plain data -/
section
variable {K : PySem.W.Frag} {ρ : List Addr} {H : Hp}
mutual
theorem Rep.dp : ∀ {x : A} {v : V} {d : PyData}, Rep K ρ H x v → A.toD x = some d → Dp K H v d
  | _, _, _, .non, e => by simp [A.toD] at e; subst e; exact .non
  | _, _, _, .bl b, e => by simp [A.toD] at e; subst e; exact .bl b
  | _, _, _, .int i, e => by simp [A.toD] at e; subst e; exact .int i
  | _, _, _, .str s, e => by simp [A.toD] at e; subst e; exact .str s
  | _, _, _, .tup h r, e => by
    simp only [A.toD, Option.map_eq_some_iff] at e
    obtain ⟨ds, e, rfl⟩ := e
    exact .tup h (RepAll.dp r e)
  | _, _, _, .lst h r, e => by
    simp only [A.toD, Option.map_eq_some_iff] at e
    obtain ⟨ds, e, rfl⟩ := e
    exact .lst h.sq (RepAll.dp r e)
  | _, _, _, .dct h, e => by simp [A.toD] at e
  | _, _, _, .dctN _ _ _ _, e => by simp [A.toD] at e
  | _, _, _, .ref h, e => by simp [A.toD] at e
theorem RepAll.dp : ∀ {xs : List A} {vs : List V} {ds : List PyData}, RepAll K ρ H xs vs → A.toDs xs = some ds → DpAll K H vs ds
  | _, _, _, .nil, e => by simp [A.toDs] at e; subst e; exact .nil
  | _, _, _, .cons h r, e => by
    simp only [A.toDs] at e
    split at e
    · rename_i d ds h1 h2
      cases e
      exact .cons (Rep.dp h h1) (RepAll.dp r h2)
    · cases e
end
theorem Rep.dpM {M : Mem} {x : A} {v : V} {d : PyData} (m : RepM K ρ H M) (r : Rep K ρ H x v) (e : x.toDM M = some d) : Dp K H v d := by
  cases r with
  | ref h =>
    simp only [A.toDM] at e
    split at e
    · rename_i xs h1
      rw [Option.map_eq_some_iff] at e
      obtain ⟨ds, e, rfl⟩ := e
      obtain ⟨vs, hv, rv⟩ := m.cell _ _ _ h1 h
      exact .lst (SqL.of hv) (rv.dp e)
    · cases e
  | non => simp [A.toDM, A.toD] at e; subst e; exact .non
  | bl b => simp [A.toDM, A.toD] at e; subst e; exact .bl b
  | int i => simp [A.toDM, A.toD] at e; subst e; exact .int i
  | str s => simp [A.toDM, A.toD] at e; subst e; exact .str s
  | tup h r => exact Rep.dp (.tup h r) e
  | lst h r => exact Rep.dp (.lst h r) e
  | dct h => simp [A.toDM, A.toD] at e
  | dctN => simp [A.toDM, A.toD] at e
theorem Rep.asL {M : Mem} {x : A} {v : V} {xs : List A} (m : RepM K ρ H M) (r : Rep K ρ H x v) (e : asL M x = some xs) : ∃ a vs, v = .ref a ∧ SqX K H a vs ∧ RepAll K ρ H xs vs := by
  cases r with
  | lst h r => simp [MP.asL] at e; subst e; exact ⟨_, _, rfl, h.sx, r⟩
  | ref h =>
    simp only [MP.asL] at e
    split at e
    · rename_i ys h1
      cases e
      obtain ⟨vs, hv, rv⟩ := m.cell _ _ _ h1 h
      exact ⟨_, _, rfl, SqX.of hv, rv⟩
    · cases e
  | _ => simp [MP.asL] at e
theorem Rep.asSeq {M : Mem} {x : A} {v : V} {xs : List A} (m : RepM K ρ H M) (r : Rep K ρ H x v) (e : asSeq M x = some xs) : ∃ a vs, v = .ref a ∧ (SqX K H a vs ∨ SqT K H a vs) ∧ RepAll K ρ H xs vs := by
  cases r with
  | tup h r => simp [MP.asSeq] at e; subst e; exact ⟨_, _, rfl, .inr h, r⟩
  | lst h r =>
    obtain ⟨a, vs, h1, h2, h3⟩ := Rep.asL m (.lst h r) e
    exact ⟨a, vs, h1, .inl h2, h3⟩
  | ref h =>
    obtain ⟨a, vs, h1, h2, h3⟩ := Rep.asL m (.ref h) e
    exact ⟨a, vs, h1, .inl h2, h3⟩
  | non => simp [MP.asSeq, MP.asL] at e
  | bl b => simp [MP.asSeq, MP.asL] at e
  | int i => simp [MP.asSeq, MP.asL] at e
  | str s => simp [MP.asSeq, MP.asL] at e
  | dct h => simp [MP.asSeq, MP.asL] at e
  | dctN => simp [MP.asSeq, MP.asL] at e
end

/-! ### values by values: each rule's wish follows from the evaluator's end -/
section
variable {X : Cx} {mg : Str → Option Value} {ρ : List Addr} {H : Hp} {M : Mem} {Q : VK} {E : Value → Option Addr → Hp → Prop} {a b : A} {x y : V}
/-- a new list -/
theorem fin_lst {K : PySem.W.Frag} {o : Bool} {xs : List A} {vs : List V} (m : RepM K ρ H M) (r : RepAll K ρ H xs vs) (h : Post K mg (Rep K) ρ H (finL o xs M) Q E) :
    vs.length ≤ sizeLine ∧ ∀ p, H p = none → Fz Q (.ref p) (upd H p (.lst vs)) := by
  have hl := r.length
  unfold finL at h
  by_cases hz : xs.length ≤ sizeLine
  · rw [if_pos hz] at h
    refine ⟨by omega, fun p hp => ?_⟩
    cases o with
    | true =>
      rw [if_pos rfl] at h
      exact .inl (h (.ref p) (ρ ++ [p]) _ (Grow.cell hp) (.ref (by rw [← m.len]; simp)) (m.cellNew hp r))
    | false =>
      rw [if_neg (by decide)] at h
      refine .inr ⟨p, _, _, .inl ⟨.inl ⟨vs, rfl⟩, rfl⟩, upd_same, fun o => ?_⟩
      have g : Grow ρ H ρ (upd (upd H p (.lst vs)) p (.frz o (.lst vs))) := Grow.laid2 hp
      exact h (.ref p) ρ _ g (.lst (.inl ⟨o, upd_same⟩) (r.mono g)) (m.laid2 hp)
  · rw [if_neg hz] at h
    exact False.elim h
theorem post_ok {K : PySem.W.Frag} {α β : Type} {R : List Addr → Hp → α → β → Prop} {c : α} {v : β} {Q : β → Hp → Prop} (m : RepM K ρ H M) (r : R ρ H c v) (h : Post K mg R ρ H (.ok c M) Q E) : Q v H := h v ρ H (Grow.refl _ _) r m
theorem fz_of {v : V} (h : Q v H) : Fz Q v H := .inl h

def rAddL (K : PySem.W.Frag) : R2 := fun x y H Q => ∃ l b xs zs, x = .ref l ∧ y = .ref b ∧ SqX K H l xs ∧ SqX K H b zs ∧ xs.length + zs.length ≤ sizeLine ∧ ∀ p, H p = none → Q (.ref p) (upd H p (.lst (xs ++ zs)))
theorem op_addL : OpR X (binaryOp .Add) (rAddL X.K) := by
  intro pins s σ H x y v u Q I rx ry h
  obtain ⟨l, b, xs, zs, rfl, rfl, hH, hB, hz, q⟩ := h
  cases rx
  cases ry
  obtain ⟨its, n1, r, e1, z1⟩ := MP.Inv.listX I hH
  obtain ⟨its2, n2, r2, e2, z2⟩ := MP.Inv.listX I hB
  have hl1 := r.length
  have hl2 := r2.length
  refine PySem.P.add_list e1 e2 ?_ (by rw [List.size_toArray, List.size_toArray]; omega)
  have ea : its.toArray ++ its2.toArray = (its ++ its2).toArray := by simp
  rw [ea]
  exact ⟨.ref _, _, I.lnew (t' := s.toks) (r.append r2) (by rw [List.length_append]; omega), rfl, q _ I.fresh⟩
def rAddX (K : PySem.W.Frag) : R2 := fun x y H Q => rI0 (fun i j => .int (i + j)) x y H Q ∨ (∃ i j, x = .str i ∧ y = .str j ∧ i.length + j.length ≤ sizeLine ∧ Q (.str (i ++ j)) H) ∨ rCatA K x y H Q ∨ rAddL K x y H Q
theorem op_addX : OpR X (binaryOp .Add) (rAddX X.K) := op_add.or (op_add_str.or (op_catA.or op_addL))
theorem rep_tupCat {K : PySem.W.Frag} {xs ys : List A} {vs ws : List V} {p : Addr} (g : Grow ρ H ρ (upd H p (.tup (vs ++ ws)))) (r1 : RepAll K ρ H xs vs) (r2 : RepAll K ρ H ys ws) : Rep K ρ (upd H p (.tup (vs ++ ws))) (.tup (xs ++ ys)) (.ref p) :=
  .tup (SqT.of upd_same) ((r1.append r2).mono g)
theorem addA_w {K : PySem.W.Frag} {o : Bool} (m : RepM K ρ H M) (ra : Rep K ρ H a x) (rb : Rep K ρ H b y) (h : Post K mg (Rep K) ρ H (addA o a b M) Q E) : rAddX K x y H (Fz Q) := by
  have lists : (match asL M a with | some xs => (match asL M b with | some ys => finL o (xs ++ ys) M | none => .stuck) | none => .stuck) = addA o a b M → rAddX K x y H (Fz Q) := by
    intro e
    rw [← e] at h
    cases e1 : asL M a with
    | none => rw [e1] at h; exact False.elim h
    | some xs =>
      cases e2 : asL M b with
      | none => rw [e1, e2] at h; exact False.elim h
      | some ys =>
        rw [e1, e2] at h
        obtain ⟨l1, vs, rfl, s1, q1⟩ := ra.asL m e1
        obtain ⟨l2, ws, rfl, s2, q2⟩ := rb.asL m e2
        obtain ⟨z, q⟩ := fin_lst m (q1.append q2) h
        rw [List.length_append] at z
        exact .inr (.inr (.inr ⟨l1, l2, vs, ws, rfl, rfl, s1, s2, z, q⟩))
  cases ra with
  | int i =>
    cases rb with
    | int j => exact .inl ⟨i, j, rfl, rfl, fz_of (post_ok m (.int _) h)⟩
    | _ => exact False.elim h
  | str i =>
    cases rb with
    | str j =>
      simp only [addA] at h
      split at h
      · rename_i hz
        exact .inr (.inl ⟨i, j, rfl, rfl, hz, fz_of (post_ok m (.str _) h)⟩)
      · exact False.elim h
    | _ => exact False.elim h
  | @tup l1 xs vs s1 q1 =>
    cases rb with
    | @tup l2 ys ws s2 q2 =>
      simp only [addA] at h
      split at h
      · rename_i hz
        have h1 := q1.length
        have h2 := q2.length
        refine .inr (.inr (.inl ⟨l1, l2, vs, ws, rfl, rfl, s1, s2, by omega, fun e => ?_, fun _ e => ?_, fun _ _ p hp => ?_⟩))
        · subst e
          have e' : xs = [] := by cases q1; rfl
          subst e'
          exact fz_of (post_ok m (.tup s2 q2) h)
        · subst e
          have e' : ys = [] := by cases q2; rfl
          subst e'
          rw [List.append_nil] at h
          exact fz_of (post_ok m (.tup s1 q1) h)
        · have g : Grow ρ H ρ (upd H p (.tup (vs ++ ws))) := Grow.laid hp
          exact fz_of (h (.ref p) ρ _ g (rep_tupCat g q1 q2) (m.laid hp))
      · exact False.elim h
    | _ => exact False.elim h
  | non => exact False.elim h
  | bl b => exact False.elim h
  | lst s1 q1 => exact lists rfl
  | ref e => exact lists rfl
  | dct e => exact False.elim h
  | dctN => exact False.elim h
theorem okMul_C {i j : Int} (h : okMul i j = true) : CMul i j := by
  unfold okMul at h
  simp only [Bool.or_eq_true, Bool.and_eq_true, decide_eq_true_eq] at h
  exact h
theorem cmp_sc {K : PySem.W.Frag} (ra : Rep K ρ H a x) (rb : Rep K ρ H b y) (h : scalA a b = true) : scal x y = true ∧ decide (x = y) = scalEq a b := by
  cases ra <;> cases rb <;> first | exact (Bool.noConfusion h) | exact ⟨rfl, by simp [scalEq]⟩
theorem eqA_w {K : PySem.W.Frag} {k : Bool} (m : RepM K ρ H M) (ra : Rep K ρ H a x) (rb : Rep K ρ H b y) (h : eqA a b M = some k) : (scal x y = true ∧ decide (x = y) = k) ∨ ∃ d e, Dp K H x d ∧ Dp K H y e ∧ SeqAt.shaped d = true ∧ SeqAt.shaped e = true ∧ PyData.eqv d e = k := by
  unfold eqA at h
  split at h
  · rename_i hs
    obtain ⟨h1, h2⟩ := cmp_sc ra rb hs
    cases h
    exact .inl ⟨h1, h2⟩
  · split at h
    · rename_i d e1
      split at h
      · rename_i e e2
        split at h
        · rename_i hs
          rw [Bool.and_eq_true] at hs
          cases h
          exact .inr ⟨d, e, ra.dpM m e1, rb.dpM m e2, hs.1, hs.2, rfl⟩
        · cases h
      · cases h
    · cases h
end
end MP

/-! MP, part Q: a tuple taken no time or once -/
namespace MP
open PySem PySem.Spec PyProof.Rows L2
theorem tuple_mul_none (l : Addr) (items : Array Value) (n : Nat) (dd : Option Addr) (sl : Array (Option Value)) (u : Tok) (c1 : items.isEmpty = false) :
    Meets (Builtin.«tuple.__mul__» ⟨[.ref l, .int 0 u], []⟩) (fun _ R s => s.heap.get? l = some { cls := .type "tuple", dict := dd, data := .seq items n, slots := sl } ∧
      R (.ok (.ret (Value.ref s.heap.objs.size))) { s with heap := s.heap.push { cls := Value.type "tuple", data := Data.seq #[] }, toks := s.toks }) :=
  .of_wp fun prog w A R s h => by
    obtain ⟨hp, g, d, tk, os⟩ := s
    obtain ⟨hl, h⟩ := h
    have f1 := AutoSeq1.idx_int
    have e1 : (items.isEmpty || (0 : Int) == 1) = false := by rw [c1]; rfl
    have z0 : (#[] : Array Value).size ≤ sizeLine := Nat.zero_le _
    wp_walk using wpAny_loadPart' hl
    repeat (first
      | (refine wpAny_ite_false (decide_eq_false (by decide)) ?_; wp_walk using wpAny_loadPart' hl)
      | (refine wpAny_ite_false (decide_eq_false (by rw [e1]; exact Bool.false_ne_true)) ?_; wp_walk using wpAny_loadPart' hl)
      | (refine wpAny_ite_true (decide_eq_true (by rw [c1]; rfl)) ?_; wp_walk using wpAny_loadPart' hl)
      | (refine wpAny_ite_false (decide_eq_false (Nat.not_lt.mpr z0)) ?_; wp_walk using wpAny_loadPart' hl))
    exact ⟨_, rfl, h⟩
theorem tuple_mul_one (l : Addr) (items : Array Value) (n : Nat) (dd : Option Addr) (sl : Array (Option Value)) (u : Tok) :
    Meets (Builtin.«tuple.__mul__» ⟨[.ref l, .int 1 u], []⟩) (fun _ R s => s.heap.get? l = some { cls := .type "tuple", dict := dd, data := .seq items n, slots := sl } ∧ R (.ok (.ret (Value.ref l))) s) :=
  .of_wp fun prog w A R s h => by
    obtain ⟨hp, g, d, tk, os⟩ := s
    obtain ⟨hl, h⟩ := h
    have f1 := AutoSeq1.idx_int
    have e1 : (items.isEmpty || (1 : Int) == 1) = true := by cases items.isEmpty <;> rfl
    wp_walk using wpAny_loadPart' hl
    repeat (first
      | (refine wpAny_ite_false (decide_eq_false (by decide)) ?_; wp_walk using wpAny_loadPart' hl)
      | (refine wpAny_ite_true (decide_eq_true e1) ?_; wp_walk using wpAny_loadPart' hl))
    exact ⟨_, rfl, h⟩
section
variable {X : Cx}
/-- a tuple that holds something, times 0, 1, 2, .. -/
def rRepTX (K : PySem.W.Frag) : R2 := fun x y H Q => ∃ l k xs, x = .ref l ∧ y = .int k ∧ SqT K H l xs ∧ xs ≠ [] ∧ 0 ≤ k ∧ k ≤ 1000 ∧ xs.length ≤ 1000 ∧ (k = 1 → Q (.ref l) H) ∧ (k ≠ 1 → ∀ p, H p = none → Q (.ref p) (upd H p (.tup (List.replicate k.toNat xs).flatten)))
theorem op_repTX : OpR X (binaryOp .Mult) (rRepTX X.K) := by
  intro pins s σ H x y v u Q I rx ry h
  obtain ⟨l, k, xs, rfl, rfl, hT, hne, h0, h1, hz, q1, q2⟩ := h
  by_cases k2 : 2 ≤ k
  · exact op_repT pins s σ H _ _ v u Q I rx ry ⟨l, k, xs, rfl, rfl, hT, hne, k2, h1, hz, q2 (by omega)⟩
  cases rx
  obtain ⟨t, rfl⟩ := ry
  obtain ⟨its, r, ⟨⟨cls, dd, data, sl⟩, ho, hc, n, hd⟩, hs⟩ := I.tuple hT
  simp only at hc hd
  subst hc hd
  have hi : its.toArray.isEmpty = false := by
    cases its with
    | nil => cases r; exact absurd rfl hne
    | cons a b => rfl
  by_cases k1 : k = 1
  · subst k1
    refine wpAny_binaryOp_repeat_ref (T := "tuple") (U := "int") (by decide) ⟨_, ho, rfl⟩ (fun s' => typeIs_int s' 1 t) noFill_tuple_mul F.fills_int_mul F.slot_int_rmul repeat_tuple F.slot_int_index.lookup
      (call_meets F.slot_int_rmul (typeIs_int s 1 t) F.entry_int_rmul (F.args_int_rmul_2 _ _) (int_rmul_tuple 1 t l its.toArray n dd sl)
        ⟨ho, rfl, ⟨_, ho, rfl⟩, call_meets F.slot_tuple_mul ⟨_, ho, rfl⟩ F.entry_tuple_mul (F.args_tuple_mul_2 _ _) (tuple_mul_one l its.toArray n dd sl t) ⟨ho, ?_⟩⟩)
    exact ⟨.ref l, H, I, rfl, q1 rfl⟩
  · obtain rfl : k = 0 := by omega
    refine wpAny_binaryOp_repeat_ref (T := "tuple") (U := "int") (by decide) ⟨_, ho, rfl⟩ (fun s' => typeIs_int s' 0 t) noFill_tuple_mul F.fills_int_mul F.slot_int_rmul repeat_tuple F.slot_int_index.lookup
      (call_meets F.slot_int_rmul (typeIs_int s 0 t) F.entry_int_rmul (F.args_int_rmul_2 _ _) (int_rmul_tuple 0 t l its.toArray n dd sl)
        ⟨ho, rfl, ⟨_, ho, rfl⟩, call_meets F.slot_tuple_mul ⟨_, ho, rfl⟩ F.entry_tuple_mul (F.args_tuple_mul_2 _ _) (tuple_mul_none l its.toArray n dd sl t hi) ⟨ho, ?_⟩⟩)
    refine ⟨.ref s.heap.objs.size, _, I.laid (t' := s.toks) (o := .tup []) (fun b ob q => Heap.get?_push_of_some _ q) (Nat.le_refl _) ?_, rfl, ?_⟩
    · exact ⟨Nat.zero_le _, [], .nil, IsTup.new _ _⟩
    · exact q2 (by decide) _ (I.hok.fresh (Nat.le_refl _))
end
end MP

/-! MP, part N: enumerate over a tuple, list repetition -/
namespace MP
open PySem PySem.Spec PyProof.Rows L2

/-! ### enumerate(tuple) -/
theorem meets_enumerate_newT (l : Addr) (items : Array Value) (n : Nat) (dct : Option Addr) (sl : Array (Option Value)) :
    Meets (Builtin.«enumerate.__new__» ⟨[.type "enumerate", .ref l], []⟩) (fun _ R s => s.heap.get? l = some { cls := .type "tuple", dict := dct, data := .seq items n, slots := sl } ∧
      R (.ok (.ret (.ref (s.heap.push { cls := .type "tuple_iterator", data := .fields #[.ref l, .int 0 0] }).objs.size)))
        { s with heap := (s.heap.push { cls := .type "tuple_iterator", data := .fields #[.ref l, .int 0 0] }).push { cls := .type "enumerate", data := .fields #[.none, .bool false, .ref s.heap.objs.size, rawInt 0, .none, .none] } }) :=
  .of_wp fun prog w A R s h => by
    obtain ⟨hp, g, d, tk, os⟩ := s; obtain ⟨hl, h⟩ := h
    have hsub := sub_enumerate
    have hL : Heap.IsTuple (Shared.heap ⟨hp, g, d, tk, os⟩) l items := ⟨_, hl, rfl, n, rfl⟩
    wp_walk using AutoSeq1.wpAny_loadPart' hl
    refine wpAny_stack_any fun st => wpAny_pure ?_
    split
    · rename_i c _ _ _ _ _
      cases (c == Value.type "enumerate")
      · wp_walk using AutoSeq1.wpAny_loadPart' hl, wpAny_pyIter_tuple hL
        exact ⟨_, rfl, h⟩
      · wp_walk using AutoSeq1.wpAny_loadPart' hl, wpAny_pyIter_tuple hL
        exact ⟨_, rfl, h⟩
    · wp_walk using AutoSeq1.wpAny_loadPart' hl, wpAny_pyIter_tuple hL
      exact ⟨_, rfl, h⟩
theorem call_enumerate_tuple {prog : Program} {w : World} {A : Around} {E : Value → Shared → Prop} {s : Shared} {l : Addr} {items : Array Value} {Q : Value → Shared → Prop} (hL : s.heap.IsTuple l items)
    (h : ∀ h', IsEnum h' (s.heap.objs.size + 1) s.heap.objs.size 0 .none → h'.IsTupleIter s.heap.objs.size l 0 → h'.objs.size = s.heap.objs.size + 2 →
      (∀ b o, s.heap.get? b = some o → h'.get? b = some o) → Q (.ref (s.heap.objs.size + 1)) { s with heap := h' }) :
    wpAny (model prog w) A (call (.type "enumerate") [.ref l]) Q E s := by
  obtain ⟨⟨c, dct, dt, sl⟩, hl, hc, n, hd⟩ := hL
  replace hc : c = .type "tuple" := hc
  replace hd : dt = .seq items n := hd
  subst hc hd
  refine callType_new F.called_enumerate (by decide) (F.typeCall_enumerate_1 _) (F.newCall_enumerate_1 _) (fun obj => F.args_object_init_2 obj _) F.entry_enumerate_new
    (meets_enumerate_newT l items n dct sl) ⟨hl, ?_⟩
  have hz : (s.heap.push { cls := .type "tuple_iterator", data := .fields #[.ref l, .int 0 0] }).objs.size = s.heap.objs.size + 1 := Heap.size_push ..
  show _ ∧ _
  rw [hz]
  have he : IsEnum ((s.heap.push { cls := .type "tuple_iterator", data := .fields #[.ref l, .int 0 0] }).push
      { cls := .type "enumerate", data := .fields #[.none, .bool false, .ref s.heap.objs.size, rawInt 0, .none, .none] }) (s.heap.objs.size + 1) s.heap.objs.size 0 .none := by
    have := Heap.get?_push_size (s.heap.push { cls := .type "tuple_iterator", data := .fields #[.ref l, .int 0 0] })
      (o := { cls := .type "enumerate", data := .fields #[.none, .bool false, .ref s.heap.objs.size, rawInt 0, .none, .none] }) rfl
    rw [hz] at this; exact this
  refine ⟨⟨_, he, rfl⟩, h _ he ⟨_, Heap.get?_push_of_some _ (Heap.get?_push_size _ rfl), rfl, rfl⟩ (by rw [Heap.size_push, hz]) fun b o x => Heap.get?_push_of_some _ (Heap.get?_push_of_some _ x)⟩

/-- the tuple at a, each item in a new pair -/
def Itet (K : PySem.W.Frag) (a : Addr) : L2.It :=
  ⟨fun i H => ∃ (xs : List V) (x : V), SqT K H a xs ∧ xs[i]? = some x, fun i H v H' => ∃ T x, v = .ref T ∧ H T = none ∧ H' = upd H T (.tup [.int (i : Nat), x]) ∧ ∀ xs, SqT K H a xs → xs[i]? = some x, fun i H => ∃ xs : List V, SqT K H a xs ∧ xs.length ≤ i⟩
theorem turn_enumT {P : Program} {w : World} {K : PySem.W.Frag} {elts : List Expr} {kk : Nat} {tpos : Pos} (a e it : Addr) :
    Turn P w K (.Tuple elts kk tpos) (Itet K a) [e, it] e (fun i h => (∃ old, IsEnum h e it ((i : Nat) : Int) old) ∧ h.IsTupleIter it a i ∧ e ≠ it) where
  mem := by simp
  obj := fun i h st b hb => by
    obtain ⟨⟨old, he⟩, ⟨o, ho, hc, hd⟩, _⟩ := st
    have e' : b = e ∨ b = it := by simpa using hb
    rcases e' with z | z
    · rw [z]; exact ⟨_, he, fun v q => nomatch q⟩
    · rw [z]; exact ⟨o, ho, fun v q => by rw [hd] at q; cases q⟩
  keep := fun i h h' st k => let ⟨⟨old, he⟩, hi, hne⟩ := st; ⟨⟨old, k e (by simp) _ he⟩, hi.at fun o q => k it (by simp) o q, hne⟩
  item := by
    intro X hP hw hK hc i pins s σ H E I hf st hg
    subst hP hw hK
    obtain ⟨⟨old, he⟩, hit, hne⟩ := st
    obtain ⟨xs, x, hq, hx⟩ := hg
    obtain ⟨its, rv, p, hz⟩ := I.tuple hq
    obtain ⟨u, hu, ru⟩ := rv.get hx
    have hel : e < s.heap.objs.size := Heap.lt_size he
    have hil : it < s.heap.objs.size := by obtain ⟨_, q, _⟩ := hit; exact Heap.lt_size q
    have pt : s.heap.IsTuple a its.toArray := p
    have hat : a ≠ it := fun z => by
      obtain ⟨o1, q1, c1, _⟩ := pt
      obtain ⟨o2, q2, c2, _⟩ := hit
      rw [z, q2] at q1; cases q1
      rw [c1] at c2
      exact absurd (Value.type.inj c2) (by decide)
    have hae : a ≠ e := fun z => by
      obtain ⟨o1, q1, c1, _⟩ := pt
      have q2 : s.heap.get? e = some _ := he
      rw [z, q2] at q1; cases q1
      exact absurd (Value.type.inj c1) (by decide)
    have hil2 : i < its.toArray.size := by
      have := (List.getElem?_eq_some_iff.mp hu).1
      simpa using this
    refine wpAny_pyNext_enum_itemD (Draws.tuple (A := X.A.in1) (I.ok.hd hc) it a hat its.toArray) he ⟨hit, pt⟩ hil2 hne (by simp [hne, Ne.symm hae]) fun x' h' tk hP ho hs' hT hsz hk => ?_
    obtain ⟨hit', _⟩ := hs'
    have ex : x' = u := by
      have h1 : its[i]? = some x' := by simpa using hP
      rw [hu] at h1
      exact (Option.some.inj h1).symm
    subst ex
    refine ⟨_, rfl, wpAny_letOwnedTupleGo_enum (s := { s with heap := h', toks := tk + 1 }) ho fun h'' he' sb => ?_⟩
    have hT2 : h''.get? s.heap.objs.size = some { cls := .type "tuple", data := .seq #[.int i tk, x'] } := (sb.2 _ (Nat.ne_of_gt hel)).trans hT
    have new : ObjOk X.prog X.w (upd H s.heap.objs.size (.tup [.int (i : Nat), x])) h'' s.heap.objs.size (.tup [.int (i : Nat), x]) :=
      ⟨by show 2 ≤ sizeLine; decide, [.int i tk, x'], .cons ⟨_, rfl⟩ (.cons ru .nil), ⟨_, hT2, rfl, _, rfl⟩⟩
    have I1 : Inv X pins σ (upd H s.heap.objs.size (.tup [.int (i : Nat), x])) { s with heap := h'', toks := tk + 1 } :=
      I.turnedNew (ch := [e, it]) (fun b ob hb q => (sb.2 b (fun z => hb (by simp [z]))).trans (hk b ob (fun z => hb (by simp [z])) (fun z => hb (by simp [z])) q)) hf (Nat.le_refl _) new
    refine ⟨.ref s.heap.objs.size, _, I1, rfl, ⟨_, x, rfl, I.hok.fresh (Nat.le_refl _), rfl, fun ys hy => by rw [I.tuple_inj hy hq]; exact hx⟩, ⟨⟨x', ?_⟩, hit'.at fun o q => (sb.2 it (Ne.symm hne)).trans q, hne⟩, fun b hb => ?_⟩
    · have e1 : ((i + 1 : Nat) : Int) = (i : Int) + 1 := by omega
      rw [e1]; exact he'
    · have hb' : b < s.heap.objs.size := by
        have e' : b = e ∨ b = it := by simpa using hb
        rcases e' with z | z
        · rw [z]; exact hel
        · rw [z]; exact hil
      rw [upd_ne (Nat.ne_of_lt hb')]
      exact (hf b hb).1
  done := by
    intro X hP hw hK hc i pins s σ H E I hf st hg
    subst hP hw hK
    obtain ⟨⟨old, he⟩, hit, hne⟩ := st
    obtain ⟨xs, hq, hx⟩ := hg
    obtain ⟨its, rv, p, hz⟩ := I.tuple hq
    have pt : s.heap.IsTuple a its.toArray := p
    obtain ⟨f0, f1, f2, f3, f4, f5⟩ := hf it (by simp)
    have hl := rv.length
    have hT : s.TypeIs (.ref e) "enumerate" := ⟨_, he, rfl⟩
    unfold pyNext
    refine wpAny_bind (wpAny_attempt (wpAny_callSpecial?_slot (name := Str.ofString "__next__") hT F.slot_enumerate_next
      (wpAny_call_entry F.slot_enumerate_next hT F.entry_enumerate_next ?_ (F.args_enumerate_next_1 _))))
    show wpAny _ _ (field (.ref e) 2 >>= _) _ _ _
    refine wpAny_bind (wpAny_field he rfl (x := .ref it) rfl ?_)
    refine wpAny_bind (wpAny_nextOf_tuple_end (show X.A.in1.handled = none from I.ok.hd hc) hit pt (by simp; omega) fun h' x he' hx' => ?_)
    obtain ⟨o, ho, hc⟩ := hx'
    refine wpAny_bind (wpAny_isInstance (T := "StopIteration") (b := true) ⟨o, ho, hc⟩ isSubtype_stop ?_)
    exact wpAny_pure ⟨rfl, I.turned (t' := s.toks) (fun b o hb q => he' b o hb q) f0 f1 f3 f4 f5⟩
  self := fun A i s Q E st h => let ⟨⟨_, he⟩, _⟩ := st; wpAny_pyIter_enum he h
/-- enumerate over a list or a tuple -/
def iEnumX (K : PySem.W.Frag) (ta : TA) : TI := fun σ H R => ta σ H fun vs H1 => ∃ a, vs = [.ref a] ∧ ((∃ xs, SqL K H1 a xs ∧ R (Ite K a) H1) ∨ ∃ xs, SqT K H1 a xs ∧ R (Itet K a) H1)
theorem pi_enumX {X : Cx} {e : Expr} {ta : TA} {p pos tpos : Pos} {elts : List Expr} {kk : Nat} (hg : Gl X "enumerate") (hm : X.mg "enumerate" = none) (ha : PA X [e] ta) (hs : starEach [e] X.env = [(false, eval e X.env)] := by rfl) :
    PI X (.Tuple elts kk tpos) (.Call (.Name "enumerate" p) [e] [] pos) (iEnumX X.K ta) := by
  refine ⟨fun pins s σ H R I h => ?_⟩
  refine Call_ (ld_blt I hg hm boot_enumerate (PyProof.Rows.callWith_type1 (thn (ha.run pos pins s σ H _ I h) fun us s1 ⟨vs, H1, I1, r1, q1⟩ => ?_) hs rfl))
  obtain ⟨a, ex, q1⟩ := q1
  subst ex
  cases r1 with
  | cons r rr =>
    cases rr
    cases r
    have fpo : ∀ b ∈ [s1.heap.objs.size + 1, s1.heap.objs.size], s1.heap.objs.size ≤ b := fun b hb => by
      have e' : b = s1.heap.objs.size + 1 ∨ b = s1.heap.objs.size := by simpa using hb
      rcases e' with z | z
      · rw [z]; exact Nat.le_add_right _ _
      · rw [z]; exact Nat.le_refl _
    rcases q1 with ⟨xs, hq, q⟩ | ⟨xs, hq, q⟩
    · obtain ⟨its, rv, p', hz⟩ := I1.list hq
      refine call_enumerate_list p'.isList fun h' he hit hsz hk => wpAny_pyIter_enum he ?_
      have I2 : Inv X pins σ H1 { s1 with heap := h' } := I1.kept (t' := s1.toks) hk
      exact ⟨s1.heap.objs.size + 1, [s1.heap.objs.size + 1, s1.heap.objs.size], _, _, H1, rfl, I2, turn_enum a (s1.heap.objs.size + 1) s1.heap.objs.size, ⟨⟨.none, he⟩, hit, Nat.succ_ne_self _⟩, fun b hb => I1.fpOk (fpo b hb) (I1.hok.fresh (fpo b hb)), q⟩
    · obtain ⟨its, rv, p', hz⟩ := I1.tuple hq
      refine call_enumerate_tuple p' fun h' he hit hsz hk => wpAny_pyIter_enum he ?_
      have I2 : Inv X pins σ H1 { s1 with heap := h' } := I1.kept (t' := s1.toks) hk
      exact ⟨s1.heap.objs.size + 1, [s1.heap.objs.size + 1, s1.heap.objs.size], _, _, H1, rfl, I2, turn_enumT a (s1.heap.objs.size + 1) s1.heap.objs.size, ⟨⟨.none, he⟩, hit, Nat.succ_ne_self _⟩, fun b hb => I1.fpOk (fpo b hb) (I1.hok.fresh (fpo b hb)), q⟩

/-! ### xs * k -/
section
variable {X : Cx}
def rRepX (K : PySem.W.Frag) : R2 := fun x y H Q => ∃ l k xs, x = .ref l ∧ y = .int k ∧ SqX K H l xs ∧ -(2 ^ 63) ≤ k ∧ k < 2 ^ 63 ∧ xs.length * k.toNat ≤ sizeLine ∧
  ∀ p, H p = none → Q (.ref p) (upd H p (.lst (List.replicate k.toNat xs).flatten))
theorem op_repX : OpR X (binaryOp .Mult) (rRepX X.K) := by
  intro pins s σ H x y v u Q I rx ry h
  obtain ⟨l, k, xs, rfl, rfl, hH, h1, h2, hz, q⟩ := h
  cases rx
  obtain ⟨t, rfl⟩ := ry
  obtain ⟨its, n, r, e, z⟩ := MP.Inv.listX I hH
  have hl := r.length
  have hlen : its.toArray.size * k.toNat ≤ sizeLine := by rw [List.size_toArray, ← hl]; exact hz
  have hcap : ¬ its.toArray.size * k.toNat > (2 ^ 63 - 1) / 8 := by
    have : (sizeLine : Nat) ≤ (2 ^ 63 - 1) / 8 := by decide
    omega
  have hfit : ¬ (!Builtin.List.listFitsIndex k) = true := by
    rw [fitsIndex_both h1 h2]
    exact Bool.false_ne_true
  have hlong : ¬ Builtin.List.listTooLong (its.toArray.size * k.toNat) = true := by
    rw [notLongL hlen]
    exact Bool.false_ne_true
  have hnew : List.foldl (fun x1 x2 => x1 ++ x2) #[] (List.replicate (if its.toArray.isEmpty = true then 0 else k.toNat) its.toArray) = (List.replicate k.toNat its).flatten.toArray := by
    have f0 : ∀ m : Nat, List.foldl (fun x1 x2 => x1 ++ x2) #[] (List.replicate m its.toArray) = (List.replicate m its).flatten.toArray := fun m => by
      have := foldl_rep its m []
      rw [List.nil_append] at this
      exact this
    rw [f0]
    cases its with
    | nil => simp
    | cons a r' => rw [if_neg (by simp)]
  refine wpAny_binaryOp_repeat_ref (T := "list") (U := "int") (by decide) ⟨_, e, rfl⟩ (fun s' => typeIs_int s' k t) noFill_list_mul F.fills_int_mul F.slot_int_rmul repeat_list F.slot_int_index.lookup
    (call_meets F.slot_int_rmul (typeIs_int s k t) F.entry_int_rmul (F.args_int_rmul_2 _ _) (int___rmul___int_list k t l its.toArray n)
      ⟨e, rfl, ⟨_, e, rfl⟩, call_meets F.slot_list_mul ⟨_, e, rfl⟩ F.entry_list_mul (F.args_list_mul_2 _ _) (AutoListH.list___mul___list_int_3 l its.toArray n k t hfit hcap hlong) ⟨e, ?_⟩⟩)
  rw [hnew]
  exact ⟨.ref _, _, I.lnew (t' := s.toks) (r.rep k.toNat) (by rw [PyProof.Rows.lm_len_rep_flat, Nat.mul_comm]; exact hz), rfl, q _ I.fresh⟩
end
variable [WLD]
theorem RepAll.rep {K : PySem.W.Frag} {ρ : List Addr} {H : Hp} {xs : List A} {vs : List V} (r : RepAll K ρ H xs vs) : ∀ k : Nat, RepAll K ρ H (List.replicate k xs).flatten (List.replicate k vs).flatten
  | 0 => .nil
  | k + 1 => by
    rw [List.replicate_succ, List.replicate_succ, List.flatten_cons, List.flatten_cons]
    exact r.append (RepAll.rep r k)
theorem rep_len {α : Type} (xs : List α) : ∀ k : Nat, (List.replicate k xs).flatten.length = xs.length * k
  | 0 => rfl
  | k + 1 => by
    rw [List.replicate_succ, List.flatten_cons, List.length_append, rep_len xs k, Nat.mul_succ]
    omega
theorem repL_w {K : PySem.W.Frag} {mg : Str → Option Value} {ρ : List Addr} {H : Hp} {M : Mem} {Q : VK} {E : Value → Option Addr → Hp → Prop} {a : A} {x : V} {k : Int} {o : Bool} (m : RepM K ρ H M) (ra : Rep K ρ H a x) (h : Post K mg (Rep K) ρ H (repL o k a M) Q E) : rRepX K x (.int k) H (Fz Q) := by
  simp only [repL] at h
  cases e1 : MP.asL M a with
  | none => rw [e1] at h; exact False.elim h
  | some xs =>
    rw [e1] at h
    simp only at h
    split at h
    · rename_i hk
      obtain ⟨l1, vs, rfl, s1, q1⟩ := ra.asL m e1
      obtain ⟨z, q⟩ := fin_lst m (q1.rep k.toNat) h
      have hl := q1.length
      rw [rep_len] at z
      exact ⟨l1, k, vs, rfl, rfl, s1, by omega, by omega, z, q⟩
    · exact False.elim h
theorem repA_w {K : PySem.W.Frag} {mg : Str → Option Value} {ρ : List Addr} {H : Hp} {M : Mem} {Q : VK} {E : Value → Option Addr → Hp → Prop} {a b : A} {x y : V} {o : Bool} (m : RepM K ρ H M) (ra : Rep K ρ H a x) (rb : Rep K ρ H b y) (h : Post K mg (Rep K) ρ H (repA o a b M) Q E) : rRepX K x y H (Fz Q) ∨ rRepTX K x y H (Fz Q) := by
  cases rb with
  | int k =>
    simp only [repA] at h
    cases ra with
    | @tup p xs vs s r =>
      simp only at h
      split at h
      · rename_i hk
        obtain ⟨k0, k1, k2, k3⟩ := hk
        have hl := r.length
        have hne : vs ≠ [] := by
          rintro rfl
          cases r
          exact Bool.noConfusion k0
        refine .inr ⟨p, k, vs, rfl, rfl, s, hne, k1, k2, by omega, fun e => ?_, fun _ q hq => ?_⟩
        · subst e
          have e1 : (List.replicate (1 : Int).toNat xs).flatten = xs := by
            show (List.replicate 1 xs).flatten = xs
            simp
          rw [e1] at h
          exact .inl (h (.ref p) ρ H (Grow.refl _ _) (.tup s r) m)
        · have g : Grow ρ H ρ (upd H q (.tup (List.replicate k.toNat vs).flatten)) := Grow.laid hq
          exact .inl (h (.ref q) ρ _ g (.tup (SqT.of upd_same) ((r.rep k.toNat).mono g)) (m.laid hq))
      · exact False.elim h
    | non => exact .inl (repL_w m .non h)
    | bl b => exact .inl (repL_w m (.bl b) h)
    | int b => exact .inl (repL_w m (.int b) h)
    | str b => exact .inl (repL_w m (.str b) h)
    | lst s r => exact .inl (repL_w m (.lst s r) h)
    | dct e => exact .inl (repL_w m (.dct e) h)
    | dctN h1 h2 h3 h4 => exact .inl (repL_w m (.dctN h1 h2 h3 h4) h)
    | ref e => exact .inl (repL_w m (.ref e) h)
  | _ => exact False.elim h
end MP

/-! printed by wip/genK.py: an empty dict is unequal to what is no dict -/
namespace MP
open PySem PySem.Spec PyProof.Rows PySem.SeqAt
open AutoSeq1 (wpAny_loadPart')
open MeetsSeq MeetsSeq2 MeetsSeq3 SeqRoads2
/-- a dict's object -/
def Dc (h : Heap) (l : Addr) (es : Array DictEntry) (n : Nat) (dd : Option Addr) (sl : Array (Option Value)) : Prop := h.get? l = some { cls := .type "dict", dict := dd, data := .dict es n, slots := sl }

theorem dc_dec_none {l : Addr} {es : Array DictEntry} {n : Nat} {dd : Option Addr} {sl : Array (Option Value)}  : Meets (Builtin.«dict.__eq__» ⟨[.ref l, .none], []⟩) (fun _ R s => Dc s.heap l es n dd sl ∧ R (.ok (.ret .notImplemented)) s) :=
  .of_wp fun prog w A R s hyp => by
    obtain ⟨hp, g, d, tk, os⟩ := s
    obtain ⟨hdc, hR⟩ := hyp
    have hl : hp.get? l = some { cls := .type "dict", dict := dd, data := .dict es n, slots := sl } := hdc
    have f1 := F.sub_NoneType_dict
    wp_walk using wpAny_loadPart' hl
    exact ⟨_, rfl, hR⟩
theorem dc_dec_bool {l : Addr} {es : Array DictEntry} {n : Nat} {dd : Option Addr} {sl : Array (Option Value)} (b : Bool) : Meets (Builtin.«dict.__eq__» ⟨[.ref l, .bool b], []⟩) (fun _ R s => Dc s.heap l es n dd sl ∧ R (.ok (.ret .notImplemented)) s) :=
  .of_wp fun prog w A R s hyp => by
    obtain ⟨hp, g, d, tk, os⟩ := s
    obtain ⟨hdc, hR⟩ := hyp
    have hl : hp.get? l = some { cls := .type "dict", dict := dd, data := .dict es n, slots := sl } := hdc
    have f1 := F.sub_bool_dict
    wp_walk using wpAny_loadPart' hl
    exact ⟨_, rfl, hR⟩
theorem dc_dec_int {l : Addr} {es : Array DictEntry} {n : Nat} {dd : Option Addr} {sl : Array (Option Value)} (b : Int) (u : Tok) : Meets (Builtin.«dict.__eq__» ⟨[.ref l, .int b u], []⟩) (fun _ R s => Dc s.heap l es n dd sl ∧ R (.ok (.ret .notImplemented)) s) :=
  .of_wp fun prog w A R s hyp => by
    obtain ⟨hp, g, d, tk, os⟩ := s
    obtain ⟨hdc, hR⟩ := hyp
    have hl : hp.get? l = some { cls := .type "dict", dict := dd, data := .dict es n, slots := sl } := hdc
    have f1 := F.sub_int_dict
    wp_walk using wpAny_loadPart' hl
    exact ⟨_, rfl, hR⟩
theorem dc_dec_str {l : Addr} {es : Array DictEntry} {n : Nat} {dd : Option Addr} {sl : Array (Option Value)} (b : Str) (u : Tok) : Meets (Builtin.«dict.__eq__» ⟨[.ref l, .str b u], []⟩) (fun _ R s => Dc s.heap l es n dd sl ∧ R (.ok (.ret .notImplemented)) s) :=
  .of_wp fun prog w A R s hyp => by
    obtain ⟨hp, g, d, tk, os⟩ := s
    obtain ⟨hdc, hR⟩ := hyp
    have hl : hp.get? l = some { cls := .type "dict", dict := dd, data := .dict es n, slots := sl } := hdc
    have f1 := F.sub_str_dict
    wp_walk using wpAny_loadPart' hl
    exact ⟨_, rfl, hR⟩
theorem bool_dec_dc {l : Addr} {es : Array DictEntry} {n : Nat} {dd : Option Addr} {sl : Array (Option Value)} (b : Bool) : Meets (Builtin.«int.__eq__» ⟨[.bool b, .ref l], []⟩) (fun _ R s => Dc s.heap l es n dd sl ∧ R (.ok (.ret .notImplemented)) s) :=
  .of_wp fun prog w A R s hyp => by
    obtain ⟨hp, g, d, tk, os⟩ := s
    obtain ⟨hdc, hR⟩ := hyp
    have hl : hp.get? l = some { cls := .type "dict", dict := dd, data := .dict es n, slots := sl } := hdc
    wp_walk using wpAny_loadPart' hl, wpAny_load hl
    exact ⟨_, rfl, hR⟩
theorem int_dec_dc {l : Addr} {es : Array DictEntry} {n : Nat} {dd : Option Addr} {sl : Array (Option Value)} (b : Int) (u : Tok) : Meets (Builtin.«int.__eq__» ⟨[.int b u, .ref l], []⟩) (fun _ R s => Dc s.heap l es n dd sl ∧ R (.ok (.ret .notImplemented)) s) :=
  .of_wp fun prog w A R s hyp => by
    obtain ⟨hp, g, d, tk, os⟩ := s
    obtain ⟨hdc, hR⟩ := hyp
    have hl : hp.get? l = some { cls := .type "dict", dict := dd, data := .dict es n, slots := sl } := hdc
    wp_walk using wpAny_loadPart' hl, wpAny_load hl
    exact ⟨_, rfl, hR⟩
theorem str_dec_dc {l : Addr} {es : Array DictEntry} {n : Nat} {dd : Option Addr} {sl : Array (Option Value)} (b : Str) (u : Tok) : Meets (Builtin.«str.__eq__» ⟨[.str b u, .ref l], []⟩) (fun _ R s => Dc s.heap l es n dd sl ∧ R (.ok (.ret .notImplemented)) s) :=
  .of_wp fun prog w A R s hyp => by
    obtain ⟨hp, g, d, tk, os⟩ := s
    obtain ⟨hdc, hR⟩ := hyp
    have hl : hp.get? l = some { cls := .type "dict", dict := dd, data := .dict es n, slots := sl } := hdc
    wp_walk using wpAny_loadPart' hl, wpAny_load hl
    exact ⟨_, rfl, hR⟩
theorem dc_dec_list {l b : Addr} {es : Array DictEntry} {n n2 : Nat} {dd dd2 : Option Addr} {sl sl2 : Array (Option Value)} {items : Array Value} : Meets (Builtin.«dict.__eq__» ⟨[.ref l, .ref b], []⟩)
    (fun _ R s => Dc s.heap l es n dd sl ∧ s.heap.get? b = some { cls := .type "list", dict := dd2, data := .seq items n2, slots := sl2 } ∧ R (.ok (.ret .notImplemented)) s) :=
  .of_wp fun prog w A R s hyp => by
    obtain ⟨hp, g, d, tk, os⟩ := s
    obtain ⟨hdc, hb, hR⟩ := hyp
    have hl : hp.get? l = some { cls := .type "dict", dict := dd, data := .dict es n, slots := sl } := hdc
    have f1 := F.sub_list_dict
    wp_walk using wpAny_loadPart' hl, wpAny_loadPart' hb
    exact ⟨_, rfl, hR⟩
theorem list_dec_dc {l b : Addr} {es : Array DictEntry} {n n2 : Nat} {dd dd2 : Option Addr} {sl sl2 : Array (Option Value)} {items : Array Value} : Meets (Builtin.«list.__eq__» ⟨[.ref b, .ref l], []⟩)
    (fun _ R s => Dc s.heap l es n dd sl ∧ s.heap.get? b = some { cls := .type "list", dict := dd2, data := .seq items n2, slots := sl2 } ∧ R (.ok (.ret .notImplemented)) s) :=
  .of_wp fun prog w A R s hyp => by
    obtain ⟨hp, g, d, tk, os⟩ := s
    obtain ⟨hdc, hb, hR⟩ := hyp
    have hl : hp.get? l = some { cls := .type "dict", dict := dd, data := .dict es n, slots := sl } := hdc
    have f1 := F.sub_dict_list
    wp_walk using wpAny_loadPart' hb, wpAny_loadPart' hl
    exact ⟨_, rfl, hR⟩
theorem dc_dec_tuple {l b : Addr} {es : Array DictEntry} {n n2 : Nat} {dd dd2 : Option Addr} {sl sl2 : Array (Option Value)} {items : Array Value} : Meets (Builtin.«dict.__eq__» ⟨[.ref l, .ref b], []⟩)
    (fun _ R s => Dc s.heap l es n dd sl ∧ s.heap.get? b = some { cls := .type "tuple", dict := dd2, data := .seq items n2, slots := sl2 } ∧ R (.ok (.ret .notImplemented)) s) :=
  .of_wp fun prog w A R s hyp => by
    obtain ⟨hp, g, d, tk, os⟩ := s
    obtain ⟨hdc, hb, hR⟩ := hyp
    have hl : hp.get? l = some { cls := .type "dict", dict := dd, data := .dict es n, slots := sl } := hdc
    have f1 := F.sub_tuple_dict
    wp_walk using wpAny_loadPart' hl, wpAny_loadPart' hb
    exact ⟨_, rfl, hR⟩
theorem tuple_dec_dc {l b : Addr} {es : Array DictEntry} {n n2 : Nat} {dd dd2 : Option Addr} {sl sl2 : Array (Option Value)} {items : Array Value} : Meets (Builtin.«tuple.__eq__» ⟨[.ref b, .ref l], []⟩)
    (fun _ R s => Dc s.heap l es n dd sl ∧ s.heap.get? b = some { cls := .type "tuple", dict := dd2, data := .seq items n2, slots := sl2 } ∧ R (.ok (.ret .notImplemented)) s) :=
  .of_wp fun prog w A R s hyp => by
    obtain ⟨hp, g, d, tk, os⟩ := s
    obtain ⟨hdc, hb, hR⟩ := hyp
    have hl : hp.get? l = some { cls := .type "dict", dict := dd, data := .dict es n, slots := sl } := hdc
    have f1 := F.sub_dict_tuple
    wp_walk using wpAny_loadPart' hb, wpAny_loadPart' hl
    exact ⟨_, rfl, hR⟩
section
variable {A : Around} {s : Shared} {l b : Addr} {es : Array DictEntry} {n n2 : Nat} {dd dd2 : Option Addr} {sl sl2 : Array (Option Value)} {items : Array Value}
theorem rc_dc_none  (ho : Dc s.heap l es n dd sl) (hu : A.units < cLine) : RcAt A s (.ref l) (.none) false := fun prog w E Q h => by
  have hl : s.heap.get? l = some { cls := .type "dict", dict := dd, data := .dict es n, slots := sl } := ho
  exact rc_eq_decline_or (k := false) ⟨_, hl, rfl⟩ rfl (by decide) F.sub_NoneType_dict F.slot_dict_eq F.slot_NoneType_eq_refl
    (fun _ hq => call_meets F.slot_dict_eq ⟨_, hl, rfl⟩ F.entry_dict_eq (F.args_dict_eq_2 _ _) (dc_dec_none ) ⟨ho, hq⟩)
    (fun _ hq => call_gives F.slot_NoneType_eq_refl rfl F.entry_NoneType_eq (F.args_NoneType_eq_2 _ _) (NoneType___eq___none_ref_0 l) hq)
    (fun _ hq => wpAny_of_eq (rfl : isSame (.ref l) (.none) = pure false) hq) (.inr hu) h
theorem rc_none_dc  (ho : Dc s.heap l es n dd sl) (hu : A.units < cLine) : RcAt A s (.none) (.ref l) false := fun prog w E Q h => by
  have hl : s.heap.get? l = some { cls := .type "dict", dict := dd, data := .dict es n, slots := sl } := ho
  exact rc_eq_decline_or (k := false) rfl ⟨_, hl, rfl⟩ (by decide) F.sub_dict_NoneType F.slot_NoneType_eq F.slot_dict_eq_refl
    (fun _ hq => call_gives F.slot_NoneType_eq rfl F.entry_NoneType_eq (F.args_NoneType_eq_2 _ _) (NoneType___eq___none_ref_0 l) hq)
    (fun _ hq => call_meets F.slot_dict_eq_refl ⟨_, hl, rfl⟩ F.entry_dict_eq (F.args_dict_eq_2 _ _) (dc_dec_none ) ⟨ho, hq⟩)
    (fun _ hq => wpAny_of_eq (rfl : isSame (.none) (.ref l) = pure false) hq) (.inr hu) h
theorem eq_dc_none  (ho : Dc s.heap l es n dd sl) (hu : A.units < cLine) : EqAt A s (.ref l) (.none) false := fun prog w E Q h => by
  unfold eqBool
  refine wpAny_holding (wpAny_ite_split (fun z => absurd (eq_of_beq z) nofun) fun _ => ?_)
  exact wpAny_bind (rc_dc_none  ho hu prog w E _ (wpAny_truthy_bool h))
theorem eq_none_dc  (ho : Dc s.heap l es n dd sl) (hu : A.units < cLine) : EqAt A s (.none) (.ref l) false := fun prog w E Q h => by
  unfold eqBool
  refine wpAny_holding (wpAny_ite_split (fun z => absurd (eq_of_beq z) nofun) fun _ => ?_)
  exact wpAny_bind (rc_none_dc  ho hu prog w E _ (wpAny_truthy_bool h))
theorem rc_dc_bool (b : Bool) (ho : Dc s.heap l es n dd sl) (hu : A.units < cLine) : RcAt A s (.ref l) (.bool b) false := fun prog w E Q h => by
  have hl : s.heap.get? l = some { cls := .type "dict", dict := dd, data := .dict es n, slots := sl } := ho
  exact rc_eq_decline_or (k := false) ⟨_, hl, rfl⟩ rfl (by decide) F.sub_bool_dict F.slot_dict_eq F.slot_bool_eq_refl
    (fun _ hq => call_meets F.slot_dict_eq ⟨_, hl, rfl⟩ F.entry_dict_eq (F.args_dict_eq_2 _ _) (dc_dec_bool b) ⟨ho, hq⟩)
    (fun _ hq => call_meets F.slot_bool_eq_refl rfl F.entry_int_eq (F.args_int_eq_2 _ _) (bool_dec_dc b) ⟨ho, hq⟩)
    (fun _ hq => wpAny_of_eq (rfl : isSame (.ref l) (.bool b) = pure false) hq) (.inr hu) h
theorem rc_bool_dc (b : Bool) (ho : Dc s.heap l es n dd sl) (hu : A.units < cLine) : RcAt A s (.bool b) (.ref l) false := fun prog w E Q h => by
  have hl : s.heap.get? l = some { cls := .type "dict", dict := dd, data := .dict es n, slots := sl } := ho
  exact rc_eq_decline_or (k := false) rfl ⟨_, hl, rfl⟩ (by decide) F.sub_dict_bool F.slot_bool_eq F.slot_dict_eq_refl
    (fun _ hq => call_meets F.slot_bool_eq rfl F.entry_int_eq (F.args_int_eq_2 _ _) (bool_dec_dc b) ⟨ho, hq⟩)
    (fun _ hq => call_meets F.slot_dict_eq_refl ⟨_, hl, rfl⟩ F.entry_dict_eq (F.args_dict_eq_2 _ _) (dc_dec_bool b) ⟨ho, hq⟩)
    (fun _ hq => wpAny_of_eq (rfl : isSame (.bool b) (.ref l) = pure false) hq) (.inr hu) h
theorem eq_dc_bool (b : Bool) (ho : Dc s.heap l es n dd sl) (hu : A.units < cLine) : EqAt A s (.ref l) (.bool b) false := fun prog w E Q h => by
  unfold eqBool
  refine wpAny_holding (wpAny_ite_split (fun z => absurd (eq_of_beq z) nofun) fun _ => ?_)
  exact wpAny_bind (rc_dc_bool b ho hu prog w E _ (wpAny_truthy_bool h))
theorem eq_bool_dc (b : Bool) (ho : Dc s.heap l es n dd sl) (hu : A.units < cLine) : EqAt A s (.bool b) (.ref l) false := fun prog w E Q h => by
  unfold eqBool
  refine wpAny_holding (wpAny_ite_split (fun z => absurd (eq_of_beq z) nofun) fun _ => ?_)
  exact wpAny_bind (rc_bool_dc b ho hu prog w E _ (wpAny_truthy_bool h))
theorem rc_dc_int (b : Int) (u : Tok) (ho : Dc s.heap l es n dd sl) (hu : A.units < cLine) : RcAt A s (.ref l) (.int b u) false := fun prog w E Q h => by
  have hl : s.heap.get? l = some { cls := .type "dict", dict := dd, data := .dict es n, slots := sl } := ho
  exact rc_eq_decline_or (k := false) ⟨_, hl, rfl⟩ (typeIs_int s b u) (by decide) F.sub_int_dict F.slot_dict_eq F.slot_int_eq_refl
    (fun _ hq => call_meets F.slot_dict_eq ⟨_, hl, rfl⟩ F.entry_dict_eq (F.args_dict_eq_2 _ _) (dc_dec_int b u) ⟨ho, hq⟩)
    (fun _ hq => call_meets F.slot_int_eq_refl (typeIs_int s b u) F.entry_int_eq (F.args_int_eq_2 _ _) (int_dec_dc b u) ⟨ho, hq⟩)
    (fun _ hq => wpAny_of_eq (rfl : isSame (.ref l) (.int b u) = pure false) hq) (.inr hu) h
theorem rc_int_dc (b : Int) (u : Tok) (ho : Dc s.heap l es n dd sl) (hu : A.units < cLine) : RcAt A s (.int b u) (.ref l) false := fun prog w E Q h => by
  have hl : s.heap.get? l = some { cls := .type "dict", dict := dd, data := .dict es n, slots := sl } := ho
  exact rc_eq_decline_or (k := false) (typeIs_int s b u) ⟨_, hl, rfl⟩ (by decide) F.sub_dict_int F.slot_int_eq F.slot_dict_eq_refl
    (fun _ hq => call_meets F.slot_int_eq (typeIs_int s b u) F.entry_int_eq (F.args_int_eq_2 _ _) (int_dec_dc b u) ⟨ho, hq⟩)
    (fun _ hq => call_meets F.slot_dict_eq_refl ⟨_, hl, rfl⟩ F.entry_dict_eq (F.args_dict_eq_2 _ _) (dc_dec_int b u) ⟨ho, hq⟩)
    (fun _ hq => wpAny_of_eq (rfl : isSame (.int b u) (.ref l) = pure false) hq) (.inr hu) h
theorem eq_dc_int (b : Int) (u : Tok) (ho : Dc s.heap l es n dd sl) (hu : A.units < cLine) : EqAt A s (.ref l) (.int b u) false := fun prog w E Q h => by
  unfold eqBool
  refine wpAny_holding (wpAny_ite_split (fun z => absurd (eq_of_beq z) nofun) fun _ => ?_)
  exact wpAny_bind (rc_dc_int b u ho hu prog w E _ (wpAny_truthy_bool h))
theorem eq_int_dc (b : Int) (u : Tok) (ho : Dc s.heap l es n dd sl) (hu : A.units < cLine) : EqAt A s (.int b u) (.ref l) false := fun prog w E Q h => by
  unfold eqBool
  refine wpAny_holding (wpAny_ite_split (fun z => absurd (eq_of_beq z) nofun) fun _ => ?_)
  exact wpAny_bind (rc_int_dc b u ho hu prog w E _ (wpAny_truthy_bool h))
theorem rc_dc_str (b : Str) (u : Tok) (ho : Dc s.heap l es n dd sl) (hu : A.units < cLine) : RcAt A s (.ref l) (.str b u) false := fun prog w E Q h => by
  have hl : s.heap.get? l = some { cls := .type "dict", dict := dd, data := .dict es n, slots := sl } := ho
  exact rc_eq_decline_or (k := false) ⟨_, hl, rfl⟩ (typeIs_str s b u) (by decide) F.sub_str_dict F.slot_dict_eq F.slot_str_eq_refl
    (fun _ hq => call_meets F.slot_dict_eq ⟨_, hl, rfl⟩ F.entry_dict_eq (F.args_dict_eq_2 _ _) (dc_dec_str b u) ⟨ho, hq⟩)
    (fun _ hq => call_meets F.slot_str_eq_refl (typeIs_str s b u) F.entry_str_eq (F.args_str_eq_2 _ _) (str_dec_dc b u) ⟨ho, hq⟩)
    (fun _ hq => wpAny_of_eq (rfl : isSame (.ref l) (.str b u) = pure false) hq) (.inr hu) h
theorem rc_str_dc (b : Str) (u : Tok) (ho : Dc s.heap l es n dd sl) (hu : A.units < cLine) : RcAt A s (.str b u) (.ref l) false := fun prog w E Q h => by
  have hl : s.heap.get? l = some { cls := .type "dict", dict := dd, data := .dict es n, slots := sl } := ho
  exact rc_eq_decline_or (k := false) (typeIs_str s b u) ⟨_, hl, rfl⟩ (by decide) F.sub_dict_str F.slot_str_eq F.slot_dict_eq_refl
    (fun _ hq => call_meets F.slot_str_eq (typeIs_str s b u) F.entry_str_eq (F.args_str_eq_2 _ _) (str_dec_dc b u) ⟨ho, hq⟩)
    (fun _ hq => call_meets F.slot_dict_eq_refl ⟨_, hl, rfl⟩ F.entry_dict_eq (F.args_dict_eq_2 _ _) (dc_dec_str b u) ⟨ho, hq⟩)
    (fun _ hq => wpAny_of_eq (rfl : isSame (.str b u) (.ref l) = pure false) hq) (.inr hu) h
theorem eq_dc_str (b : Str) (u : Tok) (ho : Dc s.heap l es n dd sl) (hu : A.units < cLine) : EqAt A s (.ref l) (.str b u) false := fun prog w E Q h => by
  unfold eqBool
  refine wpAny_holding (wpAny_ite_split (fun z => absurd (eq_of_beq z) nofun) fun _ => ?_)
  exact wpAny_bind (rc_dc_str b u ho hu prog w E _ (wpAny_truthy_bool h))
theorem eq_str_dc (b : Str) (u : Tok) (ho : Dc s.heap l es n dd sl) (hu : A.units < cLine) : EqAt A s (.str b u) (.ref l) false := fun prog w E Q h => by
  unfold eqBool
  refine wpAny_holding (wpAny_ite_split (fun z => absurd (eq_of_beq z) nofun) fun _ => ?_)
  exact wpAny_bind (rc_str_dc b u ho hu prog w E _ (wpAny_truthy_bool h))
theorem rc_dc_list (ho : Dc s.heap l es n dd sl) (hb : s.heap.get? b = some { cls := .type "list", dict := dd2, data := .seq items n2, slots := sl2 }) (hne : l ≠ b) (hu : A.units < cLine) : RcAt A s (.ref l) (.ref b) false := fun prog w E Q h => by
  have hl : s.heap.get? l = some { cls := .type "dict", dict := dd, data := .dict es n, slots := sl } := ho
  exact rc_eq_decline_or (k := false) ⟨_, hl, rfl⟩ ⟨_, hb, rfl⟩ (by decide) F.sub_list_dict F.slot_dict_eq F.slot_list_eq_refl
    (fun _ hq => call_meets F.slot_dict_eq ⟨_, hl, rfl⟩ F.entry_dict_eq (F.args_dict_eq_2 _ _) dc_dec_list ⟨ho, hb, hq⟩)
    (fun _ hq => call_meets F.slot_list_eq_refl ⟨_, hb, rfl⟩ F.entry_list_eq (F.args_list_eq_2 _ _) list_dec_dc ⟨ho, hb, hq⟩)
    (fun _ hq => wpAny_isSame_ref_other hne hl hb (by simp) hq) (.inr hu) h
theorem rc_list_dc (ho : Dc s.heap l es n dd sl) (hb : s.heap.get? b = some { cls := .type "list", dict := dd2, data := .seq items n2, slots := sl2 }) (hne : b ≠ l) (hu : A.units < cLine) : RcAt A s (.ref b) (.ref l) false := fun prog w E Q h => by
  have hl : s.heap.get? l = some { cls := .type "dict", dict := dd, data := .dict es n, slots := sl } := ho
  exact rc_eq_decline_or (k := false) ⟨_, hb, rfl⟩ ⟨_, hl, rfl⟩ (by decide) F.sub_dict_list F.slot_list_eq F.slot_dict_eq_refl
    (fun _ hq => call_meets F.slot_list_eq ⟨_, hb, rfl⟩ F.entry_list_eq (F.args_list_eq_2 _ _) list_dec_dc ⟨ho, hb, hq⟩)
    (fun _ hq => call_meets F.slot_dict_eq_refl ⟨_, hl, rfl⟩ F.entry_dict_eq (F.args_dict_eq_2 _ _) dc_dec_list ⟨ho, hb, hq⟩)
    (fun _ hq => wpAny_isSame_ref_other hne hb hl (by simp) hq) (.inr hu) h
theorem rc_dc_tuple (ho : Dc s.heap l es n dd sl) (hb : s.heap.get? b = some { cls := .type "tuple", dict := dd2, data := .seq items n2, slots := sl2 }) (hne : l ≠ b) (hu : A.units < cLine) : RcAt A s (.ref l) (.ref b) false := fun prog w E Q h => by
  have hl : s.heap.get? l = some { cls := .type "dict", dict := dd, data := .dict es n, slots := sl } := ho
  exact rc_eq_decline_or (k := false) ⟨_, hl, rfl⟩ ⟨_, hb, rfl⟩ (by decide) F.sub_tuple_dict F.slot_dict_eq F.slot_tuple_eq_refl
    (fun _ hq => call_meets F.slot_dict_eq ⟨_, hl, rfl⟩ F.entry_dict_eq (F.args_dict_eq_2 _ _) dc_dec_tuple ⟨ho, hb, hq⟩)
    (fun _ hq => call_meets F.slot_tuple_eq_refl ⟨_, hb, rfl⟩ F.entry_tuple_eq (F.args_tuple_eq_2 _ _) tuple_dec_dc ⟨ho, hb, hq⟩)
    (fun _ hq => wpAny_isSame_ref_other hne hl hb (by simp) hq) (.inr hu) h
theorem rc_tuple_dc (ho : Dc s.heap l es n dd sl) (hb : s.heap.get? b = some { cls := .type "tuple", dict := dd2, data := .seq items n2, slots := sl2 }) (hne : b ≠ l) (hu : A.units < cLine) : RcAt A s (.ref b) (.ref l) false := fun prog w E Q h => by
  have hl : s.heap.get? l = some { cls := .type "dict", dict := dd, data := .dict es n, slots := sl } := ho
  exact rc_eq_decline_or (k := false) ⟨_, hb, rfl⟩ ⟨_, hl, rfl⟩ (by decide) F.sub_dict_tuple F.slot_tuple_eq F.slot_dict_eq_refl
    (fun _ hq => call_meets F.slot_tuple_eq ⟨_, hb, rfl⟩ F.entry_tuple_eq (F.args_tuple_eq_2 _ _) tuple_dec_dc ⟨ho, hb, hq⟩)
    (fun _ hq => call_meets F.slot_dict_eq_refl ⟨_, hl, rfl⟩ F.entry_dict_eq (F.args_dict_eq_2 _ _) dc_dec_tuple ⟨ho, hb, hq⟩)
    (fun _ hq => wpAny_isSame_ref_other' hne hb hl (by simp) hq) (.inr hu) h
end
end MP

/-! MP, part L: == of trees, empty dicts within -/
namespace MP
variable [WLD]
open PySem PySem.Spec PyProof.Rows L2
theorem eqTs_range : ∀ xs ys : List A, ((List.range (min xs.length ys.length)).all (fun j => eqT (xs.getD j .non) (ys.getD j .non)) && (xs.length == ys.length)) = eqTs xs ys
  | [], [] => by simp [eqTs]
  | [], y :: ys => by simp [eqTs]
  | x :: xs, [] => by simp [eqTs]
  | x :: xs, y :: ys => by
    have ih := eqTs_range xs ys
    have e : min (x :: xs).length (y :: ys).length = min xs.length ys.length + 1 := by
      simp only [List.length_cons]; omega
    rw [e, List.range_succ_eq_map, List.all_cons, List.all_map]
    simp only [eqTs, ← ih, List.getD_cons_zero, Bool.and_assoc]
    congr 1
    congr 1
    simp
section
variable {X : Cx} {pins : List (Addr × Obj)} {σ : L2.St} {H : Hp} {s : Shared} {ρ : List Addr}
theorem vals_get {vs : List V} {us : List Value} (r : Vals vs us) : ∀ {j : Nat} {v : V}, vs[j]? = some v → ∃ u, us[j]? = some u ∧ RelV v u := by
  induction r with
  | nil => intro j v h; simp at h
  | cons a b ih =>
    intro j v h
    cases j with
    | zero => simp at h; subst h; exact ⟨_, by simp, a⟩
    | succ j => simpa using ih (by simpa using h)
/-- what a list's or a tuple's items are -/
theorem item_at {xs : List A} {vs : List V} {us : List Value} (r : RepAll X.K ρ H xs vs) (q : Vals vs us) {j : Nat} (h : j < us.length) : ∃ v, Rep X.K ρ H (xs.getD j .non) v ∧ RelV v us[j] ∧ xs.getD j .non ∈ xs := by
  have hl := r.length
  have hl2 := q.length
  have hj : j < xs.length := by omega
  obtain ⟨v, h1, h2⟩ := r.get (List.getElem?_eq_getElem hj)
  obtain ⟨u, h3, h4⟩ := vals_get q h1
  rw [List.getElem?_eq_getElem h] at h3
  cases h3
  have e : xs.getD j .non = xs[j] := by simp [hj]
  rw [e]
  exact ⟨v, h2, h4, List.getElem_mem hj⟩
theorem eqTs_of {F : A → A → Prop} (f : ∀ x y, F x y → eqT x y = true) : ∀ {xs ys : List A}, Paired F xs ys → eqTs xs ys = true
  | _, _, .nil => by simp [eqTs]
  | _, _, .cons h t => by simp only [eqTs, f _ _ h, eqTs_of f t, Bool.and_self]
/-- two trees of one value -/
theorem same_val (I : Inv X pins σ H s) : ∀ (n : Nat) (x y : A) (v : V), pl n x = true → pl n y = true → Rep X.K ρ H x v → Rep X.K ρ H y v → eqT x y = true := by
  intro n
  have lists : ∀ n, (∀ (x y : A) (v : V), pl n x = true → pl n y = true → Rep X.K ρ H x v → Rep X.K ρ H y v → eqT x y = true) → ∀ (xs ys : List A) (vs : List V), xs.all (pl n) = true → ys.all (pl n) = true → RepAll X.K ρ H xs vs → RepAll X.K ρ H ys vs → eqTs xs ys = true := by
    intro n ih xs
    induction xs with
    | nil =>
      intro ys vs _ _ r q
      cases r
      cases q
      simp [eqTs]
    | cons x xs ihx =>
      intro ys vs h1 h2 r q
      cases r with
      | cons r1 r2 =>
        cases q with
        | cons q1 q2 =>
          simp only [List.all_cons, Bool.and_eq_true] at h1 h2
          simp only [eqTs, ih _ _ _ h1.1 h2.1 r1 q1, ihx _ _ h1.2 h2.2 r2 q2, Bool.and_self]
  have lt_ : ∀ {a : Addr} {vs ws : List V}, FzL X.K H a vs → SqT X.K H a ws → False := fun {a vs ws} h1 h2 => by
    obtain ⟨its, n, r, ho, _⟩ := MP.Inv.listX I h1.sx
    obtain ⟨its2, r2, ⟨o, ho2, hc, _⟩, _⟩ := I.tuple h2
    rw [ho] at ho2
    cases ho2
    simp at hc
  have ld : ∀ {a : Addr} {vs : List V} {o : Obj}, FzL X.K H a vs → H a = some (.frz o (.dK [])) → False := fun {a vs o} h1 h2 => by
    obtain ⟨its, n, r, ho, _⟩ := MP.Inv.listX I h1.sx
    obtain ⟨e1, _, _, _, _, o2, _, _, e2, hx, _⟩ := I.hok _ _ h2
    rw [ho] at e2
    cases e2
    have z := hx.1
    simp at z
  have td : ∀ {a : Addr} {vs : List V} {o : Obj}, SqT X.K H a vs → H a = some (.frz o (.dK [])) → False := fun {a vs o} h1 h2 => by
    obtain ⟨its2, r2, ⟨o3, ho2, hc, _⟩, _⟩ := I.tuple h1
    obtain ⟨e1, _, _, _, _, o2, _, _, e2, hx, _⟩ := I.hok _ _ h2
    rw [ho2] at e2
    cases e2
    rw [hx.1] at hc
    simp at hc
  induction n with
  | zero =>
    intro x y v h1 h2 r q
    cases r <;> cases q <;> first | (simp [eqT]; done) | exact Bool.noConfusion h1 | exact Bool.noConfusion h2 | (simp [eqT])
  | succ n ih =>
    intro x y v h1 h2 r q
    cases r with
    | tup s1 r1 =>
      cases q with
      | tup s2 r2 =>
        have e := I.tuple_inj s1 s2
        subst e
        simp only [eqT]
        exact lists n ih _ _ _ h1 h2 r1 r2
      | lst s2 _ => exact (lt_ s2 s1).elim
      | dct e => exact (td s1 e).elim
      | ref _ => exact Bool.noConfusion h2
      | dctN => exact Bool.noConfusion h2
    | lst s1 r1 =>
      cases q with
      | tup s2 _ => exact (lt_ s1 s2).elim
      | lst s2 r2 =>
        have e := I.list_inj s1.sq s2.sq
        subst e
        simp only [eqT]
        exact lists n ih _ _ _ h1 h2 r1 r2
      | dct e => exact (ld s1 e).elim
      | ref _ => exact Bool.noConfusion h2
      | dctN => exact Bool.noConfusion h2
    | dct e =>
      cases q with
      | tup s2 _ => exact (td s2 e).elim
      | lst s2 _ => exact (ld s2 e).elim
      | dct _ => simp [eqT]
      | ref _ => exact Bool.noConfusion h2
      | dctN => exact Bool.noConfusion h2
    | ref _ => exact Bool.noConfusion h1
    | dctN => exact Bool.noConfusion h1
    | non => cases q; simp [eqT]
    | bl b => cases q; simp [eqT]
    | int i => cases q; simp [eqT]
    | str z => cases q; simp [eqT]

open PySem.SeqAt
/-- an empty dict -/
def Dc0 (h : Heap) (a : Addr) : Prop := (a == sysModules) = false ∧ ∃ n, Dc h a #[] n none #[]
theorem dc_of (I : Inv X pins σ H s) {a : Addr} {o : Obj} (e : H a = some (.frz o (.dK []))) : Dc0 s.heap a := by
  obtain ⟨_, _, hsys, vs, kv, o2, es, ep, e2, hx, hd, _, hp, _⟩ := I.hok _ _ e
  cases kv
  obtain ⟨c, dd, data, sl⟩ := o2
  obtain ⟨h1, h2, h3⟩ := hx
  have he : es = #[] := by
    have : es.toList = [] := by
      revert hp
      generalize es.toList = l
      intro hp
      cases hp
      rfl
    cases es
    simpa using this
  simp only at h1 h2 h3 hd
  subst h1 h2 h3 hd he
  exact ⟨hsys, ep, e2⟩
theorem Dc0.of {h : Heap} {a : Addr} (d : Dc0 h a) (prog : Program) (w : World) : h.DictOf (mixKind prog w) a ([] : List (Key × Value)) := by
  obtain ⟨_, n, e⟩ := d
  exact ⟨_, #[], n, e, ⟨rfl, rfl, rfl⟩, rfl, by intro z hz; simp at hz, .nil, List.nodup_nil⟩
theorem eq_dc_dc {Ar : Around} {l b : Addr} (h1 : Dc0 s.heap l) (h2 : Dc0 s.heap b) (hu : Ar.units < cLine) : EqAt Ar s (.ref l) (.ref b) true := by
  by_cases e : l = b
  · subst e; exact EqAt.same _
  · refine EqAt.of_refs e fun prog w E Q h => ?_
    exact PySem.W.rcP_dicts (prog := prog) (w := w) (knd := mixKind prog w) (r := true) h1.1 h2.1 (h1.of prog w) (h2.of prog w) hu (fun _ => .nil) E Q h
theorem li_of (I : Inv X pins σ H s) {a : Addr} {vs : List V} (h : FzL X.K H a vs) : ∃ its : List Value, Vals vs its ∧ s.heap.IsList a its.toArray ∧ ∃ o, s.heap.get? a = some o ∧ ∃ n, o = { cls := .type "list", data := .seq its.toArray n } := by
  obtain ⟨its, n, r, ho, _⟩ := MP.Inv.listX I h.sx
  exact ⟨its, r, ⟨_, ho, rfl, n, rfl⟩, _, ho, n, rfl⟩
theorem tu_of (I : Inv X pins σ H s) {a : Addr} {vs : List V} (h : SqT X.K H a vs) : ∃ its : List Value, Vals vs its ∧ s.heap.IsTuple a its.toArray := by
  obtain ⟨its, r, p, _⟩ := I.tuple h
  exact ⟨its, r, p⟩
theorem dc_li {Ar : Around} {l b : Addr} {its : Array Value} (h1 : Dc0 s.heap l) (h2 : s.heap.IsList b its) (hu : Ar.units < cLine) : EqAt Ar s (.ref l) (.ref b) false ∧ EqAt Ar s (.ref b) (.ref l) false := by
  obtain ⟨⟨c, dd, da, sl⟩, ho, hc, n, hd⟩ := h2
  simp only at hc hd
  subst hc hd
  obtain ⟨_, m, e⟩ := h1
  have ne : l ≠ b := fun z => by
    subst z
    have e' : s.heap.get? l = _ := e
    rw [ho] at e'
    simp at e'
  exact ⟨EqAt.of_refs ne (rc_dc_list e ho ne hu), EqAt.of_refs ne.symm (rc_list_dc e ho ne.symm hu)⟩
theorem dc_tu {Ar : Around} {l b : Addr} {its : Array Value} (h1 : Dc0 s.heap l) (h2 : s.heap.IsTuple b its) (hu : Ar.units < cLine) : EqAt Ar s (.ref l) (.ref b) false ∧ EqAt Ar s (.ref b) (.ref l) false := by
  obtain ⟨⟨c, dd, da, sl⟩, ho, hc, n, hd⟩ := h2
  simp only at hc hd
  subst hc hd
  obtain ⟨_, m, e⟩ := h1
  have ne : l ≠ b := fun z => by
    subst z
    have e' : s.heap.get? l = _ := e
    rw [ho] at e'
    simp at e'
  exact ⟨EqAt.of_refs ne (rc_dc_tuple e ho ne hu), EqAt.of_refs ne.symm (rc_tuple_dc e ho ne.symm hu)⟩
abbrev IhT (X : Cx) (s : Shared) (ρ : List Addr) (H : Hp) (n : Nat) : Prop := ∀ (Ar : Around) (x y : A) (v w : V) (u t : Value), pl n x = true → pl n y = true → Rep X.K ρ H x v → Rep X.K ρ H y w → RelV v u → RelV w t → Ar.units + n < cLine → EqAt Ar s u t (eqT x y)
theorem tups {n : Nat} (ih : IhT X s ρ H n) (I : Inv X pins σ H s) {Ar : Around} {xs ys : List A} {a b : Addr} {vs ws : List V} (h1 : pl (n + 1) (.tup xs) = true) (h2 : pl (n + 1) (.tup ys) = true) (s1 : SqT X.K H a vs) (r1 : RepAll X.K ρ H xs vs) (s2 : SqT X.K H b ws) (r2 : RepAll X.K ρ H ys ws) (hu : Ar.units + (n + 1) < cLine) : EqAt Ar s (.ref a) (.ref b) (eqT (.tup xs) (.tup ys)) := by
  obtain ⟨i1, v1, l1⟩ := tu_of I s1
  obtain ⟨i2, v2, l2⟩ := tu_of I s2
  by_cases e : a = b
  · subst e
    rw [same_val I (n + 1) _ _ _ h1 h2 (.tup s1 r1) (.tup s2 r2)]
    exact EqAt.same _
  · have k := RcAt.tuples (A := Ar) (e := fun j => eqT (xs.getD j .non) (ys.getD j .non)) l1 l2 (by omega) fun j q1 q2 => by
      obtain ⟨x, p1, p2, p3⟩ := item_at r1 v1 (j := j) (by simpa using q1)
      obtain ⟨y, p4, p5, p6⟩ := item_at r2 v2 (j := j) (by simpa using q2)
      exact ih Ar.in1 _ _ _ _ _ _ (List.all_eq_true.mp h1 _ p3) (List.all_eq_true.mp h2 _ p6) p1 p4 (by simpa using p2) (by simpa using p5) (by show Ar.units + 1 + n < cLine; omega)
    have e1 : i1.toArray.size = xs.length := by rw [List.size_toArray, ← v1.length, r1.length]
    have e2 : i2.toArray.size = ys.length := by rw [List.size_toArray, ← v2.length, r2.length]
    rw [e1, e2, eqTs_range] at k
    have z : eqT (.tup xs) (.tup ys) = eqTs xs ys := by simp only [eqT]
    rw [z]
    exact EqAt.of_refs e k
theorem eqTs_len : ∀ {xs ys : List A}, xs.length ≠ ys.length → eqTs xs ys = false
  | [], [], h => absurd rfl h
  | [], _ :: _, _ => by simp [eqTs]
  | _ :: _, [], _ => by simp [eqTs]
  | x :: xs, y :: ys, h => by
    simp only [eqTs, eqTs_len (xs := xs) (ys := ys) (fun e => h (by simp [e])), Bool.and_false]
theorem lsts {n : Nat} (ih : IhT X s ρ H n) (I : Inv X pins σ H s) {Ar : Around} {xs ys : List A} {a b : Addr} {vs ws : List V} (h1 : pl (n + 1) (.lst xs) = true) (h2 : pl (n + 1) (.lst ys) = true) (s1 : FzL X.K H a vs) (r1 : RepAll X.K ρ H xs vs) (s2 : FzL X.K H b ws) (r2 : RepAll X.K ρ H ys ws) (hu : Ar.units + (n + 1) < cLine) : EqAt Ar s (.ref a) (.ref b) (eqT (.lst xs) (.lst ys)) := by
  obtain ⟨i1, v1, l1, _⟩ := li_of I s1
  obtain ⟨i2, v2, l2, _⟩ := li_of I s2
  have e1 : i1.toArray.size = xs.length := by rw [List.size_toArray, ← v1.length, r1.length]
  have e2 : i2.toArray.size = ys.length := by rw [List.size_toArray, ← v2.length, r2.length]
  have z : eqT (.lst xs) (.lst ys) = eqTs xs ys := by simp only [eqT]
  by_cases e : a = b
  · subst e
    rw [same_val I (n + 1) _ _ _ h1 h2 (.lst s1 r1) (.lst s2 r2)]
    exact EqAt.same _
  · by_cases hl : xs.length = ys.length
    · have k := RcAt.lists (A := Ar) (e := fun j => eqT (xs.getD j .non) (ys.getD j .non)) l1 l2 (by rw [e1, e2]; exact hl) (by omega) fun j q1 q2 => by
        obtain ⟨x, p1, p2, p3⟩ := item_at r1 v1 (j := j) (by simpa using q1)
        obtain ⟨y, p4, p5, p6⟩ := item_at r2 v2 (j := j) (by simpa using q2)
        exact ih Ar.in1 _ _ _ _ _ _ (List.all_eq_true.mp h1 _ p3) (List.all_eq_true.mp h2 _ p6) p1 p4 (by simpa using p2) (by simpa using p5) (by show Ar.units + 1 + n < cLine; omega)
      have f := eqTs_range xs ys
      rw [← hl, Nat.min_self, beq_self_eq_true, Bool.and_true] at f
      rw [e1, f] at k
      rw [z]
      exact EqAt.of_refs e k
    · rw [z, eqTs_len hl]
      exact EqAt.of_refs e (RcAt.lists_lengths l1 l2 (by rw [e1, e2]; simpa using hl) (by omega))
/-- x == y as the containers ask it -/
theorem eqT_at (I : Inv X pins σ H s) : ∀ (n : Nat) (Ar : Around) (x y : A) (v w : V) (u t : Value), pl n x = true → pl n y = true → Rep X.K ρ H x v → Rep X.K ρ H y w → RelV v u → RelV w t → Ar.units + n < cLine → EqAt Ar s u t (eqT x y) := by
  intro n
  induction n with
  | zero =>
    intro Ar x y v w u t h1 h2 r q ru rt hu
    have hu0 : Ar.units < cLine := by omega
    cases r with
    | non =>
      cases ru
      cases q with
      | non =>
        cases rt
        simpa only [eqT] using (EqAt.same _)
      | bl b2 =>
        cases rt
        simpa only [eqT] using (EqAt.none_bool  b2)
      | int i2 =>
        obtain ⟨t2, rfl⟩ := rt
        simpa only [eqT] using (EqAt.none_int  i2 t2)
      | str z2 =>
        obtain ⟨t2, rfl⟩ := rt
        simpa only [eqT] using (EqAt.none_str  z2 t2)
      | tup s2 r2 =>
        exact Bool.noConfusion h2
      | lst s2 r2 =>
        exact Bool.noConfusion h2
      | dct e2 =>
        cases rt
        have d2 := dc_of I e2
        obtain ⟨m2, c2⟩ := d2.2
        simpa only [eqT] using (eq_none_dc  c2 hu0)
      | ref _ =>
        exact Bool.noConfusion h2
      | dctN =>
        exact Bool.noConfusion h2
    | bl b1 =>
      cases ru
      cases q with
      | non =>
        cases rt
        simpa only [eqT] using (EqAt.bool_none b1 )
      | bl b2 =>
        cases rt
        simpa only [eqT] using (EqAt.bool_bool b1 b2)
      | int i2 =>
        obtain ⟨t2, rfl⟩ := rt
        simpa only [eqT] using (EqAt.bool_int b1 i2 t2)
      | str z2 =>
        obtain ⟨t2, rfl⟩ := rt
        simpa only [eqT] using (EqAt.bool_str b1 z2 t2)
      | tup s2 r2 =>
        exact Bool.noConfusion h2
      | lst s2 r2 =>
        exact Bool.noConfusion h2
      | dct e2 =>
        cases rt
        have d2 := dc_of I e2
        obtain ⟨m2, c2⟩ := d2.2
        simpa only [eqT] using (eq_bool_dc b1 c2 hu0)
      | ref _ =>
        exact Bool.noConfusion h2
      | dctN =>
        exact Bool.noConfusion h2
    | int i1 =>
      obtain ⟨t1, rfl⟩ := ru
      cases q with
      | non =>
        cases rt
        simpa only [eqT] using (EqAt.int_none i1 t1 )
      | bl b2 =>
        cases rt
        simpa only [eqT] using (EqAt.int_bool i1 t1 b2)
      | int i2 =>
        obtain ⟨t2, rfl⟩ := rt
        simpa only [eqT] using (EqAt.int_int i1 t1 i2 t2)
      | str z2 =>
        obtain ⟨t2, rfl⟩ := rt
        simpa only [eqT] using (EqAt.int_str i1 t1 z2 t2)
      | tup s2 r2 =>
        exact Bool.noConfusion h2
      | lst s2 r2 =>
        exact Bool.noConfusion h2
      | dct e2 =>
        cases rt
        have d2 := dc_of I e2
        obtain ⟨m2, c2⟩ := d2.2
        simpa only [eqT] using (eq_int_dc i1 t1 c2 hu0)
      | ref _ =>
        exact Bool.noConfusion h2
      | dctN =>
        exact Bool.noConfusion h2
    | str z1 =>
      obtain ⟨t1, rfl⟩ := ru
      cases q with
      | non =>
        cases rt
        simpa only [eqT] using (EqAt.str_none z1 t1 )
      | bl b2 =>
        cases rt
        simpa only [eqT] using (EqAt.str_bool z1 t1 b2)
      | int i2 =>
        obtain ⟨t2, rfl⟩ := rt
        simpa only [eqT] using (EqAt.str_int z1 t1 i2 t2)
      | str z2 =>
        obtain ⟨t2, rfl⟩ := rt
        simpa only [eqT] using (EqAt.str_str z1 t1 z2 t2)
      | tup s2 r2 =>
        exact Bool.noConfusion h2
      | lst s2 r2 =>
        exact Bool.noConfusion h2
      | dct e2 =>
        cases rt
        have d2 := dc_of I e2
        obtain ⟨m2, c2⟩ := d2.2
        simpa only [eqT] using (eq_str_dc z1 t1 c2 hu0)
      | ref _ =>
        exact Bool.noConfusion h2
      | dctN =>
        exact Bool.noConfusion h2
    | tup s1 r1 =>
      exact Bool.noConfusion h1
    | lst s1 r1 =>
      exact Bool.noConfusion h1
    | dct e1 =>
      cases ru
      have d1 := dc_of I e1
      obtain ⟨m1, c1⟩ := d1.2
      cases q with
      | non =>
        cases rt
        simpa only [eqT] using (eq_dc_none  c1 hu0)
      | bl b2 =>
        cases rt
        simpa only [eqT] using (eq_dc_bool b2 c1 hu0)
      | int i2 =>
        obtain ⟨t2, rfl⟩ := rt
        simpa only [eqT] using (eq_dc_int i2 t2 c1 hu0)
      | str z2 =>
        obtain ⟨t2, rfl⟩ := rt
        simpa only [eqT] using (eq_dc_str z2 t2 c1 hu0)
      | tup s2 r2 =>
        exact Bool.noConfusion h2
      | lst s2 r2 =>
        exact Bool.noConfusion h2
      | dct e2 =>
        cases rt
        have d2 := dc_of I e2
        obtain ⟨m2, c2⟩ := d2.2
        simpa only [eqT] using (eq_dc_dc d1 d2 hu0)
      | ref _ =>
        exact Bool.noConfusion h2
      | dctN =>
        exact Bool.noConfusion h2
    | ref _ =>
      exact Bool.noConfusion h1
    | dctN =>
      exact Bool.noConfusion h1
  | succ n ih =>
    intro Ar x y v w u t h1 h2 r q ru rt hu
    have hu0 : Ar.units < cLine := by omega
    cases r with
    | non =>
      cases ru
      cases q with
      | non =>
        cases rt
        simpa only [eqT] using (EqAt.same _)
      | bl b2 =>
        cases rt
        simpa only [eqT] using (EqAt.none_bool  b2)
      | int i2 =>
        obtain ⟨t2, rfl⟩ := rt
        simpa only [eqT] using (EqAt.none_int  i2 t2)
      | str z2 =>
        obtain ⟨t2, rfl⟩ := rt
        simpa only [eqT] using (EqAt.none_str  z2 t2)
      | tup s2 r2 =>
        cases rt
        obtain ⟨i2, v2, l2⟩ := tu_of I s2
        simpa only [eqT] using (EqAt.none_tuple  l2 hu0)
      | lst s2 r2 =>
        cases rt
        obtain ⟨i2, v2, l2, o2, g2, n2, ob2⟩ := li_of I s2
        simpa only [eqT] using (EqAt.none_list  l2 hu0)
      | dct e2 =>
        cases rt
        have d2 := dc_of I e2
        obtain ⟨m2, c2⟩ := d2.2
        simpa only [eqT] using (eq_none_dc  c2 hu0)
      | ref _ =>
        exact Bool.noConfusion h2
      | dctN =>
        exact Bool.noConfusion h2
    | bl b1 =>
      cases ru
      cases q with
      | non =>
        cases rt
        simpa only [eqT] using (EqAt.bool_none b1 )
      | bl b2 =>
        cases rt
        simpa only [eqT] using (EqAt.bool_bool b1 b2)
      | int i2 =>
        obtain ⟨t2, rfl⟩ := rt
        simpa only [eqT] using (EqAt.bool_int b1 i2 t2)
      | str z2 =>
        obtain ⟨t2, rfl⟩ := rt
        simpa only [eqT] using (EqAt.bool_str b1 z2 t2)
      | tup s2 r2 =>
        cases rt
        obtain ⟨i2, v2, l2⟩ := tu_of I s2
        simpa only [eqT] using (EqAt.bool_tuple b1 l2 hu0)
      | lst s2 r2 =>
        cases rt
        obtain ⟨i2, v2, l2, o2, g2, n2, ob2⟩ := li_of I s2
        simpa only [eqT] using (EqAt.bool_list b1 l2 hu0)
      | dct e2 =>
        cases rt
        have d2 := dc_of I e2
        obtain ⟨m2, c2⟩ := d2.2
        simpa only [eqT] using (eq_bool_dc b1 c2 hu0)
      | ref _ =>
        exact Bool.noConfusion h2
      | dctN =>
        exact Bool.noConfusion h2
    | int i1 =>
      obtain ⟨t1, rfl⟩ := ru
      cases q with
      | non =>
        cases rt
        simpa only [eqT] using (EqAt.int_none i1 t1 )
      | bl b2 =>
        cases rt
        simpa only [eqT] using (EqAt.int_bool i1 t1 b2)
      | int i2 =>
        obtain ⟨t2, rfl⟩ := rt
        simpa only [eqT] using (EqAt.int_int i1 t1 i2 t2)
      | str z2 =>
        obtain ⟨t2, rfl⟩ := rt
        simpa only [eqT] using (EqAt.int_str i1 t1 z2 t2)
      | tup s2 r2 =>
        cases rt
        obtain ⟨i2, v2, l2⟩ := tu_of I s2
        simpa only [eqT] using (EqAt.int_tuple i1 t1 l2 hu0)
      | lst s2 r2 =>
        cases rt
        obtain ⟨i2, v2, l2, o2, g2, n2, ob2⟩ := li_of I s2
        simpa only [eqT] using (EqAt.int_list i1 t1 l2 hu0)
      | dct e2 =>
        cases rt
        have d2 := dc_of I e2
        obtain ⟨m2, c2⟩ := d2.2
        simpa only [eqT] using (eq_int_dc i1 t1 c2 hu0)
      | ref _ =>
        exact Bool.noConfusion h2
      | dctN =>
        exact Bool.noConfusion h2
    | str z1 =>
      obtain ⟨t1, rfl⟩ := ru
      cases q with
      | non =>
        cases rt
        simpa only [eqT] using (EqAt.str_none z1 t1 )
      | bl b2 =>
        cases rt
        simpa only [eqT] using (EqAt.str_bool z1 t1 b2)
      | int i2 =>
        obtain ⟨t2, rfl⟩ := rt
        simpa only [eqT] using (EqAt.str_int z1 t1 i2 t2)
      | str z2 =>
        obtain ⟨t2, rfl⟩ := rt
        simpa only [eqT] using (EqAt.str_str z1 t1 z2 t2)
      | tup s2 r2 =>
        cases rt
        obtain ⟨i2, v2, l2⟩ := tu_of I s2
        simpa only [eqT] using (EqAt.str_tuple z1 t1 l2 hu0)
      | lst s2 r2 =>
        cases rt
        obtain ⟨i2, v2, l2, o2, g2, n2, ob2⟩ := li_of I s2
        simpa only [eqT] using (EqAt.str_list z1 t1 l2 hu0)
      | dct e2 =>
        cases rt
        have d2 := dc_of I e2
        obtain ⟨m2, c2⟩ := d2.2
        simpa only [eqT] using (eq_str_dc z1 t1 c2 hu0)
      | ref _ =>
        exact Bool.noConfusion h2
      | dctN =>
        exact Bool.noConfusion h2
    | tup s1 r1 =>
      cases ru
      obtain ⟨i1, v1, l1⟩ := tu_of I s1
      cases q with
      | non =>
        cases rt
        simpa only [eqT] using (EqAt.tuple_none  l1 hu0)
      | bl b2 =>
        cases rt
        simpa only [eqT] using (EqAt.tuple_bool b2 l1 hu0)
      | int i2 =>
        obtain ⟨t2, rfl⟩ := rt
        simpa only [eqT] using (EqAt.tuple_int i2 t2 l1 hu0)
      | str z2 =>
        obtain ⟨t2, rfl⟩ := rt
        simpa only [eqT] using (EqAt.tuple_str z2 t2 l1 hu0)
      | tup s2 r2 =>
        cases rt
        obtain ⟨i2, v2, l2⟩ := tu_of I s2
        exact tups ih I h1 h2 s1 r1 s2 r2 hu
      | lst s2 r2 =>
        cases rt
        obtain ⟨i2, v2, l2, o2, g2, n2, ob2⟩ := li_of I s2
        simpa only [eqT] using (EqAt.tuple_list l1 l2 hu0)
      | dct e2 =>
        cases rt
        have d2 := dc_of I e2
        obtain ⟨m2, c2⟩ := d2.2
        simpa only [eqT] using ((dc_tu d2 l1 hu0).2)
      | ref _ =>
        exact Bool.noConfusion h2
      | dctN =>
        exact Bool.noConfusion h2
    | lst s1 r1 =>
      cases ru
      obtain ⟨i1, v1, l1, o1, g1, n1, ob1⟩ := li_of I s1
      cases q with
      | non =>
        cases rt
        simpa only [eqT] using (EqAt.list_none  l1 hu0)
      | bl b2 =>
        cases rt
        simpa only [eqT] using (EqAt.list_bool b2 l1 hu0)
      | int i2 =>
        obtain ⟨t2, rfl⟩ := rt
        simpa only [eqT] using (EqAt.list_int i2 t2 l1 hu0)
      | str z2 =>
        obtain ⟨t2, rfl⟩ := rt
        simpa only [eqT] using (EqAt.list_str z2 t2 l1 hu0)
      | tup s2 r2 =>
        cases rt
        obtain ⟨i2, v2, l2⟩ := tu_of I s2
        simpa only [eqT] using (EqAt.list_tuple l1 l2 hu0)
      | lst s2 r2 =>
        cases rt
        obtain ⟨i2, v2, l2, o2, g2, n2, ob2⟩ := li_of I s2
        exact lsts ih I h1 h2 s1 r1 s2 r2 hu
      | dct e2 =>
        cases rt
        have d2 := dc_of I e2
        obtain ⟨m2, c2⟩ := d2.2
        simpa only [eqT] using ((dc_li d2 l1 hu0).2)
      | ref _ =>
        exact Bool.noConfusion h2
      | dctN =>
        exact Bool.noConfusion h2
    | dct e1 =>
      cases ru
      have d1 := dc_of I e1
      obtain ⟨m1, c1⟩ := d1.2
      cases q with
      | non =>
        cases rt
        simpa only [eqT] using (eq_dc_none  c1 hu0)
      | bl b2 =>
        cases rt
        simpa only [eqT] using (eq_dc_bool b2 c1 hu0)
      | int i2 =>
        obtain ⟨t2, rfl⟩ := rt
        simpa only [eqT] using (eq_dc_int i2 t2 c1 hu0)
      | str z2 =>
        obtain ⟨t2, rfl⟩ := rt
        simpa only [eqT] using (eq_dc_str z2 t2 c1 hu0)
      | tup s2 r2 =>
        cases rt
        obtain ⟨i2, v2, l2⟩ := tu_of I s2
        simpa only [eqT] using ((dc_tu d1 l2 hu0).1)
      | lst s2 r2 =>
        cases rt
        obtain ⟨i2, v2, l2, o2, g2, n2, ob2⟩ := li_of I s2
        simpa only [eqT] using ((dc_li d1 l2 hu0).1)
      | dct e2 =>
        cases rt
        have d2 := dc_of I e2
        obtain ⟨m2, c2⟩ := d2.2
        simpa only [eqT] using (eq_dc_dc d1 d2 hu0)
      | ref _ =>
        exact Bool.noConfusion h2
      | dctN =>
        exact Bool.noConfusion h2
    | ref _ =>
      exact Bool.noConfusion h1
    | dctN =>
      exact Bool.noConfusion h1
end
end MP

/-! printed by wip/genM.py: ==, in, not in of trees by values -/
namespace MP
variable [WLD]
open PySem PySem.Spec PyProof.Rows L2
section
variable {X : Cx} {pins : List (Addr × Obj)} {σ : L2.St} {H : Hp} {s : Shared} {ρ : List Addr}
/-- .. are one tree -/
theorem same_eq (I : Inv X pins σ H s) : ∀ (n : Nat) (x y : A) (v : V), pl n x = true → pl n y = true → Rep X.K ρ H x v → Rep X.K ρ H y v → x = y := by
  intro n
  have lists : ∀ n, (∀ (x y : A) (v : V), pl n x = true → pl n y = true → Rep X.K ρ H x v → Rep X.K ρ H y v → x = y) → ∀ (xs ys : List A) (vs : List V), xs.all (pl n) = true → ys.all (pl n) = true → RepAll X.K ρ H xs vs → RepAll X.K ρ H ys vs → xs = ys := by
    intro n ih xs
    induction xs with
    | nil =>
      intro ys vs _ _ r q
      cases r
      cases q
      rfl
    | cons x xs ihx =>
      intro ys vs h1 h2 r q
      cases r with
      | cons r1 r2 =>
        cases q with
        | cons q1 q2 =>
          simp only [List.all_cons, Bool.and_eq_true] at h1 h2
          rw [ih _ _ _ h1.1 h2.1 r1 q1, ihx _ _ h1.2 h2.2 r2 q2]
  have lt_ : ∀ {a : Addr} {vs ws : List V}, FzL X.K H a vs → SqT X.K H a ws → False := fun {a vs ws} h1 h2 => by
    obtain ⟨its, n, r, ho, _⟩ := MP.Inv.listX I h1.sx
    obtain ⟨its2, r2, ⟨o, ho2, hc, _⟩, _⟩ := I.tuple h2
    rw [ho] at ho2
    cases ho2
    simp at hc
  have ld : ∀ {a : Addr} {vs : List V} {o : Obj}, FzL X.K H a vs → H a = some (.frz o (.dK [])) → False := fun {a vs o} h1 h2 => by
    obtain ⟨its, n, r, ho, _⟩ := MP.Inv.listX I h1.sx
    obtain ⟨e1, _, _, _, _, o2, _, _, e2, hx, _⟩ := I.hok _ _ h2
    rw [ho] at e2
    cases e2
    have z := hx.1
    simp at z
  have td : ∀ {a : Addr} {vs : List V} {o : Obj}, SqT X.K H a vs → H a = some (.frz o (.dK [])) → False := fun {a vs o} h1 h2 => by
    obtain ⟨its2, r2, ⟨o3, ho2, hc, _⟩, _⟩ := I.tuple h1
    obtain ⟨e1, _, _, _, _, o2, _, _, e2, hx, _⟩ := I.hok _ _ h2
    rw [ho2] at e2
    cases e2
    rw [hx.1] at hc
    simp at hc
  induction n with
  | zero =>
    intro x y v h1 h2 r q
    cases r <;> cases q <;> first | rfl | exact Bool.noConfusion h1 | exact Bool.noConfusion h2
  | succ n ih =>
    intro x y v h1 h2 r q
    cases r with
    | tup s1 r1 =>
      cases q with
      | tup s2 r2 =>
        have e := I.tuple_inj s1 s2
        subst e
        exact congrArg _ (lists n ih _ _ _ h1 h2 r1 r2)
      | lst s2 _ => exact (lt_ s2 s1).elim
      | dct e => exact (td s1 e).elim
      | ref _ => exact Bool.noConfusion h2
      | dctN => exact Bool.noConfusion h2
    | lst s1 r1 =>
      cases q with
      | tup s2 _ => exact (lt_ s1 s2).elim
      | lst s2 r2 =>
        have e := I.list_inj s1.sq s2.sq
        subst e
        exact congrArg _ (lists n ih _ _ _ h1 h2 r1 r2)
      | dct e => exact (ld s1 e).elim
      | ref _ => exact Bool.noConfusion h2
      | dctN => exact Bool.noConfusion h2
    | dct e =>
      cases q with
      | tup s2 _ => exact (td s2 e).elim
      | lst s2 _ => exact (ld s2 e).elim
      | dct _ => rfl
      | ref _ => exact Bool.noConfusion h2
      | dctN => exact Bool.noConfusion h2
    | ref _ => exact Bool.noConfusion h1
    | dctN => exact Bool.noConfusion h1
    | non => cases q; rfl
    | bl b => cases q; rfl
    | int i => cases q; rfl
    | str z => cases q; rfl

open PySem.SeqAt
theorem rc_dc_dc {Ar : Around} {l b : Addr} (h1 : Dc0 s.heap l) (h2 : Dc0 s.heap b) (hu : Ar.units < cLine) : RcAt Ar s (.ref l) (.ref b) true := fun prog w E Q h =>
  PySem.W.rcP_dicts (prog := prog) (w := w) (knd := mixKind prog w) (r := true) h1.1 h2.1 (h1.of prog w) (h2.of prog w) hu (fun _ => .nil) E Q h
theorem rdc_li {Ar : Around} {l b : Addr} {its : Array Value} (h1 : Dc0 s.heap l) (h2 : s.heap.IsList b its) (hu : Ar.units < cLine) : RcAt Ar s (.ref l) (.ref b) false ∧ RcAt Ar s (.ref b) (.ref l) false := by
  obtain ⟨⟨c, dd, da, sl⟩, ho, hc, n, hd⟩ := h2
  simp only at hc hd
  subst hc hd
  obtain ⟨_, m, e⟩ := h1
  have ne : l ≠ b := fun z => by
    subst z
    have e' : s.heap.get? l = _ := e
    rw [ho] at e'
    simp at e'
  exact ⟨(rc_dc_list e ho ne hu), (rc_list_dc e ho ne.symm hu)⟩
theorem rdc_tu {Ar : Around} {l b : Addr} {its : Array Value} (h1 : Dc0 s.heap l) (h2 : s.heap.IsTuple b its) (hu : Ar.units < cLine) : RcAt Ar s (.ref l) (.ref b) false ∧ RcAt Ar s (.ref b) (.ref l) false := by
  obtain ⟨⟨c, dd, da, sl⟩, ho, hc, n, hd⟩ := h2
  simp only at hc hd
  subst hc hd
  obtain ⟨_, m, e⟩ := h1
  have ne : l ≠ b := fun z => by
    subst z
    have e' : s.heap.get? l = _ := e
    rw [ho] at e'
    simp at e'
  exact ⟨(rc_dc_tuple e ho ne hu), (rc_tuple_dc e ho ne.symm hu)⟩
theorem rtups {n : Nat} (I : Inv X pins σ H s) {Ar : Around} {xs ys : List A} {a b : Addr} {vs ws : List V} (h1 : pl (n + 1) (.tup xs) = true) (h2 : pl (n + 1) (.tup ys) = true) (s1 : SqT X.K H a vs) (r1 : RepAll X.K ρ H xs vs) (s2 : SqT X.K H b ws) (r2 : RepAll X.K ρ H ys ws) (hu : Ar.units + (n + 1) < cLine) : RcAt Ar s (.ref a) (.ref b) (eqT (.tup xs) (.tup ys)) := by
  obtain ⟨i1, v1, l1⟩ := tu_of I s1
  obtain ⟨i2, v2, l2⟩ := tu_of I s2
  · have k := RcAt.tuples (A := Ar) (e := fun j => eqT (xs.getD j .non) (ys.getD j .non)) l1 l2 (by omega) fun j q1 q2 => by
      obtain ⟨x, p1, p2, p3⟩ := item_at r1 v1 (j := j) (by simpa using q1)
      obtain ⟨y, p4, p5, p6⟩ := item_at r2 v2 (j := j) (by simpa using q2)
      exact eqT_at I n Ar.in1 _ _ _ _ _ _ (List.all_eq_true.mp h1 _ p3) (List.all_eq_true.mp h2 _ p6) p1 p4 (by simpa using p2) (by simpa using p5) (by show Ar.units + 1 + n < cLine; omega)
    have e1 : i1.toArray.size = xs.length := by rw [List.size_toArray, ← v1.length, r1.length]
    have e2 : i2.toArray.size = ys.length := by rw [List.size_toArray, ← v2.length, r2.length]
    rw [e1, e2, eqTs_range] at k
    have z : eqT (.tup xs) (.tup ys) = eqTs xs ys := by simp only [eqT]
    rw [z]
    exact k
theorem rlsts {n : Nat} (I : Inv X pins σ H s) {Ar : Around} {xs ys : List A} {a b : Addr} {vs ws : List V} (h1 : pl (n + 1) (.lst xs) = true) (h2 : pl (n + 1) (.lst ys) = true) (s1 : FzL X.K H a vs) (r1 : RepAll X.K ρ H xs vs) (s2 : FzL X.K H b ws) (r2 : RepAll X.K ρ H ys ws) (hu : Ar.units + (n + 1) < cLine) : RcAt Ar s (.ref a) (.ref b) (eqT (.lst xs) (.lst ys)) := by
  obtain ⟨i1, v1, l1, _⟩ := li_of I s1
  obtain ⟨i2, v2, l2, _⟩ := li_of I s2
  have e1 : i1.toArray.size = xs.length := by rw [List.size_toArray, ← v1.length, r1.length]
  have e2 : i2.toArray.size = ys.length := by rw [List.size_toArray, ← v2.length, r2.length]
  have z : eqT (.lst xs) (.lst ys) = eqTs xs ys := by simp only [eqT]
  · by_cases hl : xs.length = ys.length
    · have k := RcAt.lists (A := Ar) (e := fun j => eqT (xs.getD j .non) (ys.getD j .non)) l1 l2 (by rw [e1, e2]; exact hl) (by omega) fun j q1 q2 => by
        obtain ⟨x, p1, p2, p3⟩ := item_at r1 v1 (j := j) (by simpa using q1)
        obtain ⟨y, p4, p5, p6⟩ := item_at r2 v2 (j := j) (by simpa using q2)
        exact eqT_at I n Ar.in1 _ _ _ _ _ _ (List.all_eq_true.mp h1 _ p3) (List.all_eq_true.mp h2 _ p6) p1 p4 (by simpa using p2) (by simpa using p5) (by show Ar.units + 1 + n < cLine; omega)
      have f := eqTs_range xs ys
      rw [← hl, Nat.min_self, beq_self_eq_true, Bool.and_true] at f
      rw [e1, f] at k
      rw [z]
      exact k
    · rw [z, eqTs_len hl]
      exact (RcAt.lists_lengths l1 l2 (by rw [e1, e2]; simpa using hl) (by omega))
/-- x == y -/
theorem rcT_at (I : Inv X pins σ H s) (n : Nat) (Ar : Around) (x y : A) (v w : V) (u t : Value) (h1 : pl (n + 1) x = true) (h2 : pl (n + 1) y = true) (r : Rep X.K ρ H x v) (q : Rep X.K ρ H y w) (ru : RelV v u) (rt : RelV w t) (hu : Ar.units + (n + 1) < cLine) : RcAt Ar s u t (eqT x y) := by
  have hu0 : Ar.units < cLine := by omega
  cases r with
  | non =>
    cases ru
    cases q with
    | non =>
      cases rt
      simpa only [eqT] using (RcAt.none_none)
    | bl b2 =>
      cases rt
      simpa only [eqT] using (RcAt.none_bool  b2)
    | int i2 =>
      obtain ⟨t2, rfl⟩ := rt
      simpa only [eqT] using (RcAt.none_int  i2 t2)
    | str z2 =>
      obtain ⟨t2, rfl⟩ := rt
      simpa only [eqT] using (RcAt.none_str  z2 t2)
    | tup s2 r2 =>
      cases rt
      obtain ⟨i2, v2, l2⟩ := tu_of I s2
      simpa only [eqT] using (RcAt.none_tuple  l2 hu0)
    | lst s2 r2 =>
      cases rt
      obtain ⟨i2, v2, l2, o2, g2, n2, ob2⟩ := li_of I s2
      simpa only [eqT] using (RcAt.none_list  l2 hu0)
    | dct e2 =>
      cases rt
      have d2 := dc_of I e2
      obtain ⟨m2, c2⟩ := d2.2
      simpa only [eqT] using (rc_none_dc  c2 hu0)
    | ref _ =>
      exact Bool.noConfusion h2
    | dctN =>
      exact Bool.noConfusion h2
  | bl b1 =>
    cases ru
    cases q with
    | non =>
      cases rt
      simpa only [eqT] using (RcAt.bool_none b1 )
    | bl b2 =>
      cases rt
      simpa only [eqT] using (RcAt.bool_bool b1 b2)
    | int i2 =>
      obtain ⟨t2, rfl⟩ := rt
      simpa only [eqT] using (RcAt.bool_int b1 i2 t2)
    | str z2 =>
      obtain ⟨t2, rfl⟩ := rt
      simpa only [eqT] using (RcAt.bool_str b1 z2 t2)
    | tup s2 r2 =>
      cases rt
      obtain ⟨i2, v2, l2⟩ := tu_of I s2
      simpa only [eqT] using (RcAt.bool_tuple b1 l2 hu0)
    | lst s2 r2 =>
      cases rt
      obtain ⟨i2, v2, l2, o2, g2, n2, ob2⟩ := li_of I s2
      simpa only [eqT] using (RcAt.bool_list b1 l2 hu0)
    | dct e2 =>
      cases rt
      have d2 := dc_of I e2
      obtain ⟨m2, c2⟩ := d2.2
      simpa only [eqT] using (rc_bool_dc b1 c2 hu0)
    | ref _ =>
      exact Bool.noConfusion h2
    | dctN =>
      exact Bool.noConfusion h2
  | int i1 =>
    obtain ⟨t1, rfl⟩ := ru
    cases q with
    | non =>
      cases rt
      simpa only [eqT] using (RcAt.int_none i1 t1 )
    | bl b2 =>
      cases rt
      simpa only [eqT] using (RcAt.int_bool i1 t1 b2)
    | int i2 =>
      obtain ⟨t2, rfl⟩ := rt
      simpa only [eqT] using (RcAt.int_int i1 t1 i2 t2)
    | str z2 =>
      obtain ⟨t2, rfl⟩ := rt
      simpa only [eqT] using (RcAt.int_str i1 t1 z2 t2)
    | tup s2 r2 =>
      cases rt
      obtain ⟨i2, v2, l2⟩ := tu_of I s2
      simpa only [eqT] using (RcAt.int_tuple i1 t1 l2 hu0)
    | lst s2 r2 =>
      cases rt
      obtain ⟨i2, v2, l2, o2, g2, n2, ob2⟩ := li_of I s2
      simpa only [eqT] using (RcAt.int_list i1 t1 l2 hu0)
    | dct e2 =>
      cases rt
      have d2 := dc_of I e2
      obtain ⟨m2, c2⟩ := d2.2
      simpa only [eqT] using (rc_int_dc i1 t1 c2 hu0)
    | ref _ =>
      exact Bool.noConfusion h2
    | dctN =>
      exact Bool.noConfusion h2
  | str z1 =>
    obtain ⟨t1, rfl⟩ := ru
    cases q with
    | non =>
      cases rt
      simpa only [eqT] using (RcAt.str_none z1 t1 )
    | bl b2 =>
      cases rt
      simpa only [eqT] using (RcAt.str_bool z1 t1 b2)
    | int i2 =>
      obtain ⟨t2, rfl⟩ := rt
      simpa only [eqT] using (RcAt.str_int z1 t1 i2 t2)
    | str z2 =>
      obtain ⟨t2, rfl⟩ := rt
      simpa only [eqT] using (RcAt.str_str z1 t1 z2 t2)
    | tup s2 r2 =>
      cases rt
      obtain ⟨i2, v2, l2⟩ := tu_of I s2
      simpa only [eqT] using (RcAt.str_tuple z1 t1 l2 hu0)
    | lst s2 r2 =>
      cases rt
      obtain ⟨i2, v2, l2, o2, g2, n2, ob2⟩ := li_of I s2
      simpa only [eqT] using (RcAt.str_list z1 t1 l2 hu0)
    | dct e2 =>
      cases rt
      have d2 := dc_of I e2
      obtain ⟨m2, c2⟩ := d2.2
      simpa only [eqT] using (rc_str_dc z1 t1 c2 hu0)
    | ref _ =>
      exact Bool.noConfusion h2
    | dctN =>
      exact Bool.noConfusion h2
  | tup s1 r1 =>
    cases ru
    obtain ⟨i1, v1, l1⟩ := tu_of I s1
    cases q with
    | non =>
      cases rt
      simpa only [eqT] using (RcAt.tuple_none  l1 hu0)
    | bl b2 =>
      cases rt
      simpa only [eqT] using (RcAt.tuple_bool b2 l1 hu0)
    | int i2 =>
      obtain ⟨t2, rfl⟩ := rt
      simpa only [eqT] using (RcAt.tuple_int i2 t2 l1 hu0)
    | str z2 =>
      obtain ⟨t2, rfl⟩ := rt
      simpa only [eqT] using (RcAt.tuple_str z2 t2 l1 hu0)
    | tup s2 r2 =>
      cases rt
      obtain ⟨i2, v2, l2⟩ := tu_of I s2
      exact rtups I h1 h2 s1 r1 s2 r2 hu
    | lst s2 r2 =>
      cases rt
      obtain ⟨i2, v2, l2, o2, g2, n2, ob2⟩ := li_of I s2
      simpa only [eqT] using (RcAt.tuple_list l1 l2 hu0)
    | dct e2 =>
      cases rt
      have d2 := dc_of I e2
      obtain ⟨m2, c2⟩ := d2.2
      simpa only [eqT] using ((rdc_tu d2 l1 hu0).2)
    | ref _ =>
      exact Bool.noConfusion h2
    | dctN =>
      exact Bool.noConfusion h2
  | lst s1 r1 =>
    cases ru
    obtain ⟨i1, v1, l1, o1, g1, n1, ob1⟩ := li_of I s1
    cases q with
    | non =>
      cases rt
      simpa only [eqT] using (RcAt.list_none  l1 hu0)
    | bl b2 =>
      cases rt
      simpa only [eqT] using (RcAt.list_bool b2 l1 hu0)
    | int i2 =>
      obtain ⟨t2, rfl⟩ := rt
      simpa only [eqT] using (RcAt.list_int i2 t2 l1 hu0)
    | str z2 =>
      obtain ⟨t2, rfl⟩ := rt
      simpa only [eqT] using (RcAt.list_str z2 t2 l1 hu0)
    | tup s2 r2 =>
      cases rt
      obtain ⟨i2, v2, l2⟩ := tu_of I s2
      simpa only [eqT] using (RcAt.list_tuple l1 l2 hu0)
    | lst s2 r2 =>
      cases rt
      obtain ⟨i2, v2, l2, o2, g2, n2, ob2⟩ := li_of I s2
      exact rlsts I h1 h2 s1 r1 s2 r2 hu
    | dct e2 =>
      cases rt
      have d2 := dc_of I e2
      obtain ⟨m2, c2⟩ := d2.2
      simpa only [eqT] using ((rdc_li d2 l1 hu0).2)
    | ref _ =>
      exact Bool.noConfusion h2
    | dctN =>
      exact Bool.noConfusion h2
  | dct e1 =>
    cases ru
    have d1 := dc_of I e1
    obtain ⟨m1, c1⟩ := d1.2
    cases q with
    | non =>
      cases rt
      simpa only [eqT] using (rc_dc_none  c1 hu0)
    | bl b2 =>
      cases rt
      simpa only [eqT] using (rc_dc_bool b2 c1 hu0)
    | int i2 =>
      obtain ⟨t2, rfl⟩ := rt
      simpa only [eqT] using (rc_dc_int i2 t2 c1 hu0)
    | str z2 =>
      obtain ⟨t2, rfl⟩ := rt
      simpa only [eqT] using (rc_dc_str z2 t2 c1 hu0)
    | tup s2 r2 =>
      cases rt
      obtain ⟨i2, v2, l2⟩ := tu_of I s2
      simpa only [eqT] using ((rdc_tu d1 l2 hu0).1)
    | lst s2 r2 =>
      cases rt
      obtain ⟨i2, v2, l2, o2, g2, n2, ob2⟩ := li_of I s2
      simpa only [eqT] using ((rdc_li d1 l2 hu0).1)
    | dct e2 =>
      cases rt
      have d2 := dc_of I e2
      obtain ⟨m2, c2⟩ := d2.2
      simpa only [eqT] using (rc_dc_dc d1 d2 hu0)
    | ref _ =>
      exact Bool.noConfusion h2
    | dctN =>
      exact Bool.noConfusion h2
  | ref _ =>
    exact Bool.noConfusion h1
  | dctN =>
    exact Bool.noConfusion h1
theorem op_eqT (hu : X.A.units + 64 < cLine) : OpR X (compareOp .Eq) (fun v w H Q => ∃ ρ x y, Rep X.K ρ H x v ∧ Rep X.K ρ H y w ∧ pl 60 x = true ∧ pl 60 y = true ∧ Q (.bl (eqT x y)) H) := by
  intro pins s σ H v w u t Q I ru rt h
  obtain ⟨ρ, x, y, r, q, h1, h2, k⟩ := h
  exact rcT_at I 59 X.A x y v w u t h1 h2 r q ru rt (by omega) X.prog X.w _ _ ⟨.bl _, H, I, rfl, k⟩
open Classical in
/-- what the membership test asks of an item -/
noncomputable def askE (X : Cx) (ρ : List Addr) (H : Hp) (ys : List A) (x : A) (u : Value) : Bool := decide (∃ y ∈ ys, ∃ v, Rep X.K ρ H y v ∧ RelV v u ∧ eqT y x = true)
theorem ask_ok (I : Inv X pins σ H s) {ys : List A} {ws : List V} {its : List Value} {x : A} {v : V} {t : Value} {Ar : Around} (r : RepAll X.K ρ H ys ws) (q : Vals ws its) (hy : ys.all (pl 60) = true) (hx : pl 60 x = true) (rx : Rep X.K ρ H x v) (rt : RelV v t) (hu : Ar.units + 60 < cLine) :
    (∀ u ∈ its, EqAt Ar s u t (askE X ρ H ys x u)) ∧ its.any (askE X ρ H ys x) = ys.any fun y => eqT y x := by
  have at_ : ∀ u ∈ its, ∃ y ∈ ys, ∃ w, Rep X.K ρ H y w ∧ RelV w u := fun u hm => by
    obtain ⟨j, hj, rfl⟩ := List.mem_iff_getElem.mp hm
    obtain ⟨w, a1, a2, a3⟩ := item_at r q hj
    exact ⟨_, a3, w, a1, a2⟩
  have say : ∀ {u : Value} {y : A} {w : V}, y ∈ ys → Rep X.K ρ H y w → RelV w u → askE X ρ H ys x u = eqT y x := fun {u y w} m1 m2 m3 => by
    classical
    unfold askE
    cases e : eqT y x with
    | true => exact decide_eq_true ⟨y, m1, w, m2, m3, e⟩
    | false =>
      refine decide_eq_false fun ⟨y', n1, w', n2, n3, n4⟩ => ?_
      have ew := n3.inj m3
      subst ew
      have ey := same_eq I 60 y' y _ (List.all_eq_true.mp hy _ n1) (List.all_eq_true.mp hy _ m1) n2 m2
      rw [ey, e] at n4
      exact Bool.noConfusion n4
  refine ⟨fun u hm => ?_, ?_⟩
  · obtain ⟨y, m1, w, m2, m3⟩ := at_ u hm
    rw [say m1 m2 m3]
    exact eqT_at I 60 Ar y x w v u t (List.all_eq_true.mp hy _ m1) hx m2 rx m3 rt hu
  · rw [Bool.eq_iff_iff, List.any_eq_true, List.any_eq_true]
    refine ⟨fun ⟨u, hm, e⟩ => ?_, fun ⟨y, hm, e⟩ => ?_⟩
    · obtain ⟨y, m1, w, m2, m3⟩ := at_ u hm
      rw [say m1 m2 m3] at e
      exact ⟨y, m1, e⟩
    · obtain ⟨j, hj, rfl⟩ := List.mem_iff_getElem.mp hm
      obtain ⟨w, a1, a2⟩ := r.get (List.getElem?_eq_getElem hj)
      obtain ⟨u, b1, b2⟩ := vals_get q a1
      exact ⟨u, List.mem_of_getElem? b1, by rw [say hm a2 b2]; exact e⟩
/-- x in a list or a tuple of trees -/
def rInT (K : PySem.W.Frag) (neg : Bool) : R2 := fun v w H Q => ∃ ρ x ys a ws, Rep K ρ H x v ∧ w = .ref a ∧ (SqX K H a ws ∨ SqT K H a ws) ∧ RepAll K ρ H ys ws ∧ pl 60 x = true ∧ ys.all (pl 60) = true ∧ Q (.bl (if neg = true then !(ys.any fun y => eqT y x) else ys.any fun y => eqT y x)) H
theorem op_inT (hu : X.A.units + 64 < cLine) : OpR X (compareOp .In) (rInT X.K false) := by
  intro pins s σ H v w u t Q I ru rt h
  obtain ⟨ρ, x, ys, a, ws, rx, rfl, hs, r, h1, h2, k⟩ := h
  cases rt
  rw [if_neg (by decide)] at k
  rcases hs with hs | hs
  · obtain ⟨its, n, q, ho, _⟩ := MP.Inv.listX I hs
    obtain ⟨f1, f2⟩ := ask_ok I (Ar := X.A.in1) r q h2 h1 rx ru (by show X.A.units + 1 + 60 < cLine; omega)
    refine in_listAt (askE X ρ H ys x) ⟨_, ho, rfl, n, rfl⟩ (fun y hy => f1 y (by simpa using hy)) ?_
    have e : its.toArray.any (askE X ρ H ys x) = its.any (askE X ρ H ys x) := by simp
    rw [e, f2]
    exact ⟨.bl _, H, I, rfl, k⟩
  · obtain ⟨its, q, ht⟩ := tu_of I hs
    obtain ⟨f1, f2⟩ := ask_ok I (Ar := X.A.in1) r q h2 h1 rx ru (by show X.A.units + 1 + 60 < cLine; omega)
    refine in_tupleAt (askE X ρ H ys x) ht (fun y hy => f1 y (by simpa using hy)) ?_
    have e : its.toArray.any (askE X ρ H ys x) = its.any (askE X ρ H ys x) := by simp
    rw [e, f2]
    exact ⟨.bl _, H, I, rfl, k⟩
theorem op_niT (hu : X.A.units + 64 < cLine) : OpR X (compareOp .NotIn) (rInT X.K true) := by
  intro pins s σ H v w u t Q I ru rt h
  obtain ⟨ρ, x, ys, a, ws, rx, rfl, hs, r, h1, h2, k⟩ := h
  cases rt
  rw [if_pos rfl] at k
  rcases hs with hs | hs
  · obtain ⟨its, n, q, ho, _⟩ := MP.Inv.listX I hs
    obtain ⟨f1, f2⟩ := ask_ok I (Ar := X.A.in1) r q h2 h1 rx ru (by show X.A.units + 1 + 60 < cLine; omega)
    refine notIn_listAt (askE X ρ H ys x) ⟨_, ho, rfl, n, rfl⟩ (fun y hy => f1 y (by simpa using hy)) ?_
    have e : its.toArray.any (askE X ρ H ys x) = its.any (askE X ρ H ys x) := by simp
    rw [e, f2]
    exact ⟨.bl _, H, I, rfl, k⟩
  · obtain ⟨its, q, ht⟩ := tu_of I hs
    obtain ⟨f1, f2⟩ := ask_ok I (Ar := X.A.in1) r q h2 h1 rx ru (by show X.A.units + 1 + 60 < cLine; omega)
    refine notIn_tupleAt (askE X ρ H ys x) ht (fun y hy => f1 y (by simpa using hy)) ?_
    have e : its.toArray.any (askE X ρ H ys x) = its.any (askE X ρ H ys x) := by simp
    rw [e, f2]
    exact ⟨.bl _, H, I, rfl, k⟩
end
end MP

/-! printed by wip/genO.py: != of trees by values -/
namespace MP
variable [WLD]
open PySem PySem.Spec PyProof.Rows L2
section
variable {X : Cx} {pins : List (Addr × Obj)} {σ : L2.St} {H : Hp} {s : Shared} {ρ : List Addr}
open PySem.SeqAt
theorem ntups {n : Nat} (I : Inv X pins σ H s) {Ar : Around} {xs ys : List A} {a b : Addr} {vs ws : List V} (h1 : pl (n + 1) (.tup xs) = true) (h2 : pl (n + 1) (.tup ys) = true) (s1 : SqT X.K H a vs) (r1 : RepAll X.K ρ H xs vs) (s2 : SqT X.K H b ws) (r2 : RepAll X.K ρ H ys ws) (hu : Ar.units + (n + 1) < cLine) : RcNeAt Ar s (.ref a) (.ref b) (!eqT (.tup xs) (.tup ys)) := by
  obtain ⟨i1, v1, l1⟩ := tu_of I s1
  obtain ⟨i2, v2, l2⟩ := tu_of I s2
  · have k := RcNeAt.tuples (A := Ar) (e := fun j => eqT (xs.getD j .non) (ys.getD j .non)) l1 l2 (by omega) fun j q1 q2 => by
      obtain ⟨x, p1, p2, p3⟩ := item_at r1 v1 (j := j) (by simpa using q1)
      obtain ⟨y, p4, p5, p6⟩ := item_at r2 v2 (j := j) (by simpa using q2)
      exact eqT_at I n Ar.in1 _ _ _ _ _ _ (List.all_eq_true.mp h1 _ p3) (List.all_eq_true.mp h2 _ p6) p1 p4 (by simpa using p2) (by simpa using p5) (by show Ar.units + 1 + n < cLine; omega)
    have e1 : i1.toArray.size = xs.length := by rw [List.size_toArray, ← v1.length, r1.length]
    have e2 : i2.toArray.size = ys.length := by rw [List.size_toArray, ← v2.length, r2.length]
    rw [e1, e2, eqTs_range] at k
    have z : eqT (.tup xs) (.tup ys) = eqTs xs ys := by simp only [eqT]
    rw [z]
    exact k
theorem nlsts {n : Nat} (I : Inv X pins σ H s) {Ar : Around} {xs ys : List A} {a b : Addr} {vs ws : List V} (h1 : pl (n + 1) (.lst xs) = true) (h2 : pl (n + 1) (.lst ys) = true) (s1 : FzL X.K H a vs) (r1 : RepAll X.K ρ H xs vs) (s2 : FzL X.K H b ws) (r2 : RepAll X.K ρ H ys ws) (hu : Ar.units + (n + 1) < cLine) : RcNeAt Ar s (.ref a) (.ref b) (!eqT (.lst xs) (.lst ys)) := by
  obtain ⟨i1, v1, l1, _⟩ := li_of I s1
  obtain ⟨i2, v2, l2, _⟩ := li_of I s2
  have e1 : i1.toArray.size = xs.length := by rw [List.size_toArray, ← v1.length, r1.length]
  have e2 : i2.toArray.size = ys.length := by rw [List.size_toArray, ← v2.length, r2.length]
  have z : eqT (.lst xs) (.lst ys) = eqTs xs ys := by simp only [eqT]
  · by_cases hl : xs.length = ys.length
    · have k := RcNeAt.lists (A := Ar) (e := fun j => eqT (xs.getD j .non) (ys.getD j .non)) l1 l2 (by rw [e1, e2]; exact hl) (by omega) fun j q1 q2 => by
        obtain ⟨x, p1, p2, p3⟩ := item_at r1 v1 (j := j) (by simpa using q1)
        obtain ⟨y, p4, p5, p6⟩ := item_at r2 v2 (j := j) (by simpa using q2)
        exact eqT_at I n Ar.in1 _ _ _ _ _ _ (List.all_eq_true.mp h1 _ p3) (List.all_eq_true.mp h2 _ p6) p1 p4 (by simpa using p2) (by simpa using p5) (by show Ar.units + 1 + n < cLine; omega)
      have f := eqTs_range xs ys
      rw [← hl, Nat.min_self, beq_self_eq_true, Bool.and_true] at f
      rw [e1, f] at k
      rw [z]
      exact k
    · rw [z, eqTs_len hl]
      exact (RcNeAt.lists_lengths l1 l2 (by rw [e1, e2]; simpa using hl) (by omega))
/-- x == y -/
theorem neT_at (I : Inv X pins σ H s) (n : Nat) (Ar : Around) (x y : A) (v w : V) (u t : Value) (h1 : pl (n + 1) x = true) (h2 : pl (n + 1) y = true) (r : Rep X.K ρ H x v) (q : Rep X.K ρ H y w) (ru : RelV v u) (rt : RelV w t) (hu : Ar.units + (n + 1) < cLine) (nx : isD x = false) (ny : isD y = false) : RcNeAt Ar s u t (!eqT x y) := by
  have hu0 : Ar.units < cLine := by omega
  cases r with
  | non =>
    cases ru
    cases q with
    | non =>
      cases rt
      simpa only [eqT, Bool.not_true, Bool.not_false] using (RcNeAt.none_none)
    | bl b2 =>
      cases rt
      simpa only [eqT, Bool.not_true, Bool.not_false] using (RcNeAt.none_bool  b2)
    | int i2 =>
      obtain ⟨t2, rfl⟩ := rt
      simpa only [eqT, Bool.not_true, Bool.not_false] using (RcNeAt.none_int  i2 t2)
    | str z2 =>
      obtain ⟨t2, rfl⟩ := rt
      simpa only [eqT, Bool.not_true, Bool.not_false] using (RcNeAt.none_str  z2 t2)
    | tup s2 r2 =>
      cases rt
      obtain ⟨i2, v2, l2⟩ := tu_of I s2
      simpa only [eqT, Bool.not_true, Bool.not_false] using (RcNeAt.none_tuple  l2 hu0)
    | lst s2 r2 =>
      cases rt
      obtain ⟨i2, v2, l2, o2, g2, n2, ob2⟩ := li_of I s2
      simpa only [eqT, Bool.not_true, Bool.not_false] using (RcNeAt.none_list  l2 hu0)
    | dct _ =>
      exact Bool.noConfusion ny
    | ref _ =>
      exact Bool.noConfusion h2
    | dctN =>
      exact Bool.noConfusion h2
  | bl b1 =>
    cases ru
    cases q with
    | non =>
      cases rt
      simpa only [eqT, Bool.not_true, Bool.not_false] using (RcNeAt.bool_none b1 )
    | bl b2 =>
      cases rt
      simpa only [eqT, Bool.not_true, Bool.not_false] using (RcNeAt.bool_bool b1 b2)
    | int i2 =>
      obtain ⟨t2, rfl⟩ := rt
      simpa only [eqT, Bool.not_true, Bool.not_false] using (RcNeAt.bool_int b1 i2 t2)
    | str z2 =>
      obtain ⟨t2, rfl⟩ := rt
      simpa only [eqT, Bool.not_true, Bool.not_false] using (RcNeAt.bool_str b1 z2 t2)
    | tup s2 r2 =>
      cases rt
      obtain ⟨i2, v2, l2⟩ := tu_of I s2
      simpa only [eqT, Bool.not_true, Bool.not_false] using (RcNeAt.bool_tuple b1 l2 hu0)
    | lst s2 r2 =>
      cases rt
      obtain ⟨i2, v2, l2, o2, g2, n2, ob2⟩ := li_of I s2
      simpa only [eqT, Bool.not_true, Bool.not_false] using (RcNeAt.bool_list b1 l2 hu0)
    | dct _ =>
      exact Bool.noConfusion ny
    | ref _ =>
      exact Bool.noConfusion h2
    | dctN =>
      exact Bool.noConfusion h2
  | int i1 =>
    obtain ⟨t1, rfl⟩ := ru
    cases q with
    | non =>
      cases rt
      simpa only [eqT, Bool.not_true, Bool.not_false] using (RcNeAt.int_none i1 t1 )
    | bl b2 =>
      cases rt
      simpa only [eqT, Bool.not_true, Bool.not_false] using (RcNeAt.int_bool i1 t1 b2)
    | int i2 =>
      obtain ⟨t2, rfl⟩ := rt
      simpa only [eqT, Bool.not_true, Bool.not_false] using (RcNeAt.int_int i1 t1 i2 t2)
    | str z2 =>
      obtain ⟨t2, rfl⟩ := rt
      simpa only [eqT, Bool.not_true, Bool.not_false] using (RcNeAt.int_str i1 t1 z2 t2)
    | tup s2 r2 =>
      cases rt
      obtain ⟨i2, v2, l2⟩ := tu_of I s2
      simpa only [eqT, Bool.not_true, Bool.not_false] using (RcNeAt.int_tuple i1 t1 l2 hu0)
    | lst s2 r2 =>
      cases rt
      obtain ⟨i2, v2, l2, o2, g2, n2, ob2⟩ := li_of I s2
      simpa only [eqT, Bool.not_true, Bool.not_false] using (RcNeAt.int_list i1 t1 l2 hu0)
    | dct _ =>
      exact Bool.noConfusion ny
    | ref _ =>
      exact Bool.noConfusion h2
    | dctN =>
      exact Bool.noConfusion h2
  | str z1 =>
    obtain ⟨t1, rfl⟩ := ru
    cases q with
    | non =>
      cases rt
      simpa only [eqT, Bool.not_true, Bool.not_false] using (RcNeAt.str_none z1 t1 )
    | bl b2 =>
      cases rt
      simpa only [eqT, Bool.not_true, Bool.not_false] using (RcNeAt.str_bool z1 t1 b2)
    | int i2 =>
      obtain ⟨t2, rfl⟩ := rt
      simpa only [eqT, Bool.not_true, Bool.not_false] using (RcNeAt.str_int z1 t1 i2 t2)
    | str z2 =>
      obtain ⟨t2, rfl⟩ := rt
      simpa only [eqT, Bool.not_true, Bool.not_false] using (RcNeAt.str_str z1 t1 z2 t2)
    | tup s2 r2 =>
      cases rt
      obtain ⟨i2, v2, l2⟩ := tu_of I s2
      simpa only [eqT, Bool.not_true, Bool.not_false] using (RcNeAt.str_tuple z1 t1 l2 hu0)
    | lst s2 r2 =>
      cases rt
      obtain ⟨i2, v2, l2, o2, g2, n2, ob2⟩ := li_of I s2
      simpa only [eqT, Bool.not_true, Bool.not_false] using (RcNeAt.str_list z1 t1 l2 hu0)
    | dct _ =>
      exact Bool.noConfusion ny
    | ref _ =>
      exact Bool.noConfusion h2
    | dctN =>
      exact Bool.noConfusion h2
  | tup s1 r1 =>
    cases ru
    obtain ⟨i1, v1, l1⟩ := tu_of I s1
    cases q with
    | non =>
      cases rt
      simpa only [eqT, Bool.not_true, Bool.not_false] using (RcNeAt.tuple_none  l1 hu0)
    | bl b2 =>
      cases rt
      simpa only [eqT, Bool.not_true, Bool.not_false] using (RcNeAt.tuple_bool b2 l1 hu0)
    | int i2 =>
      obtain ⟨t2, rfl⟩ := rt
      simpa only [eqT, Bool.not_true, Bool.not_false] using (RcNeAt.tuple_int i2 t2 l1 hu0)
    | str z2 =>
      obtain ⟨t2, rfl⟩ := rt
      simpa only [eqT, Bool.not_true, Bool.not_false] using (RcNeAt.tuple_str z2 t2 l1 hu0)
    | tup s2 r2 =>
      cases rt
      obtain ⟨i2, v2, l2⟩ := tu_of I s2
      exact ntups I h1 h2 s1 r1 s2 r2 hu
    | lst s2 r2 =>
      cases rt
      obtain ⟨i2, v2, l2, o2, g2, n2, ob2⟩ := li_of I s2
      simpa only [eqT, Bool.not_true, Bool.not_false] using (RcNeAt.tuple_list l1 l2 hu0)
    | dct _ =>
      exact Bool.noConfusion ny
    | ref _ =>
      exact Bool.noConfusion h2
    | dctN =>
      exact Bool.noConfusion h2
  | lst s1 r1 =>
    cases ru
    obtain ⟨i1, v1, l1, o1, g1, n1, ob1⟩ := li_of I s1
    cases q with
    | non =>
      cases rt
      simpa only [eqT, Bool.not_true, Bool.not_false] using (RcNeAt.list_none  l1 hu0)
    | bl b2 =>
      cases rt
      simpa only [eqT, Bool.not_true, Bool.not_false] using (RcNeAt.list_bool b2 l1 hu0)
    | int i2 =>
      obtain ⟨t2, rfl⟩ := rt
      simpa only [eqT, Bool.not_true, Bool.not_false] using (RcNeAt.list_int i2 t2 l1 hu0)
    | str z2 =>
      obtain ⟨t2, rfl⟩ := rt
      simpa only [eqT, Bool.not_true, Bool.not_false] using (RcNeAt.list_str z2 t2 l1 hu0)
    | tup s2 r2 =>
      cases rt
      obtain ⟨i2, v2, l2⟩ := tu_of I s2
      simpa only [eqT, Bool.not_true, Bool.not_false] using (RcNeAt.list_tuple l1 l2 hu0)
    | lst s2 r2 =>
      cases rt
      obtain ⟨i2, v2, l2, o2, g2, n2, ob2⟩ := li_of I s2
      exact nlsts I h1 h2 s1 r1 s2 r2 hu
    | dct _ =>
      exact Bool.noConfusion ny
    | ref _ =>
      exact Bool.noConfusion h2
    | dctN =>
      exact Bool.noConfusion h2
  | dct _ =>
    exact Bool.noConfusion nx
  | ref _ =>
    exact Bool.noConfusion h1
  | dctN =>
    exact Bool.noConfusion h1

theorem op_neT (hu : X.A.units + 64 < cLine) : OpR X (compareOp .NotEq) (fun v w H Q => ∃ ρ x y, Rep X.K ρ H x v ∧ Rep X.K ρ H y w ∧ pl 60 x = true ∧ pl 60 y = true ∧ isD x = false ∧ isD y = false ∧ Q (.bl (!eqT x y)) H) := by
  intro pins s σ H v w u t Q I ru rt h
  obtain ⟨ρ, x, y, r, q, h1, h2, n1, n2, k⟩ := h
  exact neT_at I 59 X.A x y v w u t h1 h2 r q ru rt (by omega) n1 n2 X.prog X.w _ _ ⟨.bl _, H, I, rfl, k⟩
end
end MP

/-! MP, part O1: an empty dict is not a tuple -/
namespace MP
variable [WLD]
open PySem PySem.Spec PyProof.Rows L2
open PySem.SeqAt
theorem dc_nedec_tuple {l b : Addr} {es : Array DictEntry} {n n2 : Nat} {dd dd2 : Option Addr} {sl sl2 : Array (Option Value)} {items : Array Value} : Meets (Builtin.«dict.__ne__» ⟨[.ref l, .ref b], []⟩)
    (fun _ R s => Dc s.heap l es n dd sl ∧ s.heap.get? b = some { cls := .type "tuple", dict := dd2, data := .seq items n2, slots := sl2 } ∧ R (.ok (.ret .notImplemented)) s) :=
  .of_wp fun prog w A R s hyp => by
    obtain ⟨hp, g, d, tk, os⟩ := s
    obtain ⟨hdc, hb, hR⟩ := hyp
    have hl : hp.get? l = some { cls := .type "dict", dict := dd, data := .dict es n, slots := sl } := hdc
    have f1 := F.sub_tuple_dict
    wp_walk using wpAny_loadPart' hl, wpAny_loadPart' hb
    exact ⟨_, rfl, hR⟩
theorem tuple_nedec_dc {l b : Addr} {es : Array DictEntry} {n n2 : Nat} {dd dd2 : Option Addr} {sl sl2 : Array (Option Value)} {items : Array Value} : Meets (Builtin.«tuple.__ne__» ⟨[.ref b, .ref l], []⟩)
    (fun _ R s => Dc s.heap l es n dd sl ∧ s.heap.get? b = some { cls := .type "tuple", dict := dd2, data := .seq items n2, slots := sl2 } ∧ R (.ok (.ret .notImplemented)) s) :=
  .of_wp fun prog w A R s hyp => by
    obtain ⟨hp, g, d, tk, os⟩ := s
    obtain ⟨hdc, hb, hR⟩ := hyp
    have hl : hp.get? l = some { cls := .type "dict", dict := dd, data := .dict es n, slots := sl } := hdc
    have f1 := F.sub_dict_tuple
    wp_walk using wpAny_loadPart' hb, wpAny_loadPart' hl
    exact ⟨_, rfl, hR⟩
theorem rn_dc_tuple {s : Shared} {A : Around} {l b : Addr} {es : Array DictEntry} {n n2 : Nat} {dd dd2 : Option Addr} {sl sl2 : Array (Option Value)} {items : Array Value} (ho : Dc s.heap l es n dd sl) (hb : s.heap.get? b = some { cls := .type "tuple", dict := dd2, data := .seq items n2, slots := sl2 }) (hne : l ≠ b) (hu : A.units < cLine) : RcNeAt A s (.ref l) (.ref b) true := fun prog w E Q h => by
  have hl : s.heap.get? l = some { cls := .type "dict", dict := dd, data := .dict es n, slots := sl } := ho
  exact rc_ne_decline_or (k := false) ⟨_, hl, rfl⟩ ⟨_, hb, rfl⟩ (by decide) F.sub_tuple_dict F.slot_dict_ne F.slot_tuple_ne_refl
    (fun _ hq => call_meets F.slot_dict_ne ⟨_, hl, rfl⟩ F.entry_dict_ne (F.args_dict_ne_2 _ _) dc_nedec_tuple ⟨ho, hb, hq⟩)
    (fun _ hq => call_meets F.slot_tuple_ne_refl ⟨_, hb, rfl⟩ F.entry_tuple_ne (F.args_tuple_ne_2 _ _) tuple_nedec_dc ⟨ho, hb, hq⟩)
    (fun _ hq => wpAny_isSame_ref_other hne hl hb (by simp) hq) (.inr hu) h
def rNeDT (K : PySem.W.Frag) : R2 := fun v w H Q => ∃ ρ x y, Rep K ρ H x v ∧ Rep K ρ H y w ∧ isDT x y = true ∧ Q (.bl true) H
theorem op_neDT {X : Cx} (hu : X.A.units + 64 < cLine) : OpR X (compareOp .NotEq) (rNeDT X.K) := by
  intro pins s σ H v w u t Q I ru rt h
  obtain ⟨ρ, x, y, r, q, hd, k⟩ := h
  have z : RcNeAt X.A s u t true := by
    cases r with
    | dct e1 =>
      cases q with
      | tup s2 r2 =>
        cases ru
        cases rt
        have d1 := dc_of I e1
        obtain ⟨i2, v2, ⟨c, dd, da, sl⟩, ho, hc, n, hdd⟩ := tu_of I s2
        simp only at hc hdd
        subst hc hdd
        obtain ⟨_, m, e⟩ := d1
        refine rn_dc_tuple e ho (fun z => ?_) (by omega)
        subst z
        have e' : s.heap.get? _ = _ := e
        rw [ho] at e'
        simp at e'
      | _ => exact Bool.noConfusion hd
    | dctN e1 => cases q <;> first | exact Bool.noConfusion hd | skip
    | _ => exact Bool.noConfusion hd
  exact z X.prog X.w _ _ ⟨.bl _, H, I, rfl, k⟩
end MP

/-! MP, part 0: dicts by their entries: what the heap holds of them; in, [], get, store, list -/
namespace MP
open PySem PySem.Spec PyProof.Rows L2
variable [WLD]
/-- a dict that is read -/
def DRd (K : PySem.W.Frag) (ρ : List Addr) (H : Hp) (kvs : List (A × A)) (d : Addr) : Prop := ∃ u, Rd H d u ∧ DD K ρ H kvs d u
theorem Rep.asD {K : PySem.W.Frag} {ρ : List Addr} {H : Hp} {M : Mem} {x : A} {v : V} {kvs : List (A × A)} (m : RepM K ρ H M) (r : Rep K ρ H x v) (e : asD M x = some kvs) : ∃ a, v = .ref a ∧ DRd K ρ H kvs a := by
  cases r with
  | ref h =>
    simp only [MP.asD] at e
    split at e
    · rename_i ys h1
      cases e
      obtain ⟨u, hu, d⟩ := m.cell _ _ _ h1 h
      exact ⟨_, rfl, u, .inl hu, d⟩
    · cases e
  | dct h => cases e; exact ⟨_, rfl, _, .inr ⟨_, h⟩, .inr ⟨[], rfl, .nil⟩⟩
  | dctN h d r1 r2 => cases e; exact ⟨_, rfl, _, .inr ⟨_, h⟩, DD.ofDcO (by simp) d r1 r2⟩
  | _ => cases e
section
variable {X : Cx} {pins : List (Addr × Obj)} {σ : L2.St} {s : Shared} {K : PySem.W.Frag} {ρ : List Addr} {H : Hp} {kvs : List (A × A)} {a : Addr}
/-! ### keys -/
mutual
theorem nested_of (I : Inv X pins σ H s) : ∀ (x : A) {v : V} {u : Value} {k : NestedKey}, Rep X.K ρ H x v → RelV v u → toNK x = some k → NestedIs s.heap k u
  | .non, v, u, k, r, ru, e => by
    cases r
    cases ru
    cases e
    exact .none
  | .bl b, v, u, k, r, ru, e => by
    cases r
    cases ru
    cases e
    exact .bool rfl
  | .int i, v, u, k, r, ru, e => by
    cases r
    obtain ⟨t, rfl⟩ := ru
    cases e
    exact .int i t
  | .str z, v, u, k, r, ru, e => by
    cases r
    obtain ⟨t, rfl⟩ := ru
    cases e
    exact .text z t
  | .tup xs, v, u, k, r, ru, e => by
    cases r with
    | tup hs rr =>
      cases ru
      simp only [toNK, Option.map_eq_some_iff] at e
      obtain ⟨ks, e, rfl⟩ := e
      obtain ⟨its, rv, hp, _⟩ := I.tuple hs
      obtain ⟨o, h1, h2, n, h3⟩ := hp
      exact .tup h1 h2 h3 (by simpa using nesteds_of I xs rr rv e)
  | .lst xs, v, u, k, r, ru, e => by simp [toNK] at e
  | .dct xs, v, u, k, r, ru, e => by simp [toNK] at e
  | .ref n, v, u, k, r, ru, e => by simp [toNK] at e
theorem nesteds_of (I : Inv X pins σ H s) : ∀ (xs : List A) {vs : List V} {us : List Value} {ks : List NestedKey}, RepAll X.K ρ H xs vs → Vals vs us → toNKs xs = some ks → NestedAll s.heap ks us
  | [], vs, us, ks, r, ru, e => by
    cases r
    cases ru
    cases e
    exact .nil
  | x :: xs, vs, us, ks, r, ru, e => by
    cases r with
    | cons r1 r2 =>
      cases ru with
      | cons u1 u2 =>
        simp only [toNKs] at e
        split at e
        · rename_i d ds e1 e2
          cases e
          exact .cons (nested_of I x r1 u1 e1) (nesteds_of I xs r2 u2 e2)
        · cases e
end
theorem tkey_of {a : A} {k : NestedKey} (h : tkey a = some k) : (∃ xs, a = .tup xs) ∧ toNK a = some k ∧ k.depth ≤ 8 := by
  unfold tkey at h
  split at h
  · rename_i xs
    split at h
    · rename_i k' e
      split at h
      · rename_i hd
        cases h
        exact ⟨⟨xs, rfl⟩, e, hd⟩
      · cases h
    · cases h
  · cases h
theorem nkK_inj {a b : L2.Key} (h : nkK a = nkK b) : a = b := by cases a <;> cases b <;> cases h <;> rfl
theorem keyA_nk {x : A} {k : L2.Key} (h : keyA x = some k) : toNK x = some (nkK k) := by cases x <;> cases h <;> rfl
theorem kOf_cases {x : A} {k : NestedKey} (h : kOf x kvs = some k) : ((kvs.all fun p => isTA p.1) = true ∧ tkey x = some k) ∨ ((kvs.all fun p => isSA p.1) = true ∧ ∃ q, keyA x = some q ∧ nkK q = k) := by
  unfold kOf at h
  split at h
  · split at h
    · rename_i h1
      exact .inl ⟨h1, h⟩
    · cases h
  · split at h
    · rename_i h1
      cases h
      exact .inr ⟨h1, _, rfl, rfl⟩
    · cases h
  · split at h
    · rename_i h1
      cases h
      exact .inr ⟨h1, _, rfl, rfl⟩
    · cases h
  · cases h
theorem kOf_nk {x : A} {k : NestedKey} (h : kOf x kvs = some k) : toNK x = some k := by
  rcases kOf_cases h with ⟨_, h⟩ | ⟨_, q, h1, rfl⟩
  · exact (tkey_of h).2.1
  · exact keyA_nk h1
/-! ### entries -/
theorem krep_all (I : Inv X pins σ H s) {xs : List (NestedKey × Addr × Value)} (q : Paired (KRep X.K ρ H) kvs xs) : ∀ x ∈ xs, (nestedKind X.prog X.w).is s.heap x.1 x.2.1 := by
  induction q with
  | nil => intro x hx; cases hx
  | cons h _ ih =>
    intro x hx
    rcases List.mem_cons.mp hx with rfl | hx
    · exact ⟨nested_of I _ h.r rfl h.k, h.d⟩
    · exact ih x hx
/-- what is found, by the trees and by the values -/
def ORep (K : PySem.W.Frag) (ρ : List Addr) (H : Hp) (o : Option A) (u : Option Value) : Prop := match o with
  | none => u = none
  | some x => ∃ z v, u = some z ∧ RelV v z ∧ Rep K ρ H x v
theorem ORep.some_iff {o : Option A} {u : Option Value} (h : ORep K ρ H o u) : o.isSome = u.isSome := by
  cases o with
  | none => cases h; rfl
  | some x => obtain ⟨z, v, rfl, _⟩ := h; rfl
theorem krep_find {xs : List (NestedKey × Addr × Value)} (q : Paired (KRep K ρ H) kvs xs) (k : NestedKey) : ORep K ρ H (findK kvs k) ((atKey xs k).map (·.2)) := by
  induction q with
  | nil => rfl
  | @cons p x kvs xs h _ ih =>
    by_cases e : x.1 = k
    · obtain ⟨v, h1, h2⟩ := h.v
      have e1 : findK (p :: kvs) k = some p.2 := by simp [findK, List.find?_cons, h.k, e]
      rw [e1]
      exact ⟨x.2.2, v, by simp [atKey, List.find?_cons, e], h1, h2⟩
    · have e' : ¬ some x.1 = some k := fun z => e (Option.some.inj z)
      have e1 : findK (p :: kvs) k = findK kvs k := by simp [findK, List.find?_cons, h.k, e]
      have e2 : atKey (x :: xs) k = atKey xs k := by simp [atKey, List.find?_cons, e]
      rw [e1, e2]
      exact ih
theorem srep_find {vs : List (L2.Key × V)} {ws : List (L2.Key × Value)} (q : Paired (SRep K ρ H) kvs vs) (r : KV vs ws) (k : L2.Key) : ORep K ρ H (findK kvs (nkK k)) (valueAt ws k) := by
  unfold KV at r
  induction q generalizing ws with
  | nil => cases r; rfl
  | @cons p x kvs vs h _ ih =>
    cases r with
    | @cons _ z _ ws r1 r2 =>
      obtain ⟨h1, h2⟩ := h
      have hk := keyA_nk h1
      by_cases e : x.1 = k
      · have e1 : findK (p :: kvs) (nkK k) = some p.2 := by simp [findK, List.find?_cons, hk, e]
        have e2 : valueAt (z :: ws) k = some z.2 := by simp [valueAt, List.find?_cons, ← r1.1, e]
        rw [e1, e2]
        exact ⟨z.2, x.2, rfl, r1.2, h2⟩
      · have e' : ¬ nkK x.1 = nkK k := fun w => e (nkK_inj w)
        have e1 : findK (p :: kvs) (nkK k) = findK kvs (nkK k) := by simp [findK, List.find?_cons, hk, e']
        have e2 : valueAt (z :: ws) k = valueAt ws k := by simp [valueAt, List.find?_cons, ← r1.1, e]
        rw [e1, e2]
        exact ih r2
theorem hasKey_find (k : NestedKey) : ∀ kvs : List (A × A), hasKey kvs k = (findK kvs k).isSome
  | [] => rfl
  | p :: r => by
    have ih := hasKey_find k r
    by_cases e : toNK p.1 = some k
    · simp [hasKey, findK, List.find?_cons, e]
    · have e1 : hasKey (p :: r) k = hasKey r k := by simp [hasKey, e]
      have e2 : findK (p :: r) k = findK r k := by simp [findK, List.find?_cons, e]
      rw [e1, e2, ih]
/-! ### the heap's own table -/
theorem krep_noS {xs : List (NestedKey × Addr × Value)} (q : Paired (KRep K ρ H) kvs xs) (h : (kvs.all fun p => isSA p.1) = true) : kvs = [] ∧ xs = [] := by
  cases q with
  | nil => exact ⟨rfl, rfl⟩
  | @cons p x _ _ h1 _ =>
    rw [List.all_cons, Bool.and_eq_true] at h
    have r := h1.r
    have h2 := h.1
    cases hp : p.1 with
    | int i => rw [hp] at r; cases r
    | str i => rw [hp] at r; cases r
    | _ => rw [hp] at h2; exact Bool.noConfusion h2
theorem srep_noT {vs : List (L2.Key × V)} (q : Paired (SRep K ρ H) kvs vs) (h : (kvs.all fun p => isTA p.1) = true) : kvs = [] ∧ vs = [] := by
  cases q with
  | nil => exact ⟨rfl, rfl⟩
  | @cons p x _ _ h1 _ =>
    rw [List.all_cons, Bool.and_eq_true] at h
    have r := h1.1
    have h2 := h.1
    cases hp : p.1 with
    | tup i => rw [hp] at r; cases r
    | _ => rw [hp] at h2; exact Bool.noConfusion h2
theorem empty_es {α : Type} {es : Array DictEntry} (h : es.toList = ([] : List α).map fun _ => es.toList.headD ⟨0, .none, .none⟩) : es = #[] := by
  have : es.toList = [] := by simpa using h
  exact Array.toList_inj.mp (by simpa using this)
/-- whatever its keys: the object is a dict -/
theorem drd_obj (I : Inv X pins σ H s) (d : DRd X.K ρ H kvs a) : (a == sysModules) = false ∧ kvs.length ≤ sizeLine ∧ s.TypeIs (.ref a) "dict" ∧ ∀ b, Value.ref a = .ref b → ∃ ob, s.heap.get? b = some ob ∧ ob.dict = none := by
  obtain ⟨u, hu, d⟩ := d
  rcases d with ⟨xs, _, rfl, h2, h3, _⟩ | ⟨vs, rfl, q⟩
  · obtain ⟨⟨o, es, ep, e1, e2, e3, _⟩, _⟩ := rd_of I.hok hu
    exact ⟨h2, h3, ⟨o, e1, e2.1⟩, fun b e => by cases e; exact ⟨o, e1, e2.2.1⟩⟩
  · obtain ⟨z, hd, ws, rel, dd⟩ := dk_rd I.hok hu
    exact ⟨hd, by rw [Paired.length q]; exact z, dd.typeIs, fun b e => by cases e; obtain ⟨o, _, _, e1, e2, _⟩ := dd; exact ⟨o, e1, e2.2.1⟩⟩
theorem drd_T (hP : WLD.P = X.prog) (hw : WLD.w = X.w) (I : Inv X pins σ H s) (d : DRd X.K ρ H kvs a) (ht : (kvs.all fun p => isTA p.1) = true) : ∃ xs, s.heap.DictOfH (nestedKind X.prog X.w) a xs ∧ Paired (KRep X.K ρ H) kvs xs := by
  obtain ⟨u, hu, d⟩ := d
  rcases d with ⟨xs, h0, rfl, h2, h3, q⟩ | ⟨vs, rfl, q⟩
  · obtain ⟨⟨o, es, ep, e1, e2, e3, e4, e5⟩, _⟩ := rd_of I.hok hu
    rw [hP, hw] at e4
    exact ⟨xs, ⟨o, es, ep, e1, e2, e3, e4, krep_all I q, e5⟩, q⟩
  · obtain ⟨rfl, rfl⟩ := srep_noT q ht
    obtain ⟨z, hd, ws, rel, o, es, ep, e1, e2, e3, _, e5, _⟩ := dk_rd I.hok hu
    cases rel
    have e6 : es.toList = [] := by
      revert e5
      generalize es.toList = l
      intro h
      cases h
      rfl
    exact ⟨[], ⟨o, es, ep, e1, e2, e3, by rw [e6]; rfl, fun x hx => absurd hx (by simp), List.nodup_nil⟩, .nil⟩
theorem drd_S (I : Inv X pins σ H s) (d : DRd X.K ρ H kvs a) (hs : (kvs.all fun p => isSA p.1) = true) : ∃ vs ws, KV vs ws ∧ s.heap.DictOf (mixKind X.prog X.w) a ws ∧ Paired (SRep X.K ρ H) kvs vs := by
  obtain ⟨u, hu, d⟩ := d
  rcases d with ⟨xs, h0, rfl, h2, h3, q⟩ | ⟨vs, rfl, q⟩
  · exact absurd (krep_noS q hs).1 h0
  · obtain ⟨z, hd, ws, rel, dd⟩ := dk_rd I.hok hu
    exact ⟨vs, ws, rel, dd, q⟩
/-- whatever its keys: the object's table -/
theorem drd_raw (I : Inv X pins σ H s) (d : DRd X.K ρ H kvs a) : ∃ (o : Obj) (es : Array DictEntry) (ep : Nat) (ks us : List V), s.heap.get? a = some o ∧ o.ExactDict ∧ o.data = .dict es ep ∧ Vals ks (es.toList.map (·.key)) ∧ RepAll X.K ρ H (kvs.map (·.1)) ks ∧
    Vals us (es.toList.map (·.val)) ∧ RepAll X.K ρ H (kvs.map (·.2)) us := by
  obtain ⟨u, hu, d⟩ := d
  rcases d with ⟨xs, h0, rfl, h2, h3, q⟩ | ⟨vs, rfl, q⟩
  · obtain ⟨⟨o, es, ep, e1, e2, e3, e4, e5⟩, _⟩ := rd_of I.hok hu
    have w : ∀ {l : List (A × A)} {ys : List (NestedKey × Addr × Value)}, Paired (KRep X.K ρ H) l ys → ∃ ks us, Vals ks (ys.map fun y => Value.ref y.2.1) ∧ RepAll X.K ρ H (l.map (·.1)) ks ∧ Vals us (ys.map fun y => y.2.2) ∧ RepAll X.K ρ H (l.map (·.2)) us := by
      intro l ys q
      induction q with
      | nil => exact ⟨[], [], .nil, .nil, .nil, .nil⟩
      | cons h _ ih =>
        obtain ⟨ks, us, a1, a2, a3, a4⟩ := ih
        obtain ⟨v, b1, b2⟩ := h.v
        exact ⟨.ref _ :: ks, v :: us, .cons (show RelV (.ref _) (Value.ref _) from rfl) a1, .cons h.r a2, .cons b1 a3, .cons b2 a4⟩
    obtain ⟨ks, us, a1, a2, a3, a4⟩ := w q
    refine ⟨o, es, ep, ks, us, e1, e2, e3, ?_, a2, ?_, a4⟩
    · rw [e4, List.map_map]; exact a1
    · rw [e4, List.map_map]; exact a3
  · obtain ⟨z, hd, ws, rel, o, es, ep, e1, e2, e3, e4, e5, _⟩ := dk_rd I.hok hu
    have w : ∀ {es : List DictEntry} {ws : List (L2.Key × Value)} {vs : List (L2.Key × V)} {l : List (A × A)}, PySem.Pairs (mixKind X.prog X.w) es ws → Paired (fun (p : L2.Key × V) (q : L2.Key × Value) => p.1 = q.1 ∧ RelV p.2 q.2) vs ws → Paired (SRep X.K ρ H) l vs →
        ∃ ks us, Vals ks (es.map (·.key)) ∧ RepAll X.K ρ H (l.map (·.1)) ks ∧ Vals us (es.map (·.val)) ∧ RepAll X.K ρ H (l.map (·.2)) us := by
      intro es ws vs l p
      induction p generalizing vs l with
      | nil =>
        intro r q
        cases r
        cases q
        exact ⟨[], [], .nil, .nil, .nil, .nil⟩
      | cons h1 h2 _ ih =>
        intro r q
        cases r with
        | cons r1 r2 =>
          cases q with
          | cons q1 q2 =>
            obtain ⟨ks, us, a1, a2, a3, a4⟩ := ih r2 q2
            refine ⟨_ :: ks, _ :: us, .cons (keyIs_rel h1) a1, .cons ?_ a2, .cons (show RelV _ (DictEntry.val _) from h2 ▸ r1.2) a3, .cons q1.2 a4⟩
            rw [← r1.1]
            exact keyA_v q1.1
    obtain ⟨ks, us, a1, a2, a3, a4⟩ := w e5 rel q
    exact ⟨o, es, ep, ks, us, e1, e2, e3, a1, a2, a3, a4⟩
/-! ### the rules -/
/-- x in d, x not in d -/
def rInDct (neg : Bool) (K : PySem.W.Frag) : R2 := fun x y H Q => ∃ (ρ : List Addr) (d : Addr) (kvs : List (A × A)) (a : A) (k : NestedKey), y = .ref d ∧ DRd K ρ H kvs d ∧ Rep K ρ H a x ∧ kOf a kvs = some k ∧ Q (.bl (if neg = true then !hasKey kvs k else hasKey kvs k)) H
theorem key_ref {x : V} {u : Value} {a : A} {k : NestedKey} (r : Rep X.K ρ H a x) (ru : RelV x u) (hk : tkey a = some k) : ∃ b, u = .ref b := by
  obtain ⟨⟨ys, rfl⟩, _⟩ := tkey_of hk
  cases r
  cases ru
  exact ⟨_, rfl⟩
theorem key_S {x : V} {u : Value} {a : A} {q : L2.Key} (r : Rep X.K ρ H a x) (ru : RelV x u) (hk : keyA a = some q) : (mixKind X.prog X.w).is q u = true := by
  cases a <;> cases hk
  · cases r; exact kV_is ru
  · cases r; exact kV_is ru
theorem op_inDct (neg : Bool) (hP : WLD.P = X.prog) (hw : WLD.w = X.w) (hu : X.A.units + 65 < cLine) : OpR X (compareOp (if neg = true then .NotIn else .In)) (rInDct neg X.K) := by
  intro pins s σ H x y v u Q I rx ry h
  obtain ⟨ρ, d, kvs, a, k, rfl, dr, r, hk, h⟩ := h
  cases ry
  obtain ⟨sy, _⟩ := drd_obj I dr
  rcases kOf_cases hk with ⟨ht, hk⟩ | ⟨hs, q, hq, rfl⟩
  · obtain ⟨b, rfl⟩ := key_ref r rx hk
    obtain ⟨_, hk1, hk2⟩ := tkey_of hk
    obtain ⟨xs, dd, q⟩ := drd_T hP hw I dr ht
    have hr : (nestedKind X.prog X.w).room X.A.in1 := by show X.A.units + 1 + 8 < cLine; omega
    have hi : (nestedKind X.prog X.w).is s.heap k b := ⟨nested_of I _ r rx hk1, hk2⟩
    have e : hasKey kvs k = (atKey xs k).isSome := by rw [hasKey_find, (krep_find q k).some_iff, Option.isSome_map]
    cases neg with
    | false =>
      refine wpAny_in_heap (knd := nestedKind X.prog X.w) hr hi sy dd ?_
      rw [← e]
      exact ⟨.bl _, H, I.tok _, rfl, h⟩
    | true =>
      refine wpAny_notIn_heap (knd := nestedKind X.prog X.w) hr hi sy dd ?_
      rw [← e]
      exact ⟨.bl _, H, I.tok _, rfl, h⟩
  · obtain ⟨vs, ws, rel, dd, p⟩ := drd_S I dr hs
    have e : hasKey kvs (nkK q) = (valueAt ws q).isSome := by rw [hasKey_find, (srep_find p rel q).some_iff]
    cases neg with
    | false =>
      refine wpAny_in_of (key_S r rx hq) sy dd.mapOf ?_
      rw [← e]
      exact ⟨.bl _, H, I.tok _, rfl, h⟩
    | true =>
      refine wpAny_notIn_of (key_S r rx hq) sy dd.mapOf ?_
      rw [← e]
      exact ⟨.bl _, H, I.tok _, rfl, h⟩
/-- d[x], there -/
def rIxD (K : PySem.W.Frag) : R2 := fun x y H Q => ∃ (ρ : List Addr) (d : Addr) (kvs : List (A × A)) (a b : A) (k : NestedKey), x = .ref d ∧ DRd K ρ H kvs d ∧ Rep K ρ H a y ∧ kOf a kvs = some k ∧ findK kvs k = some b ∧ ∀ v, Rep K ρ H b v → Q v H
theorem ix_dct (hP : WLD.P = X.prog) (hw : WLD.w = X.w) (hu : X.A.units + 65 < cLine) : IxR X (rIxD X.K) := by
  intro value slice pins s σ H x y v u Q I rx ry h he
  obtain ⟨ρ, d, kvs, a, b, k, rfl, dr, r, hk, hf, h⟩ := h
  cases rx
  obtain ⟨sy, _, ty, nd⟩ := drd_obj I dr
  refine tail_any ty slot_dict_getitem.lookup ?_ he
  rcases kOf_cases hk with ⟨ht, hk⟩ | ⟨hs, q, hq, rfl⟩
  · obtain ⟨c, rfl⟩ := key_ref r ry hk
    obtain ⟨_, hk1, hk2⟩ := tkey_of hk
    obtain ⟨xs, dd, q⟩ := drd_T hP hw I dr ht
    have f := krep_find q k
    rw [hf] at f
    obtain ⟨z, w, f1, f2, f3⟩ := f
    obtain ⟨p, hp, rfl⟩ := Option.map_eq_some_iff.mp f1
    exact wpAny_getItem_heap (knd := nestedKind X.prog X.w) (by show X.A.units + 1 + 8 < cLine; omega) ⟨nested_of I _ r ry hk1, hk2⟩ dd hp ⟨w, H, I.tok _, f2, h w f3⟩
  · obtain ⟨vs, ws, rel, dd, p⟩ := drd_S I dr hs
    have f := srep_find p rel q
    rw [hf] at f
    obtain ⟨z, w, f1, f2, f3⟩ := f
    exact wpAny_getItem_of (key_S r ry hq) dd.mapOf f1 ⟨w, H, I.tok _, f2, h w f3⟩
/-- d.get(x), d.get(x, y) -/
def rGetD (K : PySem.W.Frag) : V → List V → Hp → VK → Prop := fun x ys H Q => ∃ (ρ : List Addr) (d : Addr) (kvs : List (A × A)) (a b : A) (k : NestedKey), x = .ref d ∧ DRd K ρ H kvs d ∧ ((∃ y, ys = [y] ∧ Rep K ρ H a y ∧ b = .non) ∨ ∃ y z, ys = [y, z] ∧ Rep K ρ H a y ∧ Rep K ρ H b z) ∧
  kOf a kvs = some k ∧ ∀ v, Rep K ρ H ((findK kvs k).getD b) v → Q v H
theorem getD_rep {o : Option A} {u : Option Value} {b : A} {v : V} {z : Value} (f : ORep K ρ H o u) (rb : Rep K ρ H b v) (rz : RelV v z) : ∃ w, RelV w (u.getD z) ∧ Rep K ρ H (o.getD b) w := by
  cases o with
  | none => cases f; exact ⟨v, rz, rb⟩
  | some x => obtain ⟨y, w, rfl, h1, h2⟩ := f; exact ⟨w, h1, h2⟩
theorem mt_getD (hP : WLD.P = X.prog) (hw : WLD.w = X.w) (hu : X.A.units + 65 < cLine) : MtR X "dict.get" (rGetD X.K) := by
  intro pins s σ H x xs v us Q I rx rxs h
  obtain ⟨ρ, d, kvs, a, b, k, rfl, dr, args, hk, h⟩ := h
  cases rx
  obtain ⟨sy, _, ty, nd⟩ := drd_obj I dr
  have one : ∀ {y : V} {u : Value}, Rep X.K ρ H a y → RelV y u → b = .non → wpAny (model X.prog X.w) X.A (call (.builtin "dict.get") [.ref d, u]) (EP X pins σ Q) X.xe s := by
    rintro y u r ry rfl
    rcases kOf_cases hk with ⟨ht, hk⟩ | ⟨hs, q, hq, rfl⟩
    · obtain ⟨c, rfl⟩ := key_ref r ry hk
      obtain ⟨_, hk1, hk2⟩ := tkey_of hk
      obtain ⟨xs, dd, q⟩ := drd_T hP hw I dr ht
      obtain ⟨w, h1, h2⟩ := getD_rep (krep_find q k) Rep.non (show RelV .non Value.none from rfl)
      exact call_meetsIn PySem.F.slot_dict_get ty PySem.F.entry_dict_get (PySem.F.args_dict_get_2 _ _) (meetsH_dict_get (nestedKind X.prog X.w) d c sy) ⟨by show X.A.units + 1 + 8 < cLine; omega, k, xs, ⟨nested_of I _ r ry hk1, hk2⟩, dd, ⟨w, H, I.tok _, h1, h w h2⟩⟩
    · obtain ⟨vs, ws, rel, dd, p⟩ := drd_S I dr hs
      obtain ⟨w, h1, h2⟩ := getD_rep (srep_find p rel q) Rep.non (show RelV .non Value.none from rfl)
      exact call_meetsIn PySem.F.slot_dict_get ty PySem.F.entry_dict_get (PySem.F.args_dict_get_2 _ _) (meets_dict_get (mixKind X.prog X.w) d (key_S r ry hq) sy) ⟨_, dd.mapOf, ⟨w, H, I.tok _, h1, h w h2⟩⟩
  have two : ∀ {y z : V} {u t : Value}, Rep X.K ρ H a y → RelV y u → Rep X.K ρ H b z → RelV z t → wpAny (model X.prog X.w) X.A (call (.builtin "dict.get") [.ref d, u, t]) (EP X pins σ Q) X.xe s := by
    intro y z u t r ry rb rz
    rcases kOf_cases hk with ⟨ht, hk⟩ | ⟨hs, q, hq, rfl⟩
    · obtain ⟨c, rfl⟩ := key_ref r ry hk
      obtain ⟨_, hk1, hk2⟩ := tkey_of hk
      obtain ⟨xs, dd, q⟩ := drd_T hP hw I dr ht
      obtain ⟨w, h1, h2⟩ := getD_rep (krep_find q k) rb rz
      exact call_meetsIn PySem.F.slot_dict_get ty PySem.F.entry_dict_get (PySem.F.args_dict_get_3 _ _ _) (meetsH_dict_get_default (nestedKind X.prog X.w) d c sy t) ⟨by show X.A.units + 1 + 8 < cLine; omega, k, xs, ⟨nested_of I _ r ry hk1, hk2⟩, dd, ⟨w, H, I.tok _, h1, h w h2⟩⟩
    · obtain ⟨vs, ws, rel, dd, p⟩ := drd_S I dr hs
      obtain ⟨w, h1, h2⟩ := getD_rep (srep_find p rel q) rb rz
      exact call_meetsIn PySem.F.slot_dict_get ty PySem.F.entry_dict_get (PySem.F.args_dict_get_3 _ _ _) (meets_dict_get_default (mixKind X.prog X.w) d (key_S r ry hq) sy t) ⟨_, dd.mapOf, ⟨w, H, I.tok _, h1, h w h2⟩⟩
  rcases args with ⟨y, rfl, r, hb⟩ | ⟨y, z, rfl, r, rb⟩
  · obtain ⟨u, rfl, ru⟩ := vals1 rxs
    exact one r ru hb
  · cases rxs with
    | cons r1 r2 =>
      obtain ⟨t, rfl, rt⟩ := vals1 r2
      exact two r r1 rb rt
/-- list(d): its keys -/
def rListDc (K : PySem.W.Frag) : List V → Hp → VK → Prop := fun xs H Q => ∃ (ρ : List Addr) (d : Addr) (kvs : List (A × A)), xs = [.ref d] ∧ DRd K ρ H kvs d ∧ ∀ p ks, H p = none → RepAll K ρ H (kvs.map (·.1)) ks → Q (.ref p) (upd H p (.lst ks))
theorem call_listDc (hc : X.calm = true) : CallR X (.type "list") (rListDc X.K) := by
  intro pins s σ H xs us Q I r h
  obtain ⟨ρ, d, kvs, rfl, dr, q⟩ := h
  obtain ⟨u, rfl, ru⟩ := vals1 r
  cases ru
  obtain ⟨sy, hz, _⟩ := drd_obj I dr
  obtain ⟨o, es, ep, ks, vs, e1, e2, e3, v1, r1, _, _⟩ := drd_raw I dr
  have hl : ks.length = es.size := by rw [v1.length]; simp
  have hl2 : kvs.length = ks.length := by have := r1.length; simpa using this
  refine PySem.W.kdl_call (L2.kdl_raw sy e2 e3) (I.ok.hd hc) e1 (by omega) fun h' tk acc' c' kp e it => ?_
  have ea : acc'.toList = es.toList.map (·.key) := by
    have hs := it.1
    refine List.ext_getElem? fun j => ?_
    rw [List.getElem?_map]
    by_cases hj : j < es.size
    · have h1 : acc'.toList[j]? = some acc'[j] := by rw [Array.getElem?_toList]; exact Array.getElem?_eq_getElem (by omega)
      obtain ⟨en, h2, h3⟩ := it.2 j _ (by rw [← Array.getElem?_toList]; exact h1)
      rw [h1, h3, Array.getElem?_toList, h2]
      rfl
    · rw [List.getElem?_eq_none (by simp; omega), List.getElem?_eq_none (by simp; omega)]
      rfl
  refine ⟨.ref s.heap.objs.size, _, I.laid (t' := tk) (o := .lst ks) kp (Nat.le_refl _) ?_, rfl, q _ _ (I.hok.fresh (Nat.le_refl _)) r1⟩
  exact ⟨by omega, acc'.toList, c', by rw [ea]; exact v1, by rw [Array.toArray_toList]; exact e⟩
/-! ### d[k] = v -/
theorem krep_map {k : NestedKey} {c : A} {z : V} {r : Value} (hr : RelV z r) (rc : Rep K ρ H c z) {xs : List (NestedKey × Addr × Value)} (q : Paired (KRep K ρ H) kvs xs) :
    Paired (KRep K ρ H) (kvs.map fun p => if toNK p.1 = some k then (p.1, c) else p) (xs.map (putAt k r)) := by
  induction q with
  | nil => exact .nil
  | @cons p x kvs xs h t ih =>
    refine .cons ?_ ih
    show KRep K ρ H (if toNK p.1 = some k then (p.1, c) else p) (if x.1 = k then (x.1, x.2.1, r) else x)
    by_cases hx : x.1 = k
    · rw [if_pos hx, if_pos (by rw [h.k, hx])]
      exact ⟨h.k, h.d, h.r, z, hr, rc⟩
    · rw [if_neg hx, if_neg (by rw [h.k]; intro w; exact hx (Option.some.inj w))]
      exact h
theorem paired_snoc {α β : Type} {R : α → β → Prop} {p : α} {x : β} (h0 : R p x) {l : List α} {xs : List β} (q : Paired R l xs) : Paired R (l ++ [p]) (xs ++ [x]) := by
  induction q with
  | nil => exact .cons h0 .nil
  | cons h t ih => exact .cons h ih
theorem krep_put {k : NestedKey} {b : Addr} {x c : A} {z : V} {r : Value} (hr : RelV z r) (rc : Rep K ρ H c z) (hk : toNK x = some k) (hd : k.depth ≤ 8) (rb : Rep K ρ H x (.ref b)) {xs : List (NestedKey × Addr × Value)} (q : Paired (KRep K ρ H) kvs xs) :
    Paired (KRep K ρ H) (MP.putD kvs k x c) (storedH xs k b r) := by
  have e : hasKey kvs k = (atKey xs k).isSome := by rw [hasKey_find, (krep_find q k).some_iff, Option.isSome_map]
  unfold MP.putD storedH
  rw [← e]
  split
  · exact krep_map hr rc q
  · exact paired_snoc ⟨hk, hd, rb, z, hr, rc⟩ q
theorem srep_map {k : L2.Key} {c : A} {z : V} (rc : Rep K ρ H c z) {vs : List (L2.Key × V)} (q : Paired (SRep K ρ H) kvs vs) : Paired (SRep K ρ H) (kvs.map fun p => if toNK p.1 = some (nkK k) then (p.1, c) else p) (vs.map fun p => if p.1 = k then (p.1, z) else p) := by
  induction q with
  | nil => exact .nil
  | @cons p y _ _ h t ih =>
    have e1 := keyA_nk h.1
    refine .cons ?_ ih
    show SRep K ρ H (if toNK p.1 = some (nkK k) then (p.1, c) else p) (if y.1 = k then (y.1, z) else y)
    by_cases hy : y.1 = k
    · rw [if_pos hy, if_pos (by rw [e1, hy])]
      exact ⟨h.1, rc⟩
    · rw [if_neg hy, if_neg (by rw [e1]; intro w; exact hy (nkK_inj (Option.some.inj w)))]
      exact h
theorem srep_put {k : L2.Key} {x c : A} {z : V} (rc : Rep K ρ H c z) (hk : keyA x = some k) {vs : List (L2.Key × V)} (q : Paired (SRep K ρ H) kvs vs) : Paired (SRep K ρ H) (MP.putD kvs (nkK k) x c) (L2.putK vs k z) := by
  have e : hasKey kvs (nkK k) = vs.any fun p => decide (p.1 = k) := by
    induction q with
    | nil => rfl
    | @cons p y _ _ h _ ih =>
      have e1 := keyA_nk h.1
      show (decide (toNK p.1 = some (nkK k)) || hasKey _ _) = _
      rw [List.any_cons, ih, e1]
      congr 1
      exact decide_eq_decide.mpr ⟨fun w => nkK_inj (Option.some.inj w), fun w => by rw [w]⟩
  unfold MP.putD L2.putK
  rw [← e]
  split
  · exact srep_map rc q
  · exact paired_snoc ⟨hk, rc⟩ q
def rSetDct (K : PySem.W.Frag) : V → V → V → Hp → (Hp → Prop) → Prop := fun o i v H Q => ∃ (ρ : List Addr) (d : Addr) (kvs : List (A × A)) (u : HO) (a c : A) (k : NestedKey), o = .ref d ∧ d ∈ ρ ∧ H d = some u ∧ DD K ρ H kvs d u ∧ kvs.length < sizeLine ∧ Rep K ρ H a i ∧ Rep K ρ H c v ∧ kOf a kvs = some k ∧
  ∀ u', Grow ρ H ρ (upd H d u') → DD K ρ (upd H d u') (MP.putD kvs k a c) d u' → Q (upd H d u')
theorem mut_of {u : HO} {d : Addr} (h : DD K ρ H kvs d u) : Mut (some u) := by
  rcases h with ⟨_, _, rfl, _⟩ | ⟨_, rfl, _⟩ <;> exact trivial
theorem set_dct (hP : WLD.P = X.prog) (hw : WLD.w = X.w) (hu : X.A.units + 64 < cLine) : PSet X (rSetDct X.K) := by
  intro pins s σ H o i v ov iv uv Q I ro ri rv h
  obtain ⟨ρ, d, kvs, u, a, c, k, rfl, hm, hd, dd0, hl, ra, rc, hk, h⟩ := h
  cases ro
  have dr : DRd X.K ρ H kvs d := ⟨u, .inl hd, dd0⟩
  obtain ⟨sy, hz, _⟩ := drd_obj I dr
  have mu : Mut (H d) := by rw [hd]; exact mut_of dd0
  have hst := dd0.stab
  have gr : ∀ u', Grow ρ H ρ (upd H d u') := fun _ => Grow.write hm hd hst
  rcases kOf_cases hk with ⟨ht, hk⟩ | ⟨hs, q, hq, rfl⟩
  · obtain ⟨b, rfl⟩ := key_ref ra ri hk
    obtain ⟨⟨ys, rfl⟩, hk1, hk2⟩ := tkey_of hk
    obtain ⟨xs, dd, pq⟩ := drd_T hP hw I dr ht
    refine wpAny_setItem_heap (knd := nestedKind X.prog X.w) (hsz := by rw [← Paired.length pq]; exact hz) (by show X.A.units + 1 + 8 < cLine; omega) ⟨nested_of I _ ra ri hk1, hk2⟩ dd fun h' dd' sb => ?_
    obtain ⟨ob, es, ep, e1, e2, e3, e4, _, e5⟩ := dd'
    have ob' : ObjOk X.prog X.w (upd H d (.ext (DctAt d (storedH xs k b uv)))) h' d (.ext (DctAt d (storedH xs k b uv))) := by
      refine ⟨⟨ob, es, ep, e1, e2, e3, by rw [hP, hw]; exact e4, e5⟩, ⟨ob, e1⟩, fun h1 h2 p st => ?_⟩
      obtain ⟨o, es, ep, q1, q2⟩ := p
      exact ⟨o, es, ep, st o q1, q2⟩
    have g : ∀ {x v}, Rep X.K ρ H x v → Rep X.K ρ (upd H d (.ext (DctAt d (storedH xs k b uv)))) x v := fun {x v} r => r.mono (gr _)
    refine ⟨_, d_write I mu sb ⟨ob, e1⟩ ob', h _ (gr _) (.inl ⟨_, ?_, rfl, sy, ?_, ?_⟩)⟩
    · unfold MP.putD
      split
      · rename_i hy
        intro e
        rw [List.map_eq_nil_iff] at e
        subst e
        cases hy
      · simp
    · unfold MP.putD
      split
      · rw [List.length_map]; exact hz
      · rw [List.length_append]; exact hl
    · have rb : Rep X.K ρ H (.tup ys) (.ref b) := by
        cases ra with
        | tup s1 r1 => cases ri; exact .tup s1 r1
      exact krep_put rv (g rc) hk1 hk2 (g rb) (L2.Paired.mapP pq fun _ _ w => w.map fun {x v} w => g w)
  · obtain ⟨vs, ws, rel, dd, pq⟩ := drd_S I dr hs
    have l1 := Paired.length pq
    have l2 := rel.length
    refine wpAny_setItem_pairs (hsz := by omega) (key_S ra ri hq) dd fun h' dd' sb => ?_
    have he : ∃ q, h'.get? d = some q := let ⟨q, _, _, hq, _⟩ := dd'; ⟨q, hq⟩
    have hlp : (L2.putK vs q v).length ≤ sizeLine := by have := L2.length_putK vs q v; omega
    have g : ∀ {x z}, Rep X.K ρ H x z → Rep X.K ρ (upd H d (.dK (L2.putK vs q v))) x z := fun {x z} r => r.mono (gr _)
    refine ⟨_, d_write I mu sb he (dk_new hlp sy (rel.put q rv) dd'), h _ (gr _) (.inr ⟨_, rfl, ?_⟩)⟩
    exact srep_put (g rc) hq (L2.Paired.mapP pq fun _ _ w => ⟨w.1, g w.2⟩)
/-! ### pop(i), extend -/
def rExtX (K : PySem.W.Frag) : V → List V → Hp → VK → Prop := fun x vs H Q => ∃ l b xs zs, x = .ref l ∧ vs = [.ref b] ∧ H l = some (.lst xs) ∧ (SqX K H b zs ∨ SqT K H b zs) ∧ xs.length + zs.length ≤ sizeLine ∧ Q .non (upd H l (.lst (xs ++ zs)))
theorem mt_extX : MtR X "list.extend" (rExtX X.K) := by
  intro pins s σ H x vs v us Q I rx rv h
  obtain ⟨l, b, xs, zs, rfl, rfl, hl, hb, hz, q⟩ := h
  cases rx
  obtain ⟨u, rfl, ru⟩ := vals1 rv
  cases ru
  obtain ⟨_, i1, n1, r1, l1, e1⟩ := L2.Inv.lstM I hl
  have lx := xs.length_append (bs := zs)
  rcases hb with hb | hb
  · obtain ⟨i2, n2, r2, e2, _⟩ := MP.Inv.listX I hb
    have l2 := r2.length
    have sz : i1.toArray.size + i2.toArray.size ≤ sizeLine := by simp only [List.size_toArray]; omega
    have nl : ¬ (!i1.toArray.isEmpty && Builtin.List.listTooLong (i1.toArray.size + i2.toArray.size)) = true := by rw [L2.notLongL sz]; simp
    exact call_meets F.slot_list_extend ⟨_, e1, rfl⟩ F.entry_list_extend (F.args_list_extend_2 _ _) (AutoSeq1.list_extend_list_list_0 l i1.toArray n1 b i2.toArray n2 nl (by omega) (by omega))
      ⟨e1, e2, .non, _, L2.Inv.lset I (its' := i1 ++ i2) hl e1 (by simp) (r1.append r2) (by omega), rfl, q⟩
  · obtain ⟨i2, r2, pl, _⟩ := I.tuple hb
    obtain ⟨o, ho, hc, n2, hd⟩ := pl
    have l2 := r2.length
    have sz : i1.toArray.size + i2.toArray.size ≤ sizeLine := by simp only [List.size_toArray]; omega
    have nl : ¬ (!i1.toArray.isEmpty && Builtin.List.listTooLong (i1.toArray.size + i2.toArray.size)) = true := by rw [L2.notLongL sz]; simp
    refine wpAny_call_entry F.slot_list_extend ⟨_, e1, rfl⟩ F.entry_list_extend ?_ (F.args_list_extend_2 _ _)
    show wpAny _ _ (Builtin.List.listExtendWith (.ref l) (.ref b) .none) _ _ _
    unfold Builtin.List.listExtendWith
    refine wpAny_bind (wpAny_typeOf ⟨o, ho, hc⟩ ?_)
    have t2 : (Value.type "tuple" == Value.type "tuple") = true := by decide
    simp only [t2, Bool.or_true, if_true]
    unfold Builtin.List.listItems
    refine wpAny_bind (wpAny_bind (wpAny_seqItems ho hd (wpAny_pure ?_)))
    refine wpAny_bind (wpAny_bind (wpAny_seqItems e1 rfl (wpAny_pure ?_)))
    rw [if_neg nl]
    show wpAny _ _ (updateSeq l (· ++ i2.toArray) >>= fun _ => ret Value.none) _ _ _
    refine wpAny_bind (wpAny_updateSeq e1 rfl ?_ (hz := by simpa using (by omega : i1.toArray.size ≤ sizeLine)))
    exact wpAny_pure ⟨_, rfl, .non, _, L2.Inv.lset I (its' := i1 ++ i2) hl e1 (by simp) (r1.append r2) (by omega), rfl, q⟩
/-! ### sorted -/
/-- a list's items side by side with their trees -/
theorem zip_rel {xs : List A} {vs : List V} {us : List Value} (r : RepAll K ρ H xs vs) (q : Vals vs us) : PySem.W.EachIs (fun (u : Value) (p : A × V) => RelV p.2 u ∧ Rep K ρ H p.1 p.2) us (xs.zip vs) := by
  induction q generalizing xs with
  | nil => cases r; exact .nil
  | cons h _ ih =>
    cases r with
    | cons r1 r2 => exact .cons ⟨h, r1⟩ (ih r2)
theorem each_vals {us : List Value} {ps : List (A × V)} (e : PySem.W.EachIs (fun (u : Value) (p : A × V) => RelV p.2 u ∧ Rep K ρ H p.1 p.2) us ps) : Vals (ps.map (·.2)) us ∧ RepAll K ρ H (ps.map (·.1)) (ps.map (·.2)) := by
  induction e with
  | nil => exact ⟨.nil, .nil⟩
  | cons h _ ih => exact ⟨.cons h.1 ih.1, .cons h.2 ih.2⟩
def rSortD (K : PySem.W.Frag) : List V → Hp → VK → Prop := fun vs H Q => ∃ (ρ : List Addr) (l : Addr) (xs : List A) (ws : List V), vs = [.ref l] ∧ SqX K H l ws ∧ RepAll K ρ H xs ws ∧ okSort xs = true ∧ ∀ p ks, H p = none → RepAll K ρ H (sortL xs) ks → Q (.ref p) (upd H p (.lst ks))
theorem toD_key {x : A} (h : x.toD.isSome = true) : x.toD = some (keyD x) := by
  obtain ⟨d, hd⟩ := Option.isSome_iff_exists.mp h
  rw [keyD, hd]; rfl
theorem fst_zip : ∀ {xs : List A} {vs : List V}, xs.length = vs.length → (xs.zip vs).map (·.1) = xs
  | [], [], _ => rfl
  | x :: xs, v :: vs, h => by simp [fst_zip (xs := xs) (vs := vs) (by simpa using h)]
  | [], _ :: _, h => by simp at h
  | _ :: _, [], h => by simp at h
theorem call_sortD (hu : X.A.units + 64 < cLine) : CallR X (.builtin "sorted") (rSortD X.K) := by
  intro pins s σ H vs us Q I r h
  obtain ⟨ρ, l, xs, ws, rfl, hl, ra, ok, q⟩ := h
  obtain ⟨u, rfl, ru⟩ := vals1 r
  cases ru
  obtain ⟨its, n, rv, ho, hz⟩ := MP.Inv.listX I hl
  unfold okSort at ok
  simp only [Bool.and_eq_true, Bool.or_eq_true, decide_eq_true_eq] at ok
  obtain ⟨⟨⟨⟨k1, k2⟩, k3⟩, k4⟩, k5⟩ := ok
  have k1' : ∀ x ∈ xs, x.toD.isSome = true := List.all_eq_true.mp k1
  have lxw := ra.length
  have mem : ∀ p ∈ xs.zip ws, p.1 ∈ xs := fun p hp => (List.of_mem_zip hp).1
  have e := zip_rel ra rv
  have er : PySem.W.EachIs (fun v (b : A × V) => ∃ as, Reads s.heap v (keyD b.1) as) its (xs.zip ws) := by
    have h0 : ∀ {us : List Value} {ps : List (A × V)}, (∀ p ∈ ps, p.1.toD.isSome = true) → PySem.W.EachIs (fun (u : Value) (p : A × V) => RelV p.2 u ∧ Rep X.K ρ H p.1 p.2) us ps → PySem.W.EachIs (fun v (b : A × V) => ∃ as, Reads s.heap v (keyD b.1) as) us ps := by
      intro us ps hp e
      induction e with
      | nil => exact .nil
      | cons h _ ih => exact .cons (L2.Dp.reads I _ _ _ (h.2.dp (toD_key (hp _ List.mem_cons_self))) h.1) (ih fun p hp' => hp p (List.mem_cons_of_mem _ hp'))
    exact h0 (fun p hp => k1' _ (mem p hp)) e
  have hal : PySem.W.AllAlike ((xs.zip ws).map fun b => keyD b.1) := by
    intro d hd d' hd'
    obtain ⟨b, hb, rfl⟩ := List.mem_map.mp hd
    obtain ⟨b', hb', rfl⟩ := List.mem_map.mp hd'
    exact List.all_eq_true.mp (List.all_eq_true.mp k2 _ (mem b hb)) _ (mem b' hb')
  have hk : PySem.W.Sortable ((xs.zip ws).map fun b => keyD b.1) := by
    rcases k3 with k3 | k3
    · left
      intro d hd
      obtain ⟨b, hb, rfl⟩ := List.mem_map.mp hd
      have := List.all_eq_true.mp k3 _ (mem b hb)
      revert this
      cases keyD b.1 with
      | tuple l => cases l with
        | nil => intro h; cases h
        | cons x r => intro _; exact ⟨x, r, rfl⟩
      | _ => intro h; cases h
    · right
      intro d hd
      obtain ⟨b, hb, rfl⟩ := List.mem_map.mp hd
      have := List.all_eq_true.mp k3 _ (mem b hb)
      revert this
      cases keyD b.1 with
      | tuple l => intro h; cases h
      | none => intro h; cases h
      | _ => intro _; exact ⟨fun h => (by cases h), fun _ h => (by cases h)⟩
  have hlen : (xs.zip ws).length = ws.length := by rw [List.length_zip]; omega
  refine PySem.W.sorted_data (vs := its) (enc := fun b : A × V => keyD b.1) ⟨_, ho, rfl, n, rfl⟩ e er hal hk (by omega) (fun b hb => ?_) fun out ho' eo => ?_
  · have := List.all_eq_true.mp k4 _ (mem b hb)
    have := of_decide_eq_true this
    omega
  · obtain ⟨v1, r1⟩ := each_vals eo
    obtain ⟨c, hc⟩ := PyProof.Rows.sortedAll_at s.heap its out.toArray
    have es : ((xs.zip ws).mergeSort (PySem.W.dataLe false fun b => keyD b.1)).map (·.1) = sortL xs := by
      unfold sortL
      rw [List.map_mergeSort (s := fun a b => !ltD b a) (f := fun p : A × V => p.1)]
      · rw [fst_zip (by omega)]
      · intro a ha b hb
        have h1 := toD_key (k1' _ (mem a ha))
        have h2 := toD_key (k1' _ (mem b hb))
        show (!PySem.W.dataLt (keyD b.1) (keyD a.1)) = !ltD b.1 a.1
        unfold ltD
        rw [h1, h2]
    rw [es] at r1
    refine ⟨.ref (s.heap.objs.size + 1), _, I.laid (a := s.heap.objs.size + 1) (t' := s.toks) (o := .lst (((xs.zip ws).mergeSort (PySem.W.dataLe false fun b => keyD b.1)).map (·.2))) (fun _ _ q => PyProof.Rows.sortedAll_old q) (Nat.le_succ _) ?_, rfl, q _ _ (I.hok.fresh (Nat.le_succ _)) r1⟩
    refine ⟨?_, out, c, v1, hc⟩
    rw [v1.length, ho']
    omega
end
end MP

/-! MP, part D: the other operators by values -/
namespace MP
open PySem PySem.Spec PyProof.Rows L2
variable [WLD]
section
variable {X : Cx} {mg : Str → Option Value} {ρ : List Addr} {H : Hp} {M : Mem} {Q : VK} {E : Value → Option Addr → Hp → Prop} {a b : A} {x y : V} {K : PySem.W.Frag}

theorem post_outB {o : Option Bool} (m : RepM K ρ H M) (h : Post K mg (Rep K) ρ H (outB o M) Q E) : ∃ k, o = some k ∧ Q (.bl k) H := by
  cases o with
  | none => exact False.elim h
  | some k => exact ⟨k, rfl, post_ok m (.bl k) h⟩
theorem post_outV {o : Option A} (m : RepM K ρ H M) (h : Post K mg (Rep K) ρ H (outV o M) Q E) : ∃ k, o = some k ∧ ∀ v, Rep K ρ H k v → Q v H := by
  cases o with
  | none => exact False.elim h
  | some k => exact ⟨k, rfl, fun v r => post_ok m r h⟩

/-! ### - * // % ** -/
/-- the operator's reading, whatever it is -/
def rBinA (op : Operator) (K : PySem.W.Frag) : R2 := fun x y H Q => match op with
  | .Add => rAddX K x y H Q
  | .Sub => rI0 (fun i j => .int (i - j)) x y H Q
  | .Mult => rI CMul (fun i j => .int (i * j)) x y H Q ∨ (rRepX K x y H Q ∨ rRepTX K x y H Q)
  | .FloorDiv => rI CDiv (fun i j => .int (i / j)) x y H Q
  | .Mod => rI (fun _ j => 0 < j) (fun i j => .int (i % j)) x y H Q
  | .Pow => rI CPow (fun i j => .int (i ^ j.toNat)) x y H Q
  | _ => False
theorem op_binA (op : Operator) : OpR X (binaryOp op) (rBinA op X.K) := by
  cases op with
  | Add => exact op_addX
  | Sub => exact op_sub
  | Mult => exact op_mul.or (op_repX.or op_repTX)
  | FloorDiv => exact op_fdiv
  | Mod => exact op_mod
  | Pow => exact op_pow
  | _ => exact fun _ _ _ _ _ _ _ _ _ _ _ _ h => False.elim h
theorem binN_w {op : Operator} (m : RepM K ρ H M) (ra : Rep K ρ H a x) (rb : Rep K ρ H b y) (h : Post K mg (Rep K) ρ H (binN op a b M) Q E) : rBinA op K x y H (Fz Q) := by
  cases ra with
  | int i =>
    cases rb with
    | int j =>
      have h' : Post K mg (Rep K) ρ H (binI op i j M) Q E := h
      clear h
      cases op with
      | Sub => exact ⟨i, j, rfl, rfl, fz_of (post_ok m (.int _) h')⟩
      | Mult =>
        simp only [binI] at h'
        split at h'
        · rename_i hc
          exact .inl ⟨i, j, rfl, rfl, okMul_C hc, fz_of (post_ok m (.int _) h')⟩
        · exact False.elim h'
      | FloorDiv =>
        simp only [binI] at h'
        split at h'
        · rename_i hc
          exact ⟨i, j, rfl, rfl, hc, fz_of (post_ok m (.int _) h')⟩
        · exact False.elim h'
      | Mod =>
        simp only [binI] at h'
        split at h'
        · rename_i hc
          exact ⟨i, j, rfl, rfl, hc, fz_of (post_ok m (.int _) h')⟩
        · exact False.elim h'
      | Pow =>
        simp only [binI] at h'
        split at h'
        · rename_i hc
          exact ⟨i, j, rfl, rfl, hc, fz_of (post_ok m (.int _) h')⟩
        · exact False.elim h'
      | _ => exact False.elim h'
    | _ => exact False.elim h
  | _ => exact False.elim h
theorem binA_w {o : Bool} {op : Operator} (m : RepM K ρ H M) (ra : Rep K ρ H a x) (rb : Rep K ρ H b y) (h : Post K mg (Rep K) ρ H (binA o op a b M) Q E) : rBinA op K x y H (Fz Q) := by
  cases op with
  | Add => exact addA_w m ra rb h
  | Mult =>
    have h' : Post K mg (Rep K) ρ H (mulA o a b M) Q E := h
    unfold mulA at h'
    split at h'
    · exact binN_w m ra rb h'
    · exact .inr (repA_w m ra rb h')
  | _ => exact binN_w m ra rb h

/-! ### comparisons -/
def rInX (K : PySem.W.Frag) : R2 := fun x y H Q => (∃ (c : Nat) (z : Str), x = .str ⟨#[c]⟩ ∧ y = .str z ∧ Q (.bl (decide (c ∈ z.cps.toList))) H) ∨ rIn K false x y H Q ∨ rInD K x y H Q
def rNotInX (K : PySem.W.Frag) : R2 := fun x y H Q => (∃ (c : Nat) (z : Str), x = .str ⟨#[c]⟩ ∧ y = .str z ∧ Q (.bl (!decide (c ∈ z.cps.toList))) H) ∨ rIn K true x y H Q ∨ rNotInD K x y H Q
def rEqT (K : PySem.W.Frag) : R2 := fun v w H Q => ∃ ρ x y, Rep K ρ H x v ∧ Rep K ρ H y w ∧ pl 60 x = true ∧ pl 60 y = true ∧ Q (.bl (eqT x y)) H
def rNeT (K : PySem.W.Frag) : R2 := fun v w H Q => ∃ ρ x y, Rep K ρ H x v ∧ Rep K ρ H y w ∧ pl 60 x = true ∧ pl 60 y = true ∧ isD x = false ∧ isD y = false ∧ Q (.bl (!eqT x y)) H
def rCmpA (op : CmpOp) (K : PySem.W.Frag) : R2 := fun x y H Q => match op with
  | .Eq => rEq x y H Q ∨ rEqD K x y H Q ∨ rEqT K x y H Q
  | .NotEq => rNe x y H Q ∨ rNeD K x y H Q ∨ rNeT K x y H Q ∨ rNeDT K x y H Q
  | .Is => (y = .non ∧ Q (.bl (decide (x = .non))) H) ∨ ∃ a b, x = .bl a ∧ y = .bl b ∧ Q (.bl (decide (a = b))) H
  | .IsNot => (y = .non ∧ Q (.bl (!decide (x = .non))) H) ∨ ∃ a b, x = .bl a ∧ y = .bl b ∧ Q (.bl (!decide (a = b))) H
  | .In => (rInX K x y H Q ∨ rInT K false x y H Q) ∨ rInDct false K x y H Q
  | .NotIn => (rNotInX K x y H Q ∨ rInT K true x y H Q) ∨ rInDct true K x y H Q
  | .Lt => rI0 (fun i j => .bl (decide (i < j))) x y H Q
  | .LtE => rI0 (fun i j => .bl (decide (i ≤ j))) x y H Q
  | .Gt => rI0 (fun i j => .bl (decide (j < i))) x y H Q
  | .GtE => rI0 (fun i j => .bl (decide (j ≤ i))) x y H Q
theorem op_cmpA (hP : WLD.P = X.prog) (hw : WLD.w = X.w) (hu : X.A.units + 65 < cLine) (op : CmpOp) : OpR X (compareOp op) (rCmpA op X.K) := by
  cases op with
  | Eq => exact op_eq.or ((op_eqD (by omega)).or (op_eqT (by omega)))
  | NotEq => exact op_ne.or ((op_neD (by omega)).or ((op_neT (by omega)).or (op_neDT (by omega))))
  | Is => exact op_isN.or op_is_bl
  | IsNot => exact op_notN.or op_isnot_bl
  | In => exact ((op_in_sign.or (op_in_seq.or (op_inD hu))).or (op_inT (by omega))).or (op_inDct false hP hw hu)
  | NotIn => exact ((op_notIn_sign.or (op_notIn_seq.or (op_notInD hu))).or (op_niT (by omega))).or (op_inDct true hP hw hu)
  | Lt => exact op_lt
  | LtE => exact op_le
  | Gt => exact op_gt
  | GtE => exact op_ge
theorem rep_flat (r : Rep K ρ H a x) (h : flatA a = true) : flatV x = true := by cases r <;> first | rfl | exact Bool.noConfusion h
theorem rep_eqF {c : A} {z : V} (r : Rep K ρ H a x) (q : Rep K ρ H c z) (h1 : flatA a = true) (h2 : flatA c = true) : eqV z x = eqF c a := by
  cases r <;> cases q <;> first | rfl | exact Bool.noConfusion h1 | exact Bool.noConfusion h2
theorem reps_flat : ∀ {xs : List A} {vs : List V}, RepAll K ρ H xs vs → xs.all flatA = true → vs.all flatV = true
  | _, _, .nil, _ => rfl
  | _, _, .cons h r, e => by
    rw [List.all_cons, Bool.and_eq_true] at e
    rw [List.all_cons, rep_flat h e.1, reps_flat r e.2]; rfl
theorem reps_in (ra : Rep K ρ H a x) (h1 : flatA a = true) : ∀ {xs : List A} {vs : List V}, RepAll K ρ H xs vs → xs.all flatA = true → inV x vs = xs.any fun y => eqF y a
  | _, _, .nil, _ => rfl
  | _, _, .cons h r, e => by
    rw [List.all_cons, Bool.and_eq_true] at e
    show (eqV _ x || inV x _) = _
    rw [List.any_cons, rep_eqF ra h h1 e.1, reps_in ra h1 r e.2]
theorem sign_of {z : Str} (h : z.cps.size = 1) : z = ⟨#[z.cps.getD 0 0]⟩ := by
  obtain ⟨⟨l⟩⟩ := z
  match l, h with
  | [c], _ => rfl
theorem rep_seq_notstr {ys : List A} (e : asSeq M b = some ys) : ∀ z, b ≠ .str z := by
  rintro z rfl
  simp [MP.asSeq, MP.asL] at e
theorem inSeq_w {k : Bool} (m : RepM K ρ H M) (ra : Rep K ρ H a x) (rb : Rep K ρ H b y) (h : inSeq a b M = some k) :
    (∃ p xs, y = .ref p ∧ (SqL K H p xs ∨ SqT K H p xs) ∧ flatV x = true ∧ xs.all flatV = true ∧ inV x xs = k) ∨
      ∃ d ds, Dp K H x d ∧ Dp K H y (.list ds) ∧ SeqAt.shaped d = true ∧ SeqAt.shaped (.list ds) = true ∧ (ds.any fun z => PyData.eqv z d) = k := by
  unfold inSeq at h
  split at h
  · rename_i ys e1
    obtain ⟨p, vs, rfl, hs, rr⟩ := rb.asSeq m e1
    split at h
    · rename_i hf
      rw [Bool.and_eq_true] at hf
      cases h
      exact .inl ⟨p, vs, rfl, hs.imp SqX.sq id, rep_flat ra hf.1, reps_flat rr hf.2, reps_in ra hf.1 rr hf.2⟩
    · split at h
      · rename_i d e2
        split at h
        · rename_i ds e3
          split at h
          · rename_i hs2
            rw [Bool.and_eq_true] at hs2
            cases h
            exact .inr ⟨d, ds, ra.dpM m e2, rb.dpM m e3, hs2.1, hs2.2, rfl⟩
          · cases h
        · cases h
      · cases h
  · cases h
theorem inL_w {k : Bool} (m : RepM K ρ H M) (ra : Rep K ρ H a x) (rb : Rep K ρ H b y) (h : inL a b M = some k) :
    (∃ p xs, y = .ref p ∧ (SqL K H p xs ∨ SqT K H p xs) ∧ flatV x = true ∧ xs.all flatV = true ∧ inV x xs = k) ∨
      (∃ d ds, Dp K H x d ∧ Dp K H y (.list ds) ∧ SeqAt.shaped d = true ∧ SeqAt.shaped (.list ds) = true ∧ (ds.any fun z => PyData.eqv z d) = k) ∨
      ∃ ys p ws, y = .ref p ∧ (SqX K H p ws ∨ SqT K H p ws) ∧ RepAll K ρ H ys ws ∧ pl 60 a = true ∧ ys.all (pl 60) = true ∧ (ys.any fun z => eqT z a) = k := by
  unfold inL at h
  cases e2 : asSeq M b with
  | none => rw [e2] at h; cases h
  | some ys =>
    rw [e2] at h
    simp only at h
    cases e3 : inG a ys with
    | some k' =>
      rw [e3] at h
      cases h
      unfold inG at e3
      split at e3
      · rename_i hp
        rw [Bool.and_eq_true] at hp
        cases e3
        obtain ⟨p, ws, e3, s, r⟩ := rb.asSeq m e2
        exact .inr (.inr ⟨ys, p, ws, e3, s, r, hp.1, hp.2, rfl⟩)
      · cases e3
    | none =>
      rw [e3] at h
      rcases inSeq_w m ra rb h with z | z
      · exact .inl z
      · exact .inr (.inl z)
theorem inA_w {k : Bool} (m : RepM K ρ H M) (ra : Rep K ρ H a x) (rb : Rep K ρ H b y) (h : inA a b M = some k) :
    (∃ (c : Nat) (z : Str), x = .str ⟨#[c]⟩ ∧ y = .str z ∧ decide (c ∈ z.cps.toList) = k) ∨ (∃ p xs, y = .ref p ∧ (SqL K H p xs ∨ SqT K H p xs) ∧ flatV x = true ∧ xs.all flatV = true ∧ inV x xs = k) ∨
      (∃ d ds, Dp K H x d ∧ Dp K H y (.list ds) ∧ SeqAt.shaped d = true ∧ SeqAt.shaped (.list ds) = true ∧ (ds.any fun z => PyData.eqv z d) = k) ∨
      (∃ ys p ws, y = .ref p ∧ (SqX K H p ws ∨ SqT K H p ws) ∧ RepAll K ρ H ys ws ∧ pl 60 a = true ∧ ys.all (pl 60) = true ∧ (ys.any fun z => eqT z a) = k) ∨
      ∃ d kvs k', y = .ref d ∧ DRd K ρ H kvs d ∧ kOf a kvs = some k' ∧ hasKey kvs k' = k := by
  have up : ∀ {p q r t : Prop}, p ∨ q ∨ r → p ∨ q ∨ r ∨ t := fun z => by
    rcases z with z | z | z
    · exact .inl z
    · exact .inr (.inl z)
    · exact .inr (.inr (.inl z))
  unfold inA at h
  cases e0 : MP.asD M b with
  | some kvs =>
    rw [e0] at h
    simp only [Option.map_eq_some_iff] at h
    obtain ⟨k', h1, h2⟩ := h
    obtain ⟨d, e1, dr⟩ := Rep.asD m rb e0
    exact .inr (.inr (.inr (.inr ⟨d, kvs, k', e1, dr, h1, h2⟩)))
  | none =>
    rw [e0] at h
    cases rb with
    | str z =>
      have h' : inStr a z = some k := h
      cases ra with
      | str x =>
        simp only [inStr] at h'
        split at h'
        · rename_i hz
          cases h'
          exact .inl ⟨x.cps.getD 0 0, z, congrArg V.str (sign_of hz), rfl, rfl⟩
        · cases h'
      | _ => cases h'
    | non => exact .inr (up (inL_w m ra .non h))
    | bl _ => exact .inr (up (inL_w m ra (.bl _) h))
    | int _ => exact .inr (up (inL_w m ra (.int _) h))
    | tup s r => exact .inr (up (inL_w m ra (.tup s r) h))
    | lst s r => exact .inr (up (inL_w m ra (.lst s r) h))
    | ref e => exact .inr (up (inL_w m ra (.ref e) h))
    | dct e => exact .inr (up (inL_w m ra (.dct e) h))
    | dctN h1 h2 h3 h4 => exact .inr (up (inL_w m ra (.dctN h1 h2 h3 h4) h))
theorem isNon_w (ra : Rep K ρ H a x) : decide (x = .non) = isNon a := by cases ra <;> rfl
theorem is_w {k : Bool} (ra : Rep K ρ H a x) (rb : Rep K ρ H b y) (h : isX a b = some k) : (y = .non ∧ decide (x = .non) = k) ∨ ∃ p r, x = .bl p ∧ y = .bl r ∧ decide (p = r) = k := by
  unfold isX at h
  cases e : isNone? a b with
  | some k' =>
    rw [e] at h
    cases h
    unfold isNone? at e
    split at e
    · rename_i hb
      cases e
      cases rb <;> first | exact Bool.noConfusion hb | exact .inl ⟨rfl, isNon_w ra⟩
    · cases e
  | none =>
    rw [e] at h
    cases ra with
    | bl p =>
      cases rb with
      | bl r => cases h; exact .inr ⟨p, r, rfl, rfl, rfl⟩
      | _ => cases h
    | _ => cases h
theorem eqX_w {k : Bool} (m : RepM K ρ H M) (ra : Rep K ρ H a x) (rb : Rep K ρ H b y) (h : eqX a b M = some k) :
    (scal x y = true ∧ decide (x = y) = k) ∨ (∃ d e, Dp K H x d ∧ Dp K H y e ∧ SeqAt.shaped d = true ∧ SeqAt.shaped e = true ∧ PyData.eqv d e = k) ∨ (pl 60 a = true ∧ pl 60 b = true ∧ eqT a b = k) := by
  unfold eqX at h
  cases e0 : eqG a b with
  | some k' =>
    rw [e0] at h
    cases h
    unfold eqG at e0
    split at e0
    · rename_i hp
      rw [Bool.and_eq_true] at hp
      cases e0
      exact .inr (.inr ⟨hp.1, hp.2, rfl⟩)
    · cases e0
  | none =>
    rw [e0] at h
    rcases eqA_w m ra rb h with z | z
    · exact .inl z
    · exact .inr (.inl z)
theorem cmpB_w {op : CmpOp} {k : Bool} (m : RepM K ρ H M) (ra : Rep K ρ H a x) (rb : Rep K ρ H b y) (e : cmpB op a b M = some k) (q : Q (.bl k) H) : rCmpA op K x y H Q := by
  have int2 : ∀ (f : Int → Int → Bool), (∀ i j, a = .int i → b = .int j → f i j = k) → (∃ i j, a = .int i ∧ b = .int j) → rI0 (fun i j => .bl (f i j)) x y H Q := by
    rintro f hf ⟨i, j, rfl, rfl⟩
    cases ra
    cases rb
    exact ⟨i, j, rfl, rfl, by show Q (.bl (f i j)) H; rw [hf i j rfl rfl]; exact q⟩
  have both : ∀ {op : CmpOp}, ltA op a b = some k → ∃ i j, a = .int i ∧ b = .int j ∧ ltI op i j = some k := by
    intro op h
    cases ra with
    | int i =>
      cases rb with
      | int j => exact ⟨i, j, rfl, rfl, h⟩
      | _ => cases h
    | _ => cases h
  cases op with
  | Eq =>
    rcases eqX_w m ra rb e with ⟨h1, h2⟩ | ⟨d, e', h1, h2, h3, h4, h5⟩ | ⟨h1, h2, h3⟩
    · exact .inl ⟨h1, by rw [h2]; exact q⟩
    · exact .inr (.inl ⟨d, e', h1, h2, h3, h4, by rw [h5]; exact q⟩)
    · exact .inr (.inr ⟨ρ, a, b, ra, rb, h1, h2, by rw [h3]; exact q⟩)
  | NotEq =>
    have e' : neX a b M = some k := e
    unfold neX at e'
    split at e'
    · rename_i hdt
      cases e'
      exact .inr (.inr (.inr ⟨ρ, a, b, ra, rb, hdt, q⟩))
    · split at e'
      · rw [Option.map_eq_some_iff] at e'
        obtain ⟨k', e0, rfl⟩ := e'
        rcases eqA_w m ra rb e0 with ⟨h1, h2⟩ | ⟨d, e', h1, h2, h3, h4, h5⟩
        · exact .inl ⟨h1, by rw [h2]; exact q⟩
        · exact .inr (.inl ⟨d, e', h1, h2, h3, h4, by rw [h5]; exact q⟩)
      · rename_i hd
        simp only [Bool.or_eq_true, not_or, Bool.not_eq_true] at hd
        rw [Option.map_eq_some_iff] at e'
        obtain ⟨k', e0, rfl⟩ := e'
        rcases eqX_w m ra rb e0 with ⟨h1, h2⟩ | ⟨d, e', h1, h2, h3, h4, h5⟩ | ⟨h1, h2, h3⟩
        · exact .inl ⟨h1, by rw [h2]; exact q⟩
        · exact .inr (.inl ⟨d, e', h1, h2, h3, h4, by rw [h5]; exact q⟩)
        · exact .inr (.inr (.inl ⟨ρ, a, b, ra, rb, h1, h2, hd.1, hd.2, by rw [h3]; exact q⟩))
  | Is =>
    rcases is_w ra rb e with ⟨rfl, z⟩ | ⟨p, r, rfl, rfl, z⟩
    · exact .inl ⟨rfl, by rw [z]; exact q⟩
    · exact .inr ⟨p, r, rfl, rfl, by rw [z]; exact q⟩
  | IsNot =>
    simp only [cmpB, Option.map_eq_some_iff] at e
    obtain ⟨k', e, rfl⟩ := e
    rcases is_w ra rb e with ⟨rfl, z⟩ | ⟨p, r, rfl, rfl, z⟩
    · exact .inl ⟨rfl, by rw [z]; exact q⟩
    · exact .inr ⟨p, r, rfl, rfl, by rw [z]; exact q⟩
  | In =>
    rcases inA_w m ra rb e with ⟨c, z, h1, h2, h3⟩ | ⟨p, xs, h1, h2, h3, h4, h5⟩ | ⟨d, ds, h1, h2, h3, h4, h5⟩ | ⟨ys, p, ws, h1, h2, h3, h4, h5, h6⟩ | ⟨d, kvs, k', h1, h2, h5, h6⟩
    · exact .inl (.inl (.inl ⟨c, z, h1, h2, by rw [h3]; exact q⟩))
    · exact .inl (.inl (.inr (.inl ⟨p, xs, h1, h2, h3, h4, by show Q (.bl (inV x xs)) H; rw [h5]; exact q⟩)))
    · exact .inl (.inl (.inr (.inr ⟨d, ds, h1, h2, h3, h4, by rw [h5]; exact q⟩)))
    · exact .inl (.inr ⟨ρ, a, ys, p, ws, ra, h1, h2, h3, h4, h5, by rw [if_neg (by decide), h6]; exact q⟩)
    · exact .inr ⟨ρ, d, kvs, a, k', h1, h2, ra, h5, by rw [if_neg (by decide), h6]; exact q⟩
  | NotIn =>
    simp only [cmpB, Option.map_eq_some_iff] at e
    obtain ⟨k', e, rfl⟩ := e
    rcases inA_w m ra rb e with ⟨c, z, h1, h2, h3⟩ | ⟨p, xs, h1, h2, h3, h4, h5⟩ | ⟨d, ds, h1, h2, h3, h4, h5⟩ | ⟨ys, p, ws, h1, h2, h3, h4, h5, h6⟩ | ⟨d, kvs, k', h1, h2, h5, h6⟩
    · exact .inl (.inl (.inl ⟨c, z, h1, h2, by rw [h3]; exact q⟩))
    · exact .inl (.inl (.inr (.inl ⟨p, xs, h1, h2, h3, h4, by show Q (.bl (!inV x xs)) H; rw [h5]; exact q⟩)))
    · exact .inl (.inl (.inr (.inr ⟨d, ds, h1, h2, h3, h4, by rw [h5]; exact q⟩)))
    · exact .inl (.inr ⟨ρ, a, ys, p, ws, ra, h1, h2, h3, h4, h5, by rw [if_pos rfl, h6]; exact q⟩)
    · exact .inr ⟨ρ, d, kvs, a, k', h1, h2, ra, h5, by rw [if_pos rfl, h6]; exact q⟩
  | Lt =>
    obtain ⟨i, j, rfl, rfl, h⟩ := both (op := .Lt) e
    exact int2 _ (fun i' j' h1 h2 => by cases h1; cases h2; exact Option.some.inj h) ⟨i, j, rfl, rfl⟩
  | LtE =>
    obtain ⟨i, j, rfl, rfl, h⟩ := both (op := .LtE) e
    exact int2 _ (fun i' j' h1 h2 => by cases h1; cases h2; exact Option.some.inj h) ⟨i, j, rfl, rfl⟩
  | Gt =>
    obtain ⟨i, j, rfl, rfl, h⟩ := both (op := .Gt) e
    exact int2 _ (fun i' j' h1 h2 => by cases h1; cases h2; exact Option.some.inj h) ⟨i, j, rfl, rfl⟩
  | GtE =>
    obtain ⟨i, j, rfl, rfl, h⟩ := both (op := .GtE) e
    exact int2 _ (fun i' j' h1 h2 => by cases h1; cases h2; exact Option.some.inj h) ⟨i, j, rfl, rfl⟩
end
end MP

/-! MP, part E: truth, isinstance, subscripts, built-in functions, methods, what is walked -/
namespace MP
open PySem PySem.Spec PyProof.Rows L2
variable [WLD]
section
variable {X : Cx} {mg : Str → Option Value} {ρ : List Addr} {H : Hp} {M : Mem} {Q : VK} {E : Value → Option Addr → Hp → Prop} {a b : A} {x y : V} {K : PySem.W.Frag}

/-! ### truth -/
theorem truA_w {k : Bool} (m : RepM K ρ H M) (ra : Rep K ρ H a x) (h : truA a M = some k) : TruV K x H k := by
  have emp : ∀ {xs : List A} {vs : List V}, RepAll K ρ H xs vs → (!xs.isEmpty) = !vs.isEmpty := fun r => by cases r <;> rfl
  cases ra with
  | non => cases h; rfl
  | bl b => cases h; rfl
  | int i => cases h; rfl
  | str s =>
    simp only [truA] at h
    split at h
    · rename_i hz
      cases h
      exact ⟨hz, rfl⟩
    · cases h
  | tup s r => cases h; exact .inr (.inl ⟨_, s, emp r⟩)
  | lst s r => cases h; exact .inl ⟨_, s.sq, emp r⟩
  | dct e => simp [truA, MP.asL] at h
  | dctN => simp [truA, MP.asL] at h
  | ref e =>
    simp only [truA, Option.map_eq_some_iff] at h
    obtain ⟨xs, h, rfl⟩ := h
    obtain ⟨p, vs, e', s, r⟩ := Rep.asL m (.ref e) h
    cases e'
    exact .inl ⟨_, s.sq, emp r⟩

/-! ### isinstance -/
theorem SqT.ty {a : Addr} {xs : List V} (h : SqT K H a xs) : TyX K H (.ref a) (.type "tuple") := by
  rcases h with (h | ⟨o, h⟩) | ⟨o, its, n, h, c, _⟩
  · exact .base (.tup h)
  · exact .fTuple h
  · exact .kTuple h c
theorem FzL.ty {a : Addr} {xs : List V} (h : FzL K H a xs) : TyX K H (.ref a) (.type "list") := by
  rcases h with ⟨o, h⟩ | ⟨its, n, h, _⟩
  · exact .base (.frz h)
  · exact .kList h rfl
theorem tyA_w {t : Ty} (m : RepM K ρ H M) (ra : Rep K ρ H a x) (h : tyA a M = some t) : TyX K H x (.type t.nm) ∨ (t = .dict ∧ ∃ kvs d, x = .ref d ∧ DRd K ρ H kvs d) := by
  cases ra with
  | non => cases h; exact .inl (.base .non)
  | bl b => cases h; exact .inl (.base (.bl b))
  | int i => cases h; exact .inl (.base (.int i))
  | str s => cases h; exact .inl (.base (.str s))
  | tup s r => cases h; exact .inl (SqT.ty s)
  | lst s r => cases h; exact .inl s.ty
  | dct e => cases h; exact .inl (.fDict e)
  | dctN e d r1 r2 =>
    cases h
    obtain ⟨c, h1, h2⟩ := Rep.asD m (.dctN e d r1 r2) rfl
    exact .inr ⟨rfl, _, c, h1, h2⟩
  | ref e =>
    simp only [tyA] at h
    split at h
    · rename_i xs h1
      cases h
      obtain ⟨vs, hv, rv⟩ := m.cell _ _ _ h1 e
      exact .inl (.base (.lst hv))
    · rename_i kvs h1
      cases h
      obtain ⟨c, h3, h2⟩ := Rep.asD (kvs := kvs) m (.ref e) (by simp only [MP.asD, h1])
      exact .inr ⟨rfl, kvs, c, h3, h2⟩
    · cases h
theorem kit_isi (t c : Ty) (hc : c ≠ .non) : kitB t.nm c.nm = some (isiT t c) := by
  cases c with
  | non => exact absurd rfl hc
  | _ => cases t <;> decide +kernel
/-- isinstance, of a dict too -/
def rIsiX (K : PySem.W.Frag) : List V → Hp → VK → Prop := fun xs H Q => rIsi K xs H Q ∨ ∃ (ρ : List Addr) (d : Addr) (kvs : List (A × A)) (c : String) (b : Bool), xs = [.ref d, .ty c] ∧ DRd K ρ H kvs d ∧ kitB "dict" c = some b ∧ Q (.bl b) H
theorem call_isiX : CallR X (.builtin "isinstance") (rIsiX X.K) := by
  intro pins s σ H xs us Q I r h
  rcases h with h | ⟨ρ, d, kvs, c, b, rfl, dr, e, q⟩
  · exact call_isi pins s σ H xs us Q I r h
  · cases r with
    | cons r1 r2 =>
      obtain ⟨u, rfl, ru⟩ := vals1 r2
      cases r1
      cases ru
      obtain ⟨_, _, ⟨o, h1, h2⟩, _⟩ := drd_obj I dr
      exact PySem.W.kia_one PySem.W.kitx_dict I.kIn ⟨o, h1, h2⟩ (kit_ty e) (fun z => nomatch z) fun tk => ⟨.bl b, H, I.tok tk, rfl, q⟩
theorem isi_w {c : Ty} (hc : c ≠ .non) (m : RepM K ρ H M) (ra : Rep K ρ H a x) (h : Post K mg (Rep K) ρ H (outB (isiA a c M) M) Q E) : rIsiX K [x, .ty c.nm] H Q := by
  obtain ⟨k, e, q⟩ := post_outB m h
  unfold isiA at e
  rw [Option.map_eq_some_iff] at e
  obtain ⟨t, e, rfl⟩ := e
  rcases tyA_w m ra e with h1 | ⟨rfl, kvs, d, rfl, dr⟩
  · exact .inl ⟨x, .ty c.nm, _, _, _, rfl, .ty _, h1, kit_ty (kit_isi t c hc), q⟩
  · exact .inr ⟨ρ, d, kvs, c.nm, _, rfl, dr, kit_isi .dict c hc, q⟩
theorem boot_ty (c : Ty) (hc : c ≠ .non) : bootBuiltins (Str.ofString c.nm) = some (.type c.nm) := by
  cases c with
  | non => exact absurd rfl hc
  | _ => decide +kernel

/-! ### subscripts -/
theorem atI_rep {xs : List A} {vs : List V} {k : Int} {c : A} (r : RepAll K ρ H xs vs) (h : atI xs k = some c) : ∃ v, atI vs k = some v ∧ Rep K ρ H c v := by
  unfold atI at h ⊢
  rw [← r.length]
  rw [Option.bind_eq_some_iff] at h
  obtain ⟨j, h1, h2⟩ := h
  obtain ⟨v, h3, h4⟩ := r.get h2
  exact ⟨v, by rw [h1]; exact h3, h4⟩
theorem idxS_w (m : RepM K ρ H M) (ra : Rep K ρ H a x) (rb : Rep K ρ H b y) (h : Post K mg (Rep K) ρ H (idxS a b M) Q E) : rIx K x y H Q := by
  cases rb with
  | int k =>
    have seq : ∀ {a : A} {x : V}, Rep K ρ H a x → Post K mg (Rep K) ρ H (match asSeq M a with | some xs => (match atI xs k with | some x => Out.ok x M | none => .stuck) | none => .stuck) Q E → rIx K x (.int k) H Q := by
      intro a x ra h
      split at h
      · rename_i xs e1
        split at h
        · rename_i c e2
          obtain ⟨p, vs, rfl, s, r⟩ := ra.asSeq m e1
          obtain ⟨v, h1, h2⟩ := atI_rep r e2
          have q := post_ok m h2 h
          rcases s with s | s
          · exact .inl ⟨p, vs, k, v, rfl, rfl, s.sq, h1, q⟩
          · exact .inr (.inl ⟨p, vs, k, v, rfl, rfl, s, h1, q⟩)
        · exact False.elim h
      · exact False.elim h
    cases ra with
    | str z =>
      simp only [idxS] at h
      split at h
      · rename_i hz
        split at h
        · rename_i c hc
          exact .inr (.inr ⟨z, k, c, rfl, rfl, hz, hc, post_ok m (.str _) h⟩)
        · exact False.elim h
      · exact False.elim h
    | non => exact seq .non h
    | bl _ => exact seq (.bl _) h
    | int _ => exact seq (.int _) h
    | tup s r => exact seq (.tup s r) h
    | lst s r => exact seq (.lst s r) h
    | ref e => exact seq (.ref e) h
    | dct e => exact seq (.dct e) h
    | dctN h1 h2 h3 h4 => exact seq (.dctN h1 h2 h3 h4) h
  | _ => exact False.elim h
def rIxX (K : PySem.W.Frag) : R2 := fun x y H Q => rIx K x y H Q ∨ rIxD K x y H Q
theorem ix_X (hP : WLD.P = X.prog) (hw : WLD.w = X.w) (hu : X.A.units + 65 < cLine) : IxR X (rIxX X.K) := ix_seq.or (ix_dct hP hw hu)
theorem idxA_w (m : RepM K ρ H M) (ra : Rep K ρ H a x) (rb : Rep K ρ H b y) (h : Post K mg (Rep K) ρ H (idxA a b M) Q E) : rIxX K x y H Q := by
  unfold idxA at h
  split at h
  · rename_i kvs e
    split at h
    · rename_i k hk
      obtain ⟨c, h1, q⟩ := post_outV m h
      obtain ⟨d, rfl, dr⟩ := Rep.asD m ra e
      exact .inr ⟨ρ, d, kvs, b, c, k, rfl, dr, rb, hk, h1, q⟩
    · exact False.elim h
  · exact .inl (idxS_w m ra rb h)
def rSlX (K : PySem.W.Frag) : V → Option Int → Option Int → Hp → VK → Prop := fun x lo hi H Q => rSlA K x lo hi H Q ∨ rSlL K x lo hi H Q
theorem sl_X : SlR X (rSlX X.K) := sl_tupA.or sl_list
theorem cut_rep {xs : List A} {vs : List V} (lo hi : Option Int) (r : RepAll K ρ H xs vs) : RepAll K ρ H (cutA xs lo hi) (cutV vs lo hi) := by
  unfold cutA cutV
  rw [← r.length]
  exact (r.drop _).take _
theorem cut_whole {xs : List A} {lo hi : Option Int} (h : HT.sIx xs.length 0 lo = 0 ∧ HT.sIx xs.length xs.length hi = xs.length) : cutA xs lo hi = xs := by
  unfold cutA
  rw [h.1, h.2]
  simp
theorem sliceA_w {o : Bool} {lo hi : Option Int} (m : RepM K ρ H M) (ra : Rep K ρ H a x) (h : Post K mg (Rep K) ρ H (sliceA o a lo hi M) Q E) : rSlX K x lo hi H (Fz Q) := by
  have lists : ∀ {a : A} {x : V}, Rep K ρ H a x → Post K mg (Rep K) ρ H (match asL M a with | some xs => finL o (cutA xs lo hi) M | none => .stuck) Q E → rSlX K x lo hi H (Fz Q) := by
    intro a x ra h
    split at h
    · rename_i xs e1
      obtain ⟨p, vs, rfl, s, r⟩ := ra.asL m e1
      obtain ⟨_, q⟩ := fin_lst m (cut_rep lo hi r) h
      exact .inr ⟨p, vs, rfl, s.sq, q⟩
    · exact False.elim h
  cases ra with
  | @tup p xs vs s r =>
    have e := r.length
    refine .inl ⟨p, vs, rfl, s, fun hw => ?_, fun hw q hq => ?_⟩
    · have h' : Post K mg (Rep K) ρ H (.ok (.tup (cutA xs lo hi)) M) Q E := h
      rw [cut_whole (by rw [e]; exact hw)] at h'
      exact fz_of (post_ok m (.tup s r) h')
    · have g : Grow ρ H ρ (upd H q (.tup (cutV vs lo hi))) := Grow.laid hq
      exact fz_of (h (.ref q) ρ _ g (.tup (SqT.of upd_same) ((cut_rep lo hi r).mono g)) (m.laid hq))
  | non => exact lists .non h
  | bl _ => exact lists (.bl _) h
  | int _ => exact lists (.int _) h
  | str _ => exact lists (.str _) h
  | lst s r => exact lists (.lst s r) h
  | ref e => exact lists (.ref e) h
  | dct e => exact lists (.dct e) h
  | dctN h1 h2 h3 h4 => exact lists (.dctN h1 h2 h3 h4) h

/-! ### built-in functions -/
theorem lenA_w {n : Nat} (m : RepM K ρ H M) (ra : Rep K ρ H a x) (h : lenA a M = some n) : LenV K x H n := by
  have seq : ∀ {a : A} {x : V}, Rep K ρ H a x → (asSeq M a).map List.length = some n → LenV K x H n := by
    intro a x ra h
    rw [Option.map_eq_some_iff] at h
    obtain ⟨xs, h', rfl⟩ := h
    obtain ⟨p, vs, rfl, s, r⟩ := ra.asSeq m h'
    rcases s with s | s
    · exact .inl ⟨vs, s.sq, r.length⟩
    · exact .inr ⟨vs, s, r.length⟩
  cases ra with
  | str z =>
    simp only [lenA] at h
    split at h
    · rename_i hz
      cases h
      exact ⟨hz, rfl⟩
    · cases h
  | non => exact seq .non h
  | bl _ => exact seq (.bl _) h
  | int _ => exact seq (.int _) h
  | tup s r => exact seq (.tup s r) h
  | lst s r => exact seq (.lst s r) h
  | ref e => exact seq (.ref e) h
  | dct e => exact seq (.dct e) h
  | dctN h1 h2 h3 h4 => exact seq (.dctN h1 h2 h3 h4) h
theorem allBl_rep : ∀ {xs : List A} {vs : List V} {bs : List Bool}, RepAll K ρ H xs vs → allBl xs = some bs → vs = bs.map V.bl
  | _, _, _, .nil, e => by cases e; rfl
  | _, _, _, .cons h r, e => by
    cases h with
    | bl b =>
      simp only [allBl, Option.map_eq_some_iff] at e
      obtain ⟨bs, e, rfl⟩ := e
      rw [allBl_rep r e]; rfl
    | _ => cases e
mutual
/-- plain data with empty dicts; l: a list may be within -/
inductive Rp (K : PySem.W.Frag) (H : Hp) (l : Bool) : V → PyData → Prop
  | non : Rp K H l .non .none
  | bl (b : Bool) : Rp K H l (.bl b) (.bool b)
  | int (i : Int) : Rp K H l (.int i) (.int i)
  | str (x : Str) : Rp K H l (.str x) (.str x)
  | lst {a : Addr} {xs : List V} {ds : List PyData} : l = true → SqX K H a xs → RpAll K H l xs ds → Rp K H l (.ref a) (.list ds)
  | tup {a : Addr} {xs : List V} {ds : List PyData} : SqT K H a xs → RpAll K H l xs ds → Rp K H l (.ref a) (.tuple ds)
  | dct {a : Addr} {o : Obj} : H a = some (.frz o (.dK [])) → Rp K H l (.ref a) (.dict [])
  | dctN {a : Addr} {ρ : List Addr} {kvs : List (A × A)} {ps : List (PyData × PyData)} : DRd K ρ H kvs a → (∀ ks us, RepAll K ρ H (kvs.map (·.1)) ks → RepAll K ρ H (kvs.map (·.2)) us → RpKv K H l ks us ps) → Rp K H l (.ref a) (.dict ps)
inductive RpKv (K : PySem.W.Frag) (H : Hp) (l : Bool) : List V → List V → List (PyData × PyData) → Prop
  | nil : RpKv K H l [] [] []
  | cons {k v : V} {ks vs : List V} {d e : PyData} {ps : List (PyData × PyData)} : Rp K H l k d → Rp K H l v e → RpKv K H l ks vs ps → RpKv K H l (k :: ks) (v :: vs) ((d, e) :: ps)
inductive RpAll (K : PySem.W.Frag) (H : Hp) (l : Bool) : List V → List PyData → Prop
  | nil : RpAll K H l [] []
  | cons {v : V} {vs : List V} {d : PyData} {ds : List PyData} : Rp K H l v d → RpAll K H l vs ds → RpAll K H l (v :: vs) (d :: ds)
end
/-- sys.modules stands where it stands -/
def SysB (base : Heap) : Prop := ∃ o es ep, base.get? sysModules = some o ∧ o.data = .dict es ep
theorem list_ne_sys {pins : List (Addr × Obj)} {σ : L2.St} {s : Shared} {p : Addr} {xs : List V} (hsy : SysB X.base) (I : Inv X pins σ H s) (h : SqX X.K H p xs) : p ≠ sysModules := by
  rintro rfl
  obtain ⟨o, es, ep, ho, hd⟩ := hsy
  obtain ⟨b1, b2⟩ := I.bs _ _ ho
  rcases h with (h | ⟨w, h⟩) | ⟨its, n, h1, _⟩
  · rw [b2] at h; cases h
  · rw [b2] at h; cases h
  · have q := I.kIn _ _ h1
    rw [b1] at q
    cases q
    cases hd
mutual
theorem Rp.reads {l : Bool} {pins : List (Addr × Obj)} {σ : L2.St} {s : Shared} (hsy : SysB X.base) (I : Inv X pins σ H s) : ∀ (d : PyData) (v : V) (u : Value), Rp X.K H l v d → RelV v u → ∃ as, Reads s.heap u d as ∧ sysModules ∉ as
  | .none, _, _, h, r => by
    cases h
    cases r
    exact ⟨_, Reads.none, fun z => by cases z⟩
  | .bool b, _, _, h, r => by
    cases h
    cases r
    exact ⟨_, Reads.bool b, fun z => by cases z⟩
  | .int i, _, _, h, r => by
    cases h
    obtain ⟨t, rfl⟩ := r
    exact ⟨_, Reads.int i t, fun z => by cases z⟩
  | .str x, _, _, h, r => by
    cases h
    obtain ⟨t, rfl⟩ := r
    exact ⟨_, Reads.str x t, fun z => by cases z⟩
  | .list ds, _, _, h, r => by
    cases h with
    | lst hl hs ha =>
      cases r
      obtain ⟨its, n, rv, ho, _⟩ := MP.Inv.listX I hs
      obtain ⟨as, hr, hn⟩ := Rp.readsAll hsy I ds _ its ha rv
      refine ⟨_, Reads.list ho rfl rfl hr, fun z => ?_⟩
      rcases List.mem_cons.mp z with e | z
      · exact list_ne_sys hsy I hs e.symm
      · exact hn z
  | .tuple ds, _, _, h, r => by
    cases h with
    | tup hs ha =>
      cases r
      obtain ⟨its, rv, ⟨o, ho, hc, n, hd⟩, _⟩ := I.tuple hs
      obtain ⟨as, hr, hn⟩ := Rp.readsAll hsy I ds _ its ha rv
      exact ⟨_, Reads.tuple ho hc hd hr, hn⟩
  | .dict kvs, _, _, h, r => by
    cases h with
    | dct e =>
      cases r
      obtain ⟨e1, hz, hsys, vs, kv, o, es, ep, e2, hx, hd, hk, hp, hnd⟩ := I.hok _ _ e
      cases kv
      have he : es.toList = [] := by
        revert hp
        generalize es.toList = l
        intro hp
        cases hp
        rfl
      refine ⟨_, Reads.dict (as := []) (bs := []) e2 hx.1 hd (by rw [he]; exact .nil) (by rw [he]; exact .nil), fun z => ?_⟩
      simp at z
      rw [← z] at hsys
      exact Bool.noConfusion hsys
    | dctN dr f =>
      cases r
      obtain ⟨sy, _, _⟩ := drd_obj I dr
      obtain ⟨o, es, ep, ks, us, e1, e2, e3, v1, r1, v2, r2⟩ := drd_raw I dr
      obtain ⟨as, bs, q1, q2, n1, n2⟩ := Rp.readsKv hsy I kvs _ _ _ _ (f ks us r1 r2) v1 v2
      refine ⟨_, Reads.dict e1 e2.1 e3 q1 q2, fun z => ?_⟩
      rcases List.mem_append.mp z with z | z
      · rcases List.mem_cons.mp z with z | z
        · rw [← z] at sy
          simp at sy
        · exact n1 z
      · exact n2 z
theorem Rp.readsKv {l : Bool} {pins : List (Addr × Obj)} {σ : L2.St} {s : Shared} (hsy : SysB X.base) (I : Inv X pins σ H s) : ∀ (ps : List (PyData × PyData)) (ks us : List V) (kv uv : List Value), RpKv X.K H l ks us ps → Vals ks kv → Vals us uv → ∃ as bs, ReadsAll s.heap kv (ps.map (·.1)) as ∧ ReadsAll s.heap uv (ps.map (·.2)) bs ∧ sysModules ∉ as ∧ sysModules ∉ bs
  | [], _, _, _, _, h, r1, r2 => by
    cases h
    cases r1
    cases r2
    exact ⟨_, _, ReadsAll.nil, ReadsAll.nil, (fun z => by cases z), fun z => by cases z⟩
  | (d, e) :: ps, _, _, _, _, h, r1, r2 => by
    cases h with
    | cons h1 h2 h3 =>
      cases r1 with
      | cons a1 a2 =>
        cases r2 with
        | cons b1 b2 =>
          obtain ⟨as, q1, n1⟩ := Rp.reads hsy I d _ _ h1 a1
          obtain ⟨bs, q2, n2⟩ := Rp.reads hsy I e _ _ h2 b1
          obtain ⟨as', bs', q3, q4, n3, n4⟩ := Rp.readsKv hsy I ps _ _ _ _ h3 a2 b2
          exact ⟨_, _, ReadsAll.cons q1 q3, ReadsAll.cons q2 q4, fun hm => (List.mem_append.mp hm).elim n1 n3, fun hm => (List.mem_append.mp hm).elim n2 n4⟩
theorem Rp.readsAll {l : Bool} {pins : List (Addr × Obj)} {σ : L2.St} {s : Shared} (hsy : SysB X.base) (I : Inv X pins σ H s) : ∀ (ds : List PyData) (vs : List V) (us : List Value), RpAll X.K H l vs ds → Vals vs us → ∃ as, ReadsAll s.heap us ds as ∧ sysModules ∉ as
  | [], _, _, h, r => by
    cases h
    cases r
    exact ⟨_, ReadsAll.nil, fun z => by cases z⟩
  | d :: ds, _, _, h, r => by
    cases h with
    | cons h1 h2 =>
      cases r with
      | cons r1 r2 =>
        obtain ⟨as, q1, n1⟩ := Rp.reads hsy I d _ _ h1 r1
        obtain ⟨bs, q2, n2⟩ := Rp.readsAll hsy I ds _ _ h2 r2
        exact ⟨_, ReadsAll.cons q1 q2, fun hm => (List.mem_append.mp hm).elim n1 n2⟩
end
mutual
theorem Rep.rp {l : Bool} : ∀ (x : A) {v : V} {d : PyData}, Rep K ρ H x v → A.toR x = some d → (x.hasL = true → l = true) → Rp K H l v d
  | .non, _, _, h, e, _ => by cases h; simp [A.toR] at e; subst e; exact .non
  | .bl b, _, _, h, e, _ => by cases h; simp [A.toR] at e; subst e; exact .bl b
  | .int i, _, _, h, e, _ => by cases h; simp [A.toR] at e; subst e; exact .int i
  | .str s, _, _, h, e, _ => by cases h; simp [A.toR] at e; subst e; exact .str s
  | .tup xs, _, _, h, e, z => by
    cases h with
    | tup h r =>
      simp only [A.toR, Option.map_eq_some_iff] at e
      obtain ⟨ds, e, rfl⟩ := e
      exact .tup h (RepAll.rp xs r e z)
  | .lst xs, _, _, h, e, z => by
    cases h with
    | lst h r =>
      simp only [A.toR, Option.map_eq_some_iff] at e
      obtain ⟨ds, e, rfl⟩ := e
      exact .lst (z rfl) h.sx (RepAll.rp xs r e fun _ => z rfl)
  | .dct kvs, _, _, h, e, z => by
    simp only [A.toR, Option.map_eq_some_iff] at e
    obtain ⟨ps, e, rfl⟩ := e
    cases h with
    | dct h =>
      simp only [A.toRk, Option.some.injEq] at e
      subst e
      exact .dct h
    | @dctN _ _ _ p r _ _ h d r1 r2 =>
      exact .dctN (ρ := ρ) ⟨_, .inr ⟨_, h⟩, DD.ofDcO (by simp) d r1 r2⟩ fun ks us q1 q2 => RepKv.rp (p :: r) q1 q2 e (z rfl)
  | .ref _, _, _, _, e, _ => by simp [A.toR] at e
theorem RepKv.rp {l : Bool} : ∀ (kvs : List (A × A)) {ks us : List V} {ps : List (PyData × PyData)}, RepAll K ρ H (kvs.map (·.1)) ks → RepAll K ρ H (kvs.map (·.2)) us → A.toRk kvs = some ps → l = true → RpKv K H l ks us ps
  | [], _, _, _, q1, q2, e, _ => by
    cases q1
    cases q2
    simp only [A.toRk, Option.some.injEq] at e
    subst e
    exact .nil
  | (x, y) :: kvs, _, _, _, q1, q2, e, z => by
    cases q1 with
    | cons a1 a2 =>
      cases q2 with
      | cons b1 b2 =>
        simp only [A.toRk] at e
        split at e
        · rename_i d ds h1 h2
          cases e
          simp only [A.toRp] at h1
          split at h1
          · rename_i d1 d2 k1 k2
            cases h1
            exact .cons (Rep.rp x a1 k1 fun _ => z) (Rep.rp y b1 k2 fun _ => z) (RepKv.rp kvs a2 b2 h2 z)
          · cases h1
        · cases e
theorem RepAll.rp {l : Bool} : ∀ (xs : List A) {vs : List V} {ds : List PyData}, RepAll K ρ H xs vs → A.toRs xs = some ds → (A.hasLs xs = true → l = true) → RpAll K H l vs ds
  | [], _, _, h, e, _ => by cases h; simp [A.toRs] at e; subst e; exact .nil
  | x :: xs, _, _, h, e, z => by
    cases h with
    | cons h r =>
      simp only [A.toRs] at e
      split at e
      · rename_i d ds h1 h2
        cases e
        exact .cons (Rep.rp x h h1 fun q => z (by simp [A.hasLs, q])) (RepAll.rp xs r h2 fun q => z (by simp [A.hasLs, q]))
      · cases e
end
theorem Rep.rpM {x : A} {v : V} {d : PyData} (m : RepM K ρ H M) (r : Rep K ρ H x v) (e : x.toRM M = some d) : Rp K H x.hasL v d := by
  have tree : ∀ {x : A} {v : V}, Rep K ρ H x v → x.toR = some d → Rp K H x.hasL v d := fun r e => Rep.rp _ r e fun z => z
  cases r with
  | ref h =>
    simp only [A.toRM] at e
    split at e
    · rename_i xs h1
      rw [Option.map_eq_some_iff] at e
      obtain ⟨ds, e, rfl⟩ := e
      obtain ⟨vs, hv, rv⟩ := m.cell _ _ _ h1 h
      exact .lst rfl (SqX.of hv) (RepAll.rp _ rv e fun _ => rfl)
    · cases e
  | non => exact tree .non e
  | bl b => exact tree (.bl b) e
  | int i => exact tree (.int i) e
  | str s => exact tree (.str s) e
  | tup h r => exact tree (.tup h r) e
  | lst h r => exact tree (.lst h r) e
  | dct h => exact tree (.dct h) e
  | dctN h1 h2 h3 h4 => exact tree (.dctN h1 h2 h3 h4) e
/-- repr -/
theorem call_reprD (hsy : SysB X.base) (hg : X.A.guards = some []) (hu : X.A.units + 64 < cLine) : CallR X (.builtin "repr") (fun xs H Q => ∃ x d l, xs = [x] ∧ Rp X.K H l x d ∧ d.showable = true ∧ d.shown.length ≤ sizeLine ∧ d.depth ≤ 60 ∧ Q (.str d.shown) H) := by
  intro pins s σ H xs us Q I r h
  obtain ⟨x, d, l, rfl, hd, h1, h3, h4, q⟩ := h
  obtain ⟨u, rfl, rx⟩ := vals1 r
  have fin : ∀ tk tk', EP X pins σ Q (.str d.shown tk) { s with toks := tk' } := fun tk tk' => ⟨.str d.shown, H, I.tok _, ⟨_, rfl⟩, q⟩
  obtain ⟨as, rd, hsm⟩ := Rp.reads hsy I d x u hd rx
  cases hd with
  | non => cases rx; exact P.repr_of_none (fin _ _)
  | bl b =>
    cases rx
    refine P.repr_of_bool ?_
    have e : (PyData.bool b).shown = (if b = true then Str.ofString "True" else Str.ofString "False") := by cases b <;> simp [PyData.shown]
    rw [← e]
    exact fin _ _
  | int i =>
    obtain ⟨t, rfl⟩ := rx
    have e : (PyData.int i).shown = toString i := by simp only [PyData.shown]
    rw [e] at fin
    exact P.repr_of_int (by simpa [PyData.showable] using h1) (fin _ _)
  | str z =>
    obtain ⟨t, rfl⟩ := rx
    have e : (PyData.str z).shown = reprText z := by simp only [PyData.shown]
    rw [e] at fin h3
    exact P.repr_of_str (fin _ _) h3
  | lst s0 s1 s2 =>
    cases rx
    exact repr_of_reads' rd h1 (fun _ => hsm) hg (by omega) (fun _ _ q => q) (fun h' u tk hk => ⟨.str _, H, I.kept hk, ⟨_, rfl⟩, q⟩) h3
  | tup s1 s2 =>
    cases rx
    exact repr_of_reads' rd h1 (fun _ => hsm) hg (by omega) (fun _ _ q => q) (fun h' u tk hk => ⟨.str _, H, I.kept hk, ⟨_, rfl⟩, q⟩) h3
  | dct e =>
    cases rx
    exact repr_of_reads' rd h1 (fun _ => hsm) hg (by omega) (fun _ _ q => q) (fun h' u tk hk => ⟨.str _, H, I.kept hk, ⟨_, rfl⟩, q⟩) h3
  | dctN e f =>
    cases rx
    exact repr_of_reads' rd h1 (fun _ => hsm) hg (by omega) (fun _ _ q => q) (fun h' u tk hk => ⟨.str _, H, I.kept hk, ⟨_, rfl⟩, q⟩) h3
/-! ### sorted(d), the keys texts -/
theorem perm_sorted {α : Type} {le : α → α → Prop} (anti : ∀ a b, le a b → le b a → a = b) : ∀ (l1 l2 : List α), l1.Perm l2 → l1.Pairwise le → l2.Pairwise le → l1 = l2
  | [], l2, p, _, _ => (List.nil_perm.mp p).symm
  | a :: l1, l2, p, h1, h2 => by
    cases l2 with
    | nil => exact absurd p.length_eq (by simp)
    | cons b l2 =>
      obtain ⟨a1, a2⟩ := List.pairwise_cons.mp h1
      obtain ⟨b1, b2⟩ := List.pairwise_cons.mp h2
      have e : a = b := by
        rcases List.mem_cons.mp (p.mem_iff.mp List.mem_cons_self) with e | ha
        · exact e
        · rcases List.mem_cons.mp (p.mem_iff.mpr List.mem_cons_self) with e | hb
          · exact e.symm
          · exact anti _ _ (a1 _ hb) (b1 _ ha)
      subst e
      rw [perm_sorted anti l1 l2 (List.Perm.cons_inv p) a2 b2]
theorem leS_iff (a b : Str) : leS a b = true ↔ ¬ b.cps.toList < a.cps.toList := by
  unfold leS
  rw [PyProof.Rows.ltCps_eq]
  simp
theorem leS_trans (a b c : Str) (h1 : leS a b = true) (h2 : leS b c = true) : leS a c = true := by
  rw [leS_iff] at *
  exact List.not_lt.mpr (List.le_trans (List.not_lt.mp h1) (List.not_lt.mp h2))
theorem leS_total (a b : Str) : (leS a b || leS b a) = true := by
  rw [Bool.or_eq_true, leS_iff, leS_iff]
  rcases List.le_total (a.cps.toList) (b.cps.toList) with h | h
  · exact .inl (List.not_lt.mpr h)
  · exact .inr (List.not_lt.mpr h)
theorem leS_anti (a b : Str) (h1 : leS a b = true) (h2 : leS b a = true) : a = b := by
  rw [leS_iff] at *
  have e := List.le_antisymm (List.not_lt.mp h1) (List.not_lt.mp h2)
  obtain ⟨x⟩ := a
  obtain ⟨y⟩ := b
  exact congrArg Str.mk (Array.toList_inj.mp e)
theorem rising_pw : ∀ (p : Str) (l : List Str), PyProof.Rows.risingS p l = true → (p :: l).Pairwise fun a b => leS a b = true
  | p, [], _ => List.pairwise_singleton _ _
  | p, x :: r, h => by
    have h' : (!Spec.ltCps x.cps.toList p.cps.toList && PyProof.Rows.risingS x r) = true := h
    rw [Bool.and_eq_true] at h'
    have ih := rising_pw x r h'.2
    refine List.pairwise_cons.mpr ⟨fun y hy => ?_, ih⟩
    rcases List.mem_cons.mp hy with rfl | hy
    · exact h'.1
    · exact leS_trans p x y h'.1 ((List.pairwise_cons.mp ih).1 y hy)
theorem sorted_is {ys ks : List Str} (p : ys.Perm ks) (h : PyProof.Rows.sortedS ys = true) : ys = sortS ks := by
  have h1 : ys.Pairwise fun a b => leS a b = true := by
    cases ys with
    | nil => exact .nil
    | cons x r => exact rising_pw x r h
  have h2 := List.pairwise_mergeSort (le := leS) leS_trans leS_total ks
  exact perm_sorted leS_anti _ _ (p.trans (List.mergeSort_perm ks leS).symm) h1 h2
def rSortK (K : PySem.W.Frag) : List V → Hp → VK → Prop := fun xs H Q => ∃ (ρ : List Addr) (d : Addr) (kvs : List (A × A)), xs = [.ref d] ∧ DRd K ρ H kvs d ∧ (∀ p ∈ kvs, isStA p.1 = true) ∧ kvs.length < 64 ∧ ∀ p, H p = none → Q (.ref p) (upd H p (.lst ((sortS (kvs.map fun p => strA p.1)).map V.str)))
theorem call_sortK (hc : X.calm = true) : CallR X (.builtin "sorted") (rSortK X.K) := by
  intro pins s σ H vs us Q I r h
  obtain ⟨ρ, d, kvs, rfl, ⟨u, hu, dd⟩, hk, hl, q⟩ := h
  have key : ∃ vs, u = .dK vs ∧ vs.map (·.1) = (kvs.map fun p => strA p.1).map Sum.inr := by
    rcases dd with ⟨xs, h0, rfl, h2, h3, hp⟩ | ⟨vs, rfl, hp⟩
    · exfalso
      cases hp with
      | nil => exact h0 rfl
      | @cons p y _ _ h _ =>
        have hs := hk p List.mem_cons_self
        have hr := h.r
        obtain ⟨x, y⟩ := p
        cases x <;> first | exact Bool.noConfusion hs | cases hr
    · refine ⟨vs, rfl, ?_⟩
      clear q hl hu
      induction hp with
      | nil => rfl
      | @cons p y _ _ h _ ih =>
        have hs := hk p List.mem_cons_self
        have he := h.1
        obtain ⟨x, z⟩ := p
        simp only [List.map_cons]
        rw [ih fun p hp => hk p (List.mem_cons_of_mem _ hp)]
        congr 1
        cases x <;> first | exact Bool.noConfusion hs | skip
        simp only [keyA, Option.some.injEq] at he
        exact he.symm
  obtain ⟨vs, rfl, hks⟩ := key
  refine L2.call_sortedD hc pins s σ H _ us Q I r ⟨d, vs, kvs.map fun p => strA p.1, rfl, hu, hks, by rw [List.length_map]; exact hl, fun ys p hp hs hn => ?_⟩
  rw [sorted_is hp hs]
  exact q p hn
def rBlt (f : B) (K : PySem.W.Frag) : List V → Hp → VK → Prop := fun xs H Q => match f with
  | .len => ∃ x n, xs = [x] ∧ LenV K x H n ∧ Q (.int n) H
  | .all => rAll K xs H Q
  | .any => rAny K xs H Q
  | .max => ∃ i j, xs = [.int i, .int j] ∧ Q (.int (if j > i then j else i)) H
  | .min => ∃ i j, xs = [.int i, .int j] ∧ Q (.int (if j < i then j else i)) H
  | .int => (∃ i, xs = [.int i] ∧ Q (.int i) H) ∨ ∃ k, xs = [.bl k] ∧ Q (.int (if k then 1 else 0)) H
  | .repr => ∃ x d l, xs = [x] ∧ Rp K H l x d ∧ d.showable = true ∧ d.shown.length ≤ sizeLine ∧ d.depth ≤ 60 ∧ Q (.str d.shown) H
  | .list => (∃ p ys, xs = [.ref p] ∧ (SqL K H p ys ∨ SqT K H p ys) ∧ ∀ l, H l = none → Q (.ref l) (upd H l (.lst ys))) ∨ rListDc K xs H Q
  | .sorted => rSortD K xs H Q ∨ rSortK K xs H Q
  | .str => ∃ i, xs = [.int i] ∧ i.natAbs.log2 < 1920 ∧ Q (.str (toString i)) H
  | .tuple => ∃ p ys, xs = [.ref p] ∧ ((SqL K H p ys ∧ ∀ l, H l = none → Q (.ref l) (upd H l (.tup ys))) ∨ (SqT K H p ys ∧ Q (.ref p) H))
/-- the built-in's own value -/
def B.val (f : B) : Value := match f with
  | .int => .type "int"
  | .list => .type "list"
  | .tuple => .type "tuple"
  | .str => .type "str"
  | f => .builtin f.nm
theorem call_blt (hsy : SysB X.base) (hc : X.calm = true) (hg : X.A.guards = some []) (hu : X.A.units + 64 < cLine) (f : B) : CallR X f.val (rBlt f X.K) := by
  cases f with
  | len => exact call_len
  | all => exact cr_all hc
  | any => exact cr_any hc
  | max => exact call_max2 hc
  | min => exact call_min2 hc
  | int => exact call_int1
  | repr => exact call_reprD hsy hg hu
  | list => exact (call_list_of (X := X)).or (call_listDc hc)
  | sorted => exact (call_sortD hu).or (call_sortK hc)
  | tuple => exact call_tuple_of
  | str => exact call_str_int
theorem boot_blt (f : B) : bootBuiltins (Str.ofString f.nm) = some f.val := by cases f <;> decide +kernel
theorem reps_one {xs : List A} {vs : List V} {c : A} (r : RepAll K ρ H xs vs) (h : one? xs = some c) : ∃ v, vs = [v] ∧ Rep K ρ H c v := by
  cases r with
  | nil => cases h
  | cons h1 h2 =>
    cases h2 with
    | nil => cases h; exact ⟨_, rfl, h1⟩
    | cons _ _ => cases h
theorem reps_ints2 {xs : List A} {vs : List V} {p : Int × Int} (r : RepAll K ρ H xs vs) (h : ints2? xs = some p) : vs = [.int p.1, .int p.2] := by
  cases r with
  | nil => cases h
  | cons h1 h2 =>
    cases h2 with
    | nil => cases h1 <;> cases h
    | cons h3 h4 =>
      cases h4 with
      | nil =>
        cases h1 with
        | int i =>
          cases h3 with
          | int j => cases h; rfl
          | _ => cases h
        | _ => cases h
      | cons _ _ => cases h1 <;> first | cases h | (cases h3 <;> cases h)
theorem bltA_w {o : Bool} {f : B} {xs : List A} {vs : List V} (m : RepM K ρ H M) (r : RepAll K ρ H xs vs) (h : Post K mg (Rep K) ρ H (bltA o f xs M) Q E) : rBlt f K vs H (Fz Q) := by
  unfold bltA at h
  split at h
  · rename_i a e1
    obtain ⟨v, rfl, ra⟩ := reps_one r e1
    cases f with
    | len =>
      simp only [blt1, outI] at h
      split at h
      · rename_i n e2
        exact ⟨v, n, rfl, lenA_w m ra e2, fz_of (post_ok m (.int _) h)⟩
      · exact False.elim h
    | all =>
      obtain ⟨k, e, q⟩ := post_outV m h
      rw [Option.map_eq_some_iff] at e
      obtain ⟨bs, e, rfl⟩ := e
      rw [Option.bind_eq_some_iff] at e
      obtain ⟨ys, e2, e3⟩ := e
      obtain ⟨p, ws, rfl, s, rr⟩ := ra.asL m e2
      rw [allBl_rep rr e3] at s
      exact ⟨p, bs, rfl, s.sq, fz_of (q _ (.bl _))⟩
    | any =>
      obtain ⟨k, e, q⟩ := post_outV m h
      rw [Option.map_eq_some_iff] at e
      obtain ⟨bs, e, rfl⟩ := e
      rw [Option.bind_eq_some_iff] at e
      obtain ⟨ys, e2, e3⟩ := e
      obtain ⟨p, ws, rfl, s, rr⟩ := ra.asL m e2
      rw [allBl_rep rr e3] at s
      exact ⟨p, bs, rfl, s.sq, fz_of (q _ (.bl _))⟩
    | int =>
      obtain ⟨k, e, q⟩ := post_outV m h
      cases ra with
      | int i => cases e; exact .inl ⟨i, rfl, fz_of (q _ (.int _))⟩
      | bl b => cases e; exact .inr ⟨b, rfl, fz_of (q _ (.int _))⟩
      | _ => cases e
    | repr =>
      simp only [blt1, reprA] at h
      split at h
      · rename_i d e2
        split at h
        · rename_i hc
          simp only [Bool.and_eq_true, Bool.or_eq_true, decide_eq_true_eq, Bool.not_eq_true'] at hc
          exact ⟨v, d, a.hasL, rfl, ra.rpM m e2, hc.1.1, hc.1.2, hc.2, fz_of (post_ok m (.str _) h)⟩
        · exact False.elim h
      · exact False.elim h
    | list =>
      simp only [blt1] at h
      split at h
      · rename_i kvs e2
        split at h
        · obtain ⟨d, rfl, dr⟩ := Rep.asD m ra e2
          exact .inr ⟨ρ, d, kvs, rfl, dr, fun p ks hp rk => (fin_lst m rk h).2 p hp⟩
        · exact False.elim h
      · split at h
        · rename_i ys e2
          obtain ⟨p, ws, rfl, s, rr⟩ := ra.asSeq m e2
          obtain ⟨_, q⟩ := fin_lst m rr h
          exact .inl ⟨p, ws, rfl, s.imp SqX.sq id, q⟩
        · exact False.elim h
    | sorted =>
      simp only [blt1] at h
      split at h
      · rename_i ys e2
        split at h
        · rename_i ok
          obtain ⟨p, ws, rfl, s, rr⟩ := ra.asL m e2
          exact .inl ⟨ρ, p, ys, ws, rfl, s, rr, ok, fun p ks hp rk => (fin_lst m rk h).2 p hp⟩
        · exact False.elim h
      · split at h
        · rename_i kvs e2
          split at h
          · rename_i ok
            rw [Bool.and_eq_true, List.all_eq_true, decide_eq_true_eq] at ok
            obtain ⟨d, rfl, dr⟩ := Rep.asD m ra e2
            have rk : ∀ ks : List Str, RepAll K ρ H (ks.map .str) (ks.map V.str) := by
              intro ks
              induction ks with
              | nil => exact .nil
              | cons k ks ih => exact .cons (.str k) ih
            exact .inr ⟨ρ, d, kvs, rfl, dr, ok.1, ok.2, fun p hp => (fin_lst m (rk _) h).2 p hp⟩
          · exact False.elim h
        · exact False.elim h
    | str =>
      obtain ⟨k, e, q⟩ := post_outV (Q := Q) m h
      cases ra with
      | int i =>
        simp only [strOf] at e
        split at e
        · rename_i hz
          cases e
          exact ⟨i, rfl, hz, fz_of (q _ (.str _))⟩
        · cases e
      | _ => cases e
    | tuple =>
      obtain ⟨k, e, q⟩ := post_outV (Q := Q) m h
      rw [Option.map_eq_some_iff] at e
      obtain ⟨ys, e2, rfl⟩ := e
      obtain ⟨p, ws, rfl, s, rr⟩ := ra.asSeq m e2
      refine ⟨p, ws, rfl, ?_⟩
      rcases s with s | s
      · refine .inl ⟨s.sq, fun l hl => ?_⟩
        have g : Grow ρ H ρ (upd H l (.tup ws)) := Grow.laid hl
        have h' : Post K mg (Rep K) ρ H (outV ((asSeq M a).map .tup) M) Q E := h
        rw [e2] at h'
        exact fz_of (h' (.ref l) ρ _ g (.tup (SqT.of upd_same) (rr.mono g)) (m.laid hl))
      · exact .inr ⟨s, fz_of (q _ (.tup s rr))⟩
    | max => exact False.elim h
    | min => exact False.elim h
  · split at h
    · rename_i p e1
      have e := reps_ints2 r e1
      subst e
      cases f with
      | max => exact ⟨_, _, rfl, fz_of (post_ok m (.int _) h)⟩
      | min => exact ⟨_, _, rfl, fz_of (post_ok m (.int _) h)⟩
      | _ => exact False.elim h
    · exact False.elim h

/-! ### append, giving over, a[i] = x -/
theorem appA_w {xs : List A} {vs : List V} (m : RepM K ρ H M) (ra : Rep K ρ H a x) (r : RepAll K ρ H xs vs) (h : Post K mg (Rep K) ρ H (methA .append a xs M) Q E) : (tyV K "list" x H) ∧ rAppend x vs H Q := by
  simp only [methA] at h
  split at h
  · rename_i c e1
    obtain ⟨v, rfl, rc⟩ := reps_one r e1
    cases ra with
    | @ref p n e =>
      simp only [appA] at h
      split at h
      · rename_i ys e2
        split at h
        · rename_i hz
          obtain ⟨ws, hv, rv⟩ := m.cell _ _ _ e2 e
          refine ⟨.inl ⟨rfl, ws, SqL.of hv⟩, p, ws, v, rfl, rfl, hv, by rw [← rv.length]; exact hz, ?_⟩
          have g : Grow ρ H ρ (upd H p (.lst (ws ++ [v]))) := Grow.write (List.mem_of_getElem? e) hv rfl
          exact h .non ρ _ g .non (m.cellSet e hv (rv.append (.cons rc .nil)))
        · exact False.elim h
      · exact False.elim h
    | _ => exact False.elim h
  · exact False.elim h
def rInsert : V → List V → Hp → VK → Prop := fun x vs H Q => ∃ (l : Addr) (xs : List V) (i : Int) (y : V), x = .ref l ∧ vs = [.int i, y] ∧ H l = some (.lst xs) ∧ xs.length < sizeLine ∧ 0 ≤ i ∧ i < 2 ^ 63 ∧
    Q .non (upd H l (.lst (xs.take i.toNat ++ [y] ++ xs.drop i.toNat)))
theorem reps_two {xs : List A} {vs : List V} {p : A × A} (r : RepAll K ρ H xs vs) (e : two? xs = some p) : ∃ v w, vs = [v, w] ∧ Rep K ρ H p.1 v ∧ Rep K ρ H p.2 w := by
  match xs, e with
  | [x, y], e =>
    cases e
    cases r with
    | cons h1 r =>
      cases r with
      | cons h2 r =>
        cases r
        exact ⟨_, _, rfl, h1, h2⟩
theorem insA_w {xs : List A} {vs : List V} (m : RepM K ρ H M) (ra : Rep K ρ H a x) (r : RepAll K ρ H xs vs) (h : Post K mg (Rep K) ρ H (methA .insert a xs M) Q E) : (tyV K "list" x H) ∧ rInsert x vs H Q := by
  simp only [methA] at h
  split at h
  · rename_i i c e1
    obtain ⟨v1, v, rfl, r1, rc⟩ := reps_two r e1
    cases r1
    cases ra with
    | @ref p n e =>
      simp only [insA] at h
      split at h
      · rename_i ys e2
        split at h
        · rename_i hz
          obtain ⟨ws, hv, rv⟩ := m.cell _ _ _ e2 e
          have hl := rv.length
          have hs : (sizeLine : Int) < 2 ^ 63 := by decide
          refine ⟨.inl ⟨rfl, ws, SqL.of hv⟩, p, ws, i, v, rfl, rfl, hv, by omega, hz.2.1, by omega, ?_⟩
          have g : Grow ρ H ρ (upd H p (.lst (ws.take i.toNat ++ [v] ++ ws.drop i.toNat))) := Grow.write (List.mem_of_getElem? e) hv rfl
          refine h .non ρ _ g .non (m.cellSet e hv ?_)
          rw [List.append_assoc]
          exact (rv.take i.toNat).append (.cons rc (rv.drop i.toNat))
        · exact False.elim h
      · exact False.elim h
    | _ => exact False.elim h
  · exact False.elim h
/-! enumerate -/
theorem enumA_get : ∀ (xs : List A) (n i : Nat) (y : A), (enumA n xs)[i]? = some y → ∃ x, xs[i]? = some x ∧ y = .tup [.int ((n + i : Nat) : Int), x]
  | [], _, _, _, e => by simp [enumA] at e
  | x :: xs, n, 0, y, e => by
    simp [enumA] at e
    exact ⟨x, rfl, e.symm⟩
  | x :: xs, n, i + 1, y, e => by
    simp only [enumA, List.getElem?_cons_succ] at e
    obtain ⟨z, h1, h2⟩ := enumA_get xs (n + 1) i y e
    refine ⟨z, by simpa using h1, ?_⟩
    rw [h2]
    congr 3
    omega
theorem enumA_len : ∀ (xs : List A) (n : Nat), (enumA n xs).length = xs.length
  | [], _ => rfl
  | x :: xs, n => by simp [enumA, enumA_len xs]
theorem pair_rep {x : A} {v : V} {i : Int} {T : Addr} (hT : H T = none) (r : Rep K ρ H x v) : Grow ρ H ρ (upd H T (.tup [.int i, v])) ∧ Rep K ρ (upd H T (.tup [.int i, v])) (.tup [.int i, x]) (.ref T) ∧ ∀ M, RepM K ρ H M → RepM K ρ (upd H T (.tup [.int i, v])) M := by
  have g : Grow ρ H ρ (upd H T (.tup [.int i, v])) := Grow.laid hT
  exact ⟨g, .tup (SqT.of upd_same) (.cons (.int i) (.cons (r.mono g) .nil)), fun M m => m.laid hT⟩
theorem it_enumL {p : Addr} {xs : List A} {vs : List V} (s : FzL K H p vs) (r : RepAll K ρ H xs vs) : ItRep K (Ite K p) ρ H (enumA 0 xs) := by
  intro ρ' H' g
  have s' := (s.mono g).sq
  have r' := r.mono g
  refine ⟨⟨vs, s', by rw [enumA_len, r.length]; exact Nat.le_refl _⟩, fun i y e => ?_⟩
  obtain ⟨x, h1, rfl⟩ := enumA_get xs 0 i y e
  obtain ⟨v, hv, rv⟩ := r'.get h1
  refine ⟨⟨vs, v, s', hv⟩, fun w H'' hy => ?_⟩
  obtain ⟨T, z, rfl, hT, rfl, hz⟩ := hy
  have hz' := hz vs s'
  rw [hv] at hz'
  cases hz'
  rw [Nat.zero_add]
  exact pair_rep hT rv
theorem it_enumT {p : Addr} {xs : List A} {vs : List V} (s : SqT K H p vs) (r : RepAll K ρ H xs vs) : ItRep K (Itet K p) ρ H (enumA 0 xs) := by
  intro ρ' H' g
  have s' := SqT.mono g s
  have r' := r.mono g
  refine ⟨⟨vs, s', by rw [enumA_len, r.length]; exact Nat.le_refl _⟩, fun i y e => ?_⟩
  obtain ⟨x, h1, rfl⟩ := enumA_get xs 0 i y e
  obtain ⟨v, hv, rv⟩ := r'.get h1
  refine ⟨⟨vs, v, s', hv⟩, fun w H'' hy => ?_⟩
  obtain ⟨T, z, rfl, hT, rfl, hz⟩ := hy
  have hz' := hz vs s'
  rw [hv] at hz'
  cases hz'
  rw [Nat.zero_add]
  exact pair_rep hT rv
theorem frzA_w (m : RepM K ρ H M) (ra : Rep K ρ H a x) (h : Post K mg (Rep K) ρ H (frzA a M) Q E) : Fz Q x H := by
  cases ra with
  | @ref p n e =>
    simp only [frzA] at h
    split at h
    · rename_i ys e2
      obtain ⟨ws, hv, rv⟩ := m.cell _ _ _ e2 e
      refine .inr ⟨p, _, _, .inl ⟨.inl ⟨ws, rfl⟩, rfl⟩, hv, fun o => ?_⟩
      have g : Grow ρ H ρ (upd H p (.frz o (.lst ws))) := Grow.write (List.mem_of_getElem? e) hv rfl
      exact h (.ref p) ρ _ g (.lst (.inl ⟨o, upd_same⟩) (rv.mono g)) (m.cellFrz e hv)
    · rename_i kvs e2
      obtain ⟨u, hu, d⟩ := m.cell _ _ _ e2 e
      obtain ⟨u', f1, f2, f3⟩ := d.fzt
      refine .inr ⟨p, u, u', f1, hu, fun o => ?_⟩
      have g : Grow ρ H ρ (upd H p (.frz o u')) := Grow.write (List.mem_of_getElem? e) hu d.stab
      exact h (.ref p) ρ _ g ((f2.map fun {x v} r => r.mono g).treeE upd_same fun e => ⟨o, by rw [upd_same, f3 e]⟩) (m.cellFrzO e hu d.stab)
    · exact False.elim h
  | non => exact fz_of (post_ok m .non h)
  | bl b => exact fz_of (post_ok m (.bl b) h)
  | int b => exact fz_of (post_ok m (.int b) h)
  | str b => exact fz_of (post_ok m (.str b) h)
  | tup s r => exact fz_of (post_ok m (.tup s r) h)
  | lst s r => exact fz_of (post_ok m (.lst s r) h)
  | dct e => exact fz_of (post_ok m (.dct e) h)
  | dctN h1 h2 h3 h4 => exact fz_of (post_ok m (.dctN h1 h2 h3 h4) h)
/-! ### pop, extend, get -/
theorem RepAll.erase : ∀ {xs : List A} {vs : List V} (i : Nat), RepAll K ρ H xs vs → RepAll K ρ H (xs.eraseIdx i) (vs.eraseIdx i)
  | _, _, _, .nil => .nil
  | _, _, 0, .cons _ r => r
  | _, _, i + 1, .cons h r => .cons h (RepAll.erase i r)
theorem popA_w {xs : List A} {vs : List V} (m : RepM K ρ H M) (ra : Rep K ρ H a x) (r : RepAll K ρ H xs vs) (h : Post K mg (Rep K) ρ H (methA .pop a xs M) Q E) : rPopAt x vs H Q := by
  simp only [methA] at h
  split at h
  · rename_i i e1
    obtain ⟨v, rfl, rc⟩ := reps_one r e1
    cases rc
    cases ra with
    | @ref p n e =>
      simp only [popA] at h
      split at h
      · rename_i ys e2
        split at h
        · rename_i j ej
          split at h
          · rename_i y ey
            split at h
            rotate_left
            · exact False.elim h
            rename_i hz
            obtain ⟨ws, hv, rv⟩ := m.cell _ _ _ e2 e
            obtain ⟨w, hw, rw'⟩ := rv.get ey
            have hl := rv.length
            obtain ⟨g1, g2, g3, g4⟩ := L2.ixN_seq ej
            have hs : (sizeLine : Int) < 2 ^ 63 := by decide
            have g : Grow ρ H ρ (upd H p (.lst (ws.eraseIdx j))) := Grow.write (List.mem_of_getElem? e) hv rfl
            exact ⟨p, ws, i, j, w, rfl, rfl, hv, by omega, by omega, by rw [← hl]; exact g1, hw, h w ρ _ g (rw'.mono g) (m.cellSet e hv (RepAll.erase j rv))⟩
          · exact False.elim h
        · exact False.elim h
      · exact False.elim h
    | _ => exact False.elim h
  · exact False.elim h
theorem extA_w {xs : List A} {vs : List V} (m : RepM K ρ H M) (ra : Rep K ρ H a x) (r : RepAll K ρ H xs vs) (h : Post K mg (Rep K) ρ H (methA .extend a xs M) Q E) : rExtX K x vs H Q := by
  simp only [methA] at h
  split at h
  · rename_i c e1
    obtain ⟨v, rfl, rc⟩ := reps_one r e1
    cases ra with
    | @ref p n e =>
      simp only [extA] at h
      split at h
      · rename_i ys e2
        split at h
        · rename_i zs e3
          split at h
          · rename_i hz
            obtain ⟨ws, hv, rv⟩ := m.cell _ _ _ e2 e
            obtain ⟨b, us, rfl, s, rr⟩ := rc.asSeq m e3
            have l1 := rv.length
            have l2 := rr.length
            have g : Grow ρ H ρ (upd H p (.lst (ws ++ us))) := Grow.write (List.mem_of_getElem? e) hv rfl
            exact ⟨p, b, ws, us, rfl, rfl, hv, s, by omega, h .non ρ _ g .non (m.cellSet e hv (rv.append rr))⟩
          · exact False.elim h
        · exact False.elim h
      · exact False.elim h
    | _ => exact False.elim h
  · exact False.elim h
theorem getA_w {xs : List A} {vs : List V} (m : RepM K ρ H M) (ra : Rep K ρ H a x) (r : RepAll K ρ H xs vs) (h : Post K mg (Rep K) ρ H (methA .get a xs M) Q E) : rGetD K x vs H Q := by
  have core : ∀ {i c : A} {ys : List V}, Post K mg (Rep K) ρ H (getA a i c M) Q E → ((∃ y, ys = [y] ∧ Rep K ρ H i y ∧ c = .non) ∨ ∃ y z, ys = [y, z] ∧ Rep K ρ H i y ∧ Rep K ρ H c z) → rGetD K x ys H Q := by
    intro i c ys h hy
    unfold getA at h
    split at h
    · rename_i kvs e
      split at h
      · rename_i k hk
        obtain ⟨d, rfl, dr⟩ := Rep.asD m ra e
        exact ⟨ρ, d, kvs, i, c, k, rfl, dr, hy, hk, fun v rv => post_ok m rv h⟩
      · exact False.elim h
    · exact False.elim h
  simp only [methA] at h
  split at h
  · rename_i i e1
    obtain ⟨v, rfl, rc⟩ := reps_one r e1
    exact core h (.inl ⟨v, rfl, rc, rfl⟩)
  · split at h
    · rename_i i c e1
      obtain ⟨v, w, rfl, r1, r2⟩ := reps_two r e1
      exact core h (.inr ⟨v, w, rfl, r1, r2⟩)
    · exact False.elim h
/-- xs[i] = v, d[k] = v -/
def rSetX (K : PySem.W.Frag) : V → V → V → Hp → (Hp → Prop) → Prop := fun o i v H Q => rSetL o i v H Q ∨ rSetDct K o i v H Q
theorem set_X {X : Cx} (hP : WLD.P = X.prog) (hw : WLD.w = X.w) (hu : X.A.units + 64 < cLine) : PSet X (rSetX X.K) := by
  intro pins s σ H o i v ov iv u Q I ro ri rv h
  rcases h with h | h
  · exact set_list pins s σ H o i v ov iv u Q I ro ri rv h
  · exact set_dct hP hw hu pins s σ H o i v ov iv u Q I ro ri rv h
theorem setA_w {c : A} {z : V} {N : Hp → Prop} (m : RepM K ρ H M) (ra : Rep K ρ H a x) (rb : Rep K ρ H b y) (rc : Rep K ρ H c z) (h : Post K mg (fun _ _ _ (_ : Unit) => True) ρ H (setA a b c M) (fun _ => N) E) : rSetX K x y z H N := by
  cases ra with
  | @ref p n e =>
    simp only [setA] at h
    split at h
    · rename_i ys e2
      cases rb with
      | int k =>
        simp only at h
        split at h
        · rename_i j ej
          obtain ⟨ws, hv, rv⟩ := m.cell _ _ _ e2 e
          refine .inl ⟨p, ws, k, j, rfl, rfl, hv, by rw [← rv.length]; exact ej, ?_⟩
          have g : Grow ρ H ρ (upd H p (.lst (ws.set j z))) := Grow.write (List.mem_of_getElem? e) hv rfl
          exact h () ρ _ g trivial (m.cellSet e hv (rv.set rc j))
        · exact False.elim h
      | _ => exact False.elim h
    · rename_i kvs e2
      split at h
      · rename_i k hk
        split at h
        · rename_i hl
          obtain ⟨u, h1, h2⟩ := m.cell _ _ _ e2 e
          refine .inr ⟨ρ, p, kvs, u, b, c, k, rfl, List.mem_of_getElem? e, h1, h2, hl, rb, rc, hk, fun u' g d' => ?_⟩
          exact h () ρ _ g trivial (m.cellSetO e h1 h2.stab ⟨_, upd_same, d'⟩)
        · exact False.elim h
      · exact False.elim h
    · exact False.elim h
  | _ => exact False.elim h

/-! ### what is walked -/
theorem it_lst {p : Addr} {xs : List A} {vs : List V} (s : FzL K H p vs) (r : RepAll K ρ H xs vs) : ItRep K (Itl K p) ρ H xs := fun ρ' H' g => by
  have s' := (s.mono g).sq
  refine ⟨⟨vs, s', by rw [r.length]; exact Nat.le_refl _⟩, fun i x hx => ?_⟩
  obtain ⟨v, h1, h2⟩ := r.get hx
  refine ⟨⟨vs, v, s', h1⟩, fun w H'' hy => ?_⟩
  obtain ⟨rfl, hy⟩ := hy
  have e := hy vs s'
  rw [h1] at e
  cases e
  exact ⟨Grow.refl _ _, h2.mono g, fun M m => m⟩
theorem it_tup {p : Addr} {xs : List A} {vs : List V} (s : SqT K H p vs) (r : RepAll K ρ H xs vs) : ItRep K (Itt K p) ρ H xs := fun ρ' H' g => by
  have s' := SqT.mono g s
  refine ⟨⟨vs, s', by rw [r.length]; exact Nat.le_refl _⟩, fun i x hx => ?_⟩
  obtain ⟨v, h1, h2⟩ := r.get hx
  refine ⟨⟨vs, v, s', h1⟩, fun w H'' hy => ?_⟩
  obtain ⟨rfl, hy⟩ := hy
  have e := hy vs s'
  rw [h1] at e
  cases e
  exact ⟨Grow.refl _ _, h2.mono g, fun M m => m⟩
theorem it_str {z : Str} : ItRep K (Its z) ρ H (z.cps.toList.map fun c => .str ⟨#[c]⟩) := fun ρ' H' g => by
  refine ⟨by show z.cps.size ≤ _; simp, fun i x hx => ?_⟩
  rw [List.getElem?_map, Option.map_eq_some_iff] at hx
  obtain ⟨c, hc, rfl⟩ := hx
  have hi : i < z.cps.size := by
    have := (List.getElem?_eq_some_iff.mp hc).1
    simpa using this
  refine ⟨hi, fun w H'' hy => ?_⟩
  obtain ⟨rfl, d, hd, rfl⟩ := hy
  have e : z.cps[i]? = some c := by rw [← Array.getElem?_toList]; exact hc
  rw [e] at hd
  cases hd
  exact ⟨Grow.refl _ _, .str _, fun M m => m⟩
theorem it_range {n : Int} : ItRep K (Itr 0 n.toNat) ρ H (rangeA n) := fun ρ' H' g => by
  refine ⟨by show n.toNat ≤ _; simp [rangeA], fun i x hx => ?_⟩
  unfold rangeA at hx
  rw [List.getElem?_map, Option.map_eq_some_iff] at hx
  obtain ⟨c, hc, rfl⟩ := hx
  have hi := (List.getElem?_eq_some_iff.mp hc).1
  rw [List.length_range] at hi
  rw [List.getElem?_range hi] at hc
  cases hc
  refine ⟨hi, fun w H'' hy => ?_⟩
  obtain ⟨rfl, rfl⟩ := hy
  exact ⟨Grow.refl _ _, by rw [Int.zero_add]; exact .int _, fun M m => m⟩
/-- a list, a tuple, a text -/
def iAny (K : PySem.W.Frag) (tl : TE) : TI := fun σ H R => tl σ H fun x H1 => (∃ a, x = .ref a ∧ (∃ xs, SqL K H1 a xs) ∧ R (Itl K a) H1) ∨ (∃ a, x = .ref a ∧ (∃ xs, SqT K H1 a xs) ∧ R (Itt K a) H1) ∨ ∃ z, x = .str z ∧ R (Its z) H1
theorem pi_any {tg l : Expr} {tl : TE} (hl : PE X l tl) : PI X tg l (iAny X.K tl) := by
  refine ⟨fun pins s σ H R I h => ?_⟩
  refine thn (hl.run pins s σ H _ I h) fun v s1 ⟨x, H1, I1, r1, q1⟩ => ?_
  rcases q1 with ⟨a, e, ⟨xs, hq⟩, q⟩ | ⟨a, e, ⟨xs, hq⟩, q⟩ | ⟨z, e, q⟩
  · subst e
    cases r1
    obtain ⟨its, rv, p, hz⟩ := I1.list hq
    refine wpAny_pyIter_list p.isList ?_
    refine ⟨s1.heap.objs.size, [s1.heap.objs.size], _, _, H1, rfl, I1.kept (t' := s1.toks) fun b o e => Heap.get?_push_of_some _ e, turn_list a _, ⟨_, Heap.get?_push_size _ rfl, rfl, rfl⟩, fun b hb => ?_, q⟩
    have e : b = s1.heap.objs.size := by simpa using hb
    subst e
    exact I1.fpOk (Nat.le_refl _) (I1.hok.fresh (Nat.le_refl _))
  · subst e
    cases r1
    obtain ⟨its, rv, p, hz⟩ := I1.tuple hq
    refine wpAny_pyIter_tuple (show s1.heap.IsTuple a its.toArray from p) ?_
    refine ⟨s1.heap.objs.size, [s1.heap.objs.size], _, _, H1, rfl, I1.kept (t' := s1.toks) fun b o e => Heap.get?_push_of_some _ e, turn_tuple a _, ⟨_, Heap.get?_push_size _ rfl, rfl, rfl⟩, fun b hb => ?_, q⟩
    have e : b = s1.heap.objs.size := by simpa using hb
    subst e
    exact I1.fpOk (Nat.le_refl _) (I1.hok.fresh (Nat.le_refl _))
  · subst e
    obtain ⟨t, rfl⟩ := r1
    cases ha : z.cps.all (· < 128)
    · exact wpAny_pyIter_wide ha (pi_one (tk := s1.toks) I1 _ (turn_str _ z t "str_iterator" (.inr rfl)) ⟨_, Heap.get?_push_size _ rfl, rfl, rfl⟩ q)
    · exact wpAny_pyIter_ascii ha (pi_one (tk := s1.toks) I1 _ (turn_str _ z t "str_ascii_iterator" (.inl rfl)) ⟨_, Heap.get?_push_size _ rfl, rfl, rfl⟩ q)
end
end MP

/-! MP, part F: my text against the program's (chk), and the one theorem: what is checked is evaluated -/
namespace MP
open PySem PySem.Spec PyProof.Rows L2

/-- which names are defs, which are built-in -/
structure Inf where
  fns : List Str
  bs : List Str
  xt : XT
  kwo : List Str
  kb : KB
  gds : List Str
def visB (sc : Scope) (x : Str) : Bool := match sc.names.lookup x with
  | some .local => true
  | some .cell => true
  | some .free => true
  | _ => false
def glB (sc : Scope) (x : Str) : Bool := match sc.names.lookup x with
  | some .globalImplicit => true
  | _ => false
def okName (x : Str) : Bool := !(x == ("__debug__" : Str)) && !(x == ("__classdict__" : Str)) && !(x == ("__name__" : Str))
theorem visB_ok {sc : Scope} {x : Str} (h : visB sc x = true) : Vis sc x := by
  unfold visB at h
  split at h <;> first | (rename_i e; first | exact .inl e | exact .inr (.inl e) | exact .inr (.inr e)) | exact Bool.noConfusion h
theorem glB_ok {sc : Scope} {x : Str} (h : glB sc x = true) : sc.names.lookup x = some .globalImplicit := by
  unfold glB at h
  split at h
  · assumption
  · exact Bool.noConfusion h
theorem okName_ok {x : Str} (h : okName x = true) : (x == ("__debug__" : Str)) = false ∧ (x == ("__classdict__" : Str)) = false ∧ x ≠ ("__name__" : Str) := by
  unfold okName at h
  simp only [Bool.and_eq_true, Bool.not_eq_true'] at h
  exact ⟨h.1.1, h.1.2, fun e => by rw [e] at h; simp at h⟩

/-! parts of the program's text -/
def plainB : Expr → Bool
  | .Starred _ _ => false
  | _ => true
theorem star_plain {e : Expr} {es : List Expr} {env : Env} (h : plainB e = true) : starEach (e :: es) env = (false, eval e env) :: starEach es env := by
  cases e <;> first | rfl | exact Bool.noConfusion h
def noSlice : Expr → Bool
  | .Slice _ _ _ _ => false
  | _ => true
theorem plainIx_of {e : Expr} (h : noSlice e = true) : PlainIx e := by
  cases e <;> first | exact fun _ _ => rfl | exact Bool.noConfusion h
def noSet : Expr → Bool
  | .Set _ _ _ => false
  | _ => true
theorem noMark_of {e : Expr} (op : CmpOp) (h : noSet e = true) : behindInMarks op e = false := by
  cases e <;> first | rfl | exact Bool.noConfusion h
theorem noFold_of {e : Expr} {env : Env} (h : noSet e = true) : ∀ x, foldedSetIterable e env x = pure x := by
  intro x
  cases e <;> first | rfl | exact Bool.noConfusion h
def isNameB : Expr → Bool
  | .Name _ _ => true
  | _ => false
theorem base_name {e : Expr} {n : Str} {env : Env} (h : isNameB e = true) : attributeBase e n env (eval e env) = eval e env := by
  cases e <;> first | rfl | exact Bool.noConfusion h
/-- no call without arguments (super()) -/
def baseB : Expr → Bool
  | .Call (.Name _ _) [] [] _ => false
  | _ => true
theorem base_ok {e : Expr} {n : Str} {env : Env} (h : baseB e = true) : attributeBase e n env (eval e env) = eval e env := by
  unfold attributeBase
  split
  · exact Bool.noConfusion h
  · rfl
/-- a test that the model evaluates as a value -/
def plainT : Expr → Bool
  | .UnaryOp .Not _ _ => false
  | .BoolOp _ _ _ => false
  | .IfExp _ _ _ _ => false
  | .Compare _ _ _ _ => false
  | _ => true
theorem plainT_ok {e : Expr} {env : Env} (h : plainT e = true) : ∀ whole, isTrue e env whole = (do let v ← whole; standAt e.pos; holding [v] (truthy v)) := by
  intro whole
  cases e with
  | UnaryOp op x p => cases op <;> first | rfl | exact Bool.noConfusion h
  | BoolOp _ _ _ => exact Bool.noConfusion h
  | IfExp _ _ _ _ => exact Bool.noConfusion h
  | Compare _ _ _ _ => exact Bool.noConfusion h
  | _ => rfl
/-- no comprehension -/
def noComp : Expr → Bool
  | .ListComp _ _ _ _ => false
  | .SetComp _ _ _ _ => false
  | .DictComp _ _ _ _ _ => false
  | _ => true
theorem noComp_sw {e : Expr} (h : noComp e = true) (t : Option Expr) (l : Nat) (env : Env) : swapsWith e t l env = pure false := by
  cases e <;> first | rfl | exact Bool.noConfusion h
def chkTg (N : List Str) (sc : Scope) (tg : Tg) (e : Expr) : Bool := match tg with
  | .name i => match e with
    | .Name x _ => decide (N[i]? = some x) && (decide (sc.names.lookup x = some .local) || decide (sc.names.lookup x = some .cell))
    | _ => false
  | .tup is => match e with
    | .Tuple es _ _ => chkTgs N sc is es
    | _ => false
where
  chkTgs (N : List Str) (sc : Scope) : List Nat → List Expr → Bool
  | [], [] => true
  | i :: is, e :: es => (match e with
    | .Name x _ => decide (N[i]? = some x) && (decide (sc.names.lookup x = some .local) || decide (sc.names.lookup x = some .cell))
    | _ => false) && chkTgs N sc is es
  | _, _ => false
def ownOf (N : List Str) (vs : List Nat) : List (Str × Nat) := vs.map fun i => (N.getD i ⟨#[]⟩, i)
/-- the built-ins behind a node -/
def setNm (q : Bool) : String := if q = true then "len" else "sorted"
def hasB (I : Inf) (sc : Scope) (x : Str) : Bool := glB sc x && decide (x ∈ I.bs) && okName x

def isTupB : Expr → Bool
  | .Tuple _ _ _ => true
  | _ => false
def isTrueB : Expr → Bool
  | .Constant (.bool true) _ _ => true
  | _ => false
/-- keys and values in turn -/
def altE : List (Option Expr) → List Expr → List Expr
  | some k :: ks, v :: vs => k :: v :: altE ks vs
  | _, _ => []
mutual
def chkE (I : Inf) (N : List Str) (sc : Scope) : E → Expr → Bool
  | .var i, e => match e with
    | .Name x _ => decide (N[i]? = some x) && visB sc x && okName x
    | _ => false
  | .con c, e => match e with
    | .Constant c' _ _ => decide (c = c') && (cA c).isSome
    | _ => false
  | .glob x, e => match e with
    | .Name y _ => decide (x = y) && glB sc x && okName x
    | _ => false
  | .tup es, e => match e with
    | .Tuple xs _ _ => chkEs I N sc es xs
    | _ => false
  | .lst _ es, e => match e with
    | .List xs _ => chkEs I N sc es xs
    | _ => false
  | .bin _ op a b, e => match e with
    | .BinOp l op' r _ => decide (op = op') && chkE I N sc a l && chkE I N sc b r
    | _ => false
  | .neg a, e => match e with
    | .UnaryOp .USub x _ => chkE I N sc a x
    | _ => false
  | .cmp op a b, e => match e with
    | .Compare l [op'] [r] _ => decide (op = op') && noSet r && chkE I N sc a l && chkE I N sc b r
    | _ => false
  | .chain op1 op2 a b c, e => match e with
    | .Compare l [op1', op2'] [m, r] _ => decide (op1 = op1') && decide (op2 = op2') && noSet r && chkE I N sc a l && chkE I N sc b m && chkE I N sc c r
    | _ => false
  | .and a b, e => match e with
    | .BoolOp .And (x :: y :: r) p => chkE I N sc a x && chkE I N sc b (if r.isEmpty then y else .BoolOp .And (y :: r) p)
    | _ => false
  | .or a b, e => match e with
    | .BoolOp .Or (x :: y :: r) p => chkE I N sc a x && chkE I N sc b (if r.isEmpty then y else .BoolOp .Or (y :: r) p)
    | _ => false
  | .not a, e => match e with
    | .UnaryOp .Not x _ => chkE I N sc a x
    | _ => false
  | .ite c a b, e => match e with
    | .IfExp c' x y _ => chkE I N sc c c' && chkE I N sc a x && chkE I N sc b y
    | _ => false
  | .call f es, e => match e with
    | .Call (.Name g _) xs [] _ => decide (f = g) && decide (f ∈ I.fns) && !decide (f ∈ I.kwo) && glB sc f && okName f && chkEs I N sc es xs
    | _ => false
  | .callK f n ks es kes, e => match e with
    | .Call (.Name g _) xs kws _ => decide (f = g) && decide (f ∈ I.fns) && glB sc f && okName f && decide (kws.map (·.arg) = ks.map some) && chkEs I N sc es xs && chkEs I N sc kes (kws.map (·.value))
    | _ => false
  | .dsp t o k v kvs, e => match e with
    | .Dict (some k1 :: ks) (v1 :: vs) _ => decide (ks.length ≤ 14) && chkE I N sc k k1 && chkE I N sc v v1 && chkEs I N sc kvs (altE ks vs) && decide (ks.length = vs.length) && ks.all (·.isSome)
    | _ => false
  | .gix x i, e => match e with
    | .Subscript (.Name y _) b _ => decide (x = y) && decide (x ∈ I.gds) && glB sc x && okName x && noSlice b && chkE I N sc i b
    | _ => false
  | .rev _ a, e => match e with
    | .Subscript x (.Slice none none (some (.UnaryOp .USub (.Constant (.int 1) _ _) _)) _) _ => chkE I N sc a x
    | _ => false
  | .revT a, e => match e with
    | .Subscript x (.Slice none none (some (.UnaryOp .USub (.Constant (.int 1) _ _) _)) _) _ => chkE I N sc a x
    | _ => false
  | .dctOf _ a, e => match e with
    | .Call (.Name g _) [x] [] _ => decide (Str.ofString "dict" = g) && hasB I sc g && plainB x && chkE I N sc a x
    | _ => false
  | .lcC _ vs elt tg m ifs, e => match e with
    | .ListComp x [⟨t, i, fs, 0⟩] scope _ => noSet i && tg.slots.all (fun j => decide (j ∈ vs)) && blkC N sc scope (ownOf N vs) && chkTg N scope tg t && chkE I N sc m i && chkEs I N scope ifs fs && chkE I N scope elt x
    | _ => false
  | .blt _ f es, e => match e with
    | .Call (.Name g _) (x :: xs) [] _ => decide (Str.ofString f.nm = g) && hasB I sc g && chkEs I N sc es (x :: xs)
    | _ => false
  | .isi a c, e => match e with
    | .Call (.Name g _) [x, .Name d _] [] _ => decide (Str.ofString "isinstance" = g) && hasB I sc g && decide (Str.ofString c.nm = d) && hasB I sc d && decide (c ≠ .non) && plainB x && chkE I N sc a x
    | _ => false
  | .idx a i, e => match e with
    | .Subscript x y _ => noSlice y && chkE I N sc a x && chkE I N sc i y
    | _ => false
  | .slice _ a lo hi, e => match e with
    | .Subscript x (.Slice l h none _) _ => chkE I N sc a x && chkO I N sc lo l && chkO I N sc hi h
    | _ => false
  | .lc _ vs elt tg it ifs, e => match e with
    | .ListComp x [⟨t, i, fs, 0⟩] scope _ => noSet i && tg.slots.all (fun j => decide (j ∈ vs)) && blkC N sc scope (ownOf N vs) && chkTg N scope tg t && chkI I N sc it t i && chkEs I N scope ifs fs && chkE I N scope elt x
    | _ => false
  | .meth m a es, e => match e with
    | .Call (.Attribute o n ap) (x :: xs) [] cp => decide (n = Str.ofString m.nm) && baseB o && (ap.endLine == cp.line) && decide (xs.length < 29) && chkE I N sc a o && chkEs I N sc es (x :: xs)
    | _ => false
  | .frzv a, e => plainT e && chkE I N sc a e
  | .dnew, e => match e with
    | .Dict [] [] _ => true
    | _ => false
  | .dcell, e => match e with
    | .Dict [] [] _ => true
    | _ => false
  | .uniq _ vs vs1 kx tg it tg1 it1 ifs1, e => match e with
    | .Call (.Name f _) [.DictComp k v [⟨t0, i0, [], 0⟩, ⟨t1, i1, fs1, 0⟩] scope _] [] _ => decide (Str.ofString "list" = f) && hasB I sc f && isTrueB v && noSet i0 && noSet i1 && tg.slots.all (fun j => decide (j ∈ vs)) && tg1.slots.all (fun j => decide (j ∈ vs1)) && vs1.all (fun j => decide (j ∈ vs)) &&
        blkC N sc scope (ownOf N vs) && chkTg N scope tg t0 && chkTg N scope tg1 t1 && chkI I N sc it t0 i0 && chkI I N scope it1 t1 i1 && chkEs I N scope ifs1 fs1 && chkE I N scope kx k
    | _ => false
  | .sset _ q a, e => match e with
    | .Call (.Name g _) [.Call (.Name f _) [x] [] _] [] _ => decide (Str.ofString (setNm q) = g) && hasB I sc g && decide (Str.ofString "set" = f) && hasB I sc f && plainB x && chkE I N sc a x
    | _ => false
  | .ssetC _ vs elt tg it ifs, e => match e with
    | .Call (.Name g _) [.SetComp x [⟨t, i, fs, 0⟩] scope _] [] _ => decide (Str.ofString "sorted" = g) && hasB I sc g && noSet i && tg.slots.all (fun j => decide (j ∈ vs)) && blkC N sc scope (ownOf N vs) && chkTg N scope tg t && chkI I N sc it t i && chkEs I N scope ifs fs && chkE I N scope elt x
    | _ => false
  | .lc2 _ vs vs1 elt tg it ifs tg1 it1 ifs1, e => match e with
    | .ListComp x [⟨t0, i0, fs, 0⟩, ⟨t1, i1, fs1, 0⟩] scope _ => noSet i0 && noSet i1 && tg.slots.all (fun j => decide (j ∈ vs)) && tg1.slots.all (fun j => decide (j ∈ vs1)) && vs1.all (fun j => decide (j ∈ vs)) &&
        blkC N sc scope (ownOf N vs) && chkTg N scope tg t0 && chkTg N scope tg1 t1 && chkI I N sc it t0 i0 && chkEs I N scope ifs fs && chkI I N scope it1 t1 i1 && chkEs I N scope ifs1 fs1 && chkE I N scope elt x
    | _ => false
def chkEs (I : Inf) (N : List Str) (sc : Scope) : List E → List Expr → Bool
  | [], es => match es with
    | [] => true
    | _ => false
  | m :: ms, es => match es with
    | e :: es => plainB e && chkE I N sc m e && chkEs I N sc ms es
    | [] => false
def chkO (I : Inf) (N : List Str) (sc : Scope) : Option E → Option Expr → Bool
  | none, e => match e with
    | none => true
    | _ => false
  | some m, e => match e with
    | some e => chkE I N sc m e
    | none => false
def chkI (I : Inf) (N : List Str) (sc : Scope) : It → Expr → Expr → Bool
  | .over m, _, e => chkE I N sc m e
  | .enum m, t, e => isTupB t && match e with
    | .Call (.Name g _) [x] [] _ => decide (Str.ofString "enumerate" = g) && hasB I sc g && plainB x && chkE I N sc m x
    | _ => false
  | .range1 m, _, e => match e with
    | .Call (.Name g _) [x] [] _ => decide (Str.ofString "range" = g) && hasB I sc g && plainB x && chkE I N sc m x
    | _ => false
end

/-! ### the exception classes' facts -/
/-- an own class with an __init__ that hands its one argument to a field -/
structure OwnC (K : PySem.W.Frag) (mg : Str → Option Value) (c f : Str) (C : Addr) : Prop where
  oex : OexC K C
  noF : PySem.W.findIn K (.ref C) f = some none
  ini : ∃ (fI : Addr) (fd : FuncData) (st : Stmt) (B : Addr) (bn q : Str) (mc : Value) (m : Str) (j : Nat) (p1 p2 p3 p4 p5 p6 p7 p8 p9 p10 p11 : Pos),
    PySem.W.findIn K (.ref C) "__init__" = some (some (.ref fI)) ∧ PySem.W.typeIn K (.ref fI) = some (.type "function") ∧ Fun K "__init__" q st fI fd ∧ Binds K fd ["self", f] [] ∧ FnScope ["self", f] ["self", f] (defScope st) ∧
    defBody st = [.Expr (.Call (.Attribute (.Name bn p1) "__init__" p2) [.Name "self" p3, .Constant (.str m) j p4] [] p5) p6, .Assign [.Attribute (.Name "self" p7) f p8] (.Name f p9) p10] ∧
    (p2.endLine == p5.line) = true ∧ (defScope st).names.lookup bn = some .globalImplicit ∧ (bn == ("__debug__" : Str)) = false ∧ (defScope st).names.lookup ("self" : Str) = some .local ∧ (defScope st).names.lookup f = some .local ∧ (f == ("__debug__" : Str)) = false ∧ (f == ("__classdict__" : Str)) = false ∧
    mg bn = some (.ref B) ∧ PySem.W.specialIn K (.ref B) "__getattribute__" = some (some (.builtin "type.__getattribute__")) ∧ PySem.W.readsIn K B mc = true ∧ PySem.W.findCls K (.ref B) mc "__init__" = some (.val (.builtin "ValueError.__init__"))
/-- an own class without __init__ -/
structure BareC (K : PySem.W.Frag) (C : Addr) : Prop where
  ex : ∃ (B newId initId : String) (bmB : List Value), ExcBaseFacts B newId initId bmB ∧ PySem.W.excIn K C bmB newId = true
  kC : PySem.W.keepIn K (.ref C) = true
  exC : PySem.W.subIn K (.ref C) (.type "BaseException") = some true
  tyC : PySem.W.typeIn K (.ref C) = some (.type "type")
/-- how a name stands for a class -/
def ClsNm (mg : Str → Option Value) (n : Str) (cv : Value) (v : V) : Prop := (∃ C, cv = .ref C ∧ v = .ref C ∧ mg n = some (.ref C)) ∨ ∃ T : String, cv = .type T ∧ v = .ty T ∧ mg n = none ∧ bootBuiltins n = some (.type T)
/-- what isinstance asks of a class -/
structure IsiC (K : PySem.W.Frag) (C : Addr) : Prop where
  cl : (PySem.W.clsIn K C).isSome = true
  hg : PySem.W.findIn K (.ref C) "__getattribute__" = some (some (.builtin "BaseException.__getattribute__"))
  hk : PySem.W.findIn K (.ref C) "__getattr__" = some none
  hs : PySem.W.subIn K (.ref C) (.type "BaseException") = some true
  hd : PySem.W.hasDictIn K C = true
  ha : PySem.W.findIn K (.ref C) "__class__" = some (some (.builtin "object.__class__"))
  hn : PySem.W.specialIn K (.builtin "object.__class__") "__get__" = some (some (.builtin "getset_descriptor.__get__"))
  ht : PySem.W.takesIn K (.builtin "object.__class__") = some true
  hm : PySem.W.mroIn K C (.type "object") = some true
structure XtOk (K : PySem.W.Frag) (mg : Str → Option Value) (T : XT) : Prop where
  cls : ∀ c f, T.cls.lookup c = some f → okName c = true ∧ ∃ C, mg c = some (.ref C) ∧ IsiC K C ∧ match f with
    | some f => OwnC K mg c f C
    | none => BareC K C
  exm : ∀ n c b, T.exm.lookup (n, c) = some b → okName c = true ∧ ∃ C D, mg n = some (.ref C) ∧ mg c = some (.ref D) ∧ PySem.W.exmOne K (.ref C) (.ref D) = some b
  isc : ∀ n c b, T.isc.lookup (n, c) = some b → okName c = true ∧ (∃ f, T.cls.lookup n = some f) ∧ ∃ C cv v, mg n = some (.ref C) ∧ ClsNm mg c cv v ∧ PySem.W.kitOne K (.ref C) cv = some b

/-! ### the frame of the theorem -/
/-- a call with n positional values and the keywords ks is bound as ss says -/
def KArr (K : PySem.W.Frag) (fd : FuncData) (ps : List Str) (n : Nat) (ks : List Str) (ss : List Src) : Prop := ∃ (g : List Value → List Value → List Value) (gV : List V → List V → List V), L2.KBn K fd ps n ks g gV ∧
  ∀ [WLD] {ρ : List Addr} {H : Hp} {xs zs ys : List A} {vs ws : List V}, RepAll K ρ H xs vs → RepAll K ρ H zs ws → xs.length = n → zs.length = ks.length → arrA ss (xs ++ zs) = some ys → RepAll K ρ H ys (gV vs ws)
/-- a global dict of texts -/
def GDict (K : PySem.W.Frag) (w : World) (mg : Str → Option Value) (x : Str) (l : List (Str × A)) : Prop := ∃ p : Addr, mg x = some (.ref p) ∧ ∀ z a, l.lookup z = some a → ∃ v, L2.KDct K w p z v ∧ ∀ [WLD] (ρ : List Addr) (H : Hp), Rep K ρ H a v
variable [WLD]
structure Ctx (X : Cx) (I : Inf) (P : Par) (W : WX) (k : Nat) : Prop where
  calm : X.calm = true
  nd : X.N.Nodup
  gd : X.A.guards = some []
  rm : Room (k + 2) X.A
  gl : ∀ x a, P.glob x = some a → ∃ u v, X.mg x = some u ∧ RelV v u ∧ ∀ ρ H, Rep X.K ρ H a v
  fn : ∀ f ∈ I.fns, ∃ fa fd ps, X.mg f = some (.ref fa) ∧ PySem.W.keepIn X.K (.ref fa) = true ∧ ((f ∉ I.kwo → Binds X.K fd ps []) ∧ ∀ n ks ss, I.kb.lookup (f, n, ks) = some ss → KArr X.K fd ps n ks ss) ∧
    FnG X.prog X.w X.K X.mg X.base k fa fd ps (spOf X.K X.mg (P.call f) ps.length) ∧ ∀ xs M, xs.length ≠ ps.length → P.call f xs M = .stuck
  bl : ∀ b ∈ I.bs, X.mg b = none
  tk : Takes X W
  sys : SysB X.base
  xq : P.xt = I.xt
  kq : P.kb = I.kb
  gq : ∀ x ∈ I.gds, ∃ l, P.gd x = some l ∧ GDict X.K X.w X.mg x l
  xf : XtOk X.K X.mg I.xt
  wp : WLD.P = X.prog
  ww : WLD.w = X.w
theorem Ctx.blk {X : Cx} {I : Inf} {P : Par} {W : WX} {k : Nat} (C : Ctx X I P W k) (s : Shared) (H : Hp) (scope : Scope) (cenv : Env) (fp : List Addr) : Ctx (X.blk s H scope cenv fp) I P WX0 k :=
  ⟨C.calm, C.nd, C.gd, C.rm, C.gl, C.fn, C.bl, (fun u s' h => by
    obtain ⟨_, _, _, _, _, _, _, _, _, _, _, _, _, _, _, _, h⟩ := h
    exact h), C.sys, C.xq, C.kq, C.gq, C.xf, C.wp, C.ww⟩

section
variable {X : Cx} {I : Inf} {P : Par} {W : WX} {k : Nat}
theorem Ctx.units (C : Ctx X I P W k) : X.A.units + 64 < cLine := C.rm.units
theorem Ctx.units65 (C : Ctx X I P W k) : X.A.units + 65 < cLine := by have := C.rm.un; omega

/-- the written scope sc and the one that runs -/
structure Sub (sc : Scope) (X : Cx) : Prop where
  vis : ∀ x, visB sc x = true → Vis X.env.scope x
  gl : ∀ x, glB sc x = true → X.env.scope.names.lookup x = some .globalImplicit
  loc : ∀ x, sc.names.lookup x = some .local → X.env.scope.names.lookup x = some .local
  cell : ∀ x, sc.names.lookup x = some .cell → X.env.scope.names.lookup x = some .cell ∧ X.fn x = true
  cf : ∀ x, (sc.names.lookup x = some .cell ∨ sc.names.lookup x = some .free) → (X.env.scope.names.lookup x = some .cell ∨ X.env.scope.names.lookup x = some .free)
theorem Sub.same (hf : ∀ x, X.fn x = true) : Sub X.env.scope X :=
  ⟨fun x h => visB_ok h, fun x h => glB_ok h, fun x h => h, fun x h => ⟨h, hf x⟩, fun x h => h⟩
theorem lookup_map_some (f : Str × NameKind → Str × NameKind) (hf : ∀ p, (f p).1 = p.1) : ∀ (names : List (Str × NameKind)) (x : Str), ((names.map f).lookup x).isSome = (names.lookup x).isSome
  | [], x => rfl
  | p :: r, x => by
    have ih := lookup_map_some f hf r x
    have h1 := hf p
    obtain ⟨n, k⟩ := p
    rw [List.map_cons]
    generalize hq : f (n, k) = q at h1 ⊢
    obtain ⟨n', k'⟩ := q
    cases h1
    by_cases hx : x == n
    · simp [List.lookup, hx]
    · simpa [List.lookup, hx] using ih
theorem Sub.blk (scope : Scope) (s : Shared) (H : Hp) (C : Addr) (cl : List (Str × Addr)) (fp : List Addr) : Sub scope (X.blk s H scope (compEnvC scope cl C X.env) fp) := by
  have keep : ∀ x k, k ≠ NameKind.free → scope.names.lookup x = some k → (relabel scope X.env).names.lookup x = some k := fun x k hk h => lookup_relS_keep (sc := X.env.scope) hk h
  have fr : ∀ x, scope.names.lookup x = some .free → (relabel scope X.env).names.lookup x = some .cell ∨ (relabel scope X.env).names.lookup x = some .free := by
    intro x h
    have q : ((relS scope X.env.scope).names.lookup x).isSome = true := by
      show ((scope.names.map _).lookup x).isSome = true
      rw [lookup_map_some, h]
      · rfl
      · rintro ⟨n, k0⟩
        show (if _ then (n, NameKind.cell) else (n, k0)).1 = n
        split <;> rfl
    obtain ⟨k, hk⟩ := Option.isSome_iff_exists.mp q
    obtain ⟨k', h1, h2⟩ := lookup_relS (sc := X.env.scope) hk
    rw [h] at h1
    cases h1
    rcases h2 with rfl | ⟨_, rfl⟩
    · exact .inr hk
    · exact .inl hk
  refine ⟨fun x h => ?_, fun x h => keep x _ (by decide) (glB_ok h), fun x h => keep x _ (by decide) h, fun x h => ⟨keep x _ (by decide) h, by show (scope.names.lookup x == some .cell) = true; rw [h]; rfl⟩, fun x h => ?_⟩
  · rcases visB_ok h with h | h | h
    · exact .inl (keep x _ (by decide) h)
    · exact .inr (.inl (keep x _ (by decide) h))
    · exact .inr (fr x h)
  · rcases h with h | h
    · exact .inl (keep x _ (by decide) h)
    · exact fr x h
theorem Sub.blkC {sc scope : Scope} {own : List (Str × Nat)} (hs : Sub sc X) (h : blkC X.N sc scope own = true) : BlkOk X.N X.env.scope scope own := by
  have ok := blkOk_by h
  exact ⟨ok.kind, ok.uniq, ok.ix, fun y hy e => hs.cf _ (ok.free y hy e), ok.own⟩

/-- two in a row -/
theorem le_bind {α β γ δ : Type} {K : PySem.W.Frag} {mg : Str → Option Value} {S : List Addr → Hp → γ → δ → Prop} {R : List Addr → Hp → α → β → Prop} {ρ : List Addr} {H : Hp} {ς : Loc} {σ : L2.St} {M : Mem} {o : Out α} {f : α → Mem → Out γ} {Q : δ → Hp → Prop} {Q' : β → Hp → Prop} {E : Value → Option Addr → Hp → Prop}
    (at_ : At K ρ H ς σ M) (h : Post K mg S ρ H (o.bind f) Q E) (q : ∀ a M1 ρ1 v H1, At K ρ1 H1 ς σ M1 → Grow ρ H ρ1 H1 → R ρ1 H1 a v → Post K mg S ρ1 H1 (f a M1) Q E → Q' v H1) : Post K mg R ρ H o Q' E :=
  (Post.bind (R := R) h).imp (fun v H1 ⟨a, M1, ρ1, g, r, m, p⟩ => q a M1 ρ1 v H1 ⟨at_.s.mono g, m⟩ g r p) fun _ _ _ z => z

theorem tg_name {i : Nat} {x : Str} {pos : Pos} (hN : X.N.Nodup) (hi : X.N[i]? = some x) (hx : L2.Loc X.env.scope x) (hf : X.fn x = true ∨ X.env.scope.names.lookup x = some .local) : PG X (.Name x pos) (LG X.K (.name i)) := by
  refine pg_w (pg_name hN hi hx hf) fun v σ H Q h => ?_
  obtain ⟨ρ, ς, M, a, at_, r, ς', e, q⟩ := h
  cases e
  exact q _ (at_.s.set r) fun j hj => by
    rw [List.getElem?_set_ne]
    intro e
    exact hj (by rw [← e]; exact List.mem_singleton_self _)
theorem assignLen : ∀ (es : List Expr) (env : Env), (assignEach es env).length = es.length
  | [], _ => rfl
  | e :: es, env => by
    cases e <;> simp [assignEach, assignLen es env]
theorem assignStar : ∀ (es : List Expr) (env : Env), es.all isNameB = true → (assignEach es env).findIdx? (·.1) = none
  | [], _, _ => rfl
  | e :: es, env, h => by
    rw [List.all_cons, Bool.and_eq_true] at h
    cases e <;> first | exact Bool.noConfusion h.1 | skip
    simp [assignEach, List.findIdx?_cons, assignStar es env h.2]
theorem tgs_names {N : List Str} {sc : Scope} : ∀ (is : List Nat) (es : List Expr), chkTg.chkTgs N sc is es = true → es.all isNameB = true ∧ es.length = is.length
  | [], [], _ => ⟨rfl, rfl⟩
  | i :: is, e :: es, h => by
    simp only [chkTg.chkTgs, Bool.and_eq_true] at h
    obtain ⟨h1, h2⟩ := tgs_names is es h.2
    refine ⟨?_, by simp [h2]⟩
    rw [List.all_cons, h1, Bool.and_true]
    have h3 := h.1
    cases e <;> first | rfl | exact Bool.noConfusion h3
  | [], _ :: _, h => by simp [chkTg.chkTgs] at h
  | _ :: _, [], h => by simp [chkTg.chkTgs] at h
def LGs (K : PySem.W.Frag) (is : List Nat) : TGs := fun vs σ H Q => ∃ ρ ς M xs, At K ρ H ς σ M ∧ RepAll K ρ H xs vs ∧ ∃ ς', setAll ς is xs = some ς' ∧ ∀ σ', RepS K ρ H ς' σ' → (∀ j, j ∉ is → σ'[j]? = σ[j]?) → Q σ' H
theorem tg_name' {sc : Scope} (hs : Sub sc X) {i : Nat} {x : Str} {pos : Pos} (hN : X.N.Nodup) (hi : X.N[i]? = some x) (hx : sc.names.lookup x = some .local ∨ sc.names.lookup x = some .cell) : PG X (.Name x pos) (LG X.K (.name i)) := by
  rcases hx with hx | hx
  · exact tg_name hN hi (.inl (hs.loc x hx)) (.inr (hs.loc x hx))
  · exact tg_name hN hi (.inr (hs.cell x hx).1) (.inl (hs.cell x hx).2)
theorem tgs_ok {sc : Scope} (hs : Sub sc X) (hN : X.N.Nodup) : ∀ (is : List Nat) (es : List Expr), chkTg.chkTgs X.N sc is es = true → PGs X es (LGs X.K is)
  | [], [], _ => ⟨fun pins s σ H vs us Q I r q => by
    obtain ⟨ρ, ς, M, xs, at_, rr, ς', e, q⟩ := q
    cases xs with
    | nil =>
      cases rr
      cases e
      exact pgs_nil.run pins s σ H [] us Q I r ⟨rfl, q _ at_.s fun _ _ => rfl⟩
    | cons _ _ => simp [setAll] at e⟩
  | i :: is, e :: es, h => by
    simp only [chkTg.chkTgs, Bool.and_eq_true] at h
    obtain ⟨h1, h2⟩ := h
    have ih := tgs_ok hs hN is es h2
    cases e <;> first | exact Bool.noConfusion h1 | skip
    rename_i x pos
    simp only [Bool.and_eq_true, decide_eq_true_eq, Bool.or_eq_true] at h1
    have pg : PG X (.Name x pos) (LG X.K (.name i)) := tg_name' hs hN h1.1 h1.2
    refine ⟨fun pins s σ H vs us Q I r q => (pgs_cons pg ih).run pins s σ H vs us Q I r ?_⟩
    obtain ⟨ρ, ς, M, xs, at_, rr, ς', e, q⟩ := q
    cases rr with
    | nil => simp [setAll] at e
    | cons r1 r2 =>
      rename_i a v as vs
      refine ⟨v, vs, rfl, ρ, ς, M, a, at_, r1, _, rfl, fun σ' hs hj => ?_⟩
      refine ⟨ρ, _, M, as, ⟨hs, at_.m⟩, r2, ς', e, fun σ2 h2 hj2 => q σ2 h2 fun j hn => ?_⟩
      rw [hj2 j fun z => hn (List.mem_cons_of_mem _ z), hj j fun z => hn (by rw [List.mem_singleton.mp z]; exact List.mem_cons_self)]
  | [], _ :: _, h => by simp [chkTg.chkTgs] at h
  | _ :: _, [], h => by simp [chkTg.chkTgs] at h
theorem tg_ok {sc : Scope} (hs : Sub sc X) (hc : X.calm = true) (hN : X.N.Nodup) (tg : Tg) (e : Expr) (h : chkTg X.N sc tg e = true) : PG X e (LG X.K tg) := by
  cases tg with
  | name i =>
    cases e <;> first | exact Bool.noConfusion h | skip
    rename_i x pos
    simp only [chkTg, Bool.and_eq_true, decide_eq_true_eq, Bool.or_eq_true] at h
    exact tg_name' hs hN h.1 h.2
  | tup is =>
    cases e <;> first | exact Bool.noConfusion h | skip
    rename_i es kk pos
    have h' : chkTg.chkTgs X.N sc is es = true := h
    obtain ⟨h1, h2⟩ := tgs_names is es h'
    have hl : ∀ (ς' : Loc) (is : List Nat) (xs : List A) (ς : Loc), setAll ς is xs = some ς' → xs.length = is.length := by
      intro ς' is
      induction is with
      | nil => intro xs ς e; cases xs <;> simp [setAll] at e ⊢
      | cons i is ih => intro xs ς e; cases xs <;> simp [setAll] at e ⊢; exact ih _ _ e
    refine ⟨fun pins s σ H v u Q I ru q => ?_⟩
    obtain ⟨ρ, ς, M, a, at_, r, ς', e, q⟩ := q
    cases r with
    | @tup p xs vs s1 rr => exact (pg_tup hc (tgs_ok hs hN is es h') (n := is.length) (by rw [assignLen, h2]) (assignStar es _ h1)).run pins s σ H _ u Q I ru ⟨p, vs, rfl, s1, by rw [← rr.length]; exact hl _ _ _ _ e, ρ, ς, M, xs, at_, rr, ς', e, q⟩
    | @lst p xs vs s1 rr => exact (pg_lst hc (tgs_ok hs hN is es h') (n := is.length) (by rw [assignLen, h2]) (assignStar es _ h1)).run pins s σ H _ u Q I ru ⟨p, vs, rfl, s1.sx.sq, by rw [← rr.length]; exact hl _ _ _ _ e, ρ, ς, M, xs, at_, rr, ς', e, q⟩
    | _ => cases e
end
end MP

/-! MP, part O5: set(xs) of a list, by what each item adds; sets of texts -/
namespace MP
open PySem PySem.Spec PyProof.Rows L2
def setNew (w : World) : Obj := { cls := .type "set", dict := none, data := .set #[] 0 (.fresh 0 0 (!w.params.followText "set-order")) }
/-- an item is put in: J says of the heap what the set holds behind the first i -/
def AddsAt (prog : Program) (w : World) (A : Around) (S : Addr) (J : Nat → Heap → Prop) (i : Nat) (v : Value) (s : Shared) : Prop :=
  ∀ (E : Value → Shared → Prop) (Q : Bool → Shared → Prop), (∀ b h' tk, s.toks ≤ tk → Heap.SameBut S s.heap h' → J (i + 1) h' → Q b { s with heap := h', toks := tk }) → wpAny (model prog w) A (setAdd S v) Q E s
section
variable {prog : Program} {w : World} {A : Around} {I : Addr} {fp wr : List Addr} {G : Array GenState → Array GenState → Prop} {n : Nat} {Pv : Nat → Value → Prop} {St : Nat → Shared → Prop} {R : Result → Shared → Prop}
theorem set_loopJ (W : WalksS prog w A.in1 I fp wr G n Pv St) (S : Addr) (hSf : S ∉ fp) (J : Nat → Heap → Prop) (O : Heap → Prop)
    (keepJ : ∀ i h h', J i h → (∀ b o, b ∉ wr → h.get? b = some o → h'.get? b = some o) → J i h')
    (keepO : ∀ h h', O h → (∀ b o, b ∉ S :: wr → h.get? b = some o → h'.get? b = some o) → O h')
    (add : ∀ i v s, i < n → Pv i v → J i s.heap → O s.heap → AddsAt prog w A.in1 S J i v s) :
    ∀ (k i : Nat) (s : Shared), n - i = k → i ≤ n → St i s → J i s.heap → O s.heap → (∀ s', Moved (S :: wr) G s s' → J n s'.heap → R (.ok (.ret .none)) s') →
      codeAny (model prog w) A (.builtin "set.update.loop" ⟨[.ref S, .ref I], []⟩) R s
  | 0, i, s, hk, hi, hst, hJ, hO, hR => by
    obtain rfl : i = n := by omega
    refine codeAny_builtin F.entry_set_update_loop ?_
    rw [Around.under_plainId F.plain_set_update_loop _]
    refine wpAny_bind (m := pyNext (.ref I)) (W.done s _ _ hst fun s' hm => wpAny_pure (hR s' (hm.mono fun b hb => List.mem_cons_of_mem _ hb) (keepJ _ _ _ hJ hm.heap)))
  | k + 1, i, s, hk, hi, hst, hJ, hO, hR => by
    have hlt : i < n := by omega
    refine codeAny_builtin F.entry_set_update_loop ?_
    rw [Around.under_plainId F.plain_set_update_loop _]
    refine wpAny_bind (m := pyNext (.ref I)) (W.item i s _ _ hlt hst fun v s1 hP hst1 hm => ?_)
    have hm' : Moved (S :: wr) G s s1 := hm.mono fun b hb => List.mem_cons_of_mem _ hb
    refine wpAny_bind (m := holding [v] (setAdd S v)) (wpAny_holding (add i v s1 hlt hP (keepJ _ _ _ hJ hm.heap) (keepO _ _ hO hm'.heap) _ _ fun b h2 tk htk sb hJ2 => ?_))
    have out : ∀ c o, c ∉ S :: wr → s1.heap.get? c = some o → h2.get? c = some o := fun c o hc e => (sb.2 c fun z => hc (z ▸ List.mem_cons_self)).trans e
    refine wpAny_pure ⟨plainId_quiet F.plain_set_update_loop _, set_loopJ W S hSf J O keepJ keepO add k (i + 1) _ (by omega) hlt (W.frame _ s1 h2 tk hst1 htk fun c hc o e => (sb.2 c fun z => hSf (z ▸ hc)).trans e) hJ2
      (keepO _ _ (keepO _ _ hO hm'.heap) out) fun s3 hm3 hJ3 => hR s3 (Moved.trans W.gtrans (hm'.then_heap htk out) hm3) hJ3⟩
end
section
variable {prog : Program} {w : World} {A : Around} {E : Value → Shared → Prop} {s : Shared}
set_option maxHeartbeats 8000000 in
/-- set(xs) of a list -/
theorem call_setJ {l : Addr} {items : Array Value} {Q : Value → Shared → Prop} (hh : A.handled = none) (hl : s.heap.IsList l items) (J : Nat → Heap → Prop)
    (keepJ : ∀ i h h', J i h → (∀ b o, b ≠ s.heap.objs.size + 1 → h.get? b = some o → h'.get? b = some o) → J i h')
    (start : ∀ h', h'.get? s.heap.objs.size = some (setNew w) → (∀ b o, s.heap.get? b = some o → h'.get? b = some o) → J 0 h')
    (add : ∀ (A' : Around) i v s', A'.units ≤ A.units + 4 → items[i]? = some v → J i s'.heap → (∀ b o, s.heap.get? b = some o → s'.heap.get? b = some o) → AddsAt prog w A' s.heap.objs.size J i v s')
    (h : ∀ h' tk, J items.size h' → (∀ b o, s.heap.get? b = some o → h'.get? b = some o) → Q (.ref s.heap.objs.size) { s with heap := h', toks := tk }) :
    wpAny (model prog w) A (call (.type "set") [.ref l]) Q E s := by
  obtain ⟨c, tl, hmro⟩ := F.called_set.mro
  have hmade := F.called_set.made
  have hsub := F.called_set.sub
  refine wpAny_call (codeAny_of_tree (wpAny_pure ⟨Code.quiet_builtin _ (by decide +kernel), codeAny_builtin F.entry_type_call ?_⟩))
  rw [Around.under_plain (weight_type_call_type "set" [.ref l] []) rfl]
  have h1 := F.called_set.notType
  have h2 := F.called_set.canCreate
  have hct := F.typeCall_set_1 (.ref l)
  repeat (any_goals (first | assumption | wp_step))
  generalize hN : s.heap.objs.size = N at *
  have hlN : l < N := by
    obtain ⟨o, e, _⟩ := hl
    exact hN ▸ Heap.lt_size e
  refine codeAny_mono (code_set_led1 (.ref l) (E := E) (Q₁ := fun obj s₁ => obj = .ref N ∧ s₁ = { s with heap := s.heap.push (setNew w) }) ⟨by rw [hN], rfl⟩) fun r s₁ hr => ?_
  cases r with
  | error e => exact hr
  | ok fl =>
    cases fl with
    | ret obj =>
      obtain ⟨rfl, rfl⟩ := hr
      have hS : (s.heap.push (setNew w)).get? N = some (setNew w) := by rw [← hN]; exact Heap.get?_push_size _ rfl
      have hT : Shared.TypeIs { s with heap := s.heap.push (setNew w) } (.ref N) "set" := ⟨_, hS, rfl⟩
      have hli := F.called_set.init.lookup
      have hbi := F.called_set.init.bind (.ref N)
      repeat (any_goals (first | assumption | wp_step))
      refine codeAny_mono (codeAny_call_builtin (R := wants (fun r s₂ => r = .none ∧ ∃ h' tk, s₂ = { s with heap := h', toks := tk } ∧ J items.size h' ∧ (∀ b o, s.heap.get? b = some o → h'.get? b = some o)) E)
        F.called_set.init.plain F.entry_set_init (check_set_init_1 hT ?_)) fun r₂ s₂ hr₂ => ?_
      · have hl1 : (s.heap.push (setNew w)).IsList l items := hl.push _
        obtain ⟨ol, hol, hcl, nl, hdl⟩ := id hl1
        obtain ⟨ocls, odict, odata, oslots⟩ := ol
        simp only at hcl hdl
        subst hcl; subst hdl
        have hsls := F.sub_list_set
        have hslf := F.sub_list_frozenset
        have hne : (Value.type "list" == Value.type "dict") = false := by decide
        have z1 : (s.heap.push (setNew w)).objs.size = N + 1 := by rw [Heap.size_push, hN]
        unfold Builtin.«set.__init__» noKeywords Builtin.Frozenset.updateFrom
        unfold setNew at *
        generalize hPI : pyIter = PI
        wp_walk
        subst hPI
        refine wpAny_pyIter_list hl1 (wpAny_bind (wpAny_runValue ?_))
        have e1 : ∀ b o, s.heap.get? b = some o → ((s.heap.push (setNew w)).push { cls := .type "list_iterator", data := .fields #[.ref l, .int 0 0] }).get? b = some o := fun b o e => Heap.get?_push_of_some _ (Heap.get?_push_of_some _ e)
        have e2 : ((s.heap.push (setNew w)).push { cls := .type "list_iterator", data := .fields #[.ref l, .int 0 0] }).get? N = some (setNew w) := Heap.get?_push_of_some _ hS
        have hh3 : A.in1.in1.in1.handled = none := by simp [hh]
        rw [z1]
        refine set_loopJ (A := A.in1.in1) (n := items.size) (Walks.toS (Walks.list hh3 (N + 1) l (Nat.ne_of_lt (Nat.lt_succ_of_lt hlN)) items)) N (by simp only [List.mem_cons, List.not_mem_nil, or_false, not_or]; exact ⟨Nat.ne_of_lt (Nat.lt_succ_self _), Nat.ne_of_gt hlN⟩) J (fun h => ∀ b o, s.heap.get? b = some o → h.get? b = some o)
          (fun i h h' q k => keepJ i h h' q fun b o hb e => k b o (by simpa using hb) e) (fun h h' q k b o e => k b o (by have := Heap.lt_size e; rw [hN] at this; simp only [List.mem_cons, List.not_mem_nil, or_false, not_or]; exact ⟨Nat.ne_of_lt this, Nat.ne_of_lt (Nat.lt_succ_of_lt this)⟩) (q b o e))
          (fun i v s' hi hv hJ hO => add _ i v s' (by show A.units + 3 ≤ A.units + 4; omega) hv hJ hO) (items.size - 0) 0 _ (by omega) (Nat.zero_le _) ?_ (start _ e2 e1) e1 ?_
        · exact ⟨⟨_, by rw [← z1]; exact Heap.get?_push_size _ rfl, rfl, rfl⟩, hl1.push _⟩
        · intro s' hm hJ
          obtain ⟨h', g2, d', tk', os'⟩ := s'
          obtain ⟨m1, m2, m3, m4, m5⟩ := hm
          simp only at m2 m3 m4
          subst m2 m3 m4
          refine wpAny_pure (wpAny_pure ⟨rfl, h', tk', rfl, hJ, fun b o e => m1 b o ?_ (e1 b o e)⟩)
          have := Heap.lt_size e
          rw [hN] at this
          simp only [List.mem_cons, List.not_mem_nil, or_false, not_or]
          exact ⟨Nat.ne_of_lt this, Nat.ne_of_lt (Nat.lt_succ_of_lt this)⟩
      · cases r₂ with
        | error e => exact hr₂
        | ok fl₂ =>
          cases fl₂ with
          | ret r =>
            obtain ⟨rfl, h', tk, rfl, hJ, hk⟩ := hr₂
            repeat (any_goals (first | assumption | wp_step))
            exact h _ _ hJ hk
          | _ => exact hr₂.elim
    | _ => exact hr.elim
end
/-! ### texts -/
open PySem.Froz
theorem tailTx_ris {ep : Nat} {es : Array (Int × Value)} {t : SetTable} (d : Bool) (r : Ris t.place.toList) : Ris (tailTx ep es t d).2.2.place.toList := by
  unfold tailTx
  split
  · exact relayAll_ris _ _ _
  · exact r
theorem tailTx_led (ep : Nat) (es : Array (Int × Value)) (t : SetTable) (d : Bool) : (tailTx ep es t d).2.2.led = t.led := by
  unfold tailTx
  split
  · exact relayAll_led _ _ _
  · rfl
theorem addTx_ris {h : Int} {v : Value} {D : SD} (r : Ris D.2.2.place.toList) : Ris (addTx h v D).2.2.place.toList := by
  unfold addTx
  refine tailTx_ris _ ?_
  split <;> exact layNew_ris _ _ _ _ r
theorem addTx_led (h : Int) (v : Value) (D : SD) : (addTx h v D).2.2.led = D.2.2.led := by
  unfold addTx
  refine (tailTx_led _ _ _ _).trans ?_
  split <;> exact layNew_led _ _ _ _
section
variable {P : Program} {w : World} {A : Around} {E : Value → Shared → Prop} {s : Shared}
/-- the set at a holds the texts l -/
structure TxS (P : Program) (w : World) (a : Addr) (l : List Str) (h : Heap) : Prop where
  ex : ∃ D, h.get? a = some (sObj "set" D) ∧ TxOk P w D l ∧ Ris D.2.2.place.toList ∧ (w.params.followText "set-order" = true ∨ D.2.2.led = true)
  nd : l.Nodup
theorem TxS.keep {a : Addr} {l : List Str} {h h' : Heap} (x : TxS P w a l h) (k : ∀ o, h.get? a = some o → h'.get? a = some o) : TxS P w a l h' :=
  ⟨x.ex.imp fun _ q => ⟨k _ q.1, q.2⟩, x.nd⟩
theorem txs_new {a : Addr} {h : Heap} (e : h.get? a = some (setNew w)) : TxS P w a [] h :=
  ⟨⟨(#[], 0, .fresh 0 0 (!w.params.followText "set-order")), e, TxOk.nil (by rfl), List.Pairwise.nil, by
    show _ ∨ (!w.params.followText "set-order") = true
    cases w.params.followText "set-order" <;> simp⟩, List.nodup_nil⟩
/-- a text that is there -/
theorem old_x {a : Addr} {D : SD} {l : List Str} {k : Str} {u : Tok} {Q : Bool → Shared → Prop} (ho : s.heap.get? a = some (sObj "set" D)) (F : TxOk P w D l) (hk : k ∈ l) (hb : l.length < scanBound) (h : Q false s) :
    wpAny (model P w) A (setAddHashed a (.str k u) (hashStr w k)) Q E s := by
  obtain ⟨es, ep, t⟩ := D
  have b0 : es.size < scanBound := by rw [show es.size = l.length from F.sz]; exact hb
  obtain ⟨e, he, hp⟩ := (F.mem k).mp hk
  obtain ⟨j, hj⟩ : ∃ j, List.findIdx? (fun e => (strKind P w).is k e.2) es.toList = some j := by
    cases r : List.findIdx? (fun e => (strKind P w).is k e.2) es.toList with
    | some j => exact ⟨j, rfl⟩
    | none => exact absurd hp (by rw [List.findIdx?_eq_none_iff.mp r e he]; decide)
  unfold setAddHashed setAddHashedIn
  refine wpAny_holding (wpAny_bind (wpAny_setState_of ho rfl F.fit ?_))
  dsimp only
  rw [byScan_of rfl b0 F.el]
  simp only [↓reduceIte]
  unfold setAddByScan
  refine wpAny_bind (wpAny_bind (wpAny_rule (wpAny_bind (wpAny_setScan_of (knd := strKind P w) (k := k) (is_str k u) ho rfl F.fit F.el ?_))))
  rw [hj]
  exact wpAny_pure (wpAny_pure h)
theorem put_x {a : Addr} {l : List Str} {k : Str} {u : Tok} {Q : Bool → Shared → Prop} (T : TxS P w a l s.heap) (hb : l.length + 1 < scanBound)
    (h : ∀ b h' tk, s.toks ≤ tk → Heap.SameBut a s.heap h' → TxS P w a (if k ∈ l then l else k :: l) h' → Q b { s with heap := h', toks := tk }) : wpAny (model P w) A (setAdd a (.str k u)) Q E s := by
  obtain ⟨⟨D, ho, F, r, ld⟩, nd⟩ := T
  unfold setAdd
  refine wpAny_holding (wpAny_bind ((strKind P w).pyHash (is_str k u) ?_))
  by_cases c : k ∈ l
  · refine old_x (s := { s with toks := s.toks + 1 }) ho F c (by omega) (h _ s.heap (s.toks + 1) (Nat.le_succ _) (Heap.SameBut.refl a s.heap) ?_)
    rw [if_pos c]
    exact ⟨⟨D, ho, F, r, ld⟩, nd⟩
  · refine add_x (s := { s with toks := s.toks + 1 }) ho F c hb (h _ _ (s.toks + 1) (Nat.le_succ _) (Heap.SameBut.update ..) ?_)
    rw [if_neg c]
    exact ⟨⟨_, get_upd _ ho rfl, add_ok u F, addTx_ris r, by rw [addTx_led]; exact ld⟩, List.nodup_cons.mpr ⟨c, nd⟩⟩
theorem call_setTx {l : Addr} {items : Array Value} {xs : List Str} {Q : Value → Shared → Prop} (hh : A.handled = none) (hl : s.heap.IsList l items) (hi : StrsAre items.toList xs) (hf : xs.length < 64)
    (h : ∀ h' tk ys, TxS P w s.heap.objs.size ys h' → (∀ k, k ∈ ys ↔ k ∈ xs) → (∀ b o, s.heap.get? b = some o → h'.get? b = some o) → Q (.ref s.heap.objs.size) { s with heap := h', toks := tk }) :
    wpAny (model P w) A (call (.type "set") [.ref l]) Q E s := by
  have hsz : items.size = xs.length := by rw [← StrsAre.len_eq hi, Array.length_toList]
  refine call_setJ hh hl (fun i h => ∃ ys, TxS P w s.heap.objs.size ys h ∧ (∀ k, k ∈ ys ↔ k ∈ xs.take i) ∧ ys.length ≤ i) ?_ ?_ ?_ ?_
  · rintro i h1 h2 ⟨ys, T, q⟩ k
    exact ⟨ys, T.keep fun o e => k _ o (Nat.ne_of_lt (Nat.lt_succ_self _)) e, q⟩
  · intro h' e _
    exact ⟨[], txs_new e, fun k => by simp, Nat.le_refl _⟩
  · rintro A' i v s' _ hv ⟨ys, T, q, le⟩ _ E Q hQ
    have hi' : i < xs.length := by
      rw [← hsz]
      exact (Array.getElem?_eq_some_iff.mp hv).1
    obtain ⟨t, rfl⟩ := SS.strs_at hi i v (by rw [Array.getElem?_toList]; exact hv)
    refine put_x T (by unfold scanBound; omega) fun b h' tk a1 a2 a3 => hQ b h' tk a1 a2 ⟨_, a3, fun k => ?_, ?_⟩
    · have e1 : xs.take (i + 1) = xs.take i ++ [xs.getD i Str.empty] := by
        rw [List.take_succ, List.getElem?_eq_getElem hi', List.getD_eq_getElem?_getD, List.getElem?_eq_getElem hi']
        rfl
      rw [e1, List.mem_append, List.mem_singleton, ← q k]
      by_cases c : xs.getD i Str.empty ∈ ys
      · rw [if_pos c]
        exact ⟨.inl, fun z => z.elim id fun z => z ▸ c⟩
      · rw [if_neg c, List.mem_cons]
        exact ⟨fun z => z.elim .inr .inl, fun z => z.elim .inr .inl⟩
    · split
      · omega
      · simp only [List.length_cons]; omega
  · rintro h' tk ⟨ys, T, q, _⟩ k
    refine h h' tk ys T (fun x => ?_) k
    rw [q x, hsz, List.take_length]
end
end MP

/-! MP, part O6: len(set(xs)), sorted(set(xs)) of texts -/
namespace MP
open PySem PySem.Spec PyProof.Rows L2 PySem.Froz
variable [WLD]
theorem mem_dedS {x : Str} : ∀ {l : List Str}, x ∈ dedS l ↔ x ∈ l
  | [] => Iff.rfl
  | k :: r => by
    unfold dedS
    by_cases c : k ∈ r
    · rw [if_pos c, mem_dedS, List.mem_cons]
      exact ⟨.inr, fun z => z.elim (fun z => z ▸ c) id⟩
    · rw [if_neg c, List.mem_cons, List.mem_cons, mem_dedS]
theorem nodup_dedS : ∀ l : List Str, (dedS l).Nodup
  | [] => List.nodup_nil
  | k :: r => by
    unfold dedS
    by_cases c : k ∈ r
    · rw [if_pos c]; exact nodup_dedS r
    · rw [if_neg c]; exact List.nodup_cons.mpr ⟨fun z => c (mem_dedS.mp z), nodup_dedS r⟩
theorem len_dedS : ∀ l : List Str, (dedS l).length ≤ l.length
  | [] => Nat.le_refl _
  | k :: r => by
    have := len_dedS r
    unfold dedS
    split
    · exact Nat.le_succ_of_le this
    · exact Nat.succ_le_succ this
theorem dedS_perm {ys ks : List Str} (nd : ys.Nodup) (m : ∀ k, k ∈ ys ↔ k ∈ ks) : ys.Perm (dedS ks) := (List.perm_ext_iff_of_nodup nd (nodup_dedS ks)).mpr fun k => (m k).trans mem_dedS.symm
theorem perm_sub : ∀ {ys L : List Str}, ys.Nodup → (∀ k ∈ ys, k ∈ L) → L.length = ys.length → L.Perm ys
  | [], L, _, _, e => by
    rw [List.length_eq_zero_iff.mp e]
  | y :: r, L, nd, h, e => by
    obtain ⟨n1, n2⟩ := List.nodup_cons.mp nd
    have hy : y ∈ L := h y List.mem_cons_self
    have p := List.perm_cons_erase hy
    have q : (L.erase y).length = r.length := by rw [List.length_erase_of_mem hy, e]; rfl
    exact p.trans (List.Perm.cons y (perm_sub n2 (fun k hk => (List.mem_erase_of_ne fun z => n1 (by rw [← z]; exact hk)).mpr (h k (List.mem_cons_of_mem _ hk))) q))
def txtOf : Value → Str
  | .str k _ => k
  | _ => Str.empty
theorem strs_of : ∀ {vs : List Value}, (∀ v ∈ vs, ∃ k t, v = Value.str k t) → StrsAre vs (vs.map txtOf)
  | [], _ => .nil
  | v :: vs, h => by
    obtain ⟨k, t, rfl⟩ := h v List.mem_cons_self
    exact .cons k t (strs_of fun u hu => h u (List.mem_cons_of_mem _ hu))
section
variable {P : Program} {w : World} {A : Around} {E : Value → Shared → Prop} {s : Shared}
/-- the values of a set of texts -/
theorem TxS.vals {a : Addr} {l : List Str} {h : Heap} (T : TxS P w a l h) : ∃ D, h.get? a = some (sObj "set" D) ∧ D.2.2.fits D.1.size = true ∧ D.1.size = l.length ∧ Ris D.2.2.place.toList ∧ (w.params.followText "set-order" = true ∨ D.2.2.led = true) ∧
    (∀ v ∈ D.1.toList.map (·.2), ∃ k t, v = Value.str k t) ∧ ((D.1.toList.map (·.2)).map txtOf).Perm l := by
  obtain ⟨⟨D, ho, F, r, ld⟩, nd⟩ := T
  have sh : ∀ v ∈ D.1.toList.map (·.2), ∃ k t, v = Value.str k t := fun v hv => by
    obtain ⟨e, he, rfl⟩ := List.mem_map.mp hv
    obtain ⟨⟨k, hk, _⟩, _⟩ := F.el e he
    obtain ⟨t, q⟩ := Value.isStrOf_shape (x := k) (v := e.2) hk
    exact ⟨k, t, q⟩
  refine ⟨D, ho, F.fit, F.sz, r, ld, sh, perm_sub nd (fun k hk => ?_) ?_⟩
  · obtain ⟨e, he, hp⟩ := (F.mem k).mp hk
    obtain ⟨t, q⟩ := Value.isStrOf_shape (x := k) (v := e.2) hp
    exact List.mem_map.mpr ⟨e.2, List.mem_map.mpr ⟨e, he, rfl⟩, by rw [q]; rfl⟩
  · rw [List.length_map, List.length_map, Array.length_toList]
    exact F.sz
theorem sorted_TxS {a : Addr} {l : List Str} {Q : Value → Shared → Prop} (T : TxS P w a l s.heap) (hh : A.handled = none) (h64 : l.length < 64)
    (hQ : ∀ h' p (out : Array Value) (c tk : Nat) (zs : List Str), (∀ b o, s.heap.get? b = some o → h'.get? b = some o) → s.heap.objs.size ≤ p → h'.get? p = some (seqObj "list" out c) → StrsAre out.toList zs → zs.Perm l → sortedS zs = true → ∀ s', s'.heap = h' → s'.gens = s.gens → s'.os = s.os → Q (.ref p) s') :
    wpAny (model P w) A (call (.builtin "sorted") [.ref a]) Q E s := by
  obtain ⟨D, ho, hf, hn, r, ld, sh, pm⟩ := T.vals
  refine Calls.call_function_entry kind_sorted plain_sorted entry_sorted (args_sorted1 _) ?_
  unfold Builtin.«sorted»
  refine wpAny_bind (m := checkCount "sorted" 1 1 _) (wpAny_pure (wpAny_bind (collect_set (A := A.in1) hh ⟨_, ho, rfl, rfl⟩ hf (by rw [hn]; unfold scanBound; omega) r ld fun s1 vs k1 hz g1 o1 p1 => ?_)))
  have sv : StrsAre vs (vs.map txtOf) := strs_of fun v hv => sh v (p1.mem_iff.mp hv)
  have lv : vs.length < 64 := by rw [p1.length_eq, List.length_map, Array.length_toList, hn]; exact h64
  refine wpAny_bind (wpAny_newList ?_ (by rw [sizeLine_eq]; omega))
  have at_ : (s1.heap.push (seqObj "list" vs.toArray 0)).get? s1.heap.objs.size = some (seqObj "list" vs.toArray 0) := Heap.get?_push_size _ rfl
  refine wpAny_bind (wpAny_holding (wpAny_call_entry slot_list_sort ⟨_, at_, rfl⟩ entry_list_sort
    (list_sort_treeK strKind_oneLt at_ sv.keysOf (fun _ _ _ e => keyKind_strs (by rw [← e]; exact sv)) lv fun st hp hs => ⟨_, rfl, ?_⟩) (args_list_sort _)))
  obtain ⟨zs, q1, q2, q3⟩ := sorted_out_str sv hp hs
  obtain ⟨c, hc⟩ := sortedHeap_at (vs := vs) (out := (arrOf st).map (·.2)) at_
  refine wpAny_pure ⟨_, rfl, hQ _ s1.heap.objs.size _ c s1.toks zs (fun b u e => ?_) hz hc q1 (q2.trans ((p1.map txtOf).trans pm)) q3 _ rfl g1 o1⟩
  have lt := Heap.lt_size (k1 b u e)
  exact (sortedHeap_old (Nat.ne_of_lt lt) (by rw [size_push']; exact Nat.lt_succ_of_lt lt)).trans (Heap.get?_push_of_some _ (k1 b u e))
end
/-- what is asked of the set -/
def rSetQ (q : Bool) (K : PySem.W.Frag) : List V → Hp → VK → Prop := fun xs H Q => ∃ p ks, xs = [.ref p] ∧ SqL K H p (ks.map V.str) ∧ ks.length < 64 ∧
  (if q = true then Q (.int (dedS ks).length) H else ∀ l, H l = none → Q (.ref l) (upd H l (.lst ((sortS (dedS ks)).map V.str))))
theorem pe_setQ {X : Cx} {q : Bool} {a : Expr} {ta : TE} {p p2 pos2 pos : Pos} (hc : X.calm = true) (hg : Gl X (Str.ofString (setNm q))) (hm : X.mg (Str.ofString (setNm q)) = none) (hg2 : Gl X (Str.ofString "set")) (hm2 : X.mg (Str.ofString "set") = none)
    (hn : ((Str.ofString (setNm q)) == ("__debug__" : Str)) = false ∧ ((Str.ofString (setNm q)) == ("__classdict__" : Str)) = false ∧ (Str.ofString (setNm q)) ≠ ("__name__" : Str))
    (hn2 : ((Str.ofString "set") == ("__debug__" : Str)) = false ∧ ((Str.ofString "set") == ("__classdict__" : Str)) = false ∧ (Str.ofString "set") ≠ ("__name__" : Str)) (ha : PE X a ta)
    (na : starEach [a] X.env = (false, eval a X.env) :: starEach [] X.env) : PE X (.Call (.Name (Str.ofString (setNm q)) p) [.Call (.Name (Str.ofString "set") p2) [a] [] pos2] [] pos) (fun σ H Q => ta σ H fun x H1 => rSetQ q X.K [x] H1 Q) := by
  have bq : bootBuiltins (Str.ofString (setNm q)) = some (.builtin (setNm q)) := by cases q <;> decide +kernel
  have bs : bootBuiltins (Str.ofString "set") = some (.type "set") := by decide +kernel
  refine ⟨fun pins s σ H Q I h => ?_⟩
  refine wpAny_Call_Name_kw (ld_blt I hg hm bq ?_ hn.2.2 hn.1)
  refine PyProof.Rows.callWith_builtin1 (PyProof.Rows.args_cons ?_ rfl) rfl rfl
  refine wpAny_Call_Name_kw (ld_blt I hg2 hm2 bs ?_ hn2.2.2 hn2.1)
  refine PyProof.Rows.callWith_type1 (PyProof.Rows.args_cons (thn (ha.run pins s σ H _ I h) fun v s1 ⟨x, H1, I1, r1, q1⟩ => PyProof.Rows.args_nil ?_) na) na rfl
  obtain ⟨l, ks, e, hq, h64, q1⟩ := q1
  cases e
  cases r1
  obtain ⟨its, rr, pl, hz⟩ := I1.list hq
  refine call_setTx (P := X.prog) (w := X.w) (I1.ok.hd hc) pl.isList (by simpa using strsAre_of rr) h64 fun h' tk ys T m k => PyProof.Rows.args_nil ?_
  have pm := dedS_perm T.nd m
  have I2 : Inv X pins σ H1 { s1 with heap := h', toks := tk } := I1.kept k
  have hy : ys.length < 64 := by rw [pm.length_eq]; exact Nat.lt_of_le_of_lt (len_dedS ks) h64
  cases q with
  | true =>
    obtain ⟨D, ho, hf, hn, _⟩ := T.vals
    have hex : (sObj "set" D).ExactSet := ⟨rfl, rfl, rfl⟩
    rw [if_pos rfl] at q1
    refine call_len_set (s := { s1 with heap := h', toks := tk }) ho hex rfl hf (by rw [hn]; omega) ⟨.int (dedS ks).length, H1, I2.tok _, ⟨_, by rw [hn, pm.length_eq]⟩, q1⟩
  | false =>
    rw [if_neg (by decide)] at q1
    refine sorted_TxS (s := { s1 with heap := h', toks := tk }) T (I1.ok.hd hc) hy fun h2 p out c tk2 zs k2 lo at_ so pz sz s' e1 e2 e3 => ?_
    have ez : zs = sortS (dedS ks) := sorted_is (pz.trans pm) sz
    subst ez
    have hn : H1 p = none := I2.hok.fresh lo
    have hl : ((sortS (dedS ks)).map V.str).length ≤ sizeLine := by rw [List.length_map, pz.length_eq, sizeLine_eq]; omega
    have vs : Vals ((sortS (dedS ks)).map V.str) out.toList := vals_of_strs so
    have J : Inv X pins σ (upd H1 p (.lst ((sortS (dedS ks)).map V.str))) { s1 with heap := s'.heap, gens := s'.gens, drawn := s'.drawn, toks := s'.toks } := by
      subst e1
      exact I2.call (s := { s1 with heap := h', toks := tk }) (ch := []) (Un.laid (h := h') k2 lo hn) (I2.hok.laid k2 lo ⟨hl, out.toList, c, vs, by simpa using at_⟩) (by rw [e2]; exact I2.bare) (fun _ z => nomatch z)
    have e : s' = { s1 with heap := s'.heap, gens := s'.gens, drawn := s'.drawn, toks := s'.toks } := by
      cases s'
      cases s1
      cases e3
      rfl
    rw [e]
    exact ⟨.ref p, _, J, rfl, q1 p hn⟩
theorem strs_rep {K : PySem.W.Frag} {ρ : List Addr} {H : Hp} : ∀ {xs : List A} {vs : List V}, RepAll K ρ H xs vs → xs.all isStA = true → vs = (xs.map strA).map V.str
  | [], _, .nil, _ => rfl
  | x :: xs, _, .cons r rr, h => by
    rw [List.all_cons, Bool.and_eq_true] at h
    cases r with
    | str s => rw [strs_rep rr h.2]; rfl
    | _ => exact Bool.noConfusion h.1
theorem rep_strs {K : PySem.W.Frag} {ρ : List Addr} {H : Hp} : ∀ ks : List Str, RepAll K ρ H (ks.map .str) (ks.map V.str)
  | [] => .nil
  | k :: ks => .cons (.str k) (rep_strs ks)
theorem setQ_w {K : PySem.W.Frag} {mg : Str → Option Value} {ρ : List Addr} {H : Hp} {M : Mem} {q o : Bool} {a : A} {v : V} {Q : VK} {E : Value → Option Addr → Hp → Prop} (m : RepM K ρ H M) (r : Rep K ρ H a v) (h : Post K mg (Rep K) ρ H (setQ q o a M) Q E) : rSetQ q K [v] H (Fz Q) := by
  unfold setQ at h
  split at h
  · rename_i xs e
    split at h
    · rename_i ok
      rw [Bool.and_eq_true, decide_eq_true_eq] at ok
      obtain ⟨p, ws, rfl, s, rr⟩ := r.asL m e
      rw [strs_rep rr ok.1] at s
      refine ⟨p, xs.map strA, rfl, s.sq, by rw [List.length_map]; exact ok.2, ?_⟩
      cases q with
      | true => exact fz_of (post_ok m (.int _) h)
      | false => exact (fin_lst m (rep_strs _) h).2
    · exact False.elim h
  · exact False.elim h
end MP

/-! MP, part G: expressions -/
namespace MP
open PySem PySem.Spec PyProof.Rows L2
variable [WLD]
section
variable {X : Cx} {I : Inf} {P : Par} {W : WX} {k : Nat}

theorem starAny : ∀ (es : List Expr) (env : Env) (pos : Pos), es.all plainB = true → (backTo pos (starEach es env)).any (·.1) = false
  | [], _, _, _ => rfl
  | e :: es, env, pos, h => by
    rw [List.all_cons, Bool.and_eq_true] at h
    rw [star_plain h.1]
    show (false || (backTo pos (starEach es env)).any (·.1)) = false
    rw [starAny es env pos h.2]; rfl
theorem starLen : ∀ (es : List Expr) (env : Env), (starEach es env).length = es.length
  | [], _ => rfl
  | e :: es, env => by cases e <;> simp [starEach, starLen es env]
theorem starAll : ∀ (es : List Expr) (env : Env) (pos : Pos), es.all plainB = true → (backTo pos (starEach es env)).all (fun x => !x.1) = true
  | [], _, _, _ => rfl
  | e :: es, env, pos, h => by
    rw [List.all_cons, Bool.and_eq_true] at h
    rw [star_plain h.1]
    show (true && (backTo pos (starEach es env)).all (fun x => !x.1)) = true
    rw [starAll es env pos h.2]; rfl
theorem chkEs_plain {N : List Str} {sc : Scope} : ∀ (ms : List E) (es : List Expr), chkEs I N sc ms es = true → es.all plainB = true
  | [], [], _ => rfl
  | [], _ :: _, h => by simp [chkEs] at h
  | _ :: _, [], h => by simp [chkEs] at h
  | m :: ms, e :: es, h => by
    simp only [chkEs, Bool.and_eq_true] at h
    rw [List.all_cons, h.1.1, chkEs_plain ms es h.2]; rfl

/-- a def's call -/
theorem call_fit {mg : Str → Option Value} {K : PySem.W.Frag} {f : Str} {m : Nat} {vs : List V} {H : Hp} {Q : VK} {E : XK} {g : List A → Mem → Out A} (hst : ∀ xs M, xs.length ≠ m → g xs M = .stuck)
    (h : ∃ ρ M xs, RepAll K ρ H xs vs ∧ RepM K ρ H M ∧ Post K mg (Rep K) ρ H (g xs M) Q E) : spOf K mg g m vs H Q E := by
  obtain ⟨ρ, M, xs, r, m', po⟩ := h
  refine ⟨?_, ρ, M, xs, r, m', po⟩
  rw [← r.length]
  apply Classical.byContradiction
  intro e
  rw [hst xs M e] at po
  exact False.elim po
theorem pe_callG (C : Ctx X I P W k) {f : Str} {e : Expr} {es : List Expr} {p pos : Pos} {t : TA} (hf : f ∈ I.fns) (hkw : f ∉ I.kwo) (hg : Gl X f) (hn : okName f = true) (hp : (e :: es).all plainB = true) (ha : PA X (e :: es) t) :
    PE X (.Call (.Name f p) (e :: es) [] pos) (fun σ H Q => t σ H fun vs H1 => ∃ ρ M xs, RepAll X.K ρ H1 xs vs ∧ RepM X.K ρ H1 M ∧ Post X.K X.mg (Rep X.K) ρ H1 (P.call f xs M) Q (fun c d H' => W c d σ H')) := by
  obtain ⟨fa, fd, ps, hm, hk, ⟨hb, _⟩, F, hst⟩ := C.fn f hf
  have hb := hb hkw
  refine ⟨fun pins s σ H Q J h => ?_⟩
  rw [List.all_cons, Bool.and_eq_true] at hp
  refine wpAny_Call_Name_kw (ld_glob J hg hm ?_ (okName_ok hn).1)
  refine PySem.W.callWith_K (h₀ := X.base) J.ok.mod.kin hk (thn (ha.run pos pins s σ H _ J h) fun us s1 ⟨vs, H1, I1, r, q⟩ => ⟨I1.kIn, ?_⟩) (star_plain hp.1) (starAny es _ pos hp.2)
  exact run_fnG F C.rm C.gd hb C.tk (fun _ _ _ z => z) I1 r (call_fit (f := f) hst q)
theorem pe_callG0 (C : Ctx X I P W k) {f : Str} {p pos : Pos} (hf : f ∈ I.fns) (hkw : f ∉ I.kwo) (hg : Gl X f) (hn : okName f = true) :
    PE X (.Call (.Name f p) [] [] pos) (fun σ H Q => ∃ ρ M, RepM X.K ρ H M ∧ Post X.K X.mg (Rep X.K) ρ H (P.call f [] M) Q (fun c d H' => W c d σ H')) := by
  obtain ⟨fa, fd, ps, hm, hk, ⟨hb, _⟩, F, hst⟩ := C.fn f hf
  have hb := hb hkw
  refine ⟨fun pins s σ H Q J h => ?_⟩
  refine wpAny_Call_Name_kw (ld_glob J hg hm ?_ (okName_ok hn).1)
  refine PySem.W.callWith_K0 J.kIn hk ?_
  obtain ⟨ρ, M, m, po⟩ := h
  exact run_fnG (us := []) F C.rm C.gd hb C.tk (fun _ _ _ z => z) J .nil (call_fit (f := f) hst ⟨ρ, M, [], .nil, m, po⟩)

theorem run_fnGK {pins : List (Addr × Obj)} {σ : L2.St} {H : Hp} {s : Shared} {E : XK} {Q : VK} {us ws : List Value} {vs zs : List V} {j n : Nat} {ks ps : List Str} {fa : Addr} {fd : FuncData} {sp : Sp} {g : List Value → List Value → List Value} {gV : List V → List V → List V}
    (F : FnG X.prog X.w X.K X.mg X.base j fa fd ps sp) (hr : Room (j + 2) X.A) (hgd : X.A.guards = some []) (hb : L2.KBn X.K fd ps n ks g gV) (tk : Takes X W) (hE : ∀ cls d H', E cls d H' → W cls d σ H') (J : Inv X pins σ H s) (r : Vals vs us) (rz : Vals zs ws) (l1 : vs.length = n) (l2 : zs.length = ks.length) (h : sp (gV vs zs) H Q E) :
    wpAny (model X.prog X.w) X.A (call (.ref fa) us (ks.zip ws)) (EP X pins σ Q) X.xe s := by
  have to := hb.to s us ws J.kIn (r.length.symm.trans l1) (rz.length.symm.trans l2)
  refine wpAny_call (codeAny_mono (F.run X.A X.stack s H ⟨us, ks.zip ws⟩ _ _ Q E hr hgd J.env0 to (hb.rel r rz) h) fun res s' hq => ?_)
  rcases res with e | fl
  · exact tk e s' (XE.of_call J hE hq)
  · cases fl <;> first | exact False.elim hq | exact J.after hq
theorem kw_all : ∀ (kws : List Keyword) (ks : List Str) (pos : Pos) (env : Env), kws.map (·.arg) = ks.map some → (backToKw pos (keywordEach kws env)).all (·.1.isSome) = true ∧ (backToKw pos (keywordEach kws env)).filterMap (·.1) = ks ∧ (backToKw pos (keywordEach kws env)).any (·.1.isNone) = false
  | [], [], _, _, _ => ⟨rfl, rfl, rfl⟩
  | [], _ :: _, _, _, h => by simp at h
  | _ :: _, [], _, _, h => by simp at h
  | ⟨a, v, p⟩ :: kws, k :: ks, pos, env, h => by
    simp only [List.map_cons, List.cons.injEq] at h
    obtain ⟨h1, h2⟩ := h
    obtain ⟨e1, e2, e3⟩ := kw_all kws ks pos env h2
    subst h1
    exact ⟨by simpa [keywordEach, backToKw] using e1, by simpa [keywordEach, backToKw] using e2, by simpa [keywordEach, backToKw] using e3⟩
/-- a def's call with keywords -/
theorem pe_callKG (C : Ctx X I P W k) {f : Str} {n : Nat} {ks : List Str} {kws : List Keyword} {p pos : Pos} {tk : TA} (hf : f ∈ I.fns) (hg : Gl X f) (hn : okName f = true) (hkw : PK X kws tk) (hks : kws.map (·.arg) = ks.map some) :
    PE X (.Call (.Name f p) [] kws pos) (fun σ H Q => tk σ H fun ws H2 => ∃ ρ M xs zs, RepAll X.K ρ H2 xs [] ∧ RepAll X.K ρ H2 zs ws ∧ RepM X.K ρ H2 M ∧ Post X.K X.mg (Rep X.K) ρ H2 (callKA P f n ks xs zs M) Q (fun c d H' => W c d σ H')) ∧
    ∀ {e : Expr} {es : List Expr} {t : TA}, (e :: es).all plainB = true → PA X (e :: es) t → PE X (.Call (.Name f p) (e :: es) kws pos) (fun σ H Q => t σ H fun vs H1 => tk σ H1 fun ws H2 => ∃ ρ M xs zs, RepAll X.K ρ H2 xs vs ∧ RepAll X.K ρ H2 zs ws ∧ RepM X.K ρ H2 M ∧ Post X.K X.mg (Rep X.K) ρ H2 (callKA P f n ks xs zs M) Q (fun c d H' => W c d σ H')) := by
  obtain ⟨fa, fd, ps, hm, hk, ⟨_, hb⟩, F, hst⟩ := C.fn f hf
  obtain ⟨k1, k2, k3⟩ := kw_all kws ks pos X.env hks
  have fin : ∀ {pins : List (Addr × Obj)} {σ : L2.St} {H : Hp} {s : Shared} {Q : VK} {us us2 : List Value} {vs ws : List V}, Inv X pins σ H s → Vals vs us → Vals ws us2 → (∃ ρ M xs zs, RepAll X.K ρ H xs vs ∧ RepAll X.K ρ H zs ws ∧ RepM X.K ρ H M ∧ Post X.K X.mg (Rep X.K) ρ H (callKA P f n ks xs zs M) Q (fun c d H' => W c d σ H')) →
      wpAny (model X.prog X.w) X.A (call (.ref fa) us (ks.zip us2)) (EP X pins σ Q) X.xe s := by
    intro pins σ H s Q us us2 vs ws J r rz q
    obtain ⟨ρ, M, xs, zs, r1, r2, m, po⟩ := q
    unfold callKA at po
    split at po
    · rename_i hl
      split at po
      · rename_i ss e1
        split at po
        · rename_i ys e2
          obtain ⟨g, gV, kb, rel⟩ := hb n ks ss (by rw [← C.kq]; exact e1)
          exact run_fnGK F C.rm C.gd kb C.tk (fun _ _ _ z => z) J r rz (by rw [← r1.length]; exact hl.1) (by rw [← r2.length]; exact hl.2) (call_fit (f := f) hst ⟨ρ, M, ys, rel r1 r2 hl.1 hl.2 e2, m, po⟩)
        · exact False.elim po
      · exact False.elim po
    · exact False.elim po
  refine ⟨⟨fun pins s σ H Q J h => ?_⟩, fun {e es t} hp ha => ⟨fun pins s σ H Q J h => ?_⟩⟩
  · refine wpAny_Call_Name_kw (ld_glob J hg hm ?_ (okName_ok hn).1)
    refine PySem.W.callWith_KW0 (h₀ := X.base) J.ok.mod.kin hk k1 ?_ (by rw [k3]; rfl)
    refine thn (hkw.run pos pins s σ H _ J h) fun us2 s2 ⟨ws, H2, I2, rz, q2⟩ => ⟨I2.kIn, ?_⟩
    rw [k2]
    exact fin I2 .nil rz q2
  · rw [List.all_cons, Bool.and_eq_true] at hp
    refine wpAny_Call_Name_kw (ld_glob J hg hm ?_ (okName_ok hn).1)
    refine PySem.W.callWith_KW (h₀ := X.base) J.ok.mod.kin hk k1 (thn (ha.run pos pins s σ H _ J h) fun us s1 ⟨vs, H1, I1, r, q⟩ => ?_) (by rw [starAny _ _ _ (by rw [List.all_cons, hp.1, hp.2]; rfl), k3]; rfl) (star_plain hp.1)
    refine thn (hkw.run pos pins s1 σ H1 _ I1 q) fun us2 s2 ⟨ws, H2, I2, rz, q2⟩ => ⟨I2.kIn, ?_⟩
    rw [k2]
    exact fin I2 r rz q2
/-! ### a comprehension -/
theorem noExc_bind {α β : Type} (o : Out α) (f : α → Mem → Out β) : (o.bind f).noExc = o.noExc.bind fun a M => (f a M).noExc := by cases o <;> rfl
theorem Post.bindB {K : PySem.W.Frag} {mg : Str → Option Value} {α β γ δ : Type} {R : List Addr → Hp → α → β → Prop} {S : List Addr → Hp → γ → δ → Prop} {ρ0 ρ : List Addr} {H0 H : Hp} {o : Out α} {f : α → Mem → Out γ} {Q : δ → Hp → Prop} {E : Value → Option Addr → Hp → Prop}
    (g : Grow ρ0 H0 ρ H) (h : Post K mg S ρ0 H0 (o.noExc.bind f) Q E) {E' : Value → Option Addr → Hp → Prop} :
    Post K mg R ρ H o (fun v H1 => ∃ a M1 ρ1, Grow ρ H ρ1 H1 ∧ R ρ1 H1 a v ∧ RepM K ρ1 H1 M1 ∧ Post K mg S ρ0 H0 (f a M1) Q E) E' := by
  cases o with
  | ok a M => exact fun v ρ1 H1 g1 r m => ⟨a, M, ρ1, g1, r, m, h⟩
  | exc x M => exact False.elim h
  | stuck => exact False.elim h
/-- the list that a comprehension has made is taken as a cell, or given over -/
theorem fin_at {K : PySem.W.Frag} {mg : Str → Option Value} {ρ0 ρ : List Addr} {H0 H : Hp} {D : Addr} {o : Bool} {acc : List A} {vs : List V} {M : Mem} {Q : VK} {E : Value → Option Addr → Hp → Prop} (g : Grow ρ0 H0 ρ H) (h0 : H0 D = none) (hD : H D = some (.lst vs)) (nD : D ∉ ρ)
    (r : RepAll K ρ H acc vs) (m : RepM K ρ H M) (h : Post K mg (Rep K) ρ0 H0 (finL o acc M) Q E) : Fz Q (.ref D) H := by
  obtain ⟨t, rfl, ht⟩ := g.ad
  unfold finL at h
  split at h
  · cases o with
    | true =>
      rw [if_pos rfl] at h
      have g2 : Grow ρ0 H0 (ρ0 ++ t ++ [D]) H := ⟨⟨t ++ [D], by simp, fun a ha => by
        rcases List.mem_append.mp ha with ha | ha
        · exact ht a ha
        · simp at ha; subst ha; exact h0⟩, g.st, g.th⟩
      have g3 : Grow (ρ0 ++ t) H (ρ0 ++ t ++ [D]) H → True := fun _ => trivial
      have mono : ∀ {x v}, Rep K (ρ0 ++ t) H x v → Rep K (ρ0 ++ t ++ [D]) H x v := fun {x v} r => rep_more r
      refine .inl (h (.ref D) _ H g2 (.ref (by rw [← m.len]; simp)) ⟨by have := m.len; simp at this ⊢; omega, ?_, fun a ha => ?_, fun n c a h1 h2 => ?_⟩)
      · rw [List.nodup_append]
        exact ⟨m.nd, by simp, fun a ha b hb e => by simp at hb; subst hb; subst e; exact nD ha⟩
      · rcases List.mem_append.mp ha with ha | ha
        · exact m.th a ha
        · simp at ha; subst ha; rw [hD]; simp
      · by_cases hn : n < M.length
        · rw [List.getElem?_append_left hn] at h1
          rw [List.getElem?_append_left (by rw [m.len]; exact hn)] at h2
          have hc := m.cell n c a h1 h2
          cases c with
          | lst xs =>
            obtain ⟨ws, e, r⟩ := hc
            exact ⟨ws, e, reps_more r⟩
          | dct kvs =>
            obtain ⟨zs, e, q⟩ := hc
            exact ⟨zs, e, q.map fun {x v} w => mono w⟩
          | dead => trivial
        · rw [List.getElem?_append_right (Nat.le_of_not_lt hn)] at h1
          rw [List.getElem?_append_right (by rw [m.len]; exact Nat.le_of_not_lt hn), m.len] at h2
          cases hk : n - M.length with
          | zero =>
            rw [hk] at h1 h2
            simp at h1 h2
            subst h1 h2
            exact ⟨vs, hD, reps_more r⟩
          | succ k => rw [hk] at h1; simp at h1
    | false =>
      rw [if_neg (by decide)] at h
      refine .inr ⟨D, _, _, .inl ⟨.inl ⟨vs, rfl⟩, rfl⟩, hD, fun ob => ?_⟩
      obtain ⟨m', keep⟩ := m.other (u := .frz ob (.lst vs)) nD hD rfl
      have g2 : Grow ρ0 H0 (ρ0 ++ t) (upd H D (.frz ob (.lst vs))) := ⟨⟨t, rfl, ht⟩, fun b u hb hs => by
        rw [upd_ne (ne_of_none hb h0)]
        exact g.st b u hb hs, fun b hb => by
        by_cases e : b = D
        · subst e; exact absurd h0 hb
        · rw [upd_ne e]; exact g.th b hb⟩
      exact h (.ref D) _ _ g2 (.lst (.inl ⟨ob, upd_same⟩) (reps_map (fun r => keep r) r)) m'
  · exact False.elim h
where
  rep_more {K : PySem.W.Frag} {ρ : List Addr} {H : Hp} {D : Addr} {x : A} {v : V} (r : Rep K ρ H x v) : Rep K (ρ ++ [D]) H x v :=
    (rm ρ H D (sizeOf x + 1)).1 (Nat.lt_succ_self _) r
  reps_more {K : PySem.W.Frag} {ρ : List Addr} {H : Hp} {D : Addr} {x : List A} {v : List V} (r : RepAll K ρ H x v) : RepAll K (ρ ++ [D]) H x v :=
    (rm ρ H D (sizeOf x + 1)).2 (Nat.lt_succ_self _) r
  rm {K : PySem.W.Frag} (ρ : List Addr) (H : Hp) (D : Addr) : ∀ n : Nat, (∀ {x v}, sizeOf x < n → Rep K ρ H x v → Rep K (ρ ++ [D]) H x v) ∧ (∀ {xs vs}, sizeOf xs < n → RepAll K ρ H xs vs → RepAll K (ρ ++ [D]) H xs vs) := by
    intro n
    induction n with
    | zero => exact ⟨fun h => absurd h (Nat.not_lt_zero _), fun h => absurd h (Nat.not_lt_zero _)⟩
    | succ n ih =>
      refine ⟨fun {x v} hn h => ?_, fun {xs vs} hn h => ?_⟩
      · cases h with
        | non => exact .non
        | bl b => exact .bl b
        | int i => exact .int i
        | str s => exact .str s
        | tup h r => exact .tup h (ih.2 (by simp at hn; omega) r)
        | lst h r => exact .lst h (ih.2 (by simp at hn; omega) r)
        | dct h => exact .dct h
        | dctN h d r1 r2 => exact .dctN h d (ih.2 (Nat.lt_of_le_of_lt (szK _).1 (by simp only [A.dct.sizeOf_spec] at hn; omega)) r1) (ih.2 (Nat.lt_of_le_of_lt (szK _).2 (by simp only [A.dct.sizeOf_spec] at hn; omega)) r2)
        | ref h => exact .ref (by rw [List.getElem?_append_left (List.getElem?_eq_some_iff.mp h).1]; exact h)
      · cases h with
        | nil => exact .nil
        | cons h r => exact .cons (ih.1 (by simp at hn; omega) h) (ih.2 (by simp at hn; omega) r)
  reps_map {K : PySem.W.Frag} {ρ ρ' : List Addr} {H H' : Hp} (f : ∀ {x v}, Rep K ρ H x v → Rep K ρ' H' x v) : ∀ {xs vs}, RepAll K ρ H xs vs → RepAll K ρ' H' xs vs
    | _, _, .nil => .nil
    | _, _, .cons h r => .cons (f h) (reps_map f r)
omit [WLD] in
/-- one turn of a comprehension -/
def lcF (P : Par) (vs : List Nat) (elt : E) (tg : Tg) (ifs : List E) (ς : Loc) : A → Mem → Out (Option A) := fun x M2 => match bindT tg x (wipeA ς vs) with
  | some ς2 => (evTs P ifs ς2 M2).bind fun b M3 => if b = true then (evE P elt ς2 M3).bind fun y M4 => .ok (some y) M4 else .ok none M3
  | none => .stuck
theorem wipe_get (σ : L2.St) : ∀ (vs : List Nat) (j : Nat), (wipe σ vs)[j]? = if j ∈ vs ∧ j < σ.length then some none else σ[j]?
  | [], j => by simp [wipe]
  | v :: vs, j => by
    have ih := wipe_get σ vs j
    show ((wipe σ vs).set v none)[j]? = _
    by_cases hj : v = j
    · subst hj
      by_cases hl : v < σ.length
      · rw [List.getElem?_set_self (by rw [wipe_length]; exact hl)]
        simp [hl]
      · rw [List.getElem?_eq_none (by rw [List.length_set, wipe_length]; omega)]
        simp [hl]
    · rw [List.getElem?_set_ne hj, ih]
      have : (j ∈ v :: vs) ↔ j ∈ vs := by simp [Ne.symm hj]
      simp only [this]
theorem wipe_same {σ σ2 : L2.St} {vs is : List Nat} (hl : σ2.length = σ.length) (hi : ∀ i ∈ is, i ∈ vs) (h : ∀ j, j ∉ is → σ2[j]? = (wipe σ vs)[j]?) : wipe σ2 vs = wipe σ vs := by
  apply List.ext_getElem?
  intro j
  rw [wipe_get σ2, hl]
  by_cases hj : j ∈ vs
  · rw [wipe_get σ]
    by_cases hlt : j < σ.length
    · simp [hj, hlt]
    · simp [hj, hlt, hl]
  · rw [if_neg (by simp [hj]), h j fun z => hj (hi j z)]
theorem pe_lcA {sc : Scope} (C : Ctx X I P W k) (hs : Sub sc X) {o : Bool} {vs : List Nat} {elt : E} {tg : Tg} {ifs : List E} {x i t : Expr} {fs : List Expr} {scope : Scope} {ev : Loc → Mem → Out (List A)}
    (hset : noSet i = true) (hin : ∀ j ∈ tg.slots, j ∈ vs) (ok : BlkOk X.N X.env.scope scope (ownOf X.N vs)) (hi : PI X t i (LI X.K X.mg W ev))
    (hg : ∀ (s : Shared) (H : Hp) (C : Addr) (cl : List (Str × Addr)) (fp : List Addr), PG (X.blk s H scope (compEnvC scope cl C X.env) fp) t (LG X.K tg))
    (ht : ∀ (s : Shared) (H : Hp) (C : Addr) (cl : List (Str × Addr)) (fp : List Addr), PTs (X.blk s H scope (compEnvC scope cl C X.env) fp) fs (LT X.K X.mg WX0 (evTs P ifs)))
    (he : ∀ (s : Shared) (H : Hp) (C : Addr) (cl : List (Str × Addr)) (fp : List Addr), PE (X.blk s H scope (compEnvC scope cl C X.env) fp) x (LE X.K X.mg WX0 (evE P elt))) :
    ∀ σ H Q, LE X.K X.mg W (fun ς M => (ev ς M).bind fun xs M1 => (lcL (lcF P vs elt tg ifs ς) xs M1).noExc.bind fun ys M2 => finL o ys M2) σ H Q →
      tLc (LI X.K X.mg W ev) (LG X.K tg) (LT X.K X.mg WX0 (evTs P ifs)) (LE X.K X.mg WX0 (evE P elt)) vs σ H (Fz Q) := by
  intro σ H Q ⟨ρ, ς, M, at_, h⟩
  refine ⟨ρ, ς, M, at_, le_bind at_ h fun xs M1 ρ1 J H1 at1 g1 J1 h1 => ?_⟩
  intro D hD
  have start : RepM X.K ρ1 (upd H1 D (.lst [])) M1 := at1.m.laid hD
  have gD : Grow ρ1 H1 ρ1 (upd H1 D (.lst [])) := Grow.laid hD
  have nD1 : D ∉ ρ1 := fun z => at1.m.th D z hD
  refine ⟨fun i m H' => m = xs.length - i ∧ i ≤ xs.length ∧ ∃ ρ' M' acc ws, Grow ρ1 H1 ρ' H' ∧ D ∉ ρ' ∧ H' D = some (.lst ws) ∧ RepAll X.K ρ' H' acc ws ∧ RepM X.K ρ' H' M' ∧
      Post X.K X.mg (Rep X.K) ρ1 H1 ((lcL (lcF P vs elt tg ifs ς) (xs.drop i) M').noExc.bind fun ys M2 => finL o (acc ++ ys) M2) Q (fun c d H' => W c d σ H'),
    ⟨xs.length, by simp, Nat.zero_le _, ρ1, M1, [], [], gD, nD1, upd_same, .nil, start, by simpa using h1⟩, ?_⟩
  rintro i m H' ⟨rfl, hle, ρ', M', acc, ws, g, nD, hDw, ra, rm, po⟩
  obtain ⟨hstop, hgo⟩ := J1 ρ' H' g
  by_cases hlt : i < xs.length
  · have hx : xs[i]? = some xs[i] := List.getElem?_eq_getElem hlt
    obtain ⟨go, yld⟩ := hgo i _ hx
    have hdrop : xs.drop i = xs[i] :: xs.drop (i + 1) := List.drop_eq_getElem_cons hlt
    rw [hdrop] at po
    have po' : Post X.K X.mg (Rep X.K) ρ1 H1 ((lcF P vs elt tg ifs ς xs[i] M').noExc.bind fun r M1 => (lcL (lcF P vs elt tg ifs ς) (xs.drop (i + 1)) M1).noExc.bind fun ys M2 => finL o (acc ++ (match r with | some y => y :: ys | none => ys)) M2) Q (fun c d H' => W c d σ H') := by
      have e : ((lcL (lcF P vs elt tg ifs ς) (xs[i] :: xs.drop (i + 1)) M').noExc.bind fun ys M2 => finL o (acc ++ ys) M2) = ((lcF P vs elt tg ifs ς xs[i] M').noExc.bind fun r M1 => (lcL (lcF P vs elt tg ifs ς) (xs.drop (i + 1)) M1).noExc.bind fun ys M2 => finL o (acc ++ (match r with | some y => y :: ys | none => ys)) M2) := by
        simp only [lcL]
        cases lcF P vs elt tg ifs ς xs[i] M' with
        | ok r M1 =>
          simp only [Out.bind_ok, Out.noExc_ok]
          cases lcL (lcF P vs elt tg ifs ς) (xs.drop (i + 1)) M1 <;> rfl
        | exc _ _ => rfl
        | stuck => rfl
      rw [← e]; exact po
    refine .inr ⟨go, fun H4 => ∃ ρ' M' acc ws, Grow ρ1 H1 ρ' H4 ∧ D ∉ ρ' ∧ H4 D = some (.lst ws) ∧ RepAll X.K ρ' H4 acc ws ∧ RepM X.K ρ' H4 M' ∧
      Post X.K X.mg (Rep X.K) ρ1 H1 ((lcL (lcF P vs elt tg ifs ς) (xs.drop (i + 1)) M').noExc.bind fun ys M2 => finL o (acc ++ ys) M2) Q (fun c d H' => W c d σ H'),
      fun H4 q => ⟨xs.length - (i + 1), by omega, rfl, hlt, q⟩, fun v H2 hy => ?_⟩
    obtain ⟨gy, ry, my⟩ := yld v H2 hy
    have rm2 := my M' rm
    have g2 := g.trans gy
    have hD2 : H2 D = some (.lst ws) := gy.st D _ hDw (.inl nD)
    have at2 : At X.K ρ' H2 (wipeA ς vs) (wipe σ vs) M' := ⟨(at1.s.mono g2).wipe vs, rm2⟩
    cases hb : bindT tg xs[i] (wipeA ς vs) with
    | none =>
      unfold lcF at po'
      rw [hb] at po'
      exact False.elim po'
    | some ς2 =>
      refine ⟨ρ', _, M', xs[i], at2, ry, ς2, hb, fun σ2 hs2 hj2 => ⟨?_, ?_⟩⟩
      · refine wipe_same ?_ hin hj2
        rw [← hs2.1]
        have : ς2.length = (wipeA ς vs).length := bindT_len hb
        rw [this, (at2.s).1, wipe_length]
      · have e : lcF P vs elt tg ifs ς xs[i] M' = (evTs P ifs ς2 M').bind fun b M3 => if b = true then (evE P elt ς2 M3).bind fun y M4 => .ok (some y) M4 else .ok none M3 := by
          unfold lcF; rw [hb]
        rw [e, noExc_bind] at po'
        have po2 : Post X.K X.mg (Rep X.K) ρ1 H1 ((evTs P ifs ς2 M').noExc.bind fun b M3 => ((if b = true then (evE P elt ς2 M3).bind fun y M4 => .ok (some y) M4 else .ok none M3 : Out (Option A)).noExc.bind fun r M1 => (lcL (lcF P vs elt tg ifs ς) (xs.drop (i + 1)) M1).noExc.bind fun ys M2 => finL o (acc ++ (match r with | some y => y :: ys | none => ys)) M2)) Q (fun c d H' => W c d σ H') := by
          revert po'
          cases evTs P ifs ς2 M' <;> exact fun h => h
        refine ⟨ρ', ς2, M', ⟨hs2, rm2⟩, (Post.bindB g2 po2).imp (fun b H3 ⟨b', M3, ρ3, g3, eb, rm3, po3⟩ => ?_) fun _ _ _ z => z⟩
        subst eb
        have g13 := g2.trans g3
        have hD3 : H3 D = some (.lst ws) := g3.st D _ hD2 (.inl nD)
        have nD3 : D ∉ ρ3 := by
          obtain ⟨t, rfl, ht⟩ := g3.ad
          intro hm
          rcases List.mem_append.mp hm with z | z
          · exact nD z
          · rw [ht D z] at hD2; cases hD2
        have ra3 := (ra.mono gy).mono g3
        cases b' with
        | false =>
          rw [if_neg (by decide)] at po3
          rw [if_neg (by decide)]
          exact ⟨ρ3, M3, acc, ws, g13, nD3, hD3, ra3, rm3, po3⟩
        | true =>
          rw [if_pos rfl] at po3
          rw [if_pos rfl]
          rw [noExc_bind] at po3
          have po4 : Post X.K X.mg (Rep X.K) ρ1 H1 ((evE P elt ς2 M3).noExc.bind fun y M4 => (lcL (lcF P vs elt tg ifs ς) (xs.drop (i + 1)) M4).noExc.bind fun ys M2 => finL o (acc ++ (y :: ys)) M2) Q (fun c d H' => W c d σ H') := by
            revert po3
            cases evE P elt ς2 M3 <;> exact fun h => h
          refine ⟨ρ3, ς2, M3, ⟨hs2.mono g3, rm3⟩, (Post.bindB g13 po4).imp (fun y H4 ⟨a, M4, ρ4, g4, r4, rm4, po5⟩ => ?_) fun _ _ _ z => z⟩
          have hD4 : H4 D = some (.lst ws) := g4.st D _ hD3 (.inl nD3)
          have nD4 : D ∉ ρ4 := by
            obtain ⟨t, rfl, ht⟩ := g4.ad
            intro hm
            rcases List.mem_append.mp hm with z | z
            · exact nD3 z
            · rw [ht D z] at hD3; cases hD3
          have ra4 := ra3.mono g4
          have po6 : Post X.K X.mg (Rep X.K) ρ1 H1 ((lcL (lcF P vs elt tg ifs ς) (xs.drop (i + 1)) M4).noExc.bind fun ys M2 => finL o ((acc ++ [a]) ++ ys) M2) Q (fun c d H' => W c d σ H') := by
            simpa using po5
          have hz : acc.length < sizeLine := by
            revert po5
            cases lcL (lcF P vs elt tg ifs ς) (xs.drop (i + 1)) M4 with
            | ok ys M2 =>
              intro h
              have h' : Post X.K X.mg (Rep X.K) ρ1 H1 (finL o (acc ++ (a :: ys)) M2) Q (fun c d H' => W c d σ H') := h
              unfold finL at h'
              split at h'
              · rename_i hz
                simp at hz
                omega
              · exact False.elim h'
            | exc _ _ => exact fun h => False.elim h
            | stuck => exact fun h => False.elim h
          obtain ⟨m5, keep⟩ := rm4.other (u := .lst (ws ++ [y])) nD4 hD4 rfl
          have hl := ra4.length
          refine ⟨ws, hD4, by omega, ρ4, M4, acc ++ [a], ws ++ [y], ?_, nD4, upd_same, ?_, m5, po6⟩
          · have g14 := g13.trans g4
            exact ⟨g14.ad, fun b u hb hs => by
              rw [upd_ne (ne_of_none hb hD)]
              exact g14.st b u hb hs, fun b hb => by
              by_cases e : b = D
              · subst e; exact absurd hD hb
              · rw [upd_ne e]; exact g14.th b hb⟩
          · exact (fin_at.reps_map (fun r => keep r) ra4).append (.cons (keep r4) .nil)
  · have e : i = xs.length := by omega
    subst e
    refine .inl ⟨hstop, ?_⟩
    rw [List.drop_length] at po
    have po' : Post X.K X.mg (Rep X.K) ρ1 H1 (finL o acc M') Q (fun c d H' => W c d σ H') := by simpa [lcL] using po
    exact fin_at g hD hDw nD ra rm po'
where
  bindT_len {tg : Tg} {x : A} {ς ς' : Loc} (h : bindT tg x ς = some ς') : ς'.length = ς.length := by
    cases tg with
    | name i => cases h; simp
    | tup is =>
      have : ∀ (is : List Nat) (xs : List A) (ς : Loc), setAll ς is xs = some ς' → ς'.length = ς.length := by
        intro is
        induction is with
        | nil => intro xs ς e; cases xs <;> simp [setAll] at e; subst e; rfl
        | cons i is ih => intro xs ς e; cases xs <;> simp [setAll] at e; rw [ih _ _ e]; simp
      cases x <;> first | exact this _ _ _ h | cases h
theorem pe_dnewA {pos : Pos} : PE X (.Dict [] [] pos) (LE X.K X.mg W (evE P .dnew)) := by
  refine ⟨fun pins s σ H Q I ⟨ρ, ς, M, at_, h⟩ => ?_⟩
  simp only [evE] at h
  refine thn ((pe_dnewK (X := X) (pos := pos)).run pins s σ H (fun v H1 => ∃ p, v = .ref p ∧ H p = none ∧ H1 = upd H p (.dK [])) I fun p hp => ⟨p, rfl, hp, rfl⟩) fun u s1 ⟨v, H1, I1, r, p, e, hp, e1⟩ => ?_
  subst e e1
  obtain ⟨o, I2⟩ := Inv.freeze I1 upd_same (.inl ⟨.inr (.inl ⟨[], rfl⟩), rfl⟩)
  refine ⟨.ref p, _, I2, r, ?_⟩
  have g : Grow ρ H ρ (upd (upd H p (.dK [])) p (.frz o (.dK []))) := Grow.laid2 hp
  exact h (.ref p) ρ _ g (.dct upd_same) (at_.m.laid2 hp)
theorem pe_dcellA {pos : Pos} : PE X (.Dict [] [] pos) (LE X.K X.mg W (evE P .dcell)) := by
  refine pe_w pe_dnewK fun σ H Q ⟨ρ, ς, M, at_, h⟩ p hp => ?_
  simp only [evE] at h
  refine h (.ref p) _ _ (Grow.cell hp) (.ref ?_) (at_.m.cellNewO hp ⟨_, upd_same, .inr ⟨[], rfl, .nil⟩⟩)
  rw [← at_.m.len, List.getElem?_append_right (Nat.le_refl _), Nat.sub_self]
  rfl
end
end MP

/-! MP, part G1: a thing that was laid while others were made, taken as a cell or given over; dict displays -/
namespace MP
open PySem PySem.Spec PyProof.Rows L2
variable [WLD]
section
variable {K : PySem.W.Frag} {mg : Str → Option Value} {ρ0 ρ : List Addr} {H0 H : Hp} {D : Addr} {M : Mem}
theorem rep_in {x : A} {v : V} (r : Rep K ρ H x v) : Rep K (ρ ++ [D]) H x v := fin_at.rep_more r
/-- a place of no cell becomes one -/
theorem RepM.addCell {c : Cell} (m : RepM K ρ H M) (nD : D ∉ ρ) (h : H D ≠ none) (hc : CellRep K (ρ ++ [D]) H D c) : RepM K (ρ ++ [D]) H (M ++ [c]) := by
  refine ⟨by simp [m.len], ?_, fun a ha => ?_, fun n c' a h1 h2 => ?_⟩
  · rw [List.nodup_append]
    exact ⟨m.nd, by simp, fun a ha b hb e => by simp at hb; subst hb; subst e; exact nD ha⟩
  · rcases List.mem_append.mp ha with ha | ha
    · exact m.th a ha
    · simp at ha; subst ha; exact h
  · have hl := m.len
    rcases Nat.lt_trichotomy n M.length with hn | hn | hn
    · rw [List.getElem?_append_left hn] at h1
      rw [List.getElem?_append_left (by omega)] at h2
      have k := m.cell n c' a h1 h2
      cases c' with
      | lst xs => obtain ⟨ws, e, r⟩ := k; exact ⟨ws, e, fin_at.reps_more r⟩
      | dct kvs => obtain ⟨u, e, d⟩ := k; exact ⟨u, e, d.map fun {x v} r => rep_in r⟩
      | dead => trivial
    · subst hn
      rw [List.getElem?_append_right (Nat.le_refl _), Nat.sub_self] at h1
      rw [List.getElem?_append_right (by omega), hl, Nat.sub_self] at h2
      cases h1
      cases h2
      exact hc
    · rw [List.getElem?_eq_none (by simp; omega)] at h1
      cases h1
theorem Grow.fresh {u0 : HO} (g : Grow ρ0 (upd H0 D u0) ρ H) (h0 : H0 D = none) (hs : stab u0 = false) : ∀ u : HO, Grow ρ0 H0 ρ (upd H D u) ∧ Grow ρ0 H0 (ρ ++ [D]) (upd H D u) := by
  obtain ⟨t, rfl, ht⟩ := g.ad
  intro u
  have st : ∀ b o, H0 b = some o → (b ∉ ρ0 ∨ stab o = true) → upd H D u b = some o := fun b o hb hc => by
    have hn : b ≠ D := fun e => by rw [e, h0] at hb; cases hb
    rw [upd_ne hn]
    exact g.st b o (by rw [upd_ne hn]; exact hb) hc
  have th : ∀ b, H0 b ≠ none → upd H D u b ≠ none := fun b hb => by
    have hn : b ≠ D := fun e => hb (by rw [e, h0])
    rw [upd_ne hn]
    exact g.th b (by rw [upd_ne hn]; exact hb)
  have ad : ∀ a ∈ t, H0 a = none := fun a ha => by
    have := ht a ha
    by_cases e : a = D
    · rw [e]; exact h0
    · rw [upd_ne e] at this; exact this
  exact ⟨⟨⟨t, rfl, ad⟩, st, th⟩, ⟨⟨t ++ [D], by simp, fun a ha => by
    rcases List.mem_append.mp ha with ha | ha
    · exact ad a ha
    · simp at ha; rw [ha]; exact h0⟩, st, th⟩⟩
/-- the new dict, filled, as a cell or given over -/
theorem finD_at {u0 u : HO} {o : Bool} {kvs : List (A × A)} {Q : VK} {E : Value → Option Addr → Hp → Prop} (g : Grow ρ0 (upd H0 D u0) ρ H) (h0 : H0 D = none) (hs : stab u0 = false) (hH : H D = some u0) (nD : D ∉ ρ) (m : RepM K ρ H M) (d : DD K ρ H kvs D u)
    (h : Post K mg (Rep K) ρ0 H0 (finD o kvs M) Q E) : Fz Q (.ref D) (upd H D u) := by
  obtain ⟨m2, keep⟩ := m.other (u := u) nD hH hs
  obtain ⟨g1, g2⟩ := g.fresh h0 hs u
  have d2 : DD K ρ (upd H D u) kvs D u := d.map fun {x v} r => keep r
  unfold finD at h
  split at h
  · cases o with
    | true =>
      rw [if_pos rfl] at h
      refine .inl (h (.ref D) _ _ g2 (.ref ?_) (m2.addCell nD (by rw [upd_same]; simp) ⟨u, upd_same, d2.map fun {x v} r => rep_in r⟩))
      rw [← m.len, List.getElem?_append_right (Nat.le_refl _), Nat.sub_self]; rfl
    | false =>
      rw [if_neg (by decide)] at h
      obtain ⟨u', f1, f2, f3⟩ := d2.fzt
      refine .inr ⟨D, u, u', f1, upd_same, fun ob => ?_⟩
      obtain ⟨m3, keep3⟩ := m2.other (u := .frz ob u') nD upd_same d.stab
      obtain ⟨g3, _⟩ := g.fresh h0 hs (.frz ob u')
      rw [upd_upd] at m3 keep3 ⊢
      exact h (.ref D) _ _ g3 ((f2.map fun {x v} r => keep3 r).treeE upd_same fun e => ⟨ob, by rw [upd_same, f3 e]⟩) m3
  · exact False.elim h
end
/-! ### displays -/
def altV : List (V × V) → List V
  | [] => []
  | (x, y) :: r => x :: y :: altV r
section
variable {K : PySem.W.Frag} {ρ : List Addr} {H : Hp}
theorem pairA_rep : ∀ {qs : List (V × V)} {xs : List A} {ps : List (A × A)}, RepAll K ρ H xs (altV qs) → pairA xs = some ps → Paired (fun (p : A × A) (q : V × V) => Rep K ρ H p.1 q.1 ∧ Rep K ρ H p.2 q.2) ps qs
  | [], _, _, r, e => by
    cases r
    cases e
    exact .nil
  | (x, y) :: qs, _, _, r, e => by
    cases r with
    | cons r1 r2 =>
      cases r2 with
      | cons r2 r3 =>
        simp only [pairA, Option.map_eq_some_iff] at e
        obtain ⟨ps, e1, rfl⟩ := e
        exact .cons ⟨r1, r2⟩ (pairA_rep r3 e1)
/-- pairs with texts and ints as keys -/
theorem put_S : ∀ {ps : List (A × A)} {qs : List (V × V)} {kvs res : List (A × A)} {acc : List (L2.Key × V)}, Paired (fun (p : A × A) (q : V × V) => Rep K ρ H p.1 q.1 ∧ Rep K ρ H p.2 q.2) ps qs → Paired (SRep K ρ H) kvs acc → putAll false kvs ps = some res →
    ∃ ks : List (L2.Key × V), qs = ks.map (fun kv => (kV kv.1, kv.2)) ∧ Paired (SRep K ρ H) res (L2.mergeK acc ks)
  | [], _, _, _, _, q, a, e => by
    cases q
    cases e
    exact ⟨[], rfl, a⟩
  | (k, v) :: ps, _, kvs, res, acc, q, a, e => by
    cases q with
    | @cons _ y _ ys q1 q2 =>
      obtain ⟨y1, y2⟩ := y
      simp only [putAll] at e
      cases hk : keyA k with
      | none => simp [hk] at e
      | some c =>
        simp only [hk, Option.map_some] at e
        obtain ⟨ks, e1, e2⟩ := put_S (acc := L2.putK acc c y2) q2 (srep_put q1.2 hk a) (by simpa using e)
        refine ⟨(c, y2) :: ks, ?_, e2⟩
        have h1 : y1 = kV c := by
          have r := q1.1
          cases k <;> cases hk
          · cases r; rfl
          · cases r; rfl
        rw [List.map_cons, ← e1, ← h1]
/-- pairs with tuples as keys -/
theorem put_T {X : Cx} {pins : List (Addr × Obj)} {σ : L2.St} {s : Shared} (I : Inv X pins σ H s) : ∀ {ps : List (A × A)} {qs : List (V × V)} {kvs res : List (A × A)} {ws : List (Value × Value)} {acc : List (NestedKey × Addr × Value)}, Paired (fun (p : A × A) (q : V × V) => Rep X.K ρ H p.1 q.1 ∧ Rep X.K ρ H p.2 q.2) ps qs → L2.VV qs ws →
    Paired (KRep X.K ρ H) kvs acc → putAll true kvs ps = some res → ∃ zs, CarriesH (nestedKind X.prog X.w) s.heap ws zs ∧ Paired (KRep X.K ρ H) res (storedAllH acc zs) ∧ zs.length = ps.length
  | [], _, _, _, _, _, q, w, a, e => by
    cases q
    cases w
    cases e
    exact ⟨[], trivial, a, rfl⟩
  | (k, v) :: ps, _, kvs, res, _, acc, q, w, a, e => by
    cases q with
    | @cons _ y _ ys q1 q2 =>
      cases w with
      | @cons _ z _ zs w1 w2 =>
        obtain ⟨z1, z2⟩ := z
        simp only [putAll, if_true] at e
        cases hk : tkey k with
        | none => simp [hk] at e
        | some c =>
          simp only [hk] at e
          obtain ⟨b, rfl⟩ := key_ref q1.1 w1.1 hk
          obtain ⟨⟨ls, rfl⟩, k1, k2⟩ := tkey_of hk
          have rb : Rep X.K ρ H (.tup ls) (.ref b) := by
            have r := q1.1
            have u := w1.1
            obtain ⟨y1, y2⟩ := y
            cases r with
            | tup s1 r1 => cases u; exact .tup s1 r1
          obtain ⟨xs, e1, e2, e3⟩ := put_T I q2 w2 (krep_put w1.2 q1.2 k1 k2 rb a) (by simpa using e)
          exact ⟨(c, b, z2) :: xs, ⟨rfl, rfl, ⟨nested_of I _ q1.1 w1.1 k1, k2⟩, e1⟩, e2, by simp [e3]⟩
end
section
variable {X : Cx} {I : Inf} {P : Par} {W : WX} {k : Nat}
/-- the pairs' texts evaluated in turn -/
structure PPL (X : Cx) (W : WX) (pos : Pos) (keys : List (Option Expr)) (values : List Expr) (f : MP.Loc → Mem → Out (List A)) : Prop where
  run : ∀ (pins : List (Addr × Obj)) (s : Shared) (σ : L2.St) (H : Hp) (Q : List (V × V) → Hp → Prop), Inv X pins σ H s → LA X.K X.mg W f σ H (fun vs H1 => ∀ qs, altV qs = vs → Q qs H1) →
    wpAny (model X.prog X.w) X.A (evalPairs (pairTrees keys values X.env pos)) (fun vs s' => ∃ ps H', Inv X pins σ H' s' ∧ L2.VV ps vs ∧ Q ps H') X.xe s
theorem ppl_nil {pos : Pos} : PPL X W pos [] [] (evEs P []) := ⟨fun pins s σ H Q J ⟨ρ, ς, M, at_, h⟩ => by
  simp only [evEs] at h
  exact (L2.pps_nil (X := X) (pos := pos)).run pins s σ H Q J (post_ok (R := RepAll X.K) at_.m .nil h [] rfl)⟩
theorem ppl_cons {pos : Pos} {kx vx : Expr} {keys : List (Option Expr)} {values : List Expr} {m1 m2 : E} {ms : List E} (hk : PE X kx (LE X.K X.mg W (evE P m1))) (hv : PE X vx (LE X.K X.mg W (evE P m2))) (hr : PPL X W pos keys values (evEs P ms)) :
    PPL X W pos (some kx :: keys) (vx :: values) (evEs P (m1 :: m2 :: ms)) := by
  refine ⟨fun pins s σ H Q J ⟨ρ, ς, M, at_, h⟩ => ?_⟩
  simp only [evEs] at h
  refine pairTrees_cons_walk (thn (hk.run pins s σ H (fun x H1 => LE X.K X.mg W (evE P m2) σ H1 fun y H2 => LA X.K X.mg W (evEs P ms) σ H2 fun vs H3 => ∀ qs, altV qs = vs → Q ((x, y) :: qs) H3) J ?_) fun u s1 ⟨x, H1, I1, rx, q1⟩ =>
    thn (hv.run pins s1 σ H1 _ I1 q1) fun w2 s2 ⟨y, H2, I2, ry, q2⟩ => thn (hr.run pins s2 σ H2 (fun qs H3 => Q ((x, y) :: qs) H3) I2 q2) fun ws s3 ⟨ps, H3, I3, rel, q3⟩ => ⟨(x, y) :: ps, H3, I3, .cons ⟨rx, ry⟩ rel, q3⟩)
  refine ⟨ρ, ς, M, at_, le_bind at_ h fun a M1 ρ1 x H1 at1 g1 r1 h1 => ?_⟩
  refine ⟨ρ1, ς, M1, at1, ?_⟩
  have e : ((evE P m2 ς M1).bind fun b M2 => (evEs P ms ς M2).bind fun xs M3 => (Out.ok (b :: xs) M3)).bind (fun xs M4 => Out.ok (a :: xs) M4) = (evE P m2 ς M1).bind fun b M2 => (evEs P ms ς M2).bind fun xs M3 => Out.ok (a :: b :: xs) M3 := by
    cases evE P m2 ς M1 with
    | ok b M2 => simp only [Out.bind_ok]; cases evEs P ms ς M2 <;> rfl
    | exc _ _ => rfl
    | stuck => rfl
  rw [e] at h1
  refine le_bind at1 h1 fun b M2 ρ2 y H2 at2 g2 r2 h2 => ?_
  refine ⟨ρ2, ς, M2, at2, le_bind at2 h2 fun xs M3 ρ3 vs H3 at3 g3 r3 h3 => ?_⟩
  intro qs eq
  subst eq
  exact post_ok (R := RepAll X.K) at3.m (.cons ((r1.mono g2).mono g3) (.cons (r2.mono g3) r3)) h3 ((x, y) :: qs) rfl
/-- {k: v, ..} -/
theorem pe_dspA (C : Ctx X I P W k) {t o : Bool} {pos : Pos} {keys : List (Option Expr)} {values : List Expr} {f : MP.Loc → Mem → Out (List A)} (hp : PPL X W pos keys values f) (hall : keys.all (·.isSome) = true) (hl : keys.length = values.length) (h0 : keys ≠ []) (h15 : keys.length ≤ 15) :
    PE X (.Dict keys values pos) (LE X.K X.mg W fun ς M => (f ς M).bind fun xs M1 => dspA t o xs M1) := by
  have core : PE X (.Dict keys values pos) (fun σ H R => ∃ Q, (∀ v H, Fz Q v H → R v H) ∧ LE X.K X.mg W (fun ς M => (f ς M).bind fun xs M1 => dspA t o xs M1) σ H Q) := by
    refine ⟨fun pins s σ H R J ⟨Q, hR, ρ, ς, M, at_, h⟩ => ?_⟩
    replace h : Post X.K X.mg (Rep X.K) ρ H ((f ς M).bind fun xs M1 => dspA t o xs M1) Q fun c d H' => W c d σ H' := h
    have hpn : H s.heap.objs.size = none := J.hok.fresh (Nat.le_refl _)
    have hs : (s.heap.objs.size == sysModules) = false := beq_eq_false_iff_ne.mpr (Ne.symm (Nat.ne_of_lt J.big))
    have nD : s.heap.objs.size ∉ ρ := fun z => at_.m.th _ z hpn
    -- what the pairs leave
    have left : ∀ u0 : HO, stab u0 = false → LA X.K X.mg W f σ (upd H s.heap.objs.size u0) (fun vs H1 => ∀ qs, altV qs = vs → ∃ xs M2 ρ2, Grow ρ (upd H s.heap.objs.size u0) ρ2 H1 ∧ s.heap.objs.size ∉ ρ2 ∧ H1 s.heap.objs.size = some u0 ∧ RepAll X.K ρ2 H1 xs (altV qs) ∧ RepM X.K ρ2 H1 M2 ∧
        Post X.K X.mg (Rep X.K) ρ H (dspA t o xs M2) Q fun c d H' => W c d σ H') := by
      intro u0 hu0
      have g : Grow ρ H ρ (upd H s.heap.objs.size u0) := Grow.laid hpn
      refine ⟨ρ, ς, M, ⟨at_.s.mono g, at_.m.laid hpn⟩, ?_⟩
      cases e : f ς M with
      | ok xs M2 =>
        rw [e] at h
        intro vs ρ2 H2 g2 r2 m2 qs eq
        subst eq
        have hD := g2.st _ u0 upd_same (.inl nD)
        refine ⟨xs, M2, ρ2, g2, ?_, hD, r2, m2, h⟩
        obtain ⟨t, rfl, ht⟩ := g2.ad
        intro z
        rcases List.mem_append.mp z with z | z
        · exact nD z
        · have := ht _ z
          rw [upd_same] at this
          cases this
      | exc x M2 =>
        rw [e] at h
        have h' : Post X.K X.mg (Rep X.K) ρ H (.exc x M2) Q fun c d H' => W c d σ H' := h
        exact fun c d ρ2 H2 g2 => h' c d ρ2 H2 (g.trans g2)
      | stuck =>
        rw [e] at h
        exact h
    cases t with
    | false =>
      have I1 := J.laid (a := s.heap.objs.size) (o := .dK []) (h' := s.heap.push { cls := .type "dict", data := .dict #[] }) (t' := s.toks) (fun _ _ q => Heap.get?_push_of_some _ q) (Nat.le_refl _) (L2.dk_empty s.heap J.big)
      refine wpAny_Dict_walk (knd := mixKind X.prog X.w) hall hl h0 h15 (thn (hp.run pins _ σ _ _ I1 (left (.dK []) rfl)) fun ws s2 ⟨qs, H2, I2, rel, xs, M2, ρ2, g2, n2, hD, r2, m2, po⟩ => ?_)
      unfold dspA at po
      split at po
      · rename_i ps e1
        split at po
        · rename_i hz
          split at po
          · rename_i kvs e2
            obtain ⟨ks, eq, a⟩ := put_S (pairA_rep r2 e1) (.nil : Paired (SRep X.K ρ2 H2) [] []) e2
            subst eq
            obtain ⟨rs, c, rk⟩ := L2.carries_of (P := X.prog) (w := X.w) rel
            obtain ⟨z, hd, vs0, r0, dd⟩ := L2.dk_of I2.hok hD
            cases r0
            refine ⟨rs, c, dd, fun h' dd' sb => ?_⟩
            have he : ∃ q, h'.get? s.heap.objs.size = some q := let ⟨q, _, _, hq, _⟩ := dd'; ⟨q, hq⟩
            have hm : (L2.mergeK [] ks).length ≤ sizeLine := by
              have h1 := L2.length_mergeK ks []
              have h2 := Paired.length (pairA_rep r2 e1)
              simp at h1 h2
              rw [sizeLine_eq]; omega
            exact ⟨.ref s.heap.objs.size, _, d_write I2 (by rw [hD]; exact trivial) sb he (L2.dk_new hm hd (rk.merge .nil) dd'), rfl, hR _ _ (finD_at g2 hpn rfl hD n2 m2 (.inr ⟨_, rfl, a⟩) po)⟩
          · exact False.elim po
        · exact False.elim po
      · exact False.elim po
    | true =>
      have I1 := J.laid (a := s.heap.objs.size) (o := .dK []) (h' := s.heap.push { cls := .type "dict", data := .dict #[] }) (t' := s.toks) (fun _ _ q => Heap.get?_push_of_some _ q) (Nat.le_refl _) (L2.dk_empty s.heap J.big)
      have hn := pairTrees_length keys values X.env pos hall hl
      rw [arm_eval_Dict, zip_pairTrees keys values X.env pos hall hl, dictDisplay_pairs (pairTrees keys values X.env pos) (fun e => h0 (by rw [e] at hn; exact List.length_eq_zero_iff.mp hn.symm)) (by omega)]
      refine wpAny_bind (wpAny_standAt (wpAny_bind (wpAny_subDictH (knd := nestedKind X.prog X.w) (by show X.A.units + 8 < cLine; have := C.units65; omega) (by omega) (thn (hp.run pins _ σ _ _ I1 (left _ rfl)) fun ws s2 ⟨qs, H2, I2, rel, xs, M2, ρ2, g2, n2, hD, r2, m2, po⟩ => ?_))))
      unfold dspA at po
      split at po
      · rename_i ps e1
        split at po
        · rename_i hz
          split at po
          · rename_i kvs e2
            obtain ⟨zs, cz, a, hlz⟩ := put_T I2 (pairA_rep r2 e1) rel (.nil : Paired (KRep X.K ρ2 H2) [] []) e2
            obtain ⟨xs0, dd, px⟩ := drd_T C.wp C.ww I2 (ρ := ρ2) (kvs := []) ⟨_, .inl hD, .inr ⟨[], rfl, .nil⟩⟩ rfl
            cases px
            refine ⟨zs, cz, dd, fun h' tk dd' sb => wpAny_pure ?_⟩
            obtain ⟨oo, es, ep, e5, e6, e7, e8, _, e9⟩ := dd'
            have ob2 : ObjOk X.prog X.w (upd H2 s.heap.objs.size (.ext (DctAt s.heap.objs.size (storedAllH [] zs)))) h' s.heap.objs.size (.ext (DctAt s.heap.objs.size (storedAllH [] zs))) := by
              refine ⟨⟨oo, es, ep, e5, e6, e7, by rw [C.wp, C.ww]; exact e8, e9⟩, ⟨oo, e5⟩, fun h1 h2 p st => ?_⟩
              obtain ⟨o, es, ep, q1, q2⟩ := p
              exact ⟨o, es, ep, st o q1, q2⟩
            have hm : kvs.length ≤ sizeLine := by
              have h1 := Paired.length a
              have h2 : (storedAllH ([] : List (NestedKey × Addr × Value)) zs).length ≤ zs.length := by
                have h3 : ∀ (zs acc : List (NestedKey × Addr × Value)), (storedAllH acc zs).length ≤ acc.length + zs.length := by
                  intro zs
                  induction zs with
                  | nil => intro acc; exact Nat.le_refl _
                  | cons z zs ih =>
                    intro acc
                    have h4 := ih (storedH acc z.1 z.2.1 z.2.2)
                    have h5 := storedH_length acc z.1 z.2.1 z.2.2
                    show (storedAllH (storedH acc z.1 z.2.1 z.2.2) zs).length ≤ _
                    simp only [List.length_cons]
                    omega
                simpa using h3 zs []
              rw [sizeLine_eq]; omega
            by_cases hk : kvs = []
            · subst hk
              cases hz : storedAllH [] zs with
              | cons _ _ => rw [hz] at a; cases a
              | nil =>
                rw [hz] at e8
                have e10 : es = #[] := Array.toList_inj.mp (by simpa using e8)
                subst e10
                have ob3 : ObjOk X.prog X.w (upd H2 s.heap.objs.size (.dK [])) h' s.heap.objs.size (.dK []) := ⟨Nat.zero_le _, hs, [], .nil, oo, #[], ep, e5, e6, e7, fun e he => absurd he (by simp), .nil, List.nodup_nil⟩
                exact ⟨.ref s.heap.objs.size, _, d_write I2 (by rw [hD]; exact trivial) sb ⟨oo, e5⟩ ob3, rfl, hR _ _ (finD_at g2 hpn rfl hD n2 m2 (.inr ⟨_, rfl, .nil⟩) po)⟩
            · exact ⟨.ref s.heap.objs.size, _, d_write I2 (by rw [hD]; exact trivial) sb ⟨oo, e5⟩ ob2, rfl, hR _ _ (finD_at g2 hpn rfl hD n2 m2 (.inl ⟨_, hk, rfl, hs, hm, a⟩) po)⟩
          · exact False.elim po
        · exact False.elim po
      · exact False.elim po
  exact pe_w (pe_fz core) fun σ H Q h => ⟨Q, fun _ _ z => z, h⟩
/-- d.m(e, ..) of a dict -/
theorem pe_bmD {o e : Expr} {es : List Expr} {name : Str} {id : String} {apos cpos : Pos} {r : V → List V → Hp → VK → Prop} {to : TE} {t : TA} (sl : Slot "dict" name id) (ty : typeOf (.builtin id) = pure (.type "method_descriptor")) (hm : MtR X id r) (ho : PE X o to) (ha : PA X (e :: es) t)
    (hb : baseB o = true) (hln : (apos.endLine == cpos.line) = true) (hf : es.length < 29) (hp : (e :: es).all plainB = true) :
    PE X (.Call (.Attribute o name apos) (e :: es) [] cpos) (fun σ H Q => to σ H fun x H1 => (∃ ρ kvs d, x = .ref d ∧ DRd X.K ρ H1 kvs d) ∧ t σ H1 fun xs H2 => r x xs H2 Q) := by
  have hp' := hp
  rw [List.all_cons, Bool.and_eq_true] at hp
  have few : ((backTo cpos (starEach (e :: es) X.env)).all (fun x => !x.1) && (backToKw cpos (keywordEach [] X.env)).all (fun x => x.1.isSome) && decide ((e :: es).length + ([] : List Keyword).length + (if ([] : List Keyword).isEmpty then 0 else 1) < 30)) = true := by
    rw [starAll _ _ _ hp']
    simp [keywordEach, backToKw]
    omega
  refine ⟨fun pins s σ H Q J h => wpAny_Call_method_late (base_ok hb) few hln rfl (thn (ho.run pins s σ H _ J h) fun v s1 ⟨x, H1, I1, r1, ⟨ρ, kvs, d, ex, dr⟩, q1⟩ => ?_)⟩
  subst ex
  cases r1
  obtain ⟨_, _, t1, t2⟩ := drd_obj I1 dr
  refine ⟨"dict", id, PySem.F.plainAttrs_dict, sl, ty, t1, t2, ?_⟩
  have hA := ha.run cpos pins s1 σ H1 _ I1 q1
  rw [star_plain hp.1] at hA ⊢
  exact Calls.callWith_builtin (show (false || (backTo cpos (starEach es X.env)).any (·.1)) = false by rw [starAny es _ cpos hp.2]; rfl) (Calls.evalArgs_plain (thn hA fun us s2 ⟨vs, H2, I2, r2, q2⟩ => hm pins s2 σ H2 (.ref d) vs (.ref d) us Q I2 rfl r2 q2))
end
end MP

/-! MP, part G2: a comprehension over a list's cell; dict(xs) of pairs whose keys are tuples -/
namespace MP
open PySem PySem.Spec PyProof.Rows L2
variable [WLD]
section
variable {X : Cx} {I : Inf} {P : Par} {W : WX} {k : Nat}
/-- what a comprehension over a cell walks -/
def iCellL (K : PySem.W.Frag) (t : TE) : TI := fun σ H R => t σ H fun x H1 => ∃ a xs, x = .ref a ∧ SqL K H1 a xs ∧ R (Itl K a) H1
theorem pi_cellL {e tg : Expr} {t : TE} (h : PE X e t) (hm : ∀ σ H Q Q', (∀ v H, Q v H → Q' v H) → t σ H Q → t σ H Q') : PI X tg e (iCellL X.K t) :=
  pi_w (pi_any h) fun σ H Q q => hm σ H _ _ (fun v H1 ⟨a, xs, e1, hq, r⟩ => .inl ⟨a, e1, ⟨xs, hq⟩, r⟩) q
theorem pe_lcCA {sc : Scope} (C : Ctx X I P W k) (hs : Sub sc X) {o : Bool} {vs : List Nat} {elt : E} {tg : Tg} {ifs : List E} {scope : Scope} {ev : MP.Loc → Mem → Out A}
    (hin : ∀ j ∈ tg.slots, j ∈ vs) :
    ∀ σ H Q, LE X.K X.mg W (fun ς M => (ev ς M).bind fun x M1 => match x with
        | .ref n => (lcCL (lcF P vs elt tg ifs ς) n P.wf 0 M1).noExc.bind fun ys M2 => finL o ys M2
        | _ => .stuck) σ H Q →
      tLc (iCellL X.K (LE X.K X.mg W ev)) (LG X.K tg) (LT X.K X.mg WX0 (evTs P ifs)) (LE X.K X.mg WX0 (evE P elt)) vs σ H (Fz Q) := by
  intro σ H Q ⟨ρ, ς, M, at_, h⟩
  refine ⟨ρ, ς, M, at_, le_bind at_ h fun x M1 ρ1 v H1 at1 g1 r1 h1 => ?_⟩
  cases r1 with
  | @ref a n hn =>
    have h1 : Post X.K X.mg (Rep X.K) ρ1 H1 ((lcCL (lcF P vs elt tg ifs ς) n P.wf 0 M1).noExc.bind fun ys M2 => finL o ys M2) Q (fun c d H' => W c d σ H') := h1
    have cell : ∀ {ρ' : List Addr} {H' : Hp} {M' : Mem} {ys : List A}, Grow ρ1 H1 ρ' H' → RepM X.K ρ' H' M' → M'[n]? = some (.lst ys) → ∃ ws, H' a = some (.lst ws) ∧ RepAll X.K ρ' H' ys ws := fun g m e => m.cell _ _ _ e (g.get hn)
    have first : ∃ ys, M1[n]? = some (.lst ys) := by
      revert h1
      cases P.wf with
      | zero => exact fun h => False.elim h
      | succ w =>
        unfold lcCL
        cases e : M1[n]? with
        | none => exact fun h => False.elim h
        | some c => cases c <;> first | exact fun _ => ⟨_, rfl⟩ | exact fun h => False.elim h
    obtain ⟨ys0, e0⟩ := first
    obtain ⟨ws0, hw0, _⟩ := cell (Grow.refl _ _) at1.m e0
    refine ⟨a, ws0, rfl, (SqX.of hw0).sq, ?_⟩
    intro D hD
    have start : RepM X.K ρ1 (upd H1 D (.lst [])) M1 := at1.m.laid hD
    have gD : Grow ρ1 H1 ρ1 (upd H1 D (.lst [])) := Grow.laid hD
    have nD1 : D ∉ ρ1 := fun z => at1.m.th D z hD
    refine ⟨fun i m H' => ∃ ρ' M' acc ws, Grow ρ1 H1 ρ' H' ∧ D ∉ ρ' ∧ H' D = some (.lst ws) ∧ RepAll X.K ρ' H' acc ws ∧ RepM X.K ρ' H' M' ∧
        Post X.K X.mg (Rep X.K) ρ1 H1 ((lcCL (lcF P vs elt tg ifs ς) n m i M').noExc.bind fun ys M2 => finL o (acc ++ ys) M2) Q (fun c d H' => W c d σ H'),
      ⟨P.wf, ρ1, M1, [], [], gD, nD1, upd_same, .nil, start, by simpa using h1⟩, ?_⟩
    rintro i m H' ⟨ρ', M', acc, ws, g, nD, hDw, ra, rm, po⟩
    cases m with
    | zero => exact False.elim po
    | succ m =>
      unfold lcCL at po
      cases e : M'[n]? with
      | none => rw [e] at po; exact False.elim po
      | some c =>
        rw [e] at po
        cases c with
        | lst ys =>
          obtain ⟨us, hw, rr⟩ := cell g rm e
          have sq : SqL X.K H' a us := (SqX.of hw).sq
          simp only at po
          cases ex : ys[i]? with
          | none =>
            rw [ex] at po
            have hl : us.length ≤ i := by
              rw [← rr.length]
              exact List.getElem?_eq_none_iff.mp ex
            refine .inl ⟨⟨us, sq, hl⟩, ?_⟩
            have po' : Post X.K X.mg (Rep X.K) ρ1 H1 (finL o acc M') Q (fun c d H' => W c d σ H') := by simpa using po
            exact fin_at g hD hDw nD ra rm po'
          | some x =>
            rw [ex] at po
            obtain ⟨v, hv, rv⟩ := rr.get ex
            have po' : Post X.K X.mg (Rep X.K) ρ1 H1 ((lcF P vs elt tg ifs ς x M').noExc.bind fun r M1 => (lcCL (lcF P vs elt tg ifs ς) n m (i + 1) M1).noExc.bind fun ys M2 => finL o (acc ++ (match r with | some y => y :: ys | none => ys)) M2) Q (fun c d H' => W c d σ H') := by
              have e : (((lcF P vs elt tg ifs ς x M').bind fun r M1 => (lcCL (lcF P vs elt tg ifs ς) n m (i + 1) M1).bind fun ys M2 => (.ok (match r with | some y => y :: ys | none => ys) M2 : Out (List A))).noExc.bind fun ys M2 => finL o (acc ++ ys) M2) = ((lcF P vs elt tg ifs ς x M').noExc.bind fun r M1 => (lcCL (lcF P vs elt tg ifs ς) n m (i + 1) M1).noExc.bind fun ys M2 => finL o (acc ++ (match r with | some y => y :: ys | none => ys)) M2) := by
                cases lcF P vs elt tg ifs ς x M' with
                | ok r M1 =>
                  simp only [Out.bind_ok, Out.noExc_ok]
                  cases lcCL (lcF P vs elt tg ifs ς) n m (i + 1) M1 <;> rfl
                | exc _ _ => rfl
                | stuck => rfl
              rw [← e]; exact po
            refine .inr ⟨⟨us, v, sq, hv⟩, fun H4 => ∃ ρ' M' acc ws, Grow ρ1 H1 ρ' H4 ∧ D ∉ ρ' ∧ H4 D = some (.lst ws) ∧ RepAll X.K ρ' H4 acc ws ∧ RepM X.K ρ' H4 M' ∧
              Post X.K X.mg (Rep X.K) ρ1 H1 ((lcCL (lcF P vs elt tg ifs ς) n m (i + 1) M').noExc.bind fun ys M2 => finL o (acc ++ ys) M2) Q (fun c d H' => W c d σ H'),
              fun H4 q => ⟨m, Nat.lt_succ_self _, q⟩, fun u H2 hy => ?_⟩
            obtain ⟨rfl, hz⟩ := hy
            have hz' := hz us sq
            rw [hv] at hz'
            cases hz'
            have at2 : At X.K ρ' H2 (wipeA ς vs) (wipe σ vs) M' := ⟨(at1.s.mono g).wipe vs, rm⟩
            cases hb : bindT tg x (wipeA ς vs) with
            | none =>
              unfold lcF at po'
              rw [hb] at po'
              exact False.elim po'
            | some ς2 =>
              refine ⟨ρ', _, M', x, at2, rv, ς2, hb, fun σ2 hs2 hj2 => ⟨?_, ?_⟩⟩
              · refine wipe_same ?_ hin hj2
                rw [← hs2.1]
                have : ς2.length = (wipeA ς vs).length := pe_lcA.bindT_len hb
                rw [this, (at2.s).1, wipe_length]
              · have e : lcF P vs elt tg ifs ς x M' = (evTs P ifs ς2 M').bind fun b M3 => if b = true then (evE P elt ς2 M3).bind fun y M4 => .ok (some y) M4 else .ok none M3 := by
                  unfold lcF; rw [hb]
                rw [e, noExc_bind] at po'
                have po2 : Post X.K X.mg (Rep X.K) ρ1 H1 ((evTs P ifs ς2 M').noExc.bind fun b M3 => ((if b = true then (evE P elt ς2 M3).bind fun y M4 => .ok (some y) M4 else .ok none M3 : Out (Option A)).noExc.bind fun r M1 => (lcCL (lcF P vs elt tg ifs ς) n m (i + 1) M1).noExc.bind fun ys M2 => finL o (acc ++ (match r with | some y => y :: ys | none => ys)) M2)) Q (fun c d H' => W c d σ H') := by
                  revert po'
                  cases evTs P ifs ς2 M' <;> exact fun h => h
                refine ⟨ρ', ς2, M', ⟨hs2, rm⟩, (Post.bindB g po2).imp (fun b H3 ⟨b', M3, ρ3, g3, eb, rm3, po3⟩ => ?_) fun _ _ _ z => z⟩
                subst eb
                have g13 := g.trans g3
                have hD3 : H3 D = some (.lst ws) := g3.st D _ hDw (.inl nD)
                have nD3 : D ∉ ρ3 := by
                  obtain ⟨t, rfl, ht⟩ := g3.ad
                  intro hm
                  rcases List.mem_append.mp hm with z | z
                  · exact nD z
                  · rw [ht D z] at hDw; cases hDw
                have ra3 := ra.mono g3
                cases b' with
                | false =>
                  rw [if_neg (by decide)] at po3
                  rw [if_neg (by decide)]
                  exact ⟨ρ3, M3, acc, ws, g13, nD3, hD3, ra3, rm3, po3⟩
                | true =>
                  rw [if_pos rfl] at po3
                  rw [if_pos rfl]
                  rw [noExc_bind] at po3
                  have po4 : Post X.K X.mg (Rep X.K) ρ1 H1 ((evE P elt ς2 M3).noExc.bind fun y M4 => (lcCL (lcF P vs elt tg ifs ς) n m (i + 1) M4).noExc.bind fun ys M2 => finL o (acc ++ (y :: ys)) M2) Q (fun c d H' => W c d σ H') := by
                    revert po3
                    cases evE P elt ς2 M3 <;> exact fun h => h
                  refine ⟨ρ3, ς2, M3, ⟨hs2.mono g3, rm3⟩, (Post.bindB g13 po4).imp (fun y H4 ⟨b, M4, ρ4, g4, r4, rm4, po5⟩ => ?_) fun _ _ _ z => z⟩
                  have hD4 : H4 D = some (.lst ws) := g4.st D _ hD3 (.inl nD3)
                  have nD4 : D ∉ ρ4 := by
                    obtain ⟨t, rfl, ht⟩ := g4.ad
                    intro hm
                    rcases List.mem_append.mp hm with z | z
                    · exact nD3 z
                    · rw [ht D z] at hD3; cases hD3
                  have ra4 := ra3.mono g4
                  have po6 : Post X.K X.mg (Rep X.K) ρ1 H1 ((lcCL (lcF P vs elt tg ifs ς) n m (i + 1) M4).noExc.bind fun ys M2 => finL o ((acc ++ [b]) ++ ys) M2) Q (fun c d H' => W c d σ H') := by
                    simpa using po5
                  have hz : acc.length < sizeLine := by
                    revert po5
                    cases lcCL (lcF P vs elt tg ifs ς) n m (i + 1) M4 with
                    | ok ys M2 =>
                      intro h
                      have h' : Post X.K X.mg (Rep X.K) ρ1 H1 (finL o (acc ++ (b :: ys)) M2) Q (fun c d H' => W c d σ H') := h
                      unfold finL at h'
                      split at h'
                      · rename_i hz
                        simp at hz
                        omega
                      · exact False.elim h'
                    | exc _ _ => exact fun h => False.elim h
                    | stuck => exact fun h => False.elim h
                  obtain ⟨m5, keep⟩ := rm4.other (u := .lst (ws ++ [y])) nD4 hD4 rfl
                  have hl := ra4.length
                  refine ⟨ws, hD4, by omega, ρ4, M4, acc ++ [b], ws ++ [y], ?_, nD4, upd_same, ?_, m5, po6⟩
                  · have g14 := g13.trans g4
                    exact ⟨g14.ad, fun c u hb hs => by
                      rw [upd_ne (ne_of_none hb hD)]
                      exact g14.st c u hb hs, fun c hb => by
                      by_cases e : c = D
                      · subst e; exact absurd hD hb
                      · rw [upd_ne e]; exact g14.th c hb⟩
                  · exact (fin_at.reps_map (fun r => keep r) ra4).append (.cons (keep r4) .nil)
        | _ => exact False.elim po
  | _ => exact False.elim h1
end
end MP

/-! MP, part G3: dict(xs) of pairs whose keys are tuples -/
namespace MP
open PySem PySem.Spec PyProof.Rows L2
variable [WLD]
section
variable {X : Cx} {pins : List (Addr × Obj)} {σ : L2.St} {H : Hp} {s : Shared} {ρ : List Addr}
/-- a list's pairs, as they lie -/
theorem prs_at (I : Inv X pins σ H s) : ∀ {xs : List A} {ws : List V} {its : List Value} {ps : List (A × A)}, RepAll X.K ρ H xs ws → Vals ws its → prsA xs = some ps →
    ∃ (qs : List (V × V)) (zs : List (Value × Value)) (Ts : List Addr), its = Ts.map Value.ref ∧ Paired (fun (p : A × A) (q : V × V) => Rep X.K ρ H p.1 q.1 ∧ Rep X.K ρ H p.2 q.2) ps qs ∧ L2.VV qs zs ∧ Ts.length = zs.length ∧ zs.length = xs.length ∧ ∀ (j : Nat) (k v : Value), zs[j]? = some (k, v) → ∃ T, Ts[j]? = some T ∧ PySem.PairAt s.heap T k v
  | [], _, _, _, r, v, e => by
    cases r
    cases v
    cases e
    exact ⟨[], [], [], rfl, .nil, .nil, rfl, rfl, fun j k v h => by simp at h⟩
  | x :: xs, _, _, ps, r, v, e => by
    cases r with
    | cons r1 r2 =>
      cases v with
      | cons v1 v2 =>
        simp only [prsA] at e
        split at e
        · rename_i a b
          rw [Option.map_eq_some_iff] at e
          obtain ⟨ps', e1, rfl⟩ := e
          obtain ⟨qs, zs, Ts, h1, h2, h3, h4, h5, h6⟩ := prs_at I r2 v2 e1
          cases r1 with
          | @tup p _ vs s1 rr =>
            cases v1
            obtain ⟨its, rv, ht⟩ := tu_of I s1
            cases rr with
            | @cons _ va _ _ ra rr =>
              cases rr with
              | @cons _ vb _ _ rb rr =>
                cases rr
                obtain ⟨u, y, ei, ru, ry⟩ := vals2 rv
                subst ei
                refine ⟨(va, vb) :: qs, (u, y) :: zs, p :: Ts, by simp [h1], .cons ⟨ra, rb⟩ h2, .cons ⟨ru, ry⟩ h3, by simp [h4], by simp [h5], fun j k v e => ?_⟩
                cases j with
                | zero =>
                  simp only [List.getElem?_cons_zero, Option.some.injEq, Prod.mk.injEq] at e
                  obtain ⟨rfl, rfl⟩ := e
                  exact ⟨p, rfl, .inl ht⟩
                | succ j =>
                  obtain ⟨T, e1, e2⟩ := h6 j k v (by simpa using e)
                  exact ⟨T, by simpa using e1, e2⟩
        · cases e
theorem carries_have {prog : Program} {w : World} {h : Heap} : ∀ {ws : List (Value × Value)} {zs : List (NestedKey × Addr × Value)}, CarriesH (nestedKind prog w) h ws zs → zs.length = ws.length ∧ (∀ (i : Nat) (key v : Value), ws[i]? = some (key, v) → ∃ (k : NestedKey) (b : Addr), zs[i]? = some (k, b, v) ∧ key = .ref b) ∧ ∀ z ∈ zs, (nestedKind prog w).is h z.1 z.2.1
  | [], [], _ => ⟨rfl, fun i key v e => by simp at e, fun z hz => by cases hz⟩
  | (key, v) :: ws, (k, a, v') :: zs, c => by
    obtain ⟨rfl, rfl, c1, c2⟩ := c
    obtain ⟨h1, h2, h3⟩ := carries_have c2
    refine ⟨by simp [h1], fun i key v e => ?_, fun z hz => ?_⟩
    · cases i with
      | zero =>
        simp only [List.getElem?_cons_zero, Option.some.injEq, Prod.mk.injEq] at e
        obtain ⟨rfl, rfl⟩ := e
        exact ⟨k, a, rfl, rfl⟩
      | succ i =>
        obtain ⟨k', b, e1, e2⟩ := h2 i key v (by simpa using e)
        exact ⟨k', b, by simpa using e1, e2⟩
    · rcases List.mem_cons.mp hz with rfl | hz
      · exact c1
      · exact h3 z hz
  | [], _ :: _, c => c.elim
  | _ :: _, [], c => c.elim
theorem stored_len : ∀ (zs acc : List (NestedKey × Addr × Value)), (storedAllH acc zs).length ≤ acc.length + zs.length := by
  intro zs
  induction zs with
  | nil => intro acc; exact Nat.le_refl _
  | cons z zs ih =>
    intro acc
    have h4 := ih (storedH acc z.1 z.2.1 z.2.2)
    have h5 := storedH_length acc z.1 z.2.1 z.2.2
    show (storedAllH (storedH acc z.1 z.2.1 z.2.2) zs).length ≤ _
    simp only [List.length_cons]
    omega
end
section
variable {X : Cx}
def rDctOf (K : PySem.W.Frag) : List V → Hp → VK → Prop := fun vs H Q => ∃ ρ l xs ws ps kvs, vs = [.ref l] ∧ SqX K H l ws ∧ RepAll K ρ H xs ws ∧ prsA xs = some ps ∧ putAll true [] ps = some kvs ∧
  ∀ p zs, H p = none → (p == sysModules) = false → kvs.length ≤ sizeLine → Paired (KRep K ρ H) kvs zs → Q (.ref p) (upd H p (.ext (DctAt p zs)))
theorem call_dctOf (hP : WLD.P = X.prog) (hw : WLD.w = X.w) (hc : X.calm = true) (hu : X.A.units + 64 < cLine) : CallR X (.type "dict") (rDctOf X.K) := by
  intro pins s σ H vs us Q I r h
  obtain ⟨ρ, l, xs, ws, ps, kvs, rfl, hl, ra, e1, e2, q⟩ := h
  obtain ⟨u, rfl, ru⟩ := vals1 r
  cases ru
  obtain ⟨its, n, rv, ho, hz⟩ := MP.Inv.listX I hl
  obtain ⟨qs, zs, Ts, rfl, h2, h3, h4, h5, h6⟩ := prs_at I ra rv e1
  obtain ⟨ks, cz, a, hlz⟩ := put_T I h2 h3 (.nil : Paired (KRep X.K ρ H) [] []) e2
  obtain ⟨c1, c2, c3⟩ := carries_have cz
  have hsz : zs.length ≤ sizeLine := by
    rw [h5, ra.length]
    exact hz
  have hm : kvs.length ≤ sizeLine := by
    have q1 := Paired.length a
    have q2 := stored_len ks []
    simp only [List.length_nil, Nat.zero_add] at q2
    omega
  have hs : (s.heap.objs.size == sysModules) = false := beq_eq_false_iff_ne.mpr (Ne.symm (Nat.ne_of_lt I.big))
  refine call_dict_pairsH (knd := nestedKind X.prog X.w) (PairArg.list l (Ts.map Value.ref).toArray (fun j => Ts.getD j 0) zs) (I.ok.hd hc) (by show _ + 8 < cLine; have : X.A.in1.in1.units = X.A.units + 2 := rfl; omega)
    ⟨⟨_, n, ho, rfl, rfl, rfl⟩, by simp [h4], fun j k v e => ?_⟩ ⟨c1, c2⟩ (fun h' hk x hx => nestedKind_stays.stays (fun b o vs m e _ => hk b o (Nat.ne_of_lt (Heap.lt_size e)) (fun z => nomatch z) e) (c3 x hx)) hsz fun h' tk dd' hk => ?_
  · obtain ⟨T, e1, e2⟩ := h6 j k v e
    refine ⟨by simp [e1], ?_⟩
    show PySem.PairAt s.heap (Ts.getD j 0) k v
    rw [List.getD_eq_getElem?_getD, e1]
    exact e2
  · have hk' : ∀ b o, s.heap.get? b = some o → h'.get? b = some o := fun b o e => hk b o (fun z => nomatch z) e
    obtain ⟨oo, es, ep, e5, e6, e7, e8, _, e9⟩ := dd'
    refine ⟨.ref s.heap.objs.size, upd H s.heap.objs.size (.ext (DctAt s.heap.objs.size (storedAllH [] ks))), I.laid (t' := tk) hk' (Nat.le_refl _) ?_, rfl, q _ _ (I.hok.fresh (Nat.le_refl _)) hs hm a⟩
    refine ⟨⟨oo, es, ep, e5, e6, e7, by rw [hP, hw]; exact e8, e9⟩, ⟨oo, e5⟩, fun h1 h2 p st => ?_⟩
    obtain ⟨o, es, ep, q1, q2⟩ := p
    exact ⟨o, es, ep, st o q1, q2⟩
variable {mg : Str → Option Value} {E : Value → Option Addr → Hp → Prop}
/-- what comes of it -/
theorem dctOf_w {K : PySem.W.Frag} {ρ : List Addr} {H : Hp} {M : Mem} {o : Bool} {a : A} {v : V} {Q : VK} (m : RepM K ρ H M) (r : Rep K ρ H a v) (h : Post K mg (Rep K) ρ H (dctOfA o a M) Q E) : rDctOf K [v] H (Fz Q) := by
  unfold dctOfA at h
  split at h
  · rename_i xs ea
    split at h
    · rename_i ps ep
      split at h
      · rename_i hne
        split at h
        · rename_i kvs ek
          obtain ⟨l, ws, rfl, sq, rr⟩ := r.asL m ea
          refine ⟨ρ, l, xs, ws, ps, kvs, rfl, sq, rr, ep, ek, fun p zs hp hs hm pz => ?_⟩
          have nD : p ∉ ρ := fun z => m.th p z hp
          have hk0 : kvs ≠ [] := by
            intro e
            subst e
            have hlen : ∀ (ps : List (A × A)) (acc res : List (A × A)), putAll true acc ps = some res → acc ≠ [] ∨ ps ≠ [] → res ≠ [] := by
              intro ps
              induction ps with
              | nil =>
                intro acc res e hz
                cases e
                exact hz.resolve_right fun z => z rfl
              | cons q ps ih =>
                intro acc res e _
                obtain ⟨k, v⟩ := q
                simp only [putAll, if_true] at e
                cases hk : tkey k with
                | none => simp [hk] at e
                | some nk =>
                  simp only [hk] at e
                  refine ih _ _ e (.inl ?_)
                  unfold putD
                  split
                  · rename_i hh
                    intro z
                    rw [List.map_eq_nil_iff] at z
                    subst z
                    simp [hasKey] at hh
                  · simp
            refine hlen ps [] [] ek (.inr ?_) rfl
            intro z
            subst z
            simp at hne
          have g : Grow ρ H ρ (upd H p (.dK [])) := Grow.laid hp
          have d : DD K ρ (upd H p (.dK [])) kvs p (.ext (DctAt p zs)) := .inl ⟨zs, hk0, rfl, hs, hm, L2.Paired.mapP pz fun _ _ z => z.map fun {x v} r => Rep.mono g r⟩
          have := finD_at (K := K) (mg := mg) (H0 := H) (D := p) (u0 := .dK []) (u := .ext (DctAt p zs)) (Grow.refl _ _) hp rfl upd_same nD (m.laid hp) d h
          rwa [upd_upd] at this
        · exact False.elim h
      · exact False.elim h
    · exact False.elim h
  · exact False.elim h
end
end MP

/-! MP, part G4: a tuple turned round by a slice -/
namespace MP
open PySem PySem.Spec PyProof.Rows L2
section
variable {prog : Program} {w : World} {A : Around} {E : Value → Shared → Prop} {s : Shared}
/-- where a slice of step -1 over the whole begins, and how far it goes -/
theorem back_bounds (n : Nat) : Builtin.Slice.sliceAdjust none none (-1) (n : Int) = ((n : Int) - 1, -1) ∧ Builtin.Slice.slicePlaces ((n : Int) - 1) (-1) (-1) = n := by
  constructor
  · rfl
  · unfold Builtin.Slice.slicePlaces
    have h1 : ¬ ((-1 : Int) > 0) := by decide
    rw [if_neg h1]
    by_cases h2 : (n : Int) - 1 > -1
    · rw [if_pos h2]
      have : ((n : Int) - 1 - -1 - 1) / (- -1) + 1 = (n : Int) := by
        have e : (- -1 : Int) = 1 := by decide
        rw [e, Int.ediv_one]
        omega
      rw [this]
      rfl
    · rw [if_neg h2]
      have : n = 0 := by omega
      subst this
      rfl
/-- what is picked -/
theorem back_pick {α : Type} (xs : Array α) : ((List.range xs.size).filterMap fun (m : Nat) => xs[(((xs.size : Int) - 1) + (m : Int) * (-1)).toNat]?) = xs.toList.reverse := by
  have hf : ∀ l : List Nat, (∀ m ∈ l, m < xs.size) → (l.filterMap fun (m : Nat) => xs[(((xs.size : Int) - 1) + (m : Int) * (-1)).toNat]?) = l.filterMap fun m => xs[xs.size - 1 - m]? := by
    intro l
    induction l with
    | nil => intro _; rfl
    | cons m l ih =>
      intro hl
      have hm := hl m List.mem_cons_self
      have : (((xs.size : Int) - 1) + (m : Int) * (-1)).toNat = xs.size - 1 - m := by omega
      rw [List.filterMap_cons, List.filterMap_cons, this, ih fun k hk => hl k (List.mem_cons_of_mem _ hk)]
  rw [hf _ fun m hm => List.mem_range.mp hm]
  have e : (List.range xs.size).filterMap (fun m => xs[xs.size - 1 - m]?) = xs.toList.reverse := by
    have h := PySem.W.krv_range xs.size
    have h2 : (List.range xs.size).filterMap (fun m => xs[xs.size - 1 - m]?) = ((List.range xs.size).map fun k => xs.size - 1 - k).filterMap (xs[·]?) := by
      rw [List.filterMap_map]
      rfl
    rw [h2, h, List.filterMap_reverse, PySem.W.krv_all]
  exact e
theorem back_applied {sl : Addr} {u : Tok} {n : Nat} {Q : Int × Int × Nat → Shared → Prop} (hs : s.heap.IsSliceOf sl .none .none (.int (-1) u)) (h : Q ((n : Int) - 1, -1, n) s) : wpAny (model prog w) A (Builtin.Slice.sliceApplied (.ref sl) (pure (n : Int))) Q E s := by
  obtain ⟨o, ho, _, hd⟩ := hs
  unfold Builtin.Slice.sliceApplied Builtin.Slice.sliceFields
  refine wpAny_bind (wpAny_bind (wpAny_field ho hd (x := .none) rfl (wpAny_bind (wpAny_field ho hd (x := .none) rfl (wpAny_bind (wpAny_field ho hd (x := .int (-1) u) rfl (wpAny_pure ?_)))))))
  refine wpAny_bind (slicePart_int ?_)
  show wpAny _ _ (if ((-1 : Int) == 0) = true then _ else _) _ _ s
  rw [if_neg (by decide)]
  refine wpAny_bind (slicePart_none (wpAny_bind (slicePart_none (wpAny_bind (wpAny_pure ?_)))))
  obtain ⟨b1, b2⟩ := back_bounds n
  show wpAny _ _ (match Builtin.Slice.sliceAdjust none none (-1) (n : Int) with | (lo, hi) => pure (lo, (-1 : Int), Builtin.Slice.slicePlaces lo hi (-1))) _ _ s
  rw [b1]
  show wpAny _ _ (pure ((n : Int) - 1, (-1 : Int), Builtin.Slice.slicePlaces ((n : Int) - 1) (-1) (-1))) _ _ s
  rw [b2]
  exact wpAny_pure h
theorem back_item {t sl : Addr} {items : Array Value} {u : Tok} {Q : Value → Shared → Prop} (ht : IsTup s.heap t items) (hs : s.heap.IsSliceOf sl .none .none (.int (-1) u)) (hz : items.size ≤ sizeLine)
    (h : Q (.ref s.heap.objs.size) { s with heap := s.heap.push { cls := .type "tuple", data := .seq items.toList.reverse.toArray } }) : wpAny (model prog w) A (getItem (.ref t) (.ref sl)) Q E s := by
  have hok : sizeOk (.seq items.toList.reverse.toArray) := by
    show items.toList.reverse.toArray.size ≤ sizeLine
    simpa using hz
  have hT : s.TypeIs (.ref sl) "slice" := let ⟨o, ho, hc, _⟩ := hs; ⟨o, ho, hc⟩
  unfold getItem
  try with_reducible refine wpAny_holding ?_
  first | refine wpAny_bind (wpAny_pure ?_) | skip
  refine wpAny_bind (wpAny_sequenceKey ht.typeIs (by decide) ?_)
  refine wpAny_bind (wpAny_callSpecial?_slot (name := Str.ofString "__getitem__") ht.typeIs PyProof.Rows.slot_tuple_getitem (wpAny_call_entry PyProof.Rows.slot_tuple_getitem ht.typeIs entry_tuple_getitem ?_ (args_tuple_getitem _ _)))
  show wpAny _ _ (Builtin.Tuple.tupleItemsOf (.ref t) >>= _) _ _ s
  refine wpAny_bind (tupleItemsOf_ ht (wpAny_bind (wpAny_typeOf hT ?_)))
  rw [if_pos (by decide)]
  refine wpAny_bind (back_applied hs ?_)
  have hno : ¬ ((((items.size : Int) - 1) == 0 && (-1 : Int) == 1 && items.size == items.size) = true) := by
    intro q
    rw [Bool.and_eq_true, Bool.and_eq_true] at q
    exact absurd q.1.2 (by decide)
  show wpAny _ _ (if (((items.size : Int) - 1) == 0 && (-1 : Int) == 1 && items.size == items.size) = true then _ else _) _ _ s
  rw [if_neg hno, back_pick]
  first
    | exact wpAny_bind (m := Builtin.Tuple.tupleExact _) (wpAny_newObj_type (wpAny_pure ⟨_, rfl, wpAny_pure h⟩) hok)
    | exact wpAny_bind (m := Builtin.Tuple.tupleExact _) (wpAny_newObj_type (wpAny_bind (wpAny_pure (wpAny_pure ⟨_, rfl, wpAny_pure h⟩))) hok)
    | exact wpAny_bind (wpAny_bind (m := Builtin.Tuple.tupleExact _) (wpAny_newObj_type (wpAny_pure (wpAny_pure ⟨_, rfl, wpAny_pure h⟩)) hok))
    | exact wpAny_bind (wpAny_bind (m := Builtin.Tuple.tupleExact _) (wpAny_newObj_type (wpAny_pure ⟨_, rfl, wpAny_pure h⟩) hok))
end
section
variable {X : Cx}
/-- t[::-1] -/
def tRevT (K : PySem.W.Frag) (te : TE) : TE := fun σ H Q => te σ H fun x H1 => ∃ a xs, x = .ref a ∧ SqT K H1 a xs ∧ ∀ p, H1 p = none → Q (.ref p) (upd H1 p (.tup xs.reverse))
theorem pe_revT {e : Expr} {te : TE} {k : Nat} {p1 p2 p3 pos : Pos} (he : PE X e te) : PE X (.Subscript e (.Slice none none (some (.UnaryOp .USub (.Constant (.int 1) k p1) p2)) p3) pos) (tRevT X.K te) := by
  refine ⟨fun pins s σ H Q I h => ?_⟩
  refine Subscript_ (thn (he.run pins s σ H _ I h) fun v s1 ⟨x, H1, I1, r1, a, xs, ex, hx, q⟩ => ?_)
  subst ex
  cases r1
  refine wpAny_Slice ?_
  rw [evalPart_none]
  refine wpAny_pure (wpAny_pure ?_)
  have hst : PO X (some (.UnaryOp .USub (.Constant (.int 1) k p1) p2)) (tPart (tUn (rU fun i => .int (-i)) (tC (.int 1)))) := po_some (pe_un un_neg pe_int)
  refine thn (hst.run pins s1 σ H1 (fun o H4 => o = some (-1) ∧ H4 = H1) I1 ⟨1, rfl, -1, rfl, rfl, rfl⟩) fun vs s4 ⟨o, H4, I4, ps, eo, e4⟩ => ?_
  subst eo e4
  cases ps with
  | int _ t =>
    have I5 : Inv X pins σ H4 { s4 with heap := s4.heap.push { cls := .type "slice", data := .fields #[.none, .none, .int (-1) t] } } := I4.kept (t' := s4.toks) fun b ob q => Heap.get?_push_of_some _ q
    obtain ⟨its, r, ht, hz⟩ := I5.tuple hx
    have hlen := r.length
    show wpAny (model X.prog X.w) X.A (subscriptTail e (.Slice none none (some (.UnaryOp .USub (.Constant (.int 1) k p1) p2)) p3) (.ref a) (.ref s4.heap.objs.size)) (EP X pins σ Q) X.xe { s4 with heap := s4.heap.push { cls := .type "slice", data := .fields #[.none, .none, .int (-1) t] } }
    refine tail_any (ops := [.ref a, .ref s4.heap.objs.size]) ht.typeIs (PyProof.Rows.slot_tuple_getitem.lookup) ?_ (by with_unfolding_all rfl)
    refine back_item ht (Heap.IsSliceOf.new _ _ _ _) (by rw [List.size_toArray, ← hlen]; exact hz) ?_
    refine ⟨.ref _, _, I5.laid (t' := s4.toks) (o := .tup xs.reverse) (fun b ob q => Heap.get?_push_of_some _ q) (Nat.le_refl _) ?_, rfl, q _ (I5.hok.fresh (Nat.le_refl _))⟩
    exact ⟨by rw [List.length_reverse]; exact hz, _, r.reverse, IsTup.new _ _⟩
end
end MP

/-! MP, part R: one theorem for the loop of any comprehension's block, at any of its clauses -/
namespace MP
open PySem PySem.Spec PyProof.Rows L2
/-- the slots σ' know what σ0 knows -/
def Knows (σ0 σ' : L2.St) : Prop := σ0.length = σ'.length ∧ ∀ (j : Nat) v, σ0[j]? = some (some v) → σ'[j]? = some (some v)
/-- C: the comprehension; L: its clause; rest: what stands behind the clause's tests; B: what the rest is owed -/
theorem loopC {Y : Cx} {C : Expr} {L : Nat} {it : Addr} {fp : List Addr} {tn : Nat → Heap → Prop} {J : L2.It} {acc : Value} {p : Pos} {tg : Expr} {ifs : List Expr} {rest : Bool → Sem Fin} {g : TG} {tt : TT} {σ0 : L2.St} {pins : List (Addr × Obj)} {R : Result → Shared → Prop}
    {End : Hp → Prop} {B : Bool → L2.St → Hp → (Hp → Prop) → Prop} {s : Shared} {H : Hp} {W : Nat → Nat → Hp → Prop} {m0 : Nat}
    (hxe : Y.xe = fun _ _ => False) (hc : Y.calm = true)
    (hden : ∀ (Q : Fin → Shared → Prop) (E : Value → Shared → Prop) (s : Shared), wpAny (model Y.prog Y.w) Y.A ((compTurn C L (.ref it) acc Y.env).onRaise (fun x => do noteFrame x Y.env; theTreesLotGoes x)) Q E s →
      wpAny (model Y.prog Y.w) (Y.A.under (.compLoop C L (.ref it) acc Y.env)) ((model Y.prog Y.w).den (.compLoop C L (.ref it) acc Y.env)) Q E s)
    (eq : compTurn C L (.ref it) acc Y.env = (do
      standAt p
      match ← pyNext (.ref it) with
      | none => pure (.done .next)
      | some v =>
        letOwnedTupleGo tg (.ref it) v
        assign tg Y.env v
        let mut ok := true
        for c in ifs do
          if ok then ok ← isTrue c Y.env (eval c Y.env)
        rest ok))
    (T : Turn Y.prog Y.w Y.K tg J fp it tn) (pg : PG Y tg g) (pt : PTs Y ifs tt)
    (hfp : ∀ {σ' H' s'}, Inv Y pins σ' H' s' → (∀ b ∈ fp, H' b = none) → ∀ b ∈ fp, FpOk Y pins H' b)
    (turn : ∀ i m H, W i m H → (J.stop i H ∧ End H) ∨ (J.go i H ∧ ∃ Nx : Hp → Prop, (∀ H', Nx H' → ∃ m', m' < m ∧ W (i + 1) m' H') ∧ ∀ x H', J.yld i H x H' → g x σ0 H' fun σ2 H2 => Knows σ0 σ2 ∧ tt σ2 H2 fun b H3 => B b σ2 H3 Nx))
    (hend : ∀ H' s', Inv Y pins σ0 H' s' → (∀ b ∈ fp, H' b = none) → End H' → R (.ok .next) s')
    (hrest : ∀ (b : Bool) (σ2 : L2.St) (H3 : Hp) (Nx : Hp → Prop) (pl : List (Addr × Obj)) (s9 : Shared), Knows σ0 σ2 → Inv Y (pins ++ pl) σ2 H3 s9 → B b σ2 H3 Nx →
      wpAny (model Y.prog Y.w) Y.A (rest b) (fun f s' => f = .again (.compLoop C L (.ref it) acc Y.env) ∧ ∃ σ' H', Inv Y (pins ++ pl) σ' H' s' ∧ Knows σ0 σ' ∧ Nx H') (fun _ _ => False) s9)
    (I0 : Inv Y pins σ0 H s) (st0 : tn 0 s.heap) (n0 : ∀ b ∈ fp, H b = none) (w0 : W 0 m0 H) :
    codeAny (model Y.prog Y.w) Y.A (.compLoop C L (.ref it) acc Y.env) R s := by
  refine codeAny_loop rfl (fun n s' => ∃ i H', Inv Y pins σ0 H' s' ∧ tn i s'.heap ∧ (∀ b ∈ fp, H' b = none) ∧ W i n H') ?_ m0 ⟨0, H, I0, st0, n0, w0⟩
  rintro n s5 ⟨i, H5, I5, st5, n5, w5⟩
  refine hden _ _ _ (wpAny_noted ?_)
  rw [eq]
  refine wpAny_bind (wpAny_standAt (wpAny_bind ?_))
  rcases turn i n H5 w5 with ⟨stop, en⟩ | ⟨go, Nx, hNx, step⟩
  · refine thnF (T.done Y rfl rfl rfl hc i pins s5 σ0 H5 (fun _ _ => False) I5 (hfp I5 n5) st5 stop) fun r s6 ⟨hr, I6⟩ => ?_
    subst hr
    exact wpAny_pure (hend H5 s6 I6 n5 en)
  · refine thnF (T.item Y rfl rfl rfl hc i pins s5 σ0 H5 (fun _ _ => False) I5 (hfp I5 n5) st5 go) fun r s6 ⟨u, hr, h6⟩ => ?_
    subst hr
    refine wpAny_bind (thnF h6 fun _ s7 ⟨x, H7, I7, r7, y7, st7, n7⟩ => ?_)
    have I7' := I7.pinned (hfp I7 n7) (T.obj _ _ st7)
    have ag := pg.run _ s7 σ0 H7 x u _ I7' r7 (step x H7 y7)
    rw [hxe] at ag
    refine wpAny_bind (thnF ag fun _ s8 ⟨σ8, H8, I8, k8, q8⟩ => ?_)
    have at' := pt.run _ s8 σ8 H8 _ I8 q8
    rw [hxe] at at'
    refine wpAny_bind (thnF at' fun b s9 ⟨H9, I9, q9⟩ => ?_)
    refine thnF (hrest b σ8 H9 Nx (pinsAt fp s7.heap) s9 k8 I9 q9) fun f s' ⟨hf, σ', H', I', k', nx⟩ => ?_
    subst hf
    obtain ⟨m', hm, w'⟩ := hNx H' nx
    have stay : ∀ b ∈ fp, ∀ o, s7.heap.get? b = some o → s'.heap.get? b = some o ∧ H' b = none := fun b hb o e =>
      ⟨(I'.pin (b, o) (List.mem_append_right _ (List.mem_append_right _ (mem_pinsAt hb e)))).1, (I'.pin (b, o) (List.mem_append_right _ (List.mem_append_right _ (mem_pinsAt hb e)))).2.1⟩
    refine ⟨rfl, m', hm, i + 1, H', I'.unpinned.weak k'.1 k'.2, T.keep _ _ _ st7 fun b hb o e => (stay b hb o e).1, fun b hb => ?_, w'⟩
    obtain ⟨o, e, _⟩ := T.obj _ _ st7 b hb
    exact (stay b hb o e).2
/-- a dict comprehension with two fors -/
abbrev dc2 (kx vx t0 i0 : Expr) (ifs0 : List Expr) (t1 i1 : Expr) (ifs1 : List Expr) (scope : Scope) (pos : Pos) : Expr := .DictComp kx vx [⟨t0, i0, ifs0, 0⟩, ⟨t1, i1, ifs1, 0⟩] scope pos
section
variable (kx vx t0 i0 t1 i1 : Expr) (ifs0 ifs1 : List Expr) (scope : Scope) (pos : Pos) (D : Addr) (it : Value) (env : Env)
def restIn : Bool → Sem Fin := fun ok => do
  if ok then
    (do
      let kv ← eval kx env
      let vv ← holding [kv] (eval vx env)
      standAt { kx.pos with endLine := vx.pos.endLine, endCol := vx.pos.endCol }
      holding [kv, vv] (dictSet D kv vv))
  again (.compLoop (dc2 kx vx t0 i0 ifs0 t1 i1 ifs1 scope pos) 1 it (.ref D) env)
def restOut : Bool → Sem Fin := fun ok => do
  if ok then
    let x ← eval i1 env
    standAt i1.pos
    let x ← foldedSetIterable i1 env x
    let _ ← runOwn (.compStart (dc2 kx vx t0 i0 ifs0 t1 i1 ifs1 scope pos) 1 (← holding [x] (pyIter x)) (.ref D) env) env
  again (.compLoop (dc2 kx vx t0 i0 ifs0 t1 i1 ifs1 scope pos) 0 it (.ref D) env)
theorem eqIn : compTurn (dc2 kx vx t0 i0 ifs0 t1 i1 ifs1 scope pos) 1 it (.ref D) env = (do
    standAt i1.pos
    match ← pyNext it with
    | none => pure (.done .next)
    | some v =>
      letOwnedTupleGo t1 it v
      assign t1 env v
      let mut ok := true
      for c in ifs1 do
        if ok then ok ← isTrue c env (eval c env)
      restIn kx vx t0 i0 t1 i1 ifs0 ifs1 scope pos D it env ok) := by rfl
theorem eqOut : compTurn (dc2 kx vx t0 i0 ifs0 t1 i1 ifs1 scope pos) 0 it (.ref D) env = (do
    standAt i0.pos
    match ← pyNext it with
    | none => pure (.done .next)
    | some v =>
      letOwnedTupleGo t0 it v
      assign t0 env v
      let mut ok := true
      for c in ifs0 do
        if ok then ok ← isTrue c env (eval c env)
      restOut kx vx t0 i0 t1 i1 ifs0 ifs1 scope pos D it env ok) := by rfl
end
section
variable {kx vx t0 i0 t1 i1 : Expr} {ifs0 ifs1 : List Expr} {scope : Scope} {pos : Pos} {D : Addr} {it acc : Value} {env : Env} {P : Program} {w : World} {A : Around} {R : Result → Shared → Prop} {s : Shared}
/-- the second clause starts: its loop comes, with the iterator or with the iterator's own -/
theorem startIn (h0 : codeAny (model P w) A (.compLoop (dc2 kx vx t0 i0 ifs0 t1 i1 ifs1 scope pos) 1 it acc env) R s)
    (h1 : wpAny (model P w) A (pyIter it) (fun it' s' => codeAny (model P w) A (.compLoop (dc2 kx vx t0 i0 ifs0 t1 i1 ifs1 scope pos) 1 it' acc env) R s') (fun _ _ => False) s) :
    codeAny (model P w) A (.compStart (dc2 kx vx t0 i0 ifs0 t1 i1 ifs1 scope pos) 1 it acc env) R s := by
  refine codeAny_of_tree ?_
  show wpAny _ A ((compStart (dc2 kx vx t0 i0 ifs0 t1 i1 ifs1 scope pos) 1 it acc env).onRaise (fun x => do noteFrame x env; standAt theWindowsPlace)) _ _ s
  refine wpAny_notedAt ?_
  unfold compStart
  show wpAny _ A (ask >>= fun c => (if c.params.followText "comprehension-iter-twice" = true then again (.compLoop (dc2 kx vx t0 i0 ifs0 t1 i1 ifs1 scope pos) 1 it acc env) >>= fun x => pure x else _)) _ _ s
  refine wpAny_bind (wpAny_askSetting ?_)
  split
  · exact wpAny_bind (wpAny_pure (wpAny_pure ⟨rfl, h0⟩))
  · refine wpAny_bind (wpAny_rule ?_)
    show wpAny _ A (standAt i1.pos >>= fun _ => pyIter it >>= fun v => again (.compLoop (dc2 kx vx t0 i0 ifs0 t1 i1 ifs1 scope pos) 1 v acc env)) _ _ s
    exact wpAny_bind (wpAny_standAt (wpAny_bind (thnF h1 fun v s' h => wpAny_pure ⟨rfl, h⟩)))
end
section
variable {Y : Cx} {kx vx t0 i0 t1 i1 : Expr} {ifs0 ifs1 : List Expr} {scope : Scope} {pos : Pos} {D : Addr} {it : Value} {pins : List (Addr × Obj)} {σ : L2.St} {H : Hp} {s : Shared} {tk tv : TE} {Nx : Hp → Prop}
/-- an entry is laid -/
theorem restIn_ok (hxe : Y.xe = fun _ _ => False) (pk : PE Y kx tk) (pv : PE Y vx tv) (I : Inv Y pins σ H s) (b : Bool)
    (h : if b = true then tk σ H fun y H4 => tv σ H4 fun z H5 => ∃ kvs k, y = kV k ∧ H5 D = some (.dK kvs) ∧ kvs.length < sizeLine ∧ Nx (upd H5 D (.dK (L2.putK kvs k z))) else Nx H) :
    wpAny (model Y.prog Y.w) Y.A (restIn kx vx t0 i0 t1 i1 ifs0 ifs1 scope pos D it Y.env b) (fun f s' => f = .again (.compLoop (dc2 kx vx t0 i0 ifs0 t1 i1 ifs1 scope pos) 1 it (.ref D) Y.env) ∧ ∃ H', Inv Y pins σ H' s' ∧ Nx H') (fun _ _ => False) s := by
  cases b with
  | false => exact wpAny_pure ⟨rfl, H, I, h⟩
  | true =>
    have q := pk.run pins s σ H _ I h
    rw [hxe] at q
    refine wpAny_bind (wpAny_bind (thnF q fun kv s1 ⟨y, H1, I1, r1, q1⟩ => ?_))
    have q2 := pv.run pins s1 σ H1 _ I1 q1
    rw [hxe] at q2
    refine wpAny_bind (wpAny_holding (thnF q2 fun vv s2 ⟨z, H2, I2, r2, kvs, k, ek, hD, hz, nx⟩ => ?_))
    subst ek
    exact wpAny_bind (wpAny_standAt (wpAny_holding (d_dictSet (X := Y) I2 hD hz r1 r2 fun s3 I3 => wpAny_pure ⟨rfl, _, I3, nx⟩)))
/-- what the inner loop is owed, from which Nx is reached -/
def Owed2 (wi1 : TI) (g1 : TG) (tt1 : TT) (tk tv : TE) (vs1 : List Nat) (D : Addr) (b : Bool) (σ2 : L2.St) (H3 : Hp) (Nx : Hp → Prop) : Prop :=
  if b = true then wi1 σ2 H3 fun J1 H4 => ∃ W1 : Nat → Nat → Hp → Prop, (∃ m, W1 0 m H4) ∧ ∀ j m H, W1 j m H →
    (J1.stop j H ∧ Nx H) ∨ (J1.go j H ∧ ∃ Nx1 : Hp → Prop, (∀ H', Nx1 H' → ∃ m', m' < m ∧ W1 (j + 1) m' H') ∧ ∀ x H', J1.yld j H x H' → g1 x (wipe σ2 vs1) H' fun σ3 H5 => Knows (wipe σ2 vs1) σ3 ∧ tt1 σ3 H5 fun b H6 =>
      if b = true then tk σ3 H6 fun y H7 => tv σ3 H7 fun z H8 => ∃ kvs k, y = kV k ∧ H8 D = some (.dK kvs) ∧ kvs.length < sizeLine ∧ Nx1 (upd H8 D (.dK (L2.putK kvs k z))) else Nx1 H6)
  else Nx H3
theorem knows_wipe (σ : L2.St) (vs : List Nat) : Knows (wipe σ vs) σ := ⟨wipe_length _ _, fun _ _ e => (wipe_some e).1⟩
theorem restOut_ok {wi1 : TI} {g1 : TG} {tt1 : TT} {vs1 : List Nat} (hxe : Y.xe = fun _ _ => False) (hc : Y.calm = true) (pi : PI Y t1 i1 wi1) (pg : PG Y t1 g1) (pt : PTs Y ifs1 tt1) (pk : PE Y kx tk) (pv : PE Y vx tv)
    (hs1 : ∀ x, foldedSetIterable i1 Y.env x = pure x) (I : Inv Y pins σ H s) (b : Bool) (h : Owed2 wi1 g1 tt1 tk tv vs1 D b σ H Nx) :
    wpAny (model Y.prog Y.w) Y.A (restOut kx vx t0 i0 t1 i1 ifs0 ifs1 scope pos D it Y.env b) (fun f s' => f = .again (.compLoop (dc2 kx vx t0 i0 ifs0 t1 i1 ifs1 scope pos) 0 it (.ref D) Y.env) ∧ ∃ σ' H', (σ' = σ ∨ σ' = wipe σ vs1) ∧ Inv Y pins σ' H' s' ∧ Nx H') (fun _ _ => False) s := by
  cases b with
  | false => exact wpAny_pure ⟨rfl, σ, H, .inl rfl, I, h⟩
  | true =>
    have q := pi.run pins s σ H _ I h
    rw [hxe] at q
    refine wpAny_bind (thnF q fun xv s1 hx => ?_)
    refine wpAny_bind (wpAny_standAt (wpAny_bind (wpAny_of_eq (hs1 xv) (wpAny_bind (wpAny_holding (thnF hx fun itv s2 h2 => ?_))))))
    obtain ⟨it1, fp1, tn1, J1, H2, e, I2, T1, st2, f2, W1, ⟨m1, w1⟩, turn1⟩ := h2
    subst e
    refine wpAny_bind (wpAny_runOwn ?_)
    rw [Around.mark_none]
    have lp : codeAny (model Y.prog Y.w) Y.A (.compLoop (dc2 kx vx t0 i0 ifs0 t1 i1 ifs1 scope pos) 1 (.ref it1) (.ref D) Y.env) (fun r s' => r = .ok .next ∧ ∃ H', Inv Y pins (wipe σ vs1) H' s' ∧ Nx H') s2 := by
      refine loopC (J := J1) (fp := fp1) (tn := tn1) (g := g1) (tt := tt1) (σ0 := wipe σ vs1) (End := Nx) (W := W1) (m0 := m1) (H := H2)
        (B := fun b σ3 H6 Nx1 => if b = true then tk σ3 H6 fun y H7 => tv σ3 H7 fun z H8 => ∃ kvs k, y = kV k ∧ H8 D = some (.dK kvs) ∧ kvs.length < sizeLine ∧ Nx1 (upd H8 D (.dK (L2.putK kvs k z))) else Nx1 H6)
        hxe hc (fun _ _ _ z => z) (eqIn kx vx t0 i0 t1 i1 ifs0 ifs1 scope pos D (.ref it1) Y.env) T1 pg pt (fun _ hn b hb => ⟨hn b hb, (f2 b hb).2⟩) turn1
        (fun H' s' I' _ e => ⟨rfl, H', I', e⟩)
        (fun b σ3 H6 Nx1 pl s9 k3 I9 q9 => thnF (restIn_ok hxe pk pv I9 b q9) fun f s' ⟨hf, H', I', nx⟩ => ⟨hf, σ3, H', I', k3, nx⟩)
        (I2.weak (wipe_length _ _) fun j v e => (wipe_some e).1) st2 (fun b hb => (f2 b hb).1) w1
    refine codeAny_mono (startIn lp (T1.self Y.A 0 _ _ _ st2 lp)) fun r s' hr => ?_
    obtain ⟨rfl, H', I', nx⟩ := hr
    first
      | exact wpAny_pure ⟨rfl, _, H', .inr rfl, I', nx⟩
      | exact wpAny_bind (wpAny_pure (wpAny_pure ⟨rfl, _, H', .inr rfl, I', nx⟩))
end
/-- {k: v for t0 in i0 if .. for t1 in i1 if ..}: vs, the block's names; vs1, those of the second target -/
def tDc2 (wi : TI) (g : TG) (tt : TT) (wi1 : TI) (g1 : TG) (tt1 : TT) (tk tv : TE) (vs vs1 : List Nat) : TE := fun σ H Q => wi σ H fun J H1 => ∀ D, H1 D = none → ∃ W : Nat → Nat → Hp → Prop, (∃ m, W 0 m (upd H1 D (.dK []))) ∧
  ∀ i m H, W i m H → (J.stop i H ∧ Q (.ref D) H) ∨ (J.go i H ∧ ∃ Nx : Hp → Prop, (∀ H', Nx H' → ∃ m', m' < m ∧ W (i + 1) m' H') ∧ ∀ x H', J.yld i H x H' → g x (wipe σ vs) H' fun σ2 H2 => Knows (wipe σ vs) σ2 ∧
    tt σ2 H2 fun b H3 => Knows (wipe σ vs) (wipe σ2 vs1) ∧ Owed2 wi1 g1 tt1 tk tv vs1 D b σ2 H3 Nx)
theorem pe_dc2 {X : Cx} {kx vx t0 i0 t1 i1 : Expr} {ifs0 ifs1 : List Expr} {scope : Scope} {pos : Pos} {own : List (Str × Nat)} {vs1 : List Nat} {wi wi1 : TI} {g g1 : TG} {tt tt1 : TT} {tk tv : TE}
    (hc : X.calm = true) (hN : X.N.Nodup) (ok : BlkOk X.N X.env.scope scope own) (hi : PI X t0 i0 wi)
    (blk : ∀ (s : Shared) (H : Hp) (C : Addr) (cl : List (Str × Addr)) (fp : List Addr), PG (X.blk s H scope (compEnvC scope cl C X.env) fp) t0 g ∧ PTs (X.blk s H scope (compEnvC scope cl C X.env) fp) ifs0 tt ∧ PI (X.blk s H scope (compEnvC scope cl C X.env) fp) t1 i1 wi1 ∧
      PG (X.blk s H scope (compEnvC scope cl C X.env) fp) t1 g1 ∧ PTs (X.blk s H scope (compEnvC scope cl C X.env) fp) ifs1 tt1 ∧ PE (X.blk s H scope (compEnvC scope cl C X.env) fp) kx tk ∧ PE (X.blk s H scope (compEnvC scope cl C X.env) fp) vx tv)
    (hs : ∀ x, foldedSetIterable i0 X.env x = pure x) (hs1 : ∀ env x, foldedSetIterable i1 env x = pure x) :
    PE X (dc2 kx vx t0 i0 ifs0 t1 i1 ifs1 scope pos) (tDc2 wi g tt wi1 g1 tt1 tk tv (own.map (·.2)) vs1) := by
  refine ⟨fun pins s σ H Q I h => ?_⟩
  rw [arm_eval_DictComp]
  have hfree : ∀ y ∈ scope.names, y.2 = .free → ∃ c, X.env.cells.lookup y.1 = some c := fun y hy e => I.ok.has _ (ok.free y hy e)
  refine wpAny_comprehension_free (use := none) rfl hs (closure_ok hfree) ok.kind (fun y hy e => by rw [ok.uniq y hy, e]) (thn (hi.run pins s σ H _ I h) fun xv s1 hx => thn hx fun itv s2 h2 => ?_)
  obtain ⟨it, fp, tn, J, H2, rfl, I2, T, st2, f2, q⟩ := h2
  refine wpAny_newObj_type (newEnv_comp ?_)
  have hDn : H2 s2.heap.objs.size = none := I2.hok.fresh (Nat.le_refl _)
  obtain ⟨W, ⟨m0, w0⟩, turn⟩ := q _ hDn
  have I3 : Inv X pins σ (upd H2 s2.heap.objs.size (.dK [])) { s2 with heap := s2.heap.push { cls := .type "dict", data := .dict #[] } } :=
    I2.laid (t' := s2.toks) (fun b o e => Heap.get?_push_of_some _ e) (Nat.le_refl _) (dk_empty s2.heap I2.big)
  have old : ∀ b ∈ fp, b < s2.heap.objs.size := fun b hb => let ⟨_, e, _⟩ := T.obj _ _ st2 b hb; Heap.lt_size e
  have f3 : ∀ b ∈ fp, FpOk X pins (upd H2 s2.heap.objs.size (.dK [])) b ∧ b < (s2.heap.push { cls := .type "dict", data := .dict #[] }).objs.size := fun b hb =>
    ⟨⟨by rw [upd_ne (Nat.ne_of_lt (old b hb))]; exact (f2 b hb).1, (f2 b hb).2⟩, by rw [Heap.size_push]; exact Nat.lt_succ_of_lt (old b hb)⟩
  generalize hD : s2.heap.objs.size = D at *
  generalize h3 : ({ s2 with heap := s2.heap.push { cls := .type "dict", data := .dict #[] } } : Shared) = s3 at *
  have hp3 : s3.heap = s2.heap.push { cls := .type "dict", data := .dict #[] } := by rw [← h3]
  rw [← hp3] at f3
  have I4 := block_start I3 ok hN f3
  obtain ⟨bg, bt, bi1, bg1, bt1, bk, bv⟩ := blk s3 (upd H2 D (.dK [])) s3.heap.objs.size (cellsFrom (s3.heap.objs.size + 1) scope.names (cloFrom X.env.cells scope.names [])) fp
  generalize hY : X.blk s3 (upd H2 D (.dK [])) scope (compEnvC scope (cellsFrom (s3.heap.objs.size + 1) scope.names (cloFrom X.env.cells scope.names [])) s3.heap.objs.size X.env) fp = Y at I4 bg bt bi1 bg1 bt1 bk bv
  have yenv : Y.env = compEnvC scope (cellsFrom (s3.heap.objs.size + 1) scope.names (cloFrom X.env.cells scope.names [])) s3.heap.objs.size X.env := by rw [← hY]
  have yloc : Y.env.locals = s3.heap.objs.size := by rw [yenv]; rfl
  have yxe : Y.xe = fun _ _ => False := by rw [← hY]
  have yc : Y.calm = true := by rw [← hY]; exact hc
  have yP : Y.prog = X.prog := by rw [← hY]
  have yw : Y.w = X.w := by rw [← hY]
  have yK : Y.K = X.K := by rw [← hY]
  have yA : Y.A = X.A := by rw [← hY]
  have st4 : tn 0 (pushCells (s3.heap.push { cls := .type "dict", data := .dict #[] }) scope.names) := T.keep _ _ _ st2 fun b _ o e => pushCells_keeps _ _ _ _ (Heap.get?_push_of_some _ (by rw [hp3]; exact Heap.get?_push_of_some _ e))
  have yfp : ∀ {σ' H' s'}, Inv Y [] σ' H' s' → (∀ b ∈ fp, H' b = none) → ∀ b ∈ fp, FpOk Y [] H' b := by
    intro σ' H' s' I' hn b hb
    subst hY
    exact ⟨hn b hb, (I'.ok.exf b hb).1, I'.ok.exfs b hb, .inl hb, fun x c e => (I'.ok.exf b hb).2 x c e, fun p hp => absurd (show p ∈ ([] : List (Addr × Obj)) ++ [] from hp) (by simp)⟩
  -- the def's context, behind the block
  have back : ∀ {H' : Hp} {s' : Shared} {σ' : L2.St}, Inv Y [] σ' H' s' → Inv X pins σ H' s' ∧ FpOk X pins H' s3.heap.objs.size ∧ ∃ m, s'.heap.Ns s3.heap.objs.size m := by
    intro H' s' σ' I'
    have hf : H' s3.heap.objs.size = none := by rw [← yloc]; exact I'.free
    refine ⟨?_, I3.fpOk (Nat.le_refl _) hf, ?_⟩
    · subst hY
      exact I3.call' (ch := fp) I'.os I'.base I'.hok I'.bare fun b hb => ⟨(f3 b hb).1.2.2.2.1, (f3 b hb).1.2.1, (f3 b hb).1.2.2.2.2.1, (f3 b hb).1.2.2.2.2.2⟩
    · obtain ⟨m, hn, _⟩ := I'.loc
      rw [← yloc]
      exact ⟨m, hn⟩
  have lp : codeAny (model Y.prog Y.w) Y.A (.compLoop (dc2 kx vx t0 i0 ifs0 t1 i1 ifs1 scope pos) 0 (.ref it) (.ref D) Y.env) (fun r s' => r = .ok .next ∧ ∃ H', Inv Y [] (wipe σ (own.map (·.2))) H' s' ∧ Q (.ref D) H') { s3 with heap := pushCells (s3.heap.push { cls := .type "dict", data := .dict #[] }) scope.names } := by
    refine loopC (J := J) (fp := fp) (tn := tn) (g := g) (tt := tt) (σ0 := wipe σ (own.map (·.2))) (End := fun H' => Q (.ref D) H') (W := W) (m0 := m0) (H := upd H2 D (.dK []))
      (B := fun b σ2 H3 Nx => Knows (wipe σ (own.map (·.2))) (wipe σ2 vs1) ∧ Owed2 wi1 g1 tt1 tk tv vs1 D b σ2 H3 Nx)
      yxe yc (fun _ _ _ z => z) (eqOut kx vx t0 i0 t1 i1 ifs0 ifs1 scope pos D (.ref it) Y.env) (by rw [yP, yw, yK]; exact T) bg bt yfp turn
      (fun H' s' I' _ e => ⟨rfl, H', I', e⟩) (fun b σ2 H3 Nx pl s9 k2 I9 q9 => ?_) I4 st4 (fun b hb => (f3 b hb).1.1) w0
    refine thnF (restOut_ok (vs1 := vs1) yxe yc bi1 bg1 bt1 bk bv (hs1 Y.env) I9 b q9.2) fun f s' ⟨hf, σ', H', hσ, I', nx⟩ => ⟨hf, σ', H', I', ?_, nx⟩
    rcases hσ with rfl | rfl
    · exact k2
    · exact q9.1
  have fin : codeAny (model Y.prog Y.w) Y.A (.compLoop (dc2 kx vx t0 i0 ifs0 t1 i1 ifs1 scope pos) 0 (.ref it) (.ref D) Y.env) (compPost (model X.prog X.w) X.A X.xe none (EP X pins σ Q) (.ref D) s3.heap.objs.size) { s3 with heap := pushCells (s3.heap.push { cls := .type "dict", data := .dict #[] }) scope.names } := by
    refine codeAny_mono lp fun r s' hr => ?_
    obtain ⟨rfl, H', I', hQ⟩ := hr
    obtain ⟨I7, f, m, hn⟩ := back I'
    refine ⟨m, hn, fun h'' sb => ?_⟩
    obtain ⟨f0, f1, f2, f3, f4, f5⟩ := f
    exact ⟨.ref D, H', I7.turned (t' := s'.toks) (fun b o hb e => (sb.2 b hb).trans e) f0 f1 f3 f4 f5, rfl, hQ⟩
  rw [yP, yw, yA, yenv] at fin
  exact codeAny_compStart_dict fin (T.self X.A 0 _ _ _ st4 fin)
end MP

/-! MP, part Z: list({k: True for .. for .. if ..}) -/
namespace MP
open PySem PySem.Spec PyProof.Rows L2
variable [WLD]
theorem srep_keys {K : PySem.W.Frag} {ρ : List Addr} {H : Hp} {kvs : List (A × A)} {vs : List (L2.Key × V)} (q : Paired (SRep K ρ H) kvs vs) : RepAll K ρ H (kvs.map fun p => p.1) (vs.map fun p => kV p.1) := by
  induction q with
  | nil => exact .nil
  | cons h _ ih => exact .cons (keyA_v h.1) ih
/-- a dict of texts and ints -/
theorem DD.S {K : PySem.W.Frag} {ρ : List Addr} {H : Hp} {D : Addr} {u : HO} {kvs : List (A × A)} (d : DD K ρ H kvs D u) (hs : (kvs.all fun p => isSA p.1) = true) : ∃ vs, u = .dK vs ∧ Paired (SRep K ρ H) kvs vs := by
  rcases d with ⟨xs, h0, _, _, _, h4⟩ | h
  · exact absurd (krep_noS h4 hs).1 h0
  · exact h
/-- one after the other, where nothing may be raised -/
theorem Post.bindN {K : PySem.W.Frag} {mg : Str → Option Value} {α β γ δ : Type} {R : List Addr → Hp → α → β → Prop} {S : List Addr → Hp → γ → δ → Prop} {ρ : List Addr} {H : Hp} {o : Out α} {f : α → Mem → Out γ} {Q : δ → Hp → Prop} {E E' : Value → Option Addr → Hp → Prop}
    (h : Post K mg S ρ H (o.noExc.bind f) Q E) : Post K mg R ρ H o (fun v H1 => ∃ a M1 ρ1, Grow ρ H ρ1 H1 ∧ R ρ1 H1 a v ∧ RepM K ρ1 H1 M1 ∧ Post K mg S ρ1 H1 (f a M1) Q E) E' := Post.noExc (Post.bind h)
theorem bind_assocN {α β γ : Type} (o : Out α) (f : α → Mem → Out β) (g : β → Mem → Out γ) : (o.bind f).noExc.bind g = o.noExc.bind fun a M => (f a M).noExc.bind g := by cases o <;> rfl
omit [WLD] in
/-- the turns -/
def uF2 (P : Par) (vs1 : List Nat) (kx : E) (tg1 : Tg) (ifs1 : List E) (n : Nat) (ς2 : MP.Loc) (y : A) (M4 : Mem) : Out Unit := match bindT tg1 y (wipeA ς2 vs1) with
  | some ς3 => (evTs P ifs1 ς3 M4).bind fun b M5 => if b = true then (evE P kx ς3 M5).bind fun k M6 => addU n k M6 else .ok () M5
  | none => .stuck
omit [WLD] in
def uF1 (P : Par) (vs vs1 : List Nat) (kx : E) (tg tg1 : Tg) (it1 : MP.It) (ifs1 : List E) (n : Nat) (ς : MP.Loc) (x : A) (M2 : Mem) : Out Unit := match bindT tg x (wipeA ς vs) with
  | some ς2 => (evI P it1 ς2 M2).bind fun ys M3 => forU (uF2 P vs1 kx tg1 ifs1 n ς2) ys M3
  | none => .stuck
omit [WLD] in
theorem evE_uniq (P : Par) (o : Bool) (vs vs1 : List Nat) (kx : E) (tg : Tg) (it : MP.It) (tg1 : Tg) (it1 : MP.It) (ifs1 : List E) (ς : MP.Loc) (M : Mem) : evE P (.uniq o vs vs1 kx tg it tg1 it1 ifs1) ς M =
    (evI P it ς M).bind fun xs M1 => (forU (uF1 P vs vs1 kx tg tg1 it1 ifs1 M1.length ς) xs (M1 ++ [.dct []])).noExc.bind fun _ M2 => finU o M1.length M2 := by
  rw [evE]
  rfl
theorem knows_of {σ σ2 : L2.St} {vs : List Nat} (h : wipe σ2 vs = wipe σ vs) : Knows (wipe σ vs) σ2 := by
  rw [← h]; exact knows_wipe _ _
theorem knows_wipe2 {σ0 σ2 : L2.St} {vs vs1 : List Nat} {σ : L2.St} (e : σ0 = wipe σ vs) (h : wipe σ2 vs = wipe σ vs) (hv : ∀ j ∈ vs1, j ∈ vs) : Knows σ0 (wipe σ2 vs1) := by
  subst e
  rw [← h]
  refine ⟨by rw [wipe_length, wipe_length], fun j v e => ?_⟩
  rw [wipe_get] at e ⊢
  split at e
  · cases e
  · rename_i hn
    rw [if_neg (fun z => hn ⟨hv j z.1, z.2⟩)]
    exact e
section
variable {X : Cx} {I : Inf} {P : Par} {W : WX} {k : Nat}
theorem pe_uniqA (C : Ctx X I P W k) {o : Bool} {vs vs1 : List Nat} {kx : E} {tg tg1 : Tg} {it1 : MP.It} {ifs1 : List E} {ev : MP.Loc → Mem → Out (List A)} (hv : ∀ j ∈ vs1, j ∈ vs) (hin : ∀ j ∈ tg.slots, j ∈ vs) (hin1 : ∀ j ∈ tg1.slots, j ∈ vs1) :
    ∀ σ H Q, LE X.K X.mg W (fun ς M => (ev ς M).bind fun xs M1 => (forU (uF1 P vs vs1 kx tg tg1 it1 ifs1 M1.length ς) xs (M1 ++ [.dct []])).noExc.bind fun _ M2 => finU o M1.length M2) σ H Q →
      tDc2 (LI X.K X.mg W ev) (LG X.K tg) tYes (LI X.K X.mg WX0 (evI P it1)) (LG X.K tg1) (LT X.K X.mg WX0 (evTs P ifs1)) (LE X.K X.mg WX0 (evE P kx)) (tC (.bl true)) vs vs1 σ H
        (fun v H2 => ∃ (a : Addr) (kvs : List (L2.Key × V)), [v] = [V.ref a] ∧ Rd H2 a (.dK kvs) ∧ ∀ p, H2 p = none → Fz Q (.ref p) (upd H2 p (.lst (kvs.map fun kv => kV kv.1)))) := by
  intro σ H Q ⟨ρ, ς, M, at_, h⟩
  refine ⟨ρ, ς, M, at_, le_bind at_ h fun xs M1 ρ1 J H1 at1 g1 J1 h1 => ?_⟩
  intro D hD
  have gD : Grow ρ1 H1 (ρ1 ++ [D]) (upd H1 D (.dK [])) := Grow.cell hD
  have rD : RepM X.K (ρ1 ++ [D]) (upd H1 D (.dK [])) (M1 ++ [.dct []]) := at1.m.cellNewO hD ⟨_, upd_same, .inr ⟨[], rfl, .nil⟩⟩
  have aD : (ρ1 ++ [D])[M1.length]? = some D := by
    rw [← at1.m.len, List.getElem?_append_right (Nat.le_refl _), Nat.sub_self]
    rfl
  -- what is left behind i turns
  have nxt : ∀ {i : Nat} {H' : Hp}, i ≤ xs.length → (∃ ρ' M', Grow (ρ1 ++ [D]) (upd H1 D (.dK [])) ρ' H' ∧ RepM X.K ρ' H' M' ∧ Post X.K X.mg (Rep X.K) ρ' H' ((forU (uF1 P vs vs1 kx tg tg1 it1 ifs1 M1.length ς) (xs.drop i) M').noExc.bind fun _ M2 => finU o M1.length M2) Q (fun c d H' => W c d σ H')) →
      ∃ m', m' = xs.length - i ∧ (m' = xs.length - i ∧ i ≤ xs.length ∧ ∃ ρ' M', Grow (ρ1 ++ [D]) (upd H1 D (.dK [])) ρ' H' ∧ RepM X.K ρ' H' M' ∧ Post X.K X.mg (Rep X.K) ρ' H' ((forU (uF1 P vs vs1 kx tg tg1 it1 ifs1 M1.length ς) (xs.drop i) M').noExc.bind fun _ M2 => finU o M1.length M2) Q (fun c d H' => W c d σ H')) := fun hi q => ⟨_, rfl, rfl, hi, q⟩
  refine ⟨fun i m H' => m = xs.length - i ∧ i ≤ xs.length ∧ ∃ ρ' M', Grow (ρ1 ++ [D]) (upd H1 D (.dK [])) ρ' H' ∧ RepM X.K ρ' H' M' ∧ Post X.K X.mg (Rep X.K) ρ' H' ((forU (uF1 P vs vs1 kx tg tg1 it1 ifs1 M1.length ς) (xs.drop i) M').noExc.bind fun _ M2 => finU o M1.length M2) Q (fun c d H' => W c d σ H'),
    ⟨xs.length, by simp, Nat.zero_le _, _, _, Grow.refl _ _, rD, h1.grow gD⟩, ?_⟩
  rintro i m H' ⟨rfl, hle, ρ', M', g, rm, po⟩
  obtain ⟨hstop, hgo⟩ := J1 ρ' H' (gD.trans g)
  by_cases hlt : i < xs.length
  · obtain ⟨go, yld⟩ := hgo i _ (List.getElem?_eq_getElem hlt)
    rw [List.drop_eq_getElem_cons hlt] at po
    refine .inr ⟨go, fun H4 => ∃ ρ' M', Grow (ρ1 ++ [D]) (upd H1 D (.dK [])) ρ' H4 ∧ RepM X.K ρ' H4 M' ∧ Post X.K X.mg (Rep X.K) ρ' H4 ((forU (uF1 P vs vs1 kx tg tg1 it1 ifs1 M1.length ς) (xs.drop (i + 1)) M').noExc.bind fun _ M2 => finU o M1.length M2) Q (fun c d H' => W c d σ H'),
      fun H4 q => ⟨xs.length - (i + 1), by omega, rfl, hlt, q⟩, fun v H2 hy => ?_⟩
    obtain ⟨gy, ry, my⟩ := yld v H2 hy
    have rm2 := my M' rm
    have g2 := g.trans gy
    have at2 : At X.K ρ' H2 (wipeA ς vs) (wipe σ vs) M' := ⟨(at1.s.mono (gD.trans g2)).wipe vs, rm2⟩
    have po2 := po.grow gy
    rw [forU, bind_assocN] at po2
    cases hb : bindT tg xs[i] (wipeA ς vs) with
    | none =>
      unfold uF1 at po2
      rw [hb] at po2
      exact False.elim po2
    | some ς2 =>
      refine ⟨ρ', _, M', xs[i], at2, ry, ς2, hb, fun σ2 hs2 hj2 => ?_⟩
      have hw : wipe σ2 vs = wipe σ vs := by
        refine wipe_same ?_ hin hj2
        rw [← hs2.1, pe_lcA.bindT_len hb, at2.s.1, wipe_length]
      refine ⟨knows_of hw, ?_⟩
      show Knows (wipe σ vs) (wipe σ2 vs1) ∧ Owed2 _ _ _ _ _ vs1 D true σ2 H2 _
      refine ⟨knows_wipe2 rfl hw hv, ?_⟩
      unfold Owed2
      rw [if_pos rfl]
      have e : uF1 P vs vs1 kx tg tg1 it1 ifs1 M1.length ς xs[i] M' = (evI P it1 ς2 M').bind fun ys M3 => forU (uF2 P vs1 kx tg1 ifs1 M1.length ς2) ys M3 := by
        unfold uF1; rw [hb]
      rw [e, bind_assocN] at po2
      refine ⟨ρ', ς2, M', ⟨hs2, rm2⟩, (Post.bindN po2).imp (fun J3 H3 ⟨ys, M3, ρ3, g3, J3r, rm3, po3⟩ => ?_) fun _ _ _ z => z⟩
      have g13 := g2.trans g3
      refine ⟨fun j m H' => m = ys.length - j ∧ j ≤ ys.length ∧ ∃ ρ' M', Grow ρ3 H3 ρ' H' ∧ RepM X.K ρ' H' M' ∧ Post X.K X.mg (Rep X.K) ρ' H' ((forU (uF2 P vs1 kx tg1 ifs1 M1.length ς2) (ys.drop j) M').noExc.bind fun _ M4 => (forU (uF1 P vs vs1 kx tg tg1 it1 ifs1 M1.length ς) (xs.drop (i + 1)) M4).noExc.bind fun _ M2 => finU o M1.length M2) Q (fun c d H' => W c d σ H'),
        ⟨ys.length, by simp, Nat.zero_le _, ρ3, M3, Grow.refl _ _, rm3, po3⟩, ?_⟩
      rintro j m5 H5 ⟨rfl, hle5, ρ5, M5, g5, rm5, po5⟩
      obtain ⟨hstop5, hgo5⟩ := J3r ρ5 H5 g5
      by_cases hlt5 : j < ys.length
      · obtain ⟨go5, yld5⟩ := hgo5 j _ (List.getElem?_eq_getElem hlt5)
        rw [List.drop_eq_getElem_cons hlt5, forU, bind_assocN] at po5
        refine .inr ⟨go5, fun H4 => ∃ ρ' M', Grow ρ3 H3 ρ' H4 ∧ RepM X.K ρ' H4 M' ∧ Post X.K X.mg (Rep X.K) ρ' H4 ((forU (uF2 P vs1 kx tg1 ifs1 M1.length ς2) (ys.drop (j + 1)) M').noExc.bind fun _ M4 => (forU (uF1 P vs vs1 kx tg tg1 it1 ifs1 M1.length ς) (xs.drop (i + 1)) M4).noExc.bind fun _ M2 => finU o M1.length M2) Q (fun c d H' => W c d σ H'),
          fun H4 q => ⟨ys.length - (j + 1), by omega, rfl, hlt5, q⟩, fun v6 H6 hy6 => ?_⟩
        obtain ⟨gy6, ry6, my6⟩ := yld5 v6 H6 hy6
        have rm6 := my6 M5 rm5
        have g36 := g5.trans gy6
        have at6 : At X.K ρ5 H6 (wipeA ς2 vs1) (wipe σ2 vs1) M5 := ⟨((hs2.mono g3).mono g36).wipe vs1, rm6⟩
        have po6 := po5.grow gy6
        cases hb6 : bindT tg1 ys[j] (wipeA ς2 vs1) with
        | none =>
          unfold uF2 at po6
          rw [hb6] at po6
          exact False.elim po6
        | some ς3 =>
          have e6 : uF2 P vs1 kx tg1 ifs1 M1.length ς2 ys[j] M5 = (evTs P ifs1 ς3 M5).bind fun b M5 => if b = true then (evE P kx ς3 M5).bind fun k M6 => addU M1.length k M6 else .ok () M5 := by
            unfold uF2; rw [hb6]
          rw [e6, bind_assocN] at po6
          refine ⟨ρ5, _, M5, ys[j], at6, ry6, ς3, hb6, fun σ3 hs3 hj3 => ⟨⟨?_, fun q v e => ?_⟩, ρ5, ς3, M5, ⟨hs3, rm6⟩, (Post.bindN po6).imp (fun b H7 ⟨b', M7, ρ7, g7, eb, rm7, po7⟩ => ?_) fun _ _ _ z => z⟩⟩
          · rw [← at6.s.1, ← hs3.1]
            exact (pe_lcA.bindT_len hb6).symm
          · rw [hj3 q fun z => ?_]
            · exact e
            · rw [wipe_get] at e
              split at e
              · cases e
              · rename_i hn
                exact hn ⟨hin1 q z, (List.getElem?_eq_some_iff.mp e).1⟩
          · subst eb
            have g37 := g36.trans g7
            cases b' with
            | false =>
              rw [if_neg (by decide)] at po7
              rw [if_neg (by decide)]
              exact ⟨ρ7, M7, g37, rm7, po7⟩
            | true =>
              rw [if_pos rfl] at po7
              rw [if_pos rfl]
              rw [bind_assocN] at po7
              refine ⟨ρ7, ς3, M7, ⟨hs3.mono g7, rm7⟩, (Post.bindN po7).imp (fun y H8 ⟨a, M8, ρ8, g8, r8, rm8, po8⟩ => ?_) fun _ _ _ z => z⟩
              show ∃ kvs k, y = kV k ∧ H8 D = some (.dK kvs) ∧ kvs.length < sizeLine ∧ _
              have g38 := g37.trans g8
              have a8 : ρ8[M1.length]? = some D := (g13.trans g38).get aD
              cases r8 with
              | str s =>
                cases hc : M8[M1.length]? with
                | none => simp only [addU, hc] at po8; exact False.elim po8
                | some c =>
                  cases c with
                  | dct kvs =>
                    simp only [addU, hc] at po8
                    by_cases hz : kvs.length < sizeLine ∧ (kvs.all fun p => isSA p.1) = true
                    · rw [if_pos hz] at po8
                      obtain ⟨u8, hu8, d8⟩ := rm8.cell _ _ _ hc a8
                      obtain ⟨ws, rfl, q8⟩ := d8.S hz.2
                      have hl := Paired.length q8
                      have gw : Grow ρ8 H8 ρ8 (upd H8 D (.dK (L2.putK ws (.inr s) (.bl true)))) := Grow.write (List.mem_of_getElem? a8) hu8 rfl
                      refine ⟨ws, .inr s, rfl, hu8, by omega, ρ8, _, g38.trans gw, rm8.cellSetO (c0 := .dct (putD kvs (.text s) (.str s) (.bl true))) a8 hu8 rfl ⟨_, upd_same, .inr ⟨_, rfl, ?_⟩⟩, po8.grow gw⟩
                      exact srep_put (x := .str s) (k := .inr s) (.bl true) rfl (L2.Paired.mapP q8 fun _ _ w => ⟨w.1, w.2.mono gw⟩)
                    · rw [if_neg hz] at po8
                      exact False.elim po8
                  | lst _ => simp only [addU, hc] at po8; exact False.elim po8
                  | dead => simp only [addU, hc] at po8; exact False.elim po8
              | _ => simp only [addU] at po8; exact False.elim po8
      · obtain rfl : j = ys.length := by omega
        rw [List.drop_length] at po5
        exact .inl ⟨hstop5, ρ5, M5, g13.trans g5, rm5, po5⟩
  · obtain rfl : i = xs.length := by omega
    refine .inl ⟨hstop, ?_⟩
    rw [List.drop_length] at po
    have po' : Post X.K X.mg (Rep X.K) ρ' H' (finU o M1.length M') Q (fun c d H' => W c d σ H') := po
    have a8 : ρ'[M1.length]? = some D := g.get aD
    unfold finU keysU at po'
    cases hc : M'[M1.length]? with
    | none => rw [hc] at po'; exact False.elim po'
    | some c =>
      rw [hc] at po'
      cases c with
      | dct kvs =>
        simp only at po'
        by_cases hz : (kvs.all fun p => isSA p.1) = true
        · rw [if_pos hz] at po'
          obtain ⟨u8, hu8, d8⟩ := rm.cell _ _ _ hc a8
          obtain ⟨ws, rfl, q8⟩ := d8.S hz
          exact ⟨D, ws, rfl, .inl hu8, (fin_lst rm (srep_keys q8) po').2⟩
        · rw [if_neg hz] at po'
          exact False.elim po'
      | lst _ => exact False.elim po'
      | dead => exact False.elim po'
end
end MP

/-! MP, part O7: sorted({x for .. in .. if ..}), the x texts -/
namespace MP
open PySem PySem.Spec PyProof.Rows L2 PySem.Froz
variable [WLD]
section
variable {P : Program} {w : World} {A : Around} {E : Value → Shared → Prop} {s : Shared}
theorem add_tx {a : Addr} {l : List Str} {k : Str} {u : Tok} {Q : Value → Shared → Prop} (T : TxS P w a l s.heap) (hb : l.length + 1 < scanBound)
    (h : ∀ h' tk, s.toks ≤ tk → Heap.SameBut a s.heap h' → TxS P w a (if k ∈ l then l else k :: l) h' → Q .none { s with heap := h', toks := tk }) : wpAny (model P w) A (call (.builtin "set.add") [.ref a, .str k u]) Q E s := by
  have ty : s.TypeIs (.ref a) "set" := by
    obtain ⟨⟨D, ho, _⟩, _⟩ := T
    exact ⟨_, ho, rfl⟩
  refine wpAny_call_entry F.slot_set_add ty F.entry_set_add ?_ (F.args_set_add_2 _ _)
  unfold Builtin.«set.add» Builtin.Frozenset.oneOther
  simp only [List.isEmpty_nil, bind_assoc]
  unfold Builtin.Frozenset.addrOf
  refine wpAny_bind (wpAny_pure ?_)
  try dsimp only
  refine wpAny_bind (wpAny_pure ?_)
  try dsimp only
  refine wpAny_bind (put_x T hb fun b h' tk a1 a2 a3 => ?_)
  show wpAny _ _ (ret Value.none) _ _ _
  exact wpAny_pure ⟨_, rfl, h h' tk a1 a2 a3⟩
end
/-- the set of texts at a -/
def TxO (P : Program) (w : World) (a : Addr) (l : List Str) : HO := .ext fun h => TxS P w a l h
theorem txO_new {P : Program} {w : World} {H : Hp} {h : Heap} {a : Addr} {l : List Str} (T : TxS P w a l h) : ObjOk P w H h a (TxO P w a l) := by
  have ⟨⟨D, ho, _⟩, _⟩ := T
  exact ⟨T, ⟨_, ho⟩, fun h1 h2 p k => TxS.keep p k⟩
theorem txO_get {X : Cx} {pins : List (Addr × Obj)} {σ : L2.St} {H : Hp} {s : Shared} {a : Addr} {l : List Str} (I : Inv X pins σ H s) (ha : H a = some (TxO X.prog X.w a l)) : TxS X.prog X.w a l s.heap := (I.hok a _ ha).1
theorem put_tx {X : Cx} {pins : List (Addr × Obj)} {σ : L2.St} {H : Hp} {s : Shared} {a : Addr} {l : List Str} {k : Str} {u : Value} {Q : Value → Shared → Prop} {E : Value → Shared → Prop} (I : Inv X pins σ H s) (ha : H a = some (TxO X.prog X.w a l)) (r : RelV (V.str k) u) (hb : l.length + 1 < scanBound)
    (h : ∀ v s', Inv X pins σ (upd H a (TxO X.prog X.w a (if k ∈ l then l else k :: l))) s' → Q v s') : wpAny (model X.prog X.w) X.A (call (.builtin "set.add") [.ref a, u]) Q E s := by
  obtain ⟨t, rfl⟩ := r
  refine add_tx (txO_get I ha) hb fun h' tk _ sb new => h _ _ ?_
  have he : ∃ u, h'.get? a = some u := by
    have ⟨⟨D, ho, _⟩, _⟩ := new
    exact ⟨_, ho⟩
  exact I.write (e := a) (t' := tk) (by rw [ha]; trivial) (.inl rfl) (fun b u hb hu => (sb.2 b hb).trans hu) he (txO_new new)
/-- the comprehension -/
abbrev scE (elt t0 i0 : Expr) (ifs0 : List Expr) (scope : Scope) (pos : Pos) : Expr := .SetComp elt [⟨t0, i0, ifs0, 0⟩] scope pos
def restS (elt t0 i0 : Expr) (ifs0 : List Expr) (scope : Scope) (pos : Pos) (acc it : Value) (env : Env) : Bool → Sem Fin := fun ok => do
  if ok then
    (do let v ← eval elt env; standAt elt.pos; let _ ← call (.builtin "set.add") [acc, v])
  again (.compLoop (scE elt t0 i0 ifs0 scope pos) 0 it acc env)
def tScT (P : Program) (w : World) (wi : TI) (g : TG) (tt : TT) (te : TE) (vs : List Nat) : TE := fun σ H Q => wi σ H fun J H1 => ∀ D, H1 D = none → ∃ W : Nat → Nat → Hp → Prop, (∃ m, W 0 m (upd H1 D (TxO P w D []))) ∧ ∀ i m H, W i m H →
  (J.stop i H ∧ Q (.ref D) H) ∨ (J.go i H ∧ ∃ Nx : Hp → Prop, (∀ H', Nx H' → ∃ m', m' < m ∧ W (i + 1) m' H') ∧ ∀ x H', J.yld i H x H' → g x (wipe σ vs) H' fun σ2 H2 => Knows (wipe σ vs) σ2 ∧ tt σ2 H2 fun b H3 =>
    if b = true then te σ2 H3 fun y H4 => ∃ (k : Str) (l : List Str), y = .str k ∧ H4 D = some (TxO P w D l) ∧ l.length + 1 < scanBound ∧ Nx (upd H4 D (TxO P w D (if k ∈ l then l else k :: l))) else Nx H3)
theorem restS_ok {Y : Cx} {elt t0 i0 : Expr} {ifs0 : List Expr} {scope : Scope} {pos : Pos} {D : Addr} {it : Value} {pins : List (Addr × Obj)} {σ : L2.St} {H : Hp} {s : Shared} {te : TE} {Nx : Hp → Prop} (hxe : Y.xe = fun _ _ => False) (pe : PE Y elt te) (I : Inv Y pins σ H s) (b : Bool)
    (h : if b = true then te σ H fun y H4 => ∃ (k : Str) (l : List Str), y = .str k ∧ H4 D = some (TxO Y.prog Y.w D l) ∧ l.length + 1 < scanBound ∧ Nx (upd H4 D (TxO Y.prog Y.w D (if k ∈ l then l else k :: l))) else Nx H) :
    wpAny (model Y.prog Y.w) Y.A (restS elt t0 i0 ifs0 scope pos (.ref D) it Y.env b) (fun f s' => f = .again (.compLoop (scE elt t0 i0 ifs0 scope pos) 0 it (.ref D) Y.env) ∧ ∃ H', Inv Y pins σ H' s' ∧ Nx H') (fun _ _ => False) s := by
  cases b with
  | false => exact wpAny_pure ⟨rfl, H, I, h⟩
  | true =>
    have q := pe.run pins s σ H _ I h
    rw [hxe] at q
    refine wpAny_bind (wpAny_bind (thnF q fun v s1 ⟨y, H1, I1, r1, k, l, ey, hD, hl, nx⟩ => ?_))
    subst ey
    exact wpAny_bind (wpAny_standAt (wpAny_bind (put_tx I1 hD r1 hl fun v2 s2 I2 => wpAny_pure (wpAny_pure ⟨rfl, _, I2, nx⟩))))
theorem eqSet (elt t0 i0 : Expr) (ifs0 : List Expr) (scope : Scope) (pos : Pos) (it acc : Value) (env : Env) : compTurn (scE elt t0 i0 ifs0 scope pos) 0 it acc env = (do
    standAt i0.pos
    match ← pyNext it with
    | none => pure (.done .next)
    | some v =>
      letOwnedTupleGo t0 it v
      assign t0 env v
      let mut ok := true
      for c in ifs0 do
        if ok then ok ← isTrue c env (eval c env)
      restS elt t0 i0 ifs0 scope pos acc it env ok) := by rfl
theorem pe_scT {X : Cx} {elt t0 i0 : Expr} {ifs0 : List Expr} {scope : Scope} {pos : Pos} {own : List (Str × Nat)} {wi : TI} {g : TG} {tt : TT} {te : TE}
    (hc : X.calm = true) (hN : X.N.Nodup) (ok : BlkOk X.N X.env.scope scope own) (hi : PI X t0 i0 wi)
    (blk : ∀ (s : Shared) (H : Hp) (C : Addr) (cl : List (Str × Addr)) (fp : List Addr), PG (X.blk s H scope (compEnvC scope cl C X.env) fp) t0 g ∧ PTs (X.blk s H scope (compEnvC scope cl C X.env) fp) ifs0 tt ∧ PE (X.blk s H scope (compEnvC scope cl C X.env) fp) elt te)
    (hs : ∀ x, foldedSetIterable i0 X.env x = pure x) : PE X (scE elt t0 i0 ifs0 scope pos) (tScT X.prog X.w wi g tt te (own.map (·.2))) := by
  refine ⟨fun pins s σ H Q I h => ?_⟩
  rw [PpSet.eval_SetComp]
  have hfree : ∀ y ∈ scope.names, y.2 = .free → ∃ c, X.env.cells.lookup y.1 = some c := fun y hy e => I.ok.has _ (ok.free y hy e)
  refine wpAny_comprehension_free (use := none) rfl hs (closure_ok hfree) ok.kind (fun y hy e => by rw [ok.uniq y hy, e]) (thn (hi.run pins s σ H _ I h) fun xv s1 hx => thn hx fun itv s2 h2 => ?_)
  obtain ⟨it, fp, tn, J, H2, rfl, I2, T, st2, f2, q⟩ := h2
  refine PpSet.newSet_ok (newEnv_comp ?_)
  have hDn : H2 s2.heap.objs.size = none := I2.hok.fresh (Nat.le_refl _)
  obtain ⟨W, ⟨m0, w0⟩, turn⟩ := q _ hDn
  have I3 : Inv X pins σ (upd H2 s2.heap.objs.size (TxO X.prog X.w s2.heap.objs.size [])) { s2 with heap := s2.heap.push (setNew X.w) } :=
    I2.laid (t' := s2.toks) (fun b o e => Heap.get?_push_of_some _ e) (Nat.le_refl _) (txO_new (txs_new (Heap.get?_push_size _ rfl)))
  have old : ∀ b ∈ fp, b < s2.heap.objs.size := fun b hb => let ⟨_, e, _⟩ := T.obj _ _ st2 b hb; Heap.lt_size e
  have f3 : ∀ b ∈ fp, FpOk X pins (upd H2 s2.heap.objs.size (TxO X.prog X.w s2.heap.objs.size [])) b ∧ b < (s2.heap.push (setNew X.w)).objs.size := fun b hb =>
    ⟨⟨by rw [upd_ne (Nat.ne_of_lt (old b hb))]; exact (f2 b hb).1, (f2 b hb).2⟩, by rw [Heap.size_push]; exact Nat.lt_succ_of_lt (old b hb)⟩
  show codeAny _ _ (.compStart (scE elt t0 i0 ifs0 scope pos) 0 (.ref it) (.ref s2.heap.objs.size) (compEnvC scope (cellsFrom ((s2.heap.push (setNew X.w)).objs.size + 1) scope.names (cloFrom X.env.cells scope.names [])) (s2.heap.push (setNew X.w)).objs.size X.env)) (compPost (model X.prog X.w) X.A X.xe none (EP X pins σ Q) (.ref s2.heap.objs.size) (s2.heap.push (setNew X.w)).objs.size) { s2 with heap := pushCells ((s2.heap.push (setNew X.w)).push { cls := .type "dict", data := .dict #[] }) scope.names }
  generalize hD : s2.heap.objs.size = D at *
  generalize h3 : ({ s2 with heap := s2.heap.push (setNew X.w) } : Shared) = s3 at *
  have hp3 : s3.heap = s2.heap.push (setNew X.w) := by rw [← h3]
  have e3 : ({ s2 with heap := pushCells ((s2.heap.push (setNew X.w)).push { cls := .type "dict", data := .dict #[] }) scope.names } : Shared) = { s3 with heap := pushCells (s3.heap.push { cls := .type "dict", data := .dict #[] }) scope.names } := by rw [← h3]
  rw [e3]
  rw [← hp3] at f3 ⊢
  have I4 := block_start I3 ok hN f3
  obtain ⟨bg, bt, be⟩ := blk s3 (upd H2 D (TxO X.prog X.w D [])) s3.heap.objs.size (cellsFrom (s3.heap.objs.size + 1) scope.names (cloFrom X.env.cells scope.names [])) fp
  generalize hY : X.blk s3 (upd H2 D (TxO X.prog X.w D [])) scope (compEnvC scope (cellsFrom (s3.heap.objs.size + 1) scope.names (cloFrom X.env.cells scope.names [])) s3.heap.objs.size X.env) fp = Y at I4 bg bt be
  have yenv : Y.env = compEnvC scope (cellsFrom (s3.heap.objs.size + 1) scope.names (cloFrom X.env.cells scope.names [])) s3.heap.objs.size X.env := by rw [← hY]
  have yloc : Y.env.locals = s3.heap.objs.size := by rw [yenv]; rfl
  have yxe : Y.xe = fun _ _ => False := by rw [← hY]
  have yc : Y.calm = true := by rw [← hY]; exact hc
  have yP : Y.prog = X.prog := by rw [← hY]
  have yw : Y.w = X.w := by rw [← hY]
  have yK : Y.K = X.K := by rw [← hY]
  have yA : Y.A = X.A := by rw [← hY]
  have st4 : tn 0 (pushCells (s3.heap.push { cls := .type "dict", data := .dict #[] }) scope.names) := T.keep _ _ _ st2 fun b _ o e => pushCells_keeps _ _ _ _ (Heap.get?_push_of_some _ (by rw [hp3]; exact Heap.get?_push_of_some _ e))
  have yfp : ∀ {σ' H' s'}, Inv Y [] σ' H' s' → (∀ b ∈ fp, H' b = none) → ∀ b ∈ fp, FpOk Y [] H' b := by
    intro σ' H' s' I' hn b hb
    subst hY
    exact ⟨hn b hb, (I'.ok.exf b hb).1, I'.ok.exfs b hb, .inl hb, fun x c e => (I'.ok.exf b hb).2 x c e, fun p hp => absurd (show p ∈ ([] : List (Addr × Obj)) ++ [] from hp) (by simp)⟩
  have back : ∀ {H' : Hp} {s' : Shared} {σ' : L2.St}, Inv Y [] σ' H' s' → Inv X pins σ H' s' ∧ FpOk X pins H' s3.heap.objs.size ∧ ∃ m, s'.heap.Ns s3.heap.objs.size m := by
    intro H' s' σ' I'
    have hf : H' s3.heap.objs.size = none := by rw [← yloc]; exact I'.free
    refine ⟨?_, I3.fpOk (Nat.le_refl _) hf, ?_⟩
    · subst hY
      exact I3.call' (ch := fp) I'.os I'.base I'.hok I'.bare fun b hb => ⟨(f3 b hb).1.2.2.2.1, (f3 b hb).1.2.1, (f3 b hb).1.2.2.2.2.1, (f3 b hb).1.2.2.2.2.2⟩
    · obtain ⟨m, hn, _⟩ := I'.loc
      rw [← yloc]
      exact ⟨m, hn⟩
  have lp : codeAny (model Y.prog Y.w) Y.A (.compLoop (scE elt t0 i0 ifs0 scope pos) 0 (.ref it) (.ref D) Y.env) (fun r s' => r = .ok .next ∧ ∃ H', Inv Y [] (wipe σ (own.map (·.2))) H' s' ∧ Q (.ref D) H') { s3 with heap := pushCells (s3.heap.push { cls := .type "dict", data := .dict #[] }) scope.names } := by
    refine loopC (J := J) (fp := fp) (tn := tn) (g := g) (tt := tt) (σ0 := wipe σ (own.map (·.2))) (End := fun H' => Q (.ref D) H') (W := W) (m0 := m0) (H := upd H2 D (TxO X.prog X.w D []))
      (B := fun b σ2 H3 Nx => if b = true then te σ2 H3 fun y H4 => ∃ (k : Str) (l : List Str), y = .str k ∧ H4 D = some (TxO Y.prog Y.w D l) ∧ l.length + 1 < scanBound ∧ Nx (upd H4 D (TxO Y.prog Y.w D (if k ∈ l then l else k :: l))) else Nx H3)
      yxe yc (fun _ _ _ z => z) (eqSet elt t0 i0 ifs0 scope pos (.ref it) (.ref D) Y.env) (by rw [yP, yw, yK]; exact T) bg bt yfp (by rw [yP, yw]; exact turn)
      (fun H' s' I' _ e => ⟨rfl, H', I', e⟩) (fun b σ2 H3 Nx pl s9 k2 I9 q9 => ?_) I4 st4 (fun b hb => (f3 b hb).1.1) w0
    exact thnF (restS_ok yxe be I9 b q9) fun f s' ⟨hf, H', I', nx⟩ => ⟨hf, σ2, H', I', k2, nx⟩
  have fin : codeAny (model Y.prog Y.w) Y.A (.compLoop (scE elt t0 i0 ifs0 scope pos) 0 (.ref it) (.ref D) Y.env) (compPost (model X.prog X.w) X.A X.xe none (EP X pins σ Q) (.ref D) s3.heap.objs.size) { s3 with heap := pushCells (s3.heap.push { cls := .type "dict", data := .dict #[] }) scope.names } := by
    refine codeAny_mono lp fun r s' hr => ?_
    obtain ⟨rfl, H', I', hQ⟩ := hr
    obtain ⟨I7, f, m, hn⟩ := back I'
    refine ⟨m, hn, fun h'' sb => ?_⟩
    obtain ⟨f0, f1, f2, f3, f4, f5⟩ := f
    exact ⟨.ref D, H', I7.turned (t' := s'.toks) (fun b o hb e => (sb.2 b hb).trans e) f0 f1 f3 f4 f5, rfl, hQ⟩
  rw [yP, yw, yA, yenv] at fin
  exact PpSet.codeAny_compStart_set fin (T.self X.A 0 _ _ _ st4 fin)
end MP

/-! MP, part Z2: sorted({..}); list comprehensions with two fors -/
namespace MP
open PySem PySem.Spec PyProof.Rows L2
variable [WLD]
theorem sortS_perm {a b : List Str} (p : a.Perm b) : sortS a = sortS b :=
  perm_sorted leS_anti _ _ (((List.mergeSort_perm a leS).trans p).trans (List.mergeSort_perm b leS).symm) (List.pairwise_mergeSort (le := leS) leS_trans leS_total a) (List.pairwise_mergeSort (le := leS) leS_trans leS_total b)
/-- sorted of a set of texts -/
def rSortTx (P : Program) (w : World) : List V → Hp → VK → Prop := fun xs H Q => ∃ a l, xs = [.ref a] ∧ H a = some (TxO P w a l) ∧ l.length < 64 ∧ ∀ p, H p = none → Q (.ref p) (upd H p (.lst ((sortS l).map V.str)))
theorem call_sortTx {X : Cx} (hc : X.calm = true) : CallR X (.builtin "sorted") (rSortTx X.prog X.w) := by
  intro pins s σ H xs us Q I r h
  obtain ⟨a, l, rfl, ha, hl, q⟩ := h
  rw [Vals.ref1 r]
  refine sorted_TxS (txO_get I ha) (I.ok.hd hc) hl fun h2 p out c tk2 zs k2 lo at_ so pz sz s' e1 e2 e3 => ?_
  have ez : zs = sortS l := sorted_is pz sz
  subst ez
  have hn : H p = none := I.hok.fresh lo
  have hz : ((sortS l).map V.str).length ≤ sizeLine := by rw [List.length_map, pz.length_eq, sizeLine_eq]; omega
  have J : Inv X pins σ (upd H p (.lst ((sortS l).map V.str))) { s with heap := s'.heap, gens := s'.gens, drawn := s'.drawn, toks := s'.toks } := by
    subst e1
    exact I.call (ch := []) (Un.laid k2 lo hn) (I.hok.laid k2 lo ⟨hz, out.toList, c, vals_of_strs so, by simpa using at_⟩) (by rw [e2]; exact I.bare) (fun _ z => nomatch z)
  have e : s' = { s with heap := s'.heap, gens := s'.gens, drawn := s'.drawn, toks := s'.toks } := by
    cases s'
    cases s
    cases e3
    rfl
  rw [e]
  exact ⟨.ref p, _, J, rfl, q p hn⟩
section
variable {X : Cx} {I : Inf} {P : Par} {W : WX} {k : Nat}
theorem setQ_cons {K : PySem.W.Frag} {mg : Str → Option Value} {ρ : List Addr} {H : Hp} {o : Bool} {acc ys : List A} {a : A} {M : Mem} {Q : VK} {E : Value → Option Addr → Hp → Prop} (h : Post K mg (Rep K) ρ H (setQ false o (.lst (acc ++ (a :: ys))) M) Q E) :
    isStA a = true ∧ acc.all isStA = true ∧ acc.length + 1 < 64 := by
  simp only [setQ, asL] at h
  split at h
  · rename_i hc
    simp only [List.all_append, List.all_cons, Bool.and_eq_true, decide_eq_true_eq, List.length_append, List.length_cons] at hc
    exact ⟨hc.1.2.1, hc.1.1, by omega⟩
  · exact False.elim h
/-- the texts of the accumulated -/
def TxA (acc : List A) (l : List Str) : Prop := l.Nodup ∧ l.length ≤ acc.length ∧ ∀ k, k ∈ l ↔ k ∈ acc.map strA
theorem TxA.add {acc : List A} {l : List Str} (h : TxA acc l) (k : Str) : TxA (acc ++ [.str k]) (if k ∈ l then l else k :: l) := by
  obtain ⟨n, le, m⟩ := h
  have ma : ∀ x, x ∈ (acc ++ [A.str k]).map strA ↔ x ∈ l ∨ x = k := fun x => by
    rw [List.map_append, List.mem_append, ← m x]
    simp [strA]
  by_cases c : k ∈ l
  · rw [if_pos c]
    refine ⟨n, by rw [List.length_append]; omega, fun x => ?_⟩
    rw [ma]
    exact ⟨.inl, fun z => z.elim id fun z => z ▸ c⟩
  · rw [if_neg c]
    refine ⟨List.nodup_cons.mpr ⟨c, n⟩, by rw [List.length_append]; simp; omega, fun x => ?_⟩
    rw [ma, List.mem_cons]
    exact ⟨fun z => z.elim .inr .inl, fun z => z.elim .inr .inl⟩
theorem TxA.sort {acc : List A} {l : List Str} (h : TxA acc l) : sortS l = sortS (dedS (acc.map strA)) := sortS_perm (dedS_perm h.1 h.2.2)
theorem pe_ssetCA {o : Bool} {vs : List Nat} {elt : E} {tg : Tg} {ifs : List E} {ev : MP.Loc → Mem → Out (List A)} (hin : ∀ j ∈ tg.slots, j ∈ vs) :
    ∀ σ H Q, LE X.K X.mg W (fun ς M => (ev ς M).bind fun xs M1 => (lcL (lcF P vs elt tg ifs ς) xs M1).noExc.bind fun ys M2 => setQ false o (.lst ys) M2) σ H Q →
      tScT X.prog X.w (LI X.K X.mg W ev) (LG X.K tg) (LT X.K X.mg WX0 (evTs P ifs)) (LE X.K X.mg WX0 (evE P elt)) vs σ H (fun v H2 => rSortTx X.prog X.w [v] H2 (Fz Q)) := by
  intro σ H Q ⟨ρ, ς, M, at_, h⟩
  refine ⟨ρ, ς, M, at_, le_bind at_ h fun xs M1 ρ1 J H1 at1 g1 J1 h1 => ?_⟩
  intro D hD
  have start : RepM X.K ρ1 (upd H1 D (TxO X.prog X.w D [])) M1 := at1.m.laid hD
  have gD : Grow ρ1 H1 ρ1 (upd H1 D (TxO X.prog X.w D [])) := Grow.laid hD
  have nD1 : D ∉ ρ1 := fun z => at1.m.th D z hD
  refine ⟨fun i m H' => m = xs.length - i ∧ i ≤ xs.length ∧ ∃ ρ' M' acc l, Grow ρ1 H1 ρ' H' ∧ D ∉ ρ' ∧ H' D = some (TxO X.prog X.w D l) ∧ TxA acc l ∧ RepM X.K ρ' H' M' ∧
      Post X.K X.mg (Rep X.K) ρ1 H1 ((lcL (lcF P vs elt tg ifs ς) (xs.drop i) M').noExc.bind fun ys M2 => setQ false o (.lst (acc ++ ys)) M2) Q (fun c d H' => W c d σ H'),
    ⟨xs.length, by simp, Nat.zero_le _, ρ1, M1, [], [], gD, nD1, upd_same, ⟨List.nodup_nil, Nat.le_refl _, fun k => by simp⟩, start, by simpa using h1⟩, ?_⟩
  rintro i m H' ⟨rfl, hle, ρ', M', acc, l, g, nD, hDw, ta, rm, po⟩
  obtain ⟨hstop, hgo⟩ := J1 ρ' H' g
  by_cases hlt : i < xs.length
  · obtain ⟨go, yld⟩ := hgo i _ (List.getElem?_eq_getElem hlt)
    rw [List.drop_eq_getElem_cons hlt] at po
    have po' : Post X.K X.mg (Rep X.K) ρ1 H1 ((lcF P vs elt tg ifs ς xs[i] M').noExc.bind fun r M1 => (lcL (lcF P vs elt tg ifs ς) (xs.drop (i + 1)) M1).noExc.bind fun ys M2 => setQ false o (.lst (acc ++ (match r with | some y => y :: ys | none => ys))) M2) Q (fun c d H' => W c d σ H') := by
      have e : ((lcL (lcF P vs elt tg ifs ς) (xs[i] :: xs.drop (i + 1)) M').noExc.bind fun ys M2 => setQ false o (.lst (acc ++ ys)) M2) = ((lcF P vs elt tg ifs ς xs[i] M').noExc.bind fun r M1 => (lcL (lcF P vs elt tg ifs ς) (xs.drop (i + 1)) M1).noExc.bind fun ys M2 => setQ false o (.lst (acc ++ (match r with | some y => y :: ys | none => ys))) M2) := by
        simp only [lcL]
        cases lcF P vs elt tg ifs ς xs[i] M' with
        | ok r M1 =>
          simp only [Out.bind_ok, Out.noExc_ok]
          cases lcL (lcF P vs elt tg ifs ς) (xs.drop (i + 1)) M1 <;> rfl
        | exc _ _ => rfl
        | stuck => rfl
      rw [← e]; exact po
    refine .inr ⟨go, fun H4 => ∃ ρ' M' acc l, Grow ρ1 H1 ρ' H4 ∧ D ∉ ρ' ∧ H4 D = some (TxO X.prog X.w D l) ∧ TxA acc l ∧ RepM X.K ρ' H4 M' ∧
      Post X.K X.mg (Rep X.K) ρ1 H1 ((lcL (lcF P vs elt tg ifs ς) (xs.drop (i + 1)) M').noExc.bind fun ys M2 => setQ false o (.lst (acc ++ ys)) M2) Q (fun c d H' => W c d σ H'),
      fun H4 q => ⟨xs.length - (i + 1), by omega, rfl, hlt, q⟩, fun v H2 hy => ?_⟩
    obtain ⟨gy, ry, my⟩ := yld v H2 hy
    have rm2 := my M' rm
    have g2 := g.trans gy
    have hD2 : H2 D = some (TxO X.prog X.w D l) := gy.st D _ hDw (.inl nD)
    have at2 : At X.K ρ' H2 (wipeA ς vs) (wipe σ vs) M' := ⟨(at1.s.mono g2).wipe vs, rm2⟩
    cases hb : bindT tg xs[i] (wipeA ς vs) with
    | none =>
      unfold lcF at po'
      rw [hb] at po'
      exact False.elim po'
    | some ς2 =>
      refine ⟨ρ', _, M', xs[i], at2, ry, ς2, hb, fun σ2 hs2 hj2 => ⟨?_, ?_⟩⟩
      · refine knows_of (wipe_same ?_ hin hj2)
        rw [← hs2.1, pe_lcA.bindT_len hb, at2.s.1, wipe_length]
      · have e : lcF P vs elt tg ifs ς xs[i] M' = (evTs P ifs ς2 M').bind fun b M3 => if b = true then (evE P elt ς2 M3).bind fun y M4 => .ok (some y) M4 else .ok none M3 := by
          unfold lcF; rw [hb]
        rw [e, bind_assocN] at po'
        refine ⟨ρ', ς2, M', ⟨hs2, rm2⟩, (Post.bindB g2 po').imp (fun b H3 ⟨b', M3, ρ3, g3, eb, rm3, po3⟩ => ?_) fun _ _ _ z => z⟩
        subst eb
        have g13 := g2.trans g3
        have hD3 : H3 D = some (TxO X.prog X.w D l) := g3.st D _ hD2 (.inl nD)
        have nD3 : D ∉ ρ3 := by
          obtain ⟨t, rfl, ht⟩ := g3.ad
          intro hm
          rcases List.mem_append.mp hm with z | z
          · exact nD z
          · rw [ht D z] at hD2; cases hD2
        cases b' with
        | false =>
          rw [if_neg (by decide)] at po3
          rw [if_neg (by decide)]
          exact ⟨ρ3, M3, acc, l, g13, nD3, hD3, ta, rm3, po3⟩
        | true =>
          rw [if_pos rfl] at po3
          rw [if_pos rfl]
          rw [bind_assocN] at po3
          refine ⟨ρ3, ς2, M3, ⟨hs2.mono g3, rm3⟩, (Post.bindB g13 po3).imp (fun y H4 ⟨a, M4, ρ4, g4, r4, rm4, po5⟩ => ?_) fun _ _ _ z => z⟩
          have hD4 : H4 D = some (TxO X.prog X.w D l) := g4.st D _ hD3 (.inl nD3)
          have nD4 : D ∉ ρ4 := by
            obtain ⟨t, rfl, ht⟩ := g4.ad
            intro hm
            rcases List.mem_append.mp hm with z | z
            · exact nD3 z
            · rw [ht D z] at hD3; cases hD3
          have po5' : Post X.K X.mg (Rep X.K) ρ1 H1 ((lcL (lcF P vs elt tg ifs ς) (xs.drop (i + 1)) M4).noExc.bind fun ys M2 => setQ false o (.lst (acc ++ (a :: ys))) M2) Q (fun c d H' => W c d σ H') := po5
          have hz : isStA a = true ∧ acc.all isStA = true ∧ acc.length + 1 < 64 := by
            revert po5'
            cases lcL (lcF P vs elt tg ifs ς) (xs.drop (i + 1)) M4 with
            | ok ys M2 => exact fun h => setQ_cons h
            | exc _ _ => exact fun h => False.elim h
            | stuck => exact fun h => False.elim h
          cases r4 with
          | str s =>
            obtain ⟨m5, _⟩ := rm4.other (u := TxO X.prog X.w D (if s ∈ l then l else s :: l)) nD4 hD4 rfl
            refine ⟨s, l, rfl, hD4, by have := ta.2.1; unfold scanBound; omega, ρ4, M4, acc ++ [.str s], _, ?_, nD4, upd_same, ta.add s, m5, by simpa using po5'⟩
            have g14 := g13.trans g4
            exact ⟨g14.ad, fun b u hb hs => by
              rw [upd_ne (ne_of_none hb hD)]
              exact g14.st b u hb hs, fun b hb => by
              by_cases e : b = D
              · subst e; exact absurd hD hb
              · rw [upd_ne e]; exact g14.th b hb⟩
          | _ => exact Bool.noConfusion hz.1
  · obtain rfl : i = xs.length := by omega
    refine .inl ⟨hstop, ?_⟩
    rw [List.drop_length] at po
    have po' : Post X.K X.mg (Rep X.K) ρ' H' (setQ false o (.lst acc) M') Q (fun c d H' => W c d σ H') := Post.grow g (by simpa [lcL] using po)
    simp only [setQ, asL] at po'
    split at po'
    · rename_i hc
      rw [Bool.and_eq_true, decide_eq_true_eq] at hc
      rw [if_neg (by decide)] at po'
      refine ⟨D, l, rfl, hDw, by have := ta.2.1; omega, ?_⟩
      rw [ta.sort]
      exact (fin_lst rm (rep_strs _) po').2
    · exact False.elim po'
end
end MP

/-! MP, part Z3: list comprehensions with two fors; the list is a cell -/
namespace MP
open PySem PySem.Spec PyProof.Rows L2
variable [WLD]
omit [WLD] in
def lF2 (P : Par) (vs1 : List Nat) (elt : E) (tg1 : Tg) (ifs1 : List E) (n : Nat) (ς2 : MP.Loc) (y : A) (M4 : Mem) : Out Unit := match bindT tg1 y (wipeA ς2 vs1) with
  | some ς3 => (evTs P ifs1 ς3 M4).bind fun b M5 => if b = true then (evE P elt ς3 M5).bind fun z M6 => pushU n z M6 else .ok () M5
  | none => .stuck
omit [WLD] in
def lF1 (P : Par) (vs vs1 : List Nat) (elt : E) (tg : Tg) (ifs : List E) (tg1 : Tg) (it1 : MP.It) (ifs1 : List E) (n : Nat) (ς : MP.Loc) (x : A) (M2 : Mem) : Out Unit := match bindT tg x (wipeA ς vs) with
  | some ς2 => (evTs P ifs ς2 M2).bind fun b M3 => if b = true then (evI P it1 ς2 M3).bind fun ys M4 => forU (lF2 P vs1 elt tg1 ifs1 n ς2) ys M4 else .ok () M3
  | none => .stuck
omit [WLD] in
theorem evE_lc2 (P : Par) (o : Bool) (vs vs1 : List Nat) (elt : E) (tg : Tg) (it : MP.It) (ifs : List E) (tg1 : Tg) (it1 : MP.It) (ifs1 : List E) (ς : MP.Loc) (M : Mem) : evE P (.lc2 o vs vs1 elt tg it ifs tg1 it1 ifs1) ς M =
    (evI P it ς M).bind fun xs M1 => (forU (lF1 P vs vs1 elt tg ifs tg1 it1 ifs1 M1.length ς) xs (M1 ++ [.lst []])).noExc.bind fun _ M2 => endU o M1.length M2 := by
  rw [evE]
  rfl
section
variable {X : Cx} {I : Inf} {P : Par} {W : WX} {k : Nat}
theorem pe_lc2A {o : Bool} {vs vs1 : List Nat} {elt : E} {tg tg1 : Tg} {it1 : MP.It} {ifs ifs1 : List E} {ev : MP.Loc → Mem → Out (List A)} (hin : ∀ j ∈ tg.slots, j ∈ vs) (hin1 : ∀ j ∈ tg1.slots, j ∈ vs1) :
    ∀ σ H Q, LE X.K X.mg W (fun ς M => (ev ς M).bind fun xs M1 => (forU (lF1 P vs vs1 elt tg ifs tg1 it1 ifs1 M1.length ς) xs (M1 ++ [.lst []])).noExc.bind fun _ M2 => endU o M1.length M2) σ H Q →
      tLc2 (LI X.K X.mg W ev) (LG X.K tg) (LT X.K X.mg WX0 (evTs P ifs)) (LI X.K X.mg WX0 (evI P it1)) (LG X.K tg1) (LT X.K X.mg WX0 (evTs P ifs1)) (LE X.K X.mg WX0 (evE P elt)) vs vs1 σ H (Fz Q) := by
  intro σ H Q ⟨ρ, ς, M, at_, h⟩
  refine ⟨ρ, ς, M, at_, le_bind at_ h fun xs M1 ρ1 J H1 at1 g1 J1 h1 => ?_⟩
  intro D hD
  have gD : Grow ρ1 H1 (ρ1 ++ [D]) (upd H1 D (.lst [])) := Grow.cell hD
  have rD : RepM X.K (ρ1 ++ [D]) (upd H1 D (.lst [])) (M1 ++ [.lst []]) := at1.m.cellNew hD .nil
  have aD : (ρ1 ++ [D])[M1.length]? = some D := by
    rw [← at1.m.len, List.getElem?_append_right (Nat.le_refl _), Nat.sub_self]
    rfl
  refine ⟨fun i m H' => m = xs.length - i ∧ i ≤ xs.length ∧ ∃ ρ' M', Grow (ρ1 ++ [D]) (upd H1 D (.lst [])) ρ' H' ∧ RepM X.K ρ' H' M' ∧ Post X.K X.mg (Rep X.K) ρ' H' ((forU (lF1 P vs vs1 elt tg ifs tg1 it1 ifs1 M1.length ς) (xs.drop i) M').noExc.bind fun _ M2 => endU o M1.length M2) Q (fun c d H' => W c d σ H'),
    ⟨xs.length, by simp, Nat.zero_le _, _, _, Grow.refl _ _, rD, h1.grow gD⟩, ?_⟩
  rintro i m H' ⟨rfl, hle, ρ', M', g, rm, po⟩
  obtain ⟨hstop, hgo⟩ := J1 ρ' H' (gD.trans g)
  by_cases hlt : i < xs.length
  · obtain ⟨go, yld⟩ := hgo i _ (List.getElem?_eq_getElem hlt)
    rw [List.drop_eq_getElem_cons hlt] at po
    refine .inr ⟨go, fun H4 => ∃ ρ' M', Grow (ρ1 ++ [D]) (upd H1 D (.lst [])) ρ' H4 ∧ RepM X.K ρ' H4 M' ∧ Post X.K X.mg (Rep X.K) ρ' H4 ((forU (lF1 P vs vs1 elt tg ifs tg1 it1 ifs1 M1.length ς) (xs.drop (i + 1)) M').noExc.bind fun _ M2 => endU o M1.length M2) Q (fun c d H' => W c d σ H'),
      fun H4 q => ⟨xs.length - (i + 1), by omega, rfl, hlt, q⟩, fun v H2 hy => ?_⟩
    obtain ⟨gy, ry, my⟩ := yld v H2 hy
    have rm2 := my M' rm
    have g2 := g.trans gy
    have at2 : At X.K ρ' H2 (wipeA ς vs) (wipe σ vs) M' := ⟨(at1.s.mono (gD.trans g2)).wipe vs, rm2⟩
    have po2 := po.grow gy
    rw [forU, bind_assocN] at po2
    cases hb : bindT tg xs[i] (wipeA ς vs) with
    | none =>
      unfold lF1 at po2
      rw [hb] at po2
      exact False.elim po2
    | some ς2 =>
      refine ⟨ρ', _, M', xs[i], at2, ry, ς2, hb, fun σ2 hs2 hj2 => ⟨?_, ?_⟩⟩
      · refine wipe_same ?_ hin hj2
        rw [← hs2.1, pe_lcA.bindT_len hb, at2.s.1, wipe_length]
      · have e : lF1 P vs vs1 elt tg ifs tg1 it1 ifs1 M1.length ς xs[i] M' = (evTs P ifs ς2 M').bind fun b M3 => if b = true then (evI P it1 ς2 M3).bind fun ys M4 => forU (lF2 P vs1 elt tg1 ifs1 M1.length ς2) ys M4 else .ok () M3 := by
          unfold lF1; rw [hb]
        rw [e, bind_assocN] at po2
        refine ⟨ρ', ς2, M', ⟨hs2, rm2⟩, (Post.bindN po2).imp (fun b H3 ⟨b', M3, ρ3, g3, eb, rm3, po3⟩ => ?_) fun _ _ _ z => z⟩
        subst eb
        have g13 := g2.trans g3
        cases b' with
        | false =>
          rw [if_neg (by decide)] at po3
          rw [if_neg (by decide)]
          exact ⟨ρ3, M3, g13, rm3, po3⟩
        | true =>
          rw [if_pos rfl] at po3
          rw [if_pos rfl]
          rw [bind_assocN] at po3
          refine ⟨ρ3, ς2, M3, ⟨hs2.mono g3, rm3⟩, (Post.bindN po3).imp (fun J4 H4 ⟨ys, M4, ρ4, g4, J4r, rm4, po4⟩ => ?_) fun _ _ _ z => z⟩
          have g14 := g13.trans g4
          refine ⟨fun j m H' => m = ys.length - j ∧ j ≤ ys.length ∧ ∃ ρ' M', Grow ρ4 H4 ρ' H' ∧ RepM X.K ρ' H' M' ∧ Post X.K X.mg (Rep X.K) ρ' H' ((forU (lF2 P vs1 elt tg1 ifs1 M1.length ς2) (ys.drop j) M').noExc.bind fun _ M4 => (forU (lF1 P vs vs1 elt tg ifs tg1 it1 ifs1 M1.length ς) (xs.drop (i + 1)) M4).noExc.bind fun _ M2 => endU o M1.length M2) Q (fun c d H' => W c d σ H'),
            ⟨ys.length, by simp, Nat.zero_le _, ρ4, M4, Grow.refl _ _, rm4, po4⟩, ?_⟩
          rintro j m5 H5 ⟨rfl, hle5, ρ5, M5, g5, rm5, po5⟩
          obtain ⟨hstop5, hgo5⟩ := J4r ρ5 H5 g5
          by_cases hlt5 : j < ys.length
          · obtain ⟨go5, yld5⟩ := hgo5 j _ (List.getElem?_eq_getElem hlt5)
            rw [List.drop_eq_getElem_cons hlt5, forU, bind_assocN] at po5
            refine .inr ⟨go5, fun H4' => ∃ ρ' M', Grow ρ4 H4 ρ' H4' ∧ RepM X.K ρ' H4' M' ∧ Post X.K X.mg (Rep X.K) ρ' H4' ((forU (lF2 P vs1 elt tg1 ifs1 M1.length ς2) (ys.drop (j + 1)) M').noExc.bind fun _ M4 => (forU (lF1 P vs vs1 elt tg ifs tg1 it1 ifs1 M1.length ς) (xs.drop (i + 1)) M4).noExc.bind fun _ M2 => endU o M1.length M2) Q (fun c d H' => W c d σ H'),
              fun H4' q => ⟨ys.length - (j + 1), by omega, rfl, hlt5, q⟩, fun v6 H6 hy6 => ?_⟩
            obtain ⟨gy6, ry6, my6⟩ := yld5 v6 H6 hy6
            have rm6 := my6 M5 rm5
            have g46 := g5.trans gy6
            have at6 : At X.K ρ5 H6 (wipeA ς2 vs1) (wipe σ2 vs1) M5 := ⟨(((hs2.mono g3).mono g4).mono g46).wipe vs1, rm6⟩
            have po6 := po5.grow gy6
            cases hb6 : bindT tg1 ys[j] (wipeA ς2 vs1) with
            | none =>
              unfold lF2 at po6
              rw [hb6] at po6
              exact False.elim po6
            | some ς3 =>
              have e6 : lF2 P vs1 elt tg1 ifs1 M1.length ς2 ys[j] M5 = (evTs P ifs1 ς3 M5).bind fun b M5 => if b = true then (evE P elt ς3 M5).bind fun z M6 => pushU M1.length z M6 else .ok () M5 := by
                unfold lF2; rw [hb6]
              rw [e6, bind_assocN] at po6
              refine ⟨ρ5, _, M5, ys[j], at6, ry6, ς3, hb6, fun σ3 hs3 hj3 => ⟨?_, ρ5, ς3, M5, ⟨hs3, rm6⟩, (Post.bindN po6).imp (fun b H7 ⟨b', M7, ρ7, g7, eb, rm7, po7⟩ => ?_) fun _ _ _ z => z⟩⟩
              · refine wipe_same ?_ hin1 hj3
                rw [← hs3.1, pe_lcA.bindT_len hb6, at6.s.1, wipe_length]
              · subst eb
                have g47 := g46.trans g7
                cases b' with
                | false =>
                  rw [if_neg (by decide)] at po7
                  rw [if_neg (by decide)]
                  exact ⟨ρ7, M7, g47, rm7, po7⟩
                | true =>
                  rw [if_pos rfl] at po7
                  rw [if_pos rfl]
                  rw [bind_assocN] at po7
                  refine ⟨ρ7, ς3, M7, ⟨hs3.mono g7, rm7⟩, (Post.bindN po7).imp (fun y H8 ⟨a, M8, ρ8, g8, r8, rm8, po8⟩ => ?_) fun _ _ _ z => z⟩
                  have g48 := g47.trans g8
                  have a8 : ρ8[M1.length]? = some D := (g14.trans g48).get aD
                  cases hc : M8[M1.length]? with
                  | none => simp only [pushU, hc] at po8; exact False.elim po8
                  | some c =>
                    cases c with
                    | lst as =>
                      simp only [pushU, hc] at po8
                      by_cases hz : as.length < sizeLine
                      · rw [if_pos hz] at po8
                        obtain ⟨ws, hw, rr⟩ := rm8.cell _ _ _ hc a8
                        have hl := rr.length
                        have gw : Grow ρ8 H8 ρ8 (upd H8 D (.lst (ws ++ [y]))) := Grow.write (List.mem_of_getElem? a8) hw rfl
                        exact ⟨ws, hw, by omega, ρ8, _, g48.trans gw, rm8.cellSet a8 hw (rr.append (.cons r8 .nil)), po8.grow gw⟩
                      · rw [if_neg hz] at po8
                        exact False.elim po8
                    | dct _ => simp only [pushU, hc] at po8; exact False.elim po8
                    | dead => simp only [pushU, hc] at po8; exact False.elim po8
          · obtain rfl : j = ys.length := by omega
            rw [List.drop_length] at po5
            exact .inl ⟨hstop5, ρ5, M5, g14.trans g5, rm5, po5⟩
  · obtain rfl : i = xs.length := by omega
    refine .inl ⟨hstop, ?_⟩
    rw [List.drop_length] at po
    have po' : Post X.K X.mg (Rep X.K) ρ' H' (endU o M1.length M') Q (fun c d H' => W c d σ H') := po
    have a8 : ρ'[M1.length]? = some D := g.get aD
    unfold endU at po'
    cases o with
    | true =>
      rw [if_pos rfl] at po'
      exact fz_of (post_ok rm (.ref a8) po')
    | false =>
      rw [if_neg (by decide)] at po'
      exact frzA_w rm (.ref a8) po'
end
end MP

/-! MP, part H: the theorem for expressions, statements, defs -/
namespace MP
open PySem PySem.Spec PyProof.Rows L2
variable [WLD]
section
variable {X : Cx} {P : Par}
theorem hasB_ok {I : Inf} {sc : Scope} {x : Str} (h : hasB I sc x = true) : glB sc x = true ∧ x ∈ I.bs ∧ okName x = true := by
  unfold hasB at h
  simp only [Bool.and_eq_true, decide_eq_true_eq] at h
  exact ⟨h.1.1, h.1.2, h.2⟩
theorem lcF_eq (P : Par) (vs : List Nat) (elt : E) (tg : Tg) (ifs : List E) (ς : Loc) : (fun (x : A) (M2 : Mem) => match bindT tg x (wipeA ς vs) with
      | some ς2 => (evTs P ifs ς2 M2).bind fun b M3 => if b = true then (evE P elt ς2 M3).bind fun y M4 => Out.ok (some y) M4 else .ok none M3
      | none => .stuck) = lcF P vs elt tg ifs ς := rfl
/-- a value as a test -/
theorem pt_ofV {k : Nat} {I : Inf} {W : WX} {e : Expr} {f : Loc → Mem → Out A} (h : PE X e (LE X.K X.mg W f)) (hp : plainT e = true) : PT X e (LT X.K X.mg W fun ς M => (f ς M).bind fun x M1 => outT (truA x M1) M1) := by
  refine pt_w (pt_truth h (plainT_ok hp)) fun σ H Q ⟨ρ, ς, M, at_, h⟩ => ?_
  refine ⟨ρ, ς, M, at_, le_bind at_ h fun x M1 ρ1 v H1 at1 g1 r1 h1 => ?_⟩
  cases e : truA x M1 with
  | none => rw [e] at h1; exact False.elim h1
  | some b => rw [e] at h1; exact ⟨b, truA_w at1.m r1 e, post_ok at1.m rfl h1⟩

def OkE (P : Par) (I : Inf) (m : E) : Prop := ∀ {X : Cx} {W : WX} {k : Nat} {sc : Scope}, Ctx X I P W k → Sub sc X → ∀ e, chkE I X.N sc m e = true → PE X e (LE X.K X.mg W (evE P m))
def OkEs (P : Par) (I : Inf) (ms : List E) : Prop := ∀ {X : Cx} {W : WX} {k : Nat} {sc : Scope}, Ctx X I P W k → Sub sc X → ∀ es, chkEs I X.N sc ms es = true → PA X es (LA X.K X.mg W (evEs P ms))
def OkT (P : Par) (I : Inf) (m : E) : Prop := ∀ {X : Cx} {W : WX} {k : Nat} {sc : Scope}, Ctx X I P W k → Sub sc X → ∀ e, chkE I X.N sc m e = true → PT X e (LT X.K X.mg W (evT P m))
def OkTs (P : Par) (I : Inf) (ms : List E) : Prop := ∀ {X : Cx} {W : WX} {k : Nat} {sc : Scope}, Ctx X I P W k → Sub sc X → ∀ es, chkEs I X.N sc ms es = true → PTs X es (LT X.K X.mg W (evTs P ms))
def OkO (P : Par) (I : Inf) (m : Option E) : Prop := ∀ {X : Cx} {W : WX} {k : Nat} {sc : Scope}, Ctx X I P W k → Sub sc X → ∀ e, chkO I X.N sc m e = true → PO X e (LO X.K X.mg W (evO P m))
def OkI (P : Par) (I : Inf) (m : It) : Prop := ∀ {X : Cx} {W : WX} {k : Nat} {sc : Scope}, Ctx X I P W k → Sub sc X → ∀ tg e, chkI I X.N sc m tg e = true → PI X tg e (LI X.K X.mg W (evI P m))
variable {I : Inf}
theorem pw_of_bool {op : BoolOp} {es : List Expr} {p : Pos} {t : TT} (h : PT X (.BoolOp op es p) t) : PW X (.BoolOp op es p) t := ⟨fun wh pins s σ H Q J q => h.run pins s σ H Q J q⟩
theorem forIn_false (M : Model) (A : Around) (E : Value → Shared → Prop) (env : Env) (Q : Bool → Shared → Prop) (s : Shared) (h : Q false s) : ∀ ifs : List Expr,
    wpAny M A (forIn ifs false fun c r => if r = true then do let ok ← isTrue c env (eval c env); pure (ForInStep.yield ok) else pure (ForInStep.yield r)) Q E s
  | [] => wpAny_pure h
  | c :: cs => by
    rw [List.forIn_cons]
    exact wpAny_bind (wpAny_pure (forIn_false M A E env Q s h cs))
theorem pts_consA {W : WX} {e : Expr} {es : List Expr} {f g : Loc → Mem → Out Bool} (h1 : PT X e (LT X.K X.mg W f)) (h2 : PTs X es (LT X.K X.mg W g)) : PTs X (e :: es) (LT X.K X.mg W fun ς M => (f ς M).bind fun t M1 => if t = true then g ς M1 else .ok false M1) := by
  refine ⟨fun pins s σ H Q J ⟨ρ, ς, M, at_, h⟩ => ?_⟩
  rw [List.forIn_cons]
  refine wpAny_bind ?_
  rw [if_pos rfl]
  refine wpAny_bind (thn (h1.run pins s σ H _ J ⟨ρ, ς, M, at_, le_bind at_ h (Q' := fun t H1 => if t = true then LT X.K X.mg W g σ H1 Q else Q false H1) fun t M1 ρ1 v H1 at1 g1 r1 h1 => ?_⟩) fun t s1 ⟨H1, J1, q1⟩ => wpAny_pure ?_)
  · have r1' : t = v := r1
    subst r1'
    cases t with
    | true => rw [if_pos rfl] at h1 ⊢; exact ⟨ρ1, ς, M1, at1, h1⟩
    | false => rw [if_neg (by decide)] at h1 ⊢; exact post_ok at1.m rfl h1
  · cases t with
    | true => exact h2.run pins s1 σ H1 Q J1 q1
    | false => exact forIn_false _ _ _ _ _ _ ⟨H1, J1, q1⟩ es
theorem okE_var (i : Nat)  : OkE P I (.var i) := by
  intro X W k sc C hs e h
  simp only [chkE] at h
  split at h
  · rename_i x pos
    simp only [Bool.and_eq_true, decide_eq_true_eq] at h
    have hn := okName_ok h.2
    refine pe_w (pe_var h.1.1 (hs.vis x h.1.2) hn.1 hn.2.1) fun σ H Q ⟨ρ, ς, M, at_, h⟩ => ?_
    simp only [evE] at h
    split at h
    · rename_i a ha
      obtain ⟨v, hv, r⟩ := at_.s.2 i a ha
      exact ⟨v, hv, post_ok at_.m r h⟩
    · exact False.elim h
  · exact Bool.noConfusion h
theorem okE_con (c : Const)  : OkE P I (.con c) := by
  intro X W k sc C hs e h
  simp only [chkE] at h
  split at h
  · rename_i c' j pos
    simp only [Bool.and_eq_true, decide_eq_true_eq] at h
    obtain ⟨rfl, h2⟩ := h
    have fin : ∀ {a v}, cA c = some a → (∀ ρ H, Rep X.K ρ H a v) → ∀ σ H Q, LE X.K X.mg W (evE P (.con c)) σ H Q → Q v H := fun {a v} ha r σ H Q ⟨ρ, ς, M, at_, h⟩ => by
      simp only [evE, ha] at h
      exact post_ok at_.m (r _ _) h
    cases c with
    | none => exact pe_w pe_non (fin rfl fun _ _ => .non)
    | bool b => exact pe_w pe_bl (fin rfl fun _ _ => .bl b)
    | int i => exact pe_w pe_int (fin rfl fun _ _ => .int i)
    | str s => exact pe_w pe_str (fin rfl fun _ _ => .str s)
    | _ => simp [cA] at h2
  · exact Bool.noConfusion h
theorem okE_glob (x : Str)  : OkE P I (.glob x) := by
  intro X W k sc C hs e h
  simp only [chkE] at h
  split at h
  · rename_i y pos
    simp only [Bool.and_eq_true, decide_eq_true_eq] at h
    obtain ⟨⟨rfl, h2⟩, h3⟩ := h
    cases hg : P.glob x with
    | none =>
      refine ⟨fun pins s σ H Q J h => ?_⟩
      obtain ⟨ρ, ς, M, at_, h⟩ := h
      simp only [evE, hg] at h
      exact False.elim h
    | some a =>
      obtain ⟨u, v, h4, h5, h6⟩ := C.gl x a hg
      refine pe_w (pe_glob (hs.gl x h2) h4 h5 (okName_ok h3).1) fun σ H Q ⟨ρ, ς, M, at_, h⟩ => ?_
      simp only [evE, hg] at h
      exact post_ok at_.m (h6 _ _) h
  · exact Bool.noConfusion h
theorem okE_tup (es : List E) (i_Es_es : OkEs P I es) : OkE P I (.tup es) := by
  intro X W k sc C hs e h
  simp only [chkE] at h
  split at h
  · rename_i xs j pos
    refine pe_w (pe_tup (i_Es_es C hs xs h)) fun σ H Q ⟨ρ, ς, M, at_, h⟩ => ?_
    simp only [evE] at h
    refine ⟨ρ, ς, M, at_, le_bind at_ h fun ys M1 ρ1 vs H1 at1 g1 r1 h1 => ?_⟩
    split at h1
    · rename_i hz
      refine ⟨by rw [← r1.length]; exact hz, fun p hp => ?_⟩
      have g : Grow ρ1 H1 ρ1 (upd H1 p (.tup vs)) := Grow.laid hp
      exact h1 (.ref p) ρ1 _ g (.tup (SqT.of upd_same) (r1.mono g)) (at1.m.laid hp)
    · exact False.elim h1
  · exact Bool.noConfusion h
theorem okE_lst (o : Bool) (es : List E) (i_Es_es : OkEs P I es) : OkE P I (.lst o es) := by
  intro X W k sc C hs e h
  simp only [chkE] at h
  split at h
  · rename_i xs pos
    refine pe_w (pe_fz (pe_lst (i_Es_es C hs xs h))) fun σ H Q ⟨ρ, ς, M, at_, h⟩ => ?_
    simp only [evE] at h
    refine ⟨ρ, ς, M, at_, le_bind at_ h fun ys M1 ρ1 vs H1 at1 g1 r1 h1 => ?_⟩
    exact fin_lst at1.m r1 h1
  · exact Bool.noConfusion h
theorem okE_bin (o : Bool) (op : Operator) (a b : E) (i_E_a : OkE P I a) (i_E_b : OkE P I b) : OkE P I (.bin o op a b) := by
  intro X W k sc C hs e h
  simp only [chkE] at h
  split at h
  · rename_i l op' r pos
    simp only [Bool.and_eq_true, decide_eq_true_eq] at h
    obtain ⟨⟨rfl, h1⟩, h2⟩ := h
    refine pe_w (pe_fz (pe_op (op_binA op) (i_E_a C hs l h1) (i_E_b C hs r h2))) fun σ H Q ⟨ρ, ς, M, at_, h⟩ => ?_
    simp only [evE] at h
    refine ⟨ρ, ς, M, at_, le_bind at_ h fun x M1 ρ1 v H1 at1 g1 r1 h1 => ?_⟩
    refine ⟨ρ1, ς, M1, at1, le_bind at1 h1 fun y M2 ρ2 u H2 at2 g2 r2 h2 => ?_⟩
    exact binA_w at2.m (r1.mono g2) r2 h2
  · exact Bool.noConfusion h
theorem okE_neg (a : E) (i_E_a : OkE P I a) : OkE P I (.neg a) := by
  intro X W k sc C hs e h
  simp only [chkE] at h
  split at h
  · rename_i x pos
    refine pe_w (pe_un un_neg (i_E_a C hs x h)) fun σ H Q ⟨ρ, ς, M, at_, h⟩ => ?_
    simp only [evE] at h
    refine ⟨ρ, ς, M, at_, le_bind at_ h fun x M1 ρ1 v H1 at1 g1 r1 h1 => ?_⟩
    cases r1 with
    | int i => exact ⟨i, rfl, post_ok at1.m (.int _) h1⟩
    | _ => exact False.elim h1
  · exact Bool.noConfusion h
theorem okE_cmp (op : CmpOp) (a b : E) (i_E_a : OkE P I a) (i_E_b : OkE P I b) : OkE P I (.cmp op a b) := by
  intro X W k sc C hs e h
  simp only [chkE] at h
  split at h
  · rename_i l op' r pos
    simp only [Bool.and_eq_true, decide_eq_true_eq] at h
    obtain ⟨⟨⟨rfl, h0⟩, h1⟩, h2⟩ := h
    refine pe_w (pe_cmpR (op_cmpA C.wp C.ww C.units65 op) (i_E_a C hs l h1) (i_E_b C hs r h2) (noMark_of op h0)) fun σ H Q ⟨ρ, ς, M, at_, h⟩ => ?_
    simp only [evE] at h
    refine ⟨ρ, ς, M, at_, le_bind at_ h fun x M1 ρ1 v H1 at1 g1 r1 h1 => ?_⟩
    refine ⟨ρ1, ς, M1, at1, le_bind at1 h1 fun y M2 ρ2 u H2 at2 g2 r2 h2 => ?_⟩
    obtain ⟨kk, e, q⟩ := post_outB at2.m h2
    exact cmpB_w at2.m (r1.mono g2) r2 e q
  · exact Bool.noConfusion h
theorem okE_chain (op op2 : CmpOp) (a b c : E) (i_E_a : OkE P I a) (i_E_b : OkE P I b) (i_E_c : OkE P I c) : OkE P I (.chain op op2 a b c) := by
  intro X W k sc C hs e h
  simp only [chkE] at h
  split at h
  · rename_i l o1 o2 m r pos
    simp only [Bool.and_eq_true, decide_eq_true_eq] at h
    obtain ⟨⟨⟨⟨⟨rfl, rfl⟩, h0⟩, h1⟩, h2⟩, h3⟩ := h
    refine pe_w (pe_chain (op_cmpA C.wp C.ww C.units65 op) (op_cmpA C.wp C.ww C.units65 op2) (i_E_a C hs l h1) (i_E_b C hs m h2) (i_E_c C hs r h3) (noMark_of op2 h0)) fun σ H Q ⟨ρ, ς, M, at_, h⟩ => ?_
    simp only [evE] at h
    refine ⟨ρ, ς, M, at_, le_bind at_ h fun x M1 ρ1 v H1 at1 g1 r1 h1 => ?_⟩
    refine ⟨ρ1, ς, M1, at1, le_bind at1 h1 fun y M2 ρ2 u H2 at2 g2 r2 h2 => ?_⟩
    split at h2
    · rename_i e1
      refine cmpB_w at2.m (r1.mono g2) r2 e1 ⟨true, rfl, ?_⟩
      rw [if_pos rfl]
      refine ⟨ρ2, ς, M2, at2, le_bind at2 h2 fun z M3 ρ3 w H3 at3 g3 r3 h3 => ?_⟩
      obtain ⟨kk, e2, q⟩ := post_outB at3.m h3
      exact cmpB_w at3.m (r2.mono g3) r3 e2 q
    · rename_i e1
      refine cmpB_w at2.m (r1.mono g2) r2 e1 ⟨false, rfl, ?_⟩
      rw [if_neg (by decide)]
      exact post_ok at2.m (.bl false) h2
    · exact False.elim h2
  · exact Bool.noConfusion h
theorem okE_and (a b : E) (i_E_b : OkE P I b) (i_E_a : OkE P I a) : OkE P I (.and a b) := by
  intro X W k sc C hs e h
  simp only [chkE] at h
  split at h
  · rename_i x y r p
    simp only [Bool.and_eq_true] at h
    have hb : PE X (.BoolOp .And (y :: r) p) (LE X.K X.mg W (evE P b)) := by
      cases r with
      | nil => exact pe_one (i_E_b C hs y h.2)
      | cons z r => exact i_E_b C hs _ h.2
    refine pe_w (pe_and (i_E_a C hs x h.1) hb) fun σ H Q ⟨ρ, ς, M, at_, h⟩ => ?_
    simp only [evE] at h
    refine ⟨ρ, ς, M, at_, le_bind at_ h fun x M1 ρ1 v H1 at1 g1 r1 h1 => ?_⟩
    cases r1 with
    | bl c =>
      cases c with
      | true => exact ⟨true, rfl, by rw [if_pos rfl]; exact ⟨ρ1, ς, M1, at1, h1⟩⟩
      | false => exact ⟨false, rfl, by rw [if_neg (by decide)]; exact post_ok at1.m (.bl false) h1⟩
    | _ => exact False.elim h1
  · exact Bool.noConfusion h
theorem okE_or (a b : E) (i_E_b : OkE P I b) (i_E_a : OkE P I a) : OkE P I (.or a b) := by
  intro X W k sc C hs e h
  simp only [chkE] at h
  split at h
  · rename_i x y r p
    simp only [Bool.and_eq_true] at h
    have hb : PE X (.BoolOp .Or (y :: r) p) (LE X.K X.mg W (evE P b)) := by
      cases r with
      | nil => exact pe_one (i_E_b C hs y h.2)
      | cons z r => exact i_E_b C hs _ h.2
    refine pe_w (pe_or (i_E_a C hs x h.1) hb) fun σ H Q ⟨ρ, ς, M, at_, h⟩ => ?_
    simp only [evE] at h
    refine ⟨ρ, ς, M, at_, le_bind at_ h fun x M1 ρ1 v H1 at1 g1 r1 h1 => ?_⟩
    cases r1 with
    | bl c =>
      cases c with
      | false => exact ⟨false, rfl, by rw [if_neg (by decide)]; exact ⟨ρ1, ς, M1, at1, h1⟩⟩
      | true => exact ⟨true, rfl, by rw [if_pos rfl]; exact post_ok at1.m (.bl true) h1⟩
    | _ => exact False.elim h1
  · exact Bool.noConfusion h
theorem okE_not (a : E) (i_E_a : OkE P I a) : OkE P I (.not a) := by
  intro X W k sc C hs e h
  simp only [chkE] at h
  split at h
  · rename_i x pos
    refine pe_w (pe_not (i_E_a C hs x h)) fun σ H Q ⟨ρ, ς, M, at_, h⟩ => ?_
    simp only [evE] at h
    refine ⟨ρ, ς, M, at_, le_bind at_ h fun x M1 ρ1 v H1 at1 g1 r1 h1 => ?_⟩
    cases r1 with
    | bl c => exact ⟨c, rfl, post_ok at1.m (.bl _) h1⟩
    | _ => exact False.elim h1
  · exact Bool.noConfusion h
theorem okE_ite (c a b : E) (i_T_c : OkT P I c) (i_E_a : OkE P I a) (i_E_b : OkE P I b) : OkE P I (.ite c a b) := by
  intro X W k sc C hs e h
  simp only [chkE] at h
  split at h
  · rename_i c' x y pos
    simp only [Bool.and_eq_true] at h
    refine pe_w (pe_ifExp (i_T_c C hs c' h.1.1) (i_E_a C hs x h.1.2) (i_E_b C hs y h.2)) fun σ H Q ⟨ρ, ς, M, at_, h⟩ => ?_
    simp only [evE] at h
    refine ⟨ρ, ς, M, at_, le_bind at_ h fun t M1 ρ1 v H1 at1 g1 r1 h1 => ?_⟩
    have r1' : t = v := r1
    subst r1'
    cases t with
    | true => rw [if_pos rfl] at h1 ⊢; exact ⟨ρ1, ς, M1, at1, h1⟩
    | false => rw [if_neg (by decide)] at h1 ⊢; exact ⟨ρ1, ς, M1, at1, h1⟩
  · exact Bool.noConfusion h
theorem okE_call (f : Str) (es : List E) (i_Es_es : OkEs P I es) : OkE P I (.call f es) := by
  intro X W k sc C hs e h
  simp only [chkE] at h
  split at h
  · rename_i g p xs pos
    simp only [Bool.and_eq_true, decide_eq_true_eq] at h
    obtain ⟨⟨⟨⟨⟨rfl, h1⟩, hk⟩, h2⟩, h3⟩, h4⟩ := h
    have hkw : f ∉ I.kwo := by simpa using hk
    have hg : Gl X f := hs.gl f h2
    cases xs with
    | nil =>
      cases es with
      | nil =>
        refine pe_w (pe_callG0 C h1 hkw hg h3) fun σ H Q ⟨ρ, ς, M, at_, h⟩ => ?_
        simp only [evE, evEs, Out.bind_ok] at h
        exact ⟨ρ, M, at_.m, h⟩
      | cons _ _ => simp [chkEs] at h4
    | cons x xs =>
      refine pe_w (pe_callG C h1 hkw hg h3 (chkEs_plain es _ h4) (i_Es_es C hs _ h4)) fun σ H Q ⟨ρ, ς, M, at_, h⟩ => ?_
      simp only [evE] at h
      exact ⟨ρ, ς, M, at_, le_bind at_ h fun ys M1 ρ1 vs H1 at1 g1 r1 h1 => ⟨ρ1, M1, ys, r1, at1.m, h1⟩⟩
  · exact Bool.noConfusion h
/-- every one of a list evaluated -/
def OkAllE (P : Par) (I : Inf) (ms : List E) : Prop := ∀ m ∈ ms, OkE P I m
theorem okKs : ∀ (ms : List E), OkAllE P I ms → ∀ {X : Cx} {W : WX} {k : Nat} {sc : Scope}, Ctx X I P W k → Sub sc X → ∀ kws : List Keyword, chkEs I X.N sc ms (kws.map (·.value)) = true → PK X kws (LA X.K X.mg W (evEs P ms))
  | [], _, X, W, k, sc, C, hs, kws, h => by
    cases kws with
    | nil =>
      refine ⟨fun pos pins s σ H Q J ⟨ρ, ς, M, at_, h⟩ => ?_⟩
      simp only [evEs] at h
      exact (pk_nil (X := X)).run pos pins s σ H Q J (post_ok (R := RepAll X.K) at_.m .nil h)
    | cons _ _ => simp [chkEs] at h
  | m :: ms, i, X, W, k, sc, C, hs, kws, h => by
    cases kws with
    | nil => simp [chkEs] at h
    | cons kw kws =>
      obtain ⟨a, v, p⟩ := kw
      simp only [List.map_cons, chkEs, Bool.and_eq_true] at h
      refine ⟨fun pos pins s σ H Q J ⟨ρ, ς, M, at_, hh⟩ => (pk_cons (i m List.mem_cons_self C hs v h.1.2) (okKs ms (fun m hm => i m (List.mem_cons_of_mem _ hm)) C hs kws h.2)).run pos pins s σ H Q J ?_⟩
      simp only [evEs] at hh
      refine ⟨ρ, ς, M, at_, le_bind at_ hh fun x M1 ρ1 v H1 at1 g1 r1 h1 => ?_⟩
      refine ⟨ρ1, ς, M1, at1, le_bind at1 h1 fun xs M2 ρ2 vs H2 at2 g2 r2 h2 => ?_⟩
      exact post_ok (R := RepAll X.K) at2.m (.cons (r1.mono g2) r2) h2
theorem okPs : ∀ (n : Nat) (ms : List E), ms.length ≤ n → OkAllE P I ms → ∀ {X : Cx} {W : WX} {k : Nat} {sc : Scope}, Ctx X I P W k → Sub sc X → ∀ (pos : Pos) (ks : List (Option Expr)) (vs : List Expr), chkEs I X.N sc ms (altE ks vs) = true → ks.length = vs.length → ks.all (·.isSome) = true → PPL X W pos ks vs (evEs P ms)
  | n, [], _, _, X, W, k, sc, C, hs, pos, ks, vs, h, hl, ha => by
    cases ks with
    | nil =>
      cases vs with
      | nil => exact ppl_nil
      | cons _ _ => simp at hl
    | cons k1 ks =>
      cases vs with
      | nil => simp at hl
      | cons v1 vs =>
        cases k1 with
        | none => simp at ha
        | some k1 => simp [altE, chkEs] at h
  | n, [m], _, _, X, W, k, sc, C, hs, pos, ks, vs, h, hl, ha => by
    cases ks with
    | nil => simp [altE, chkEs] at h
    | cons k1 ks =>
      cases vs with
      | nil => simp at hl
      | cons v1 vs =>
        cases k1 with
        | none => simp at ha
        | some k1 => simp [altE, chkEs] at h
  | 0, m1 :: m2 :: ms, hn, _, X, W, k, sc, C, hs, pos, ks, vs, h, hl, ha => by simp at hn
  | n + 1, m1 :: m2 :: ms, hn, i, X, W, k, sc, C, hs, pos, ks, vs, h, hl, ha => by
    cases ks with
    | nil => simp [altE, chkEs] at h
    | cons k1 ks =>
      cases vs with
      | nil => simp at hl
      | cons v1 vs =>
        cases k1 with
        | none => simp at ha
        | some k1 =>
          simp only [altE, chkEs, Bool.and_eq_true] at h
          simp only [List.length_cons] at hn hl
          rw [List.all_cons, Bool.and_eq_true] at ha
          exact ppl_cons (i m1 List.mem_cons_self C hs k1 h.1.2) (i m2 (List.mem_cons_of_mem _ List.mem_cons_self) C hs v1 h.2.1.2) (okPs n ms (by omega) (fun m hm => i m (List.mem_cons_of_mem _ (List.mem_cons_of_mem _ hm))) C hs pos ks vs h.2.2 (by omega) ha.2)
theorem okE_callK (f : Str) (n : Nat) (ks : List Str) (es kes : List E) (i_Es_es : OkEs P I es) (i_kes : OkAllE P I kes) : OkE P I (.callK f n ks es kes) := by
  intro X W k sc C hs e h
  simp only [chkE] at h
  split at h
  · rename_i g p xs kws pos
    simp only [Bool.and_eq_true, decide_eq_true_eq] at h
    obtain ⟨⟨⟨⟨⟨⟨rfl, h1⟩, h2⟩, h3⟩, h4⟩, h5⟩, h6⟩ := h
    have hg : Gl X f := hs.gl f h2
    have pk := okKs kes i_kes C hs kws h6
    obtain ⟨c0, c1⟩ := pe_callKG C (p := p) (pos := pos) (n := n) h1 hg h3 pk h4
    cases xs with
    | nil =>
      cases es with
      | nil =>
        refine pe_w c0 fun σ H Q ⟨ρ, ς, M, at_, h⟩ => ?_
        simp only [evE, evEs, Out.bind_ok] at h
        exact ⟨ρ, ς, M, at_, le_bind at_ h fun zs M1 ρ1 ws H1 at1 g1 r1 h1 => ⟨ρ1, M1, [], zs, .nil, r1, at1.m, h1⟩⟩
      | cons _ _ => simp [chkEs] at h5
    | cons x xs =>
      refine pe_w (c1 (chkEs_plain es _ h5) (i_Es_es C hs _ h5)) fun σ H Q ⟨ρ, ς, M, at_, h⟩ => ?_
      simp only [evE] at h
      refine ⟨ρ, ς, M, at_, le_bind at_ h fun ys M1 ρ1 vs H1 at1 g1 r1 h1 => ?_⟩
      exact ⟨ρ1, ς, M1, at1, le_bind at1 h1 fun zs M2 ρ2 ws H2 at2 g2 r2 h2 => ⟨ρ2, M2, ys, zs, r1.mono g2, r2, at2.m, h2⟩⟩
  · exact Bool.noConfusion h
theorem dsp_eq (P : Par) (t o : Bool) (a b : E) (kvs : List E) : evE P (.dsp t o a b kvs) = fun ς M => (evEs P (a :: b :: kvs) ς M).bind fun xs M1 => dspA t o xs M1 := by
  funext ς M
  simp only [evE, evEs]
  cases evE P a ς M with
  | ok x M1 =>
    simp only [Out.bind_ok]
    cases evE P b ς M1 with
    | ok y M2 =>
      simp only [Out.bind_ok]
      cases evEs P kvs ς M2 <;> rfl
    | exc _ _ => rfl
    | stuck => rfl
  | exc _ _ => rfl
  | stuck => rfl
theorem okE_dsp (t o : Bool) (a b : E) (kvs : List E) (i_a : OkE P I a) (i_b : OkE P I b) (i_kvs : OkAllE P I kvs) : OkE P I (.dsp t o a b kvs) := by
  intro X W k sc C hs e h
  simp only [chkE] at h
  split at h
  · rename_i k1 ks v1 vs pos
    simp only [Bool.and_eq_true, decide_eq_true_eq] at h
    obtain ⟨⟨⟨⟨⟨h1, h2⟩, h3⟩, h4⟩, h5⟩, h6⟩ := h
    rw [dsp_eq]
    refine pe_dspA C (ppl_cons (i_a C hs k1 h2) (i_b C hs v1 h3) (okPs kvs.length kvs (Nat.le_refl _) i_kvs C hs pos ks vs h4 h5 h6)) ?_ (by simp [h5]) (by simp) (by simp; omega)
    rw [List.all_cons, h6]; rfl
  · exact Bool.noConfusion h
theorem rev_rep {K : PySem.W.Frag} {ρ : List Addr} {H : Hp} : ∀ {xs : List A} {vs : List V}, RepAll K ρ H xs vs → RepAll K ρ H xs.reverse vs.reverse
  | _, _, .nil => .nil
  | _, _, .cons r1 r2 => by simpa using (rev_rep r2).append (.cons r1 .nil)
theorem okE_rev (o : Bool) (a : E) (i_a : OkE P I a) : OkE P I (.rev o a) := by
  intro X W k sc C hs e h
  simp only [chkE] at h
  split at h
  · rename_i x j p1 p2 p3 pos
    refine pe_w (pe_fz (pe_revL (i_a C hs x h))) fun σ H Q ⟨ρ, ς, M, at_, h⟩ => ?_
    simp only [evE] at h
    refine ⟨ρ, ς, M, at_, le_bind at_ h fun y M1 ρ1 v H1 at1 g1 r1 h1 => ?_⟩
    unfold revA at h1
    split at h1
    · rename_i xs e1
      obtain ⟨q, vs, rfl, s, rr⟩ := Rep.asL at1.m r1 e1
      exact ⟨q, vs, rfl, s.sq, (fin_lst at1.m (rev_rep rr) h1).2⟩
    · exact False.elim h1
  · exact Bool.noConfusion h
theorem okE_gix (x : Str) (i : E) (i_i : OkE P I i) : OkE P I (.gix x i) := by
  intro X W k sc C hs e h
  simp only [chkE] at h
  split at h
  · rename_i y p1 b pos
    simp only [Bool.and_eq_true, decide_eq_true_eq] at h
    obtain ⟨⟨⟨⟨⟨rfl, h0⟩, h1⟩, h2⟩, h3⟩, h4⟩ := h
    obtain ⟨l, hg, p, e1, e2⟩ := C.gq x h0
    have pg : PE X (.Name x p1) (tC (.ref p)) := pe_glob (hs.gl x h1) e1 rfl (okName_ok h2).1
    refine pe_w (pe_ix L2.ix_kdict pg (i_i C hs b h4) (plainIx_of h3)) fun σ H Q ⟨ρ, ς, M, at_, h⟩ => ?_
    simp only [evE, hg] at h
    show tC (.ref p) σ H _
    refine ⟨ρ, ς, M, at_, le_bind at_ h fun y M1 ρ1 v H1 at1 g1 r1 h1 => ?_⟩
    cases r1 with
    | str z =>
      obtain ⟨a, ea, q⟩ := post_outV (Q := Q) at1.m h1
      obtain ⟨u, k1, k2⟩ := e2 z a ea
      exact ⟨p, z, u, rfl, rfl, k1, q u (k2 ρ1 H1)⟩
    | _ => exact False.elim h1
  · exact Bool.noConfusion h
theorem okE_blt (o : Bool) (f : B) (es : List E) (i_Es_es : OkEs P I es) : OkE P I (.blt o f es) := by
  intro X W k sc C hs e h
  simp only [chkE] at h
  split at h
  · rename_i g p x xs pos
    simp only [Bool.and_eq_true, decide_eq_true_eq] at h
    obtain ⟨⟨rfl, h1⟩, h2⟩ := h
    obtain ⟨b1, b2, b3⟩ := hasB_ok h1
    have hn := okName_ok b3
    have hp := chkEs_plain es _ h2
    rw [List.all_cons, Bool.and_eq_true] at hp
    have hpe : PE X (.Call (.Name (Str.ofString f.nm) p) (x :: xs) [] pos) (tCB (rBlt f X.K) (LA X.K X.mg W (evEs P es))) := by
      have hc := call_blt (X := X) C.sys C.calm C.gd C.units f
      have hb := boot_blt f
      have ha := i_Es_es C hs _ h2
      cases f with
      | int => exact pe_callTy hc (hs.gl _ b1) (C.bl _ b2) hb ha hn.2.2 hn.1 (star_plain hp.1) (starAny xs _ pos hp.2)
      | list => exact pe_callTy hc (hs.gl _ b1) (C.bl _ b2) hb ha hn.2.2 hn.1 (star_plain hp.1) (starAny xs _ pos hp.2)
      | tuple => exact pe_callTy hc (hs.gl _ b1) (C.bl _ b2) hb ha hn.2.2 hn.1 (star_plain hp.1) (starAny xs _ pos hp.2)
      | str => exact pe_callTy hc (hs.gl _ b1) (C.bl _ b2) hb ha hn.2.2 hn.1 (star_plain hp.1) (starAny xs _ pos hp.2)
      | _ => exact pe_callB hc (hs.gl _ b1) (C.bl _ b2) hb ha hn.2.2 hn.1 (star_plain hp.1) (starAny xs _ pos hp.2)
    refine pe_w (pe_fz hpe) fun σ H Q ⟨ρ, ς, M, at_, h⟩ => ?_
    simp only [evE] at h
    exact ⟨ρ, ς, M, at_, le_bind at_ h fun ys M1 ρ1 vs H1 at1 g1 r1 h1 => bltA_w at1.m r1 h1⟩
  · exact Bool.noConfusion h
theorem okE_isi (a : E) (c : Ty) (i_E_a : OkE P I a) : OkE P I (.isi a c) := by
  intro X W k sc C hs e h
  simp only [chkE] at h
  split at h
  · rename_i g p x d p2 pos
    simp only [Bool.and_eq_true, decide_eq_true_eq] at h
    obtain ⟨⟨⟨⟨⟨⟨rfl, h1⟩, rfl⟩, h2⟩, h3⟩, h4⟩, h5⟩ := h
    obtain ⟨b1, b2, b3⟩ := hasB_ok h1
    obtain ⟨c1, c2, c3⟩ := hasB_ok h2
    have hn := okName_ok b3
    have hn2 := okName_ok c3
    have hd : PE X (.Name (Str.ofString c.nm) p2) (tC (.ty c.nm)) := pe_bltn (hs.gl _ c1) (C.bl _ c2) (boot_ty c h3) rfl hn2.2.2 hn2.1
    refine pe_w (pe_callB call_isiX (hs.gl _ b1) (C.bl _ b2) (by decide +kernel) (pa_cons (i_E_a C hs x h5) (pa_cons hd pa_nil) (star_plain h4)) hn.2.2 hn.1 (star_plain h4) (by rfl)) fun σ H Q ⟨ρ, ς, M, at_, h⟩ => ?_
    simp only [evE] at h
    exact ⟨ρ, ς, M, at_, le_bind at_ h fun y M1 ρ1 v H1 at1 g1 r1 h1 => isi_w h3 at1.m r1 h1⟩
  · exact Bool.noConfusion h
theorem okE_idx (a i : E) (i_E_a : OkE P I a) (i_E_i : OkE P I i) : OkE P I (.idx a i) := by
  intro X W k sc C hs e h
  simp only [chkE] at h
  split at h
  · rename_i x y pos
    simp only [Bool.and_eq_true] at h
    refine pe_w (pe_ix (ix_X C.wp C.ww C.units65) (i_E_a C hs x h.1.2) (i_E_i C hs y h.2) (plainIx_of h.1.1)) fun σ H Q ⟨ρ, ς, M, at_, h⟩ => ?_
    simp only [evE] at h
    refine ⟨ρ, ς, M, at_, le_bind at_ h fun x M1 ρ1 v H1 at1 g1 r1 h1 => ?_⟩
    refine ⟨ρ1, ς, M1, at1, le_bind at1 h1 fun y M2 ρ2 u H2 at2 g2 r2 h2 => ?_⟩
    exact idxA_w at2.m (r1.mono g2) r2 h2
  · exact Bool.noConfusion h
theorem okE_slice (o : Bool) (a : E) (lo hi : Option E) (i_E_a : OkE P I a) (i_O_lo : OkO P I lo) (i_O_hi : OkO P I hi) : OkE P I (.slice o a lo hi) := by
  intro X W k sc C hs e h
  simp only [chkE] at h
  split at h
  · rename_i x l u p2 pos
    simp only [Bool.and_eq_true] at h
    refine pe_w (pe_fz (pe_slice sl_X (i_E_a C hs x h.1.1) (i_O_lo C hs l h.1.2) (i_O_hi C hs u h.2))) fun σ H Q ⟨ρ, ς, M, at_, h⟩ => ?_
    simp only [evE] at h
    refine ⟨ρ, ς, M, at_, le_bind at_ h fun x M1 ρ1 v H1 at1 g1 r1 h1 => ?_⟩
    refine ⟨ρ1, ς, M1, at1, le_bind at1 h1 fun l M2 ρ2 l' H2 at2 g2 r2 h2 => ?_⟩
    refine ⟨ρ2, ς, M2, at2, le_bind at2 h2 fun u M3 ρ3 u' H3 at3 g3 r3 h3 => ?_⟩
    have r2' : l = l' := r2
    have r3' : u = u' := r3
    subst r2' r3'
    exact sliceA_w at3.m ((r1.mono g2).mono g3) h3
  · exact Bool.noConfusion h
theorem okE_lc (o : Bool) (vs : List Nat) (elt : E) (tg : Tg) (it : It) (ifs : List E) (i_I_it : OkI P I it) (i_Ts_ifs : OkTs P I ifs) (i_E_elt : OkE P I elt) : OkE P I (.lc o vs elt tg it ifs) := by
  intro X W k sc C hs e h
  simp only [chkE] at h
  split at h
  · rename_i x t i fs scope pos
    simp only [Bool.and_eq_true, List.all_eq_true, decide_eq_true_eq] at h
    obtain ⟨⟨⟨⟨⟨⟨h1, h2⟩, h3⟩, h4⟩, h5⟩, h6⟩, h7⟩ := h
    have ok : BlkOk X.N X.env.scope scope (ownOf X.N vs) := hs.blkC h3
    have hi := i_I_it C hs t i h5
    have e2 : (ownOf X.N vs).map (·.2) = vs := by
      unfold ownOf
      rw [List.map_map]
      simp [Function.comp_def]
    have hg : ∀ (s : Shared) (H : Hp) (Ca : Addr) (cl : List (Str × Addr)) (fp : List Addr), PG (X.blk s H scope (compEnvC scope cl Ca X.env) fp) t (LG X.K tg) := fun s H Ca cl fp => tg_ok (Sub.blk scope s H Ca cl fp) C.calm C.nd tg t h4
    have ht : ∀ (s : Shared) (H : Hp) (Ca : Addr) (cl : List (Str × Addr)) (fp : List Addr), PTs (X.blk s H scope (compEnvC scope cl Ca X.env) fp) fs (LT X.K X.mg WX0 (evTs P ifs)) := fun s H Ca cl fp => i_Ts_ifs (C.blk s H scope _ fp) (Sub.blk scope s H Ca cl fp) fs h6
    have he : ∀ (s : Shared) (H : Hp) (Ca : Addr) (cl : List (Str × Addr)) (fp : List Addr), PE (X.blk s H scope (compEnvC scope cl Ca X.env) fp) x (LE X.K X.mg WX0 (evE P elt)) := fun s H Ca cl fp => i_E_elt (C.blk s H scope _ fp) (Sub.blk scope s H Ca cl fp) x h7
    have pe := pe_lc (pos := pos) C.calm C.nd hi ok hg ht he (noFold_of h1)
    rw [e2] at pe
    refine pe_w (pe_fz pe) fun σ H Q hq => ?_
    refine pe_lcA (o := o) C hs h1 h2 ok hi hg ht he σ H Q ?_
    obtain ⟨ρ, ς, M, at_, hq⟩ := hq
    simp only [evE] at hq
    exact ⟨ρ, ς, M, at_, hq⟩
  · exact Bool.noConfusion h
theorem okE_meth (m : Mth) (a : E) (es : List E) (i_E_a : OkE P I a) (i_Es_es : OkEs P I es) : OkE P I (.meth m a es) := by
  intro X W k sc C hs e h
  simp only [chkE] at h
  split at h
  · rename_i o n ap x xs cp
    simp only [Bool.and_eq_true, decide_eq_true_eq] at h
    obtain ⟨⟨⟨⟨⟨rfl, h1⟩, h2⟩, h3⟩, h4⟩, h5⟩ := h
    have hp := chkEs_plain es _ h5
    have hp' := hp
    rw [List.all_cons, Bool.and_eq_true] at hp
    cases m with
    | append =>
      refine pe_w (pe_bm (T := "list") PySem.F.plainAttrs_list PySem.F.slot_list_append PySem.F.type_list_append mt_append (i_E_a C hs o h4) (i_Es_es C hs _ h5) (base_ok h1) ?_ h2 (star_plain hp.1) (starAny xs _ cp hp.2)) fun σ H Q ⟨ρ, ς, M, at_, h⟩ => ?_
      · rw [starAll _ _ _ hp']
        simp [keywordEach, backToKw]
        omega
      · simp only [evE] at h
        refine ⟨ρ, ς, M, at_, le_bind at_ h fun y M1 ρ1 v H1 at1 g1 r1 h1 => ?_⟩
        split at h1
        · rename_i hr
          have hl : tyV X.K "list" v H1 := by
            cases e2 : asL M1 y with
            | none => simp [recvOk, e2] at hr
            | some ys =>
              obtain ⟨p, vs, rfl, s, _⟩ := Rep.asL at1.m r1 e2
              exact .inl ⟨rfl, vs, s.sq⟩
          refine ⟨hl, ρ1, ς, M1, at1, le_bind at1 h1 fun ys M2 ρ2 vs H2 at2 g2 r2 h2 => ?_⟩
          exact (appA_w at2.m (r1.mono g2) r2 h2).2
        · exact False.elim h1
    | insert =>
      refine pe_w (pe_bm (T := "list") PySem.F.plainAttrs_list PySem.F.slot_list_insert PySem.F.type_list_insert mt_insert (i_E_a C hs o h4) (i_Es_es C hs _ h5) (base_ok h1) ?_ h2 (star_plain hp.1) (starAny xs _ cp hp.2)) fun σ H Q ⟨ρ, ς, M, at_, h⟩ => ?_
      · rw [starAll _ _ _ hp']
        simp [keywordEach, backToKw]
        omega
      · simp only [evE] at h
        refine ⟨ρ, ς, M, at_, le_bind at_ h fun y M1 ρ1 v H1 at1 g1 r1 h1 => ?_⟩
        split at h1
        · rename_i hr
          have hl : tyV X.K "list" v H1 := by
            cases e2 : asL M1 y with
            | none => simp [recvOk, e2] at hr
            | some ys =>
              obtain ⟨p, vs, rfl, s, _⟩ := Rep.asL at1.m r1 e2
              exact .inl ⟨rfl, vs, s.sq⟩
          refine ⟨hl, ρ1, ς, M1, at1, le_bind at1 h1 fun ys M2 ρ2 vs H2 at2 g2 r2 h2 => ?_⟩
          exact (insA_w at2.m (r1.mono g2) r2 h2).2
        · exact False.elim h1
    | pop =>
      refine pe_w (pe_bm (T := "list") PySem.F.plainAttrs_list PySem.F.slot_list_pop PySem.F.type_list_pop mt_popAt (i_E_a C hs o h4) (i_Es_es C hs _ h5) (base_ok h1) ?_ h2 (star_plain hp.1) (starAny xs _ cp hp.2)) fun σ H Q ⟨ρ, ς, M, at_, h⟩ => ?_
      · rw [starAll _ _ _ hp']
        simp [keywordEach, backToKw]
        omega
      · simp only [evE] at h
        refine ⟨ρ, ς, M, at_, le_bind at_ h fun y M1 ρ1 v H1 at1 g1 r1 h1 => ?_⟩
        split at h1
        · rename_i hr
          have hl : tyV X.K "list" v H1 := by
            cases e2 : asL M1 y with
            | none => simp [recvOk, e2] at hr
            | some ys =>
              obtain ⟨p, vs, rfl, s, _⟩ := Rep.asL at1.m r1 e2
              exact .inl ⟨rfl, vs, s.sq⟩
          refine ⟨hl, ρ1, ς, M1, at1, le_bind at1 h1 fun ys M2 ρ2 vs H2 at2 g2 r2 h2 => ?_⟩
          exact popA_w at2.m (r1.mono g2) r2 h2
        · exact False.elim h1
    | extend =>
      refine pe_w (pe_bm (T := "list") PySem.F.plainAttrs_list PySem.F.slot_list_extend PySem.F.type_list_extend mt_extX (i_E_a C hs o h4) (i_Es_es C hs _ h5) (base_ok h1) ?_ h2 (star_plain hp.1) (starAny xs _ cp hp.2)) fun σ H Q ⟨ρ, ς, M, at_, h⟩ => ?_
      · rw [starAll _ _ _ hp']
        simp [keywordEach, backToKw]
        omega
      · simp only [evE] at h
        refine ⟨ρ, ς, M, at_, le_bind at_ h fun y M1 ρ1 v H1 at1 g1 r1 h1 => ?_⟩
        split at h1
        · rename_i hr
          have hl : tyV X.K "list" v H1 := by
            cases e2 : asL M1 y with
            | none => simp [recvOk, e2] at hr
            | some ys =>
              obtain ⟨p, vs, rfl, s, _⟩ := Rep.asL at1.m r1 e2
              exact .inl ⟨rfl, vs, s.sq⟩
          refine ⟨hl, ρ1, ς, M1, at1, le_bind at1 h1 fun ys M2 ρ2 vs H2 at2 g2 r2 h2 => ?_⟩
          exact extA_w at2.m (r1.mono g2) r2 h2
        · exact False.elim h1
    | get =>
      refine pe_w (pe_bmD PySem.F.slot_dict_get PySem.F.type_dict_get (mt_getD C.wp C.ww C.units65) (i_E_a C hs o h4) (i_Es_es C hs _ h5) h1 h2 h3 hp') fun σ H Q ⟨ρ, ς, M, at_, h⟩ => ?_
      simp only [evE] at h
      refine ⟨ρ, ς, M, at_, le_bind at_ h fun y M1 ρ1 v H1 at1 g1 r1 h1 => ?_⟩
      split at h1
      · rename_i hr
        obtain ⟨kvs, e2⟩ := Option.isSome_iff_exists.mp (show (asD M1 y).isSome = true from hr)
        obtain ⟨d, e3, dr⟩ := Rep.asD at1.m r1 e2
        refine ⟨⟨ρ1, kvs, d, e3, dr⟩, ρ1, ς, M1, at1, le_bind at1 h1 fun ys M2 ρ2 vs H2 at2 g2 r2 h2 => ?_⟩
        exact getA_w at2.m (r1.mono g2) r2 h2
      · exact False.elim h1
  · exact Bool.noConfusion h
theorem okE_frzv (a : E) (i_E_a : OkE P I a) : OkE P I (.frzv a) := by
  intro X W k sc C hs e h
  simp only [chkE, Bool.and_eq_true] at h
  refine pe_w (pe_fz (i_E_a C hs e h.2)) fun σ H Q ⟨ρ, ς, M, at_, h⟩ => ?_
  simp only [evE] at h
  exact ⟨ρ, ς, M, at_, le_bind at_ h fun y M1 ρ1 v H1 at1 g1 r1 h1 => frzA_w at1.m r1 h1⟩
theorem okEs_nil   : OkEs P I [] := by
  intro X W k sc C hs es h
  cases es with
  | nil =>
    refine pa_w pa_nil fun σ H Q ⟨ρ, ς, M, at_, h⟩ => ?_
    simp only [evEs] at h
    exact post_ok at_.m .nil h
  | cons _ _ => simp [chkEs] at h
theorem okEs_cons (m : E) (ms : List E) (i_E_m : OkE P I m) (i_Es_ms : OkEs P I ms) : OkEs P I (m :: ms) := by
  intro X W k sc C hs es h
  cases es with
  | nil => simp [chkEs] at h
  | cons e es =>
    simp only [chkEs, Bool.and_eq_true] at h
    refine pa_w (pa_cons (i_E_m C hs e h.1.2) (i_Es_ms C hs es h.2) (star_plain h.1.1)) fun σ H Q ⟨ρ, ς, M, at_, h⟩ => ?_
    simp only [evEs] at h
    refine ⟨ρ, ς, M, at_, le_bind at_ h fun x M1 ρ1 v H1 at1 g1 r1 h1 => ?_⟩
    refine ⟨ρ1, ς, M1, at1, le_bind at1 h1 fun xs M2 ρ2 vs H2 at2 g2 r2 h2 => ?_⟩
    exact post_ok at2.m (.cons (r1.mono g2) r2) h2
theorem okT_and (a b : E) (i_T_b : OkT P I b) (i_T_a : OkT P I a) : OkT P I (.and a b) := by
  intro X W k sc C hs e h
  simp only [chkE] at h
  split at h
  · rename_i x y r p
    simp only [Bool.and_eq_true] at h
    have hb : PW X (.BoolOp .And (y :: r) p) (LT X.K X.mg W (evT P b)) := by
      cases r with
      | nil => exact pw_and1 (i_T_b C hs y h.2)
      | cons z r => exact pw_of_bool (i_T_b C hs _ h.2)
    refine pt_w (PW.pt (pw_and (i_T_a C hs x h.1) hb)) fun σ H Q ⟨ρ, ς, M, at_, h⟩ => ?_
    simp only [evT] at h
    refine ⟨ρ, ς, M, at_, le_bind at_ h fun t M1 ρ1 v H1 at1 g1 r1 h1 => ?_⟩
    have r1' : t = v := r1
    subst r1'
    cases t with
    | true => rw [if_pos rfl] at h1 ⊢; exact ⟨ρ1, ς, M1, at1, h1⟩
    | false => rw [if_neg (by decide)] at h1 ⊢; exact post_ok at1.m rfl h1
  · exact Bool.noConfusion h
theorem okT_or (a b : E) (i_T_b : OkT P I b) (i_T_a : OkT P I a) : OkT P I (.or a b) := by
  intro X W k sc C hs e h
  simp only [chkE] at h
  split at h
  · rename_i x y r p
    simp only [Bool.and_eq_true] at h
    have hb : PW X (.BoolOp .Or (y :: r) p) (LT X.K X.mg W (evT P b)) := by
      cases r with
      | nil => exact pw_or1 (i_T_b C hs y h.2)
      | cons z r => exact pw_of_bool (i_T_b C hs _ h.2)
    refine pt_w (PW.pt (pw_or (i_T_a C hs x h.1) hb)) fun σ H Q ⟨ρ, ς, M, at_, h⟩ => ?_
    simp only [evT] at h
    refine ⟨ρ, ς, M, at_, le_bind at_ h fun t M1 ρ1 v H1 at1 g1 r1 h1 => ?_⟩
    have r1' : t = v := r1
    subst r1'
    cases t with
    | true => rw [if_pos rfl] at h1 ⊢; exact post_ok at1.m rfl h1
    | false => rw [if_neg (by decide)] at h1 ⊢; exact ⟨ρ1, ς, M1, at1, h1⟩
  · exact Bool.noConfusion h
theorem okT_not (a : E) (i_T_a : OkT P I a) : OkT P I (.not a) := by
  intro X W k sc C hs e h
  simp only [chkE] at h
  split at h
  · rename_i x pos
    refine pt_w (pt_not (i_T_a C hs x h)) fun σ H Q ⟨ρ, ς, M, at_, h⟩ => ?_
    simp only [evT] at h
    refine ⟨ρ, ς, M, at_, le_bind at_ h fun t M1 ρ1 v H1 at1 g1 r1 h1 => ?_⟩
    have r1' : t = v := r1
    subst r1'
    exact post_ok at1.m rfl h1
  · exact Bool.noConfusion h
theorem okT_ite (c a b : E) (i_T_c : OkT P I c) (i_T_a : OkT P I a) (i_T_b : OkT P I b) : OkT P I (.ite c a b) := by
  intro X W k sc C hs e h
  simp only [chkE] at h
  split at h
  · rename_i c' x y pos
    simp only [Bool.and_eq_true] at h
    have hc := i_T_c C hs c' h.1.1
    have ha := i_T_a C hs x h.1.2
    have hb := i_T_b C hs y h.2
    refine ⟨fun pins s σ H Q J hq => ?_⟩
    obtain ⟨ρ, ς, M, at_, hq⟩ := hq
    simp only [evT] at hq
    show wpAny _ _ (do if ← isTrue c' X.env (eval c' X.env) then isTrue x X.env (eval x X.env) else isTrue y X.env (eval y X.env)) _ _ s
    refine wpAny_bind (thn (hc.run pins s σ H _ J ⟨ρ, ς, M, at_, le_bind at_ hq (Q' := fun t H1 => if t = true then LT X.K X.mg W (evT P a) σ H1 Q else LT X.K X.mg W (evT P b) σ H1 Q) fun t M1 ρ1 v H1 at1 g1 r1 h1 => ?_⟩) fun t s1 ⟨H1, J1, q1⟩ => ?_)
    · have r1' : t = v := r1
      subst r1'
      cases t with
      | true => rw [if_pos rfl] at h1 ⊢; exact ⟨ρ1, ς, M1, at1, h1⟩
      | false => rw [if_neg (by decide)] at h1 ⊢; exact ⟨ρ1, ς, M1, at1, h1⟩
    · cases t with
      | true => exact ha.run pins s1 σ H1 Q J1 q1
      | false => exact hb.run pins s1 σ H1 Q J1 q1
  · exact Bool.noConfusion h
theorem okT_cmp (op : CmpOp) (a b : E) (i_E_a : OkE P I a) (i_E_b : OkE P I b) : OkT P I (.cmp op a b) := by
  intro X W k sc C hs e h
  simp only [chkE] at h
  split at h
  · rename_i l op' r pos
    simp only [Bool.and_eq_true, decide_eq_true_eq] at h
    obtain ⟨⟨⟨rfl, h0⟩, h1⟩, h2⟩ := h
    refine pt_w (pt_cmpR (op_cmpA C.wp C.ww C.units65 op) (i_E_a C hs l h1) (i_E_b C hs r h2) (noMark_of op h0)) fun σ H Q ⟨ρ, ς, M, at_, h⟩ => ?_
    simp only [evT] at h
    refine ⟨ρ, ς, M, at_, le_bind at_ h fun x M1 ρ1 v H1 at1 g1 r1 h1 => ?_⟩
    refine ⟨ρ1, ς, M1, at1, le_bind at1 h1 fun y M2 ρ2 u H2 at2 g2 r2 h2 => ?_⟩
    cases e : cmpB op x y M2 with
    | none => rw [e] at h2; exact False.elim h2
    | some kk =>
      rw [e] at h2
      exact cmpB_w at2.m (r1.mono g2) r2 e ⟨kk, rfl, post_ok at2.m rfl h2⟩
  · exact Bool.noConfusion h
theorem okT_chain (op op2 : CmpOp) (a b c : E) (i_E_a : OkE P I a) (i_E_b : OkE P I b) (i_E_c : OkE P I c) : OkT P I (.chain op op2 a b c) := by
  intro X W k sc C hs e h
  simp only [chkE] at h
  split at h
  · rename_i l o1 o2 m r pos
    simp only [Bool.and_eq_true, decide_eq_true_eq] at h
    obtain ⟨⟨⟨⟨⟨rfl, rfl⟩, h0⟩, h1⟩, h2⟩, h3⟩ := h
    refine pt_w (pt_chain (op_cmpA C.wp C.ww C.units65 op) (op_cmpA C.wp C.ww C.units65 op2) (i_E_a C hs l h1) (i_E_b C hs m h2) (i_E_c C hs r h3) (noMark_of op2 h0)) fun σ H Q ⟨ρ, ς, M, at_, h⟩ => ?_
    simp only [evT] at h
    refine ⟨ρ, ς, M, at_, le_bind at_ h fun x M1 ρ1 v H1 at1 g1 r1 h1 => ?_⟩
    refine ⟨ρ1, ς, M1, at1, le_bind at1 h1 fun y M2 ρ2 u H2 at2 g2 r2 h2 => ?_⟩
    split at h2
    · rename_i e1
      refine cmpB_w at2.m (r1.mono g2) r2 e1 ⟨true, rfl, ?_⟩
      rw [if_pos rfl]
      refine ⟨ρ2, ς, M2, at2, le_bind at2 h2 fun z M3 ρ3 w H3 at3 g3 r3 h3 => ?_⟩
      cases e2 : cmpB op2 y z M3 with
      | none => rw [e2] at h3; exact False.elim h3
      | some kk =>
        rw [e2] at h3
        exact cmpB_w at3.m (r2.mono g3) r3 e2 ⟨kk, rfl, post_ok at3.m rfl h3⟩
    · rename_i e1
      refine cmpB_w at2.m (r1.mono g2) r2 e1 ⟨false, rfl, ?_⟩
      rw [if_neg (by decide)]
      exact ⟨false, rfl, post_ok at2.m rfl h2⟩
    · exact False.elim h2
  · exact Bool.noConfusion h
theorem okT_var (i : Nat) (i_E : OkE P I (.var i)) : OkT P I (.var i) := by
  intro X W k sc C hs e h
  have hp : plainT e = true := by
    simp only [chkE] at h
    split at h <;> first | rfl | exact Bool.noConfusion h
  have e2 : evT P (.var i) = fun ς M => (evE P (.var i) ς M).bind fun x M1 => outT (truA x M1) M1 := by
    funext ς M
    simp only [evT]
  rw [e2]
  exact pt_ofV (k := 0) (I := I) (i_E C hs e h) hp
theorem okT_con (c : Const) (i_E : OkE P I (.con c)) : OkT P I (.con c) := by
  intro X W k sc C hs e h
  have hp : plainT e = true := by
    simp only [chkE] at h
    split at h <;> first | rfl | exact Bool.noConfusion h
  have e2 : evT P (.con c) = fun ς M => (evE P (.con c) ς M).bind fun x M1 => outT (truA x M1) M1 := by
    funext ς M
    simp only [evT]
  rw [e2]
  exact pt_ofV (k := 0) (I := I) (i_E C hs e h) hp
theorem okT_glob (x : Str) (i_E : OkE P I (.glob x)) : OkT P I (.glob x) := by
  intro X W k sc C hs e h
  have hp : plainT e = true := by
    simp only [chkE] at h
    split at h <;> first | rfl | exact Bool.noConfusion h
  have e2 : evT P (.glob x) = fun ς M => (evE P (.glob x) ς M).bind fun x M1 => outT (truA x M1) M1 := by
    funext ς M
    simp only [evT]
  rw [e2]
  exact pt_ofV (k := 0) (I := I) (i_E C hs e h) hp
theorem okT_tup (es : List E) (i_E : OkE P I (.tup es)) : OkT P I (.tup es) := by
  intro X W k sc C hs e h
  have hp : plainT e = true := by
    simp only [chkE] at h
    split at h <;> first | rfl | exact Bool.noConfusion h
  have e2 : evT P (.tup es) = fun ς M => (evE P (.tup es) ς M).bind fun x M1 => outT (truA x M1) M1 := by
    funext ς M
    simp only [evT]
  rw [e2]
  exact pt_ofV (k := 0) (I := I) (i_E C hs e h) hp
theorem okT_lst (o : Bool) (es : List E) (i_E : OkE P I (.lst o es)) : OkT P I (.lst o es) := by
  intro X W k sc C hs e h
  have hp : plainT e = true := by
    simp only [chkE] at h
    split at h <;> first | rfl | exact Bool.noConfusion h
  have e2 : evT P (.lst o es) = fun ς M => (evE P (.lst o es) ς M).bind fun x M1 => outT (truA x M1) M1 := by
    funext ς M
    simp only [evT]
  rw [e2]
  exact pt_ofV (k := 0) (I := I) (i_E C hs e h) hp
theorem okT_bin (o : Bool) (op : Operator) (a b : E) (i_E : OkE P I (.bin o op a b)) : OkT P I (.bin o op a b) := by
  intro X W k sc C hs e h
  have hp : plainT e = true := by
    simp only [chkE] at h
    split at h <;> first | rfl | exact Bool.noConfusion h
  have e2 : evT P (.bin o op a b) = fun ς M => (evE P (.bin o op a b) ς M).bind fun x M1 => outT (truA x M1) M1 := by
    funext ς M
    simp only [evT]
  rw [e2]
  exact pt_ofV (k := 0) (I := I) (i_E C hs e h) hp
theorem okT_neg (a : E) (i_E : OkE P I (.neg a)) : OkT P I (.neg a) := by
  intro X W k sc C hs e h
  have hp : plainT e = true := by
    simp only [chkE] at h
    split at h <;> first | rfl | exact Bool.noConfusion h
  have e2 : evT P (.neg a) = fun ς M => (evE P (.neg a) ς M).bind fun x M1 => outT (truA x M1) M1 := by
    funext ς M
    simp only [evT]
  rw [e2]
  exact pt_ofV (k := 0) (I := I) (i_E C hs e h) hp
theorem okT_call (f : Str) (es : List E) (i_E : OkE P I (.call f es)) : OkT P I (.call f es) := by
  intro X W k sc C hs e h
  have hp : plainT e = true := by
    simp only [chkE] at h
    split at h <;> first | rfl | exact Bool.noConfusion h
  have e2 : evT P (.call f es) = fun ς M => (evE P (.call f es) ς M).bind fun x M1 => outT (truA x M1) M1 := by
    funext ς M
    simp only [evT]
  rw [e2]
  exact pt_ofV (k := 0) (I := I) (i_E C hs e h) hp
theorem okT_blt (o : Bool) (f : B) (es : List E) (i_E : OkE P I (.blt o f es)) : OkT P I (.blt o f es) := by
  intro X W k sc C hs e h
  have hp : plainT e = true := by
    simp only [chkE] at h
    split at h <;> first | rfl | exact Bool.noConfusion h
  have e2 : evT P (.blt o f es) = fun ς M => (evE P (.blt o f es) ς M).bind fun x M1 => outT (truA x M1) M1 := by
    funext ς M
    simp only [evT]
  rw [e2]
  exact pt_ofV (k := 0) (I := I) (i_E C hs e h) hp
theorem okT_isi (a : E) (c : Ty) (i_E : OkE P I (.isi a c)) : OkT P I (.isi a c) := by
  intro X W k sc C hs e h
  have hp : plainT e = true := by
    simp only [chkE] at h
    split at h <;> first | rfl | exact Bool.noConfusion h
  have e2 : evT P (.isi a c) = fun ς M => (evE P (.isi a c) ς M).bind fun x M1 => outT (truA x M1) M1 := by
    funext ς M
    simp only [evT]
  rw [e2]
  exact pt_ofV (k := 0) (I := I) (i_E C hs e h) hp
theorem okT_idx (a i : E) (i_E : OkE P I (.idx a i)) : OkT P I (.idx a i) := by
  intro X W k sc C hs e h
  have hp : plainT e = true := by
    simp only [chkE] at h
    split at h <;> first | rfl | exact Bool.noConfusion h
  have e2 : evT P (.idx a i) = fun ς M => (evE P (.idx a i) ς M).bind fun x M1 => outT (truA x M1) M1 := by
    funext ς M
    simp only [evT]
  rw [e2]
  exact pt_ofV (k := 0) (I := I) (i_E C hs e h) hp
theorem okT_slice (o : Bool) (a : E) (lo hi : Option E) (i_E : OkE P I (.slice o a lo hi)) : OkT P I (.slice o a lo hi) := by
  intro X W k sc C hs e h
  have hp : plainT e = true := by
    simp only [chkE] at h
    split at h <;> first | rfl | exact Bool.noConfusion h
  have e2 : evT P (.slice o a lo hi) = fun ς M => (evE P (.slice o a lo hi) ς M).bind fun x M1 => outT (truA x M1) M1 := by
    funext ς M
    simp only [evT]
  rw [e2]
  exact pt_ofV (k := 0) (I := I) (i_E C hs e h) hp
theorem okT_lc (o : Bool) (vs : List Nat) (elt : E) (tg : Tg) (it : It) (ifs : List E) (i_E : OkE P I (.lc o vs elt tg it ifs)) : OkT P I (.lc o vs elt tg it ifs) := by
  intro X W k sc C hs e h
  have hp : plainT e = true := by
    simp only [chkE] at h
    split at h <;> first | rfl | exact Bool.noConfusion h
  have e2 : evT P (.lc o vs elt tg it ifs) = fun ς M => (evE P (.lc o vs elt tg it ifs) ς M).bind fun x M1 => outT (truA x M1) M1 := by
    funext ς M
    simp only [evT]
  rw [e2]
  exact pt_ofV (k := 0) (I := I) (i_E C hs e h) hp
theorem okT_meth (m : Mth) (a : E) (es : List E) (i_E : OkE P I (.meth m a es)) : OkT P I (.meth m a es) := by
  intro X W k sc C hs e h
  have hp : plainT e = true := by
    simp only [chkE] at h
    split at h <;> first | rfl | exact Bool.noConfusion h
  have e2 : evT P (.meth m a es) = fun ς M => (evE P (.meth m a es) ς M).bind fun x M1 => outT (truA x M1) M1 := by
    funext ς M
    simp only [evT]
  rw [e2]
  exact pt_ofV (k := 0) (I := I) (i_E C hs e h) hp
theorem okT_frzv (a : E) (i_E : OkE P I (.frzv a)) : OkT P I (.frzv a) := by
  intro X W k sc C hs e h
  have hp : plainT e = true := by
    simp only [chkE, Bool.and_eq_true] at h
    exact h.1
  have e2 : evT P (.frzv a) = fun ς M => (evE P (.frzv a) ς M).bind fun x M1 => outT (truA x M1) M1 := by
    funext ς M
    simp only [evT]
  rw [e2]
  exact pt_ofV (k := 0) (I := I) (i_E C hs e h) hp
theorem okT_dnew (i_E : OkE P I .dnew) : OkT P I .dnew := by
  intro X W k sc C hs e h
  have hp : plainT e = true := by
    simp only [chkE] at h
    split at h
    · rfl
    · exact Bool.noConfusion h
  have e2 : evT P .dnew = fun ς M => (evE P .dnew ς M).bind fun x M1 => outT (truA x M1) M1 := by
    funext ς M
    simp only [evT]
  rw [e2]
  exact pt_ofV (k := 0) (I := I) (i_E C hs e h) hp
theorem okT_callK (f : Str) (n : Nat) (ks : List Str) (es kes : List E) (i_E : OkE P I (.callK f n ks es kes)) : OkT P I (.callK f n ks es kes) := by
  intro X W k sc C hs e h
  have hp : plainT e = true := by
    simp only [chkE] at h
    split at h <;> first | rfl | exact Bool.noConfusion h
  have e2 : evT P (.callK f n ks es kes) = fun ς M => (evE P (.callK f n ks es kes) ς M).bind fun x M1 => outT (truA x M1) M1 := by
    funext ς M
    simp only [evT]
  rw [e2]
  exact pt_ofV (k := 0) (I := I) (i_E C hs e h) hp
theorem okT_dsp (t o : Bool) (a b : E) (kvs : List E) (i_E : OkE P I (.dsp t o a b kvs)) : OkT P I (.dsp t o a b kvs) := by
  intro X W k sc C hs e h
  have hp : plainT e = true := by
    simp only [chkE] at h
    split at h <;> first | rfl | exact Bool.noConfusion h
  have e2 : evT P (.dsp t o a b kvs) = fun ς M => (evE P (.dsp t o a b kvs) ς M).bind fun x M1 => outT (truA x M1) M1 := by
    funext ς M
    simp only [evT]
  rw [e2]
  exact pt_ofV (k := 0) (I := I) (i_E C hs e h) hp
theorem okT_rev (o : Bool) (a : E) (i_E : OkE P I (.rev o a)) : OkT P I (.rev o a) := by
  intro X W k sc C hs e h
  have hp : plainT e = true := by
    simp only [chkE] at h
    split at h <;> first | rfl | exact Bool.noConfusion h
  have e2 : evT P (.rev o a) = fun ς M => (evE P (.rev o a) ς M).bind fun x M1 => outT (truA x M1) M1 := by
    funext ς M
    simp only [evT]
  rw [e2]
  exact pt_ofV (k := 0) (I := I) (i_E C hs e h) hp
theorem okT_gix (x : Str) (i : E) (i_E : OkE P I (.gix x i)) : OkT P I (.gix x i) := by
  intro X W k sc C hs e h
  have hp : plainT e = true := by
    simp only [chkE] at h
    split at h <;> first | rfl | exact Bool.noConfusion h
  have e2 : evT P (.gix x i) = fun ς M => (evE P (.gix x i) ς M).bind fun x M1 => outT (truA x M1) M1 := by
    funext ς M
    simp only [evT]
  rw [e2]
  exact pt_ofV (k := 0) (I := I) (i_E C hs e h) hp
theorem okT_dcell (i_E : OkE P I .dcell) : OkT P I .dcell := by
  intro X W k sc C hs e h
  have hp : plainT e = true := by
    simp only [chkE] at h
    split at h
    · rfl
    · exact Bool.noConfusion h
  have e2 : evT P .dcell = fun ς M => (evE P .dcell ς M).bind fun x M1 => outT (truA x M1) M1 := by
    funext ς M
    simp only [evT]
  rw [e2]
  exact pt_ofV (k := 0) (I := I) (i_E C hs e h) hp
theorem okT_uniq (o : Bool) (vs vs1 : List Nat) (kx : E) (tg : Tg) (it : It) (tg1 : Tg) (it1 : It) (ifs1 : List E) (i_E : OkE P I (.uniq o vs vs1 kx tg it tg1 it1 ifs1)) : OkT P I (.uniq o vs vs1 kx tg it tg1 it1 ifs1) := by
  intro X W k sc C hs e h
  have hp : plainT e = true := by
    simp only [chkE] at h
    split at h
    · rfl
    · exact Bool.noConfusion h
  have e2 : evT P (.uniq o vs vs1 kx tg it tg1 it1 ifs1) = fun ς M => (evE P (.uniq o vs vs1 kx tg it tg1 it1 ifs1) ς M).bind fun x M1 => outT (truA x M1) M1 := by
    funext ς M
    simp only [evT]
  rw [e2]
  exact pt_ofV (k := 0) (I := I) (i_E C hs e h) hp
theorem okTs_nil   : OkTs P I [] := by
  intro X W k sc C hs es h
  cases es with
  | nil =>
    refine pts_w pts_nil fun σ H Q ⟨ρ, ς, M, at_, h⟩ => ?_
    simp only [evTs] at h
    exact post_ok at_.m rfl h
  | cons _ _ => simp [chkEs] at h
theorem okTs_cons (m : E) (ms : List E) (i_T_m : OkT P I m) (i_Ts_ms : OkTs P I ms) : OkTs P I (m :: ms) := by
  intro X W k sc C hs es h
  cases es with
  | nil => simp [chkEs] at h
  | cons e es =>
    simp only [chkEs, Bool.and_eq_true] at h
    have q : evTs P (m :: ms) = fun ς M => (evT P m ς M).bind fun t M1 => if t = true then evTs P ms ς M1 else .ok false M1 := by
      funext ς M
      simp only [evTs]
    rw [q]
    exact pts_consA (i_T_m C hs e h.1.2) (i_Ts_ms C hs es h.2)
theorem okO_none   : OkO P I none := by
  intro X W k sc C hs e h
  cases e with
  | none =>
    refine po_w po_none fun σ H Q ⟨ρ, ς, M, at_, h⟩ => ?_
    simp only [evO] at h
    exact post_ok at_.m rfl h
  | some _ => simp [chkO] at h
theorem okO_some (m : E) (i_E_m : OkE P I m) : OkO P I (some m) := by
  intro X W k sc C hs e h
  cases e with
  | none => simp [chkO] at h
  | some e =>
    simp only [chkO] at h
    refine po_w (po_some (i_E_m C hs e h)) fun σ H Q ⟨ρ, ς, M, at_, h⟩ => ?_
    simp only [evO] at h
    refine ⟨ρ, ς, M, at_, le_bind at_ h fun x M1 ρ1 v H1 at1 g1 r1 h1 => ?_⟩
    cases r1 with
    | int i => exact ⟨i, rfl, post_ok at1.m rfl h1⟩
    | _ => exact False.elim h1
theorem okI_over (m : E) (i_E_m : OkE P I m) : OkI P I (.over m) := by
  intro X W k sc C hs tg e h
  simp only [chkI] at h
  refine pi_w (pi_any (i_E_m C hs e h)) fun σ H Q ⟨ρ, ς, M, at_, h⟩ => ?_
  simp only [evI] at h
  refine ⟨ρ, ς, M, at_, le_bind at_ h fun x M1 ρ1 v H1 at1 g1 r1 h1 => ?_⟩
  cases r1 with
  | lst s r => exact .inl ⟨_, rfl, ⟨_, s.sq⟩, post_ok at1.m (it_lst s r) h1⟩
  | tup s r => exact .inr (.inl ⟨_, rfl, ⟨_, s⟩, post_ok at1.m (it_tup s r) h1⟩)
  | str z => exact .inr (.inr ⟨z, rfl, post_ok at1.m it_str h1⟩)
  | _ => exact False.elim h1
theorem okI_range1 (m : E) (i_E_m : OkE P I m) : OkI P I (.range1 m) := by
  intro X W k sc C hs tg e h
  simp only [chkI] at h
  split at h
  · rename_i g p x pos
    simp only [Bool.and_eq_true, decide_eq_true_eq] at h
    obtain ⟨⟨⟨rfl, h1⟩, h2⟩, h3⟩ := h
    obtain ⟨b1, b2, b3⟩ := hasB_ok h1
    refine pi_w (pi_range1 (hs.gl _ b1) (C.bl _ b2) (pa_cons (i_E_m C hs x h3) pa_nil (star_plain h2)) (star_plain h2)) fun σ H Q ⟨ρ, ς, M, at_, h⟩ => ?_
    simp only [evI] at h
    refine ⟨ρ, ς, M, at_, le_bind at_ h fun x M1 ρ1 v H1 at1 g1 r1 h1 => ?_⟩
    cases r1 with
    | int n =>
      simp only at h1
      split at h1
      · rename_i hz
        exact ⟨n, rfl, hz.1, hz.2, post_ok at1.m it_range h1⟩
      · exact False.elim h1
    | _ => exact False.elim h1
  · exact Bool.noConfusion h
theorem okI_enum (m : E) (i_E_m : OkE P I m) : OkI P I (.enum m) := by
  intro X W k sc C hs tg e h
  simp only [chkI, Bool.and_eq_true] at h
  obtain ⟨ht, h⟩ := h
  cases tg <;> first | exact Bool.noConfusion ht | skip
  split at h
  · rename_i g p x pos
    simp only [Bool.and_eq_true, decide_eq_true_eq] at h
    obtain ⟨⟨⟨rfl, h1⟩, h2⟩, h3⟩ := h
    obtain ⟨b1, b2, b3⟩ := hasB_ok h1
    refine pi_w (pi_enumX (hs.gl _ b1) (C.bl _ b2) (pa_cons (i_E_m C hs x h3) pa_nil (star_plain h2)) (star_plain h2)) fun σ H Q ⟨ρ, ς, M, at_, h⟩ => ?_
    simp only [evI] at h
    refine ⟨ρ, ς, M, at_, le_bind at_ h fun x M1 ρ1 v H1 at1 g1 r1 h1 => ?_⟩
    cases r1 with
    | lst s r => exact ⟨_, rfl, .inl ⟨_, s.sq, post_ok at1.m (it_enumL s r) h1⟩⟩
    | tup s r => exact ⟨_, rfl, .inr ⟨_, s, post_ok at1.m (it_enumT s r) h1⟩⟩
    | _ => exact False.elim h1
  · exact Bool.noConfusion h
theorem okE_dnew : OkE P I .dnew := by
  intro X W k sc C hs e h
  simp only [chkE] at h
  split at h
  · exact pe_dnewA
  · exact Bool.noConfusion h
theorem okE_dcell : OkE P I .dcell := by
  intro X W k sc C hs e h
  simp only [chkE] at h
  split at h
  · exact pe_dcellA
  · exact Bool.noConfusion h
theorem okE_uniq (o : Bool) (vs vs1 : List Nat) (kx : E) (tg : Tg) (it : It) (tg1 : Tg) (it1 : It) (ifs1 : List E) (i_kx : OkE P I kx) (i_it : OkI P I it) (i_it1 : OkI P I it1) (i_ifs : OkTs P I ifs1) : OkE P I (.uniq o vs vs1 kx tg it tg1 it1 ifs1) := by
  intro X W k sc C hs e h
  simp only [chkE] at h
  split at h
  · rename_i g p kk v t0 i0 t1 i1 fs1 scope dpos pos
    simp only [Bool.and_eq_true, List.all_eq_true, decide_eq_true_eq] at h
    obtain ⟨⟨⟨⟨⟨⟨⟨⟨⟨⟨⟨⟨⟨⟨rfl, hb⟩, hv⟩, hn0⟩, hn1⟩, hin⟩, hin1⟩, hvs⟩, hblk⟩, ht0⟩, ht1⟩, hi0⟩, hi1⟩, hfs⟩, hk⟩ := h
    obtain ⟨b1, b2, b3⟩ := hasB_ok hb
    have hn := okName_ok b3
    have ok : BlkOk X.N X.env.scope scope (ownOf X.N vs) := hs.blkC hblk
    have e2 : (ownOf X.N vs).map (·.2) = vs := by
      unfold ownOf
      rw [List.map_map]
      simp [Function.comp_def]
    obtain ⟨j, vp, rfl⟩ : ∃ j vp, v = .Constant (.bool true) j vp := by
      unfold isTrueB at hv
      split at hv
      · exact ⟨_, _, rfl⟩
      · exact Bool.noConfusion hv
    have dc := pe_dc2 (X := X) (pos := dpos) (vs1 := vs1) (kx := kk) (vx := .Constant (.bool true) j vp) (wi := LI X.K X.mg W (evI P it)) (g := LG X.K tg) (tt := tYes) (wi1 := LI X.K X.mg WX0 (evI P it1)) (g1 := LG X.K tg1) (tt1 := LT X.K X.mg WX0 (evTs P ifs1)) (tk := LE X.K X.mg WX0 (evE P kx)) (tv := tC (.bl true))
      C.calm C.nd ok (i_it C hs t0 i0 hi0)
      (fun s H Ca cl fp => ⟨tg_ok (Sub.blk scope s H Ca cl fp) C.calm C.nd tg t0 ht0, pts_nil, i_it1 (C.blk s H scope _ fp) (Sub.blk scope s H Ca cl fp) t1 i1 hi1, tg_ok (Sub.blk scope s H Ca cl fp) C.calm C.nd tg1 t1 ht1,
        i_ifs (C.blk s H scope _ fp) (Sub.blk scope s H Ca cl fp) fs1 hfs, i_kx (C.blk s H scope _ fp) (Sub.blk scope s H Ca cl fp) kk hk, pe_bl⟩)
      (noFold_of hn0) (fun env x => noFold_of (env := env) hn1 x)
    rw [e2] at dc
    refine pe_w (pe_fz (pe_callTy (call_listD C.calm) (hs.gl _ b1) (C.bl _ b2) (by decide +kernel) (pa_cons dc pa_nil) hn.2.2 hn.1)) fun σ H Q hq => ?_
    refine pe_uniqA (o := o) C hvs hin hin1 σ H Q ?_
    obtain ⟨ρ, ς, M, at_, hq⟩ := hq
    rw [evE_uniq] at hq
    exact ⟨ρ, ς, M, at_, hq⟩
  · exact Bool.noConfusion h
theorem okE_revT (a : E) (i_a : OkE P I a) : OkE P I (.revT a) := by
  intro X W k sc C hs e h
  simp only [chkE] at h
  split at h
  · rename_i x j p1 p2 p3 pos
    refine pe_w (pe_revT (i_a C hs x h)) fun σ H Q ⟨ρ, ς, M, at_, h⟩ => ?_
    simp only [evE] at h
    refine ⟨ρ, ς, M, at_, le_bind at_ h fun y M1 ρ1 v H1 at1 g1 r1 h1 => ?_⟩
    cases r1 with
    | @tup p xs vs s1 rr =>
      refine ⟨p, vs, rfl, s1, fun l hl => ?_⟩
      have g : Grow ρ1 H1 ρ1 (upd H1 l (.tup vs.reverse)) := Grow.laid hl
      exact h1 (.ref l) ρ1 _ g (.tup (SqT.of upd_same) ((rev_rep rr).mono g)) (at1.m.laid hl)
    | _ => exact False.elim h1
  · exact Bool.noConfusion h
theorem okT_revT (a : E) (i_E : OkE P I (.revT a)) : OkT P I (.revT a) := by
  intro X W k sc C hs e h
  have hp : plainT e = true := by
    simp only [chkE] at h
    split at h <;> first | rfl | exact Bool.noConfusion h
  have e2 : evT P (.revT a) = fun ς M => (evE P (.revT a) ς M).bind fun x M1 => outT (truA x M1) M1 := by
    funext ς M
    simp only [evT]
  rw [e2]
  exact pt_ofV (k := 0) (I := I) (i_E C hs e h) hp
theorem okE_dctOf (o : Bool) (a : E) (i_a : OkE P I a) : OkE P I (.dctOf o a) := by
  intro X W k sc C hs e h
  simp only [chkE] at h
  split at h
  · rename_i g p x pos
    simp only [Bool.and_eq_true, decide_eq_true_eq] at h
    obtain ⟨⟨⟨rfl, h1⟩, h2⟩, h3⟩ := h
    obtain ⟨b1, b2, b3⟩ := hasB_ok h1
    have hn := okName_ok b3
    have ha := okEs_cons a [] i_a okEs_nil C hs [x] (by simp [chkEs, h2, h3])
    have hb : bootBuiltins (Str.ofString "dict") = some (.type "dict") := by decide +kernel
    refine pe_w (pe_fz (pe_callTy (call_dctOf C.wp C.ww C.calm C.units) (hs.gl _ b1) (C.bl _ b2) hb ha hn.2.2 hn.1 (star_plain h2) (starAny [] _ pos rfl))) fun σ H Q ⟨ρ, ς, M, at_, h⟩ => ?_
    simp only [evE] at h
    have e : ((evE P a ς M).bind fun x M1 => dctOfA o x M1) = (evEs P [a] ς M).bind fun xs M1 => match xs with
        | [x] => dctOfA o x M1
        | _ => .stuck := by
      simp only [evEs]
      cases evE P a ς M <;> rfl
    rw [e] at h
    refine ⟨ρ, ς, M, at_, le_bind at_ h fun ys M1 ρ1 vs H1 at1 g1 r1 h1 => ?_⟩
    cases r1 with
    | nil => exact False.elim h1
    | cons r1 r2 =>
      cases r2 with
      | nil => exact dctOf_w at1.m r1 h1
      | cons _ _ => exact False.elim h1
  · exact Bool.noConfusion h
theorem okT_dctOf (o : Bool) (a : E) (i_E : OkE P I (.dctOf o a)) : OkT P I (.dctOf o a) := by
  intro X W k sc C hs e h
  have hp : plainT e = true := by
    simp only [chkE] at h
    split at h <;> first | rfl | exact Bool.noConfusion h
  have e2 : evT P (.dctOf o a) = fun ς M => (evE P (.dctOf o a) ς M).bind fun x M1 => outT (truA x M1) M1 := by
    funext ς M
    simp only [evT]
  rw [e2]
  exact pt_ofV (k := 0) (I := I) (i_E C hs e h) hp
theorem okE_lcC (o : Bool) (vs : List Nat) (elt : E) (tg : Tg) (m : E) (ifs : List E) (i_m : OkE P I m) (i_Ts_ifs : OkTs P I ifs) (i_E_elt : OkE P I elt) : OkE P I (.lcC o vs elt tg m ifs) := by
  intro X W k sc C hs e h
  simp only [chkE] at h
  split at h
  · rename_i x t i fs scope pos
    simp only [Bool.and_eq_true, List.all_eq_true, decide_eq_true_eq] at h
    obtain ⟨⟨⟨⟨⟨⟨h1, h2⟩, h3⟩, h4⟩, h5⟩, h6⟩, h7⟩ := h
    have ok : BlkOk X.N X.env.scope scope (ownOf X.N vs) := hs.blkC h3
    have hi := pi_cellL (tg := t) (i_m C hs i h5) fun σ H Q Q' hq ⟨ρ, ς, M, at_, h⟩ => ⟨ρ, ς, M, at_, h.imp hq fun _ _ _ z => z⟩
    have e2 : (ownOf X.N vs).map (·.2) = vs := by
      unfold ownOf
      rw [List.map_map]
      simp [Function.comp_def]
    have hg : ∀ (s : Shared) (H : Hp) (Ca : Addr) (cl : List (Str × Addr)) (fp : List Addr), PG (X.blk s H scope (compEnvC scope cl Ca X.env) fp) t (LG X.K tg) := fun s H Ca cl fp => tg_ok (Sub.blk scope s H Ca cl fp) C.calm C.nd tg t h4
    have ht : ∀ (s : Shared) (H : Hp) (Ca : Addr) (cl : List (Str × Addr)) (fp : List Addr), PTs (X.blk s H scope (compEnvC scope cl Ca X.env) fp) fs (LT X.K X.mg WX0 (evTs P ifs)) := fun s H Ca cl fp => i_Ts_ifs (C.blk s H scope _ fp) (Sub.blk scope s H Ca cl fp) fs h6
    have he : ∀ (s : Shared) (H : Hp) (Ca : Addr) (cl : List (Str × Addr)) (fp : List Addr), PE (X.blk s H scope (compEnvC scope cl Ca X.env) fp) x (LE X.K X.mg WX0 (evE P elt)) := fun s H Ca cl fp => i_E_elt (C.blk s H scope _ fp) (Sub.blk scope s H Ca cl fp) x h7
    have pe := pe_lc (pos := pos) C.calm C.nd hi ok hg ht he (noFold_of h1)
    rw [e2] at pe
    refine pe_w (pe_fz pe) fun σ H Q hq => ?_
    refine pe_lcCA (scope := scope) (o := o) (elt := elt) (tg := tg) (ifs := ifs) (ev := evE P m) C hs h2 σ H Q ?_
    obtain ⟨ρ, ς, M, at_, hq⟩ := hq
    simp only [evE] at hq
    exact ⟨ρ, ς, M, at_, hq⟩
  · exact Bool.noConfusion h
theorem okT_lcC (o : Bool) (vs : List Nat) (elt : E) (tg : Tg) (m : E) (ifs : List E) (i_E : OkE P I (.lcC o vs elt tg m ifs)) : OkT P I (.lcC o vs elt tg m ifs) := by
  intro X W k sc C hs e h
  have hp : plainT e = true := by
    simp only [chkE] at h
    split at h <;> first | rfl | exact Bool.noConfusion h
  have e2 : evT P (.lcC o vs elt tg m ifs) = fun ς M => (evE P (.lcC o vs elt tg m ifs) ς M).bind fun x M1 => outT (truA x M1) M1 := by
    funext ς M
    simp only [evT]
  rw [e2]
  exact pt_ofV (k := 0) (I := I) (i_E C hs e h) hp
theorem okE_sset (o q : Bool) (a : E) (i_a : OkE P I a) : OkE P I (.sset o q a) := by
  intro X W k sc C hs e h
  simp only [chkE] at h
  split at h
  · rename_i g p f p2 x pos2 pos
    simp only [Bool.and_eq_true, decide_eq_true_eq] at h
    obtain ⟨⟨⟨⟨⟨rfl, h1⟩, rfl⟩, h2⟩, h3⟩, h4⟩ := h
    obtain ⟨b1, b2, b3⟩ := hasB_ok h1
    obtain ⟨c1, c2, c3⟩ := hasB_ok h2
    have hn := okName_ok b3
    have hn2 := okName_ok c3
    refine pe_w (pe_fz (pe_setQ (q := q) C.calm (hs.gl _ b1) (C.bl _ b2) (hs.gl _ c1) (C.bl _ c2) hn hn2 (i_a C hs x h4) (star_plain h3))) fun σ H Q ⟨ρ, ς, M, at_, h⟩ => ?_
    simp only [evE] at h
    exact ⟨ρ, ς, M, at_, le_bind at_ h fun y M1 ρ1 v H1 at1 g1 r1 h1 => setQ_w at1.m r1 h1⟩
  · exact Bool.noConfusion h
theorem okT_sset (o q : Bool) (a : E) (i_E : OkE P I (.sset o q a)) : OkT P I (.sset o q a) := by
  intro X W k sc C hs e h
  have hp : plainT e = true := by
    simp only [chkE] at h
    split at h <;> first | rfl | exact Bool.noConfusion h
  have e2 : evT P (.sset o q a) = fun ς M => (evE P (.sset o q a) ς M).bind fun x M1 => outT (truA x M1) M1 := by
    funext ς M
    simp only [evT]
  rw [e2]
  exact pt_ofV (k := 0) (I := I) (i_E C hs e h) hp
theorem okE_ssetC (o : Bool) (vs : List Nat) (elt : E) (tg : Tg) (it : It) (ifs : List E) (i_it : OkI P I it) (i_ifs : OkTs P I ifs) (i_elt : OkE P I elt) : OkE P I (.ssetC o vs elt tg it ifs) := by
  intro X W k sc C hs e h
  simp only [chkE] at h
  split at h
  · rename_i g p x t i fs scope dpos pos
    simp only [Bool.and_eq_true, List.all_eq_true, decide_eq_true_eq] at h
    obtain ⟨⟨⟨⟨⟨⟨⟨⟨rfl, hb⟩, h1⟩, h2⟩, h3⟩, h4⟩, h5⟩, h6⟩, h7⟩ := h
    obtain ⟨b1, b2, b3⟩ := hasB_ok hb
    have hn := okName_ok b3
    have ok : BlkOk X.N X.env.scope scope (ownOf X.N vs) := hs.blkC h3
    have e2 : (ownOf X.N vs).map (·.2) = vs := by
      unfold ownOf
      rw [List.map_map]
      simp [Function.comp_def]
    have sc := pe_scT (X := X) (pos := dpos) (elt := x) (wi := LI X.K X.mg W (evI P it)) (g := LG X.K tg) (tt := LT X.K X.mg WX0 (evTs P ifs)) (te := LE X.K X.mg WX0 (evE P elt)) C.calm C.nd ok (i_it C hs t i h5)
      (fun s H Ca cl fp => ⟨tg_ok (Sub.blk scope s H Ca cl fp) C.calm C.nd tg t h4, i_ifs (C.blk s H scope _ fp) (Sub.blk scope s H Ca cl fp) fs h6, i_elt (C.blk s H scope _ fp) (Sub.blk scope s H Ca cl fp) x h7⟩) (noFold_of h1)
    rw [e2] at sc
    refine pe_w (pe_fz (pe_callB (call_sortTx C.calm) (hs.gl _ b1) (C.bl _ b2) (by decide +kernel) (pa_cons sc pa_nil) hn.2.2 hn.1)) fun σ H Q hq => ?_
    refine pe_ssetCA (P := P) (o := o) (elt := elt) (ifs := ifs) (ev := evI P it) h2 σ H Q ?_
    obtain ⟨ρ, ς, M, at_, hq⟩ := hq
    simp only [evE] at hq
    exact ⟨ρ, ς, M, at_, hq⟩
  · exact Bool.noConfusion h
theorem okT_ssetC (o : Bool) (vs : List Nat) (elt : E) (tg : Tg) (it : It) (ifs : List E) (i_E : OkE P I (.ssetC o vs elt tg it ifs)) : OkT P I (.ssetC o vs elt tg it ifs) := by
  intro X W k sc C hs e h
  have hp : plainT e = true := by
    simp only [chkE] at h
    split at h <;> first | rfl | exact Bool.noConfusion h
  have e2 : evT P (.ssetC o vs elt tg it ifs) = fun ς M => (evE P (.ssetC o vs elt tg it ifs) ς M).bind fun x M1 => outT (truA x M1) M1 := by
    funext ς M
    simp only [evT]
  rw [e2]
  exact pt_ofV (k := 0) (I := I) (i_E C hs e h) hp
theorem okE_lc2 (o : Bool) (vs vs1 : List Nat) (elt : E) (tg : Tg) (it : It) (ifs : List E) (tg1 : Tg) (it1 : It) (ifs1 : List E) (i_it : OkI P I it) (i_it1 : OkI P I it1) (i_ifs : OkTs P I ifs) (i_ifs1 : OkTs P I ifs1) (i_elt : OkE P I elt) : OkE P I (.lc2 o vs vs1 elt tg it ifs tg1 it1 ifs1) := by
  intro X W k sc C hs e h
  simp only [chkE] at h
  split at h
  · rename_i x t0 i0 fs t1 i1 fs1 scope pos
    simp only [Bool.and_eq_true, List.all_eq_true, decide_eq_true_eq] at h
    obtain ⟨⟨⟨⟨⟨⟨⟨⟨⟨⟨⟨⟨hn0, hn1⟩, hin⟩, hin1⟩, hvs⟩, hblk⟩, ht0⟩, ht1⟩, hi0⟩, hf0⟩, hi1⟩, hf1⟩, he⟩ := h
    have ok : BlkOk X.N X.env.scope scope (ownOf X.N vs) := hs.blkC hblk
    have e2 : (ownOf X.N vs).map (·.2) = vs := by
      unfold ownOf
      rw [List.map_map]
      simp [Function.comp_def]
    have pe := pe_lc2 (X := X) (pos := pos) (vs1 := vs1) (elt := x) (wi := LI X.K X.mg W (evI P it)) (g := LG X.K tg) (tt := LT X.K X.mg WX0 (evTs P ifs)) (wi1 := LI X.K X.mg WX0 (evI P it1)) (g1 := LG X.K tg1) (tt1 := LT X.K X.mg WX0 (evTs P ifs1)) (te := LE X.K X.mg WX0 (evE P elt)) C.calm C.nd (i_it C hs t0 i0 hi0) ok (by rw [e2]; exact hvs)
      (fun s H Ca cl fp => tg_ok (Sub.blk scope s H Ca cl fp) C.calm C.nd tg t0 ht0) (fun s H Ca cl fp => i_ifs (C.blk s H scope _ fp) (Sub.blk scope s H Ca cl fp) fs hf0)
      (fun s H Ca cl fp => i_it1 (C.blk s H scope _ fp) (Sub.blk scope s H Ca cl fp) t1 i1 hi1) (fun s H Ca cl fp => tg_ok (Sub.blk scope s H Ca cl fp) C.calm C.nd tg1 t1 ht1)
      (fun s H Ca cl fp => i_ifs1 (C.blk s H scope _ fp) (Sub.blk scope s H Ca cl fp) fs1 hf1) (fun s H Ca cl fp => i_elt (C.blk s H scope _ fp) (Sub.blk scope s H Ca cl fp) x he)
      (noFold_of hn0) (fun env x => noFold_of (env := env) hn1 x)
    rw [e2] at pe
    refine pe_w (pe_fz pe) fun σ H Q hq => ?_
    refine pe_lc2A (P := P) (o := o) hin hin1 σ H Q ?_
    obtain ⟨ρ, ς, M, at_, hq⟩ := hq
    rw [evE_lc2] at hq
    exact ⟨ρ, ς, M, at_, hq⟩
  · exact Bool.noConfusion h
theorem okT_lc2 (o : Bool) (vs vs1 : List Nat) (elt : E) (tg : Tg) (it : It) (ifs : List E) (tg1 : Tg) (it1 : It) (ifs1 : List E) (i_E : OkE P I (.lc2 o vs vs1 elt tg it ifs tg1 it1 ifs1)) : OkT P I (.lc2 o vs vs1 elt tg it ifs tg1 it1 ifs1) := by
  intro X W k sc C hs e h
  have hp : plainT e = true := by
    simp only [chkE] at h
    split at h <;> first | rfl | exact Bool.noConfusion h
  have e2 : evT P (.lc2 o vs vs1 elt tg it ifs tg1 it1 ifs1) = fun ς M => (evE P (.lc2 o vs vs1 elt tg it ifs tg1 it1 ifs1) ς M).bind fun x M1 => outT (truA x M1) M1 := by
    funext ς M
    simp only [evT]
  rw [e2]
  exact pt_ofV (k := 0) (I := I) (i_E C hs e h) hp
theorem okAll (P : Par) (I : Inf) (m : E) : OkE P I m ∧ OkT P I m := by
  refine E.rec (motive_1 := fun m => OkE P I m ∧ OkT P I m) (motive_2 := fun m => OkI P I m) (motive_3 := fun ms => OkEs P I ms ∧ OkTs P I ms ∧ OkAllE P I ms) (motive_4 := fun m => OkO P I m)
    ?var ?con ?glob ?tup ?lst ?bin ?neg ?cmp ?chain ?and ?or ?not ?ite ?call ?callK ?blt ?isi ?idx ?slice ?lc ?meth ?frzv ?dnew ?dcell ?dsp ?rev ?gix ?dctOf ?revT ?lcC ?uniq ?sset ?ssetC ?lc2 ?over ?range1 ?enum ?nil ?cons ?none ?some m
  case var => exact fun i => ⟨okE_var i, okT_var i (okE_var i)⟩
  case con => exact fun c => ⟨okE_con c, okT_con c (okE_con c)⟩
  case glob => exact fun x => ⟨okE_glob x, okT_glob x (okE_glob x)⟩
  case tup => exact fun es i => ⟨okE_tup es i.1, okT_tup es (okE_tup es i.1)⟩
  case lst => exact fun o es i => ⟨okE_lst o es i.1, okT_lst o es (okE_lst o es i.1)⟩
  case bin => exact fun o op a b i j => ⟨okE_bin o op a b i.1 j.1, okT_bin o op a b (okE_bin o op a b i.1 j.1)⟩
  case neg => exact fun a i => ⟨okE_neg a i.1, okT_neg a (okE_neg a i.1)⟩
  case cmp => exact fun op a b i j => ⟨okE_cmp op a b i.1 j.1, okT_cmp op a b i.1 j.1⟩
  case chain => exact fun op op2 a b c i j l => ⟨okE_chain op op2 a b c i.1 j.1 l.1, okT_chain op op2 a b c i.1 j.1 l.1⟩
  case and => exact fun a b i j => ⟨okE_and a b j.1 i.1, okT_and a b j.2 i.2⟩
  case or => exact fun a b i j => ⟨okE_or a b j.1 i.1, okT_or a b j.2 i.2⟩
  case not => exact fun a i => ⟨okE_not a i.1, okT_not a i.2⟩
  case ite => exact fun c a b i j l => ⟨okE_ite c a b i.2 j.1 l.1, okT_ite c a b i.2 j.2 l.2⟩
  case call => exact fun f es i => ⟨okE_call f es i.1, okT_call f es (okE_call f es i.1)⟩
  case callK => exact fun f n ks es kes i j => ⟨okE_callK f n ks es kes i.1 j.2.2, okT_callK f n ks es kes (okE_callK f n ks es kes i.1 j.2.2)⟩
  case blt => exact fun o f es i => ⟨okE_blt o f es i.1, okT_blt o f es (okE_blt o f es i.1)⟩
  case isi => exact fun a c i => ⟨okE_isi a c i.1, okT_isi a c (okE_isi a c i.1)⟩
  case idx => exact fun a b i j => ⟨okE_idx a b i.1 j.1, okT_idx a b (okE_idx a b i.1 j.1)⟩
  case slice => exact fun o a lo hi i j l => ⟨okE_slice o a lo hi i.1 j l, okT_slice o a lo hi (okE_slice o a lo hi i.1 j l)⟩
  case lc => exact fun o vs elt tg it ifs i j l => ⟨okE_lc o vs elt tg it ifs j l.2.1 i.1, okT_lc o vs elt tg it ifs (okE_lc o vs elt tg it ifs j l.2.1 i.1)⟩
  case meth => exact fun m a es i j => ⟨okE_meth m a es i.1 j.1, okT_meth m a es (okE_meth m a es i.1 j.1)⟩
  case frzv => exact fun a i => ⟨okE_frzv a i.1, okT_frzv a (okE_frzv a i.1)⟩
  case dnew => exact ⟨okE_dnew, okT_dnew okE_dnew⟩
  case dcell => exact ⟨okE_dcell, okT_dcell okE_dcell⟩
  case dsp => exact fun t o a b kvs i j l => ⟨okE_dsp t o a b kvs i.1 j.1 l.2.2, okT_dsp t o a b kvs (okE_dsp t o a b kvs i.1 j.1 l.2.2)⟩
  case rev => exact fun o a i => ⟨okE_rev o a i.1, okT_rev o a (okE_rev o a i.1)⟩
  case gix => exact fun x i j => ⟨okE_gix x i j.1, okT_gix x i (okE_gix x i j.1)⟩
  case dctOf => exact fun o a i => ⟨okE_dctOf o a i.1, okT_dctOf o a (okE_dctOf o a i.1)⟩
  case revT => exact fun a i => ⟨okE_revT a i.1, okT_revT a (okE_revT a i.1)⟩
  case lcC => exact fun o vs elt tg m ifs i j l => ⟨okE_lcC o vs elt tg m ifs j.1 l.2.1 i.1, okT_lcC o vs elt tg m ifs (okE_lcC o vs elt tg m ifs j.1 l.2.1 i.1)⟩
  case uniq => exact fun o vs vs1 kx tg it tg1 it1 ifs1 i j l n => ⟨okE_uniq o vs vs1 kx tg it tg1 it1 ifs1 i.1 j l n.2.1, okT_uniq o vs vs1 kx tg it tg1 it1 ifs1 (okE_uniq o vs vs1 kx tg it tg1 it1 ifs1 i.1 j l n.2.1)⟩
  case sset => exact fun o q a i => ⟨okE_sset o q a i.1, okT_sset o q a (okE_sset o q a i.1)⟩
  case ssetC => exact fun o vs elt tg it ifs i j l => ⟨okE_ssetC o vs elt tg it ifs j l.2.1 i.1, okT_ssetC o vs elt tg it ifs (okE_ssetC o vs elt tg it ifs j l.2.1 i.1)⟩
  case lc2 => exact fun o vs vs1 elt tg it ifs tg1 it1 ifs1 i j l m n => ⟨okE_lc2 o vs vs1 elt tg it ifs tg1 it1 ifs1 j m l.2.1 n.2.1 i.1, okT_lc2 o vs vs1 elt tg it ifs tg1 it1 ifs1 (okE_lc2 o vs vs1 elt tg it ifs tg1 it1 ifs1 j m l.2.1 n.2.1 i.1)⟩
  case over => exact fun e i => okI_over e i.1
  case range1 => exact fun e i => okI_range1 e i.1
  case enum => exact fun e i => okI_enum e i.1
  case nil => exact ⟨okEs_nil, okTs_nil, fun m h => absurd h (by simp)⟩
  case cons => exact fun m ms i j => ⟨okEs_cons m ms i.1 j.1, okTs_cons m ms i.2 j.2.1, fun m' h => by
    rcases List.mem_cons.mp h with e | h
    · rw [e]; exact i.1
    · exact j.2.2 m' h⟩
  case none => exact okO_none
  case some => exact fun e i => okO_some e i.1
end
end MP

/-! MP, part X: own exception classes: raise, the suites -/
namespace MP
open PySem PySem.Spec PyProof.Rows L2
section
variable {X : Cx}
/-- Base.__init__(self, 'text') -/
theorem pe_ownInit {bn : Str} {B : Addr} {mc : Value} {m : Str} {j : Nat} {p1 p2 p3 p4 p5 : Pos} {ta : TA} (hg : Gl X bn) (hm : X.mg bn = some (.ref B)) (hdb : (bn == ("__debug__" : Str)) = false) (hline : (p2.endLine == p5.line) = true)
    (hga : PySem.W.specialIn X.K (.ref B) "__getattribute__" = some (some (.builtin "type.__getattribute__"))) (hr : PySem.W.readsIn X.K B mc = true) (hc : PySem.W.findCls X.K (.ref B) mc "__init__" = some (.val (.builtin "ValueError.__init__")))
    (ha : PA X [.Name "self" p3, .Constant (.str m) j p4] ta) :
    PE X (.Call (.Attribute (.Name bn p1) "__init__" p2) [.Name "self" p3, .Constant (.str m) j p4] [] p5) (tVeI X.K ta) := by
  refine ⟨fun pins s σ H Q I h => ?_⟩
  have hbase : attributeBase (.Name bn p1) "__init__" X.env (eval (.Name bn p1) X.env) = eval (.Name bn p1) X.env := rfl
  rw [arm_eval_Call, hbase]
  refine wpAny_bind (ld_glob I hg hm (wpAny_bind (wpAny_standAt ?_)) hdb)
  have hform : methodCallForm (([.Name "self" p3, .Constant (.str m) j p4] : List Expr).length + ([] : List Keyword).length) (backTo p5 (starEach [.Name "self" p3, .Constant (.str m) j p4] X.env)) (backToKw p5 (keywordEach [] X.env)) = true := by rfl
  have hpos : methodCallPos true (.Name bn p1) X.env p2 p5 = pure p5 := by unfold methodCallPos; simp [hline]
  unfold methodCall
  rw [hform]
  refine wpAny_bind (wpAny_holding (PySem.W.method_cls I.kIn hga (PySem.W.cls_value I.kIn hr hc rfl ?_)))
  refine wpAny_bind (wpAny_of_eq hpos ?_)
  show wpAny _ _ (callWith p5 (Value.builtin "ValueError.__init__") [] (backTo p5 (starEach [.Name "self" p3, .Constant (.str m) j p4] X.env)) []) _ _ _
  refine PyProof.Rows.callWith_method1 (thn (ha.run p5 pins _ σ H _ (I.tok _) h) fun us s1 ⟨vs, H1, I1, r1, a, C, ws, ev, hl, T, ea, q⟩ => ?_) (by rfl) (by rfl)
  subst ev
  cases r1 with
  | @cons _ u0 _ ur ra rw' =>
    obtain rfl : u0 = Value.ref a := ra
    have hlen : ur.length ≤ sizeLine := by
      rw [← Paired.length rw', sizeLine_eq]
      omega
    exact oinit_ok T I1 ea hlen fun s' J => ⟨.non, H1, J, rfl, q⟩
end
/-- what such an __init__ promises -/
def spI (K : PySem.W.Frag) (C : Addr) (f : Str) : Sp := fun vs H Q _ => ∃ (a : Addr) (v : V), vs = [.ref a, v] ∧ H a = some (exo a C none) ∧ ∀ dx, H dx = none → dx ≠ a → Q .non (upd (upd H dx (exd dx [(f, v)])) a (exo a C (some dx)))
theorem ok_init {P : Program} {w : World} {K : PySem.W.Frag} {mg : Str → Option Value} {base : Heap} {C fI B : Addr} {f bn q : Str} {fd : FuncData} {st : Stmt} {mc : Value} {m : Str} {j : Nat} {p1 p2 p3 p4 p5 p6 p7 p8 p9 p10 : Pos}
    (T : OexC K C) (noF : PySem.W.findIn K (.ref C) f = some none) (F : Fun K "__init__" q st fI fd) (S : FnScope ["self", f] ["self", f] (defScope st))
    (hb : defBody st = [.Expr (.Call (.Attribute (.Name bn p1) "__init__" p2) [.Name "self" p3, .Constant (.str m) j p4] [] p5) p6, .Assign [.Attribute (.Name "self" p7) f p8] (.Name f p9) p10])
    (hline : (p2.endLine == p5.line) = true) (hgl : (defScope st).names.lookup bn = some .globalImplicit) (hdb : (bn == ("__debug__" : Str)) = false) (hs : (defScope st).names.lookup ("self" : Str) = some .local) (hf : (defScope st).names.lookup f = some .local)
    (hf1 : (f == ("__debug__" : Str)) = false) (hf2 : (f == ("__classdict__" : Str)) = false)
    (hm : mg bn = some (.ref B)) (hga : PySem.W.specialIn K (.ref B) "__getattribute__" = some (some (.builtin "type.__getattribute__"))) (hr : PySem.W.readsIn K B mc = true) (hc : PySem.W.findCls K (.ref B) mc "__init__" = some (.val (.builtin "ValueError.__init__"))) :
    FnOk P w K mg base CX0 1 fI fd ["self", f] (spI K C f) := by
  refine F.ok S (fun vs H Q E h => ?_) (fun cdv A outer s H vs Q E hr' h => ?_)
  · obtain ⟨a, v, rfl, _⟩ := h
    rfl
  · rw [hb]
    refine ⟨_, pss_cons (ps_expr (pe_ownInit hgl hm hdb hline hga hr hc (pa_cons (pe_var (i := 0) rfl (.inl hs)) (pa_cons pe_str pa_nil)))) (pss_one (ps_ost (pe_var (i := 0) rfl (.inl hs)) (pe_var (i := 1) rfl (.inl hf) hf1 hf2))), ?_⟩
    obtain ⟨a, v, rfl, ha, k⟩ := h
    refine ⟨.ref a, rfl, a, C, [.str m], rfl, (by show 1 ≤ 1000; decide), T, ha, ?_⟩
    refine ⟨v, rfl, .ref a, rfl, a, C, rfl, T, noF, .inl ⟨ha, fun dx hd hne => k dx hd hne⟩⟩

section
variable {X : Cx}
/-- C(), C without own __init__ -/
theorem pmk_own0 {C : Addr} {bmB : List Value} {B newId initId : String} {x : Str} {p pos : Pos} (F : ExcBaseFacts B newId initId bmB) (q : PySem.W.excIn X.K C bmB newId = true) (gC : X.mg x = some (.ref C))
    (kC : PySem.W.keepIn X.K (.ref C) = true) (r : Raises X (.ref C)) (hg : Gl X x) (hdb : (x == ("__debug__" : Str)) = false) :
    PMk X (.Call (.Name x p) [] [] pos) (fun σ H Q => Q (.ref C) none H) := by
  intro pins s σ H Q I h
  refine wpAny_Call_Name_kw (ld_glob I hg gC ?_ hdb)
  refine PySem.W.callWith_K0 I.kIn kC ?_
  show wpAny _ _ (call (.ref C) []) _ _ _
  obtain ⟨bm, N, nm, qn, bs, hdct, sn, sub, ab, col, dd, k0, k1, k2, k3, k5, mN, hC, hN, hni, T⟩ := exc_obj I.kIn q
  refine wpAny_call_exc_subT F T hC hN hni (fun h' e hm => ?_) (Nat.zero_le _)
  exact mk_of I hm r h (I.hok.gone hm.new)
theorem heap_raise {H1 : Hp} {a dx C : Addr} {f : Str} {v : V} (ha : H1 a = none) (hne : dx ≠ a) :
    upd (del (upd (upd (upd H1 a (exo a C none)) dx (exd dx [(f, v)])) a (exo a C (some dx))) a) dx (.xd [(f, v)]) = upd H1 dx (.xd [(f, v)]) := by
  funext b
  by_cases h1 : b = dx
  · rw [h1, upd_same, upd_same]
  · rw [upd_ne h1, upd_ne h1]
    by_cases h2 : b = a
    · rw [h2, del_same, ha]
    · rw [del_ne h2, upd_ne h2, upd_ne h1, upd_ne h2]
variable {P : Par} {I : Inf} {W : WX} {k : Nat}
variable [WLD]
theorem ps_raiseA (C : Ctx X I P W k) {c : Str} {m : E} {e : Expr} {p p2 p3 : Pos} (hgl : Gl X c) (hpl : plainB e = true) (he : PE X e (LE X.K X.mg W (evE P m))) :
    PS X (.Raise (some (.Call (.Name c p) [e] [] p2)) none p3) (LS X.K X.mg W (evS P (.raise c (some m)))) := by
  cases hl : I.xt.cls.lookup c with
  | none =>
    refine ⟨fun pins s σ H D I h => ?_⟩
    obtain ⟨ρ, ς, M, at_, h⟩ := h
    rw [evS, C.xq, hl] at h
    exact False.elim h
  | some fo =>
    obtain ⟨hok, Ca, hC, isc, hf⟩ := C.xf.cls c fo hl
    cases fo with
    | none =>
      refine ⟨fun pins s σ H D I h => ?_⟩
      obtain ⟨ρ, ς, M, at_, h⟩ := h
      rw [evS, C.xq, hl] at h
      exact False.elim h
    | some f =>
      have O : OwnC X.K X.mg c f Ca := hf
      obtain ⟨fI, fd, st, B, bn, q, mc, m', j, q1, q2, q3, q4, q5, q6, q7, q8, q9, q10, _, i1, i2, i3, i4, i5, i6, i7, i8, i9, i10, i11, i12, i13, i14, i15, i16, i17⟩ := O.ini
      have F1 : FnOk X.prog X.w X.K X.mg X.base CX0 1 fI fd ["self", f] (spI X.K Ca f) := ok_init O.oex O.noF i3 i5 i6 i7 i8 i9 i10 i11 i12 i13 i14 i15 i16 i17
      refine ps_w (ps_raise C.calm C.tk (pmk_oex (CX := CX0) (sp := spI X.K Ca f) (ds := []) (dvs := []) O.oex i1 i2 F1 (C.rm.mono (by omega)) i4 .nil pass0 hgl hC (pa_cons he pa_nil (star_plain hpl)) (okName_ok hok).1 (star_plain hpl) (by rfl))) fun D σ H ⟨ρ, ς, M, at_, h⟩ => ?_
      rw [evS, C.xq, hl] at h
      refine ⟨ρ, ς, M, at_, ls_bindX at_ h fun x M1 ρ1 v H1 at1 g1 r1 h1 => ?_⟩
      refine ⟨by show 1 ≤ 1000; decide, fun a ha => ?_⟩
      refine ⟨a, v, rfl, upd_same, fun dx hdx hne => ?_⟩
      have hdx1 : H1 dx = none := by rw [upd_ne hne] at hdx; exact hdx
      refine ⟨rfl, dx, [(f, v)], upd_same, by rw [upd_ne hne, upd_same], hdx1, ?_⟩
      rw [heap_raise ha hne]
      have g : Grow ρ1 H1 ρ1 (upd H1 dx (.xd [(f, v)])) := Grow.laid hdx1
      exact h1 (.ref Ca) (some dx) ρ1 _ σ g ⟨⟨Ca, hC, rfl⟩, dx, v, rfl, upd_same, r1.mono g⟩ (at1.m.laid hdx1)
where
  ls_bindX {α β : Type} {K : PySem.W.Frag} {mg : Str → Option Value} {ρ : List Addr} {H : Hp} {D : Ends} {R : List Addr → Hp → α → β → Prop} {p : Out α} {f : α → Mem → Out (Fl × Loc)} {ς : Loc} {σ : L2.St} {M : Mem} {Q' : β → Hp → Prop}
    (at_ : At K ρ H ς σ M) (h : PostS K mg W ρ H (p.bind f) D) (q : ∀ a M1 ρ1 v H1, At K ρ1 H1 ς σ M1 → Grow ρ H ρ1 H1 → R ρ1 H1 a v → PostS K mg W ρ1 H1 (f a M1) D → Q' v H1) : Post K mg R ρ H p Q' (fun c d H' => W c d σ H') := by
    cases p with
    | ok a M => exact fun v ρ1 H1 g r m => q a M ρ1 v H1 ⟨at_.s.mono g, m⟩ g r (growS g h)
    | exc x M => exact fun c d ρ1 H1 g e m => h c d ρ1 H1 σ g e m
    | stuck => exact h
  growS {K : PySem.W.Frag} {mg : Str → Option Value} {ρ ρ' : List Addr} {H H' : Hp} {D : Ends} {o : Out (Fl × Loc)} (g : Grow ρ H ρ' H') (h : PostS K mg W ρ H o D) : PostS K mg W ρ' H' o D := by
    cases o with
    | ok r M => exact fun ρ2 H2 g2 => h ρ2 H2 (g.trans g2)
    | exc x M => exact fun c d ρ2 H2 σ2 g2 => h c d ρ2 H2 σ2 (g.trans g2)
    | stuck => exact h
theorem ps_raise0 (C : Ctx X I P W k) {c : Str} {p p2 p3 : Pos} (hgl : Gl X c) :
    PS X (.Raise (some (.Call (.Name c p) [] [] p2)) none p3) (LS X.K X.mg W (evS P (.raise c none))) := by
  cases hl : I.xt.cls.lookup c with
  | none =>
    refine ⟨fun pins s σ H D I h => ?_⟩
    obtain ⟨ρ, ς, M, at_, h⟩ := h
    rw [evS, C.xq, hl] at h
    exact False.elim h
  | some fo =>
    obtain ⟨hok, Ca, hC, isc, hf⟩ := C.xf.cls c fo hl
    cases fo with
    | some f =>
      refine ⟨fun pins s σ H D I h => ?_⟩
      obtain ⟨ρ, ς, M, at_, h⟩ := h
      rw [evS, C.xq, hl] at h
      exact False.elim h
    | none =>
      have O : BareC X.K Ca := hf
      obtain ⟨B, n1, n2, bm, F, q⟩ := O.ex
      refine ps_w (ps_raise C.calm C.tk (pmk_own0 F q hC O.kC (raises_own O.exC O.tyC) hgl (okName_ok hok).1)) fun D σ H ⟨ρ, ς, M, at_, h⟩ => ?_
      rw [evS, C.xq, hl] at h
      exact h (.ref Ca) none ρ H σ (Grow.refl _ _) ⟨⟨Ca, hC, rfl⟩, rfl⟩ at_.m
end
end MP

/-! MP, part Y: the suites -/
namespace MP
open PySem PySem.Spec PyProof.Rows L2
/-- isinstance(e, c), e the exception that the suite holds -/
theorem call_isX {X : Cx} {a D : Addr} {d : Option Addr} {oe : Obj} {pn : List (Addr × Obj)} (C : IsiC X.K D) (hz : Zc (.ref D) d oe) (hf : ∃ vs, oe.data = .fields vs) :
    CallR (X.suite a ((a, oe) :: pn)) (.builtin "isinstance") (fun xs H Q => ∃ (c : V) (cv : Value) (b : Bool), xs = [.ref a, c] ∧ (∀ u, RelV c u → u = cv) ∧ PySem.W.kitOne X.K (.ref D) cv = some b ∧ (∀ dd, d = some dd → ∃ fs, H dd = some (.xd fs)) ∧ Q (.bl b) H) := by
  intro pins s σ H xs us Q I r h
  obtain ⟨c, cv, b, rfl, hcv, e, hd, q⟩ := h
  cases r with
  | cons rx rr =>
    cases rr with
    | cons rt rr =>
      cases rr
      cases rx
      have ec := hcv _ rt
      subst ec
      obtain ⟨hget, _⟩ := I.pin (a, oe) (List.mem_append.mpr (.inl List.mem_cons_self))
      obtain ⟨vs, hv⟩ := hf
      cases d with
      | none =>
        have J : PySem.W.InstAt s.heap a oe D none := by
          obtain ⟨oc, od, oda, osl⟩ := oe
          obtain ⟨h1, h2⟩ := hz
          dsimp only at h1 h2 hv
          subst h1 h2 hv
          exact ⟨hget, rfl, rfl, trivial⟩
        exact PySem.W.kia_one (PySem.W.kitx_exc C.cl C.hg C.hk C.hs C.ha C.hn C.ht C.hm) I.kIn J e (fun z => nomatch z) fun tk => ⟨.bl b, H, I.kept (t' := tk) fun _ _ z => z, rfl, q⟩
      | some dd =>
        obtain ⟨fs, ed⟩ := hd dd rfl
        have hx : ObjOk X.prog X.w H s.heap dd (.xd fs) := I.hok dd _ ed
        obtain ⟨mA, hns, hr⟩ := hx
        obtain ⟨od, ho, hl⟩ := lookIn_ns hns
        have J : PySem.W.InstAt s.heap a oe D (some od) := ⟨hget, hz.1, by unfold PySem.W.notCls; rw [hv] <;> rfl, by rw [hz.2]; exact ho⟩
        exact PySem.W.kia_one (PySem.W.kitx_exc C.cl C.hg C.hk C.hs C.ha C.hn C.ht C.hm) I.kIn J e (fun z => nomatch z) fun tk => ⟨.bl b, H, I.kept (t' := tk) fun _ _ z => z, rfl, q⟩

/-! the text of a suite -/
def nmIs (n : Option Str) (x : Str) : Bool := decide (n = some x) && okName x
mutual
def chkH (I : Inf) (sc : Scope) (n : Option Str) : HE → Expr → Bool
  | .con c, e => match e with
    | .Constant c' _ _ => decide (c = c') && (cA c).isSome
    | _ => false
  | .fld f, e => match e with
    | .Attribute (.Name x _) g _ => nmIs n x && decide (f = g)
    | _ => false
  | .isi c, e => match e with
    | .Call (.Name g _) [.Name x _, .Name d _] [] _ => decide (Str.ofString "isinstance" = g) && hasB I sc g && nmIs n x && decide (c = d) && glB sc d
    | _ => false
  | .not a, e => match e with
    | .UnaryOp .Not x _ => chkH I sc n a x
    | _ => false
  | .and a b, e => match e with
    | .BoolOp .And (x :: y :: r) p => chkH I sc n a x && chkH I sc n b (if r.isEmpty then y else .BoolOp .And (y :: r) p)
    | _ => false
  | .or a b, e => match e with
    | .BoolOp .Or (x :: y :: r) p => chkH I sc n a x && chkH I sc n b (if r.isEmpty then y else .BoolOp .Or (y :: r) p)
    | _ => false
  | .lst es, e => match e with
    | .List xs _ => chkHs I sc n es xs
    | _ => false
def chkHs (I : Inf) (sc : Scope) (n : Option Str) : List HE → List Expr → Bool
  | [], es => match es with
    | [] => true
    | _ => false
  | m :: ms, es => match es with
    | e :: es => plainB e && chkH I sc n m e && chkHs I sc n ms es
    | [] => false
end
mutual
def chkHS (I : Inf) (N : List Str) (sc : Scope) (n : Option Str) : HS → Stmt → Bool
  | .asg i m, st => match st with
    | .Assign [.Name x _] v _ => decide (N[i]? = some x) && decide (sc.names.lookup x = some .local) && !decide (n = some x) && noComp v && chkH I sc n m v
    | _ => false
  | .ret m, st => match st with
    | .Return (some v) _ => chkH I sc n m v
    | _ => false
  | .ife c a b, st => match st with
    | .If e x y _ => chkH I sc n c e && chkHSs I N sc n a x && chkHSs I N sc n b y
    | _ => false
def chkHSs (I : Inf) (N : List Str) (sc : Scope) (n : Option Str) : List HS → List Stmt → Bool
  | [], ss => match ss with
    | [] => true
    | _ => false
  | m :: ms, ss => match ss with
    | s :: ss => chkHS I N sc n m s && chkHSs I N sc n ms ss
    | [] => false
end
variable [WLD]
/-- where a suite runs -/
structure HCtx (X : Cx) (I : Inf) (n : Option (Nat × Str)) (cls : Value) (d : Option Addr) (oe : Obj) : Prop where
  nd : X.N.Nodup
  fT : ∀ x, X.fn x = true
  bl : ∀ b ∈ I.bs, X.mg b = none
  xf : XtOk X.K X.mg I.xt
  hz : Zc cls d oe
  hf : ∃ vs, oe.data = .fields vs
  at_ : ∀ i x, n = some (i, x) → X.N[i]? = some x ∧ X.env.scope.names.lookup x = some .local
/-- the state of a suite -/
structure HAt (X : Cx) (n : Option (Nat × Str)) (a : Addr) (x : Exc) (cls : Value) (d : Option Addr) (ρ : List Addr) (H : Hp) (ς : Loc) (σ : L2.St) (M : Mem) : Prop where
  at_ : At X.K ρ H ς σ M
  sl : ∀ i y, n = some (i, y) → σ[i]? = some (some (.ref a))
  ex : ExcRep X.K X.mg ρ H x cls d
theorem ExcRep.mono {K : PySem.W.Frag} {mg : Str → Option Value} {ρ ρ' : List Addr} {H H' : Hp} {x : Exc} {cls : Value} {d : Option Addr} (g : Grow ρ H ρ' H') (h : ExcRep K mg ρ H x cls d) : ExcRep K mg ρ' H' x cls d := by
  obtain ⟨h1, h2⟩ := h
  refine ⟨h1, ?_⟩
  cases e : x.fld with
  | none => rw [e] at h2; exact h2
  | some p =>
    obtain ⟨f, b⟩ := p
    rw [e] at h2
    obtain ⟨dd, v, e1, e2, e3⟩ := h2
    exact ⟨dd, v, e1, g.st _ _ e2 (.inr rfl), e3.mono g⟩
section
variable {X : Cx} {I : Inf} {n : Option (Nat × Str)} {cls : Value} {d : Option Addr} {oe : Obj} {a : Addr} {pn : List (Addr × Obj)} {x : Exc} {E : Value → Option Addr → Hp → Prop}
theorem HAt.grow {ρ ρ' : List Addr} {H H' : Hp} {ς : Loc} {σ : L2.St} {M M' : Mem} (h : HAt X n a x cls d ρ H ς σ M) (g : Grow ρ H ρ' H') (m : RepM X.K ρ' H' M') : HAt X n a x cls d ρ' H' ς σ M' :=
  ⟨⟨h.at_.s.mono g, m⟩, h.sl, h.ex.mono g⟩
def LH (X : Cx) (n : Option (Nat × Str)) (a : Addr) (x : Exc) (cls : Value) (d : Option Addr) (E : Value → Option Addr → Hp → Prop) (f : Mem → Out A) : TE := fun σ H Q => ∃ ρ ς M, HAt X n a x cls d ρ H ς σ M ∧ Post X.K X.mg (Rep X.K) ρ H (f M) Q E
def LHA (X : Cx) (n : Option (Nat × Str)) (a : Addr) (x : Exc) (cls : Value) (d : Option Addr) (E : Value → Option Addr → Hp → Prop) (f : Mem → Out (List A)) : TA := fun σ H Q => ∃ ρ ς M, HAt X n a x cls d ρ H ς σ M ∧ Post X.K X.mg (RepAll X.K) ρ H (f M) Q E
def LHT (X : Cx) (n : Option (Nat × Str)) (a : Addr) (x : Exc) (cls : Value) (d : Option Addr) (E : Value → Option Addr → Hp → Prop) (f : Mem → Out Bool) : TT := fun σ H Q => ∃ ρ ς M, HAt X n a x cls d ρ H ς σ M ∧ Post X.K X.mg (fun _ _ a v => a = v) ρ H (f M) Q E
theorem lh_bind {α β γ δ : Type} {S : List Addr → Hp → γ → δ → Prop} {R : List Addr → Hp → α → β → Prop} {ρ : List Addr} {H : Hp} {ς : Loc} {σ : L2.St} {M : Mem} {o : Out α} {f : α → Mem → Out γ} {Q : δ → Hp → Prop} {Q' : β → Hp → Prop} {E : Value → Option Addr → Hp → Prop}
    (at_ : HAt X n a x cls d ρ H ς σ M) (h : Post X.K X.mg S ρ H (o.bind f) Q E) (q : ∀ b M1 ρ1 v H1, HAt X n a x cls d ρ1 H1 ς σ M1 → Grow ρ H ρ1 H1 → R ρ1 H1 b v → Post X.K X.mg S ρ1 H1 (f b M1) Q E → Q' v H1) : Post X.K X.mg R ρ H o Q' E :=
  (Post.bind (R := R) h).imp (fun v H1 ⟨b, M1, ρ1, g, r, m, p⟩ => q b M1 ρ1 v H1 (at_.grow g m) g r p) fun _ _ _ z => z
abbrev nmOf (n : Option (Nat × Str)) : Option Str := n.map (·.2)
def OkH (X : Cx) (I : Inf) (n : Option (Nat × Str)) (cls : Value) (d : Option Addr) (oe : Obj) (a : Addr) (pn : List (Addr × Obj)) (x : Exc) (E : Value → Option Addr → Hp → Prop) (m : HE) : Prop := ∀ e, chkH I X.env.scope (nmOf n) m e = true → PE (X.suite a ((a, oe) :: pn)) e (LH X n a x cls d E (evH I.xt x m))
def OkHs (X : Cx) (I : Inf) (n : Option (Nat × Str)) (cls : Value) (d : Option Addr) (oe : Obj) (a : Addr) (pn : List (Addr × Obj)) (x : Exc) (E : Value → Option Addr → Hp → Prop) (ms : List HE) : Prop := ∀ es, chkHs I X.env.scope (nmOf n) ms es = true → PA (X.suite a ((a, oe) :: pn)) es (LHA X n a x cls d E (evHs I.xt x ms))
theorem nm_pe (C : HCtx X I n cls d oe) {y : Str} {p : Pos} (h : nmIs (nmOf n) y = true) : ∃ i, n = some (i, y) ∧ PE (X.suite a ((a, oe) :: pn)) (.Name y p) (tVar i) := by
  unfold nmIs at h
  rw [Bool.and_eq_true, decide_eq_true_eq] at h
  obtain ⟨h1, h2⟩ := h
  cases n with
  | none => cases h1
  | some q =>
    obtain ⟨i, z⟩ := q
    have e : z = y := Option.some.inj h1
    subst e
    obtain ⟨c1, c2⟩ := C.at_ i z rfl
    have hn := okName_ok h2
    exact ⟨i, rfl, pe_var c1 (.inl c2) hn.1 hn.2.1⟩
theorem okH_con (C : HCtx X I n cls d oe) (c : Const) : OkH X I n cls d oe a pn x E (.con c) := by
  intro e h
  simp only [chkH] at h
  split at h
  · rename_i c' j pos
    simp only [Bool.and_eq_true, decide_eq_true_eq] at h
    obtain ⟨rfl, h2⟩ := h
    have fin : ∀ {b v}, cA c = some b → (∀ ρ H, Rep X.K ρ H b v) → ∀ σ H Q, LH X n a x cls d E (evH I.xt x (.con c)) σ H Q → Q v H := fun {b v} ha r σ H Q ⟨ρ, ς, M, at_, h⟩ => by
      simp only [evH, ha] at h
      exact post_ok at_.at_.m (r _ _) h
    cases c with
    | none => exact pe_w pe_non (fin rfl fun _ _ => .non)
    | bool b => exact pe_w pe_bl (fin rfl fun _ _ => .bl b)
    | int i => exact pe_w pe_int (fin rfl fun _ _ => .int i)
    | str s => exact pe_w pe_str (fin rfl fun _ _ => .str s)
    | _ => simp [cA] at h2
  · exact Bool.noConfusion h
theorem okH_fld (C : HCtx X I n cls d oe) (f : Str) : OkH X I n cls d oe a pn x E (.fld f) := by
  intro e h
  simp only [chkH] at h
  split at h
  · rename_i y p g p2
    rw [Bool.and_eq_true, decide_eq_true_eq] at h
    obtain ⟨h1, rfl⟩ := h
    obtain ⟨i, en, hp⟩ := nm_pe (a := a) (pn := pn) (p := p) C h1
    cases hl : I.xt.cls.lookup x.cls with
    | none =>
      refine ⟨fun pins s σ H Q J ⟨ρ, ς, M, at_, h⟩ => ?_⟩
      simp only [evH, hl] at h
      exact False.elim h
    | some fo =>
      cases fo with
      | none =>
        refine ⟨fun pins s σ H Q J ⟨ρ, ς, M, at_, h⟩ => ?_⟩
        simp only [evH, hl] at h
        exact False.elim h
      | some f' =>
        obtain ⟨_, Ca, hC, isc, hO⟩ := C.xf.cls _ _ hl
        have O : OwnC X.K X.mg x.cls f' Ca := hO
        by_cases hff : f = f'
        · subst hff
          refine pe_w (pe_xf ⟨isc.hg, isc.hk, isc.hs, isc.hd⟩ O.noF C.hz C.hf hp) fun σ H Q ⟨ρ, ς, M, at_, h⟩ => ?_
          simp only [evH, hl] at h
          cases ef : x.fld with
          | none => rw [ef] at h; exact False.elim h
          | some q =>
            obtain ⟨g', b⟩ := q
            rw [ef] at h
            simp only at h
            split at h
            · rename_i hg
              obtain ⟨_, rfl⟩ := hg
              obtain ⟨⟨C2, m1, rfl⟩, m2⟩ := at_.ex
              rw [ef] at m2
              obtain ⟨dd, v, e1, e2, e3⟩ := m2
              rw [hC] at m1
              cases m1
              exact ⟨.ref a, at_.sl i y en, rfl, rfl, dd, _, v, e1, e2, by simp [List.lookup], post_ok at_.at_.m e3 h⟩
            · exact False.elim h
        · refine ⟨fun pins s σ H Q J ⟨ρ, ς, M, at_, h⟩ => ?_⟩
          simp only [evH, hl] at h
          split at h
          · rw [if_neg (fun z => hff z.1)] at h
            exact False.elim h
          · exact False.elim h
  · exact Bool.noConfusion h
theorem okH_isi (C : HCtx X I n cls d oe) (c : Str) : OkH X I n cls d oe a pn x E (.isi c) := by
  intro e h
  simp only [chkH] at h
  split at h
  · rename_i g p y p2 c' p3 pos
    simp only [Bool.and_eq_true, decide_eq_true_eq] at h
    obtain ⟨⟨⟨⟨rfl, h1⟩, h2⟩, rfl⟩, h3⟩ := h
    obtain ⟨b1, b2, b3⟩ := hasB_ok h1
    have hn := okName_ok b3
    obtain ⟨i, en, hp⟩ := nm_pe (a := a) (pn := pn) (p := p2) C h2
    cases hl : I.xt.isc.lookup (x.cls, c) with
    | none =>
      refine ⟨fun pins s σ H Q J ⟨ρ, ς, M, at_, h⟩ => ?_⟩
      simp only [evH, hl] at h
      exact False.elim h
    | some b =>
      obtain ⟨hok, ⟨fo, hfo⟩, Ca, cv, v, hC, hnm, hk⟩ := C.xf.isc _ _ _ hl
      obtain ⟨_, Ca', hC', isc, _⟩ := C.xf.cls _ _ hfo
      rw [hC] at hC'
      cases hC'
      have hn2 := okName_ok hok
      have hd : PE (X.suite a ((a, oe) :: pn)) (.Name c p3) (tC v) := by
        rcases hnm with ⟨C2, rfl, rfl, h5⟩ | ⟨T, rfl, rfl, h5, h6⟩
        · exact pe_glob (glB_ok h3) h5 rfl hn2.1
        · exact pe_bltn (glB_ok h3) h5 h6 rfl hn2.2.2 hn2.1
      have rel : ∀ u, RelV v u → u = cv := by
        rcases hnm with ⟨C2, rfl, rfl, h5⟩ | ⟨T, rfl, rfl, h5, h6⟩
        · exact fun u r => r
        · exact fun u r => r
      refine ⟨fun pins s σ H Q J h => ?_⟩
      obtain ⟨ρ, ς, M, at_, hq⟩ := h
      simp only [evH, hl] at hq
      have hcls : cls = .ref Ca := by
        obtain ⟨⟨C2, m1, m2⟩, _⟩ := at_.ex
        rw [hC] at m1
        cases m1
        exact m2
      subst hcls
      refine (pe_callB (X := X.suite a ((a, oe) :: pn)) (call_isX isc C.hz C.hf) (glB_ok b1) (C.bl _ b2) (by decide +kernel) (pa_cons hp (pa_cons hd pa_nil)) hn.2.2 hn.1).run pins s σ H Q J ?_
      refine ⟨.ref a, at_.sl i y en, v, cv, b, rfl, rel, hk, fun dd e => ?_, post_ok at_.at_.m (.bl b) hq⟩
      obtain ⟨_, m2⟩ := at_.ex
      subst e
      cases ef : x.fld with
      | none => rw [ef] at m2; cases m2
      | some q =>
        obtain ⟨g', w⟩ := q
        rw [ef] at m2
        obtain ⟨d2, v2, e1, e2, _⟩ := m2
        cases e1
        exact ⟨_, e2⟩
  · exact Bool.noConfusion h
theorem okH_not (m : HE) (i1 : OkH X I n cls d oe a pn x E m) : OkH X I n cls d oe a pn x E (.not m) := by
  intro e h
  simp only [chkH] at h
  split at h
  · rename_i y pos
    refine pe_w (pe_not (i1 y h)) fun σ H Q ⟨ρ, ς, M, at_, h⟩ => ?_
    simp only [evH] at h
    refine ⟨ρ, ς, M, at_, lh_bind at_ h fun y M1 ρ1 v H1 at1 g1 r1 h1 => ?_⟩
    cases r1 with
    | bl c => exact ⟨c, rfl, post_ok at1.at_.m (.bl _) h1⟩
    | _ => exact False.elim h1
  · exact Bool.noConfusion h
theorem okH_and (m1 m2 : HE) (i1 : OkH X I n cls d oe a pn x E m1) (i2 : OkH X I n cls d oe a pn x E m2) : OkH X I n cls d oe a pn x E (.and m1 m2) := by
  intro e h
  simp only [chkH] at h
  split at h
  · rename_i y z r p
    simp only [Bool.and_eq_true] at h
    have hb : PE (X.suite a ((a, oe) :: pn)) (.BoolOp .And (z :: r) p) (LH X n a x cls d E (evH I.xt x m2)) := by
      cases r with
      | nil => exact pe_one (i2 z h.2)
      | cons w r => exact i2 _ h.2
    refine pe_w (pe_and (i1 y h.1) hb) fun σ H Q ⟨ρ, ς, M, at_, h⟩ => ?_
    simp only [evH] at h
    refine ⟨ρ, ς, M, at_, lh_bind at_ h fun y M1 ρ1 v H1 at1 g1 r1 h1 => ?_⟩
    cases r1 with
    | bl c =>
      cases c with
      | true => exact ⟨true, rfl, by rw [if_pos rfl]; exact ⟨ρ1, ς, M1, at1, h1⟩⟩
      | false => exact ⟨false, rfl, by rw [if_neg (by decide)]; exact post_ok at1.at_.m (.bl false) h1⟩
    | _ => exact False.elim h1
  · exact Bool.noConfusion h
theorem okH_or (m1 m2 : HE) (i1 : OkH X I n cls d oe a pn x E m1) (i2 : OkH X I n cls d oe a pn x E m2) : OkH X I n cls d oe a pn x E (.or m1 m2) := by
  intro e h
  simp only [chkH] at h
  split at h
  · rename_i y z r p
    simp only [Bool.and_eq_true] at h
    have hb : PE (X.suite a ((a, oe) :: pn)) (.BoolOp .Or (z :: r) p) (LH X n a x cls d E (evH I.xt x m2)) := by
      cases r with
      | nil => exact pe_one (i2 z h.2)
      | cons w r => exact i2 _ h.2
    refine pe_w (pe_or (i1 y h.1) hb) fun σ H Q ⟨ρ, ς, M, at_, h⟩ => ?_
    simp only [evH] at h
    refine ⟨ρ, ς, M, at_, lh_bind at_ h fun y M1 ρ1 v H1 at1 g1 r1 h1 => ?_⟩
    cases r1 with
    | bl c =>
      cases c with
      | false => exact ⟨false, rfl, by rw [if_neg (by decide)]; exact ⟨ρ1, ς, M1, at1, h1⟩⟩
      | true => exact ⟨true, rfl, by rw [if_pos rfl]; exact post_ok at1.at_.m (.bl true) h1⟩
    | _ => exact False.elim h1
  · exact Bool.noConfusion h
theorem okH_lst (ms : List HE) (i1 : OkHs X I n cls d oe a pn x E ms) : OkH X I n cls d oe a pn x E (.lst ms) := by
  intro e h
  simp only [chkH] at h
  split at h
  · rename_i xs pos
    refine pe_w (pe_fz (pe_lst (i1 xs h))) fun σ H Q ⟨ρ, ς, M, at_, h⟩ => ?_
    simp only [evH] at h
    refine ⟨ρ, ς, M, at_, lh_bind at_ h fun ys M1 ρ1 vs H1 at1 g1 r1 h1 => ?_⟩
    exact fin_lst at1.at_.m r1 h1
  · exact Bool.noConfusion h
theorem okHs_nil : OkHs X I n cls d oe a pn x E [] := by
  intro es h
  cases es with
  | nil =>
    refine pa_w pa_nil fun σ H Q ⟨ρ, ς, M, at_, h⟩ => ?_
    simp only [evHs] at h
    exact post_ok at_.at_.m .nil h
  | cons _ _ => simp [chkHs] at h
theorem okHs_cons (m : HE) (ms : List HE) (i1 : OkH X I n cls d oe a pn x E m) (i2 : OkHs X I n cls d oe a pn x E ms) : OkHs X I n cls d oe a pn x E (m :: ms) := by
  intro es h
  cases es with
  | nil => simp [chkHs] at h
  | cons e es =>
    simp only [chkHs, Bool.and_eq_true] at h
    refine pa_w (pa_cons (i1 e h.1.2) (i2 es h.2) (star_plain h.1.1)) fun σ H Q ⟨ρ, ς, M, at_, h⟩ => ?_
    simp only [evHs] at h
    refine ⟨ρ, ς, M, at_, lh_bind at_ h fun y M1 ρ1 v H1 at1 g1 r1 h1 => ?_⟩
    refine ⟨ρ1, ς, M1, at1, lh_bind at1 h1 fun ys M2 ρ2 vs H2 at2 g2 r2 h2 => ?_⟩
    exact post_ok at2.at_.m (.cons (r1.mono g2) r2) h2
theorem okH_all (C : HCtx X I n cls d oe) (m : HE) : OkH X I n cls d oe a pn x E m := by
  refine HE.rec (motive_1 := fun m => OkH X I n cls d oe a pn x E m) (motive_2 := fun ms => OkHs X I n cls d oe a pn x E ms) ?con ?fld ?isi ?not ?and ?or ?lst ?nil ?cons m
  case con => exact fun c => okH_con C c
  case fld => exact fun f => okH_fld C f
  case isi => exact fun c => okH_isi C c
  case not => exact fun m i => okH_not m i
  case and => exact fun m1 m2 i j => okH_and m1 m2 i j
  case or => exact fun m1 m2 i j => okH_or m1 m2 i j
  case lst => exact fun ms i => okH_lst ms i
  case nil => exact okHs_nil
  case cons => exact fun m ms i j => okHs_cons m ms i j

def OkHT (X : Cx) (I : Inf) (n : Option (Nat × Str)) (cls : Value) (d : Option Addr) (oe : Obj) (a : Addr) (pn : List (Addr × Obj)) (x : Exc) (E : Value → Option Addr → Hp → Prop) (m : HE) : Prop := ∀ e, chkH I X.env.scope (nmOf n) m e = true → PT (X.suite a ((a, oe) :: pn)) e (LHT X n a x cls d E (evHT I.xt x m))
theorem hT_stuck {X' : Cx} {m : HE} {e : Expr} (hs : ∀ M, evHT I.xt x m M = .stuck) : PT X' e (LHT X n a x cls d E (evHT I.xt x m)) := by
  refine ⟨fun pins s σ H Q J ⟨ρ, ς, M, at_, h⟩ => ?_⟩
  rw [hs] at h
  exact False.elim h
theorem okHT_all (C : HCtx X I n cls d oe) : ∀ m : HE, OkHT X I n cls d oe a pn x E m
  | .con c => fun e h => hT_stuck fun M => by simp only [evHT]
  | .fld f => fun e h => hT_stuck fun M => by simp only [evHT]
  | .lst es => fun e h => hT_stuck fun M => by simp only [evHT]
  | .isi c => by
    intro e h
    have hp : plainT e = true := by
      simp only [chkH] at h
      split at h <;> first | rfl | exact Bool.noConfusion h
    refine pt_w (pt_truth (okH_all (x := x) (E := E) C (.isi c) e h) (plainT_ok hp)) fun σ H Q ⟨ρ, ς, M, at_, h⟩ => ?_
    simp only [evHT] at h
    refine ⟨ρ, ς, M, at_, lh_bind at_ h fun y M1 ρ1 v H1 at1 g1 r1 h1 => ?_⟩
    cases r1 with
    | bl b => exact ⟨b, truA_w at1.at_.m (.bl b) rfl, post_ok at1.at_.m rfl h1⟩
    | _ => exact False.elim h1
  | .not m => by
    intro e h
    simp only [chkH] at h
    split at h
    · rename_i y pos
      refine pt_w (pt_not (okHT_all C m y h)) fun σ H Q ⟨ρ, ς, M, at_, h⟩ => ?_
      simp only [evHT] at h
      refine ⟨ρ, ς, M, at_, lh_bind at_ h fun t M1 ρ1 v H1 at1 g1 r1 h1 => ?_⟩
      have r1' : t = v := r1
      subst r1'
      exact post_ok at1.at_.m rfl h1
    · exact Bool.noConfusion h
  | .and m1 m2 => by
    intro e h
    simp only [chkH] at h
    split at h
    · rename_i y z r p
      simp only [Bool.and_eq_true] at h
      have hb : PW (X.suite a ((a, oe) :: pn)) (.BoolOp .And (z :: r) p) (LHT X n a x cls d E (evHT I.xt x m2)) := by
        cases r with
        | nil => exact pw_and1 (okHT_all C m2 z h.2)
        | cons w r => exact pw_of_bool (okHT_all C m2 _ h.2)
      refine pt_w (PW.pt (pw_and (okHT_all C m1 y h.1) hb)) fun σ H Q ⟨ρ, ς, M, at_, h⟩ => ?_
      simp only [evHT] at h
      refine ⟨ρ, ς, M, at_, lh_bind at_ h fun t M1 ρ1 v H1 at1 g1 r1 h1 => ?_⟩
      have r1' : t = v := r1
      subst r1'
      cases t with
      | true => rw [if_pos rfl] at h1 ⊢; exact ⟨ρ1, ς, M1, at1, h1⟩
      | false => rw [if_neg (by decide)] at h1 ⊢; exact post_ok at1.at_.m rfl h1
    · exact Bool.noConfusion h
  | .or m1 m2 => by
    intro e h
    simp only [chkH] at h
    split at h
    · rename_i y z r p
      simp only [Bool.and_eq_true] at h
      have hb : PW (X.suite a ((a, oe) :: pn)) (.BoolOp .Or (z :: r) p) (LHT X n a x cls d E (evHT I.xt x m2)) := by
        cases r with
        | nil => exact pw_or1 (okHT_all C m2 z h.2)
        | cons w r => exact pw_of_bool (okHT_all C m2 _ h.2)
      refine pt_w (PW.pt (pw_or (okHT_all C m1 y h.1) hb)) fun σ H Q ⟨ρ, ς, M, at_, h⟩ => ?_
      simp only [evHT] at h
      refine ⟨ρ, ς, M, at_, lh_bind at_ h fun t M1 ρ1 v H1 at1 g1 r1 h1 => ?_⟩
      have r1' : t = v := r1
      subst r1'
      cases t with
      | true => rw [if_pos rfl] at h1 ⊢; exact post_ok at1.at_.m rfl h1
      | false => rw [if_neg (by decide)] at h1 ⊢; exact ⟨ρ1, ς, M1, at1, h1⟩
    · exact Bool.noConfusion h

/-! the statements of a suite -/
variable {W : WX}
def PostH (X : Cx) (W : WX) (n : Option (Nat × Str)) (a : Addr) (x : Exc) (cls : Value) (d : Option Addr) (ρ : List Addr) (H : Hp) (o : Out (Fl × Loc)) (D : Ends) : Prop := match o with
  | .ok (fl, ς) M => ∀ (ρ' : List Addr) (H' : Hp), Grow ρ H ρ' H' → match fl with
    | .nxt => ∀ σ', HAt X n a x cls d ρ' H' ς σ' M → D.nx σ' H'
    | .brk => ∀ σ', HAt X n a x cls d ρ' H' ς σ' M → D.bk σ' H'
    | .cnt => ∀ σ', HAt X n a x cls d ρ' H' ς σ' M → D.ct σ' H'
    | .ret b => ∀ v, Rep X.K ρ' H' b v → RepM X.K ρ' H' M → D.rt v H'
  | .exc y M => ∀ (cls : Value) (d : Option Addr) (ρ' : List Addr) (H' : Hp) (σ' : L2.St), Grow ρ H ρ' H' → ExcRep X.K X.mg ρ' H' y cls d → RepM X.K ρ' H' M → W cls d σ' H'
  | .stuck => False
def LHS (X : Cx) (W : WX) (n : Option (Nat × Str)) (a : Addr) (x : Exc) (cls : Value) (d : Option Addr) (f : Loc → Mem → Out (Fl × Loc)) : TS := fun D σ H => ∃ ρ ς M, HAt X n a x cls d ρ H ς σ M ∧ PostH X W n a x cls d ρ H (f ς M) D
theorem hs_grow {ρ ρ' : List Addr} {H H' : Hp} {D : Ends} {o : Out (Fl × Loc)} (g : Grow ρ H ρ' H') (h : PostH X W n a x cls d ρ H o D) : PostH X W n a x cls d ρ' H' o D := by
  cases o with
  | ok r M => exact fun ρ2 H2 g2 => h ρ2 H2 (g.trans g2)
  | exc x M => exact fun c d ρ2 H2 σ2 g2 => h c d ρ2 H2 σ2 (g.trans g2)
  | stuck => exact h
theorem hs_bind {α β : Type} {R : List Addr → Hp → α → β → Prop} {p : Out α} {f : α → Mem → Out (Fl × Loc)} {ρ : List Addr} {H : Hp} {ς : Loc} {σ : L2.St} {M : Mem} {D : Ends} {Q' : β → Hp → Prop}
    (at_ : HAt X n a x cls d ρ H ς σ M) (h : PostH X W n a x cls d ρ H (p.bind f) D) (q : ∀ b M1 ρ1 v H1, HAt X n a x cls d ρ1 H1 ς σ M1 → Grow ρ H ρ1 H1 → R ρ1 H1 b v → PostH X W n a x cls d ρ1 H1 (f b M1) D → Q' v H1) : Post X.K X.mg R ρ H p Q' (fun c d H' => W c d σ H') := by
  cases p with
  | ok b M => exact fun v ρ1 H1 g r m => q b M ρ1 v H1 (at_.grow g m) g r (hs_grow g h)
  | exc x M => exact fun c d ρ1 H1 g e m => h c d ρ1 H1 σ g e m
  | stuck => exact h
theorem PostH.nx {ρ : List Addr} {H : Hp} {D : Ends} {ς : Loc} {σ : L2.St} {M : Mem} (at_ : HAt X n a x cls d ρ H ς σ M) (h : PostH X W n a x cls d ρ H (.ok (.nxt, ς) M) D) : D.nx σ H := h ρ H (Grow.refl _ _) σ at_
theorem PostH.seq {g : Loc → Mem → Out (Fl × Loc)} {ρ : List Addr} {H : Hp} {D : Ends} {o : Out (Fl × Loc)} (h : PostH X W n a x cls d ρ H (o.bind fun r M1 => match r.1 with
    | .nxt => g r.2 M1
    | _ => .ok r M1) D) : PostH X W n a x cls d ρ H o { D with nx := LHS X W n a x cls d g D } := by
  cases o with
  | ok r M =>
    obtain ⟨fl, ς⟩ := r
    cases fl with
    | nxt => exact fun ρ1 H1 g1 σ1 at1 => ⟨ρ1, ς, M, at1, hs_grow g1 h⟩
    | brk => exact h
    | cnt => exact h
    | ret a => exact h
  | exc x M => exact h
  | stuck => exact h
def OkHS (X : Cx) (I : Inf) (W : WX) (n : Option (Nat × Str)) (cls : Value) (d : Option Addr) (oe : Obj) (a : Addr) (pn : List (Addr × Obj)) (x : Exc) (m : HS) : Prop := ∀ st, chkHS I X.N X.env.scope (nmOf n) m st = true → PS (X.suite a ((a, oe) :: pn)) st (LHS X W n a x cls d (evHS I.xt x m))
def OkHSs (X : Cx) (I : Inf) (W : WX) (n : Option (Nat × Str)) (cls : Value) (d : Option Addr) (oe : Obj) (a : Addr) (pn : List (Addr × Obj)) (x : Exc) (ms : List HS) : Prop := ∀ ss, chkHSs I X.N X.env.scope (nmOf n) ms ss = true → PSs (X.suite a ((a, oe) :: pn)) ss (LHS X W n a x cls d (evHSs I.xt x ms))
theorem pe_any {X' : Cx} {e : Expr} {f : Mem → Out A} (h : ∀ E, PE X' e (LH X n a x cls d E f)) : PE X' e (fun σ H Q => LH X n a x cls d (fun c dd H' => W c dd σ H') f σ H Q) := ⟨fun pins s σ H Q J q => (h _).run pins s σ H Q J q⟩
theorem pt_any {X' : Cx} {e : Expr} {f : Mem → Out Bool} (h : ∀ E, PT X' e (LHT X n a x cls d E f)) : PT X' e (fun σ H Q => LHT X n a x cls d (fun c dd H' => W c dd σ H') f σ H Q) := ⟨fun pins s σ H Q J q => (h _).run pins s σ H Q J q⟩
theorem okHS_asg (C : HCtx X I n cls d oe) (i : Nat) (m : HE) : OkHS X I W n cls d oe a pn x (.asg i m) := by
  intro st h
  simp only [chkHS] at h
  split at h
  · rename_i y p v pos
    simp only [Bool.and_eq_true, decide_eq_true_eq, Bool.not_eq_true', decide_eq_false_iff_not] at h
    obtain ⟨⟨⟨⟨h1, h2⟩, h3⟩, h4⟩, h5⟩ := h
    refine ps_w (ps_set (X := X.suite a ((a, oe) :: pn)) C.nd h1 (.inl h2) (pe_any (W := W) fun E => okH_all (x := x) (E := E) C m v h5) (noComp_sw h4 _ _ _) (.inl (C.fT y))) fun D σ H ⟨ρ, ς, M, at_, h⟩ => ?_
    simp only [evHS] at h
    refine ⟨ρ, ς, M, at_, hs_bind at_ h fun b M1 ρ1 v H1 at1 g1 r1 h1' => ?_⟩
    refine PostH.nx ⟨⟨at1.at_.s.set r1, at1.at_.m⟩, fun j z en => ?_, at1.ex⟩ h1'
    have hji : i ≠ j := fun e => by
      subst e
      obtain ⟨c1, _⟩ := C.at_ _ _ en
      rw [h1] at c1
      cases c1
      exact h3 (by rw [en]; rfl)
    rw [List.getElem?_set_ne hji]
    exact at1.sl j z en
  · exact Bool.noConfusion h
theorem okHS_ret (C : HCtx X I n cls d oe) (m : HE) : OkHS X I W n cls d oe a pn x (.ret m) := by
  intro st h
  simp only [chkHS] at h
  split at h
  · rename_i v pos
    refine ps_w (ps_ret (X := X.suite a ((a, oe) :: pn)) (pe_any (W := W) fun E => okH_all (x := x) (E := E) C m v h)) fun D σ H ⟨ρ, ς, M, at_, h⟩ => ?_
    simp only [evHS] at h
    refine ⟨ρ, ς, M, at_, hs_bind at_ h fun b M1 ρ1 v H1 at1 g1 r1 h1' => ?_⟩
    exact h1' ρ1 H1 (Grow.refl _ _) v r1 at1.at_.m
  · exact Bool.noConfusion h
theorem okHS_ife (C : HCtx X I n cls d oe) (c : HE) (p q : List HS) (i1 : OkHSs X I W n cls d oe a pn x p) (i2 : OkHSs X I W n cls d oe a pn x q) : OkHS X I W n cls d oe a pn x (.ife c p q) := by
  intro st h
  simp only [chkHS] at h
  split at h
  · rename_i e y z pos
    simp only [Bool.and_eq_true] at h
    refine ps_w (ps_if (X := X.suite a ((a, oe) :: pn)) (pt_any (W := W) fun E => okHT_all (x := x) (E := E) C c e h.1.1) (i1 y h.1.2) (i2 z h.2)) fun D σ H ⟨ρ, ς, M, at_, h⟩ => ?_
    simp only [evHS] at h
    refine ⟨ρ, ς, M, at_, hs_bind at_ h fun t M1 ρ1 v H1 at1 g1 r1 h1' => ?_⟩
    have r1' : t = v := r1
    subst r1'
    cases t with
    | true => rw [if_pos rfl] at h1' ⊢; exact ⟨ρ1, ς, M1, at1, h1'⟩
    | false => rw [if_neg (by decide)] at h1' ⊢; exact ⟨ρ1, ς, M1, at1, h1'⟩
  · exact Bool.noConfusion h
theorem okHSs_nil : OkHSs X I W n cls d oe a pn x [] := by
  intro ss h
  cases ss with
  | nil =>
    refine pss_w pss_nil fun D σ H ⟨ρ, ς, M, at_, h⟩ => ?_
    simp only [evHSs] at h
    exact PostH.nx at_ h
  | cons _ _ => simp [chkHSs] at h
theorem okHSs_cons (m : HS) (ms : List HS) (i1 : OkHS X I W n cls d oe a pn x m) (i2 : OkHSs X I W n cls d oe a pn x ms) : OkHSs X I W n cls d oe a pn x (m :: ms) := by
  intro ss h
  cases ss with
  | nil => simp [chkHSs] at h
  | cons s ss =>
    simp only [chkHSs, Bool.and_eq_true] at h
    refine pss_w (pss_cons (i1 s h.1) (i2 ss h.2)) fun D σ H ⟨ρ, ς, M, at_, h⟩ => ?_
    simp only [evHSs] at h
    exact ⟨ρ, ς, M, at_, PostH.seq h⟩
theorem okHSs_all (C : HCtx X I n cls d oe) (ms : List HS) : OkHSs X I W n cls d oe a pn x ms := by
  refine HS.rec_1 (motive_1 := fun m => OkHS X I W n cls d oe a pn x m) (motive_2 := fun ms => OkHSs X I W n cls d oe a pn x ms) ?asg ?ret ?ife ?nil ?cons ms
  case asg => exact fun i e => okHS_asg C i e
  case ret => exact fun e => okHS_ret C e
  case ife => exact fun c p q i j => okHS_ife C c p q i j
  case nil => exact okHSs_nil
  case cons => exact fun m ms i j => okHSs_cons m ms i j
end
end MP

/-! MP, part I: the theorem for statements -/
namespace MP
open PySem PySem.Spec PyProof.Rows L2
/-- what is asked of the assigned value when it is a comprehension -/
def chkAsgLc (sc : Scope) (x : Str) (p : Pos) (v : Expr) : Bool := match v with
  | .ListComp _ _ scope pos => decide (sc.names.lookup x = some .local) && (p.line == pos.line) && !(scope.names.any fun (n, k) => n == x && (k == .local || k == .cell))
  | _ => false
def isLcM : E → Bool
  | .lc _ _ _ _ _ _ => true
  | .lc2 .. => true
  | _ => false
def notDisp : Expr → Bool
  | .Tuple _ _ _ => false
  | .List _ _ => false
  | _ => true
mutual
def chkS (I : Inf) (N : List Str) (sc : Scope) : S → Stmt → Bool
  | .asg i m, st => match st with
    | .Assign [.Name x p] v _ => decide (N[i]? = some x) && (decide (sc.names.lookup x = some .local) || decide (sc.names.lookup x = some .cell)) && chkE I N sc m v && (noComp v || decide (sc.names.lookup x = some .cell) || (isLcM m && chkAsgLc sc x p v))
    | .AnnAssign (.Name x p) _ (some v) _ _ => decide (N[i]? = some x) && (decide (sc.names.lookup x = some .local) || decide (sc.names.lookup x = some .cell)) && chkE I N sc m v && noComp v
    | _ => false
  | .asgT tg m, st => match st with
    | .Assign [.Tuple es k p] v _ => chkTg N sc tg (.Tuple es k p) && notDisp v && noComp v && chkE I N sc m v
    | _ => false
  | .set a i m, st => match st with
    | .Assign [.Subscript o j _] v _ => noSlice j && chkE I N sc m v && chkE I N sc a o && chkE I N sc i j
    | .AnnAssign (.Subscript o j _) _ (some v) _ _ => noSlice j && chkE I N sc m v && chkE I N sc a o && chkE I N sc i j
    | _ => false
  | .swp a i b j e f, st => match st with
    | .Assign [.Tuple [.Subscript o1 j1 _, .Subscript o2 j2 _] _ _] v _ => (match v with | .Tuple _ _ _ => true | _ => false) && noSlice j1 && noSlice j2 && chkE I N sc (.tup [e, f]) v && chkE I N sc a o1 && chkE I N sc i j1 && chkE I N sc b o2 && chkE I N sc j j2
    | _ => false
  | .expr m, st => match st with
    | .Expr v _ => noComp v && chkE I N sc m v
    | _ => false
  | .ret m, st => match st with
    | .Return (some v) _ => chkE I N sc m v
    | _ => false
  | .retN, st => match st with
    | .Return none _ => true
    | _ => false
  | .ife c a b, st => match st with
    | .If e x y _ => chkE I N sc c e && chkSs I N sc a x && chkSs I N sc b y
    | _ => false
  | .forS tg it body, st => match st with
    | .For t i b [] _ => noSet i && chkTg N sc tg t && chkI I N sc it t i && chkSs I N sc body b
    | _ => false
  | .forC en tg e body, st => match st with
    | .For t i b [] _ => noSet i && chkTg N sc tg t && chkI I N sc (if en = true then .enum e else .over e) t i && chkSs I N sc body b
    | _ => false
  | .whl c body, st => match st with
    | .While e b [] _ => chkE I N sc c e && chkSs I N sc body b
    | _ => false
  | .brk, st => match st with
    | .Break _ => true
    | _ => false
  | .cnt, st => match st with
    | .Continue _ => true
    | _ => false
  | .pass, st => match st with
    | .Pass _ => true
    | .Expr (.Constant (.str _) _ _) _ => true
    | _ => false
  | .raise c m, st => match st with
    | .Raise (some (.Call (.Name y _) xs [] _)) none _ => decide (c = y) && glB sc c && chkR I N sc m xs
    | _ => false
  | .tryE b m c n hs, st => match st with
    | .Try [s] [.ExceptHandler (some (.Name y _)) z (s0 :: ss) _] [] [] _ => decide (c = y) && glB sc c && okName c && (I.xt.exm.any fun p => decide (p.1.2 = c)) && chkTB I N sc b m s && chkNm N sc n z && chkHSs I N sc z hs (s0 :: ss)
    | _ => false
  | .frz _, _ => false
  | .par i j m1 m2, st => match st with
    | .Assign [.Tuple [.Name x px, .Name y py] _ _] (.Tuple [v, w] _ _) _ => (px.line == py.line) && !([v, w].all (foldedForSure 8)) && !([v, w].all (constantsAlone 8)) && decide (N[i]? = some x) && decide (N[j]? = some y) && decide (sc.names.lookup x = some .local) && decide (sc.names.lookup y = some .local) && decide (x ≠ y) && plainB v && plainB w && noComp v && noComp w && chkE I N sc m1 v && chkE I N sc m2 w
    | _ => false
def chkR (I : Inf) (N : List Str) (sc : Scope) : Option E → List Expr → Bool
  | none, xs => match xs with
    | [] => true
    | _ => false
  | some m, xs => match xs with
    | [x] => plainB x && chkE I N sc m x
    | _ => false
def chkTB (I : Inf) (N : List Str) (sc : Scope) : TB → E → Stmt → Bool
  | .asg i, m, st => match st with
    | .Assign [.Name x _] v _ => decide (N[i]? = some x) && decide (sc.names.lookup x = some .local) && noComp v && chkE I N sc m v
    | _ => false
  | .expr, m, st => match st with
    | .Expr v _ => noComp v && chkE I N sc m v
    | _ => false
  | .ret, m, st => match st with
    | .Return (some v) _ => chkE I N sc m v
    | _ => false
def chkNm (N : List Str) (sc : Scope) : Option Nat → Option Str → Bool
  | none, z => match z with
    | none => true
    | _ => false
  | some i, z => match z with
    | some x => decide (N[i]? = some x) && decide (sc.names.lookup x = some .local)
    | none => false
def isFrz : S → Bool
  | .frz _ => true
  | _ => false
def chkSs (I : Inf) (N : List Str) (sc : Scope) : List S → List Stmt → Bool
  | [], ss => match ss with
    | [] => true
    | _ => false
  | m :: ms, ss => if isFrz m = true then chkSs I N sc ms ss else match ss with
    | s :: ss => chkS I N sc m s && chkSs I N sc ms ss
    | [] => false
end

variable [WLD]
section
variable {K : PySem.W.Frag} {mg : Str → Option Value} {W : WX} {ρ ρ' : List Addr} {H H' : Hp} {o : Out (Fl × Loc)} {D D' : Ends}
theorem PostS.grow (g : Grow ρ H ρ' H') (h : PostS K mg W ρ H o D) : PostS K mg W ρ' H' o D := by
  cases o with
  | ok r M => exact fun ρ2 H2 g2 => h ρ2 H2 (g.trans g2)
  | exc x M => exact fun c d ρ2 H2 σ2 g2 => h c d ρ2 H2 σ2 (g.trans g2)
  | stuck => exact h
/-- a statement's expression first -/
theorem PostS.bindE {α β : Type} {R : List Addr → Hp → α → β → Prop} {p : Out α} {f : α → Mem → Out (Fl × Loc)} {σ : L2.St} (h : PostS K mg W ρ H (p.bind f) D) :
    Post K mg R ρ H p (fun v H1 => ∃ a M1 ρ1, Grow ρ H ρ1 H1 ∧ R ρ1 H1 a v ∧ RepM K ρ1 H1 M1 ∧ PostS K mg W ρ1 H1 (f a M1) D) fun c d H' => W c d σ H' := by
  cases p with
  | ok a M => exact fun v ρ1 H1 g r m => ⟨a, M, ρ1, g, r, m, PostS.grow g h⟩
  | exc x M => exact fun c d ρ1 H1 g e m => h c d ρ1 H1 σ g e m
  | stuck => exact h
theorem ls_bind {α β : Type} {R : List Addr → Hp → α → β → Prop} {p : Out α} {f : α → Mem → Out (Fl × Loc)} {ς : Loc} {σ : L2.St} {M : Mem} {Q' : β → Hp → Prop}
    (at_ : At K ρ H ς σ M) (h : PostS K mg W ρ H (p.bind f) D) (q : ∀ a M1 ρ1 v H1, At K ρ1 H1 ς σ M1 → Grow ρ H ρ1 H1 → R ρ1 H1 a v → PostS K mg W ρ1 H1 (f a M1) D → Q' v H1) : Post K mg R ρ H p Q' (fun c d H' => W c d σ H') :=
  (PostS.bindE (R := R) h).imp (fun v H1 ⟨a, M1, ρ1, g, r, m, p⟩ => q a M1 ρ1 v H1 ⟨at_.s.mono g, m⟩ g r p) fun _ _ _ z => z
theorem PostS.nx {ς : Loc} {σ : L2.St} {M : Mem} (at_ : At K ρ H ς σ M) (h : PostS K mg W ρ H (.ok (.nxt, ς) M) D) : D.nx σ H := h ρ H (Grow.refl _ _) σ at_
/-- one statement after the other -/
theorem PostS.seq {g : Loc → Mem → Out (Fl × Loc)} (h : PostS K mg W ρ H (o.bind fun r M1 => match r.1 with
    | .nxt => g r.2 M1
    | _ => .ok r M1) D) : PostS K mg W ρ H o { D with nx := LS K mg W g D } := by
  cases o with
  | ok r M =>
    obtain ⟨fl, ς⟩ := r
    cases fl with
    | nxt => exact fun ρ1 H1 g1 σ1 at1 => ⟨ρ1, ς, M, at1, PostS.grow g1 h⟩
    | brk => exact h
    | cnt => exact h
    | ret a => exact h
  | exc x M => exact h
  | stuck => exact h
end

/-- where statements run -/
structure SCtx (X : Cx) (I : Inf) (P : Par) (W : WX) (k : Nat) : Prop extends Ctx X I P W k where
  po : PassesOwn (model X.prog X.w) X.A X.env X.xe
  fT : ∀ x, X.fn x = true
  kind : X.env.scope.kind = .function
  stk : X.stack = X.env :: X.outer
  frm : X.env.frame = some X.env.locals
def OkS (P : Par) (I : Inf) (m : S) : Prop := ∀ {X : Cx} {W : WX} {k : Nat}, SCtx X I P W k → ∀ st, chkS I X.N X.env.scope m st = true → PS X st (LS X.K X.mg W (evS P m))
def OkSs (P : Par) (I : Inf) (ms : List S) : Prop := ∀ {X : Cx} {W : WX} {k : Nat}, SCtx X I P W k → ∀ st, chkSs I X.N X.env.scope ms st = true → PSs X st (LS X.K X.mg W (evSs P ms))
section
variable {X : Cx} {P : Par} {I : Inf}
theorem SCtx.sub {W : WX} {k : Nat} (C : SCtx X I P W k) : Sub X.env.scope X := Sub.same C.fT
theorem gl_ok {sc : Scope} {x : Str} (h : (decide (sc.names.lookup x = some .local) || decide (sc.names.lookup x = some .cell)) = true) : L2.Loc sc x := by
  rw [Bool.or_eq_true, decide_eq_true_eq, decide_eq_true_eq] at h
  exact h
theorem okI_all (P : Par) (I : Inf) (it : It) : OkI P I it := by
  cases it with
  | over e => exact okI_over e (okAll P I e).1
  | range1 e => exact okI_range1 e (okAll P I e).1
  | enum e => exact okI_enum e (okAll P I e).1
theorem okTs_all (P : Par) (I : Inf) : ∀ ms : List E, OkTs P I ms
  | [] => okTs_nil
  | m :: ms => okTs_cons m ms (okAll P I m).2 (okTs_all P I ms)
theorem sw_sub {o j v : Expr} {p : Pos} {l : Nat} {env : Env} : swapsWith v (some (.Subscript o j p)) l env = pure false := by cases v <;> rfl
theorem sw_tup {es : List Expr} {k : Nat} {v : Expr} {p : Pos} {l : Nat} {env : Env} (h : noComp v = true) : swapsWith v (some (.Tuple es k p)) l env = pure false := noComp_sw h _ _ _
theorem sw_cell {v : Expr} {x : Str} {p : Pos} {l : Nat} {env : Env} (h : env.scope.names.lookup x = some .cell) : swapsWith v (some (.Name x p)) l env = pure false := by
  have k : env.kindOf x = some .cell := h
  unfold swapsWith
  cases v <;> first | rfl | (simp only [k, (by decide : (some NameKind.cell == some NameKind.local) = false), Bool.and_false, Bool.false_and])
theorem okS_asg (i : Nat) (m : E) : OkS P I (.asg i m) := by
  intro X W k C st h
  have h1 := @(okAll P I m).1
  have fin : ∀ {D : Ends} {σ : L2.St} {H : Hp}, LS X.K X.mg W (evS P (.asg i m)) D σ H → LE X.K X.mg W (evE P m) σ H fun v H1 => D.nx (σ.set i (some v)) H1 := by
    intro D σ H ⟨ρ, ς, M, at_, h⟩
    simp only [evS] at h
    refine ⟨ρ, ς, M, at_, ls_bind at_ h fun a M1 ρ1 v H1 at1 g1 r1 h1 => ?_⟩
    exact PostS.nx ⟨at1.s.set r1, at1.m⟩ h1
  simp only [chkS] at h
  split at h
  · rename_i x p v pos
    simp only [Bool.and_eq_true, decide_eq_true_eq] at h
    obtain ⟨⟨⟨hi, hl⟩, hm⟩, hv⟩ := h
    by_cases hc : (noComp v || decide (X.env.scope.names.lookup x = some .cell)) = true
    · have sw : swapsWith v (some (.Name x p)) pos.line X.env = pure false := by
        rw [Bool.or_eq_true] at hc
        rcases hc with hc | hc
        · exact noComp_sw hc _ _ _
        · exact sw_cell (of_decide_eq_true hc)
      exact ps_w (ps_set C.nd hi (gl_ok hl) (h1 C.toCtx C.sub v hm) sw (.inl (C.fT x))) fun D σ H h => fin h
    · have hv : (isLcM m && chkAsgLc X.env.scope x p v) = true := by
        rw [Bool.or_eq_true] at hv
        exact hv.resolve_left hc
      rw [Bool.and_eq_true] at hv
      obtain ⟨hv1, hv2⟩ := hv
      cases m with
      | lc o vs elt tg it ifs =>
        have hs := C.sub
        simp only [chkE] at hm
        split at hm
        · rename_i elx t itx fs scope lp
          simp only [chkAsgLc, Bool.and_eq_true, decide_eq_true_eq, Bool.not_eq_true'] at hv2
          obtain ⟨⟨hy, hln⟩, hany⟩ := hv2
          have sw := sw_true (elt := elx) (gs := [⟨t, itx, fs, 0⟩]) (l := pos.line) (py := p) C.kind hy hln hany
          simp only [Bool.and_eq_true, List.all_eq_true, decide_eq_true_eq] at hm
          obtain ⟨⟨⟨⟨⟨⟨h1, h2⟩, h3⟩, h4⟩, h5⟩, h6⟩, h7⟩ := hm
          have ok : BlkOk X.N X.env.scope scope (ownOf X.N vs) := hs.blkC h3
          have hit := okI_all P I it C.toCtx hs t itx h5
          have e2 : (ownOf X.N vs).map (·.2) = vs := by
            unfold ownOf
            rw [List.map_map]
            simp [Function.comp_def]
          have hg : ∀ (s : Shared) (H : Hp) (Ca : Addr) (cl : List (Str × Addr)) (fp : List Addr), PG (X.blk s H scope (compEnvC scope cl Ca X.env) fp) t (LG X.K tg) := fun s H Ca cl fp => tg_ok (Sub.blk scope s H Ca cl fp) C.calm C.nd tg t h4
          have ht : ∀ (s : Shared) (H : Hp) (Ca : Addr) (cl : List (Str × Addr)) (fp : List Addr), PTs (X.blk s H scope (compEnvC scope cl Ca X.env) fp) fs (LT X.K X.mg WX0 (evTs P ifs)) := fun s H Ca cl fp => okTs_all P I ifs (C.blk s H scope _ fp) (Sub.blk scope s H Ca cl fp) fs h6
          have he : ∀ (s : Shared) (H : Hp) (Ca : Addr) (cl : List (Str × Addr)) (fp : List Addr), PE (X.blk s H scope (compEnvC scope cl Ca X.env) fp) elx (LE X.K X.mg WX0 (evE P elt)) := fun s H Ca cl fp => (okAll P I elt).1 (C.blk s H scope _ fp) (Sub.blk scope s H Ca cl fp) elx h7
          have ps := ps_setLc (i := i) (spos := pos) C.calm C.nd hi hy sw hit ok hg ht he (noFold_of h1)
          rw [e2] at ps
          refine ps_w (ps_fz ps) fun D σ H hq => ?_
          obtain ⟨ρ, ς, M, at_, hq⟩ := fin hq
          simp only [evE] at hq
          exact pe_lcA (o := o) C.toCtx hs h1 h2 ok hit hg ht he σ H (fun v H1 => D.nx (σ.set i (some v)) H1) ⟨ρ, ς, M, at_, hq⟩
        · exact Bool.noConfusion hm
      | lc2 o vs vs1 elt tg it ifs tg1 it1 ifs1 =>
        have hs := C.sub
        simp only [chkE] at hm
        split at hm
        · rename_i elx t0 i0 fs t1 i1 fs1 scope lp
          simp only [chkAsgLc, Bool.and_eq_true, decide_eq_true_eq, Bool.not_eq_true'] at hv2
          obtain ⟨⟨hy, hln⟩, hany⟩ := hv2
          have sw := sw_true (elt := elx) (gs := [⟨t0, i0, fs, 0⟩, ⟨t1, i1, fs1, 0⟩]) (l := pos.line) (py := p) C.kind hy hln hany
          simp only [Bool.and_eq_true, List.all_eq_true, decide_eq_true_eq] at hm
          obtain ⟨⟨⟨⟨⟨⟨⟨⟨⟨⟨⟨⟨hn0, hn1⟩, hin⟩, hin1⟩, hvs⟩, hblk⟩, ht0⟩, ht1⟩, hi0⟩, hf0⟩, hi1⟩, hf1⟩, he⟩ := hm
          have ok : BlkOk X.N X.env.scope scope (ownOf X.N vs) := hs.blkC hblk
          have e2 : (ownOf X.N vs).map (·.2) = vs := by
            unfold ownOf
            rw [List.map_map]
            simp [Function.comp_def]
          have ps := ps_setLc2 (X := X) (i := i) (spos := pos) (vs1 := vs1) (elt := elx) (wi := LI X.K X.mg W (evI P it)) (g := LG X.K tg) (tt := LT X.K X.mg WX0 (evTs P ifs)) (wi1 := LI X.K X.mg WX0 (evI P it1)) (g1 := LG X.K tg1) (tt1 := LT X.K X.mg WX0 (evTs P ifs1)) (te := LE X.K X.mg WX0 (evE P elt))
            C.calm C.nd hi hy sw (okI_all P I it C.toCtx hs t0 i0 hi0) ok (by rw [e2]; exact hvs)
            (fun s H Ca cl fp => tg_ok (Sub.blk scope s H Ca cl fp) C.calm C.nd tg t0 ht0) (fun s H Ca cl fp => okTs_all P I ifs (C.blk s H scope _ fp) (Sub.blk scope s H Ca cl fp) fs hf0)
            (fun s H Ca cl fp => okI_all P I it1 (C.blk s H scope _ fp) (Sub.blk scope s H Ca cl fp) t1 i1 hi1) (fun s H Ca cl fp => tg_ok (Sub.blk scope s H Ca cl fp) C.calm C.nd tg1 t1 ht1)
            (fun s H Ca cl fp => okTs_all P I ifs1 (C.blk s H scope _ fp) (Sub.blk scope s H Ca cl fp) fs1 hf1) (fun s H Ca cl fp => (okAll P I elt).1 (C.blk s H scope _ fp) (Sub.blk scope s H Ca cl fp) elx he)
            (noFold_of hn0) (fun env x => noFold_of (env := env) hn1 x)
          rw [e2] at ps
          refine ps_w (ps_fz ps) fun D σ H hq => ?_
          obtain ⟨ρ, ς, M, at_, hq⟩ := fin hq
          rw [evE_lc2] at hq
          exact pe_lc2A (P := P) (o := o) hin hin1 σ H (fun v H1 => D.nx (σ.set i (some v)) H1) ⟨ρ, ς, M, at_, hq⟩
        · exact Bool.noConfusion hm
      | _ => exact Bool.noConfusion hv1
  · rename_i x p ann v simple pos
    simp only [Bool.and_eq_true, decide_eq_true_eq] at h
    obtain ⟨⟨⟨hi, hl⟩, hm⟩, hv⟩ := h
    exact ps_w (ps_ann (h1 C.toCtx C.sub v hm) (pg_name C.nd hi (gl_ok hl) (.inl (C.fT x))) (noComp_sw hv _ _ _)) fun D σ H h => fin h
  · exact Bool.noConfusion h
theorem okS_asgT (tg : Tg) (m : E) : OkS P I (.asgT tg m) := by
  intro X W k C st h
  simp only [chkS] at h
  split at h
  · rename_i es kk p v pos
    simp only [Bool.and_eq_true] at h
    obtain ⟨⟨⟨ht, hd⟩, hc⟩, hm⟩ := h
    refine ps_w (ps_asg ((okAll P I m).1 C.toCtx C.sub v hm) (tg_ok C.sub C.calm C.nd tg _ ht) (show swapsWith v (some (.Tuple es kk p)) pos.line X.env = pure false from sw_tup hc) (by cases v <;> first | rfl | exact Bool.noConfusion hd)) fun D σ H ⟨ρ, ς, M, at_, h⟩ => ?_
    simp only [evS] at h
    refine ⟨ρ, ς, M, at_, ls_bind at_ h fun a M1 ρ1 v H1 at1 g1 r1 h1 => ?_⟩
    split at h1
    · rename_i ς' e
      exact ⟨ρ1, ς, M1, a, at1, r1, ς', e, fun σ' hs' _ => PostS.nx ⟨hs', at1.m⟩ h1⟩
    · exact False.elim h1
  · exact Bool.noConfusion h
theorem okS_set (a i m : E) : OkS P I (.set a i m) := by
  intro X W k C st h
  have fin : ∀ {D : Ends} {σ : L2.St} {H : Hp}, LS X.K X.mg W (evS P (.set a i m)) D σ H → tAsg (LE X.K X.mg W (evE P m)) (gSub (LE X.K X.mg W (evE P a)) (LE X.K X.mg W (evE P i)) (rSetX X.K)) D σ H := by
    intro D σ H ⟨ρ, ς, M, at_, h⟩
    simp only [evS] at h
    refine ⟨ρ, ς, M, at_, ls_bind at_ h fun x M1 ρ1 v H1 at1 g1 r1 h1 => ?_⟩
    refine ⟨ρ1, ς, M1, at1, ls_bind at1 h1 fun y M2 ρ2 v2 H2 at2 g2 r2 h2 => ?_⟩
    refine ⟨ρ2, ς, M2, at2, ls_bind at2 h2 fun z M3 ρ3 v3 H3 at3 g3 r3 h3 => ?_⟩
    refine setA_w (mg := X.mg) (N := fun H' => D.nx σ H') (E := fun c d H' => W c d σ H') at3.m (r2.mono g3) r3 (r1.mono (g2.trans g3)) ?_
    exact ls_bind at3 h3 fun _ M4 ρ4 _ H4 at4 g4 _ h4 => PostS.nx at4 h4
  simp only [chkS] at h
  split at h
  · rename_i o j p v pos
    simp only [Bool.and_eq_true] at h
    obtain ⟨⟨⟨hn, hm⟩, ho⟩, hj⟩ := h
    refine ps_w (ps_asg ((okAll P I m).1 C.toCtx C.sub v hm) (pg_sub ((okAll P I a).1 C.toCtx C.sub o ho) ((okAll P I i).1 C.toCtx C.sub j hj) (set_X C.wp C.ww C.units) ?_) (show swapsWith v (some (.Subscript o j p)) pos.line X.env = pure false from sw_sub) ?_) fun D σ H h => fin h
    · intro w
      cases j <;> first | rfl | exact Bool.noConfusion hn
    · cases v <;> rfl
  · rename_i o j p ann v simple pos
    simp only [Bool.and_eq_true] at h
    obtain ⟨⟨⟨hn, hm⟩, ho⟩, hj⟩ := h
    refine ps_w (ps_ann ((okAll P I m).1 C.toCtx C.sub v hm) (pg_sub ((okAll P I a).1 C.toCtx C.sub o ho) ((okAll P I i).1 C.toCtx C.sub j hj) (set_X C.wp C.ww C.units) ?_) sw_sub) fun D σ H h => fin h
    intro w
    cases j <;> first | rfl | exact Bool.noConfusion hn
  · exact Bool.noConfusion h
theorem swp_none {o1 j1 o2 j2 : Expr} {p1 p2 tp pv : Pos} {kk k2} {es : List Expr} {env : Env} : swappedStores [Expr.Tuple [.Subscript o1 j1 p1, .Subscript o2 j2 p2] kk tp] (Expr.Tuple es k2 pv) env = pure none := by
  unfold swappedStores
  dsimp only
  split
  · rfl
  · split
    · rfl
    · rfl
theorem okS_swp (a i b j e f : E) : OkS P I (.swp a i b j e f) := by
  intro X W k C st h
  have fin : ∀ {D : Ends} {σ : L2.St} {H : Hp}, LS X.K X.mg W (evS P (.swp a i b j e f)) D σ H → tAsg (LE X.K X.mg W (evE P (.tup [e, f]))) (gTup X.K 2 (gCons (gSub (LE X.K X.mg W (evE P a)) (LE X.K X.mg W (evE P i)) (rSetX X.K)) (gCons (gSub (LE X.K X.mg W (evE P b)) (LE X.K X.mg W (evE P j)) (rSetX X.K)) gNil))) D σ H := by
    intro D σ H ⟨ρ, ς, M, at_, h⟩
    simp only [evS] at h
    refine ⟨ρ, ς, M, at_, ls_bind at_ h fun t M1 ρ1 v H1 at1 g1 r1 h1 => ?_⟩
    cases r1 with
    | @tup p xs vs s1 rr =>
      simp only [] at h1
      split at h1
      · rename_i x y exy
        have hxy : xs = [x, y] := by
          unfold two? at exy
          split at exy
          · cases exy; rfl
          · cases exy
        subst hxy
        cases rr with
        | @cons _ vx _ _ rx rr =>
          cases rr with
          | @cons _ vy _ _ ry rr =>
            cases rr
            refine ⟨p, [vx, vy], rfl, s1, rfl, vx, [vy], rfl, ρ1, ς, M1, at1, ls_bind at1 h1 fun y1 M2 ρ2 v2 H2 at2 g2 r2 h2 => ?_⟩
            refine ⟨ρ2, ς, M2, at2, ls_bind at2 h2 fun z1 M3 ρ3 v3 H3 at3 g3 r3 h3 => ?_⟩
            refine setA_w (mg := X.mg) (N := fun H' => gCons (gSub (LE X.K X.mg W (evE P b)) (LE X.K X.mg W (evE P j)) (rSetX X.K)) gNil [vy] σ H' D.nx) (E := fun c d H' => W c d σ H') at3.m (r2.mono g3) r3 (rx.mono (g2.trans g3)) ?_
            refine ls_bind at3 h3 fun _ M4 ρ4 _ H4 at4 g4 _ h4 => ?_
            refine ⟨vy, [], rfl, ρ4, ς, M4, at4, ls_bind at4 h4 fun y2 M5 ρ5 v5 H5 at5 g5 r5 h5 => ?_⟩
            refine ⟨ρ5, ς, M5, at5, ls_bind at5 h5 fun z2 M6 ρ6 v6 H6 at6 g6 r6 h6 => ?_⟩
            refine setA_w (mg := X.mg) (N := fun H' => gNil [] σ H' D.nx) (E := fun c d H' => W c d σ H') at6.m (r5.mono g6) r6 (ry.mono ((g2.trans g3).trans (g4.trans (g5.trans g6)))) ?_
            exact ls_bind at6 h6 fun _ M7 ρ7 _ H7 at7 g7 _ h7 => ⟨rfl, PostS.nx at7 h7⟩
      · exact False.elim h1
    | _ => exact False.elim h1
  simp only [chkS] at h
  split at h
  · rename_i o1 j1 p1 o2 j2 p2 kk tp v pos
    simp only [Bool.and_eq_true] at h
    obtain ⟨⟨⟨⟨⟨⟨⟨hv, hn1⟩, hn2⟩, hm⟩, ho1⟩, hj1⟩, ho2⟩, hj2⟩ := h
    have q1 : PG X (.Subscript o1 j1 p1) (gSub (LE X.K X.mg W (evE P a)) (LE X.K X.mg W (evE P i)) (rSetX X.K)) := by
      refine pg_sub ((okAll P I a).1 C.toCtx C.sub o1 ho1) ((okAll P I i).1 C.toCtx C.sub j1 hj1) (set_X C.wp C.ww C.units) ?_
      intro w
      cases j1 <;> first | rfl | exact Bool.noConfusion hn1
    have q2 : PG X (.Subscript o2 j2 p2) (gSub (LE X.K X.mg W (evE P b)) (LE X.K X.mg W (evE P j)) (rSetX X.K)) := by
      refine pg_sub ((okAll P I b).1 C.toCtx C.sub o2 ho2) ((okAll P I j).1 C.toCtx C.sub j2 hj2) (set_X C.wp C.ww C.units) ?_
      intro w
      cases j2 <;> first | rfl | exact Bool.noConfusion hn2
    cases v with
    | Tuple es k2 pv =>
      exact ps_w (ps_asg ((okAll P I (.tup [e, f])).1 C.toCtx C.sub _ hm) (pg_tup C.calm (pgs_cons q1 (pgs_cons q2 pgs_nil))) rfl swp_none) fun D σ H h => fin h
    | _ => exact Bool.noConfusion hv
  · exact Bool.noConfusion h
theorem okS_expr (m : E) : OkS P I (.expr m) := by
  intro X W k C st h
  simp only [chkS] at h
  split at h
  · rename_i v pos
    rw [Bool.and_eq_true] at h
    refine ps_w (ps_expr ((okAll P I m).1 C.toCtx C.sub v h.2) (noComp_sw h.1 _ _ _)) fun D σ H ⟨ρ, ς, M, at_, h⟩ => ?_
    simp only [evS] at h
    exact ⟨ρ, ς, M, at_, ls_bind at_ h fun a M1 ρ1 v H1 at1 g1 r1 h1 => PostS.nx at1 h1⟩
  · exact Bool.noConfusion h
theorem okS_ret (m : E) : OkS P I (.ret m) := by
  intro X W k C st h
  simp only [chkS] at h
  split at h
  · rename_i v pos
    refine ps_w (ps_ret ((okAll P I m).1 C.toCtx C.sub v h)) fun D σ H ⟨ρ, ς, M, at_, h⟩ => ?_
    simp only [evS] at h
    exact ⟨ρ, ς, M, at_, ls_bind at_ h fun a M1 ρ1 v H1 at1 g1 r1 h1 => h1 ρ1 H1 (Grow.refl _ _) v r1 at1.m⟩
  · exact Bool.noConfusion h
theorem okS_retN : OkS P I .retN := by
  intro X W k C st h
  simp only [chkS] at h
  split at h
  · refine ps_w ps_retN fun D σ H ⟨ρ, ς, M, at_, h⟩ => ?_
    simp only [evS] at h
    exact h ρ H (Grow.refl _ _) .non .non at_.m
  · exact Bool.noConfusion h
theorem okS_ife (c : E) (a b : List S) (i1 : OkSs P I a) (i2 : OkSs P I b) : OkS P I (.ife c a b) := by
  intro X W k C st h
  simp only [chkS] at h
  split at h
  · rename_i e x y pos
    simp only [Bool.and_eq_true] at h
    refine ps_w (ps_if ((okAll P I c).2 C.toCtx C.sub e h.1.1) (i1 C x h.1.2) (i2 C y h.2)) fun D σ H ⟨ρ, ς, M, at_, h⟩ => ?_
    simp only [evS] at h
    refine ⟨ρ, ς, M, at_, ls_bind at_ h fun t M1 ρ1 v H1 at1 g1 r1 h1 => ?_⟩
    have r1' : t = v := r1
    subst r1'
    cases t with
    | true => rw [if_pos rfl] at h1 ⊢; exact ⟨ρ1, ς, M1, at1, h1⟩
    | false => rw [if_neg (by decide)] at h1 ⊢; exact ⟨ρ1, ς, M1, at1, h1⟩
  · exact Bool.noConfusion h
omit [WLD] in
/-- a loop's turn -/
def turnF (P : Par) (tg : Tg) (body : List S) : A → Loc → Mem → Out (Fl × Loc) := fun x ς1 M2 => match bindT tg x ς1 with
  | some ς2 => evSs P body ς2 M2
  | none => .stuck
theorem okS_forS (tg : Tg) (it : It) (body : List S) (i1 : OkSs P I body) : OkS P I (.forS tg it body) := by
  intro X W k C st h
  simp only [chkS] at h
  split at h
  · rename_i t i b pos
    simp only [Bool.and_eq_true] at h
    obtain ⟨⟨⟨hset, htg⟩, hit⟩, hb⟩ := h
    refine ps_w (ps_for C.po C.calm (okI_all P I it C.toCtx C.sub t i hit) (tg_ok C.sub C.calm C.nd tg t htg) (i1 C b hb) (noFold_of hset)) fun D σ H ⟨ρ, ς, M, at_, h⟩ => ?_
    simp only [evS] at h
    refine ⟨ρ, ς, M, at_, ls_bind at_ h fun xs M1 ρ1 J H1 at1 g1 J1 h1 => ?_⟩
    have h1 : PostS X.K X.mg W ρ1 H1 (forL (turnF P tg body) xs ς M1) D := h1
    refine ⟨fun i m σ' H' => m = xs.length - i ∧ i ≤ xs.length ∧ ∃ ρ' ς' M', Grow ρ1 H1 ρ' H' ∧ At X.K ρ' H' ς' σ' M' ∧ PostS X.K X.mg W ρ' H' (forL (turnF P tg body) (xs.drop i) ς' M') D,
      ⟨xs.length, by simp, Nat.zero_le _, ρ1, ς, M1, Grow.refl _ _, at1, by simpa using h1⟩, ?_⟩
    rintro i m σ' H' ⟨rfl, hle, ρ', ς', M', g, at', po⟩
    obtain ⟨hstop, hgo⟩ := J1 ρ' H' g
    by_cases hlt : i < xs.length
    · have hx : xs[i]? = some xs[i] := List.getElem?_eq_getElem hlt
      obtain ⟨go, yld⟩ := hgo i _ hx
      rw [List.drop_eq_getElem_cons hlt] at po
      simp only [forL] at po
      refine .inr ⟨go, fun σ4 H4 => ∃ ρ' ς' M', Grow ρ1 H1 ρ' H4 ∧ At X.K ρ' H4 ς' σ4 M' ∧ PostS X.K X.mg W ρ' H4 (forL (turnF P tg body) (xs.drop (i + 1)) ς' M') D,
        fun σ4 H4 q => ⟨xs.length - (i + 1), by omega, rfl, hlt, q⟩, fun v H2 hy => ?_⟩
      obtain ⟨gy, ry, my⟩ := yld v H2 hy
      have at2 : At X.K ρ' H2 ς' σ' M' := ⟨at'.s.mono gy, my M' at'.m⟩
      have po := PostS.grow gy po
      cases hbt : bindT tg xs[i] ς' with
      | none =>
        unfold turnF at po
        rw [hbt] at po
        exact False.elim po
      | some ς2 =>
        refine ⟨ρ', ς', M', xs[i], at2, ry, ς2, hbt, fun σ2 hs2 _ => ?_⟩
        refine ⟨ρ', ς2, M', ⟨hs2, at2.m⟩, ?_⟩
        have e : turnF P tg body xs[i] ς' M' = evSs P body ς2 M' := by
          unfold turnF; rw [hbt]
        rw [e] at po
        have g2 := g.trans gy
        revert po
        cases evSs P body ς2 M' with
        | ok r M3 =>
          obtain ⟨fl, ς3⟩ := r
          cases fl with
          | nxt => exact fun h ρ3 H3 g3 σ3 at3 => ⟨ρ3, ς3, M3, g2.trans g3, at3, PostS.grow g3 h⟩
          | cnt => exact fun h ρ3 H3 g3 σ3 at3 => ⟨ρ3, ς3, M3, g2.trans g3, at3, PostS.grow g3 h⟩
          | brk => exact fun h ρ3 H3 g3 σ3 at3 => h ρ3 H3 g3 σ3 at3
          | ret a => exact fun h => h
        | exc x M3 => exact fun h => h
        | stuck => exact fun h => h
    · have e : i = xs.length := by omega
      subst e
      rw [List.drop_length] at po
      exact .inl ⟨hstop, PostS.nx at' po⟩
  · exact Bool.noConfusion h
/-- what a for over a cell walks -/
def itC (K : PySem.W.Frag) (en : Bool) (a : Addr) : L2.It := if en = true then Ite K a else Itl K a
def iCell (K : PySem.W.Frag) (en : Bool) (t : TE) : TI := fun σ H R => t σ H fun x H1 => ∃ a xs, x = .ref a ∧ SqL K H1 a xs ∧ R (itC K en a) H1
theorem pi_cell {X : Cx} {W : WX} {k : Nat} {sc : Scope} (C : Ctx X I P W k) (hs : Sub sc X) (en : Bool) (m : E) (tg e : Expr) (h : chkI I X.N sc (if en = true then .enum m else .over m) tg e = true) : PI X tg e (iCell X.K en (LE X.K X.mg W (evE P m))) := by
  cases en with
  | false =>
    simp only [Bool.false_eq_true, if_false, chkI] at h
    exact pi_w (pi_any ((okAll P I m).1 C hs e h)) fun σ H Q ⟨ρ, ς, M, at_, h⟩ => ⟨ρ, ς, M, at_, h.imp (fun v H1 ⟨a, xs, e1, hq, r⟩ => .inl ⟨a, e1, ⟨xs, hq⟩, r⟩) fun _ _ _ z => z⟩
  | true =>
    simp only [if_true, chkI, Bool.and_eq_true] at h
    obtain ⟨ht, h⟩ := h
    cases tg <;> first | exact Bool.noConfusion ht | skip
    split at h
    · rename_i g p x pos
      simp only [Bool.and_eq_true, decide_eq_true_eq] at h
      obtain ⟨⟨⟨rfl, h1⟩, h2⟩, h3⟩ := h
      obtain ⟨b1, b2, b3⟩ := hasB_ok h1
      exact pi_w (pi_enumX (hs.gl _ b1) (C.bl _ b2) (pa_cons ((okAll P I m).1 C hs x h3) pa_nil (star_plain h2)) (star_plain h2)) fun σ H Q ⟨ρ, ς, M, at_, h⟩ => ⟨ρ, ς, M, at_, h.imp (fun v H1 ⟨a, xs, e1, hq, r⟩ => ⟨a, by rw [e1], .inl ⟨xs, hq, r⟩⟩) fun _ _ _ z => z⟩
    · exact Bool.noConfusion h
theorem okS_forC (en : Bool) (tg : Tg) (m : E) (body : List S) (i1 : OkSs P I body) : OkS P I (.forC en tg m body) := by
  intro X W k C st h
  simp only [chkS] at h
  split at h
  · rename_i t i b pos
    simp only [Bool.and_eq_true] at h
    obtain ⟨⟨⟨hset, htg⟩, hit⟩, hb⟩ := h
    refine ps_w (ps_for C.po C.calm (pi_cell C.toCtx C.sub en m t i hit) (tg_ok C.sub C.calm C.nd tg t htg) (i1 C b hb) (noFold_of hset)) fun D σ H ⟨ρ, ς, M, at_, h⟩ => ?_
    simp only [evS] at h
    refine ⟨ρ, ς, M, at_, ls_bind at_ h fun x M1 ρ1 v H1 at1 g1 r1 h1 => ?_⟩
    cases r1 with
    | @ref a n hn =>
      have h1 : PostS X.K X.mg W ρ1 H1 (forCL (turnF P tg body) n en P.wf 0 ς M1) D := h1
      -- the cell, wherever the walk stands
      have cell : ∀ {ρ' : List Addr} {H' : Hp} {M' : Mem} {ys : List A}, Grow ρ1 H1 ρ' H' → RepM X.K ρ' H' M' → M'[n]? = some (.lst ys) → ∃ ws, H' a = some (.lst ws) ∧ RepAll X.K ρ' H' ys ws := fun g m e => m.cell _ _ _ e (g.get hn)
      have first : ∃ ys, M1[n]? = some (.lst ys) := by
        revert h1
        cases P.wf with
        | zero => exact fun h => False.elim h
        | succ w =>
          unfold forCL
          cases e : M1[n]? with
          | none => exact fun h => False.elim h
          | some c => cases c <;> first | exact fun _ => ⟨_, rfl⟩ | exact fun h => False.elim h
      obtain ⟨ys0, e0⟩ := first
      obtain ⟨ws0, hw0, _⟩ := cell (Grow.refl _ _) at1.m e0
      refine ⟨a, ws0, rfl, (SqX.of hw0).sq, ?_⟩
      refine ⟨fun i m σ' H' => ∃ ρ' ς' M', Grow ρ1 H1 ρ' H' ∧ At X.K ρ' H' ς' σ' M' ∧ PostS X.K X.mg W ρ' H' (forCL (turnF P tg body) n en m i ς' M') D, ⟨P.wf, ρ1, ς, M1, Grow.refl _ _, at1, h1⟩, ?_⟩
      rintro i m σ' H' ⟨ρ', ς', M', g, at', po⟩
      cases m with
      | zero => exact False.elim po
      | succ m =>
        unfold forCL at po
        cases e : M'[n]? with
        | none => rw [e] at po; exact False.elim po
        | some c =>
          rw [e] at po
          cases c with
          | lst ys =>
            obtain ⟨ws, hw, rr⟩ := cell g at'.m e
            have sq : SqL X.K H' a ws := (SqX.of hw).sq
            simp only at po
            cases ex : ys[i]? with
            | none =>
              rw [ex] at po
              have hl : ws.length ≤ i := by
                rw [← rr.length]
                exact List.getElem?_eq_none_iff.mp ex
              refine .inl ⟨?_, PostS.nx at' po⟩
              unfold itC
              split
              · exact ⟨ws, sq, hl⟩
              · exact ⟨ws, sq, hl⟩
            | some x =>
              rw [ex] at po
              obtain ⟨v, hv, rv⟩ := rr.get ex
              refine .inr ⟨?_, fun σ4 H4 => ∃ ρ' ς' M', Grow ρ1 H1 ρ' H4 ∧ At X.K ρ' H4 ς' σ4 M' ∧ PostS X.K X.mg W ρ' H4 (forCL (turnF P tg body) n en m (i + 1) ς' M') D, fun σ4 H4 q => ⟨m, Nat.lt_succ_self _, q⟩, fun u H2 hy => ?_⟩
              · unfold itC
                split
                · exact ⟨ws, v, sq, hv⟩
                · exact ⟨ws, v, sq, hv⟩
              · obtain ⟨gy, ry, my⟩ : Grow ρ' H' ρ' H2 ∧ Rep X.K ρ' H2 (if en = true then .tup [.int (i : Int), x] else x) u ∧ (RepM X.K ρ' H' M' → RepM X.K ρ' H2 M') := by
                  unfold itC at hy
                  cases en with
                  | true =>
                    obtain ⟨T, z, rfl, hT, rfl, hz⟩ := hy
                    have hz' := hz ws sq
                    rw [hv] at hz'
                    cases hz'
                    have q := pair_rep (i := (i : Int)) hT rv
                    exact ⟨q.1, q.2.1, q.2.2 M'⟩
                  | false =>
                    obtain ⟨rfl, hz⟩ := hy
                    have hz' := hz ws sq
                    rw [hv] at hz'
                    cases hz'
                    exact ⟨Grow.refl _ _, rv, fun m => m⟩
                have at2 : At X.K ρ' H2 ς' σ' M' := ⟨at'.s.mono gy, my at'.m⟩
                have po := PostS.grow gy po
                simp only at po
                cases hbt : bindT tg (if en = true then .tup [.int (i : Int), x] else x) ς' with
                | none =>
                  unfold turnF at po
                  rw [hbt] at po
                  exact False.elim po
                | some ς2 =>
                  refine ⟨ρ', ς', M', _, at2, ry, ς2, hbt, fun σ2 hs2 _ => ⟨ρ', ς2, M', ⟨hs2, at2.m⟩, ?_⟩⟩
                  have e3 : turnF P tg body (if en = true then .tup [.int (i : Int), x] else x) ς' M' = evSs P body ς2 M' := by
                    unfold turnF; rw [hbt]
                  rw [e3] at po
                  have g2 := g.trans gy
                  revert po
                  cases evSs P body ς2 M' with
                  | ok r M3 =>
                    obtain ⟨fl, ς3⟩ := r
                    cases fl with
                    | nxt => exact fun h ρ3 H3 g3 σ3 at3 => ⟨ρ3, ς3, M3, g2.trans g3, at3, PostS.grow g3 h⟩
                    | cnt => exact fun h ρ3 H3 g3 σ3 at3 => ⟨ρ3, ς3, M3, g2.trans g3, at3, PostS.grow g3 h⟩
                    | brk => exact fun h ρ3 H3 g3 σ3 at3 => h ρ3 H3 g3 σ3 at3
                    | ret a => exact fun h => h
                  | exc x M3 => exact fun h => h
                  | stuck => exact fun h => h
          | _ => exact False.elim po
    | _ => exact False.elim h1
  · exact Bool.noConfusion h
theorem okS_whl (c : E) (body : List S) (i1 : OkSs P I body) : OkS P I (.whl c body) := by
  intro X W k C st h
  simp only [chkS] at h
  split at h
  · rename_i e b pos
    simp only [Bool.and_eq_true] at h
    refine ps_w (ps_while C.po ((okAll P I c).2 C.toCtx C.sub e h.1) (i1 C b h.2)) fun D σ H ⟨ρ, ς, M, at_, h⟩ => ?_
    simp only [evS] at h
    refine ⟨fun n σ' H' => ∃ ρ' ς' M', At X.K ρ' H' ς' σ' M' ∧ PostS X.K X.mg W ρ' H' (whileL (fun ς M => evT P c ς M) (fun ς M => evSs P body ς M) n ς' M') D, ⟨P.wf, ρ, ς, M, at_, h⟩, ?_⟩
    rintro n σ' H' ⟨ρ', ς', M', at', po⟩
    cases n with
    | zero => exact False.elim po
    | succ n =>
      simp only [whileL] at po
      refine ⟨ρ', ς', M', at', ls_bind at' po fun t M1 ρ1 v H1 at1 g1 r1 h1 => ?_⟩
      have r1' : t = v := r1
      subst r1'
      cases t with
      | false => rw [if_neg (by decide)] at h1 ⊢; exact PostS.nx at1 h1
      | true =>
        rw [if_pos rfl] at h1 ⊢
        refine ⟨fun σ4 H4 => ∃ ρ' ς' M', At X.K ρ' H4 ς' σ4 M' ∧ PostS X.K X.mg W ρ' H4 (whileL (fun ς M => evT P c ς M) (fun ς M => evSs P body ς M) n ς' M') D, fun σ4 H4 q => ⟨n, Nat.lt_succ_self _, q⟩, ρ1, ς', M1, at1, ?_⟩
        revert h1
        cases evSs P body ς' M1 with
        | ok r M3 =>
          obtain ⟨fl, ς3⟩ := r
          cases fl with
          | nxt => exact fun h ρ3 H3 g3 σ3 at3 => ⟨ρ3, ς3, M3, at3, PostS.grow g3 h⟩
          | cnt => exact fun h ρ3 H3 g3 σ3 at3 => ⟨ρ3, ς3, M3, at3, PostS.grow g3 h⟩
          | brk => exact fun h ρ3 H3 g3 σ3 at3 => h ρ3 H3 g3 σ3 at3
          | ret a => exact fun h => h
        | exc x M3 => exact fun h => h
        | stuck => exact fun h => h
  · exact Bool.noConfusion h
theorem okS_brk : OkS P I .brk := by
  intro X W k C st h
  simp only [chkS] at h
  split at h
  · refine ps_w ps_break fun D σ H ⟨ρ, ς, M, at_, h⟩ => ?_
    simp only [evS] at h
    exact h ρ H (Grow.refl _ _) σ at_
  · exact Bool.noConfusion h
theorem okS_cnt : OkS P I .cnt := by
  intro X W k C st h
  simp only [chkS] at h
  split at h
  · refine ps_w ps_continue fun D σ H ⟨ρ, ς, M, at_, h⟩ => ?_
    simp only [evS] at h
    exact h ρ H (Grow.refl _ _) σ at_
  · exact Bool.noConfusion h
theorem okS_pass : OkS P I .pass := by
  intro X W k C st h
  simp only [chkS] at h
  split at h
  · refine ps_w ps_pass fun D σ H ⟨ρ, ς, M, at_, h⟩ => ?_
    simp only [evS] at h
    exact h ρ H (Grow.refl _ _) σ at_
  · refine ps_w ps_doc fun D σ H ⟨ρ, ς, M, at_, h⟩ => ?_
    simp only [evS] at h
    exact h ρ H (Grow.refl _ _) σ at_
  · exact Bool.noConfusion h
theorem okSs_nil : OkSs P I [] := by
  intro X W k C ss h
  cases ss with
  | nil =>
    refine pss_w pss_nil fun D σ H ⟨ρ, ς, M, at_, h⟩ => ?_
    simp only [evSs] at h
    exact h ρ H (Grow.refl _ _) σ at_
  | cons _ _ => simp [chkSs] at h
theorem okS_raise (c : Str) (m : Option E) : OkS P I (.raise c m) := by
  intro X W k C st h
  simp only [chkS] at h
  split at h
  · rename_i y p xs p2 p3
    simp only [Bool.and_eq_true, decide_eq_true_eq] at h
    obtain ⟨⟨rfl, h1⟩, h2⟩ := h
    cases m with
    | none =>
      simp only [chkR] at h2
      split at h2
      · exact ps_raise0 C.toCtx (C.sub.gl c h1)
      · exact Bool.noConfusion h2
    | some m =>
      simp only [chkR] at h2
      split at h2
      · rename_i x
        rw [Bool.and_eq_true] at h2
        exact ps_raiseA C.toCtx (C.sub.gl c h1) h2.1 ((okAll P I m).1 C.toCtx C.sub x h2.2)
      · exact Bool.noConfusion h2
  · exact Bool.noConfusion h
/-- the try's one statement -/
def tTB (b : TB) (t : TE) : TS := fun D σ H => t σ H fun v H1 => match b with
  | .asg i => D.nx (σ.set i (some v)) H1
  | .expr => D.nx σ H1
  | .ret => D.rt v H1
theorem ps_tb {X : Cx} {W : WX} {k : Nat} (C : Ctx X I P W k) (hs : Sub X.env.scope X) (fT : ∀ x, X.fn x = true) (b : TB) (m : E) (st : Stmt) (h : chkTB I X.N X.env.scope b m st = true) : PS X st (tTB b (LE X.K X.mg W (evE P m))) := by
  cases b with
  | asg i =>
    simp only [chkTB] at h
    split at h
    · rename_i x p v pos
      simp only [Bool.and_eq_true, decide_eq_true_eq] at h
      obtain ⟨⟨⟨h1, h2⟩, h3⟩, h4⟩ := h
      exact ps_w (ps_set C.nd h1 (.inl h2) ((okAll P I m).1 C hs v h4) (noComp_sw h3 _ _ _) (.inl (fT x))) fun D σ H h => h
    · exact Bool.noConfusion h
  | expr =>
    simp only [chkTB] at h
    split at h
    · rename_i v pos
      rw [Bool.and_eq_true] at h
      exact ps_w (ps_expr ((okAll P I m).1 C hs v h.2) (noComp_sw h.1 _ _ _)) fun D σ H h => h
    · exact Bool.noConfusion h
  | ret =>
    simp only [chkTB] at h
    split at h
    · rename_i v pos
      exact ps_w (ps_ret ((okAll P I m).1 C hs v h)) fun D σ H h => h
    · exact Bool.noConfusion h
theorem Ctx.tr {X : Cx} {W W' : WX} {k : Nat} (C : Ctx X I P W k) {pn : List (Addr × Obj)} {xe : Value → Shared → Prop} (tk : Takes (X.tr pn xe) W') : Ctx (X.tr pn xe) I P W' k :=
  ⟨C.calm, C.nd, C.gd, C.rm, C.gl, C.fn, C.bl, tk, C.sys, C.xq, C.kq, C.gq, C.xf, C.wp, C.ww⟩
theorem Sub.tr {sc : Scope} {X : Cx} (h : Sub sc X) {pn : List (Addr × Obj)} {xe : Value → Shared → Prop} : Sub sc (X.tr pn xe) := ⟨h.vis, h.gl, h.loc, h.cell, h.cf⟩
def unV (n : Option Nat) (σ : L2.St) : L2.St := match n with
  | some i => σ.set i none
  | none => σ
/-- a suite's end, its name let go -/
theorem clause_end {X : Cx} {W : WX} {n : Option (Nat × Str)} {a : Addr} {x : Exc} {cls : Value} {d : Option Addr} {ρ : List Addr} {H : Hp} {D D' : Ends} {o : Out (Fl × Loc)}
    (hn : ∀ σ H, D.nx (unV (n.map (·.1)) σ) H → D'.nx σ H) (hb : ∀ σ H, D.bk (unV (n.map (·.1)) σ) H → D'.bk σ H) (hc : ∀ σ H, D.ct (unV (n.map (·.1)) σ) H → D'.ct σ H) (hr : D'.rt = D.rt)
    (h : PostS X.K X.mg W ρ H (o.bind fun r M1 => .ok (r.1, unN (n.map (·.1)) r.2) M1) D) : PostH X W n a x cls d ρ H o D' := by
  have un : ∀ {ρ : List Addr} {H : Hp} {ς : Loc} {σ : L2.St} {M : Mem}, At X.K ρ H ς σ M → At X.K ρ H (unN (n.map (·.1)) ς) (unV (n.map (·.1)) σ) M := by
    intro ρ H ς σ M q
    cases n with
    | none => exact q
    | some p => exact ⟨q.s.unset, q.m⟩
  cases o with
  | ok r M =>
    obtain ⟨fl, ς⟩ := r
    cases fl with
    | nxt => exact fun ρ1 H1 g1 σ1 at1 => hn _ _ (h ρ1 H1 g1 _ (un at1.at_))
    | brk => exact fun ρ1 H1 g1 σ1 at1 => hb _ _ (h ρ1 H1 g1 _ (un at1.at_))
    | cnt => exact fun ρ1 H1 g1 σ1 at1 => hc _ _ (h ρ1 H1 g1 _ (un at1.at_))
    | ret b => exact fun ρ1 H1 g1 v r m => by rw [hr]; exact h ρ1 H1 g1 v r m
  | exc x M => exact h
  | stuck => exact h
theorem mem_lookup {α β : Type} [BEq α] [LawfulBEq α] : ∀ (l : List (α × β)) {k : α} {b : β}, (k, b) ∈ l → ∃ b', l.lookup k = some b'
  | [], _, _, h => by simp at h
  | (k', b') :: r, k, b, h => by
    by_cases e : k == k'
    · exact ⟨b', by simp [List.lookup, e]⟩
    · have e' : (k == k') = false := by simpa using e
      rcases List.mem_cons.mp h with h | h
      · cases h
        simp at e'
      · obtain ⟨b2, h2⟩ := mem_lookup r h
        exact ⟨b2, by simp only [List.lookup, e']; exact h2⟩
theorem okS_tryE (b : TB) (m : E) (c : Str) (n : Option Nat) (hs : List HS) : OkS P I (.tryE b m c n hs) := by
  intro X W k C st h
  simp only [chkS] at h
  split at h
  · rename_i s y np z s0 ss pos' pos
    simp only [Bool.and_eq_true, decide_eq_true_eq] at h
    obtain ⟨⟨⟨⟨⟨⟨rfl, h1⟩, h2⟩, h6⟩, h3⟩, h4⟩, h5⟩ := h
    have hgl : Gl X c := C.sub.gl c h1
    have hdb := (okName_ok h2).1
    -- the name
    obtain ⟨nn, hn1, hn2, hn3⟩ : ∃ nn : Option (Nat × Str), nn.map (·.1) = n ∧ nn.map (·.2) = z ∧ ∀ i x, nn = some (i, x) → X.N[i]? = some x ∧ X.env.scope.names.lookup x = some .local := by
      cases n with
      | none =>
        simp only [chkNm] at h4
        split at h4
        · exact ⟨none, rfl, rfl, fun _ _ z => nomatch z⟩
        · exact Bool.noConfusion h4
      | some i =>
        simp only [chkNm] at h4
        split at h4
        · rename_i x
          simp only [Bool.and_eq_true, decide_eq_true_eq] at h4
          exact ⟨some (i, x), rfl, rfl, fun _ _ z => by cases z; exact h4⟩
        · exact Bool.noConfusion h4
    subst hn1 hn2
    have hex : ∃ D : Addr, X.mg c = some (.ref D) := by
      obtain ⟨⟨⟨n1, c1⟩, b1⟩, hm, e1⟩ := List.any_eq_true.mp h6
      have e1' : c1 = c := by simpa using e1
      subst e1'
      obtain ⟨b2, hb2⟩ := mem_lookup I.xt.exm hm
      obtain ⟨_, _, D, _, q, _⟩ := C.xf.exm _ _ _ hb2
      exact ⟨D, q⟩
    · obtain ⟨Dc, hD⟩ := hex
      have hnames : Names X c (.ref Dc) := ⟨hgl, hdb, .inl hD⟩
      have body : ∀ (W' : WX) (pn : List (Addr × Obj)) (xe : Value → Shared → Prop), Takes (X.tr pn xe) W' → PassesOwn (model X.prog X.w) X.A X.env xe → PSs (X.tr pn xe) [s] (tTB b (LE X.K X.mg W' (evE P m))) := fun W' pn xe tk _ =>
        pss_one (ps_tb (C.toCtx.tr tk) C.sub.tr C.fT b m s h3)
      have suite : ∀ (x : Exc) (a : Addr) (oe : Obj) (cls : Value) (d : Option Addr) (pn : List (Addr × Obj)), Zc cls d oe → (∃ vs, oe.data = .fields vs) → PSs (X.suite a ((a, oe) :: pn)) (s0 :: ss) (LHS X W nn a x cls d (evHSs I.xt x hs)) := fun x a oe cls d pn hz hf =>
        okHSs_all ⟨C.nd, C.fT, C.bl, C.xf, hz, hf, hn3⟩ hs (s0 :: ss) h5
      have suite' : ∀ (a : Addr) (oe : Obj) (cls : Value) (d : Option Addr) (pn : List (Addr × Obj)), Zc cls d oe → (∃ vs, oe.data = .fields vs) → PSs (X.suite a ((a, oe) :: pn)) (s0 :: ss) (fun D σ H => ∃ x, LHS X W nn a x cls d (evHSs I.xt x hs) D σ H) := fun a oe cls d pn hz hf =>
        ⟨fun pins s σ H D I ⟨x, q⟩ => (suite x a oe cls d pn hz hf).run pins s σ H D I q⟩
      -- the clause takes it, or lets it on
      have main : ∀ {D : Ends} {σ : L2.St} {H : Hp} {W' : WX}, LS X.K X.mg W (evS P (.tryE b m c (nn.map (·.1)) hs)) D σ H →
          (∀ (ρ : List Addr) (H1 : Hp) (ς : Loc) (M : Mem) (x : Exc) (cls : Value) (d : Option Addr), At X.K ρ H1 ς σ M → ExcRep X.K X.mg ρ H1 x cls d → PostS X.K X.mg W ρ H1 (clauseA I.xt c (nn.map (·.1)) hs x ς M) D → W' cls d σ H1) →
          tTB b (LE X.K X.mg W' (evE P m)) D σ H := by
        intro D σ H W' ⟨ρ, ς, M, at_, h⟩ hW
        simp only [evS] at h
        refine ⟨ρ, ς, M, at_, ?_⟩
        cases e : evE P m ς M with
        | ok v M1 =>
          rw [e] at h
          simp only at h
          intro u ρ1 H1 g r m1
          have h' := PostS.grow g h
          cases b with
          | asg i => exact PostS.nx ⟨(at_.s.mono g).set r, m1⟩ h'
          | expr => exact PostS.nx ⟨at_.s.mono g, m1⟩ h'
          | ret => exact h' ρ1 H1 (Grow.refl _ _) u r m1
        | exc x M1 =>
          rw [e] at h
          simp only [C.xq] at h
          intro cls d ρ1 H1 g ex m1
          exact hW ρ1 H1 ς M1 x cls d ⟨at_.s.mono g, m1⟩ ex (PostS.grow g h)
        | stuck => rw [e] at h; exact False.elim h
      -- what the clause wishes
      have clause : ∀ {D D' : Ends} {ρ : List Addr} {H1 : Hp} {ς : Loc} {σ : L2.St} {M : Mem} {x : Exc} {cls : Value} {d : Option Addr} (upd' : Addr → L2.St), At X.K ρ H1 ς σ M → ExcRep X.K X.mg ρ H1 x cls d → PostS X.K X.mg W ρ H1 (clauseA I.xt c (nn.map (·.1)) hs x ς M) D →
          (∀ a, At X.K ρ H1 (unN (nn.map (·.1)) ς) (upd' a) M ∧ ∀ i y, nn = some (i, y) → (upd' a)[i]? = some (some (.ref a))) →
          (∀ σ H, D.nx (unV (nn.map (·.1)) σ) H → D'.nx σ H) → (∀ σ H, D.bk (unV (nn.map (·.1)) σ) H → D'.bk σ H) → (∀ σ H, D.ct (unV (nn.map (·.1)) σ) H → D'.ct σ H) → D'.rt = D.rt →
          ∃ b, PySem.W.exmOne X.K cls (.ref Dc) = some b ∧ (b = true → ∀ a, H1 a = none → ∃ x, LHS X W nn a x cls d (evHSs I.xt x hs) D' (upd' a) H1) ∧ (b = false → W cls d σ H1) := by
        intro D D' ρ H1 ς σ M x cls d upd' at_ ex po hat hn hb hc hr
        unfold clauseA at po
        cases hl : I.xt.exm.lookup (x.cls, c) with
        | none => rw [hl] at po; exact False.elim po
        | some k' =>
          rw [hl] at po
          obtain ⟨_, C1, C2, m1, m2, m3⟩ := C.xf.exm _ _ _ hl
          rw [hD] at m2
          cases m2
          obtain ⟨⟨C3, m4, rfl⟩, _⟩ := id ex
          rw [m1] at m4
          cases m4
          refine ⟨k', m3, fun hk a ha => ?_, fun hk => ?_⟩
          · subst hk
            refine ⟨x, ρ, _, M, ⟨(hat a).1, (hat a).2, ex⟩, clause_end hn hb hc hr po⟩
          · subst hk
            exact po (.ref C1) d ρ H1 σ (Grow.refl _ _) ex at_.m
      cases nn with
      | none =>
        refine ps_w (ps_try_only (ts := fun a cls d D σ H => ∃ x, LHS X W none a x cls d (evHSs I.xt x hs) D σ H) C.stk C.frm hnames C.tk body suite') fun D σ H h => ?_
        refine main h fun ρ H1 ς M x cls d at_ ex po => ?_
        exact clause (fun _ => σ) at_ ex po (fun a => ⟨at_, fun _ _ z => nomatch z⟩) (fun _ _ z => z) (fun _ _ z => z) (fun _ _ z => z) rfl
      | some p =>
        obtain ⟨i, x0⟩ := p
        obtain ⟨c1, c2⟩ := hn3 i x0 rfl
        refine ⟨fun pins s1 σ H D J h => (ps_try_as (ts := fun a cls d D σ H => ∃ x, LHS X W (some (i, x0)) a x cls d (evHSs I.xt x hs) D σ H) C.stk C.frm C.nd c1 c2 hnames C.tk body suite').run pins s1 σ H D J ?_⟩
        have hlt : i < σ.length := by rw [J.len]; exact (List.getElem?_eq_some_iff.mp c1).1
        refine main h fun ρ H1 ς M x cls d at_ ex po => ?_
        refine clause (D' := { nx := fun σ' H' => D.nx (σ'.set i none) H', rt := D.rt, bk := fun σ' H' => D.bk (σ'.set i none) H', ct := fun σ' H' => D.ct (σ'.set i none) H' }) (fun a => σ.set i (some (.ref a))) at_ ex po (fun a => ⟨⟨?_, at_.m⟩, fun j y z => ?_⟩) (fun _ _ z => z) (fun _ _ z => z) (fun _ _ z => z) rfl
        · refine ⟨by show (ς.set i none).length = _; simp [at_.s.1], fun j y e => ?_⟩
          have e' : (ς.set i none)[j]? = some (some y) := e
          by_cases hj : j = i
          · subst hj
            have hl : j < ς.length := by
              have := (List.getElem?_eq_some_iff.mp e').1
              simpa using this
            rw [List.getElem?_set_self hl] at e'
            cases e'
          · rw [List.getElem?_set_ne (Ne.symm hj)] at e'
            obtain ⟨w, q1, q2⟩ := at_.s.2 j y e'
            exact ⟨w, by rw [List.getElem?_set_ne (Ne.symm hj)]; exact q1, q2⟩
        · cases z
          exact List.getElem?_set_self hlt
  · exact Bool.noConfusion h
theorem okSs_cons (m : S) (ms : List S) (i1 : OkS P I m) (i2 : OkSs P I ms) : OkSs P I (m :: ms) := by
  intro X W k C ss h
  by_cases hf : isFrz m = true
  · cases m <;> first | exact Bool.noConfusion hf | skip
    rename_i i
    simp only [chkSs, isFrz, if_true] at h
    refine ⟨fun pins s σ H D J hq => ?_⟩
    obtain ⟨ρ, ς, M, at_, hq⟩ := hq
    simp only [evSs, evS] at hq
    cases e : ς[i]? with
    | none => rw [e] at hq; exact (i2 C ss h).run pins s σ H D J ⟨ρ, ς, M, at_, hq⟩
    | some o =>
      rw [e] at hq
      cases o with
      | none => exact (i2 C ss h).run pins s σ H D J ⟨ρ, ς, M, at_, hq⟩
      | some y =>
        simp only at hq
        obtain ⟨v, hv, rv⟩ := at_.s.2 i y e
        have same : σ.set i (some v) = σ := by
          apply List.ext_getElem?
          intro j
          by_cases hj : j = i
          · subst hj
            rw [List.getElem?_set_self (List.getElem?_eq_some_iff.mp hv).1, hv]
          · rw [List.getElem?_set_ne (Ne.symm hj)]
        cases rv with
        | @ref p n e2 =>
          simp only [frzA] at hq
          cases e3 : M[n]? with
          | none => rw [e3] at hq; exact False.elim hq
          | some c =>
            rw [e3] at hq
            cases c with
            | lst xs =>
              obtain ⟨vs, h4, h5⟩ := at_.m.cell n _ p e3 e2
              obtain ⟨o, I2⟩ := Inv.freeze J h4 (.inl ⟨.inl ⟨vs, rfl⟩, rfl⟩)
              have g : Grow ρ H ρ (upd H p (.frz o (.lst vs))) := Grow.write (List.mem_of_getElem? e2) h4 rfl
              refine (i2 C ss h).run pins s σ _ D I2 ⟨ρ, _, _, ⟨?_, at_.m.cellFrz e2 h4⟩, PostS.grow g hq⟩
              have q := (at_.s.mono g).set (i := i) (x := .lst xs) (v := .ref p) (.lst (.inl ⟨o, upd_same⟩) (h5.mono g))
              rw [same] at q
              exact q
            | dct kvs =>
              obtain ⟨u, h4, d⟩ := at_.m.cell n _ p e3 e2
              obtain ⟨u', f1, f2, f3⟩ := d.fzt
              obtain ⟨o, I2⟩ := Inv.freeze J h4 f1
              have g : Grow ρ H ρ (upd H p (.frz o u')) := Grow.write (List.mem_of_getElem? e2) h4 d.stab
              refine (i2 C ss h).run pins s σ _ D I2 ⟨ρ, _, _, ⟨?_, at_.m.cellFrzO e2 h4 d.stab⟩, PostS.grow g hq⟩
              have q := (at_.s.mono g).set (i := i) (x := .dct kvs) (v := .ref p) ((f2.map fun {x v} r => r.mono g).treeE upd_same fun e => ⟨o, by rw [upd_same, f3 e]⟩)
              rw [same] at q
              exact q
            | _ => exact False.elim hq
        | _ =>
          refine (i2 C ss h).run pins s σ H D J ⟨ρ, ς, M, at_, ?_⟩
          have es : ∀ y, ς[i]? = some (some y) → ς.set i (some y) = ς := fun y e => by
            apply List.ext_getElem?
            intro j
            by_cases hj : j = i
            · subst hj
              rw [List.getElem?_set_self (List.getElem?_eq_some_iff.mp e).1, e]
            · rw [List.getElem?_set_ne (Ne.symm hj)]
          simp only [frzA, Out.bind_ok] at hq
          rw [es _ e] at hq
          exact hq
  cases ss with
  | nil => simp [chkSs, hf] at h
  | cons s ss =>
    simp only [chkSs, hf, Bool.and_eq_true] at h
    have h : chkS I X.N X.env.scope m s = true ∧ chkSs I X.N X.env.scope ms ss = true := by simpa using h
    refine pss_w (pss_cons (i1 C s h.1) (i2 C ss h.2)) fun D σ H ⟨ρ, ς, M, at_, h⟩ => ?_
    simp only [evSs] at h
    exact ⟨ρ, ς, M, at_, PostS.seq h⟩
theorem par_swap {X : Cx} {x y : Str} {px py pt p2 : Pos} {v w : Expr} {kt k2 : Nat} (hk : X.env.scope.kind = .function) (hl : (px.line == py.line) = true) (h1 : [v, w].all (foldedForSure 8) = false) (h2 : [v, w].all (constantsAlone 8) = false)
    (hx : X.env.scope.names.lookup x = some .local) (hy : X.env.scope.names.lookup y = some .local) (hne : x ≠ y) (pv : plainB v = true) (pw : plainB w = true) :
    swappedStores [.Tuple [.Name x px, .Name y py] kt pt] (.Tuple [v, w] k2 p2) X.env = pure (some [x, y]) := by
  have kx : X.env.kindOf x = some .local := hx
  have ky : X.env.kindOf y = some .local := hy
  have hl' : py.line = px.line := (beq_iff_eq.mp hl).symm
  have hb : X.env.blockKind = .function := by
    unfold Env.blockKind
    rw [hk]
    rfl
  have n1 : (y == x) = false := by simpa using Ne.symm hne
  unfold swappedStores
  simp only [pure_bind]
  rw [if_neg (by rw [hb]; simp)]
  rw [if_neg (by
    cases v <;> cases w <;> first | exact Bool.noConfusion pv | exact Bool.noConfusion pw | simp)]
  generalize hL : List.filterMap _ ([.Name x px, .Name y py] : List Expr) = L
  have e1 : L = [x, y] := by
    rw [← hL]
    simp [List.filterMap_cons, kx, ky, hl', Expr.pos]
  rw [e1]
  have ed : ([x, y] : List Str).eraseDups = [x, y] := by
    simp [List.eraseDups_cons, List.filter_cons, n1]
  rw [ed, h1, h2]
  rfl
theorem okS_par (i j : Nat) (m1 m2 : E) : OkS P I (.par i j m1 m2) := by
  intro X W k C st h
  simp only [chkS] at h
  split at h
  · rename_i x px y py kt pt v w k2 p2 pos
    simp only [Bool.and_eq_true, decide_eq_true_eq, Bool.not_eq_true'] at h
    obtain ⟨⟨⟨⟨⟨⟨⟨⟨⟨⟨⟨⟨⟨a1, a2⟩, a3⟩, a4⟩, a5⟩, a6⟩, a7⟩, a8⟩, a9⟩, a10⟩, a11⟩, a12⟩, a13⟩, a14⟩ := h
    have hij : i ≠ j := fun e => by
      subst e
      rw [a4] at a5
      exact a8 (Option.some.inj a5)
    refine ps_w (ps_par (i := i) (j := j) C.calm C.nd a4 a5 hij a6 a7 (pa_cons ((okAll P I m1).1 C.toCtx C.sub v a13) (pa_cons ((okAll P I m2).1 C.toCtx C.sub w a14) pa_nil (star_plain a10)) (star_plain a9)) (par_swap C.kind a1 a2 a3 a6 a7 a8 a9 a10) (by rfl)) fun D σ H ⟨ρ, ς, M, at_, h⟩ => ?_
    simp only [evS] at h
    refine ⟨ρ, ς, M, at_, ls_bind at_ h fun x M1 ρ1 v H1 at1 g1 r1 h1 => ?_⟩
    refine ⟨ρ1, ς, M1, at1, ls_bind at1 h1 fun y M2 ρ2 w H2 at2 g2 r2 h2 => ?_⟩
    exact ⟨v, w, rfl, PostS.nx ⟨(at2.s.set (r1.mono g2)).set r2, at2.m⟩ h2⟩
  · exact Bool.noConfusion h
theorem okS_frz (i : Nat) : OkS P I (.frz i) := by
  intro X W k C st h
  exact Bool.noConfusion h
theorem okSAll (P : Par) (I : Inf) (ms : List S) : OkSs P I ms := by
  refine S.rec_1 (motive_1 := fun m => OkS P I m) (motive_2 := fun ms => OkSs P I ms)
    ?asg ?asgT ?set ?expr ?ret ?retN ?ife ?forS ?forC ?whl ?brk ?cnt ?pass ?raise ?tryE ?frz ?par ?swp ?nil ?cons ms
  case asg => exact fun i e => okS_asg i e
  case asgT => exact fun i e => okS_asgT i e
  case set => exact fun a i e => okS_set a i e
  case expr => exact fun e => okS_expr e
  case ret => exact fun e => okS_ret e
  case retN => exact okS_retN
  case ife => exact fun c a b i j => okS_ife c a b i j
  case forS => exact fun tg it b i => okS_forS tg it b i
  case forC => exact fun en tg e b i => okS_forC en tg e b i
  case whl => exact fun c b i => okS_whl c b i
  case brk => exact okS_brk
  case cnt => exact okS_cnt
  case pass => exact okS_pass
  case raise => exact fun c m => okS_raise c m
  case tryE => exact fun b m c n hs => okS_tryE b m c n hs
  case frz => exact fun i => okS_frz i
  case par => exact fun i j a b => okS_par i j a b
  case swp => exact fun a i b j e f => okS_swp a i b j e f
  case nil => exact okSs_nil
  case cons => exact fun m ms i j => okSs_cons m ms i j
end
end MP

/-! MP, part J: defs, and the law's entry -/
namespace MP
open PySem PySem.Spec PyProof.Rows L2

/-- what is known of a def: its object, its text checked -/
structure FnFact (K : PySem.W.Frag) (mg : Str → Option Value) (I : Inf) (f : Str) (d : Fn) : Prop where
  ex : ∃ (fa : Addr) (fd : FuncData) (st : Stmt), mg f = some (.ref fa) ∧ Fun K f f st fa fd ∧ ((f ∉ I.kwo → Binds K fd d.ps []) ∧ ∀ n ks ss, I.kb.lookup (f, n, ks) = some ss → KArr K fd d.ps n ks ss) ∧ FnScope d.ns d.ps (defScope st) ∧ chkSs I d.ns (defScope st) d.body (defBody st) = true
/-- a global's tree -/
def GlobRep (K : PySem.W.Frag) (mg : Str → Option Value) (x : Str) (a : A) : Prop := ∃ u v, mg x = some u ∧ RelV v u ∧ ∀ [WLD] ρ H, Rep K ρ H a v

section
variable {P : Program} {w : World} {K : PySem.W.Frag} {mg : Str → Option Value} {base : Heap} {I : Inf} {p : Prg}
variable [WLD]
theorem post_ret {ρ : List Addr} {H : Hp} {o : Out (Fl × Loc)} {Q : VK} {E : XK} (h : Post K mg (Rep K) ρ H (retOf o) Q E) :
    PostS K mg (fun cls d _ H => E cls d H) ρ H o { nx := fun _ H' => Q .non H', rt := Q } := by
  cases o with
  | ok r M =>
    obtain ⟨fl, ς⟩ := r
    cases fl with
    | nxt => exact fun ρ1 H1 g1 σ1 at1 => h .non ρ1 H1 g1 .non at1.m
    | brk => exact False.elim h
    | cnt => exact False.elim h
    | ret a => exact fun ρ1 H1 g1 v r m => h v ρ1 H1 g1 r m
  | exc x M => exact fun c d ρ1 H1 σ1 g1 e m => h c d ρ1 H1 g1 e m
  | stuck => exact h
theorem rep_start {ρ : List Addr} {H : Hp} {xs : List A} {vs : List V} (r : RepAll K ρ H xs vs) (N : List Str) : RepS K ρ H (startA N.length xs) (L2.start N vs) := by
  have hl := r.length
  refine ⟨by simp [startA, L2.start, hl], fun i x e => ?_⟩
  unfold startA at e
  unfold L2.start
  by_cases hi : i < xs.length
  · rw [List.getElem?_append_left (by simpa using hi)] at e
    rw [List.getElem?_map, Option.map_eq_some_iff] at e
    obtain ⟨y, e1, e2⟩ := e
    cases e2
    obtain ⟨v, h1, h2⟩ := r.get e1
    refine ⟨v, ?_, h2⟩
    rw [List.getElem?_append_left (by rw [List.length_map, ← hl]; exact hi), List.getElem?_map, h1]
    rfl
  · rw [List.getElem?_append_right (by simpa using Nat.le_of_not_lt hi)] at e
    rw [List.getElem?_replicate] at e
    split at e <;> cases e
/-- what the body of a def leans on: the defs at the depth below -/
abbrev AllG (P : Program) (w : World) (K : PySem.W.Frag) (mg : Str → Option Value) (base : Heap) (I : Inf) (g : Str → List A → Mem → Out A) (k : Nat) : Prop :=
  ∀ f ∈ I.fns, ∃ fa fd ps, mg f = some (.ref fa) ∧ PySem.W.keepIn K (.ref fa) = true ∧ ((f ∉ I.kwo → Binds K fd ps []) ∧ ∀ n ks ss, I.kb.lookup (f, n, ks) = some ss → KArr K fd ps n ks ss) ∧
      FnG P w K mg base k fa fd ps (spOf K mg (g f) ps.length) ∧ ∀ xs M, xs.length ≠ ps.length → g f xs M = .stuck
theorem fnG_step {k : Nat} (wP : WLD.P = P) (ww : WLD.w = w) (hbl : ∀ b ∈ I.bs, mg b = none) (hgl : ∀ x a, p.G x = some a → GlobRep K mg x a) (hsy : SysB base) (hq : p.xt = I.xt) (hkb : p.kb = I.kb) (hgd : ∀ x ∈ I.gds, ∃ l, p.gd x = some l ∧ GDict K w mg x l) (hx : XtOk K mg I.xt) (ih : AllG P w K mg base I (runF p k) k) {f : Str} {d : Fn} {fa : Addr} {fd : FuncData} {st : Stmt}
    (hd : p.T.lookup f = some d) (h2 : Fun K f f st fa fd) (h4 : FnScope d.ns d.ps (defScope st)) (h5 : chkSs I d.ns (defScope st) d.body (defBody st) = true) :
    FnG P w K mg base (k + 1) fa fd d.ps (spOf K mg (runF p (k + 1) f) d.ps.length) := by
  obtain ⟨oc, od, kV, doc, pm, an, cdv, ct, osl, rfl, lk, hcd⟩ := h2.ex
  refine fn_ofG lk hcd h4 (fun vs H Q E h => h.1) fun A outer s H vs Q E hr hg hsp => ?_
  obtain ⟨hl, ρ, M, xs, r, m, po⟩ := hsp
  have C : SCtx (cxOf (L2.CX P w) P w K mg base d.ns f (defScope st) fa cdv A outer s H E) I ⟨runF p k, p.G, p.wf, p.xt, p.kb, p.gd⟩ (fun cls d _ H => E cls d H) k := by
    refine { toCtx := ⟨rfl, h4.nd, hg, hr, (fun x a e => by obtain ⟨u, v, e1, e2, e3⟩ := hgl x a e; exact ⟨u, v, e1, e2, fun ρ H => e3 ρ H⟩), ih, hbl, ?_, hsy, hq, hkb, hgd, hx, wP, ww⟩, po := ?_, fT := fun _ => rfl, kind := h4.kind, stk := rfl, frm := rfl }
    · exact L2.takes_of rfl rfl rfl rfl
    · exact PassesOwn.leaving
  refine ⟨_, okSAll _ I d.body C _ h5, ρ, startA d.ns.length xs, M, ⟨rep_start r d.ns, m⟩, post_ret ?_⟩
  have e : runF p (k + 1) f xs M = retOf (evSs ⟨runF p k, p.G, p.wf, p.xt, p.kb, p.gd⟩ d.body (startA d.ns.length xs) M) := by
    simp only [runF, hd]
    rw [if_pos (by rw [r.length]; exact hl)]
  rw [← e]
  exact po
/-- every def keeps its promise at every depth -/
theorem fnG_all (wP : WLD.P = P) (ww : WLD.w = w) (hfn : ∀ f ∈ I.fns, ∃ d, p.T.lookup f = some d ∧ FnFact K mg I f d) (hbl : ∀ b ∈ I.bs, mg b = none) (hgl : ∀ x a, p.G x = some a → GlobRep K mg x a) (hsy : SysB base) (hq : p.xt = I.xt) (hkb : p.kb = I.kb) (hgd : ∀ x ∈ I.gds, ∃ l, p.gd x = some l ∧ GDict K w mg x l) (hx : XtOk K mg I.xt) :
    ∀ k, AllG P w K mg base I (runF p k) k := by
  intro k
  induction k with
  | zero =>
    intro f hf
    obtain ⟨d, hd, ⟨fa, fd, st, h1, h2, h3, h4, h5⟩⟩ := hfn f hf
    refine ⟨fa, fd, d.ps, h1, h2.kp, h3, ⟨fun vs H Q E h => h.1, fun A outer s H args us vs Q E _ _ _ _ _ h => ?_⟩, fun xs M _ => rfl⟩
    obtain ⟨_, ρ, M, xs, _, _, po⟩ := h
    exact False.elim po
  | succ k ih =>
    intro f hf
    obtain ⟨d, hd, ⟨fa, fd, st, h1, h2, h3, h4, h5⟩⟩ := hfn f hf
    refine ⟨fa, fd, d.ps, h1, h2.kp, h3, fnG_step wP ww hbl hgl hsy hq hkb hgd hx ih hd h2 h4 h5, fun xs M hl => ?_⟩
    simp only [runF, hd]
    rw [if_neg hl]
end

/-! ### the law -/
/-- the script as a tree -/
def scriptA (ns : List Int) : A := .lst (ns.map A.int)
theorem reps_ints [WLD] {K : PySem.W.Frag} {ρ : List Addr} {H : Hp} : ∀ ns : List Int, RepAll K ρ H (ns.map A.int) (ns.map V.int)
  | [] => .nil
  | n :: ns => .cons (.int n) (reps_ints ns)
theorem law_callG [WLD] {P : Program} {w : World} {K : PySem.W.Frag} {mg mb : Str → Option Value} {k : Nat} {fa a : Addr} {fd : FuncData} {x : Str} {g : List A → Mem → Out A} {s₁ : Shared} {vs : List Value} {ns : List Int}
    (KX : K.In s₁.heap) (hns : s₁.heap.Ns mainGlobals mg) (hb : s₁.heap.Ns builtinsNs mb) (hbb : ∀ x : Str, x ≠ "__name__" → mb x = bootBuiltins x) (hlim : s₁.heap.NoLimit) (hg : s₁.gens = #[])
    (ha : s₁.heap.get? a = some { cls := .type "list", data := .seq vs.toArray }) (hi : IntsAre vs ns) (hl : ns.length ≤ sizeLine) (hr : Room (k + 2) callerA)
    (hsy : SysB s₁.heap) (F : ∀ base : Heap, K.In base → base.Ns mainGlobals mg → SysB base → FnG P w K mg base k fa fd [x] (spOf K mg g 1)) (hbind : Binds K fd [x] [])
    (hrun : ∃ M, g [scriptA ns] [] = .ok (.bl true) M) :
    codeAny (model P w) callerA (.call (.ref fa) ⟨[.ref a], []⟩) (fun r s' => r = .ok (.ret (.bool true)) ∧ OldK s₁.heap s'.heap ∧ s'.os = s₁.os ∧ AllBare s'.gens) s₁ := by
  have rv := vals_ints hi
  have lenV := hi.length
  have core : ∀ H : Hp, Only H → FzL K H a (ns.map V.int) → HOk P w H s₁.heap → (∀ b, H b ≠ none → b = a) → (H a ≠ none → K.lookup a = none) →
      codeAny (model P w) callerA (.call (.ref fa) ⟨[.ref a], []⟩) (fun r s' => r = .ok (.ret (.bool true)) ∧ OldK s₁.heap s'.heap ∧ s'.os = s₁.os ∧ AllBare s'.gens) s₁ := by
    intro H hO hS hok hA hK
    have base_of : ∀ {b : Addr} {o : Obj}, s₁.heap.get? b = some o → H b = none → (hidT s₁.heap H).get? b = some o := fun e n => hidT_get e n
    have noA : ∀ {b : Addr} {o : Obj} {es : Array DictEntry} {ep : Nat}, s₁.heap.get? b = some o → o.data = .dict es ep → H b = none := fun {b o es ep} e d => by
      cases q : H b with
      | none => rfl
      | some u =>
        have e' : b = a := hA b (by rw [q]; simp)
        subst e'
        rw [ha] at e; cases e
        have d' : Data.seq vs.toArray _ = Data.dict es ep := d
        cases d'
    have nsK : ∀ {b : Addr} {m : Str → Option Value}, s₁.heap.Ns b m → (hidT s₁.heap H).Ns b m := fun {b m} ⟨o, es, ep, e, d, r⟩ => ⟨o, es, ep, base_of e (noA e d), d, r⟩
    have hKb : K.In (hidT s₁.heap H) := fun b o e => base_of (KX b o e) (by
      cases q : H b with
      | none => rfl
      | some u =>
        have e' : b = a := hA b (by rw [q]; simp)
        subst e'
        rw [hK (by rw [q]; simp)] at e; cases e)
    have hS1 : SysB (hidT s₁.heap H) := by
      obtain ⟨o, es, ep, e, d⟩ := hsy
      exact ⟨o, es, ep, base_of e (noA e d), d⟩
    have hM : Mod K mg (hidT s₁.heap H) := ⟨hKb, nsK hns, ⟨mb, nsK hb, hbb⟩, let ⟨mc, h1, h2⟩ := hlim; ⟨mc, nsK h1, h2⟩⟩
    have e0 : Env0 P w K mg (hidT s₁.heap H) callerA [] s₁ H := ⟨rfl, hM, fun b o e => of_hidT e, Nat.le_of_eq (hidT_size _ _), trivial, fun b hb => absurd (show b ∈ ([] : List Addr) from hb) (by simp), hok, .of_eq hg⟩
    have hsp : spOf K mg g 1 [.ref a] H (fun v _ => v = .bl true) fun _ _ _ => False := by
      obtain ⟨M, hM⟩ := hrun
      refine ⟨rfl, [], [], [scriptA ns], .cons (.lst hS (reps_ints ns)) .nil, ⟨rfl, .nil, fun a ha => by simp at ha, fun n c a h1 h2 => by simp at h2⟩, ?_⟩
      rw [hM]
      intro v ρ' H' _ rv _
      cases rv
      rfl
    refine codeAny_mono ((F _ hKb (nsK hns) hS1).run callerA [] s₁ H ⟨[.ref a], []⟩ [.ref a] [.ref a] _ _ hr rfl e0 (hbind s₁ [.ref a] KX rfl) (.cons rfl .nil) hsp) fun r s' h => ?_
    cases r with
    | error e =>
      obtain ⟨_, _, _, _, _, _, _, _, _, _, _, _, h⟩ := h
      exact False.elim h
    | ok fl =>
      cases fl with
      | next => exact False.elim h
      | brk => exact False.elim h
      | cont => exact False.elim h
      | ret u =>
        obtain ⟨v, H', os, bare, un, hok', r', q⟩ := h
        have q' : v = .bl true := q
        subst q'
        obtain rfl : u = Value.bool true := r'
        refine ⟨rfl, OldK.of_keep fun b o e => ?_, os, bare⟩
        cases q : H b with
        | none => exact un.keep b o e q (by intro z; exact absurd (show b ∈ ([] : List Addr) from z) (by simp)) (by simp)
        | some u =>
          rcases hO b with z | ⟨ob, xs, z⟩
          · rw [q] at z; cases z
          · have z2 := un.frzs b ob _ z
            obtain ⟨e1, _⟩ := hok b _ z
            obtain ⟨e2, _⟩ := hok' b _ z2
            rw [e] at e1; cases e1
            exact e2
  cases hk : K.lookup a with
  | some o =>
    have e := KX a o hk
    rw [ha] at e
    cases e
    refine core (fun _ => none) (fun _ => .inl rfl) (.inr ⟨vs.toArray, _, hk, by rw [List.size_toArray, lenV]; exact hl, by simpa using rv⟩) (fun b u z => by have z' : (none : Option HO) = some u := z; cases z') (fun b z => absurd rfl z) fun z => absurd rfl z
  | none =>
    refine core (fun b => if b = a then some (.frz { cls := .type "list", data := .seq vs.toArray } (.lst (ns.map V.int))) else none) (fun b => ?_) (.inl ⟨{ cls := .type "list", data := .seq vs.toArray }, if_pos rfl⟩) (fun b u z => ?_) (fun b z => ?_) fun _ => hk
    · by_cases hb : b = a
      · exact .inr ⟨_, _, if_pos hb⟩
      · exact .inl (if_neg hb)
    · by_cases hb : b = a
      · have z' := (if_pos hb).symm.trans z
        cases z'
        subst hb
        exact ⟨ha, by rw [List.length_map]; exact hl, vs, _, rv, ha⟩
      · have z' := (if_neg hb).symm.trans z
        cases z'
    · by_cases hb : b = a
      · exact hb
      · exact absurd (if_neg hb) z
/-- THE END: the law from its text -/
theorem walk_mp {l : PySem.W.OpenLaw} {n k : Nat} {q : Program} {loose : List Str} {XP : (Str → Option Value) → Heap → Prop} {YP : World → Heap → Prop} {d : DefRec} {K : Params → PySem.W.Frag} {x : Str} (I : Inf) (p : Prg) (fn : Fn)
    (hn : l.most = some n) (hn2 : n ≤ sizeLine) (hdf : d.params.defaults = []) (hr : Room (k + 3) callerA)
    (hY : ∀ (w : World) (h : Heap), YP w h → (K w.params).In h)
    (hin : importsNone q = true) (hT : p.T.lookup d.name = some fn) (hps : fn.ps = [x]) (hname : d.name ∈ I.fns)
    (F : ∀ (w : World) (mg : Str → Option Value) (h : Heap), (K w.params).In h → h.Ns mainGlobals mg →
      (∀ f ∈ I.fns, ∃ d, p.T.lookup f = some d ∧ FnFact (K w.params) mg I f d) ∧ (∀ b ∈ I.bs, mg b = none) ∧ (∀ x a, p.G x = some a → GlobRep (K w.params) mg x a) ∧ XtOk (K w.params) mg I.xt ∧ ∀ x ∈ I.gds, ∃ l, p.gd x = some l ∧ GDict (K w.params) w mg x l)
    (hq : p.xt = I.xt) (hkb : p.kb = I.kb) (hkw : d.name ∉ I.kwo)
    (hrun : ∀ ns : List Int, ns.length ≤ n → ∃ M, runF p (k + 1) d.name [scriptA ns] [] = .ok (.bl true) M) :
    PySem.W.WalkO q loose XP YP l.row.toRowW d [] (fun f vs => PySem.call f vs) := by
  refine Att.attach_call hn hdf fun w s₀ s₁ mg mb fa o pm cd doc a vs ns Gr Y ho hd hcd hmg hobj hints hlen hg => ?_
  letI : WLD := ⟨l.prog, w⟩
  have KX := hY w _ Y
  obtain ⟨f1, f2, f3, f4, f5⟩ := F w mg _ KX Gr.T.g
  obtain ⟨fn', e1, ⟨fa', fd, st, h1, h2, h3, h4, h5⟩⟩ := f1 _ hname
  rw [hT] at e1
  cases e1
  rw [hmg] at h1
  cases h1
  refine law_callG (x := x) (fd := fd) KX Gr.T.g Gr.T.b Gr.T.builtins Gr.T.nolimit hg hobj hints (Nat.le_trans hlen hn2) hr ?hsy (fun base _ _ hsb => ?_) (by rw [← hps]; exact h3.1 hkw) (hrun ns hlen)
  case hsy =>
    obtain ⟨mm, ⟨o, es, ep, ho, hd, _⟩, _⟩ := (Gr.T.seer hin).mods
    exact ⟨o, es, ep, ho, hd⟩
  have q := fnG_step (P := l.prog) (w := w) (base := base) rfl rfl f2 f3 hsb hq hkb f5 f4 (fnG_all rfl rfl f1 f2 f3 hsb hq hkb f5 f4 k) hT h2 h4 h5
  rw [hps] at q
  exact q
theorem lk_all {α β : Type} [BEq α] [LawfulBEq α] {P : α → β → Prop} {l : List (α × β)} (h : ∀ q ∈ l, P q.1 q.2) (k : α) (b : β) (e : l.lookup k = some b) : P k b := by
  induction l with
  | nil => cases e
  | cons q r ih =>
    obtain ⟨y, c⟩ := q
    by_cases hx : k == y
    · have hy : k = y := by simpa using hx
      subst hy
      simp [List.lookup] at e
      subst e
      exact h _ List.mem_cons_self
    · have hx' : (k == y) = false := by simpa using hx
      simp only [List.lookup, hx'] at e
      exact ih (fun p hp => h p (List.mem_cons_of_mem _ hp)) e
theorem exm_of {K : PySem.W.Frag} {t : Value} {C : Addr} {b : Bool} (h1 : PySem.W.subIn K (.ref C) (.type "BaseException") = some true) (h2 : PySem.W.isClsIn K C = true) (h3 : PySem.W.typeIn K (.ref C) = some (.type "type")) (h4 : PySem.W.subIn K t (.ref C) = some b) :
    PySem.W.exmOne K t (.ref C) = some b := by
  have e1 : (PySem.W.subIn K (.ref C) (.type "BaseException") == some true) = true := by rw [h1] <;> rfl
  have e2 : ((PySem.W.clsIn K C).isSome && PySem.W.typeIn K (.ref C) == some (.type "type")) = true := by
    have h2' : (PySem.W.clsIn K C).isSome = true := h2
    rw [h2', h3] <;> rfl
  show (if (PySem.W.subIn K (.ref C) (.type "BaseException") == some true) = true then (if ((PySem.W.clsIn K C).isSome && PySem.W.typeIn K (.ref C) == some (.type "type")) = true then PySem.W.subIn K t (.ref C) else none) else none) = some b
  rw [if_pos e1, if_pos e2]
  exact h4
theorem kit_ref {K : PySem.W.Frag} {D C : Addr} {b : Bool} (h2 : PySem.W.isClsIn K C = true) (h3 : PySem.W.typeIn K (.ref C) = some (.type "type")) (h4 : PySem.W.subIn K (.ref D) (.ref C) = some b) (h5 : PySem.W.subIn K (.ref C) (.ref C) = some true) :
    PySem.W.kitOne K (.ref D) (.ref C) = some b := by
  have e2 : ((PySem.W.clsIn K C).isSome && PySem.W.typeIn K (.ref C) == some (.type "type")) = true := by
    have h2' : (PySem.W.clsIn K C).isSome = true := h2
    rw [h2', h3] <;> rfl
  unfold PySem.W.kitOne
  split
  · rename_i e
    have e' : (Value.ref D) = .ref C := by simpa using e
    cases e'
    rw [h4] at h5
    exact h5.symm
  · show (if ((PySem.W.clsIn K C).isSome && PySem.W.typeIn K (.ref C) == some (.type "type")) = true then PySem.W.subIn K (.ref D) (.ref C) else none) = some b
    rw [if_pos e2]
    exact h4
theorem kit_type {K : PySem.W.Frag} {D : Addr} {T : String} {b : Bool} (h1 : PySem.W.kitMeta T = true) (h4 : PySem.W.subIn K (.ref D) (.type T) = some b) : PySem.W.kitOne K (.ref D) (.type T) = some b := by
  unfold PySem.W.kitOne
  rw [if_neg (by intro z; have z' : (Value.ref D) = .type T := by simpa using z
                 cases z')]
  show (if PySem.W.kitMeta T = true then PySem.W.subIn K (.ref D) (.type T) else none) = some b
  rw [if_pos h1]
  exact h4
/-! globals -/
theorem glob_all {K : PySem.W.Frag} {mg : Str → Option Value} {l : List (Str × A)} (h : ∀ p ∈ l, GlobRep K mg p.1 p.2) (x : Str) (a : A) (e : l.lookup x = some a) : GlobRep K mg x a := by
  induction l with
  | nil => cases e
  | cons p r ih =>
    obtain ⟨y, b⟩ := p
    by_cases hx : x == y
    · have hy : x = y := by simpa using hx
      subst hy
      simp [List.lookup] at e
      subst e
      exact h _ List.mem_cons_self
    · have hx' : (x == y) = false := by simpa using hx
      simp only [List.lookup, hx'] at e
      exact ih (fun p hp => h p (List.mem_cons_of_mem _ hp)) e
section
variable {K : PySem.W.Frag} {mg : Str → Option Value} {x : Str}
theorem glob_str {s : Str} {t} (h : mg x = some (.str s t)) : GlobRep K mg x (.str s) := ⟨_, .str s, h, ⟨t, rfl⟩, fun ρ H => .str s⟩
theorem glob_int {i : Int} {t} (h : mg x = some (.int i t)) : GlobRep K mg x (.int i) := ⟨_, .int i, h, ⟨t, rfl⟩, fun ρ H => .int i⟩
theorem reps_strs [WLD] {ρ : List Addr} {H : Hp} : ∀ ss : List Str, RepAll K ρ H (ss.map A.str) (ss.map V.str)
  | [] => .nil
  | s :: ss => .cons (.str s) (reps_strs ss)
theorem glob_tup (ss : List Str) {a : Addr} {od : Option Addr} {its : Array Value} {n : Nat} {sl : Array (Option Value)} (h : mg x = some (.ref a)) (l : K.lookup a = some ⟨.type "tuple", od, .seq its n, sl⟩) (hz : its.size ≤ sizeLine)
    (r : Vals (ss.map V.str) its.toList) : GlobRep K mg x (.tup (ss.map A.str)) := ⟨_, .ref a, h, rfl, fun ρ H => .tup (.inr ⟨_, its, n, l, rfl, rfl, hz, r⟩) (reps_strs ss)⟩
end
theorem lookup_by {β : Type} : ∀ (l : List (Str × β)) (i : Nat) (f : Str) (d : β), l[i]? = some (f, d) → ((l.map Prod.fst).take i).all (fun g => !(f == g)) = true → l.lookup f = some d
  | [], _, _, _, h, _ => by simp at h
  | (g, b) :: r, 0, f, d, h, _ => by
    simp at h
    obtain ⟨rfl, rfl⟩ := h
    simp [List.lookup]
  | (g, b) :: r, i + 1, f, d, h, h2 => by
    simp only [List.map_cons, List.take_succ_cons, List.all_cons, Bool.and_eq_true, Bool.not_eq_true'] at h2
    simp only [List.lookup, h2.1]
    exact lookup_by r i f d (by simpa using h) h2.2
end MP

/-! MP, part J1: how calls with keywords and defaults bind; global dicts -/
namespace MP
open PySem PySem.Spec PyProof.Rows L2
/-- the values in the parameters' order -/
def pick {α : Type} : List Nat → List α → List α
  | [], _ => []
  | i :: is, xs => match xs[i]? with
    | some x => x :: pick is xs
    | none => pick is xs
theorem pick_vals : ∀ (is : List Nat) {vs : List V} {us : List Value}, Vals vs us → Vals (pick is vs) (pick is us)
  | [], _, _, _ => .nil
  | i :: is, vs, us, h => by
    have ih := pick_vals is h
    have hl := h.length
    unfold pick
    cases e : vs[i]? with
    | none =>
      have e2 : us[i]? = none := List.getElem?_eq_none (by rw [← hl]; exact List.getElem?_eq_none_iff.mp e)
      rw [e2]
      exact ih
    | some v =>
      obtain ⟨u, e2, r⟩ := h.get e
      rw [e2]
      exact .cons r ih
theorem pick_rep [WLD] {K : PySem.W.Frag} {ρ : List Addr} {H : Hp} : ∀ (is : List Nat) {xs ys : List A} {vs : List V}, RepAll K ρ H xs vs → arrA (is.map Src.arg) xs = some ys → RepAll K ρ H ys (pick is vs)
  | [], _, _, _, _, e => by cases e; exact .nil
  | i :: is, xs, ys, vs, h, e => by
    simp only [List.map_cons, arrA] at e
    unfold pick
    split at e
    · rename_i x zs e1 e2
      cases e
      obtain ⟨v, e3, r⟩ := h.get e1
      rw [e3]
      exact .cons r (pick_rep is h e2)
    · cases e
theorem KArr.kw {K : PySem.W.Frag} {fd : FuncData} {x q : Str} {params : Arguments} {body : List Stmt} {scope : Scope} {ps ks : List Str} {n : Nat} {oc kV doc pm cdv ct : Value} {od an : Option Addr} (is : List Nat)
    (h : ∀ us ws : List Value, us.length = n → ws.length = ks.length → bindArgs (PySem.W.fnOf x q params body scope .none kV doc pm an cdv ct) ⟨us, ks.zip ws⟩ = pure (ps.zip (pick is (us ++ ws)))) :
    KArr K (PySem.W.fnOf x q params body scope .none kV doc pm an cdv ct) ps n ks (is.map .arg) := by
  refine ⟨fun us ws => pick is (us ++ ws), fun vs zs => pick is (vs ++ zs), ⟨fun s us ws _ l1 l2 => .of_eq (h us ws l1 l2), fun r1 r2 => pick_vals is (r1.append r2)⟩, fun {_ ρ H xs zs ys vs ws} r1 r2 _ _ e => pick_rep is (r1.append r2) e⟩
/-- the constant's value -/
def cV : Const → V
  | .bool b => .bl b
  | .int i => .int i
  | .str s => .str s
  | _ => .non
theorem cV_rep [WLD] {K : PySem.W.Frag} {ρ : List Addr} {H : Hp} {c : Const} {a : A} (h : cA c = some a) : Rep K ρ H a (cV c) := by
  cases c <;> cases h
  · exact .non
  · exact .bl _
  · exact .int _
  · exact .str _
theorem arr_dfl [WLD] {K : PySem.W.Frag} {ρ : List Addr} {H : Hp} : ∀ (cs : List Const) (j : Nat) {xs ys : List A}, arrA (cs.map Src.dfl) xs = some ys → RepAll K ρ H ys (cs.map cV)
  | [], _, _, _, e => by cases e; exact .nil
  | c :: cs, j, xs, ys, e => by
    simp only [List.map_cons, arrA] at e
    split at e
    · rename_i x zs e1 e2
      cases e
      exact .cons (cV_rep e1) (arr_dfl cs j e2)
    · cases e
theorem arr_app : ∀ (s1 s2 : List Src) {xs ys : List A}, arrA (s1 ++ s2) xs = some ys → ∃ y1 y2, arrA s1 xs = some y1 ∧ arrA s2 xs = some y2 ∧ ys = y1 ++ y2
  | [], s2, xs, ys, e => ⟨[], ys, rfl, e, rfl⟩
  | .arg i :: s1, s2, xs, ys, e => by
    simp only [List.cons_append, arrA] at e ⊢
    split at e
    · rename_i x zs e1 e2
      cases e
      obtain ⟨y1, y2, h1, h2, rfl⟩ := arr_app s1 s2 e2
      exact ⟨x :: y1, y2, by rw [e1, h1], h2, rfl⟩
    · cases e
  | .dfl c :: s1, s2, xs, ys, e => by
    simp only [List.cons_append, arrA] at e ⊢
    split at e
    · rename_i x zs e1 e2
      cases e
      obtain ⟨y1, y2, h1, h2, rfl⟩ := arr_app s1 s2 e2
      exact ⟨x :: y1, y2, by rw [e1, h1], h2, rfl⟩
    · cases e
/-- every keyword-only parameter at its default -/
theorem KArr.dfl {K : PySem.W.Frag} {fd : FuncData} {ps : List Str} {n : Nat} (cs : List Const) {ds : List Value} (hb : Binds K fd ps ds) (hd : Vals (cs.map cV) ds) (hn : n + cs.length = ps.length) : KArr K fd ps n [] ((List.range n).map .arg ++ cs.map .dfl) := by
  have hl : ds.length = cs.length := by rw [← hd.length]; simp
  refine ⟨fun us _ => us ++ ds, fun vs _ => vs ++ cs.map cV, ⟨fun s us ws KX l1 l2 => ?_, fun r1 r2 => r1.append hd⟩, fun {_ ρ H xs zs ys vs ws} r1 r2 h1 h2 e => ?_⟩
  · cases ws with
    | nil => exact hb s us KX (by rw [List.length_append]; omega)
    | cons _ _ => simp at l2
  · cases r2 with
    | cons _ _ => simp at h2
    | nil =>
      rw [List.append_nil] at e
      obtain ⟨y1, y2, e1, e2, rfl⟩ := arr_app _ _ e
      refine RepAll.append ?_ (arr_dfl cs 0 e2)
      have hv := r1.length
      have q := pick_rep (List.range n) r1 e1
      have hp : pick (List.range n) vs = vs := by
        have : ∀ (m k : Nat) (vs : List V), k + m = vs.length → pick (List.range' k m) vs = vs.drop k := by
          intro m
          induction m with
          | zero => intro k vs h; simp [pick]; omega
          | succ m ih =>
            intro k vs h
            rw [List.range'_succ, pick, List.getElem?_eq_getElem (by omega), ih (k + 1) vs (by omega)]
            exact (List.drop_eq_getElem_cons (by omega)).symm
        rw [List.range_eq_range', this n 0 vs (by omega)]
        rfl
      rw [hp] at q
      exact q
theorem kb_all {K : PySem.W.Frag} {fd : FuncData} {ps : List Str} {f : Str} {kb : KB} (h : ∀ q ∈ kb, q.1.1 = f → KArr K fd ps q.1.2.1 q.1.2.2 q.2) (n : Nat) (ks : List Str) (ss : List Src) (e : kb.lookup (f, n, ks) = some ss) : KArr K fd ps n ks ss := by
  induction kb with
  | nil => cases e
  | cons q r ih =>
    obtain ⟨y, c⟩ := q
    by_cases hx : (f, n, ks) == y
    · have hy : (f, n, ks) = y := by simpa using hx
      subst hy
      simp [List.lookup] at e
      subst e
      exact h _ List.mem_cons_self rfl
    · have hx' : ((f, n, ks) == y) = false := by simpa using hx
      simp only [List.lookup, hx'] at e
      exact ih (fun p hp => h p (List.mem_cons_of_mem _ hp)) e
theorem gdict_mk {K : PySem.W.Frag} {w : World} {mg : Str → Option Value} {x : Str} {p : Addr} {es : Array DictEntry} {n : Nat} {l : List (Str × Str)} (hm : mg x = some (.ref p)) (hl : K.lookup p = some ⟨.type "dict", none, .dict es n, #[]⟩) (hk : PySem.W.KeysLit w.params es.toList)
    (h : ∀ q ∈ l, ∃ t, PySem.W.nsIn K p q.1 = some (some (.str q.2 t))) : GDict K w mg x (l.map fun q => (q.1, A.str q.2)) := by
  refine ⟨p, hm, fun z a e => ?_⟩
  induction l with
  | nil => cases e
  | cons q r ih =>
    obtain ⟨y, b⟩ := q
    simp only [List.map_cons, List.lookup] at e
    split at e
    · rename_i hx
      cases e
      have hy : z = y := by simpa using hx
      subst hy
      obtain ⟨t, ht⟩ := h _ List.mem_cons_self
      exact ⟨.str b, ⟨es, n, _, hl, hk, ht, t, rfl⟩, fun _ _ => .str b⟩
    · exact ih (fun q hq => h q (List.mem_cons_of_mem _ hq)) e
end MP

/-! MP, part S: what the functions that stand in many laws compute; each by its text, in any program that has it -/
namespace MP
open PySem PySem.Spec PyProof.Rows L2
theorem run_def {p : Prg} {f : Str} {d : Fn} (h : p.T.lookup f = some d) (k : Nat) (xs : List A) (M : Mem) : runF p (k + 1) f xs M = if xs.length = d.ps.length then retOf (evSs ⟨runF p k, p.G, p.wf, p.xt, p.kb, p.gd⟩ d.body (startA d.ns.length xs) M) else .stuck := by
  simp only [runF, h]
theorem lcL_eq {f : A → Mem → Out (Option A)} {g : A → Option A} {M : Mem} : ∀ xs : List A, (∀ x ∈ xs, f x M = .ok (g x) M) → lcL f xs M = .ok (xs.filterMap g) M
  | [], _ => rfl
  | x :: xs, h => by
    simp only [lcL, h x List.mem_cons_self, Out.bind_ok, lcL_eq xs fun y hy => h y (List.mem_cons_of_mem _ hy)]
    cases e : g x <;> simp [List.filterMap_cons, e]
/-- a comprehension that draws: what is held of the memory, and what of the items -/
theorem lcL_inv {f : A → Mem → Out (Option A)} (Iv : Mem → Prop) (Pr : A → Prop) : ∀ (xs : List A) (M : Mem), Iv M → (∀ x ∈ xs, ∀ M, Iv M → ∃ y M', f x M = .ok (some y) M' ∧ Pr y ∧ Iv M') → ∃ ys M', lcL f xs M = .ok ys M' ∧ Iv M' ∧ (∀ y ∈ ys, Pr y) ∧ ys.length = xs.length
  | [], M, h, _ => ⟨[], M, rfl, h, fun _ z => by simp at z, rfl⟩
  | x :: xs, M, h, hs => by
    obtain ⟨y, M1, e1, p1, h1⟩ := hs x List.mem_cons_self M h
    obtain ⟨ys, M2, e2, h2, p2, l2⟩ := lcL_inv Iv Pr xs M1 h1 fun z hz => hs z (List.mem_cons_of_mem _ hz)
    exact ⟨y :: ys, M2, by simp only [lcL, e1, Out.bind_ok, e2], h2, fun z hz => by
      rcases List.mem_cons.mp hz with rfl | hz
      · exact p1
      · exact p2 z hz, by simp [l2]⟩
theorem evS_for (P : Par) (tg : Tg) (it : MP.It) (b : List S) (ς : MP.Loc) (M : Mem) : evS P (.forS tg it b) ς M = (evI P it ς M).bind fun xs M1 => forL (turnF P tg b) xs ς M1 := by
  simp only [evS]
  rfl
theorem forL_all {f : A → MP.Loc → Mem → Out (Fl × MP.Loc)} (Iv : MP.Loc → Mem → Prop) : ∀ xs : List A, (∀ x ∈ xs, ∀ ς M, Iv ς M → ∃ ς' M', f x ς M = .ok (.nxt, ς') M' ∧ Iv ς' M') → ∀ ς M, Iv ς M → ∃ ς' M', forL f xs ς M = .ok (.nxt, ς') M' ∧ Iv ς' M'
  | [], _, ς, M, h => ⟨ς, M, rfl, h⟩
  | x :: xs, hs, ς, M, h => by
    obtain ⟨ς1, M1, e1, h1⟩ := hs x List.mem_cons_self ς M h
    obtain ⟨ς2, M2, e2, h2⟩ := forL_all Iv xs (fun y hy => hs y (List.mem_cons_of_mem _ hy)) ς1 M1 h1
    exact ⟨ς2, M2, by simp only [forL, e1, Out.bind_ok, e2], h2⟩
/-! ### small things -/
theorem small {n m : Nat} (h : n ≤ m) (hm : m ≤ 1000000 := by decide) : n ≤ sizeLine := Nat.le_trans h (Nat.le_trans hm (by decide))
theorem smallLt {n m : Nat} (h : n ≤ m) (hm : m ≤ 1000000 := by decide) : n < sizeLine := Nat.lt_of_le_of_lt h (Nat.lt_of_le_of_lt hm (by decide))
theorem len_tup (xs : List A) (M : Mem) : lenA (.tup xs) M = some xs.length := rfl
theorem len_lst (xs : List A) (M : Mem) : lenA (.lst xs) M = some xs.length := rfl
theorem at0 (a : A) (r : List A) : L2.atI (a :: r) 0 = some a := by
  simp [L2.atI, L2.ixN]
theorem at1 (a b : A) (r : List A) : L2.atI (a :: b :: r) 1 = some b := by
  have h : (1 : Int) < (r.length : Int) + 1 + 1 := by omega
  simp [L2.atI, L2.ixN, h]
theorem at2 (a b c : A) (r : List A) : L2.atI (a :: b :: c :: r) 2 = some c := by
  have h : (2 : Int) < (r.length : Int) + 1 + 1 + 1 := by omega
  simp [L2.atI, L2.ixN, h]
theorem at3 (a b c d : A) (r : List A) : L2.atI (a :: b :: c :: d :: r) 3 = some d := by
  have h : (3 : Int) < (r.length : Int) + 1 + 1 + 1 + 1 := by omega
  simp [L2.atI, L2.ixN, h]
theorem eq_str (a b : Str) (M : Mem) : eqX (.str a) (.str b) M = some (decide (b = a)) := by
  simp only [eqX, eqG, pl, eqT, Bool.and_self, if_true]
  by_cases h : a = b
  · simp [h]
  · simp [h, Ne.symm h]
theorem eq_int (a b : Int) (M : Mem) : eqX (.int a) (.int b) M = some (decide (a = b)) := by
  simp only [eqX, eqG, pl, eqT, Bool.and_self, if_true]
  by_cases h : a = b
  · simp [h]
  · simp [h]
theorem eq_tree {a b : A} (M : Mem) (h1 : pl 60 a = true) (h2 : pl 60 b = true) : eqX a b M = some (eqT a b) := by
  simp only [eqX, eqG, h1, h2, Bool.and_self, if_true]
theorem ne_str (a b : Str) (M : Mem) : neX (.str a) (.str b) M = some (!decide (b = a)) := by
  simp [neX, isDT, isD, eq_str]
theorem ne_int (a b : Int) (M : Mem) : neX (.int a) (.int b) M = some (!decide (a = b)) := by
  simp [neX, isDT, isD, eq_int, ne_int]
theorem ne_tree {a b : A} (M : Mem) (h1 : pl 60 a = true) (h2 : pl 60 b = true) (d1 : isD a = false) (d2 : isD b = false) : neX a b M = some (!eqT a b) := by
  have dt : isDT a b = false := by cases a <;> first | rfl | exact Bool.noConfusion d1
  simp [neX, dt, d1, d2, eq_tree M h1 h2]
/-- x in xs, of trees -/
theorem in_tree {a : A} {ys : List A} (M : Mem) (h1 : pl 60 a = true) (h2 : ys.all (pl 60) = true) : inL a (.lst ys) M = some (ys.any fun y => eqT y a) ∧ inL a (.tup ys) M = some (ys.any fun y => eqT y a) := by
  constructor <;> simp only [inL, asSeq, asL, inG, h1, h2, Bool.and_self, if_true]
theorem inA_lst {a : A} {ys : List A} (M : Mem) (h1 : pl 60 a = true) (h2 : ys.all (pl 60) = true) : inA a (.lst ys) M = some (ys.any fun y => eqT y a) := (in_tree M h1 h2).1
theorem inA_tup {a : A} {ys : List A} (M : Mem) (h1 : pl 60 a = true) (h2 : ys.all (pl 60) = true) : inA a (.tup ys) M = some (ys.any fun y => eqT y a) := (in_tree M h1 h2).2
theorem in_char (c : Nat) (z : Str) (M : Mem) : inA (.str ⟨#[c]⟩) (.str z) M = some (decide (c ∈ z.cps.toList)) := by
  simp [inA, asD, inStr]
theorem atI_mem {xs : List A} {r : Int} (h1 : 0 ≤ r) (h2 : r < (xs.length : Int)) : ∃ x ∈ xs, L2.atI xs r = some x := by
  obtain ⟨m, rfl⟩ : ∃ m : Nat, r = (m : Int) := ⟨r.toNat, by omega⟩
  have hm : m < xs.length := by omega
  refine ⟨xs[m], List.getElem_mem hm, ?_⟩
  simp [L2.atI, L2.ixN, h2, hm]
/-! ### words -/
def letters : Str := Str.ofString "abcdefghijklmnopqrstuvwxyz"
def f_is_string_of : Fn := ⟨[(Str.ofString "candidate"), (Str.ofString "characters")], [(Str.ofString "candidate"), (Str.ofString "characters"), (Str.ofString "character")],
  [.ife (.or (.not (.isi (.var 0) .str)) (.not (.chain .LtE .LtE (.con (.int 1)) (.blt false .len [(.var 0)]) (.glob (Str.ofString "MAX_LENGTH"))))) [.ret (.con (.bool false))] [],
   .ret (.blt false .all [(.lc false [2] (.cmp .In (.var 2) (.var 1)) (.name 2) (.over (.var 0)) [])])]⟩
def f_is_word : Fn := ⟨[(Str.ofString "candidate")], [(Str.ofString "candidate")],
  [.ret (.call (Str.ofString "is_string_of") [(.var 0), (.glob (Str.ofString "LETTERS"))])]⟩
/-- one to eight of these signs -/
def isSo (z : Str) : A → Bool
  | .str s => decide (1 ≤ s.length) && decide (s.length ≤ 8) && s.cps.toList.all fun c => decide (c ∈ z.cps.toList)
  | _ => false
/-- a word -/
abbrev isW : A → Bool := isSo letters
/-- a tree with short texts -/
def tr : A → Bool
  | .str s => decide (s.length ≤ 16) && s.cps.toList.all fun c => decide (c < 128)
  | .ref _ => false
  | _ => true
theorem allBl_map (l : List Nat) (p : Nat → Bool) : allBl (l.map fun c => A.bl (p c)) = some (l.map p) := by
  induction l with
  | nil => rfl
  | cons c l ih => simp [allBl, ih]
def chA : A → Nat
  | .str z => z.cps.getD 0 0
  | _ => 0
theorem fm_bl (l : List Nat) (p : Nat → Bool) : allBl ((l.map fun c => A.str ⟨#[c]⟩).filterMap fun x => some (A.bl (p (chA x)))) = some (l.map p) := by
  induction l with
  | nil => rfl
  | cons c l ih => simp only [List.map_cons, List.filterMap_cons, allBl, ih, Option.map_some]; rfl
section
variable {p : Prg}
theorem r_is_string_of (h1 : p.T.lookup (Str.ofString "is_string_of") = some f_is_string_of) (h2 : p.G (Str.ofString "MAX_LENGTH") = some (.int 8)) (k : Nat) (M : Mem) (z : Str) (v : A) (hv : tr v = true) : runF p (k + 1) (Str.ofString "is_string_of") [v, .str z] M = .ok (.bl (isSo z v)) M := by
  rw [run_def h1]
  have g_max := h2
  cases v with
  | str s =>
    have hs16 : s.length ≤ 16 := by
      simp only [tr, Bool.and_eq_true, decide_eq_true_eq] at hv
      exact hv.1
    have hs : s.length ≤ sizeLine := small hs16
    by_cases h1 : 1 ≤ s.length
    · by_cases h2 : s.length ≤ 8
      · have h1' : (1 : Int) ≤ (s.length : Int) := by omega
        have h2' : (s.length : Int) ≤ 8 := by omega
        simp [evSs, evS, evE, evEs, evT, evTs, evO, evI, retOf, startA, cA, isiA, tyA, isiT, outB, outT, outV, outI, truA, one?, ints2?, two?, bltA, blt1, blt2, toIntA, idxA, asSeq, asL, cmpB, ltA, ltI, binA, addA, binN, MP.binI, mulA, repL, isI, setA, isX, isNone?, isNon, seqItems, asD, idxS, recvOk, methA, appA, f_is_string_of, g_max, lenA, hs, h1', h2', itemsOf]
        rw [lcL_eq (g := fun x => some (A.bl (decide (chA x ∈ z.cps.toList))))]
        · have hl : s.cps.toList.length = s.length := by simp [Str.length]
          have hf : ((List.map (fun c => A.str { cps := #[c] }) s.cps.toList).filterMap fun x => some (A.bl (decide (chA x ∈ z.cps.toList)))).length ≤ sizeLine := by
            refine Nat.le_trans (List.length_filterMap_le _ _) ?_
            rw [List.length_map, hl]; exact hs
          have e := fm_bl s.cps.toList fun c => decide (c ∈ z.cps.toList)
          have ew : isSo z (.str s) = (s.cps.toList.map fun c => decide (c ∈ z.cps.toList)).all id := by
            simp [isSo, h1, h2]
          generalize (List.filterMap (fun x => some (A.bl (decide (chA x ∈ z.cps.toList)))) (List.map (fun c => A.str { cps := #[c] }) s.cps.toList)) = L at e hf ⊢
          rw [ew]
          generalize s.cps.toList.map (fun c => decide (c ∈ z.cps.toList)) = bs at *
          simp [finL, hf, e, ew]
        · intro x hx
          simp only [List.mem_map] at hx
          obtain ⟨c, _, rfl⟩ := hx
          simp [evSs, evS, evE, evEs, evT, evTs, evO, evI, retOf, startA, cA, isiA, tyA, isiT, outB, outT, outV, outI, truA, one?, ints2?, two?, bltA, blt1, blt2, toIntA, idxA, asSeq, asL, cmpB, ltA, ltI, binA, addA, binN, MP.binI, mulA, repL, isI, setA, isX, isNone?, isNon, seqItems, asD, idxS, recvOk, methA, appA, bindT, wipeA, in_char, chA]
      · have h1' : (1 : Int) ≤ (s.length : Int) := by omega
        have h2' : ¬ (s.length : Int) ≤ 8 := by omega
        simp [evSs, evS, evE, evEs, evT, evTs, evO, evI, retOf, startA, cA, isiA, tyA, isiT, outB, outT, outV, outI, truA, one?, ints2?, two?, bltA, blt1, blt2, toIntA, idxA, asSeq, asL, cmpB, ltA, ltI, binA, addA, binN, MP.binI, mulA, repL, isI, setA, isX, isNone?, isNon, seqItems, asD, idxS, recvOk, methA, appA, f_is_string_of, g_max, lenA, hs, h1', h2', itemsOf, isSo, h1, h2]
    · have h1' : ¬ (1 : Int) ≤ (s.length : Int) := by omega
      simp [evSs, evS, evE, evEs, evT, evTs, evO, evI, retOf, startA, cA, isiA, tyA, isiT, outB, outT, outV, outI, truA, one?, ints2?, two?, bltA, blt1, blt2, toIntA, idxA, asSeq, asL, cmpB, ltA, ltI, binA, addA, binN, MP.binI, mulA, repL, isI, setA, isX, isNone?, isNon, seqItems, asD, idxS, recvOk, methA, appA, f_is_string_of, g_max, lenA, hs, h1', itemsOf, isSo, h1]
  | ref b => simp [tr] at hv
  | _ => simp [evSs, evS, evE, evEs, evT, evTs, evO, evI, retOf, startA, cA, isiA, tyA, isiT, outB, outT, outV, outI, truA, one?, ints2?, two?, bltA, blt1, blt2, toIntA, idxA, asSeq, asL, cmpB, ltA, ltI, binA, addA, binN, MP.binI, mulA, repL, isI, setA, isX, isNone?, isNon, seqItems, asD, idxS, recvOk, methA, appA, f_is_string_of, isSo]
end
def tr1 (v : A) : Bool := tr v && match v with
  | .tup xs => xs.all tr
  | _ => true
def tr2 (v : A) : Bool := tr v && match v with
  | .tup xs => xs.all tr1
  | _ => true
abbrev tOut : Str := Str.ofString "out"
abbrev tIn : Str := Str.ofString "in"
abbrev tCon : Str := Str.ofString "concept"
abbrev tFun : Str := Str.ofString "functional"
def isDir : A → Bool
  | .tup [.str w, x] => (decide (tOut = w) || decide (tIn = w)) && isW x
  | _ => false
def isCon : A → Bool
  | .tup [.str w, x] => (decide (tCon = w) || (decide (tOut = w) || decide (tIn = w))) && isW x
  | _ => false
def isCA (w : Str) : Bool := decide (Str.ofString "subclass" = w) || decide (Str.ofString "disjoint" = w)
def isRA (w : Str) : Bool := decide (Str.ofString "subrole" = w) || (decide (Str.ofString "subrole_inverse" = w) || (decide (Str.ofString "disjoint_roles" = w) || decide (Str.ofString "disjoint_inverse" = w)))
def isAx : A → Bool
  | .tup [.str w, x] => decide (tFun = w) && isDir x
  | .tup [.str w, x, y] => if isCA w = true then isCon x && isCon y else isRA w && (isW x && isW y)
  | _ => false
def f_is_direction : Fn := ⟨[(Str.ofString "candidate")], [(Str.ofString "candidate")],
  [.ife (.or (.not (.isi (.var 0) .tuple)) (.or (.cmp .NotEq (.blt false .len [(.var 0)]) (.con (.int 2))) (.not (.isi (.idx (.var 0) (.con (.int 0))) .str)))) [.ret (.con (.bool false))] [],
   .ret (.and (.cmp .In (.idx (.var 0) (.con (.int 0))) (.glob (Str.ofString "DIRECTION_WORDS"))) (.call (Str.ofString "is_word") [(.idx (.var 0) (.con (.int 1)))]))]⟩
def f_is_concept : Fn := ⟨[(Str.ofString "candidate")], [(Str.ofString "candidate")],
  [.ife (.call (Str.ofString "is_direction") [(.var 0)]) [.ret (.con (.bool true))] [],
   .ife (.or (.not (.isi (.var 0) .tuple)) (.or (.cmp .NotEq (.blt false .len [(.var 0)]) (.con (.int 2))) (.not (.isi (.idx (.var 0) (.con (.int 0))) .str)))) [.ret (.con (.bool false))] [],
   .ret (.and (.cmp .Eq (.idx (.var 0) (.con (.int 0))) (.con (.str (Str.ofString "concept")))) (.call (Str.ofString "is_word") [(.idx (.var 0) (.con (.int 1)))]))]⟩
def f_is_axiom : Fn := ⟨[(Str.ofString "candidate")], [(Str.ofString "candidate")],
  [.ife (.or (.not (.isi (.var 0) .tuple)) (.or (.not (.chain .LtE .LtE (.con (.int 2)) (.blt false .len [(.var 0)]) (.con (.int 3)))) (.not (.isi (.idx (.var 0) (.con (.int 0))) .str)))) [.ret (.con (.bool false))] [],
   .ife (.cmp .Eq (.blt false .len [(.var 0)]) (.con (.int 2))) [.ret (.and (.cmp .Eq (.idx (.var 0) (.con (.int 0))) (.con (.str (Str.ofString "functional")))) (.call (Str.ofString "is_direction") [(.idx (.var 0) (.con (.int 1)))]))] [],
   .ife (.cmp .In (.idx (.var 0) (.con (.int 0))) (.glob (Str.ofString "CONCEPT_AXIOMS"))) [.ret (.and (.call (Str.ofString "is_concept") [(.idx (.var 0) (.con (.int 1)))]) (.call (Str.ofString "is_concept") [(.idx (.var 0) (.con (.int 2)))]))] [],
   .ret (.and (.cmp .In (.idx (.var 0) (.con (.int 0))) (.glob (Str.ofString "ROLE_AXIOMS"))) (.and (.call (Str.ofString "is_word") [(.idx (.var 0) (.con (.int 1)))]) (.call (Str.ofString "is_word") [(.idx (.var 0) (.con (.int 2)))])))]⟩
/-- the checks of concepts, of axioms stand in the program -/
structure HasDi (p : Prg) : Prop where
  so : p.T.lookup (Str.ofString "is_string_of") = some f_is_string_of
  wo : p.T.lookup (Str.ofString "is_word") = some f_is_word
  di : p.T.lookup (Str.ofString "is_direction") = some f_is_direction
  gM : p.G (Str.ofString "MAX_LENGTH") = some (.int 8)
  gL : p.G (Str.ofString "LETTERS") = some (.str letters)
  gD : p.G (Str.ofString "DIRECTION_WORDS") = some (.tup [.str tOut, .str tIn])
structure HasCo (p : Prg) : Prop extends HasDi p where
  co : p.T.lookup (Str.ofString "is_concept") = some f_is_concept
structure HasAx (p : Prg) : Prop extends HasCo p where
  ax : p.T.lookup (Str.ofString "is_axiom") = some f_is_axiom
  gCA : p.G (Str.ofString "CONCEPT_AXIOMS") = some (.tup [.str (Str.ofString "subclass"), .str (Str.ofString "disjoint")])
  gRA : p.G (Str.ofString "ROLE_AXIOMS") = some (.tup [.str (Str.ofString "subrole"), .str (Str.ofString "subrole_inverse"), .str (Str.ofString "disjoint_roles"), .str (Str.ofString "disjoint_inverse")])
theorem beq_str (a b : Str) : (a == b) = decide (a = b) := by
  by_cases h : a = b <;> simp [h]
theorem in_dir (w : Str) (M : Mem) : inA (.str w) (.tup [.str tOut, .str tIn]) M = some (decide (tOut = w) || decide (tIn = w)) := by
  rw [inA_tup M (by simp [pl]) (by simp [pl])]
  simp [eqT, beq_str]
theorem in_ca (w : Str) (M : Mem) : inA (.str w) (.tup [.str (Str.ofString "subclass"), .str (Str.ofString "disjoint")]) M = some (isCA w) := by
  rw [inA_tup M (by simp [pl]) (by simp [pl])]
  simp [eqT, beq_str, isCA]
theorem in_ra (w : Str) (M : Mem) : inA (.str w) (.tup [.str (Str.ofString "subrole"), .str (Str.ofString "subrole_inverse"), .str (Str.ofString "disjoint_roles"), .str (Str.ofString "disjoint_inverse")]) M = some (isRA w) := by
  rw [inA_tup M (by simp [pl]) (by simp [pl])]
  simp [eqT, beq_str, isRA]
section
variable {p : Prg}
theorem r_is_word (h : HasDi p) (k : Nat) (M : Mem) (v : A) (hv : tr v = true) : runF p (k + 2) (Str.ofString "is_word") [v] M = .ok (.bl (isW v)) M := by
  rw [run_def h.wo]
  simp [evSs, evS, evE, evEs, evT, evTs, evO, evI, retOf, startA, cA, isiA, tyA, isiT, outB, outT, outV, outI, truA, one?, ints2?, two?, bltA, blt1, blt2, toIntA, idxA, asSeq, asL, cmpB, ltA, ltI, binA, addA, binN, MP.binI, mulA, repL, isI, setA, isX, isNone?, isNon, seqItems, asD, idxS, recvOk, methA, appA, f_is_word, h.gL, r_is_string_of h.so h.gM k M letters v hv]
theorem r_is_direction (h : HasDi p) (k : Nat) (M : Mem) (v : A) (hv : tr1 v = true) : runF p (k + 3) (Str.ofString "is_direction") [v] M = .ok (.bl (isDir v)) M := by
  rw [run_def h.di]
  cases v with
  | tup xs =>
    rcases xs with _ | ⟨a, _ | ⟨b, _ | ⟨c, r⟩⟩⟩
    · simp [evSs, evS, evE, evEs, evT, evTs, evO, evI, retOf, startA, cA, isiA, tyA, isiT, outB, outT, outV, outI, truA, one?, ints2?, two?, bltA, blt1, blt2, toIntA, idxA, asSeq, asL, cmpB, ltA, ltI, binA, addA, binN, MP.binI, mulA, repL, isI, setA, isX, isNone?, isNon, seqItems, asD, idxS, recvOk, methA, appA, f_is_direction, isDir, len_tup, eq_int, ne_int]
    · simp [evSs, evS, evE, evEs, evT, evTs, evO, evI, retOf, startA, cA, isiA, tyA, isiT, outB, outT, outV, outI, truA, one?, ints2?, two?, bltA, blt1, blt2, toIntA, idxA, asSeq, asL, cmpB, ltA, ltI, binA, addA, binN, MP.binI, mulA, repL, isI, setA, isX, isNone?, isNon, seqItems, asD, idxS, recvOk, methA, appA, f_is_direction, isDir, len_tup, eq_int, ne_int]
    · have hb : tr b = true := by
        simp [tr1] at hv
        exact hv.2.2
      cases a with
      | str w =>
        simp [evSs, evS, evE, evEs, evT, evTs, evO, evI, retOf, startA, cA, isiA, tyA, isiT, outB, outT, outV, outI, truA, one?, ints2?, two?, bltA, blt1, blt2, toIntA, idxA, asSeq, asL, cmpB, ltA, ltI, binA, addA, binN, MP.binI, mulA, repL, isI, setA, isX, isNone?, isNon, seqItems, asD, idxS, recvOk, methA, appA, f_is_direction, isDir, len_tup, eq_int, ne_int, at0, at1, h.gD, in_dir]
        generalize (decide (tOut = w) || decide (tIn = w)) = q
        cases q <;> simp [r_is_word h k M b hb]
      | ref n => simp [tr1, tr] at hv
      | _ => simp [evSs, evS, evE, evEs, evT, evTs, evO, evI, retOf, startA, cA, isiA, tyA, isiT, outB, outT, outV, outI, truA, one?, ints2?, two?, bltA, blt1, blt2, toIntA, idxA, asSeq, asL, cmpB, ltA, ltI, binA, addA, binN, MP.binI, mulA, repL, isI, setA, isX, isNone?, isNon, seqItems, asD, idxS, recvOk, methA, appA, f_is_direction, isDir, len_tup, eq_int, ne_int, at0]
    · have h2 : ¬ ((r.length : Int) + 1 + 1 + 1 = 2) := by omega
      simp [evSs, evS, evE, evEs, evT, evTs, evO, evI, retOf, startA, cA, isiA, tyA, isiT, outB, outT, outV, outI, truA, one?, ints2?, two?, bltA, blt1, blt2, toIntA, idxA, asSeq, asL, cmpB, ltA, ltI, binA, addA, binN, MP.binI, mulA, repL, isI, setA, isX, isNone?, isNon, seqItems, asD, idxS, recvOk, methA, appA, f_is_direction, isDir, len_tup, eq_int, ne_int, h2]
  | ref n => simp [tr1, tr] at hv
  | _ => simp [evSs, evS, evE, evEs, evT, evTs, evO, evI, retOf, startA, cA, isiA, tyA, isiT, outB, outT, outV, outI, truA, one?, ints2?, two?, bltA, blt1, blt2, toIntA, idxA, asSeq, asL, cmpB, ltA, ltI, binA, addA, binN, MP.binI, mulA, repL, isI, setA, isX, isNone?, isNon, seqItems, asD, idxS, recvOk, methA, appA, f_is_direction, isDir]
theorem dir_con (v : A) (h : isDir v = true) : isCon v = true := by
  unfold isDir at h
  split at h
  · simp only [Bool.and_eq_true] at h
    simp only [isCon, h.1, h.2, Bool.or_true, Bool.and_true]
  · exact Bool.noConfusion h
theorem r_is_concept (h : HasCo p) (k : Nat) (M : Mem) (v : A) (hv : tr1 v = true) : runF p (k + 4) (Str.ofString "is_concept") [v] M = .ok (.bl (isCon v)) M := by
  rw [run_def h.co]
  cases hd : isDir v with
  | true => simp [evSs, evS, evE, evEs, evT, evTs, evO, evI, retOf, startA, cA, isiA, tyA, isiT, outB, outT, outV, outI, truA, one?, ints2?, two?, bltA, blt1, blt2, toIntA, idxA, asSeq, asL, cmpB, ltA, ltI, binA, addA, binN, MP.binI, mulA, repL, isI, setA, isX, isNone?, isNon, seqItems, asD, idxS, recvOk, methA, appA, f_is_concept, r_is_direction h.toHasDi k M v hv, hd, dir_con v hd]
  | false =>
    cases v with
    | tup xs =>
      rcases xs with _ | ⟨a, _ | ⟨b, _ | ⟨c, r⟩⟩⟩
      · simp [evSs, evS, evE, evEs, evT, evTs, evO, evI, retOf, startA, cA, isiA, tyA, isiT, outB, outT, outV, outI, truA, one?, ints2?, two?, bltA, blt1, blt2, toIntA, idxA, asSeq, asL, cmpB, ltA, ltI, binA, addA, binN, MP.binI, mulA, repL, isI, setA, isX, isNone?, isNon, seqItems, asD, idxS, recvOk, methA, appA, f_is_concept, r_is_direction h.toHasDi k M _ hv, hd, isCon, len_tup, eq_int, ne_int]
      · simp [evSs, evS, evE, evEs, evT, evTs, evO, evI, retOf, startA, cA, isiA, tyA, isiT, outB, outT, outV, outI, truA, one?, ints2?, two?, bltA, blt1, blt2, toIntA, idxA, asSeq, asL, cmpB, ltA, ltI, binA, addA, binN, MP.binI, mulA, repL, isI, setA, isX, isNone?, isNon, seqItems, asD, idxS, recvOk, methA, appA, f_is_concept, r_is_direction h.toHasDi k M _ hv, hd, isCon, len_tup, eq_int, ne_int]
      · have hb : tr b = true := by
          simp [tr1] at hv
          exact hv.2.2
        cases a with
        | str w =>
          have hc : isCon (.tup [.str w, b]) = (decide (tCon = w) && isW b) := by
            simp only [isDir] at hd
            simp only [isCon]
            revert hd
            cases isW b
            · simp
            · simp only [Bool.and_true]
              intro hd
              rw [hd, Bool.or_false]
          simp [evSs, evS, evE, evEs, evT, evTs, evO, evI, retOf, startA, cA, isiA, tyA, isiT, outB, outT, outV, outI, truA, one?, ints2?, two?, bltA, blt1, blt2, toIntA, idxA, asSeq, asL, cmpB, ltA, ltI, binA, addA, binN, MP.binI, mulA, repL, isI, setA, isX, isNone?, isNon, seqItems, asD, idxS, recvOk, methA, appA, f_is_concept, r_is_direction h.toHasDi k M _ hv, hd, hc, len_tup, eq_int, ne_int, at0, at1, eq_str]
          by_cases hw : tCon = w
          · simp [hw, r_is_word h.toHasDi (k + 1) M b hb]
          · simp [hw]
        | ref n => simp [tr1, tr] at hv
        | _ => simp [evSs, evS, evE, evEs, evT, evTs, evO, evI, retOf, startA, cA, isiA, tyA, isiT, outB, outT, outV, outI, truA, one?, ints2?, two?, bltA, blt1, blt2, toIntA, idxA, asSeq, asL, cmpB, ltA, ltI, binA, addA, binN, MP.binI, mulA, repL, isI, setA, isX, isNone?, isNon, seqItems, asD, idxS, recvOk, methA, appA, f_is_concept, r_is_direction h.toHasDi k M _ hv, hd, isCon, len_tup, eq_int, ne_int, at0]
      · have h2 : ¬ ((r.length : Int) + 1 + 1 + 1 = 2) := by omega
        simp [evSs, evS, evE, evEs, evT, evTs, evO, evI, retOf, startA, cA, isiA, tyA, isiT, outB, outT, outV, outI, truA, one?, ints2?, two?, bltA, blt1, blt2, toIntA, idxA, asSeq, asL, cmpB, ltA, ltI, binA, addA, binN, MP.binI, mulA, repL, isI, setA, isX, isNone?, isNon, seqItems, asD, idxS, recvOk, methA, appA, f_is_concept, r_is_direction h.toHasDi k M _ hv, hd, isCon, len_tup, eq_int, ne_int, h2]
    | ref n => simp [tr1, tr] at hv
    | _ => simp [evSs, evS, evE, evEs, evT, evTs, evO, evI, retOf, startA, cA, isiA, tyA, isiT, outB, outT, outV, outI, truA, one?, ints2?, two?, bltA, blt1, blt2, toIntA, idxA, asSeq, asL, cmpB, ltA, ltI, binA, addA, binN, MP.binI, mulA, repL, isI, setA, isX, isNone?, isNon, seqItems, asD, idxS, recvOk, methA, appA, f_is_concept, r_is_direction h.toHasDi k M _ hv, hd, isCon]
theorem tr_of1 {v : A} (h : tr1 v = true) : tr v = true := by
  simp only [tr1, Bool.and_eq_true] at h
  exact h.1
theorem r_is_axiom (h : HasAx p) (k : Nat) (M : Mem) (v : A) (hv : tr2 v = true) : runF p (k + 5) (Str.ofString "is_axiom") [v] M = .ok (.bl (isAx v)) M := by
  rw [run_def h.ax]
  cases v with
  | tup xs =>
    rcases xs with _ | ⟨a, _ | ⟨b, _ | ⟨c, _ | ⟨d, r⟩⟩⟩⟩
    · simp [evSs, evS, evE, evEs, evT, evTs, evO, evI, retOf, startA, cA, isiA, tyA, isiT, outB, outT, outV, outI, truA, one?, ints2?, two?, bltA, blt1, blt2, toIntA, idxA, asSeq, asL, cmpB, ltA, ltI, binA, addA, binN, MP.binI, mulA, repL, isI, setA, isX, isNone?, isNon, seqItems, asD, idxS, recvOk, methA, appA, f_is_axiom, isAx, len_tup, eq_int, ne_int]
    · simp [evSs, evS, evE, evEs, evT, evTs, evO, evI, retOf, startA, cA, isiA, tyA, isiT, outB, outT, outV, outI, truA, one?, ints2?, two?, bltA, blt1, blt2, toIntA, idxA, asSeq, asL, cmpB, ltA, ltI, binA, addA, binN, MP.binI, mulA, repL, isI, setA, isX, isNone?, isNon, seqItems, asD, idxS, recvOk, methA, appA, f_is_axiom, isAx, len_tup, eq_int, ne_int]
    · have hb : tr1 b = true := by
        simp [tr2] at hv
        exact hv.2.2
      cases a with
      | str w =>
        simp [evSs, evS, evE, evEs, evT, evTs, evO, evI, retOf, startA, cA, isiA, tyA, isiT, outB, outT, outV, outI, truA, one?, ints2?, two?, bltA, blt1, blt2, toIntA, idxA, asSeq, asL, cmpB, ltA, ltI, binA, addA, binN, MP.binI, mulA, repL, isI, setA, isX, isNone?, isNon, seqItems, asD, idxS, recvOk, methA, appA, f_is_axiom, isAx, len_tup, eq_int, ne_int, at0, at1, eq_str]
        by_cases hw : tFun = w
        · simp [hw, r_is_direction h.toHasDi (k + 1) M b hb]
        · simp [hw]
      | ref n => simp [tr2, tr1, tr] at hv
      | _ => simp [evSs, evS, evE, evEs, evT, evTs, evO, evI, retOf, startA, cA, isiA, tyA, isiT, outB, outT, outV, outI, truA, one?, ints2?, two?, bltA, blt1, blt2, toIntA, idxA, asSeq, asL, cmpB, ltA, ltI, binA, addA, binN, MP.binI, mulA, repL, isI, setA, isX, isNone?, isNon, seqItems, asD, idxS, recvOk, methA, appA, f_is_axiom, isAx, len_tup, eq_int, ne_int, at0]
    · have hb : tr1 b = true ∧ tr1 c = true := by
        simp [tr2] at hv
        exact hv.2.2
      cases a with
      | str w =>
        simp [evSs, evS, evE, evEs, evT, evTs, evO, evI, retOf, startA, cA, isiA, tyA, isiT, outB, outT, outV, outI, truA, one?, ints2?, two?, bltA, blt1, blt2, toIntA, idxA, asSeq, asL, cmpB, ltA, ltI, binA, addA, binN, MP.binI, mulA, repL, isI, setA, isX, isNone?, isNon, seqItems, asD, idxS, recvOk, methA, appA, f_is_axiom, isAx, len_tup, eq_int, ne_int, at0, at1, at2, eq_str, h.gCA, h.gRA, in_ca, in_ra]
        cases isCA w with
        | true =>
          simp [r_is_concept h.toHasCo k M b hb.1, r_is_concept h.toHasCo k M c hb.2]
          cases isCon b <;> simp
        | false =>
          simp [at0, at1, at2, in_ra]
          cases isRA w with
          | true =>
            simp [at0, at1, at2, r_is_word h.toHasDi (k + 2) M b (tr_of1 hb.1), r_is_word h.toHasDi (k + 2) M c (tr_of1 hb.2)]
            cases isW b <;> simp
          | false => simp
      | ref n => simp [tr2, tr1, tr] at hv
      | _ => simp [evSs, evS, evE, evEs, evT, evTs, evO, evI, retOf, startA, cA, isiA, tyA, isiT, outB, outT, outV, outI, truA, one?, ints2?, two?, bltA, blt1, blt2, toIntA, idxA, asSeq, asL, cmpB, ltA, ltI, binA, addA, binN, MP.binI, mulA, repL, isI, setA, isX, isNone?, isNon, seqItems, asD, idxS, recvOk, methA, appA, f_is_axiom, isAx, len_tup, eq_int, ne_int, at0]
    · have h3 : ¬ ((r.length : Int) + 1 + 1 + 1 + 1 ≤ 3) := by omega
      have h2 : ((2 : Int) ≤ (r.length : Int) + 1 + 1 + 1 + 1) := by omega
      simp [evSs, evS, evE, evEs, evT, evTs, evO, evI, retOf, startA, cA, isiA, tyA, isiT, outB, outT, outV, outI, truA, one?, ints2?, two?, bltA, blt1, blt2, toIntA, idxA, asSeq, asL, cmpB, ltA, ltI, binA, addA, binN, MP.binI, mulA, repL, isI, setA, isX, isNone?, isNon, seqItems, asD, idxS, recvOk, methA, appA, f_is_axiom, isAx, len_tup, eq_int, ne_int, h2, h3]
  | ref n => simp [tr2, tr] at hv
  | _ => simp [evSs, evS, evE, evEs, evT, evTs, evO, evI, retOf, startA, cA, isiA, tyA, isiT, outB, outT, outV, outI, truA, one?, ints2?, two?, bltA, blt1, blt2, toIntA, idxA, asSeq, asL, cmpB, ltA, ltI, binA, addA, binN, MP.binI, mulA, repL, isI, setA, isX, isNone?, isNon, seqItems, asD, idxS, recvOk, methA, appA, f_is_axiom, isAx]
end
end MP

/-! MP, part T: what is drawn -/
namespace MP
open PySem PySem.Spec PyProof.Rows L2
def f_law_stream : Fn := ⟨[(Str.ofString "_law_script"), (Str.ofString "_law_k")], [(Str.ofString "_law_script"), (Str.ofString "_law_k"), (Str.ofString "_law_cell"), (Str.ofString "_law_size"), (Str.ofString "_law_mixed")],
  [.asg 2 (.con (.int 0)),
   .ife (.cmp .Lt (.var 1) (.blt false .len [(.var 0)])) [.asg 2 (.idx (.var 0) (.var 1))] [],
   .asg 3 (.blt false .max [(.var 2), (.bin false .Sub (.neg (.con (.int 1))) (.var 2))]),
   .asg 4 (.bin false .Mod (.bin false .Mult (.bin false .Add (.bin false .Add (.bin false .Add (.bin false .Mod (.var 3) (.con (.int 2147483629))) (.bin false .Mult (.bin false .Mult (.con (.int 7919)) (.var 1)) (.var 1))) (.bin false .Mult (.con (.int 31)) (.var 1))) (.con (.int 17))) (.con (.int 48271))) (.con (.int 2147483647))),
   .ret (.lst true [(.bin false .Mult (.var 3) (.blt false .int [(.cmp .GtE (.var 3) (.bin false .Pow (.con (.int 10)) (.con (.int 18))))])), (.var 4)])]⟩
def f_law_draw : Fn := ⟨[(Str.ofString "_law_stream_here"), (Str.ofString "_law_count")], [(Str.ofString "_law_stream_here"), (Str.ofString "_law_count"), (Str.ofString "_law_result")],
  [.ife (.cmp .Gt (.idx (.var 0) (.con (.int 0))) (.con (.int 0))) [.asg 2 (.bin false .Mod (.idx (.var 0) (.con (.int 0))) (.var 1)), .set (.var 0) (.con (.int 0)) (.bin false .FloorDiv (.idx (.var 0) (.con (.int 0))) (.var 1)), .ret (.var 2)] [],
   .set (.var 0) (.con (.int 1)) (.bin false .Mod (.bin false .Add (.bin false .Mult (.idx (.var 0) (.con (.int 1))) (.con (.int 69621))) (.con (.int 7))) (.con (.int 2147483647))),
   .ret (.bin false .Mod (.bin false .FloorDiv (.bin false .Mod (.bin false .Mult (.idx (.var 0) (.con (.int 1))) (.idx (.var 0) (.con (.int 1)))) (.con (.int 2147483629))) (.con (.int 32))) (.var 1))]⟩
def f_law_choose : Fn := ⟨[(Str.ofString "_law_stream_here"), (Str.ofString "_law_items")], [(Str.ofString "_law_stream_here"), (Str.ofString "_law_items")],
  [.ret (.idx (.var 1) (.call (Str.ofString "_law_draw") [(.var 0), (.blt false .len [(.var 1)])]))]⟩
def f_law_names : Fn := ⟨[(Str.ofString "_law_stream_here")], [(Str.ofString "_law_stream_here"), (Str.ofString "_law_head"), (Str.ofString "_law_concept_names"), (Str.ofString "_law_sign"), (Str.ofString "_law_role_names")],
  [.asg 1 (.idx (.lst false [(.con (.str (Str.ofString ""))), (.con (.str (Str.ofString "k"))), (.con (.str (Str.ofString "zzzzzzz")))]) (.call (Str.ofString "_law_draw") [(.var 0), (.con (.int 3))])),
   .asg 2 (.lc false [3] (.bin false .Add (.var 1) (.var 3)) (.name 3) (.over (.con (.str (Str.ofString "abcd")))) []),
   .asg 4 (.lc false [3] (.bin false .Add (.var 1) (.var 3)) (.name 3) (.over (.con (.str (Str.ofString "rst")))) []),
   .ret (.tup [(.var 2), (.idx (.lst false [(.var 4), (.slice false (.var 2) none (some (.con (.int 3))))]) (.blt false .int [(.cmp .Eq (.call (Str.ofString "_law_draw") [(.var 0), (.con (.int 4))]) (.con (.int 0)))]))])]⟩
def f_law_concept : Fn := ⟨[(Str.ofString "_law_stream_here"), (Str.ofString "_law_names_here")], [(Str.ofString "_law_stream_here"), (Str.ofString "_law_names_here"), (Str.ofString "_law_word")],
  [.asg 2 (.idx (.lst false [(.con (.str (Str.ofString "concept"))), (.con (.str (Str.ofString "concept"))), (.con (.str (Str.ofString "out"))), (.con (.str (Str.ofString "in")))]) (.call (Str.ofString "_law_draw") [(.var 0), (.con (.int 4))])),
   .ret (.tup [(.var 2), (.call (Str.ofString "_law_choose") [(.var 0), (.idx (.var 1) (.blt false .int [(.cmp .NotEq (.var 2) (.con (.str (Str.ofString "concept"))))]))])])]⟩
def f_law_axiom : Fn := ⟨[(Str.ofString "_law_stream_here"), (Str.ofString "_law_names_here"), (Str.ofString "_law_menu")], [(Str.ofString "_law_stream_here"), (Str.ofString "_law_names_here"), (Str.ofString "_law_menu"), (Str.ofString "_law_word")],
  [.asg 3 (.call (Str.ofString "_law_choose") [(.var 0), (.var 2)]),
   .ife (.or (.cmp .Eq (.var 3) (.con (.str (Str.ofString "subclass")))) (.cmp .Eq (.var 3) (.con (.str (Str.ofString "disjoint"))))) [.ret (.tup [(.var 3), (.call (Str.ofString "_law_concept") [(.var 0), (.var 1)]), (.call (Str.ofString "_law_concept") [(.var 0), (.var 1)])])] [],
   .ife (.cmp .Eq (.var 3) (.con (.str (Str.ofString "functional")))) [.ret (.tup [(.var 3), (.tup [(.idx (.lst false [(.con (.str (Str.ofString "out"))), (.con (.str (Str.ofString "in")))]) (.call (Str.ofString "_law_draw") [(.var 0), (.con (.int 2))])), (.call (Str.ofString "_law_choose") [(.var 0), (.idx (.var 1) (.con (.int 1)))])])])] [],
   .ret (.tup [(.var 3), (.call (Str.ofString "_law_choose") [(.var 0), (.idx (.var 1) (.con (.int 1)))]), (.call (Str.ofString "_law_choose") [(.var 0), (.idx (.var 1) (.con (.int 1)))])])]⟩
/-- the draws stand in the program -/
structure HasDraw (p : Prg) : Prop where
  st : p.T.lookup (Str.ofString "_law_stream") = some f_law_stream
  dr : p.T.lookup (Str.ofString "_law_draw") = some f_law_draw
  ch : p.T.lookup (Str.ofString "_law_choose") = some f_law_choose
  na : p.T.lookup (Str.ofString "_law_names") = some f_law_names
/-- the stream and its draws alone -/
structure HasDr (p : Prg) : Prop where
  st : p.T.lookup (Str.ofString "_law_stream") = some f_law_stream
  dr : p.T.lookup (Str.ofString "_law_draw") = some f_law_draw
  ch : p.T.lookup (Str.ofString "_law_choose") = some f_law_choose
theorem HasDraw.d {p : Prg} (h : HasDraw p) : HasDr p := ⟨h.st, h.dr, h.ch⟩
structure HasDrawAx (p : Prg) : Prop extends HasDraw p where
  co : p.T.lookup (Str.ofString "_law_concept") = some f_law_concept
  ax : p.T.lookup (Str.ofString "_law_axiom") = some f_law_axiom
/-- the cell n is a stream -/
def SI (M : Mem) (n : Nat) : Prop := ∃ a b : Int, M[n]? = some (.lst [.int a, .int b]) ∧ 0 ≤ a ∧ 0 ≤ b ∧ b < 2147483647
theorem si_set {M : Mem} {n : Nat} {a b a' b' : Int} (h : M[n]? = some (.lst [.int a, .int b])) (h1 : 0 ≤ a') (h2 : 0 ≤ b') (h3 : b' < 2147483647) : SI (M.set n (.lst [.int a', .int b'])) n :=
  ⟨a', b', by rw [List.getElem?_set_self (List.getElem?_eq_some_iff.mp h).1], h1, h2, h3⟩
theorem ok_lit1 (i : Int) : okMul i 69621 = true := by simp [okMul]
theorem ok_sq (b : Int) (h1 : 0 ≤ b) (h2 : b < 2147483647) : okMul b b = true := by
  have : -18446744073709551616 < b := by omega
  have : b < 18446744073709551616 := by omega
  simp [okMul, *]
theorem ix20 : L2.ixN 2 0 = some 0 := by decide +kernel
theorem ix21 : L2.ixN 2 1 = some 1 := by decide +kernel
theorem r_draw {p : Prg} (h : HasDr p) (k : Nat) (M : Mem) (n : Nat) (c : Int) (hM : SI M n) (h0 : 0 < c) (h1 : c ≤ 1000) : ∃ r M', runF p (k + 1) (Str.ofString "_law_draw") [.ref n, .int c] M = .ok (.int r) M' ∧ 0 ≤ r ∧ r < c ∧ SI M' n := by
  obtain ⟨a, b, hM, ha, hb, hb2⟩ := hM
  rw [run_def h.dr]
  have hc : c < 1073741824 := by omega
  have hn : n < M.length := (List.getElem?_eq_some_iff.mp hM).1
  by_cases hp : 0 < a
  · refine ⟨a % c, M.set n (.lst [.int (a / c), .int b]), ?_, Int.emod_nonneg _ (by omega), Int.emod_lt_of_pos _ h0, si_set hM (Int.ediv_nonneg ha (by omega)) hb hb2⟩
    simp [evSs, evS, evE, evEs, evT, evTs, evO, evI, retOf, startA, cA, isiA, tyA, isiT, outB, outT, outV, outI, truA, one?, ints2?, two?, bltA, blt1, blt2, toIntA, idxA, asSeq, asL, cmpB, ltA, ltI, binA, addA, binN, MP.binI, mulA, repL, isI, setA, isX, isNone?, isNon, seqItems, asD, idxS, recvOk, methA, appA, f_law_draw, hM, at0, at1, hp, h0, hc, ix20]
  · have hm : (0 : Int) < 2147483647 := by decide
    generalize hb' : (b * 69621 + 7) % 2147483647 = b'
    have q1 : 0 ≤ b' := by rw [← hb']; exact Int.emod_nonneg _ (by decide)
    have q2 : b' < 2147483647 := by rw [← hb']; exact Int.emod_lt_of_pos _ hm
    refine ⟨b' * b' % 2147483629 / 32 % c, M.set n (.lst [.int a, .int b']), ?_, Int.emod_nonneg _ (by omega), Int.emod_lt_of_pos _ h0, si_set hM ha q1 q2⟩
    have hs : ∀ X, (M.set n X)[n]? = some X := fun X => List.getElem?_set_self hn
    simp [evSs, evS, evE, evEs, evT, evTs, evO, evI, retOf, startA, cA, isiA, tyA, isiT, outB, outT, outV, outI, truA, one?, ints2?, two?, bltA, blt1, blt2, toIntA, idxA, asSeq, asL, cmpB, ltA, ltI, binA, addA, binN, MP.binI, mulA, repL, isI, setA, isX, isNone?, isNon, seqItems, asD, idxS, recvOk, methA, appA, f_law_draw, hM, at0, at1, hp, h0, hc, ix21, ok_lit1, hb', hs, ok_sq b' q1 q2]
theorem r_choose {p : Prg} (h : HasDr p) (k : Nat) (M : Mem) (n : Nat) (xs : List A) (hM : SI M n) (h0 : 0 < xs.length) (h1 : xs.length ≤ 1000) : ∃ x ∈ xs, ∃ M', runF p (k + 2) (Str.ofString "_law_choose") [.ref n, .lst xs] M = .ok x M' ∧ SI M' n := by
  obtain ⟨r, M', e, q1, q2, q3⟩ := r_draw h k M n (xs.length : Int) hM (by omega) (by omega)
  obtain ⟨x, hx, ex⟩ := atI_mem q1 q2
  refine ⟨x, hx, M', ?_, q3⟩
  rw [run_def h.ch]
  simp [evSs, evS, evE, evEs, evT, evTs, evO, evI, retOf, startA, cA, isiA, tyA, isiT, outB, outT, outV, outI, truA, one?, ints2?, two?, bltA, blt1, blt2, toIntA, idxA, asSeq, asL, cmpB, ltA, ltI, binA, addA, binN, MP.binI, mulA, repL, isI, setA, isX, isNone?, isNon, seqItems, asD, idxS, recvOk, methA, appA, f_law_choose, lenA, e, ex]
def sz (c : Int) : Int := if -1 - c > c then -1 - c else c
theorem sz_pos (c : Int) : 0 ≤ sz c := by unfold sz; split <;> omega
theorem ok_l (l : Int) (i : Int) (h : -18446744073709551616 < l ∧ l < 18446744073709551616) : okMul l i = true := by simp [okMul, h.1, h.2]
theorem ok_r (l : Int) (i : Int) (h : -18446744073709551616 < l ∧ l < 18446744073709551616) : okMul i l = true := by simp [okMul, h.1, h.2]
def mix (c k : Int) : Int := (sz c % 2147483629 + 7919 * k * k + 31 * k + 17) * 48271 % 2147483647
theorem r_stream {p : Prg} (h : HasDr p) (k : Nat) (M : Mem) (ns : List Int) (i : Int) (h0 : 0 ≤ i) (h1 : i < 100) : ∃ M', runF p (k + 1) (Str.ofString "_law_stream") [scriptA ns, .int i] M = .ok (.ref M.length) M' ∧ SI M' M.length := by
  rw [run_def h.st]
  have hi : -18446744073709551616 < i ∧ i < 18446744073709551616 := by omega
  have o1 : okMul 7919 i = true := ok_r i 7919 hi
  have o2 : okMul (7919 * i) i = true := ok_r i _ hi
  have o3 : okMul 31 i = true := ok_r i _ hi
  have o4 : ∀ j, okMul j 48271 = true := fun j => ok_r 48271 j (by decide)
  have o5 : ∀ j, okMul j 1 = true := fun j => ok_r 1 j (by decide)
  have o6 : ∀ j, okMul j 0 = true := fun j => ok_r 0 j (by decide)
  have z : (2 : Nat) ≤ sizeLine := by decide
  have fin : ∀ c : Int, SI (M ++ [.lst [.int (sz c * (if 1000000000000000000 ≤ sz c then 1 else 0)), .int (mix c i)]]) M.length := by
    intro c
    refine ⟨sz c * (if 1000000000000000000 ≤ sz c then 1 else 0), mix c i, by simp, ?_, Int.emod_nonneg _ (by decide), Int.emod_lt_of_pos _ (by decide)⟩
    have := sz_pos c
    split <;> omega
  by_cases hl : i < (ns.length : Int)
  · obtain ⟨x, hx, ex⟩ := atI_mem (xs := ns.map A.int) h0 (by simpa using hl)
    obtain ⟨c, _, rfl⟩ := List.mem_map.mp hx
    refine ⟨_, ?_, fin c⟩
    by_cases hs : 1000000000000000000 ≤ sz c
    · unfold mix
      have hs' := hs
      unfold sz at hs' ⊢
      simp [evSs, evS, evE, evEs, evT, evTs, evO, evI, retOf, startA, cA, isiA, tyA, isiT, outB, outT, outV, outI, truA, one?, ints2?, two?, bltA, blt1, blt2, toIntA, idxA, asSeq, asL, cmpB, ltA, ltI, binA, addA, binN, MP.binI, mulA, repL, isI, setA, isX, isNone?, isNon, seqItems, asD, idxS, recvOk, methA, appA, f_law_stream, scriptA, lenA, hl, ex, o1, o2, o3, o4, o5, o6, finL, z, hs']
    · unfold mix
      have hs' := hs
      unfold sz at hs' ⊢
      simp [evSs, evS, evE, evEs, evT, evTs, evO, evI, retOf, startA, cA, isiA, tyA, isiT, outB, outT, outV, outI, truA, one?, ints2?, two?, bltA, blt1, blt2, toIntA, idxA, asSeq, asL, cmpB, ltA, ltI, binA, addA, binN, MP.binI, mulA, repL, isI, setA, isX, isNone?, isNon, seqItems, asD, idxS, recvOk, methA, appA, f_law_stream, scriptA, lenA, hl, ex, o1, o2, o3, o4, o5, o6, finL, z, hs']
  · refine ⟨_, ?_, fin 0⟩
    by_cases hs : 1000000000000000000 ≤ sz 0
    · exact absurd hs (by decide)
    · unfold mix
      have hs' := hs
      unfold sz at hs' ⊢
      simp [evSs, evS, evE, evEs, evT, evTs, evO, evI, retOf, startA, cA, isiA, tyA, isiT, outB, outT, outV, outI, truA, one?, ints2?, two?, bltA, blt1, blt2, toIntA, idxA, asSeq, asL, cmpB, ltA, ltI, binA, addA, binN, MP.binI, mulA, repL, isI, setA, isX, isNone?, isNon, seqItems, asD, idxS, recvOk, methA, appA, f_law_stream, scriptA, lenA, hl, o1, o2, o3, o4, o5, o6, finL, z, hs']
/-- names: two lists of words -/
def NM (v : A) (C Rn : List A) : Prop := v = .tup [.lst C, .lst Rn] ∧ C.all isW = true ∧ Rn.all isW = true ∧ (C.length = 3 ∨ C.length = 4) ∧ (Rn.length = 3 ∨ Rn.length = 4)
def stA : A → Str
  | .str z => z
  | _ => ⟨#[]⟩
def nmL (h : Str) (t : Str) : List A := (t.cps.toList.map fun c => A.str ⟨#[c]⟩).filterMap fun x => some (.str (h ++ stA x))
theorem nm_ok (h : Str) (hh : h = Str.ofString "" ∨ h = Str.ofString "k" ∨ h = Str.ofString "zzzzzzz") : (nmL h (Str.ofString "abcd")).all isW = true ∧ (nmL h (Str.ofString "abcd")).length = 4 ∧ (nmL h (Str.ofString "rst")).all isW = true ∧ (nmL h (Str.ofString "rst")).length = 3 := by
  rcases hh with rfl | rfl | rfl <;> decide +kernel
theorem cut_sub {xs : List A} {lo hi : Option Int} {x : A} (h : x ∈ cutA xs lo hi) : x ∈ xs := List.mem_of_mem_drop (List.mem_of_mem_take h)
theorem cut_len (xs : List A) (lo hi : Option Int) : (cutA xs lo hi).length ≤ xs.length := by
  unfold cutA
  rw [List.length_take, List.length_drop]
  omega
theorem r_names {p : Prg} (hp : HasDraw p) (k : Nat) (M : Mem) (n : Nat) (hM : SI M n) : ∃ v C Rn M', runF p (k + 2) (Str.ofString "_law_names") [.ref n] M = .ok v M' ∧ NM v C Rn ∧ SI M' n := by
  obtain ⟨r, M1, e1, p1, p2, s1⟩ := r_draw hp.d k M n 3 hM (by decide) (by decide)
  obtain ⟨r', M2, e2, q1, q2, s2⟩ := r_draw hp.d k M1 n 4 s1 (by decide) (by decide)
  obtain ⟨h, hh, eh⟩ : ∃ h, (h = Str.ofString "" ∨ h = Str.ofString "k" ∨ h = Str.ofString "zzzzzzz") ∧ L2.atI [A.str (Str.ofString ""), .str (Str.ofString "k"), .str (Str.ofString "zzzzzzz")] r = some (.str h) := by
    obtain rfl | rfl | rfl : r = 0 ∨ r = 1 ∨ r = 2 := by omega
    · exact ⟨_, .inl rfl, at0 _ _⟩
    · exact ⟨_, .inr (.inl rfl), at1 _ _ _⟩
    · exact ⟨_, .inr (.inr rfl), at2 _ _ _ _⟩
  obtain ⟨n1, n2, n3, n4⟩ := nm_ok h hh
  have hl7 : h.length ≤ 7 := by rcases hh with rfl | rfl | rfl <;> decide +kernel
  have z3 : (3 : Nat) ≤ sizeLine := by decide
  have z4 : (4 : Nat) ≤ sizeLine := by decide
  have z2 : (2 : Nat) ≤ sizeLine := by decide
  have lc : ∀ (t : Str) (f : A → Mem → Out (Option A)), (∀ c, f (.str ⟨#[c]⟩) M1 = .ok (some (.str (h ++ ⟨#[c]⟩))) M1) → lcL f (t.cps.toList.map fun c => A.str ⟨#[c]⟩) M1 = .ok (nmL h t) M1 := by
    intro t f hf
    unfold nmL
    refine lcL_eq _ fun x hx => ?_
    obtain ⟨c, _, rfl⟩ := List.mem_map.mp hx
    exact hf c
  have one : ∀ c : Nat, h.length + (⟨#[c]⟩ : Str).length ≤ sizeLine := fun c => by
    have : (⟨#[c]⟩ : Str).length = 1 := rfl
    have : (8 : Nat) ≤ sizeLine := by decide
    omega
  rw [run_def hp.na]
  simp [evSs, evS, evE, evEs, evT, evTs, evO, evI, retOf, startA, cA, isiA, tyA, isiT, outB, outT, outV, outI, truA, one?, ints2?, two?, bltA, blt1, blt2, toIntA, idxA, asSeq, asL, cmpB, ltA, ltI, binA, addA, binN, MP.binI, mulA, repL, isI, setA, isX, isNone?, isNon, seqItems, asD, idxS, recvOk, methA, appA, f_law_names, e1, eh, finL, z3, z2, itemsOf]
  rw [lc (Str.ofString "abcd") _ (fun c => by simp [evSs, evS, evE, evEs, evT, evTs, evO, evI, retOf, startA, cA, isiA, tyA, isiT, outB, outT, outV, outI, truA, one?, ints2?, two?, bltA, blt1, blt2, toIntA, idxA, asSeq, asL, cmpB, ltA, ltI, binA, addA, binN, MP.binI, mulA, repL, isI, setA, isX, isNone?, isNon, seqItems, asD, idxS, recvOk, methA, appA, bindT, wipeA, one])]
  simp [n2, z4]
  rw [lc (Str.ofString "rst") _ (fun c => by simp [evSs, evS, evE, evEs, evT, evTs, evO, evI, retOf, startA, cA, isiA, tyA, isiT, outB, outT, outV, outI, truA, one?, ints2?, two?, bltA, blt1, blt2, toIntA, idxA, asSeq, asL, cmpB, ltA, ltI, binA, addA, binN, MP.binI, mulA, repL, isI, setA, isX, isNone?, isNon, seqItems, asD, idxS, recvOk, methA, appA, bindT, wipeA, one])]
  have c3 : (cutA (nmL h (Str.ofString "abcd")) none (some 3)).length ≤ sizeLine := Nat.le_trans (cut_len _ _ _) (by rw [n2]; exact z4)
  have c4 : (cutA (nmL h (Str.ofString "abcd")) none (some 3)).length = 3 := by
    unfold cutA
    rw [List.length_take, List.length_drop, n2]
    decide
  have c5 : (cutA (nmL h (Str.ofString "abcd")) none (some 3)).all isW = true := by
    rw [List.all_eq_true] at n1 ⊢
    exact fun x hx => n1 x (cut_sub hx)
  by_cases hr : r' = 0
  · refine ⟨.tup [.lst (nmL h (Str.ofString "abcd")), .lst (cutA (nmL h (Str.ofString "abcd")) none (some 3))], _, _, M2, ?_, ⟨rfl, n1, c5, .inr n2, .inl c4⟩, s2⟩
    simp [n4, z3, z2, sliceA, finL, e2, eq_int, asL, c3, at0, at1, hr]
  · refine ⟨.tup [.lst (nmL h (Str.ofString "abcd")), .lst (nmL h (Str.ofString "rst"))], _, _, M2, ?_, ⟨rfl, n1, n3, .inr n2, .inl n4⟩, s2⟩
    simp [n4, z3, z2, sliceA, finL, e2, eq_int, asL, c3, at0, at1, hr]
theorem isW_tr {v : A} (h : isW v = true) : tr v = true := by
  cases v with
  | str s =>
    simp only [isW, isSo, Bool.and_eq_true, decide_eq_true_eq, List.all_eq_true] at h
    simp only [tr, Bool.and_eq_true, decide_eq_true_eq, List.all_eq_true]
    refine ⟨by omega, fun c hc => ?_⟩
    have h1 := h.2 c hc
    have h2 : letters.cps.toList.all (fun c => decide (c < 128)) = true := by decide +kernel
    simpa using List.all_eq_true.mp h2 c h1
  | _ => exact Bool.noConfusion h
theorem isW_str {v : A} (h : isW v = true) : ∃ s, v = .str s := by
  cases v with
  | str s => exact ⟨s, rfl⟩
  | _ => exact Bool.noConfusion h
/-- a drawn concept -/
def ConD (C Rn : List A) (c : A) : Prop := ∃ w x, c = .tup [.str w, x] ∧ isW x = true ∧ ((w = tCon ∧ x ∈ C) ∨ ((w = tOut ∨ w = tIn) ∧ x ∈ Rn))
theorem ConD.con {C Rn : List A} {c : A} (h : ConD C Rn c) : isCon c = true := by
  obtain ⟨w, x, rfl, hx, hw⟩ := h
  simp only [isCon, hx, Bool.and_true]
  rcases hw with ⟨rfl, _⟩ | ⟨rfl | rfl, _⟩ <;> decide +kernel
theorem r_concept {p : Prg} (h : HasDrawAx p) (k : Nat) (M : Mem) (n : Nat) (v : A) (C Rn : List A) (hM : SI M n) (hv : NM v C Rn) : ∃ c M', runF p (k + 3) (Str.ofString "_law_concept") [.ref n, v] M = .ok c M' ∧ ConD C Rn c ∧ SI M' n := by
  obtain ⟨rfl, c1, c2, c3, c4⟩ := hv
  obtain ⟨r, M1, e1, p1, p2, s1⟩ := r_draw h.toHasDraw.d (k + 1) M n 4 hM (by decide) (by decide)
  have z4 : (4 : Nat) ≤ sizeLine := by decide
  have z2 : (2 : Nat) ≤ sizeLine := by decide
  obtain ⟨w, hw, ew⟩ : ∃ w, (w = tCon ∨ w = tOut ∨ w = tIn) ∧ L2.atI [A.str tCon, .str tCon, .str tOut, .str tIn] r = some (.str w) := by
    obtain rfl | rfl | rfl | rfl : r = 0 ∨ r = 1 ∨ r = 2 ∨ r = 3 := by omega
    · exact ⟨_, .inl rfl, at0 _ _⟩
    · exact ⟨_, .inl rfl, at1 _ _ _⟩
    · exact ⟨_, .inr (.inl rfl), at2 _ _ _ _⟩
    · exact ⟨_, .inr (.inr rfl), rfl⟩
  by_cases hq : w = tCon
  · obtain ⟨x, hx, M2, e2, s2⟩ := r_choose h.toHasDraw.d k M1 n C s1 (by omega) (by omega)
    refine ⟨.tup [.str w, x], M2, ?_, ⟨w, x, rfl, List.all_eq_true.mp c1 x hx, .inl ⟨hq, hx⟩⟩, s2⟩
    rw [run_def h.co]
    simp [evSs, evS, evE, evEs, evT, evTs, evO, evI, retOf, startA, cA, isiA, tyA, isiT, outB, outT, outV, outI, truA, one?, ints2?, two?, bltA, blt1, blt2, toIntA, idxA, asSeq, asL, cmpB, ltA, ltI, binA, addA, binN, MP.binI, mulA, repL, isI, setA, isX, isNone?, isNon, seqItems, asD, idxS, recvOk, methA, appA, f_law_concept, e1, ew, finL, z4, z2, ne_str, hq, at0, e2]
  · obtain ⟨x, hx, M2, e2, s2⟩ := r_choose h.toHasDraw.d k M1 n Rn s1 (by omega) (by omega)
    refine ⟨.tup [.str w, x], M2, ?_, ⟨w, x, rfl, List.all_eq_true.mp c2 x hx, .inr ⟨hw.resolve_left hq, hx⟩⟩, s2⟩
    have hq' : ¬ tCon = w := fun e => hq e.symm
    rw [run_def h.co]
    simp [evSs, evS, evE, evEs, evT, evTs, evO, evI, retOf, startA, cA, isiA, tyA, isiT, outB, outT, outV, outI, truA, one?, ints2?, two?, bltA, blt1, blt2, toIntA, idxA, asSeq, asL, cmpB, ltA, ltI, binA, addA, binN, MP.binI, mulA, repL, isI, setA, isX, isNone?, isNon, seqItems, asD, idxS, recvOk, methA, appA, f_law_concept, e1, ew, finL, z4, z2, ne_str, hq, hq', at0, at1, e2]
abbrev tSub : Str := Str.ofString "subclass"
abbrev tDis : Str := Str.ofString "disjoint"
abbrev tSr : Str := Str.ofString "subrole"
abbrev tSi : Str := Str.ofString "subrole_inverse"
abbrev tDr : Str := Str.ofString "disjoint_roles"
abbrev tDi : Str := Str.ofString "disjoint_inverse"
def menuW : List A := [.str tSub, .str tDis, .str tSr, .str tSi, .str tDr, .str tDi, .str tFun]
/-- a drawn axiom -/
def AxD (C Rn menu : List A) (y : A) : Prop :=
  (∃ w c1 c2, y = .tup [.str w, c1, c2] ∧ .str w ∈ menu ∧ (w = tSub ∨ w = tDis) ∧ ConD C Rn c1 ∧ ConD C Rn c2) ∨
    (∃ u x, y = .tup [.str tFun, .tup [.str u, x]] ∧ .str tFun ∈ menu ∧ (u = tOut ∨ u = tIn) ∧ x ∈ Rn ∧ isW x = true) ∨
      ∃ w x1 x2, y = .tup [.str w, x1, x2] ∧ .str w ∈ menu ∧ (w = tSr ∨ w = tSi ∨ w = tDr ∨ w = tDi) ∧ x1 ∈ Rn ∧ x2 ∈ Rn ∧ isW x1 = true ∧ isW x2 = true
theorem r_axiom {p : Prg} (h : HasDrawAx p) (k : Nat) (M : Mem) (n : Nat) (v : A) (C Rn menu : List A) (hM : SI M n) (hv : NM v C Rn) (hm : ∀ m ∈ menu, m ∈ menuW) (m0 : 0 < menu.length) (m1 : menu.length ≤ 1000) :
    ∃ y M', runF p (k + 4) (Str.ofString "_law_axiom") [.ref n, v, .lst menu] M = .ok y M' ∧ AxD C Rn menu y ∧ SI M' n := by
  obtain ⟨x, hx, M1, e1, s1⟩ := r_choose h.toHasDraw.d (k + 1) M n menu hM m0 m1
  have hx' := hm x hx
  obtain ⟨w, rfl, hw⟩ : ∃ w, x = .str w ∧ (w = tSub ∨ w = tDis ∨ w = tSr ∨ w = tSi ∨ w = tDr ∨ w = tDi ∨ w = tFun) := by
    simp only [menuW, List.mem_cons, List.not_mem_nil, or_false] at hx'
    rcases hx' with rfl | rfl | rfl | rfl | rfl | rfl | rfl <;> exact ⟨_, rfl, by simp⟩
  have z2 : (2 : Nat) ≤ sizeLine := by decide
  have z3 : (3 : Nat) ≤ sizeLine := by decide
  by_cases h1 : (w = tSub) ∨ (w = tDis)
  · obtain ⟨d1, M2, e2, n1, s2⟩ := r_concept h k M1 n v C Rn s1 hv
    obtain ⟨d2, M3, e3, n2, s3⟩ := r_concept h k M2 n v C Rn s2 hv
    refine ⟨_, M3, ?_, .inl ⟨w, d1, d2, rfl, hx, h1, n1, n2⟩, s3⟩
    rw [run_def h.ax]
    by_cases h2 : w = tSub
    · simp [evSs, evS, evE, evEs, evT, evTs, evO, evI, retOf, startA, cA, isiA, tyA, isiT, outB, outT, outV, outI, truA, one?, ints2?, two?, bltA, blt1, blt2, toIntA, idxA, asSeq, asL, cmpB, ltA, ltI, binA, addA, binN, MP.binI, mulA, repL, isI, setA, isX, isNone?, isNon, seqItems, asD, idxS, recvOk, methA, appA, f_law_axiom, e1, eq_str, h2, e2, e3, z3]
    · have h3 := h1.resolve_left h2
      have h2' : ¬ tSub = w := fun e => h2 e.symm
      subst h3
      simp [evSs, evS, evE, evEs, evT, evTs, evO, evI, retOf, startA, cA, isiA, tyA, isiT, outB, outT, outV, outI, truA, one?, ints2?, two?, bltA, blt1, blt2, toIntA, idxA, asSeq, asL, cmpB, ltA, ltI, binA, addA, binN, MP.binI, mulA, repL, isI, setA, isX, isNone?, isNon, seqItems, asD, idxS, recvOk, methA, appA, f_law_axiom, e1, eq_str, h2, h2', e2, e3, z3]
  · have a1 : ¬ tSub = w := fun e => h1 (.inl e.symm)
    have a2 : ¬ tDis = w := fun e => h1 (.inr e.symm)
    obtain ⟨rfl, c1, c2, c3, c4⟩ := hv
    by_cases h3 : w = tFun
    · subst h3
      obtain ⟨r, M2, e2, p1, p2, s2⟩ := r_draw h.toHasDraw.d (k + 2) M1 n 2 s1 (by decide) (by decide)
      obtain ⟨y, hy, M3, e3, s3⟩ := r_choose h.toHasDraw.d (k + 1) M2 n Rn s2 (by omega) (by omega)
      obtain ⟨u, hu, eu⟩ : ∃ u, (u = tOut ∨ u = tIn) ∧ L2.atI [A.str tOut, .str tIn] r = some (.str u) := by
        obtain rfl | rfl : r = 0 ∨ r = 1 := by omega
        · exact ⟨_, .inl rfl, at0 _ _⟩
        · exact ⟨_, .inr rfl, at1 _ _ _⟩
      refine ⟨_, M3, ?_, .inr (.inl ⟨u, y, rfl, hx, hu, hy, List.all_eq_true.mp c2 y hy⟩), s3⟩
      rw [run_def h.ax]
      simp [evSs, evS, evE, evEs, evT, evTs, evO, evI, retOf, startA, cA, isiA, tyA, isiT, outB, outT, outV, outI, truA, one?, ints2?, two?, bltA, blt1, blt2, toIntA, idxA, asSeq, asL, cmpB, ltA, ltI, binA, addA, binN, MP.binI, mulA, repL, isI, setA, isX, isNone?, isNon, seqItems, asD, idxS, recvOk, methA, appA, f_law_axiom, e1, eq_str, a1, a2, e2, e3, eu, finL, z2, at1]
    · have a3 : ¬ tFun = w := fun e => h3 e.symm
      obtain ⟨y, hy, M2, e2, s2⟩ := r_choose h.toHasDraw.d (k + 1) M1 n Rn s1 (by omega) (by omega)
      obtain ⟨y', hy', M3, e3, s3⟩ := r_choose h.toHasDraw.d (k + 1) M2 n Rn s2 (by omega) (by omega)
      have hw' : w = tSr ∨ w = tSi ∨ w = tDr ∨ w = tDi := by
        rcases hw with e | e | e | e | e | e | e
        · exact absurd (.inl e) h1
        · exact absurd (.inr e) h1
        · exact .inl e
        · exact .inr (.inl e)
        · exact .inr (.inr (.inl e))
        · exact .inr (.inr (.inr e))
        · exact absurd e h3
      refine ⟨_, M3, ?_, .inr (.inr ⟨w, y, y', rfl, hx, hw', hy, hy', List.all_eq_true.mp c2 y hy, List.all_eq_true.mp c2 y' hy'⟩), s3⟩
      rw [run_def h.ax]
      simp [evSs, evS, evE, evEs, evT, evTs, evO, evI, retOf, startA, cA, isiA, tyA, isiT, outB, outT, outV, outI, truA, one?, ints2?, two?, bltA, blt1, blt2, toIntA, idxA, asSeq, asL, cmpB, ltA, ltI, binA, addA, binN, MP.binI, mulA, repL, isI, setA, isX, isNone?, isNon, seqItems, asD, idxS, recvOk, methA, appA, f_law_axiom, e1, eq_str, a1, a2, a3, e2, e3, z3, at1]
theorem AxD.ax {C Rn menu : List A} {y : A} (h : AxD C Rn menu y) : isAx y = true := by
  have dir : ∀ u x, (u = tOut ∨ u = tIn) → isW x = true → isDir (.tup [.str u, x]) = true := by
    intro u x hu hx
    simp only [isDir, hx, Bool.and_true]
    rcases hu with rfl | rfl <;> decide +kernel
  rcases h with ⟨w, c1, c2, rfl, _, hw, h1, h2⟩ | ⟨u, x, rfl, _, hu, _, hx⟩ | ⟨w, x1, x2, rfl, _, hw, _, _, h1, h2⟩
  · have hca : isCA w = true := by rcases hw with rfl | rfl <;> decide +kernel
    simp only [isAx, hca, if_true, h1.con, h2.con, Bool.and_self]
  · simp only [isAx, dir u x hu hx, Bool.and_true]
    decide +kernel
  · have hca : isCA w = false := by rcases hw with rfl | rfl | rfl | rfl <;> decide +kernel
    have hra : isRA w = true := by rcases hw with rfl | rfl | rfl | rfl <;> decide +kernel
    simp only [isAx, hca, hra, h1, h2, Bool.and_self]
    rfl
/-! texts and tuples alone -/
mutual
def stT : A → Bool
  | .str _ => true
  | .tup xs => stTs xs
  | _ => false
def stTs : List A → Bool
  | [] => true
  | x :: xs => stT x && stTs xs
end
mutual
theorem eqT_st : ∀ (o y : A), stT y = true → eqT o y = true → o = y
  | o, .str s, _, h => by
    cases o <;> simp [eqT] at h
    rw [h]
  | o, .tup ys, h1, h => by
    cases o <;> simp only [eqT] at h <;> first | exact Bool.noConfusion h | skip
    rw [eqTs_st _ ys (by simpa only [stT] using h1) h]
  | _, .non, h1, _ => by simp [stT] at h1
  | _, .bl _, h1, _ => by simp [stT] at h1
  | _, .int _, h1, _ => by simp [stT] at h1
  | _, .lst _, h1, _ => by simp [stT] at h1
  | _, .dct _, h1, _ => by simp [stT] at h1
  | _, .ref _, h1, _ => by simp [stT] at h1
theorem eqTs_st : ∀ (os ys : List A), stTs ys = true → eqTs os ys = true → os = ys
  | [], [], _, _ => rfl
  | o :: os, y :: ys, h1, h => by
    simp only [stTs, Bool.and_eq_true] at h1
    simp only [eqTs, Bool.and_eq_true] at h
    rw [eqT_st o y h1.1 h.1, eqTs_st os ys h1.2 h.2]
  | [], _ :: _, _, h => by simp [eqTs] at h
  | _ :: _, [], _, h => by simp [eqTs] at h
end
theorem eqT_refl : ∀ (n : Nat) (x : A), pl n x = true → eqT x x = true := by
  have lists : ∀ (n : Nat), (∀ x : A, pl n x = true → eqT x x = true) → ∀ xs : List A, xs.all (pl n) = true → eqTs xs xs = true := by
    intro n ih xs
    induction xs with
    | nil => intro _; rfl
    | cons x xs ihx =>
      intro h
      rw [List.all_cons, Bool.and_eq_true] at h
      simp only [eqTs, ih x h.1, ihx h.2, Bool.and_self]
  intro n
  induction n with
  | zero =>
    intro x h
    cases x <;> simp [pl] at h <;> simp [eqT]
  | succ n ih =>
    intro x h
    cases x with
    | tup xs => simpa only [eqT] using lists n ih xs (by simpa only [pl] using h)
    | lst xs => simpa only [eqT] using lists n ih xs (by simpa only [pl] using h)
    | ref _ => simp [pl] at h
    | _ => simp [eqT]
theorem isW_st {x : A} (h : isW x = true) : stT x = true := by
  obtain ⟨s, rfl⟩ := isW_str h
  simp only [stT]
theorem ConD.st {C Rn : List A} {c : A} (h : ConD C Rn c) : stT c = true := by
  obtain ⟨w, x, rfl, hx, _⟩ := h
  simp only [stT, stTs, isW_st hx, Bool.and_self]
theorem AxD.st {C Rn menu : List A} {y : A} (h : AxD C Rn menu y) : stT y = true := by
  rcases h with ⟨w, c1, c2, rfl, _, hw, h1, h2⟩ | ⟨u, x, rfl, _, hu, _, hx⟩ | ⟨w, x1, x2, rfl, _, hw, _, _, h1, h2⟩
  · simp only [stT, stTs, h1.st, h2.st, Bool.and_self]
  · simp only [stT, stTs, isW_st hx, Bool.and_self]
  · simp only [stT, stTs, isW_st h1, isW_st h2, Bool.and_self]
end MP

/-! MP, part U: how long the text of small data is -/
namespace MP
open PySem PySem.Spec PyProof.Rows L2
/-- small data -/
def gd : Nat → A → Bool
  | _, .non => true
  | _, .bl _ => true
  | _, .int i => decide (0 ≤ i) && decide (i < 100)
  | _, .str s => tr (.str s)
  | n + 1, .tup xs => decide (xs.length ≤ 8) && xs.all (gd n)
  | n + 1, .lst xs => decide (xs.length ≤ 8) && xs.all (gd n)
  | _, .dct kvs => kvs.isEmpty
  | _, _ => false
def bd : Nat → Nat
  | 0 => 200
  | n + 1 => 8 * (bd n + 2) + 10
theorem bd_pos : ∀ n, 200 ≤ bd n
  | 0 => Nat.le_refl _
  | n + 1 => by have := bd_pos n; show 200 ≤ 8 * (bd n + 2) + 10; omega
theorem textFrom_le {B : Nat} : ∀ (ts : List Str) (k : Nat) (acc : Str), (∀ t ∈ ts, t.length ≤ B) → (textFrom k acc ts).length ≤ acc.length + ts.length * (B + 2)
  | [], k, acc, _ => by show acc.length ≤ _; simp
  | t :: ts, k, acc, h => by
    have ih := textFrom_le ts (k + 1) (acc ++ (if k > 0 then ", " else "" : String) ++ t) fun u hu => h u (List.mem_cons_of_mem _ hu)
    have h1 := h t List.mem_cons_self
    have e : (acc ++ (if k > 0 then ", " else "" : String) ++ t).length ≤ acc.length + 2 + t.length := by
      rw [strLen_append, strLen_append]
      split
      · show acc.length + 2 + t.length ≤ _; omega
      · show acc.length + 0 + t.length ≤ _; omega
    show (textFrom (k + 1) (acc ++ (if k > 0 then ", " else "" : String) ++ t) ts).length ≤ _
    rw [List.length_cons, Nat.add_mul]
    omega
theorem listText_le {B : Nat} (ts : List Str) (h : ∀ t ∈ ts, t.length ≤ B) : (listText ts).length ≤ ts.length * (B + 2) + 10 := by
  have := textFrom_le ts 0 ("[" : Str) h
  unfold listText
  rw [strLen_append]
  have e1 : ("[" : Str).length = 1 := rfl
  have e2 : ("]" : Str).length = 1 := rfl
  omega
theorem piled_le {B : Nat} : ∀ (ts : List Str), (∀ t ∈ ts, t.length ≤ B) → piled ts ≤ ts.length * (B + 2)
  | [], _ => by simp [piled]
  | t :: ts, h => by
    have ih := piled_le ts fun u hu => h u (List.mem_cons_of_mem _ hu)
    have h1 := h t List.mem_cons_self
    rw [piled_cons, List.length_cons, Nat.add_mul]
    omega
theorem join_le {B : Nat} (ts : List Str) (h : ∀ t ∈ ts, t.length ≤ B) : (Str.join ", " ts).length ≤ ts.length * (B + 2) := by
  by_cases e : ts = []
  · subst e; exact Nat.zero_le _
  · have := join_length_add ts e
    have := piled_le ts h
    omega
theorem tupleText_le {B : Nat} (ts : List Str) (h : ∀ t ∈ ts, t.length ≤ B) : (tupleText ts).length ≤ ts.length * (B + 2) + 10 := by
  have := join_le ts h
  unfold tupleText
  rw [strLen_append, strLen_append]
  have e1 : ("(" : Str).length = 1 := rfl
  split
  · have e2 : (((",)" : String)) : Str).length = 2 := rfl
    omega
  · have e2 : (((")" : String)) : Str).length = 1 := rfl
    omega
theorem int_shown : ∀ m : Nat, m < 100 → (PyData.int (m : Int)).shown.length ≤ 200 := by decide +kernel
structure Gd (n : Nat) (v : A) (d : PyData) : Prop where
  r : v.toR = some d
  s : d.showable = true
  dp : d.depth ≤ n + 1
  l : d.shown.length ≤ bd n
theorem gd_all {n : Nat} (ih : ∀ v, gd n v = true → ∃ d, Gd n v d) : ∀ xs : List A, xs.all (gd n) = true → ∃ ds, A.toRs xs = some ds ∧ PyData.showableAll ds = true ∧ PyData.depthAll ds ≤ n + 1 ∧ (PyData.shownAll ds).length = xs.length ∧ (∀ t ∈ PyData.shownAll ds, t.length ≤ bd n)
  | [], _ => by
    refine ⟨[], rfl, rfl, Nat.zero_le _, rfl, ?_⟩
    · intro t ht
      simp only [PyData.shownAll] at ht
      cases ht
  | x :: xs, h => by
    rw [List.all_cons, Bool.and_eq_true] at h
    obtain ⟨d, g⟩ := ih x h.1
    obtain ⟨ds, h1, h2, h3, h4, h5⟩ := gd_all ih xs h.2
    refine ⟨d :: ds, ?_, ?_, ?_, ?_, ?_⟩
    · simp only [A.toRs, g.r, h1]
    · simp only [PyData.showableAll, g.s, h2, Bool.and_self]
    · simp only [PyData.depthAll]
      have := g.dp
      omega
    · simp only [PyData.shownAll, List.length_cons, h4]
    · intro t ht
      simp only [PyData.shownAll, List.mem_cons] at ht
      rcases ht with rfl | ht
      · exact g.l
      · exact h5 t ht
theorem gd_data : ∀ (n : Nat) (v : A), gd n v = true → ∃ d, Gd n v d := by
  intro n
  have base : ∀ n v, gd n v = true → (∀ xs, v ≠ .tup xs) → (∀ xs, v ≠ .lst xs) → ∃ d, Gd n v d := by
    intro n v h n1 n2
    have b := bd_pos n
    cases v with
    | non => exact ⟨.none, rfl, rfl, Nat.zero_le _, Nat.le_trans (show (PyData.none).shown.length ≤ 200 by decide +kernel) b⟩
    | bl k =>
      refine ⟨.bool k, rfl, rfl, Nat.zero_le _, Nat.le_trans (show (PyData.bool k).shown.length ≤ 200 from ?_) b⟩
      cases k <;> decide +kernel
    | int i =>
      have h' : 0 ≤ i ∧ i < 100 := by
        cases n <;> simpa [gd] using h
      obtain ⟨m, rfl⟩ : ∃ m : Nat, i = (m : Int) := ⟨i.toNat, by omega⟩
      have hm : m < 100 := by omega
      refine ⟨.int m, rfl, ?_, Nat.zero_le _, Nat.le_trans (int_shown m hm) b⟩
      have : ∀ m : Nat, m < 100 → (PyData.int (m : Int)).showable = true := by decide +kernel
      exact this m hm
    | str s =>
      have h' : tr (.str s) = true := by
        cases n <;> simpa [gd] using h
      simp only [tr, Bool.and_eq_true, List.all_eq_true, decide_eq_true_eq] at h'
      refine ⟨.str s, rfl, rfl, Nat.zero_le _, Nat.le_trans (show (PyData.str s).shown.length ≤ 200 from ?_) b⟩
      have := StrLaws.reprText_len s fun c hc => Nat.lt_of_lt_of_le (h'.2 c hc) (by decide)
      have e : (PyData.str s).shown = reprText s := by simp only [PyData.shown]
      rw [e]
      omega
    | tup xs => exact absurd rfl (n1 xs)
    | lst xs => exact absurd rfl (n2 xs)
    | dct kvs =>
      have h' : kvs = [] := by
        cases n <;> (cases kvs <;> first | rfl | exact Bool.noConfusion h)
      subst h'
      refine ⟨.dict [], rfl, rfl, Nat.succ_le_succ (Nat.zero_le _), Nat.le_trans (show (PyData.dict []).shown.length ≤ 200 by decide +kernel) b⟩
    | ref m => cases n <;> exact Bool.noConfusion h
  induction n with
  | zero =>
    intro v h
    refine base 0 v h (fun xs e => ?_) fun xs e => ?_
    · subst e; exact Bool.noConfusion h
    · subst e; exact Bool.noConfusion h
  | succ n ih =>
    intro v h
    cases v with
    | tup xs =>
      simp only [gd, Bool.and_eq_true, decide_eq_true_eq] at h
      obtain ⟨ds, h1, h2, h3, h4, h5⟩ := gd_all ih xs h.2
      refine ⟨.tuple ds, ?_, ?_, ?_, ?_⟩
      · simp only [A.toR, h1, Option.map_some]
      · simpa only [PyData.showable] using h2
      · simp only [PyData.depth]; omega
      · simp only [PyData.shown]
        have := tupleText_le _ h5
        rw [h4] at this
        show _ ≤ 8 * (bd n + 2) + 10
        have := Nat.mul_le_mul_right (bd n + 2) h.1
        omega
    | lst xs =>
      simp only [gd, Bool.and_eq_true, decide_eq_true_eq] at h
      obtain ⟨ds, h1, h2, h3, h4, h5⟩ := gd_all ih xs h.2
      refine ⟨.list ds, ?_, ?_, ?_, ?_⟩
      · simp only [A.toR, h1, Option.map_some]
      · simpa only [PyData.showable] using h2
      · simp only [PyData.depth]; omega
      · simp only [PyData.shown]
        have := listText_le _ h5
        rw [h4] at this
        show _ ≤ 8 * (bd n + 2) + 10
        have := Nat.mul_le_mul_right (bd n + 2) h.1
        omega
    | non => exact base _ _ h (fun _ e => by cases e) fun _ e => by cases e
    | bl _ => exact base _ _ h (fun _ e => by cases e) fun _ e => by cases e
    | int _ => exact base _ _ h (fun _ e => by cases e) fun _ e => by cases e
    | str _ => exact base _ _ h (fun _ e => by cases e) fun _ e => by cases e
    | dct _ => exact base _ _ h (fun _ e => by cases e) fun _ e => by cases e
    | ref _ => exact base _ _ h (fun _ e => by cases e) fun _ e => by cases e
theorem gd_tr : ∀ {n : Nat} {v : A}, gd n v = true → tr v = true := by
  intro n v h
  cases v with
  | str s => cases n <;> simpa only [gd] using h
  | ref m => cases n <;> exact Bool.noConfusion h
  | _ => rfl
theorem gd_tr1 {n : Nat} {v : A} (h : gd n v = true) : tr1 v = true := by
  unfold tr1
  rw [gd_tr h, Bool.true_and]
  cases v with
  | tup xs =>
    cases n with
    | zero => exact Bool.noConfusion h
    | succ n =>
      simp only [gd, Bool.and_eq_true, List.all_eq_true] at h
      simp only [List.all_eq_true]
      exact fun x hx => gd_tr (h.2 x hx)
  | _ => rfl
theorem gd_tr2 {n : Nat} {v : A} (h : gd n v = true) : tr2 v = true := by
  unfold tr2
  rw [gd_tr h, Bool.true_and]
  cases v with
  | tup xs =>
    cases n with
    | zero => exact Bool.noConfusion h
    | succ n =>
      simp only [gd, Bool.and_eq_true, List.all_eq_true] at h
      simp only [List.all_eq_true]
      exact fun x hx => gd_tr1 (h.2 x hx)
  | _ => rfl

/-- repr of a list of small data -/
theorem repr_list {n : Nat} (hn : n ≤ 3) {xs : List A} (hl : xs.length ≤ 100) (h : xs.all (gd n) = true) : ∃ s, ∀ M, reprA (.lst xs) M = .ok (.str s) M := by
  obtain ⟨ds, h1, h2, h3, h4, h5⟩ := gd_all (gd_data n) xs h
  refine ⟨(PyData.list ds).shown, fun M => ?_⟩
  have e : (A.lst xs).toRM M = some (.list ds) := by
    simp only [A.toRM, A.toR, h1, Option.map_some]
  have l : (PyData.list ds).shown.length ≤ sizeLine := by
    simp only [PyData.shown]
    have b : bd n ≤ bd 3 := by
      obtain rfl | rfl | rfl | rfl : n = 0 ∨ n = 1 ∨ n = 2 ∨ n = 3 := by omega
      all_goals decide
    have := listText_le _ h5
    rw [h4] at this
    have q := Nat.mul_le_mul hl (Nat.add_le_add_right b 2)
    have z : 100 * (bd 3 + 2) + 10 ≤ sizeLine := by decide
    omega
  have dp : (PyData.list ds).depth ≤ 60 := by
    simp only [PyData.depth]; omega
  have sh : (PyData.list ds).showable = true := by simpa only [PyData.showable] using h2
  unfold reprA
  rw [e]
  simp only [sh, l, dp, decide_true, Bool.and_self, if_true]
theorem repr_gd {n : Nat} (hn : n ≤ 5) {v : A} (h : gd n v = true) : ∃ s, ∀ M, reprA v M = .ok (.str s) M := by
  obtain ⟨d, g⟩ := gd_data n v h
  refine ⟨d.shown, fun M => ?_⟩
  have e : v.toRM M = some d := by
    rw [← g.r]
    cases v with
    | ref m => cases n <;> exact Bool.noConfusion h
    | _ => rfl
  have b : bd n ≤ bd 5 := by
    obtain rfl | rfl | rfl | rfl | rfl | rfl : n = 0 ∨ n = 1 ∨ n = 2 ∨ n = 3 ∨ n = 4 ∨ n = 5 := by omega
    all_goals decide
  have l : d.shown.length ≤ sizeLine := Nat.le_trans g.l (Nat.le_trans b (by decide))
  have dp : d.depth ≤ 60 := Nat.le_trans g.dp (by omega)
  unfold reprA
  rw [e]
  simp only [g.s, l, dp, decide_true, Bool.and_self, if_true]
theorem gd_pl : ∀ {n : Nat} {v : A}, gd n v = true → pl n v = true
  | n, .non, _ => by cases n <;> rfl
  | n, .bl _, _ => by cases n <;> rfl
  | n, .int _, _ => by cases n <;> rfl
  | n, .str _, _ => by cases n <;> rfl
  | 0, .tup _, h => Bool.noConfusion h
  | 0, .lst _, h => Bool.noConfusion h
  | n + 1, .tup xs, h => by
    simp only [gd, Bool.and_eq_true, List.all_eq_true] at h
    simp only [pl, List.all_eq_true]
    exact fun x hx => gd_pl (h.2 x hx)
  | n + 1, .lst xs, h => by
    simp only [gd, Bool.and_eq_true, List.all_eq_true] at h
    simp only [pl, List.all_eq_true]
    exact fun x hx => gd_pl (h.2 x hx)
  | n, .dct kvs, h => by cases n <;> simpa [gd, pl] using h
  | n, .ref _, h => by cases n <;> exact Bool.noConfusion h
theorem pl_mono : ∀ {n m : Nat} {v : A}, n ≤ m → pl n v = true → pl m v = true
  | n, m, .non, _, _ => by cases m <;> rfl
  | n, m, .bl _, _, _ => by cases m <;> rfl
  | n, m, .int _, _, _ => by cases m <;> rfl
  | n, m, .str _, _, _ => by cases m <;> rfl
  | 0, m, .tup _, _, h => Bool.noConfusion h
  | 0, m, .lst _, _, h => Bool.noConfusion h
  | n + 1, m, .tup xs, l, h => by
    obtain ⟨m, rfl⟩ : ∃ j, m = j + 1 := ⟨m - 1, by omega⟩
    simp only [pl, List.all_eq_true] at h ⊢
    exact fun x hx => pl_mono (by omega) (h x hx)
  | n + 1, m, .lst xs, l, h => by
    obtain ⟨m, rfl⟩ : ∃ j, m = j + 1 := ⟨m - 1, by omega⟩
    simp only [pl, List.all_eq_true] at h ⊢
    exact fun x hx => pl_mono (by omega) (h x hx)
  | n, m, .dct kvs, _, h => by cases n <;> cases m <;> simpa [pl] using h
  | n, m, .ref _, _, h => by cases n <;> exact Bool.noConfusion h
theorem gd_60 {n : Nat} (hn : n ≤ 60) {v : A} (h : gd n v = true) : pl 60 v = true := pl_mono hn (gd_pl h)
/-! drawn things are small -/
theorem isW_gd {n : Nat} {x : A} (h : isW x = true) : gd n x = true := by
  obtain ⟨s, rfl⟩ := isW_str h
  cases n <;> exact isW_tr h
theorem gd_str (n : Nat) (s : Str) : gd n (.str s) = tr (.str s) := by cases n <;> rfl
theorem ConD.gd {C Rn : List A} {c : A} (h : ConD C Rn c) (n : Nat) : MP.gd (n + 1) c = true := by
  obtain ⟨w, x, rfl, hx, hw⟩ := h
  have : MP.gd n (.str w) = true := by
    rw [gd_str]
    rcases hw with ⟨rfl, _⟩ | ⟨rfl | rfl, _⟩ <;> decide +kernel
  simp [MP.gd, this, isW_gd hx]
theorem AxD.gd {C Rn menu : List A} {y : A} (h : AxD C Rn menu y) (n : Nat) : MP.gd (n + 2) y = true := by
  rcases h with ⟨w, c1, c2, rfl, _, hw, h1, h2⟩ | ⟨u, x, rfl, _, hu, _, hx⟩ | ⟨w, x1, x2, rfl, _, hw, _, _, h1, h2⟩
  · have : MP.gd (n + 1) (.str w) = true := by rw [gd_str]; rcases hw with rfl | rfl <;> decide +kernel
    rw [MP.gd]
    simp [this, h1.gd n, h2.gd n]
  · have a : MP.gd (n + 1) (.str tFun) = true := by rw [gd_str]; decide +kernel
    have b : MP.gd n (.str u) = true := by rw [gd_str]; rcases hu with rfl | rfl <;> decide +kernel
    have d : MP.gd (n + 1) (.tup [.str u, x]) = true := by simp [MP.gd, b, isW_gd hx]
    rw [MP.gd]
    simp [a, d]
  · have : MP.gd (n + 1) (.str w) = true := by rw [gd_str]; rcases hw with rfl | rfl | rfl | rfl <;> decide +kernel
    rw [MP.gd]
    simp [this, isW_gd h1, isW_gd h2]
/-! draws leave the other cells alone -/
structure Fr (n : Nat) (M M' : Mem) : Prop where
  len : M'.length = M.length
  at' : ∀ m, m ≠ n → M'[m]? = M[m]?
theorem Fr.refl (n : Nat) (M : Mem) : Fr n M M := ⟨rfl, fun _ _ => rfl⟩
theorem Fr.trans {n : Nat} {M M' M'' : Mem} (h : Fr n M M') (h' : Fr n M' M'') : Fr n M M'' := ⟨h'.len.trans h.len, fun m hm => (h'.at' m hm).trans (h.at' m hm)⟩
theorem fr_set (n : Nat) (M : Mem) (c : Cell) : Fr n M (M.set n c) := ⟨List.length_set, fun m hm => List.getElem?_set_ne (Ne.symm hm)⟩
theorem r_drawF {p : Prg} (h : HasDr p) (k : Nat) (M : Mem) (n : Nat) (c : Int) (hM : SI M n) (h0 : 0 < c) (h1 : c ≤ 1000) : ∃ r M', runF p (k + 1) (Str.ofString "_law_draw") [.ref n, .int c] M = .ok (.int r) M' ∧ 0 ≤ r ∧ r < c ∧ SI M' n ∧ Fr n M M' := by
  obtain ⟨a, b, hM, ha, hb, hb2⟩ := hM
  rw [run_def h.dr]
  have hc : c < 1073741824 := by omega
  have hn : n < M.length := (List.getElem?_eq_some_iff.mp hM).1
  by_cases hp : 0 < a
  · refine ⟨a % c, M.set n (.lst [.int (a / c), .int b]), ?_, Int.emod_nonneg _ (by omega), Int.emod_lt_of_pos _ h0, si_set hM (Int.ediv_nonneg ha (by omega)) hb hb2, fr_set _ _ _⟩
    simp [evSs, evS, evE, evEs, evT, evTs, evO, evI, retOf, startA, cA, isiA, tyA, isiT, outB, outT, outV, outI, truA, one?, ints2?, two?, bltA, blt1, blt2, toIntA, idxA, asSeq, asL, cmpB, ltA, ltI, binA, addA, binN, MP.binI, mulA, repL, isI, setA, isX, isNone?, isNon, seqItems, asD, idxS, recvOk, methA, appA, f_law_draw, hM, at0, at1, hp, h0, hc, ix20]
  · have hm : (0 : Int) < 2147483647 := by decide
    generalize hb' : (b * 69621 + 7) % 2147483647 = b'
    have q1 : 0 ≤ b' := by rw [← hb']; exact Int.emod_nonneg _ (by decide)
    have q2 : b' < 2147483647 := by rw [← hb']; exact Int.emod_lt_of_pos _ hm
    refine ⟨b' * b' % 2147483629 / 32 % c, M.set n (.lst [.int a, .int b']), ?_, Int.emod_nonneg _ (by omega), Int.emod_lt_of_pos _ h0, si_set hM ha q1 q2, fr_set _ _ _⟩
    have hs : ∀ X, (M.set n X)[n]? = some X := fun X => List.getElem?_set_self hn
    simp [evSs, evS, evE, evEs, evT, evTs, evO, evI, retOf, startA, cA, isiA, tyA, isiT, outB, outT, outV, outI, truA, one?, ints2?, two?, bltA, blt1, blt2, toIntA, idxA, asSeq, asL, cmpB, ltA, ltI, binA, addA, binN, MP.binI, mulA, repL, isI, setA, isX, isNone?, isNon, seqItems, asD, idxS, recvOk, methA, appA, f_law_draw, hM, at0, at1, hp, h0, hc, ix21, ok_lit1, hb', hs, ok_sq b' q1 q2]
theorem r_chooseF {p : Prg} (h : HasDr p) (k : Nat) (M : Mem) (n : Nat) (xs : List A) (hM : SI M n) (h0 : 0 < xs.length) (h1 : xs.length ≤ 1000) : ∃ x ∈ xs, ∃ M', runF p (k + 2) (Str.ofString "_law_choose") [.ref n, .lst xs] M = .ok x M' ∧ SI M' n ∧ Fr n M M' := by
  obtain ⟨r, M', e, q1, q2, q3, q4⟩ := r_drawF h k M n (xs.length : Int) hM (by omega) (by omega)
  obtain ⟨x, hx, ex⟩ := atI_mem q1 q2
  refine ⟨x, hx, M', ?_, q3, q4⟩
  rw [run_def h.ch]
  simp [evSs, evS, evE, evEs, evT, evTs, evO, evI, retOf, startA, cA, isiA, tyA, isiT, outB, outT, outV, outI, truA, one?, ints2?, two?, bltA, blt1, blt2, toIntA, idxA, asSeq, asL, cmpB, ltA, ltI, binA, addA, binN, MP.binI, mulA, repL, isI, setA, isX, isNone?, isNon, seqItems, asD, idxS, recvOk, methA, appA, f_law_choose, lenA, e, ex]
theorem Fr.si {n m : Nat} {M M' : Mem} (h : Fr n M M') (hm : m ≠ n) (hs : SI M m) : SI M' m := by
  obtain ⟨a, b, e, r⟩ := hs
  exact ⟨a, b, by rw [h.at' m hm, e], r⟩
theorem forL_cnt {f : A → MP.Loc → Mem → Out (Fl × MP.Loc)} (Iv : Nat → MP.Loc → Mem → Prop) : ∀ (xs : List A) (i : Nat), (∀ x ∈ xs, ∀ j ς M, j < i + xs.length → Iv j ς M → ∃ ς' M', f x ς M = .ok (.nxt, ς') M' ∧ Iv (j + 1) ς' M') → ∀ ς M, Iv i ς M → ∃ ς' M', forL f xs ς M = .ok (.nxt, ς') M' ∧ Iv (i + xs.length) ς' M'
  | [], _, _, ς, M, h => ⟨ς, M, rfl, h⟩
  | x :: xs, i, hs, ς, M, h => by
    obtain ⟨ς1, M1, e1, h1⟩ := hs x List.mem_cons_self i ς M (by rw [List.length_cons]; omega) h
    obtain ⟨ς2, M2, e2, h2⟩ := forL_cnt Iv xs (i + 1) (fun y hy j ς M hj hi => hs y (List.mem_cons_of_mem _ hy) j ς M (by rw [List.length_cons]; omega) hi) ς1 M1 h1
    refine ⟨ς2, M2, by simp only [forL, e1, Out.bind_ok, e2], ?_⟩
    rw [List.length_cons, show i + (xs.length + 1) = i + 1 + xs.length by omega]
    exact h2
theorem range_ok0 (P : Par) (e : E) (ς : MP.Loc) (M M1 : Mem) (m : Nat) (h : evE P e ς M = .ok (.int m) M1) (hb : -(2 ^ 62) ≤ (m : Int) ∧ (m : Int) < 2 ^ 62) : evI P (.range1 e) ς M = .ok (rangeA m) M1 := by
  rw [evI, h, Out.bind_ok]
  exact if_pos hb
theorem range_ok (P : Par) (e : E) (ς : MP.Loc) (M M1 : Mem) (m : Nat) (h : evE P e ς M = .ok (.int m) M1) (hb : m ≤ 1000) : evI P (.range1 e) ς M = .ok (rangeA m) M1 := by
  have h1 : -(2 ^ 62) ≤ (m : Int) ∧ (m : Int) < 2 ^ 62 := by
    have : (0 : Int) ≤ m := Int.natCast_nonneg m
    exact ⟨by omega, by omega⟩
  exact range_ok0 P e ς M M1 m h h1
theorem rangeA_len (m : Nat) : (rangeA m).length = m := by simp [rangeA]
/-- range(r), r drawn -/
theorem range_int (P : Par) (e : E) (ς : MP.Loc) (M M1 : Mem) (r : Int) (h : evE P e ς M = .ok (.int r) M1) (h0 : 0 ≤ r) (hb : r ≤ 1000) : evI P (.range1 e) ς M = .ok (rangeA r) M1 := by
  have h' : evE P e ς M = .ok (.int (r.toNat : Int)) M1 := by rw [h, Int.toNat_of_nonneg h0]
  have := range_ok P e ς M M1 r.toNat h' (by omega)
  rw [Int.toNat_of_nonneg h0] at this
  exact this
theorem rangeI_len {r : Int} (h : 0 ≤ r) : ((rangeA r).length : Int) = r := by
  simp [rangeA]
  omega
/-- range(max(1, min(12, len(script)))) -/
theorem law_range (P : Par) (ς : MP.Loc) (M : Mem) (ns : List Int) (c : Int) (h0 : ς[0]? = some (some (scriptA ns))) (hc : 1 ≤ c ∧ c ≤ 60) : ∃ m : Nat, m ≤ 60 ∧ evI P (.range1 (.blt false .max [(.con (.int 1)), (.blt false .min [(.con (.int c)), (.blt false .len [(.var 0)])])])) ς M = .ok (rangeA m) M := by
  have a2 : evE P (.blt false .min [(.con (.int c)), (.blt false .len [(.var 0)])]) ς M = .ok (.int (if (ns.length : Int) < c then (ns.length : Int) else c)) M := by
    simp [evE, evEs, h0, cA, bltA, one?, blt1, scriptA, lenA, asSeq, asL, outI, ints2?, blt2]
  have e : evE P (.blt false .max [(.con (.int 1)), (.blt false .min [(.con (.int c)), (.blt false .len [(.var 0)])])]) ς M = .ok (.int (if (if (ns.length : Int) < c then (ns.length : Int) else c) > 1 then (if (ns.length : Int) < c then (ns.length : Int) else c) else 1)) M := by
    simp only [evE, evEs, Out.bind_ok, cA] at a2 ⊢
    rw [a2]
    simp only [Out.bind_ok, bltA, one?, ints2?, blt2]
  refine ⟨Int.toNat (if (if (ns.length : Int) < c then (ns.length : Int) else c) > 1 then (if (ns.length : Int) < c then (ns.length : Int) else c) else 1), ?_, ?_⟩
  · split <;> split <;> omega
  · have q : (0 : Int) ≤ (if (if (ns.length : Int) < c then (ns.length : Int) else c) > 1 then (if (ns.length : Int) < c then (ns.length : Int) else c) else 1) := by
      split <;> split <;> omega
    rw [Int.toNat_of_nonneg q]
    refine range_int P _ ς M M _ e q ?_
    split <;> split <;> omega
theorem Fr.get {n m : Nat} {M M' : Mem} (h : Fr n M M') (hm : m ≠ n) : M'[m]? = M[m]? := h.at' m hm
theorem si_app {M : Mem} {n : Nat} (c : Cell) (h : SI M n) : SI (M ++ [c]) n ∧ n < M.length := by
  obtain ⟨a, b, e, r⟩ := h
  have hn : n < M.length := (List.getElem?_eq_some_iff.mp e).1
  exact ⟨⟨a, b, by rw [List.getElem?_append_left hn, e], r⟩, hn⟩
theorem si_other {M : Mem} {n m : Nat} (c : Cell) (hm : m ≠ n) (h : SI M n) : SI (M.set m c) n := by
  obtain ⟨a, b, e, r⟩ := h
  exact ⟨a, b, by rw [List.getElem?_set_ne hm, e], r⟩
theorem evSs_nxt {P : Par} {s : S} {ς ς' : MP.Loc} {M M' : Mem} (h : evS P s ς M = .ok (.nxt, ς') M') (ss : List S) : evSs P (s :: ss) ς M = evSs P ss ς' M' := by
  rw [evSs, h]
  rfl
theorem run_body {p : Prg} {f : Str} {d : Fn} (h : p.T.lookup f = some d) (k : Nat) (xs : List A) (M : Mem) (hl : xs.length = d.ps.length) (ς : MP.Loc) (hs : startA d.ns.length xs = ς) (b : List S) (hb : d.body = b) : runF p (k + 1) f xs M = retOf (evSs ⟨runF p k, p.G, p.wf, p.xt, p.kb, p.gd⟩ b ς M) := by
  rw [run_def h, if_pos hl, hs, hb]
/-- a comprehension, by its turn -/
def lcB (P : Par) (vs : List Nat) (elt : E) (tg : Tg) (ifs : List E) (ς : MP.Loc) (x : A) (M2 : Mem) : Out (Option A) := match bindT tg x (wipeA ς vs) with
  | some ς2 => (evTs P ifs ς2 M2).bind fun b M3 => if b = true then (evE P elt ς2 M3).bind fun y M4 => .ok (some y) M4 else .ok none M3
  | none => .stuck
theorem evE_lc (P : Par) (o : Bool) (vs : List Nat) (elt : E) (tg : Tg) (it : MP.It) (ifs : List E) (ς : MP.Loc) (M : Mem) : evE P (.lc o vs elt tg it ifs) ς M = (evI P it ς M).bind fun xs M1 => (lcL (lcB P vs elt tg ifs ς) xs M1).noExc.bind fun ys M2 => finL o ys M2 := by
  rw [evE]
  rfl
/-- a comprehension with a test, from a list of trees -/
theorem lc_fm (P : Par) (vs : List Nat) (elt : E) (tg : Tg) (it : MP.It) (ifs : List E) (ς : MP.Loc) (M : Mem) (xs : List A) (g : A → Option A) (hit : evI P it ς M = .ok xs M) (hl : xs.length ≤ 1000) (h : ∀ x ∈ xs, lcB P vs elt tg ifs ς x M = .ok (g x) M) :
    evE P (.lc false vs elt tg it ifs) ς M = .ok (.lst (xs.filterMap g)) M := by
  have hs : (xs.filterMap g).length ≤ sizeLine := small (Nat.le_trans (List.length_filterMap_le _ _) hl)
  rw [evE_lc, hit, Out.bind_ok, lcL_eq xs h, Out.noExc_ok, Out.bind_ok, finL, if_pos hs]
  rfl
end MP

/-! MP, part V: words, individuals, facts -/
namespace MP
open PySem
def f_is_value : Fn := ⟨[(Str.ofString "candidate")], [(Str.ofString "candidate")],
  [.ret (.call (Str.ofString "is_string_of") [(.var 0), (.bin false .Add (.glob (Str.ofString "LETTERS")) (.glob (Str.ofString "DIGITS")))])]⟩
def f_is_individual : Fn := ⟨[(Str.ofString "candidate")], [(Str.ofString "candidate")],
  [.ife (.or (.not (.isi (.var 0) .tuple)) (.cmp .NotEq (.blt false .len [(.var 0)]) (.con (.int 2)))) [.ret (.con (.bool false))] [],
   .ret (.and (.call (Str.ofString "is_word") [(.idx (.var 0) (.con (.int 0)))]) (.call (Str.ofString "is_value") [(.idx (.var 0) (.con (.int 1)))]))]⟩
def f_individuals_of : Fn := ⟨[(Str.ofString "fact")], [(Str.ofString "fact")],
  [.ret (.slice false (.var 0) (some (.con (.int 2))) none)]⟩
def f_has_fact_form : Fn := ⟨[(Str.ofString "candidate")], [(Str.ofString "candidate")],
  [.ife (.or (.not (.isi (.var 0) .tuple)) (.or (.not (.chain .LtE .LtE (.con (.int 3)) (.blt false .len [(.var 0)]) (.con (.int 4)))) (.not (.isi (.idx (.var 0) (.con (.int 0))) .str)))) [.ret (.con (.bool false))] [],
   .ret (.and (.call (Str.ofString "is_word") [(.idx (.var 0) (.con (.int 1)))]) (.cmp .In (.tup [(.idx (.var 0) (.con (.int 0))), (.blt false .len [(.var 0)])]) (.tup [(.tup [(.con (.str (Str.ofString "concept"))), (.con (.int 3))]), (.tup [(.con (.str (Str.ofString "role"))), (.con (.int 4))])])))]⟩
def f_is_fact : Fn := ⟨[(Str.ofString "candidate")], [(Str.ofString "candidate"), (Str.ofString "item")],
  [.ret (.and (.call (Str.ofString "has_fact_form") [(.var 0)]) (.blt false .all [(.lc false [1] (.call (Str.ofString "is_individual") [(.var 1)]) (.name 1) (.over (.call (Str.ofString "individuals_of") [(.var 0)])) [])]))]⟩
abbrev digits : Str := Str.ofString "0123456789"
abbrev letdig : Str := letters ++ digits
abbrev isVal : A → Bool := isSo letdig
abbrev tRole : Str := Str.ofString "role"
structure HasW (p : Prg) : Prop where
  so : p.T.lookup (Str.ofString "is_string_of") = some f_is_string_of
  wo : p.T.lookup (Str.ofString "is_word") = some f_is_word
  gM : p.G (Str.ofString "MAX_LENGTH") = some (.int 8)
  gL : p.G (Str.ofString "LETTERS") = some (.str letters)
structure HasInd (p : Prg) : Prop extends HasW p where
  va : p.T.lookup (Str.ofString "is_value") = some f_is_value
  ind : p.T.lookup (Str.ofString "is_individual") = some f_is_individual
  gDi : p.G (Str.ofString "DIGITS") = some (.str digits)
structure HasFact (p : Prg) : Prop extends HasInd p where
  io : p.T.lookup (Str.ofString "individuals_of") = some f_individuals_of
  ff : p.T.lookup (Str.ofString "has_fact_form") = some f_has_fact_form
  fa : p.T.lookup (Str.ofString "is_fact") = some f_is_fact
def isInd : A → Bool
  | .tup [a, b] => isW a && isVal b
  | _ => false
def isFact : A → Bool
  | .tup [.str w, n, a] => decide (tCon = w) && (isW n && isInd a)
  | .tup [.str w, n, a, b] => decide (tRole = w) && (isW n && (isInd a && isInd b))
  | _ => false
section
variable {p : Prg}
theorem r_word (h : HasW p) (k : Nat) (M : Mem) (v : A) (hv : tr v = true) : runF p (k + 2) (Str.ofString "is_word") [v] M = .ok (.bl (isW v)) M := by
  rw [run_def h.wo]
  simp [evSs, evS, evE, evEs, evT, evTs, evO, evI, retOf, startA, cA, isiA, tyA, isiT, outB, outT, outV, outI, truA, one?, ints2?, two?, bltA, blt1, blt2, toIntA, idxA, asSeq, asL, cmpB, ltA, ltI, binA, addA, binN, MP.binI, mulA, repL, isI, setA, isX, isNone?, isNon, seqItems, asD, idxS, recvOk, methA, appA, f_is_word, h.gL, r_is_string_of h.so h.gM k M letters v hv]
theorem r_value (h : HasInd p) (k : Nat) (M : Mem) (v : A) (hv : tr v = true) : runF p (k + 2) (Str.ofString "is_value") [v] M = .ok (.bl (isVal v)) M := by
  rw [run_def h.va]
  have l : letters.length + digits.length ≤ sizeLine := by decide +kernel
  simp [evSs, evS, evE, evEs, evT, evTs, evO, evI, retOf, startA, cA, isiA, tyA, isiT, outB, outT, outV, outI, truA, one?, ints2?, two?, bltA, blt1, blt2, toIntA, idxA, asSeq, asL, cmpB, ltA, ltI, binA, addA, binN, MP.binI, mulA, repL, isI, setA, isX, isNone?, isNon, seqItems, asD, idxS, recvOk, methA, appA, f_is_value, h.gL, h.gDi, l, r_is_string_of h.so h.gM k M letdig v hv]
theorem r_ind (h : HasInd p) (k : Nat) (M : Mem) (v : A) (hv : tr1 v = true) : runF p (k + 3) (Str.ofString "is_individual") [v] M = .ok (.bl (isInd v)) M := by
  rw [run_def h.ind]
  cases v with
  | tup xs =>
    rcases xs with _ | ⟨a, _ | ⟨b, _ | ⟨c, r⟩⟩⟩
    · simp [evSs, evS, evE, evEs, evT, evTs, evO, evI, retOf, startA, cA, isiA, tyA, isiT, outB, outT, outV, outI, truA, one?, ints2?, two?, bltA, blt1, blt2, toIntA, idxA, asSeq, asL, cmpB, ltA, ltI, binA, addA, binN, MP.binI, mulA, repL, isI, setA, isX, isNone?, isNon, seqItems, asD, idxS, recvOk, methA, appA, f_is_individual, isInd, len_tup, ne_int]
    · simp [evSs, evS, evE, evEs, evT, evTs, evO, evI, retOf, startA, cA, isiA, tyA, isiT, outB, outT, outV, outI, truA, one?, ints2?, two?, bltA, blt1, blt2, toIntA, idxA, asSeq, asL, cmpB, ltA, ltI, binA, addA, binN, MP.binI, mulA, repL, isI, setA, isX, isNone?, isNon, seqItems, asD, idxS, recvOk, methA, appA, f_is_individual, isInd, len_tup, ne_int]
    · have hb : tr a = true ∧ tr b = true := by
        simp [tr1] at hv
        exact hv.2
      simp [evSs, evS, evE, evEs, evT, evTs, evO, evI, retOf, startA, cA, isiA, tyA, isiT, outB, outT, outV, outI, truA, one?, ints2?, two?, bltA, blt1, blt2, toIntA, idxA, asSeq, asL, cmpB, ltA, ltI, binA, addA, binN, MP.binI, mulA, repL, isI, setA, isX, isNone?, isNon, seqItems, asD, idxS, recvOk, methA, appA, f_is_individual, isInd, len_tup, ne_int, at0, at1, r_word h.toHasW k M a hb.1]
      cases isW a <;> simp [at0, at1, r_value h k M b hb.2]
    · have h2 : ¬ ((r.length : Int) + 1 + 1 + 1 = 2) := by omega
      simp [evSs, evS, evE, evEs, evT, evTs, evO, evI, retOf, startA, cA, isiA, tyA, isiT, outB, outT, outV, outI, truA, one?, ints2?, two?, bltA, blt1, blt2, toIntA, idxA, asSeq, asL, cmpB, ltA, ltI, binA, addA, binN, MP.binI, mulA, repL, isI, setA, isX, isNone?, isNon, seqItems, asD, idxS, recvOk, methA, appA, f_is_individual, isInd, len_tup, ne_int, h2]
  | ref n => simp [tr1, tr] at hv
  | _ => simp [evSs, evS, evE, evEs, evT, evTs, evO, evI, retOf, startA, cA, isiA, tyA, isiT, outB, outT, outV, outI, truA, one?, ints2?, two?, bltA, blt1, blt2, toIntA, idxA, asSeq, asL, cmpB, ltA, ltI, binA, addA, binN, MP.binI, mulA, repL, isI, setA, isX, isNone?, isNon, seqItems, asD, idxS, recvOk, methA, appA, f_is_individual, isInd]
theorem cut2_3 (a b c : A) : cutA [a, b, c] (some 2) none = [c] := rfl
theorem cut2_4 (a b c d : A) : cutA [a, b, c, d] (some 2) none = [c, d] := rfl
theorem in_form (w : Str) (k : Int) (M : Mem) : inA (.tup [.str w, .int k]) (.tup [.tup [.str tCon, .int 3], .tup [.str tRole, .int 4]]) M = some ((decide (tCon = w) && decide (3 = k)) || (decide (tRole = w) && decide (4 = k))) := by
  rw [inA_tup M (by simp [pl]) (by simp [pl])]
  simp only [List.any_cons, List.any_nil, eqT, eqTs, Bool.and_true, Bool.or_false, beq_str]
  congr 1
theorem r_form3 (h : HasFact p) (k : Nat) (M : Mem) (w : Str) (n a : A) (hn : tr n = true) : runF p (k + 3) (Str.ofString "has_fact_form") [.tup [.str w, n, a]] M = .ok (.bl (isW n && decide (tCon = w))) M := by
  have z : (2 : Nat) ≤ sizeLine := by decide
  have z3 : (3 : Nat) ≤ sizeLine := by decide
  rw [run_def h.ff]
  have q := in_form w 3 M
  simp at q
  simp [evSs, evS, evE, evEs, evT, evTs, evO, evI, retOf, startA, cA, isiA, tyA, isiT, outB, outT, outV, outI, truA, one?, ints2?, two?, bltA, blt1, blt2, toIntA, idxA, asSeq, asL, cmpB, ltA, ltI, binA, addA, binN, MP.binI, mulA, repL, isI, setA, isX, isNone?, isNon, seqItems, asD, idxS, recvOk, methA, appA, f_has_fact_form, len_tup, at0, at1, r_word h.toHasW k M n hn]
  cases isW n <;> simp [len_tup, at0, at1, z, q]
theorem r_form4 (h : HasFact p) (k : Nat) (M : Mem) (w : Str) (n a b : A) (hn : tr n = true) : runF p (k + 3) (Str.ofString "has_fact_form") [.tup [.str w, n, a, b]] M = .ok (.bl (isW n && decide (tRole = w))) M := by
  have z : (2 : Nat) ≤ sizeLine := by decide
  rw [run_def h.ff]
  have q := in_form w 4 M
  simp at q
  simp [evSs, evS, evE, evEs, evT, evTs, evO, evI, retOf, startA, cA, isiA, tyA, isiT, outB, outT, outV, outI, truA, one?, ints2?, two?, bltA, blt1, blt2, toIntA, idxA, asSeq, asL, cmpB, ltA, ltI, binA, addA, binN, MP.binI, mulA, repL, isI, setA, isX, isNone?, isNon, seqItems, asD, idxS, recvOk, methA, appA, f_has_fact_form, len_tup, at0, at1, r_word h.toHasW k M n hn]
  cases isW n <;> simp [len_tup, at0, at1, z, q]
/-- no fact's form -/
theorem r_form0 (h : HasFact p) (k : Nat) (M : Mem) (v : A) (hv : tr1 v = true) (hx : ∀ w n a, v ≠ .tup [.str w, n, a]) (hy : ∀ w n a b, v ≠ .tup [.str w, n, a, b]) : runF p (k + 3) (Str.ofString "has_fact_form") [v] M = .ok (.bl false) M := by
  rw [run_def h.ff]
  cases v with
  | tup xs =>
    rcases xs with _ | ⟨a, _ | ⟨b, _ | ⟨c, _ | ⟨d, _ | ⟨e, r⟩⟩⟩⟩⟩
    · simp [evSs, evS, evE, evEs, evT, evTs, evO, evI, retOf, startA, cA, isiA, tyA, isiT, outB, outT, outV, outI, truA, one?, ints2?, two?, bltA, blt1, blt2, toIntA, idxA, asSeq, asL, cmpB, ltA, ltI, binA, addA, binN, MP.binI, mulA, repL, isI, setA, isX, isNone?, isNon, seqItems, asD, idxS, recvOk, methA, appA, f_has_fact_form, len_tup]
    · simp [evSs, evS, evE, evEs, evT, evTs, evO, evI, retOf, startA, cA, isiA, tyA, isiT, outB, outT, outV, outI, truA, one?, ints2?, two?, bltA, blt1, blt2, toIntA, idxA, asSeq, asL, cmpB, ltA, ltI, binA, addA, binN, MP.binI, mulA, repL, isI, setA, isX, isNone?, isNon, seqItems, asD, idxS, recvOk, methA, appA, f_has_fact_form, len_tup]
    · simp [evSs, evS, evE, evEs, evT, evTs, evO, evI, retOf, startA, cA, isiA, tyA, isiT, outB, outT, outV, outI, truA, one?, ints2?, two?, bltA, blt1, blt2, toIntA, idxA, asSeq, asL, cmpB, ltA, ltI, binA, addA, binN, MP.binI, mulA, repL, isI, setA, isX, isNone?, isNon, seqItems, asD, idxS, recvOk, methA, appA, f_has_fact_form, len_tup]
    · cases a with
      | str w => exact absurd rfl (hx w b c)
      | ref n => simp [tr1, tr] at hv
      | _ => simp [evSs, evS, evE, evEs, evT, evTs, evO, evI, retOf, startA, cA, isiA, tyA, isiT, outB, outT, outV, outI, truA, one?, ints2?, two?, bltA, blt1, blt2, toIntA, idxA, asSeq, asL, cmpB, ltA, ltI, binA, addA, binN, MP.binI, mulA, repL, isI, setA, isX, isNone?, isNon, seqItems, asD, idxS, recvOk, methA, appA, f_has_fact_form, len_tup, at0]
    · cases a with
      | str w => exact absurd rfl (hy w b c d)
      | ref n => simp [tr1, tr] at hv
      | _ => simp [evSs, evS, evE, evEs, evT, evTs, evO, evI, retOf, startA, cA, isiA, tyA, isiT, outB, outT, outV, outI, truA, one?, ints2?, two?, bltA, blt1, blt2, toIntA, idxA, asSeq, asL, cmpB, ltA, ltI, binA, addA, binN, MP.binI, mulA, repL, isI, setA, isX, isNone?, isNon, seqItems, asD, idxS, recvOk, methA, appA, f_has_fact_form, len_tup, at0]
    · have h3 : ¬ ((r.length : Int) + 1 + 1 + 1 + 1 + 1 ≤ 4) := by omega
      have h2 : ((3 : Int) ≤ (r.length : Int) + 1 + 1 + 1 + 1 + 1) := by omega
      simp [evSs, evS, evE, evEs, evT, evTs, evO, evI, retOf, startA, cA, isiA, tyA, isiT, outB, outT, outV, outI, truA, one?, ints2?, two?, bltA, blt1, blt2, toIntA, idxA, asSeq, asL, cmpB, ltA, ltI, binA, addA, binN, MP.binI, mulA, repL, isI, setA, isX, isNone?, isNon, seqItems, asD, idxS, recvOk, methA, appA, f_has_fact_form, len_tup, h2, h3]
  | ref n => simp [tr1, tr] at hv
  | _ => simp [evSs, evS, evE, evEs, evT, evTs, evO, evI, retOf, startA, cA, isiA, tyA, isiT, outB, outT, outV, outI, truA, one?, ints2?, two?, bltA, blt1, blt2, toIntA, idxA, asSeq, asL, cmpB, ltA, ltI, binA, addA, binN, MP.binI, mulA, repL, isI, setA, isX, isNone?, isNon, seqItems, asD, idxS, recvOk, methA, appA, f_has_fact_form]
theorem r_io (h : HasFact p) (k : Nat) (M : Mem) (xs : List A) : runF p (k + 1) (Str.ofString "individuals_of") [.tup xs] M = .ok (.tup (cutA xs (some 2) none)) M := by
  rw [run_def h.io]
  simp [evSs, evS, evE, evEs, evT, evTs, evO, evI, retOf, startA, cA, isiA, tyA, isiT, outB, outT, outV, outI, truA, one?, ints2?, two?, bltA, blt1, blt2, toIntA, idxA, asSeq, asL, cmpB, ltA, ltI, binA, addA, binN, MP.binI, mulA, repL, isI, setA, isX, isNone?, isNon, seqItems, asD, idxS, recvOk, methA, appA, f_individuals_of, sliceA]
theorem r_fact (h : HasFact p) (k : Nat) (M : Mem) (v : A) (hv : tr2 v = true) : runF p (k + 4) (Str.ofString "is_fact") [v] M = .ok (.bl (isFact v)) M := by
  have z1 : (1 : Nat) ≤ sizeLine := by decide
  have z2 : (2 : Nat) ≤ sizeLine := by decide
  rw [run_def h.fa]
  by_cases c3 : ∃ w n a, v = .tup [.str w, n, a]
  · obtain ⟨w, n, a, rfl⟩ := c3
    have hn : tr1 n = true ∧ tr1 a = true := by
      simp [tr2] at hv
      exact hv.2.2
    by_cases hw : tCon = w
    · simp [evSs, evS, evE, evEs, evT, evTs, evO, evI, retOf, startA, cA, isiA, tyA, isiT, outB, outT, outV, outI, truA, one?, ints2?, two?, bltA, blt1, blt2, toIntA, idxA, asSeq, asL, cmpB, ltA, ltI, binA, addA, binN, MP.binI, mulA, repL, isI, setA, isX, isNone?, isNon, seqItems, asD, idxS, recvOk, methA, appA, f_is_fact, r_form3 h k M w n a (tr_of1 hn.1), hw, isFact]
      cases isW n with
      | true => simp [r_io h (k + 2) M, cut2_3, itemsOf, lcL, bindT, wipeA, r_ind h.toHasInd k M a hn.2, finL, z1, allBl]
      | false => simp
    · simp [evSs, evS, evE, evEs, evT, evTs, evO, evI, retOf, startA, cA, isiA, tyA, isiT, outB, outT, outV, outI, truA, one?, ints2?, two?, bltA, blt1, blt2, toIntA, idxA, asSeq, asL, cmpB, ltA, ltI, binA, addA, binN, MP.binI, mulA, repL, isI, setA, isX, isNone?, isNon, seqItems, asD, idxS, recvOk, methA, appA, f_is_fact, r_form3 h k M w n a (tr_of1 hn.1), hw, isFact]
  · by_cases c4 : ∃ w n a b, v = .tup [.str w, n, a, b]
    · obtain ⟨w, n, a, b, rfl⟩ := c4
      have hn : tr1 n = true ∧ tr1 a = true ∧ tr1 b = true := by
        simp [tr2] at hv
        exact hv.2.2
      by_cases hw : tRole = w
      · simp [evSs, evS, evE, evEs, evT, evTs, evO, evI, retOf, startA, cA, isiA, tyA, isiT, outB, outT, outV, outI, truA, one?, ints2?, two?, bltA, blt1, blt2, toIntA, idxA, asSeq, asL, cmpB, ltA, ltI, binA, addA, binN, MP.binI, mulA, repL, isI, setA, isX, isNone?, isNon, seqItems, asD, idxS, recvOk, methA, appA, f_is_fact, r_form4 h k M w n a b (tr_of1 hn.1), hw, isFact]
        cases isW n with
        | true => simp [r_io h (k + 2) M, cut2_4, itemsOf, lcL, bindT, wipeA, r_ind h.toHasInd k M a hn.2.1, r_ind h.toHasInd k M b hn.2.2, finL, z2, allBl]
        | false => simp
      · simp [evSs, evS, evE, evEs, evT, evTs, evO, evI, retOf, startA, cA, isiA, tyA, isiT, outB, outT, outV, outI, truA, one?, ints2?, two?, bltA, blt1, blt2, toIntA, idxA, asSeq, asL, cmpB, ltA, ltI, binA, addA, binN, MP.binI, mulA, repL, isI, setA, isX, isNone?, isNon, seqItems, asD, idxS, recvOk, methA, appA, f_is_fact, r_form4 h k M w n a b (tr_of1 hn.1), hw, isFact]
    · have e : isFact v = false := by
        unfold isFact
        split
        · exact absurd ⟨_, _, _, rfl⟩ c3
        · exact absurd ⟨_, _, _, _, rfl⟩ c4
        · rfl
      have hv1 : tr1 v = true := by
        cases v with
        | tup xs =>
          simp only [tr2, Bool.and_eq_true, List.all_eq_true] at hv
          simp only [tr1, Bool.and_eq_true, List.all_eq_true]
          exact ⟨hv.1, fun x hx => tr_of1 (hv.2 x hx)⟩
        | _ => exact hv
      simp [evSs, evS, evE, evEs, evT, evTs, evO, evI, retOf, startA, cA, isiA, tyA, isiT, outB, outT, outV, outI, truA, one?, ints2?, two?, bltA, blt1, blt2, toIntA, idxA, asSeq, asL, cmpB, ltA, ltI, binA, addA, binN, MP.binI, mulA, repL, isI, setA, isX, isNone?, isNon, seqItems, asD, idxS, recvOk, methA, appA, f_is_fact, r_form0 h k M v hv1 (fun w n a e => c3 ⟨w, n, a, e⟩) (fun w n a b e => c4 ⟨w, n, a, b, e⟩), e]
end
/-! facts as keys -/
theorem isVal_str {v : A} (h : isVal v = true) : ∃ s, v = .str s := by
  cases v with
  | str s => exact ⟨s, rfl⟩
  | _ => exact Bool.noConfusion h
theorem ind_shape {x : A} (h : isInd x = true) : ∃ a b, x = .tup [.str a, .str b] := by
  unfold isInd at h
  split at h
  · simp only [Bool.and_eq_true] at h
    obtain ⟨a, rfl⟩ := isW_str h.1
    obtain ⟨b, rfl⟩ := isVal_str h.2
    exact ⟨a, b, rfl⟩
  · exact Bool.noConfusion h
theorem fact_shape {x : A} (h : isFact x = true) : (∃ w n a b, x = .tup [.str w, .str n, .tup [.str a, .str b]]) ∨ ∃ w n a b c d, x = .tup [.str w, .str n, .tup [.str a, .str b], .tup [.str c, .str d]] := by
  unfold isFact at h
  split at h
  · simp only [Bool.and_eq_true] at h
    obtain ⟨n, rfl⟩ := isW_str h.2.1
    obtain ⟨a, b, rfl⟩ := ind_shape h.2.2
    exact .inl ⟨_, _, _, _, rfl⟩
  · simp only [Bool.and_eq_true] at h
    obtain ⟨n, rfl⟩ := isW_str h.2.1
    obtain ⟨a, b, rfl⟩ := ind_shape h.2.2.1
    obtain ⟨c, d, rfl⟩ := ind_shape h.2.2.2
    exact .inr ⟨_, _, _, _, _, _, rfl⟩
  · exact Bool.noConfusion h
theorem fact_st {x : A} (h : isFact x = true) : stT x = true := by
  rcases fact_shape h with ⟨w, n, a, b, rfl⟩ | ⟨w, n, a, b, c, d, rfl⟩ <;> simp [stT, stTs]
theorem fact_key {x : A} (h : isFact x = true) : ∃ k, tkey x = some k ∧ toNK x = some k := by
  rcases fact_shape h with ⟨w, n, a, b, rfl⟩ | ⟨w, n, a, b, c, d, rfl⟩
  · exact ⟨_, rfl, rfl⟩
  · exact ⟨_, rfl, rfl⟩
mutual
theorem nk_inj : ∀ (x y : A) (k : NestedKey), stT x = true → stT y = true → toNK x = some k → toNK y = some k → x = y
  | .str s, y, k, h1, h2, e1, e2 => by
    simp only [toNK, Option.some.injEq] at e1
    subst e1
    cases y <;> simp [toNK, stT] at e2 h2
    · rw [e2]
  | .tup xs, y, k, h1, h2, e1, e2 => by
    simp only [toNK, Option.map_eq_some_iff] at e1
    obtain ⟨ks, e1, rfl⟩ := e1
    cases y with
    | tup ys =>
      simp only [toNK, Option.map_eq_some_iff] at e2
      obtain ⟨ks', e2, q⟩ := e2
      cases q
      rw [nks_inj xs ys ks (by simpa only [stT] using h1) (by simpa only [stT] using h2) e1 e2]
    | _ => simp [toNK] at e2
  | .non, _, _, h, _, _, _ => by simp [stT] at h
  | .bl _, _, _, h, _, _, _ => by simp [stT] at h
  | .int _, _, _, h, _, _, _ => by simp [stT] at h
  | .lst _, _, _, h, _, _, _ => by simp [stT] at h
  | .dct _, _, _, h, _, _, _ => by simp [stT] at h
  | .ref _, _, _, h, _, _, _ => by simp [stT] at h
theorem nks_inj : ∀ (xs ys : List A) (ks : List NestedKey), stTs xs = true → stTs ys = true → toNKs xs = some ks → toNKs ys = some ks → xs = ys
  | [], ys, ks, _, _, e1, e2 => by
    cases e1
    cases ys with
    | nil => rfl
    | cons y ys =>
      simp only [toNKs] at e2
      split at e2 <;> cases e2
  | x :: xs, ys, ks, h1, h2, e1, e2 => by
    simp only [toNKs] at e1
    split at e1
    · rename_i d ds f1 f2
      cases e1
      cases ys with
      | nil => cases e2
      | cons y ys =>
        simp only [toNKs] at e2
        split at e2
        · rename_i d' ds' g1 g2
          cases e2
          simp only [stTs, Bool.and_eq_true] at h1 h2
          rw [nk_inj x y d h1.1 h2.1 f1 g1, nks_inj xs ys ds h1.2 h2.2 f2 g2]
        · cases e2
    · cases e1
end
theorem fact_has {x : A} {k : NestedKey} (h : isFact x = true) (hk : toNK x = some k) (hp : pl 60 x = true) : ∀ pre : List A, pre.all isFact = true → hasKey (pre.map fun y => (y, .bl true)) k = pre.any fun y => eqT y x
  | [], _ => rfl
  | y :: pre, hq => by
    rw [List.all_cons, Bool.and_eq_true] at hq
    have ih := fact_has h hk hp pre hq.2
    obtain ⟨ky, _, hky⟩ := fact_key hq.1
    have e : decide (toNK y = some k) = eqT y x := by
      by_cases hyx : y = x
      · subst hyx
        rw [hk, eqT_refl 60 y hp]
        simp
      · have n1 : ¬ toNK y = some k := fun z => hyx (nk_inj y x k (fact_st hq.1) (fact_st h) z hk)
        have n2 : eqT y x = false := by
          cases z : eqT y x with
          | false => rfl
          | true => exact absurd (eqT_st y x (fact_st h) z) hyx
        rw [n2, decide_eq_false n1]
    unfold hasKey at ih ⊢
    rw [List.map_cons, List.any_cons, List.any_cons, ih]
    simp only
    rw [e]
end MP

/-! MP, part W: drawn ontologies -/
namespace MP
open PySem PySem.Spec PyProof.Rows L2
/-- the cells that were there stand as they stood -/
structure Xt (M M' : Mem) : Prop where
  len : M.length ≤ M'.length
  at' : ∀ m, m < M.length → M'[m]? = M[m]?
theorem Xt.refl (M : Mem) : Xt M M := ⟨Nat.le_refl _, fun _ _ => rfl⟩
theorem Xt.trans {M M' M'' : Mem} (h : Xt M M') (h' : Xt M' M'') : Xt M M'' := ⟨Nat.le_trans h.len h'.len, fun m hm => (h'.at' m (Nat.lt_of_lt_of_le hm h.len)).trans (h.at' m hm)⟩
theorem Xt.app (M : Mem) (c : Cell) : Xt M (M ++ [c]) := ⟨by simp, fun m hm => List.getElem?_append_left hm⟩
theorem Xt.set {M M' : Mem} (h : Xt M M') (q : Nat) (hq : M.length ≤ q) (c : Cell) : Xt M (M'.set q c) := ⟨by rw [List.length_set]; exact h.len, fun m hm => by rw [List.getElem?_set_ne (by omega), h.at' m hm]⟩
theorem Xt.get {M M' : Mem} (h : Xt M M') {m : Nat} {c : Cell} (e : M[m]? = some c) : M'[m]? = some c := by rw [h.at' m (List.getElem?_eq_some_iff.mp e).1, e]
theorem Xt.si {M M' : Mem} {n : Nat} (h : Xt M M') (s : SI M n) : SI M' n := by
  obtain ⟨a, b, e, r⟩ := s
  exact ⟨a, b, h.get e, r⟩
/-- .. but for n's -/
structure FrX (n : Nat) (M M' : Mem) : Prop where
  len : M.length ≤ M'.length
  at' : ∀ m, m < M.length → m ≠ n → M'[m]? = M[m]?
theorem FrX.refl (n : Nat) (M : Mem) : FrX n M M := ⟨Nat.le_refl _, fun _ _ _ => rfl⟩
theorem FrX.trans {n : Nat} {M M' M'' : Mem} (h : FrX n M M') (h' : FrX n M' M'') : FrX n M M'' := ⟨Nat.le_trans h.len h'.len, fun m hm hn => (h'.at' m (Nat.lt_of_lt_of_le hm h.len) hn).trans (h.at' m hm hn)⟩
theorem Fr.x {n : Nat} {M M' : Mem} (h : Fr n M M') : FrX n M M' := ⟨Nat.le_of_eq h.len.symm, fun m _ hn => h.at' m hn⟩
theorem Xt.x {M M' : Mem} (h : Xt M M') (n : Nat) : FrX n M M' := ⟨h.len, fun m hm _ => h.at' m hm⟩
theorem FrX.get {n : Nat} {M M' : Mem} (h : FrX n M M') {m : Nat} {c : Cell} (hn : m ≠ n) (e : M[m]? = some c) : M'[m]? = some c := by rw [h.at' m (List.getElem?_eq_some_iff.mp e).1 hn, e]
theorem FrX.set {n : Nat} {M M' : Mem} (h : FrX n M M') (q : Nat) (hq : M.length ≤ q) (c : Cell) : FrX n M (M'.set q c) := ⟨by rw [List.length_set]; exact h.len, fun m hm hn => by rw [List.getElem?_set_ne (by omega), h.at' m hm hn]⟩
theorem inA_ref {a : A} {ys : List A} {M : Mem} {q : Nat} (hq : M[q]? = some (.lst ys)) (h1 : pl 60 a = true) (h2 : ys.all (pl 60) = true) : inA a (.ref q) M = some (ys.any fun y => eqT y a) := by
  simp only [inA, asD, hq, inL, asSeq, asL, inG, h1, h2, Bool.and_self, if_true]
theorem eq_nil {ys : List A} (M : Mem) (h : ys.all (pl 59) = true) : eqX (.lst ys) (.lst []) M = some ys.isEmpty := by
  rw [eq_tree M (by simpa only [pl] using h) rfl]
  cases ys <;> simp [eqT, eqTs]
theorem r_conceptF {p : Prg} (h : HasDrawAx p) (k : Nat) (M : Mem) (n : Nat) (v : A) (C Rn : List A) (hM : SI M n) (hv : NM v C Rn) : ∃ c M', runF p (k + 3) (Str.ofString "_law_concept") [.ref n, v] M = .ok c M' ∧ ConD C Rn c ∧ SI M' n ∧ Fr n M M' := by
  obtain ⟨rfl, c1, c2, c3, c4⟩ := hv
  obtain ⟨r, M1, e1, p1, p2, s1, f1⟩ := r_drawF h.toHasDraw.d (k + 1) M n 4 hM (by decide) (by decide)
  have z4 : (4 : Nat) ≤ sizeLine := by decide
  have z2 : (2 : Nat) ≤ sizeLine := by decide
  obtain ⟨w, hw, ew⟩ : ∃ w, (w = tCon ∨ w = tOut ∨ w = tIn) ∧ L2.atI [A.str tCon, .str tCon, .str tOut, .str tIn] r = some (.str w) := by
    obtain rfl | rfl | rfl | rfl : r = 0 ∨ r = 1 ∨ r = 2 ∨ r = 3 := by omega
    · exact ⟨_, .inl rfl, at0 _ _⟩
    · exact ⟨_, .inl rfl, at1 _ _ _⟩
    · exact ⟨_, .inr (.inl rfl), at2 _ _ _ _⟩
    · exact ⟨_, .inr (.inr rfl), rfl⟩
  by_cases hq : w = tCon
  · obtain ⟨x, hx, M2, e2, s2, f2⟩ := r_chooseF h.toHasDraw.d k M1 n C s1 (by omega) (by omega)
    refine ⟨.tup [.str w, x], M2, ?_, ⟨w, x, rfl, List.all_eq_true.mp c1 x hx, .inl ⟨hq, hx⟩⟩, s2, f1.trans f2⟩
    rw [run_def h.co]
    simp [evSs, evS, evE, evEs, evT, evTs, evO, evI, retOf, startA, cA, isiA, tyA, isiT, outB, outT, outV, outI, truA, one?, ints2?, two?, bltA, blt1, blt2, toIntA, idxA, asSeq, asL, cmpB, ltA, ltI, binA, addA, binN, MP.binI, mulA, repL, isI, setA, isX, isNone?, isNon, seqItems, asD, idxS, recvOk, methA, appA, f_law_concept, e1, ew, finL, z4, z2, ne_str, hq, at0, e2]
  · obtain ⟨x, hx, M2, e2, s2, f2⟩ := r_chooseF h.toHasDraw.d k M1 n Rn s1 (by omega) (by omega)
    refine ⟨.tup [.str w, x], M2, ?_, ⟨w, x, rfl, List.all_eq_true.mp c2 x hx, .inr ⟨hw.resolve_left hq, hx⟩⟩, s2, f1.trans f2⟩
    have hq' : ¬ tCon = w := fun e => hq e.symm
    rw [run_def h.co]
    simp [evSs, evS, evE, evEs, evT, evTs, evO, evI, retOf, startA, cA, isiA, tyA, isiT, outB, outT, outV, outI, truA, one?, ints2?, two?, bltA, blt1, blt2, toIntA, idxA, asSeq, asL, cmpB, ltA, ltI, binA, addA, binN, MP.binI, mulA, repL, isI, setA, isX, isNone?, isNon, seqItems, asD, idxS, recvOk, methA, appA, f_law_concept, e1, ew, finL, z4, z2, ne_str, hq, hq', at0, at1, e2]
theorem r_axiomF {p : Prg} (h : HasDrawAx p) (k : Nat) (M : Mem) (n : Nat) (v : A) (C Rn menu : List A) (hM : SI M n) (hv : NM v C Rn) (hm : ∀ m ∈ menu, m ∈ menuW) (m0 : 0 < menu.length) (m1 : menu.length ≤ 1000) :
    ∃ y M', runF p (k + 4) (Str.ofString "_law_axiom") [.ref n, v, .lst menu] M = .ok y M' ∧ AxD C Rn menu y ∧ SI M' n ∧ Fr n M M' := by
  obtain ⟨x, hx, M1, e1, s1, f1⟩ := r_chooseF h.toHasDraw.d (k + 1) M n menu hM m0 m1
  have hx' := hm x hx
  obtain ⟨w, rfl, hw⟩ : ∃ w, x = .str w ∧ (w = tSub ∨ w = tDis ∨ w = tSr ∨ w = tSi ∨ w = tDr ∨ w = tDi ∨ w = tFun) := by
    simp only [menuW, List.mem_cons, List.not_mem_nil, or_false] at hx'
    rcases hx' with rfl | rfl | rfl | rfl | rfl | rfl | rfl <;> exact ⟨_, rfl, by simp⟩
  have z2 : (2 : Nat) ≤ sizeLine := by decide
  have z3 : (3 : Nat) ≤ sizeLine := by decide
  by_cases h1 : (w = tSub) ∨ (w = tDis)
  · obtain ⟨d1, M2, e2, n1, s2, f2⟩ := r_conceptF h k M1 n v C Rn s1 hv
    obtain ⟨d2, M3, e3, n2, s3, f3⟩ := r_conceptF h k M2 n v C Rn s2 hv
    refine ⟨_, M3, ?_, .inl ⟨w, d1, d2, rfl, hx, h1, n1, n2⟩, s3, (f1.trans f2).trans f3⟩
    rw [run_def h.ax]
    by_cases h2 : w = tSub
    · simp [evSs, evS, evE, evEs, evT, evTs, evO, evI, retOf, startA, cA, isiA, tyA, isiT, outB, outT, outV, outI, truA, one?, ints2?, two?, bltA, blt1, blt2, toIntA, idxA, asSeq, asL, cmpB, ltA, ltI, binA, addA, binN, MP.binI, mulA, repL, isI, setA, isX, isNone?, isNon, seqItems, asD, idxS, recvOk, methA, appA, f_law_axiom, e1, eq_str, h2, e2, e3, z3]
    · have h3 := h1.resolve_left h2
      have h2' : ¬ tSub = w := fun e => h2 e.symm
      subst h3
      simp [evSs, evS, evE, evEs, evT, evTs, evO, evI, retOf, startA, cA, isiA, tyA, isiT, outB, outT, outV, outI, truA, one?, ints2?, two?, bltA, blt1, blt2, toIntA, idxA, asSeq, asL, cmpB, ltA, ltI, binA, addA, binN, MP.binI, mulA, repL, isI, setA, isX, isNone?, isNon, seqItems, asD, idxS, recvOk, methA, appA, f_law_axiom, e1, eq_str, h2, h2', e2, e3, z3]
  · have a1 : ¬ tSub = w := fun e => h1 (.inl e.symm)
    have a2 : ¬ tDis = w := fun e => h1 (.inr e.symm)
    obtain ⟨rfl, c1, c2, c3, c4⟩ := hv
    by_cases h3 : w = tFun
    · subst h3
      obtain ⟨r, M2, e2, p1, p2, s2, f2⟩ := r_drawF h.toHasDraw.d (k + 2) M1 n 2 s1 (by decide) (by decide)
      obtain ⟨y, hy, M3, e3, s3, f3⟩ := r_chooseF h.toHasDraw.d (k + 1) M2 n Rn s2 (by omega) (by omega)
      obtain ⟨u, hu, eu⟩ : ∃ u, (u = tOut ∨ u = tIn) ∧ L2.atI [A.str tOut, .str tIn] r = some (.str u) := by
        obtain rfl | rfl : r = 0 ∨ r = 1 := by omega
        · exact ⟨_, .inl rfl, at0 _ _⟩
        · exact ⟨_, .inr rfl, at1 _ _ _⟩
      refine ⟨_, M3, ?_, .inr (.inl ⟨u, y, rfl, hx, hu, hy, List.all_eq_true.mp c2 y hy⟩), s3, (f1.trans f2).trans f3⟩
      rw [run_def h.ax]
      simp [evSs, evS, evE, evEs, evT, evTs, evO, evI, retOf, startA, cA, isiA, tyA, isiT, outB, outT, outV, outI, truA, one?, ints2?, two?, bltA, blt1, blt2, toIntA, idxA, asSeq, asL, cmpB, ltA, ltI, binA, addA, binN, MP.binI, mulA, repL, isI, setA, isX, isNone?, isNon, seqItems, asD, idxS, recvOk, methA, appA, f_law_axiom, e1, eq_str, a1, a2, e2, e3, eu, finL, z2, at1]
    · have a3 : ¬ tFun = w := fun e => h3 e.symm
      obtain ⟨y, hy, M2, e2, s2, f2⟩ := r_chooseF h.toHasDraw.d (k + 1) M1 n Rn s1 (by omega) (by omega)
      obtain ⟨y', hy', M3, e3, s3, f3⟩ := r_chooseF h.toHasDraw.d (k + 1) M2 n Rn s2 (by omega) (by omega)
      have hw' : w = tSr ∨ w = tSi ∨ w = tDr ∨ w = tDi := by
        rcases hw with e | e | e | e | e | e | e
        · exact absurd (.inl e) h1
        · exact absurd (.inr e) h1
        · exact .inl e
        · exact .inr (.inl e)
        · exact .inr (.inr (.inl e))
        · exact .inr (.inr (.inr e))
        · exact absurd e h3
      refine ⟨_, M3, ?_, .inr (.inr ⟨w, y, y', rfl, hx, hw', hy, hy', List.all_eq_true.mp c2 y hy, List.all_eq_true.mp c2 y' hy'⟩), s3, (f1.trans f2).trans f3⟩
      rw [run_def h.ax]
      simp [evSs, evS, evE, evEs, evT, evTs, evO, evI, retOf, startA, cA, isiA, tyA, isiT, outB, outT, outV, outI, truA, one?, ints2?, two?, bltA, blt1, blt2, toIntA, idxA, asSeq, asL, cmpB, ltA, ltI, binA, addA, binN, MP.binI, mulA, repL, isI, setA, isX, isNone?, isNon, seqItems, asD, idxS, recvOk, methA, appA, f_law_axiom, e1, eq_str, a1, a2, a3, e2, e3, z3, at1]
def f_law_allowed : Fn := ⟨[(Str.ofString "_law_items")], [(Str.ofString "_law_items"), (Str.ofString "_law_second"), (Str.ofString "_law_axiom_here")],
  [.asg 1 (.lc false [2] (.idx (.var 2) (.con (.int 2))) (.name 2) (.over (.var 0)) [(.or (.cmp .Eq (.idx (.var 2) (.con (.int 0))) (.con (.str (Str.ofString "subrole")))) (.cmp .Eq (.idx (.var 2) (.con (.int 0))) (.con (.str (Str.ofString "subrole_inverse")))))]),
   .ret (.cmp .Eq (.lc false [2] (.var 2) (.name 2) (.over (.var 0)) [(.and (.cmp .Eq (.idx (.var 2) (.con (.int 0))) (.con (.str (Str.ofString "functional")))) (.cmp .In (.idx (.idx (.var 2) (.con (.int 1))) (.con (.int 1))) (.var 1)))]) (.lst false []))]⟩
def f_law_ontology : Fn := ⟨[(Str.ofString "_law_stream_here"), (Str.ofString "_law_names_here"), (Str.ofString "_law_menu"), (Str.ofString "_law_most")], [(Str.ofString "_law_stream_here"), (Str.ofString "_law_names_here"), (Str.ofString "_law_menu"), (Str.ofString "_law_most"), (Str.ofString "_law_result"), (Str.ofString "_law_turn"), (Str.ofString "_law_axiom_here")],
  [.asg 4 (.lst true []),
   .forS (.name 5) (.range1 (.call (Str.ofString "_law_draw") [(.var 0), (.bin false .Add (.var 3) (.con (.int 1)))])) [.asg 6 (.call (Str.ofString "_law_axiom") [(.var 0), (.var 1), (.var 2)]), .ife (.and (.cmp .NotIn (.var 6) (.var 4)) (.call (Str.ofString "_law_allowed") [(.bin false .Add (.var 4) (.lst false [(.var 6)]))])) [.expr (.meth .append (.var 4) [(.var 6)])] []],
   .frz 4,
   .ret (.var 4)]⟩
/-- ontologies are drawn in the program -/
structure HasOnt (p : Prg) : Prop extends HasDrawAx p where
  al : p.T.lookup (Str.ofString "_law_allowed") = some f_law_allowed
  on : p.T.lookup (Str.ofString "_law_ontology") = some f_law_ontology
def al1 : A → Option A
  | .tup [.str w, _, b] => if (decide (tSr = w) || decide (tSi = w)) = true then some b else none
  | _ => none
def al2 (sec : List A) : A → Option A
  | .tup [.str w, .tup [u, x]] => if (sec.any fun y => eqT y x) = true then some (.tup [.str w, .tup [u, x]]) else none
  | _ => none
theorem nSrF : ¬ tSr = tFun := by decide +kernel
theorem nSiF : ¬ tSi = tFun := by decide +kernel
theorem AxD.gd3 {C Rn menu : List A} {y : A} (h : AxD C Rn menu y) : MP.gd 3 y = true := h.gd 1
theorem axs_pl {C Rn menu : List A} {ys : List A} (h : ∀ y ∈ ys, AxD C Rn menu y) {m : Nat} (hm : 3 ≤ m) : ys.all (pl m) = true := by
  rw [List.all_eq_true]
  exact fun y hy => pl_mono hm (gd_pl (h y hy).gd3)
theorem r_allowed {p : Prg} (h : HasOnt p) (k : Nat) (M : Mem) (C Rn menu ys : List A) (hl : ys.length ≤ 100) (hy : ∀ y ∈ ys, AxD C Rn menu y) : ∃ b, runF p (k + 1) (Str.ofString "_law_allowed") [.lst ys] M = .ok (.bl b) M := by
  have a0 : evS ⟨runF p k, p.G, p.wf, p.xt, p.kb, p.gd⟩ (.asg 1 (.lc false [2] (.idx (.var 2) (.con (.int 2))) (.name 2) (.over (.var 0)) [(.or (.cmp .Eq (.idx (.var 2) (.con (.int 0))) (.con (.str (Str.ofString "subrole")))) (.cmp .Eq (.idx (.var 2) (.con (.int 0))) (.con (.str (Str.ofString "subrole_inverse")))))])) [some (.lst ys), none, none] M = .ok (.nxt, [some (.lst ys), some (.lst (ys.filterMap al1)), none]) M := by
    rw [evS, lc_fm _ _ _ _ _ _ _ M ys al1 (by simp [evSs, evS, evE, evEs, evT, evTs, evO, evI, retOf, startA, cA, isiA, tyA, isiT, outB, outT, outV, outI, truA, one?, ints2?, two?, bltA, blt1, blt2, toIntA, idxA, asSeq, asL, cmpB, ltA, ltI, binA, addA, binN, MP.binI, mulA, repL, isI, setA, isX, isNone?, isNon, seqItems, asD, idxS, recvOk, methA, appA, itemsOf]) (by omega) (fun x hx => ?_)]
    · rfl
    · rcases hy x hx with ⟨w, c1, c2, rfl, _, hw, h1, h2⟩ | ⟨u, x, rfl, _, hu, _, hx⟩ | ⟨w, x1, x2, rfl, _, hw, _, _, h1, h2⟩
      · have n1 : ¬ tSr = w := by rcases hw with rfl | rfl <;> decide +kernel
        have n2 : ¬ tSi = w := by rcases hw with rfl | rfl <;> decide +kernel
        simp [lcB, bindT, wipeA, evSs, evS, evE, evEs, evT, evTs, evO, evI, retOf, startA, cA, isiA, tyA, isiT, outB, outT, outV, outI, truA, one?, ints2?, two?, bltA, blt1, blt2, toIntA, idxA, asSeq, asL, cmpB, ltA, ltI, binA, addA, binN, MP.binI, mulA, repL, isI, setA, isX, isNone?, isNon, seqItems, asD, idxS, recvOk, methA, appA, at0, eq_str, n1, n2, al1]
      · simp [lcB, bindT, wipeA, evSs, evS, evE, evEs, evT, evTs, evO, evI, retOf, startA, cA, isiA, tyA, isiT, outB, outT, outV, outI, truA, one?, ints2?, two?, bltA, blt1, blt2, toIntA, idxA, asSeq, asL, cmpB, ltA, ltI, binA, addA, binN, MP.binI, mulA, repL, isI, setA, isX, isNone?, isNon, seqItems, asD, idxS, recvOk, methA, appA, at0, eq_str, nSrF, nSiF, al1]
      · by_cases n1 : tSr = w
        · simp [lcB, bindT, wipeA, evSs, evS, evE, evEs, evT, evTs, evO, evI, retOf, startA, cA, isiA, tyA, isiT, outB, outT, outV, outI, truA, one?, ints2?, two?, bltA, blt1, blt2, toIntA, idxA, asSeq, asL, cmpB, ltA, ltI, binA, addA, binN, MP.binI, mulA, repL, isI, setA, isX, isNone?, isNon, seqItems, asD, idxS, recvOk, methA, appA, at0, at2, eq_str, n1, al1]
        · by_cases n2 : tSi = w
          · simp [lcB, bindT, wipeA, evSs, evS, evE, evEs, evT, evTs, evO, evI, retOf, startA, cA, isiA, tyA, isiT, outB, outT, outV, outI, truA, one?, ints2?, two?, bltA, blt1, blt2, toIntA, idxA, asSeq, asL, cmpB, ltA, ltI, binA, addA, binN, MP.binI, mulA, repL, isI, setA, isX, isNone?, isNon, seqItems, asD, idxS, recvOk, methA, appA, at0, at2, eq_str, n1, n2, al1]
          · simp [lcB, bindT, wipeA, evSs, evS, evE, evEs, evT, evTs, evO, evI, retOf, startA, cA, isiA, tyA, isiT, outB, outT, outV, outI, truA, one?, ints2?, two?, bltA, blt1, blt2, toIntA, idxA, asSeq, asL, cmpB, ltA, ltI, binA, addA, binN, MP.binI, mulA, repL, isI, setA, isX, isNone?, isNon, seqItems, asD, idxS, recvOk, methA, appA, at0, at2, eq_str, n1, n2, al1]
  have hs : (ys.filterMap al1).all (pl 60) = true := by
    rw [List.all_eq_true]
    intro b hb
    obtain ⟨x, hx, e⟩ := List.mem_filterMap.mp hb
    rcases hy x hx with ⟨w, c1, c2, rfl, _, hw, h1, h2⟩ | ⟨u, x, rfl, _, hu, _, hx⟩ | ⟨w, x1, x2, rfl, _, hw, _, _, h1, h2⟩
    · simp only [al1] at e
      split at e
      · cases e
        exact gd_60 (by omega) (h2.gd 0)
      · cases e
    · simp [al1] at e
    · simp only [al1] at e
      split at e
      · cases e
        exact gd_60 (n := 0) (by omega) (isW_gd h2)
      · cases e
  have a1 : evE ⟨runF p k, p.G, p.wf, p.xt, p.kb, p.gd⟩ ((.cmp .Eq (.lc false [2] (.var 2) (.name 2) (.over (.var 0)) [(.and (.cmp .Eq (.idx (.var 2) (.con (.int 0))) (.con (.str (Str.ofString "functional")))) (.cmp .In (.idx (.idx (.var 2) (.con (.int 1))) (.con (.int 1))) (.var 1)))]) (.lst false []))) [some (.lst ys), some (.lst (ys.filterMap al1)), none] M = .ok (.bl (ys.filterMap (al2 (ys.filterMap al1))).isEmpty) M := by
    generalize ys.filterMap al1 = sec at hs
    rw [evE, lc_fm _ _ _ _ _ _ _ M ys (al2 sec) (by simp [evSs, evS, evE, evEs, evT, evTs, evO, evI, retOf, startA, cA, isiA, tyA, isiT, outB, outT, outV, outI, truA, one?, ints2?, two?, bltA, blt1, blt2, toIntA, idxA, asSeq, asL, cmpB, ltA, ltI, binA, addA, binN, MP.binI, mulA, repL, isI, setA, isX, isNone?, isNon, seqItems, asD, idxS, recvOk, methA, appA, itemsOf]) (by omega) (fun x hx => ?_)]
    · have q : (ys.filterMap (al2 sec)).all (pl 59) = true := by
        rw [List.all_eq_true]
        intro b hb
        obtain ⟨x, hx, e⟩ := List.mem_filterMap.mp hb
        have : x = b := by
          unfold al2 at e
          split at e
          · split at e
            · cases e; rfl
            · cases e
          · cases e
        subst this
        exact pl_mono (by omega) (gd_pl (hy x hx).gd3)
      simp [evSs, evS, evE, evEs, evT, evTs, evO, evI, retOf, startA, cA, isiA, tyA, isiT, outB, outT, outV, outI, truA, one?, ints2?, two?, bltA, blt1, blt2, toIntA, idxA, asSeq, asL, cmpB, ltA, ltI, binA, addA, binN, MP.binI, mulA, repL, isI, setA, isX, isNone?, isNon, seqItems, asD, idxS, recvOk, methA, appA, finL, eq_nil M q]
    · rcases hy x hx with ⟨w, c1, c2, rfl, _, hw, h1, h2⟩ | ⟨u, x, rfl, _, hu, _, hx⟩ | ⟨w, x1, x2, rfl, _, hw, _, _, h1, h2⟩
      · have n1 : ¬ tFun = w := by rcases hw with rfl | rfl <;> decide +kernel
        simp [lcB, bindT, wipeA, evSs, evS, evE, evEs, evT, evTs, evO, evI, retOf, startA, cA, isiA, tyA, isiT, outB, outT, outV, outI, truA, one?, ints2?, two?, bltA, blt1, blt2, toIntA, idxA, asSeq, asL, cmpB, ltA, ltI, binA, addA, binN, MP.binI, mulA, repL, isI, setA, isX, isNone?, isNon, seqItems, asD, idxS, recvOk, methA, appA, at0, eq_str, n1, al2]
      · have e := inA_lst (a := x) (ys := sec) M (gd_60 (n := 0) (by omega) (isW_gd hx)) hs
        cases hb : sec.any (fun y => eqT y x) with
        | true =>
          rw [hb] at e
          simp [lcB, bindT, wipeA, evSs, evS, evE, evEs, evT, evTs, evO, evI, retOf, startA, cA, isiA, tyA, isiT, outB, outT, outV, outI, truA, one?, ints2?, two?, bltA, blt1, blt2, toIntA, idxA, asSeq, asL, cmpB, ltA, ltI, binA, addA, binN, MP.binI, mulA, repL, isI, setA, isX, isNone?, isNon, seqItems, asD, idxS, recvOk, methA, appA, at0, at1, eq_str, e, al2, hb]
        | false =>
          rw [hb] at e
          simp [lcB, bindT, wipeA, evSs, evS, evE, evEs, evT, evTs, evO, evI, retOf, startA, cA, isiA, tyA, isiT, outB, outT, outV, outI, truA, one?, ints2?, two?, bltA, blt1, blt2, toIntA, idxA, asSeq, asL, cmpB, ltA, ltI, binA, addA, binN, MP.binI, mulA, repL, isI, setA, isX, isNone?, isNon, seqItems, asD, idxS, recvOk, methA, appA, at0, at1, eq_str, e, al2, hb]
      · have n1 : ¬ tFun = w := by rcases hw with rfl | rfl | rfl | rfl <;> decide +kernel
        simp [lcB, bindT, wipeA, evSs, evS, evE, evEs, evT, evTs, evO, evI, retOf, startA, cA, isiA, tyA, isiT, outB, outT, outV, outI, truA, one?, ints2?, two?, bltA, blt1, blt2, toIntA, idxA, asSeq, asL, cmpB, ltA, ltI, binA, addA, binN, MP.binI, mulA, repL, isI, setA, isX, isNone?, isNon, seqItems, asD, idxS, recvOk, methA, appA, at0, eq_str, n1, al2]
  refine ⟨(ys.filterMap (al2 (ys.filterMap al1))).isEmpty, ?_⟩
  rw [run_body h.al k _ M rfl [some (.lst ys), none, none] rfl [.asg 1 (.lc false [2] (.idx (.var 2) (.con (.int 2))) (.name 2) (.over (.var 0)) [(.or (.cmp .Eq (.idx (.var 2) (.con (.int 0))) (.con (.str (Str.ofString "subrole")))) (.cmp .Eq (.idx (.var 2) (.con (.int 0))) (.con (.str (Str.ofString "subrole_inverse")))))]),
   .ret (.cmp .Eq (.lc false [2] (.var 2) (.name 2) (.over (.var 0)) [(.and (.cmp .Eq (.idx (.var 2) (.con (.int 0))) (.con (.str (Str.ofString "functional")))) (.cmp .In (.idx (.idx (.var 2) (.con (.int 1))) (.con (.int 1))) (.var 1)))]) (.lst false []))] rfl]
  rw [evSs_nxt a0, evSs, evS, a1]
  rfl
abbrev cO (n : Nat) (v : A) (menu : List A) (most : Int) (q : Nat) (t a : Option A) : MP.Loc := [some (.ref n), some v, some (.lst menu), some (.int most), some (.ref q), t, a]
theorem ont_step {p : Prg} (h : HasOnt p) (k : Nat) (M : Mem) (n q : Nat) (v : A) (C Rn menu ys : List A) (most : Int) (t : A) (t0 a0 : Option A) (hM : SI M n) (hv : NM v C Rn) (hm : ∀ m ∈ menu, m ∈ menuW) (m0 : 0 < menu.length) (m1 : menu.length ≤ 1000) (hq : M[q]? = some (.lst ys)) (hnq : q ≠ n) (hl : ys.length < 100) (hy : ∀ y ∈ ys, AxD C Rn menu y) (hnd : ys.Nodup) :
    ∃ t' a' ys' M', turnF ⟨runF p (k + 4), p.G, p.wf, p.xt, p.kb, p.gd⟩ (.name 5) [.asg 6 (.call (Str.ofString "_law_axiom") [(.var 0), (.var 1), (.var 2)]), .ife (.and (.cmp .NotIn (.var 6) (.var 4)) (.call (Str.ofString "_law_allowed") [(.bin false .Add (.var 4) (.lst false [(.var 6)]))])) [.expr (.meth .append (.var 4) [(.var 6)])] []] t (cO n v menu most q t0 a0) M = .ok (.nxt, cO n v menu most q t' a') M' ∧ SI M' n ∧ M'[q]? = some (.lst ys') ∧ ys'.length ≤ ys.length + 1 ∧ (∀ y ∈ ys', AxD C Rn menu y) ∧ ys'.Nodup ∧ ∀ L : Mem, FrX n L M → L.length ≤ q → FrX n L M' := by
  obtain ⟨y, M1, e1, d1, s1, f1⟩ := r_axiomF h.toHasDrawAx k M n v C Rn menu hM hv hm m0 m1
  have hq1 : M1[q]? = some (.lst ys) := by rw [f1.get hnq, hq]
  have hl1 : q < M1.length := (List.getElem?_eq_some_iff.mp hq1).1
  have i1 := inA_ref hq1 (gd_60 (by omega) d1.gd3) (axs_pl hy (by omega))
  have hyy : ∀ z ∈ ys ++ [y], AxD C Rn menu z := fun z hz => by
    rcases List.mem_append.mp hz with hz | hz
    · exact hy z hz
    · simp at hz; subst hz; exact d1
  obtain ⟨b, e2⟩ := r_allowed h (k + 3) M1 C Rn menu (ys ++ [y]) (by simp; omega) hyy
  have z1 : ys.length + 1 ≤ sizeLine := small (m := 100) (by omega)
  have zl : ys.length < sizeLine := z1
  have w1 : (1 : Nat) ≤ sizeLine := by decide
  have bb : bindT ((.name 5)) t (cO n v menu most q t0 a0) = some (cO n v menu most q (some t) a0) := rfl
  have a0' : evS ⟨runF p (k + 4), p.G, p.wf, p.xt, p.kb, p.gd⟩ (.asg 6 (.call (Str.ofString "_law_axiom") [(.var 0), (.var 1), (.var 2)])) (cO n v menu most q (some t) a0) M = .ok (.nxt, cO n v menu most q (some t) (some y)) M1 := by simp [evSs, evS, evE, evEs, evT, evTs, evO, evI, retOf, startA, cA, isiA, tyA, isiT, outB, outT, outV, outI, truA, one?, ints2?, two?, bltA, blt1, blt2, toIntA, idxA, asSeq, asL, cmpB, ltA, ltI, binA, addA, binN, MP.binI, mulA, repL, isI, setA, isX, isNone?, isNon, seqItems, asD, idxS, recvOk, methA, appA, e1]
  cases hb : ys.any (fun z => eqT z y) with
  | true =>
    rw [hb] at i1
    refine ⟨some t, some y, ys, M1, ?_, s1, hq1, by omega, hy, hnd, fun L hL _ => hL.trans f1.x⟩
    rw [turnF, bb]
    simp only []
    rw [evSs_nxt a0']
    simp [evSs, evS, evE, evEs, evT, evTs, evO, evI, retOf, startA, cA, isiA, tyA, isiT, outB, outT, outV, outI, truA, one?, ints2?, two?, bltA, blt1, blt2, toIntA, idxA, asSeq, asL, cmpB, ltA, ltI, binA, addA, binN, MP.binI, mulA, repL, isI, setA, isX, isNone?, isNon, seqItems, asD, idxS, recvOk, methA, appA, i1]
  | false =>
    rw [hb] at i1
    cases b with
    | false =>
      refine ⟨some t, some y, ys, M1, ?_, s1, hq1, by omega, hy, hnd, fun L hL _ => hL.trans f1.x⟩
      rw [turnF, bb]
      simp only []
      rw [evSs_nxt a0']
      simp [evSs, evS, evE, evEs, evT, evTs, evO, evI, retOf, startA, cA, isiA, tyA, isiT, outB, outT, outV, outI, truA, one?, ints2?, two?, bltA, blt1, blt2, toIntA, idxA, asSeq, asL, cmpB, ltA, ltI, binA, addA, binN, MP.binI, mulA, repL, isI, setA, isX, isNone?, isNon, seqItems, asD, idxS, recvOk, methA, appA, i1, hq1, finL, z1, w1, e2]
    | true =>
      have hnd' : (ys ++ [y]).Nodup := by
        rw [List.nodup_append]
        refine ⟨hnd, by simp, fun a ha b hb' e => ?_⟩
        simp only [List.mem_singleton] at hb'
        subst hb' e
        have : (ys.any fun z => eqT z a) = true := List.any_eq_true.mpr ⟨a, ha, eqT_refl 3 a (gd_pl d1.gd3)⟩
        rw [hb] at this
        cases this
      refine ⟨some t, some y, ys ++ [y], M1.set q (.lst (ys ++ [y])), ?_, si_other _ hnq s1, List.getElem?_set_self hl1, by simp, hyy, hnd', fun L hL hlq => (hL.trans f1.x).set q hlq _⟩
      rw [turnF, bb]
      simp only []
      rw [evSs_nxt a0']
      simp [evSs, evS, evE, evEs, evT, evTs, evO, evI, retOf, startA, cA, isiA, tyA, isiT, outB, outT, outV, outI, truA, one?, ints2?, two?, bltA, blt1, blt2, toIntA, idxA, asSeq, asL, cmpB, ltA, ltI, binA, addA, binN, MP.binI, mulA, repL, isI, setA, isX, isNone?, isNon, seqItems, asD, idxS, recvOk, methA, appA, i1, hq1, finL, z1, w1, zl, e2]
theorem r_ontology {p : Prg} (h : HasOnt p) (k : Nat) (M : Mem) (n : Nat) (v : A) (C Rn menu : List A) (most : Int) (hM : SI M n) (hv : NM v C Rn) (hm : ∀ m ∈ menu, m ∈ menuW) (m0 : 0 < menu.length) (m1 : menu.length ≤ 1000) (h0 : 0 ≤ most) (h1 : most ≤ 16) :
    ∃ ys M', runF p (k + 5) (Str.ofString "_law_ontology") [.ref n, v, .lst menu, .int most] M = .ok (.lst ys) M' ∧ (∀ y ∈ ys, AxD C Rn menu y) ∧ (ys.length : Int) ≤ most ∧ SI M' n ∧ FrX n M M' ∧ ys.Nodup := by
  obtain ⟨s1, hn⟩ := si_app (.lst []) hM
  have hnq : M.length ≠ n := by omega
  obtain ⟨r, M2, e2, p0, p1, s2, f2⟩ := r_drawF h.toHasDraw.d (k + 3) (M ++ [.lst []]) n (most + 1) s1 (by omega) (by omega)
  have m2 : M2[M.length]? = some (.lst []) := by rw [f2.get hnq]; simp
  have x2 : FrX n M M2 := ((Xt.app M _).x n).trans f2.x
  have z0 : (0 : Nat) ≤ sizeLine := by decide
  have e2' : evE ⟨runF p (k + 4), p.G, p.wf, p.xt, p.kb, p.gd⟩ (.call (Str.ofString "_law_draw") [(.var 0), (.bin false .Add (.var 3) (.con (.int 1)))]) (cO n v menu most M.length none none) (M ++ [.lst []]) = .ok (.int r) M2 := by
    simp [evSs, evS, evE, evEs, evT, evTs, evO, evI, retOf, startA, cA, isiA, tyA, isiT, outB, outT, outV, outI, truA, one?, ints2?, two?, bltA, blt1, blt2, toIntA, idxA, asSeq, asL, cmpB, ltA, ltI, binA, addA, binN, MP.binI, mulA, repL, isI, setA, isX, isNone?, isNon, seqItems, asD, idxS, recvOk, methA, appA, e2]
  have it := range_int _ _ _ _ M2 r e2' p0 (by omega)
  have hlr := rangeI_len p0
  obtain ⟨ς', M3, e3, v5, v6, ys, rfl, s3, m3, hl, hy, hnd, x3⟩ := forL_cnt (f := turnF ⟨runF p (k + 4), p.G, p.wf, p.xt, p.kb, p.gd⟩ (.name 5) [.asg 6 (.call (Str.ofString "_law_axiom") [(.var 0), (.var 1), (.var 2)]), .ife (.and (.cmp .NotIn (.var 6) (.var 4)) (.call (Str.ofString "_law_allowed") [(.bin false .Add (.var 4) (.lst false [(.var 6)]))])) [.expr (.meth .append (.var 4) [(.var 6)])] []]) (fun j ς M1 => ∃ v5 v6 ys, ς = cO n v menu most M.length v5 v6 ∧ SI M1 n ∧ M1[M.length]? = some (.lst ys) ∧ ys.length ≤ j ∧ (∀ y ∈ ys, AxD C Rn menu y) ∧ ys.Nodup ∧ FrX n M M1) (rangeA r) 0 (fun t _ j ς M1 hj hI => by
    obtain ⟨v5, v6, ys, rfl, a, b, c, d, nd, e⟩ := hI
    obtain ⟨t', a', ys', M', e', a1, b1, c1, d1, n1, g1⟩ := ont_step h k M1 n M.length v C Rn menu ys most t v5 v6 a hv hm m0 m1 b hnq (by omega) d nd
    exact ⟨_, M', e', _, _, ys', rfl, a1, b1, by omega, d1, n1, g1 M e (Nat.le_refl _)⟩) (cO n v menu most M.length none none) M2 ⟨_, _, [], rfl, s2, m2, by simp, by simp, by simp, x2⟩
  refine ⟨ys, M3.set M.length .dead, ?_, hy, by omega, si_other _ hnq s3, x3.set _ (Nat.le_refl _) _, hnd⟩
  have a0 : evS ⟨runF p (k + 4), p.G, p.wf, p.xt, p.kb, p.gd⟩ (.asg 4 (.lst true [])) [some (.ref n), some v, some (.lst menu), some (.int most), none, none, none] M = .ok (.nxt, cO n v menu most M.length none none) (M ++ [.lst []]) := by
    simp [evSs, evS, evE, evEs, evT, evTs, evO, evI, retOf, startA, cA, isiA, tyA, isiT, outB, outT, outV, outI, truA, one?, ints2?, two?, bltA, blt1, blt2, toIntA, idxA, asSeq, asL, cmpB, ltA, ltI, binA, addA, binN, MP.binI, mulA, repL, isI, setA, isX, isNone?, isNon, seqItems, asD, idxS, recvOk, methA, appA, finL, z0]
  have a1 : evS ⟨runF p (k + 4), p.G, p.wf, p.xt, p.kb, p.gd⟩ (.forS (.name 5) (.range1 (.call (Str.ofString "_law_draw") [(.var 0), (.bin false .Add (.var 3) (.con (.int 1)))])) [.asg 6 (.call (Str.ofString "_law_axiom") [(.var 0), (.var 1), (.var 2)]), .ife (.and (.cmp .NotIn (.var 6) (.var 4)) (.call (Str.ofString "_law_allowed") [(.bin false .Add (.var 4) (.lst false [(.var 6)]))])) [.expr (.meth .append (.var 4) [(.var 6)])] []]) (cO n v menu most M.length none none) (M ++ [.lst []]) = .ok (.nxt, cO n v menu most M.length v5 v6) M3 := by
    rw [evS_for, it, Out.bind_ok, e3]
  rw [run_body h.on (k + 4) _ M rfl [some (.ref n), some v, some (.lst menu), some (.int most), none, none, none] rfl [.asg 4 (.lst true []),
   .forS (.name 5) (.range1 (.call (Str.ofString "_law_draw") [(.var 0), (.bin false .Add (.var 3) (.con (.int 1)))])) [.asg 6 (.call (Str.ofString "_law_axiom") [(.var 0), (.var 1), (.var 2)]), .ife (.and (.cmp .NotIn (.var 6) (.var 4)) (.call (Str.ofString "_law_allowed") [(.bin false .Add (.var 4) (.lst false [(.var 6)]))])) [.expr (.meth .append (.var 4) [(.var 6)])] []],
   .frz 4,
   .ret (.var 4)] rfl]
  rw [evSs_nxt a0, evSs_nxt a1]
  simp [evSs, evS, evE, evEs, evT, evTs, evO, evI, retOf, startA, cA, isiA, tyA, isiT, outB, outT, outV, outI, truA, one?, ints2?, two?, bltA, blt1, blt2, toIntA, idxA, asSeq, asL, cmpB, ltA, ltI, binA, addA, binN, MP.binI, mulA, repL, isI, setA, isX, isNone?, isNon, seqItems, asD, idxS, recvOk, methA, appA, frzA, m3]
end MP

/-! MP, part 1: data of texts and tuples: comparing with a list's cell, sorting -/
namespace MP
open PySem PySem.Spec PyProof.Rows L2
/-- small data of texts and tuples -/
def sg (n : Nat) (a : A) : Bool := gd n a && stT a
theorem sg_gd {n : Nat} {a : A} (h : sg n a = true) : gd n a = true := by
  unfold sg at h
  rw [Bool.and_eq_true] at h
  exact h.1
theorem stTs_all {xs : List A} (h : stTs xs = true) : ∀ x ∈ xs, stT x = true := by
  induction xs with
  | nil => intro x hx; cases hx
  | cons y ys ih =>
    simp only [stTs, Bool.and_eq_true] at h
    intro x hx
    rcases List.mem_cons.mp hx with rfl | hx
    · exact h.1
    · exact ih h.2 x hx
theorem tr_strOk {s : Str} (h : tr (.str s) = true) : PyData.strOk s = true := by
  simp only [tr, Bool.and_eq_true, List.all_eq_true, decide_eq_true_eq] at h
  unfold PyData.strOk
  rw [Array.all_eq_true_iff_forall_mem]
  intro c hc
  have := h.2 c (Array.mem_toList_iff.mpr hc)
  simp
  omega
theorem sg_datas {n : Nat} (ih : ∀ a, sg n a = true → ∃ d, a.toD = some d ∧ d.canLay0 = true ∧ d.depth ≤ n) : ∀ xs : List A, (∀ x ∈ xs, sg n x = true) → ∃ ds, A.toDs xs = some ds ∧ PyData.canLayAll0 ds = true ∧ PyData.depthAll ds ≤ n ∧ ds.length = xs.length
  | [], _ => ⟨[], rfl, rfl, Nat.zero_le _, rfl⟩
  | x :: xs, h => by
    obtain ⟨d, h1, h2, h3⟩ := ih x (h x List.mem_cons_self)
    obtain ⟨ds, k1, k2, k3, k4⟩ := sg_datas ih xs fun y hy => h y (List.mem_cons_of_mem _ hy)
    refine ⟨d :: ds, by simp only [A.toDs, h1, k1], by simp only [PyData.canLayAll0, h2, k2, Bool.and_self], ?_, by simp [k4]⟩
    simp only [PyData.depthAll]
    omega
theorem sg_data : ∀ (n : Nat) (a : A), sg n a = true → ∃ d, a.toD = some d ∧ d.canLay0 = true ∧ d.depth ≤ n := by
  intro n
  induction n with
  | zero =>
    intro a h
    unfold sg at h
    rw [Bool.and_eq_true] at h
    cases a with
    | str s =>
      refine ⟨.str s, rfl, ?_, Nat.le_refl _⟩
      simp only [PyData.canLay0]
      exact tr_strOk h.1
    | _ => first | exact Bool.noConfusion h.1 | exact Bool.noConfusion h.2
  | succ n ih =>
    intro a h
    unfold sg at h
    rw [Bool.and_eq_true] at h
    cases a with
    | str s =>
      refine ⟨.str s, rfl, ?_, Nat.zero_le _⟩
      simp only [PyData.canLay0]
      exact tr_strOk h.1
    | tup xs =>
      have h1 := h.1
      have h2 := h.2
      simp only [gd, Bool.and_eq_true, List.all_eq_true] at h1
      simp only [stT] at h2
      obtain ⟨ds, k1, k2, k3, _⟩ := sg_datas ih xs fun x hx => by
        unfold sg
        rw [Bool.and_eq_true]
        exact ⟨h1.2 x hx, stTs_all h2 x hx⟩
      refine ⟨.tuple ds, by simp only [A.toD, k1, Option.map_some], by simpa only [PyData.canLay0] using k2, ?_⟩
      simp only [PyData.depth]
      omega
    | _ => first | exact Bool.noConfusion h.1 | exact Bool.noConfusion h.2
theorem sg_list {n : Nat} (hn : n ≤ 60) {xs : List A} (h : ∀ x ∈ xs, sg n x = true) : ∃ ds, A.toDs xs = some ds ∧ SeqAt.shaped (.list ds) = true ∧ PyData.eqv (.list ds) (.list ds) = true ∧ ds.length = xs.length := by
  obtain ⟨ds, k1, k2, k3, k4⟩ := sg_datas (sg_data n) xs h
  have c : PyData.canLay0 (.list ds) = true := by simpa only [PyData.canLay0] using k2
  refine ⟨ds, k1, ?_, SeqAt.eqv_refl _ c, k4⟩
  unfold SeqAt.shaped
  rw [c, Bool.true_and, decide_eq_true_eq]
  simp only [PyData.depth]
  omega
theorem ref_60 (m : Nat) (b : A) : eqG (.ref m) b = none := by
  simp only [eqG, pl, Bool.false_and, Bool.false_eq_true, if_false]
theorem eq_ref {M : Mem} {m n : Nat} (hn : n ≤ 60) {xs : List A} (hm : M[m]? = some (.lst xs)) (h : ∀ x ∈ xs, sg n x = true) : eqX (.ref m) (.lst xs) M = some true := by
  obtain ⟨ds, k1, k2, k3, _⟩ := sg_list hn h
  simp only [eqX, ref_60, eqA, scalA, A.toDM, hm, k1, Option.map_some, A.toD, k2, k3, Bool.and_self, if_true, Bool.false_eq_true, if_false]
theorem ne_ref {M : Mem} {m n : Nat} (hn : n ≤ 60) {xs : List A} (hm : M[m]? = some (.lst xs)) (h : ∀ x ∈ xs, sg n x = true) : neX (.ref m) (.lst xs) M = some false := by
  simp only [neX, isDT, isD, eq_ref hn hm h, Bool.or_self, Bool.false_eq_true, if_false, Option.map_some, Bool.not_true]
theorem ne_ref_nil {M : Mem} {m n : Nat} (hn : n ≤ 60) {xs : List A} (hm : M[m]? = some (.lst xs)) (h : ∀ x ∈ xs, sg n x = true) : neX (.ref m) (.lst []) M = some (!xs.isEmpty) := by
  obtain ⟨ds, k1, k2, k3, k4⟩ := sg_list hn h
  have s2 : SeqAt.shaped (.list []) = true := by decide +kernel
  have e : PyData.eqv (.list ds) (.list []) = xs.isEmpty := by
    cases xs with
    | nil =>
      have : ds = [] := List.eq_nil_of_length_eq_zero (by simpa using k4)
      subst this; rfl
    | cons x xs =>
      cases ds with
      | nil => simp at k4
      | cons d ds => rfl
  simp only [neX, isDT, isD, eqX, ref_60, eqA, scalA, A.toDM, hm, k1, Option.map_some, A.toD, A.toDs, k2, s2, e, Bool.and_self, if_true, Bool.or_self, Bool.false_eq_true, if_false]
/-! sorting pairs of texts -/
def isPr : A → Bool
  | .tup [.str _, .str _] => true
  | _ => false
theorem isPr_eq {a : A} (h : isPr a = true) : ∃ w x : Str, a = .tup [.str w, .str x] := by
  unfold isPr at h
  split at h
  · exact ⟨_, _, rfl⟩
  · exact Bool.noConfusion h
theorem okSort_pr {xs : List A} (h : ∀ a ∈ xs, isPr a = true) (hl : xs.length ≤ 1000) : okSort xs = true := by
  have key : ∀ a ∈ xs, ∃ w x : Str, keyD a = .tuple [.str w, .str x] ∧ a.toD.isSome = true := fun a ha => by
    obtain ⟨w, x, rfl⟩ := isPr_eq (h a ha)
    exact ⟨w, x, rfl, rfl⟩
  have h1 : allD xs = true := List.all_eq_true.mpr fun a ha => by obtain ⟨_, _, _, e⟩ := key a ha; exact e
  have h2 : (xs.all fun a => xs.all fun b => PySem.W.alike (keyD a) (keyD b)) = true := List.all_eq_true.mpr fun a ha => List.all_eq_true.mpr fun b hb => by
    obtain ⟨_, _, e, _⟩ := key a ha
    obtain ⟨_, _, e', _⟩ := key b hb
    rw [e, e']
    simp [PySem.W.alike, PySem.W.alikeAll]
  have h3 : (xs.all fun a => match keyD a with | .tuple (_ :: _) => true | _ => false) = true := List.all_eq_true.mpr fun a ha => by
    obtain ⟨_, _, e, _⟩ := key a ha
    rw [e]
  have h4 : (xs.all fun a => decide ((keyD a).depth ≤ 30)) = true := List.all_eq_true.mpr fun a ha => by
    obtain ⟨_, _, e, _⟩ := key a ha
    rw [e]
    simp [PyData.depth, PyData.depthAll]
  have h5 : xs.length ≤ sizeLine := small hl
  unfold okSort
  simp only [h1, h2, h4, h5, decide_true, Bool.and_true, Bool.true_and, Bool.or_eq_true]
  exact .inl h3
theorem sortL_mem {xs : List A} {a : A} : a ∈ sortL xs ↔ a ∈ xs := by
  unfold sortL
  exact List.mem_mergeSort
theorem sortL_len (xs : List A) : (sortL xs).length = xs.length := by
  unfold sortL
  exact List.length_mergeSort _
theorem atI_nat {xs : List A} {j : Nat} {x : A} (h : xs[j]? = some x) : L2.atI xs (j : Int) = some x := by
  have hj : j < xs.length := (List.getElem?_eq_some_iff.mp h).1
  have h' := (List.getElem?_eq_some_iff.mp h).2
  simp [L2.atI, L2.ixN, hj, h']
theorem nodup_len : ∀ (xs ys : List A), xs.Nodup → (∀ x ∈ xs, x ∈ ys) → xs.length ≤ ys.length
  | [], ys, _, _ => Nat.zero_le _
  | x :: xs, ys, hn, h => by
    rw [List.nodup_cons] at hn
    obtain ⟨l, r, rfl⟩ := List.append_of_mem (h x List.mem_cons_self)
    have := nodup_len xs (l ++ r) hn.2 fun y hy => by
      have hyx : y ≠ x := fun e => hn.1 (e ▸ hy)
      have := h y (List.mem_cons_of_mem _ hy)
      simp only [List.mem_append, List.mem_cons] at this ⊢
      rcases this with a | a | a
      · exact .inl a
      · exact absurd a hyx
      · exact .inr a
    simp only [List.length_append, List.length_cons] at this ⊢
    omega
/-! keys of two texts -/
theorem tkey_pr (w x : Str) : tkey (.tup [.str w, .str x]) = some (.tup [.text w, .text x]) := by
  have e : toNK (.tup [.str w, .str x]) = some (.tup [.text w, .text x]) := by simp [toNK, toNKs]
  unfold tkey
  simp only [e]
  exact if_pos (by simp [NestedKey.depth, NestedKey.depthAll])
theorem nk_pr (a : A) (h : isPr a = true) (w x : Str) : decide (toNK a = some (.tup [.text w, .text x])) = eqT a (.tup [.str w, .str x]) := by
  obtain ⟨u, y, rfl⟩ := isPr_eq h
  have e : toNK (.tup [.str u, .str y]) = some (.tup [.text u, .text y]) := by simp [toNK, toNKs]
  rw [e]
  simp only [eqT, eqTs, Bool.and_true, beq_str]
  by_cases h1 : u = w
  · by_cases h2 : y = x
    · simp [h1, h2]
    · simp [h1, h2]
  · simp [h1]
def keysA (kvs : List (A × A)) : List A := kvs.map (·.1)
theorem kOf_pr {kvs : List (A × A)} (h : ∀ q ∈ kvs, isPr q.1 = true) (w x : Str) : kOf (.tup [.str w, .str x]) kvs = some (.tup [.text w, .text x]) := by
  have : (kvs.all fun p => isTA p.1) = true := List.all_eq_true.mpr fun q hq => by
    obtain ⟨u, y, e⟩ := isPr_eq (h q hq)
    rw [e]
    rfl
  show (if (kvs.all fun p => isTA p.1) = true then tkey (.tup [.str w, .str x]) else none) = _
  rw [if_pos this, tkey_pr]
theorem hasKey_pr {kvs : List (A × A)} (h : ∀ q ∈ kvs, isPr q.1 = true) (w x : Str) : hasKey kvs (.tup [.text w, .text x]) = (keysA kvs).any fun y => eqT y (.tup [.str w, .str x]) := by
  unfold hasKey keysA
  rw [List.any_map]
  induction kvs with
  | nil => rfl
  | cons q r ih =>
    rw [List.any_cons, List.any_cons, ih fun z hz => h z (List.mem_cons_of_mem _ hz), nk_pr q.1 (h q List.mem_cons_self)]
    rfl
def valK (kvs : List (A × A)) (c : A) : Option A := (kvs.find? fun q => eqT q.1 c).map (·.2)
theorem findK_pr {kvs : List (A × A)} (h : ∀ q ∈ kvs, isPr q.1 = true) (w x : Str) : findK kvs (.tup [.text w, .text x]) = valK kvs (.tup [.str w, .str x]) := by
  unfold findK valK
  congr 1
  induction kvs with
  | nil => rfl
  | cons q r ih => rw [List.find?_cons, List.find?_cons, ih fun z hz => h z (List.mem_cons_of_mem _ hz), nk_pr q.1 (h q List.mem_cons_self)]
/-- x in d, d a dict of pairs -/
theorem inA_dct {M : Mem} {d : Nat} {kvs : List (A × A)} (hd : M[d]? = some (.dct kvs)) (h : ∀ q ∈ kvs, isPr q.1 = true) {t : A} (ht : isPr t = true) : inA t (.ref d) M = some ((keysA kvs).any fun y => eqT y t) := by
  obtain ⟨w, x, rfl⟩ := isPr_eq ht
  simp only [inA, asD, hd, kOf_pr h, Option.map_some, hasKey_pr h]
theorem idxA_dct {M : Mem} {d : Nat} {kvs : List (A × A)} (hd : M[d]? = some (.dct kvs)) (h : ∀ q ∈ kvs, isPr q.1 = true) {t v : A} (ht : isPr t = true) (hv : valK kvs t = some v) : idxA (.ref d) t M = .ok v M := by
  obtain ⟨w, x, rfl⟩ := isPr_eq ht
  simp only [idxA, asD, hd, kOf_pr h, findK_pr h, hv, outV]
/-- d[t] = v, t not there -/
theorem setA_dct {M : Mem} {d : Nat} {kvs : List (A × A)} (hd : M[d]? = some (.dct kvs)) (h : ∀ q ∈ kvs, isPr q.1 = true) {t v : A} (ht : isPr t = true) (hn : ((keysA kvs).any fun y => eqT y t) = false) (hl : kvs.length < sizeLine) : setA (.ref d) t v M = .ok () (M.set d (.dct (kvs ++ [(t, v)]))) := by
  obtain ⟨w, x, rfl⟩ := isPr_eq ht
  simp only [setA, hd, kOf_pr h, hl, if_true, putD, hasKey_pr h, hn, Bool.false_eq_true, if_false]
end MP

/-! MP, part 2: steps by axioms, chains -/
namespace MP
open PySem PySem.Spec PyProof.Rows L2
def f_inverse : Fn := ⟨[(Str.ofString "direction")], [(Str.ofString "direction"), (Str.ofString "word"), (Str.ofString "role")],
  [.ife (.not (.call (Str.ofString "is_direction") [(.var 0)])) [.raise (Str.ofString "InvalidConcept") none] [],
   .asgT (.tup [1, 2]) (.var 0),
   .ret (.tup [(.gix (Str.ofString "INVERSE_WORDS") (.var 1)), (.var 2)])]⟩
def f_role_successor : Fn := ⟨[(Str.ofString "axiom"), (Str.ofString "concept")], [(Str.ofString "axiom"), (Str.ofString "concept"), (Str.ofString "word"), (Str.ofString "first"), (Str.ofString "second")],
  [.asgT (.tup [2, 3, 4]) (.var 0),
   .ife (.or (.cmp .Eq (.idx (.var 1) (.con (.int 0))) (.con (.str (Str.ofString "concept")))) (.cmp .NotEq (.idx (.var 1) (.con (.int 1))) (.var 3))) [.ret (.con .none)] [],
   .ife (.cmp .Eq (.var 2) (.con (.str (Str.ofString "subrole")))) [.ret (.tup [(.idx (.var 1) (.con (.int 0))), (.var 4)])] [],
   .ret (.ite (.cmp .Eq (.var 2) (.con (.str (Str.ofString "subrole_inverse")))) (.call (Str.ofString "inverse") [(.tup [(.idx (.var 1) (.con (.int 0))), (.var 4)])]) (.con .none))]⟩
def f_successor : Fn := ⟨[(Str.ofString "axiom"), (Str.ofString "concept"), (Str.ofString "roles_only")], [(Str.ofString "axiom"), (Str.ofString "concept"), (Str.ofString "roles_only")],
  [.ife (.and (.cmp .Eq (.idx (.var 0) (.con (.int 0))) (.con (.str (Str.ofString "subclass")))) (.not (.var 2))) [.ret (.ite (.cmp .Eq (.idx (.var 0) (.con (.int 1))) (.var 1)) (.idx (.var 0) (.con (.int 2))) (.con .none))] [],
   .ret (.ite (.or (.cmp .Eq (.idx (.var 0) (.con (.int 0))) (.con (.str (Str.ofString "subrole")))) (.cmp .Eq (.idx (.var 0) (.con (.int 0))) (.con (.str (Str.ofString "subrole_inverse"))))) (.call (Str.ofString "role_successor") [(.var 0), (.var 1)]) (.con .none))]⟩
def f_successors : Fn := ⟨[(Str.ofString "ontology"), (Str.ofString "concept"), (Str.ofString "roles_only")], [(Str.ofString "ontology"), (Str.ofString "concept"), (Str.ofString "roles_only"), (Str.ofString "pairs"), (Str.ofString "index"), (Str.ofString "axiom"), (Str.ofString "target")],
  [.asg 3 (.lc false [4, 5] (.tup [(.var 4), (.call (Str.ofString "successor") [(.var 5), (.var 1), (.var 2)])]) (.tup [4, 5]) (.enum (.var 0)) []),
   .ret (.lc false [4, 6] (.tup [(.var 4), (.var 6)]) (.tup [4, 6]) (.over (.var 3)) [(.cmp .IsNot (.var 6) (.con .none))])]⟩
def f_shortest_chains : Fn := ⟨[(Str.ofString "ontology"), (Str.ofString "concept"), (Str.ofString "roles_only")], [(Str.ofString "ontology"), (Str.ofString "concept"), (Str.ofString "roles_only"), (Str.ofString "chains"), (Str.ofString "pending"), (Str.ofString "current"), (Str.ofString "index"), (Str.ofString "target")],
  [.asg 3 (.dsp true true (.var 1) (.lst false []) []),
   .asg 4 (.lst true [(.var 1)]),
   .whl (.cmp .NotEq (.var 4) (.lst false [])) [.asg 5 (.meth .pop (.var 4) [(.con (.int 0))]), .forS (.tup [6, 7]) (.over (.call (Str.ofString "successors") [(.var 0), (.var 5), (.var 2)])) [.ife (.cmp .NotIn (.var 7) (.var 3)) [.set (.var 3) (.var 7) (.bin false .Add (.idx (.var 3) (.var 5)) (.lst false [(.var 6)])), .expr (.meth .append (.var 4) [(.var 7)])] []]],
   .frz 4,
   .ret (.var 3)]⟩
def f_require_concept : Fn := ⟨[(Str.ofString "candidate")], [(Str.ofString "candidate")],
  [.ife (.not (.call (Str.ofString "is_concept") [(.var 0)])) [.raise (Str.ofString "InvalidConcept") none] []]⟩
abbrev cIC : Str := Str.ofString "InvalidConcept"
/-- concepts and steps stand in the program -/
structure HasStep (p : Prg) : Prop extends HasDi p where
  iv : p.T.lookup (Str.ofString "inverse") = some f_inverse
  rs : p.T.lookup (Str.ofString "role_successor") = some f_role_successor
  su : p.T.lookup (Str.ofString "successor") = some f_successor
  gI : p.gd (Str.ofString "INVERSE_WORDS") = some [(tOut, .str tIn), (tIn, .str tOut)]
structure HasChain (p : Prg) : Prop extends HasStep p where
  ss : p.T.lookup (Str.ofString "successors") = some f_successors
  sc : p.T.lookup (Str.ofString "shortest_chains") = some f_shortest_chains
  rc : p.T.lookup (Str.ofString "require_concept") = some f_require_concept
  wf : 1000 ≤ p.wf
  xc : p.xt.cls.lookup cIC = some none
  co : p.T.lookup (Str.ofString "is_concept") = some f_is_concept
theorem HasChain.toHasCo {p : Prg} (h : HasChain p) : HasCo p := ⟨h.toHasDi, h.co⟩
/-- a concept -/
def Cn (c : A) : Prop := ∃ u x : Str, c = .tup [.str u, .str x] ∧ (u = tCon ∨ u = tOut ∨ u = tIn) ∧ isW (.str x) = true
theorem Cn.of {c : A} (h : isCon c = true) : Cn c := by
  unfold isCon at h
  split at h
  · rename_i w x
    rw [Bool.and_eq_true] at h
    obtain ⟨y, rfl⟩ := isW_str h.2
    refine ⟨w, y, rfl, ?_, h.2⟩
    have := h.1
    simp only [Bool.or_eq_true, decide_eq_true_eq] at this
    rcases this with e | e | e
    · exact .inl e.symm
    · exact .inr (.inl e.symm)
    · exact .inr (.inr e.symm)
  · exact Bool.noConfusion h
theorem Cn.con {c : A} (h : Cn c) : isCon c = true := by
  obtain ⟨u, x, rfl, hu, hx⟩ := h
  simp only [isCon, hx, Bool.and_true]
  rcases hu with rfl | rfl | rfl <;> decide +kernel
theorem Cn.pr {c : A} (h : Cn c) : isPr c = true := by
  obtain ⟨u, x, rfl, _⟩ := h
  rfl
theorem Cn.sg {c : A} (h : Cn c) : MP.sg 3 c = true := by
  obtain ⟨u, x, rfl, hu, hx⟩ := h
  have h1 : tr (.str u) = true := by
    rcases hu with rfl | rfl | rfl <;> decide +kernel
  have h2 : tr (.str x) = true := isW_tr hx
  simp [MP.sg, MP.gd, stT, stTs, h1, h2]
theorem Cn.pl {c : A} (h : Cn c) : MP.pl 50 c = true := pl_mono (by omega) (gd_pl (sg_gd h.sg))
theorem Cn.tr1 {c : A} (h : Cn c) : MP.tr1 c = true := gd_tr1 (sg_gd h.sg)
def invW (u : Str) : Str := if u = tOut then tIn else tOut
/-- where an axiom leads to from a concept -/
def suc (ro : Bool) (ax c : A) : Option A := match ax with
  | .tup [.str w, a, b] =>
    if w = tSub then (if ro = true then none else if eqT a c = true then some b else none)
    else if w = tSr ∨ w = tSi then (match c with
      | .tup [.str u, x] => if u = tCon ∨ eqT x a = false then none else some (.tup [.str (if w = tSr then u else invW u), b])
      | _ => none)
    else none
  | _ => none
def ocA : Option A → A
  | some a => a
  | none => .non
theorem nOI : ¬ tOut = tIn := by decide +kernel
theorem nIO : ¬ tIn = tOut := by decide +kernel
theorem nCO : ¬ tCon = tOut := by decide +kernel
theorem nCI : ¬ tCon = tIn := by decide +kernel
theorem nSubSr : ¬ tSub = tSr := by decide +kernel
theorem nSubSi : ¬ tSub = tSi := by decide +kernel
theorem nSrSi : ¬ tSr = tSi := by decide +kernel
theorem gix_out (M : Mem) : gixA (some [(tOut, .str tIn), (tIn, .str tOut)]) (.str tOut) M = .ok (.str tIn) M := by
  simp [gixA, List.lookup, outV]
theorem gix_in (M : Mem) : gixA (some [(tOut, .str tIn), (tIn, .str tOut)]) (.str tIn) M = .ok (.str tOut) M := by
  have : (tIn == tOut) = false := by decide +kernel
  simp [gixA, List.lookup, outV, this]
abbrev PQ (p : Prg) (k : Nat) : Par := ⟨runF p k, p.G, p.wf, p.xt, p.kb, p.gd⟩
theorem suc_cn {C Rn menu : List A} {ro : Bool} {ax c t : A} (ha : AxD C Rn menu ax) (hc : Cn c) (h : suc ro ax c = some t) : Cn t := by
  rcases ha with ⟨w, c1, c2, rfl, _, hw, h1, h2⟩ | ⟨u, x, rfl, _, hu, _, hx⟩ | ⟨w, x1, x2, rfl, _, hw, _, _, h1, h2⟩
  · simp only [suc] at h
    have n1 : ¬ (w = tSr ∨ w = tSi) := by rcases hw with rfl | rfl <;> decide +kernel
    rw [if_neg n1] at h
    split at h
    · split at h
      · cases h
      · split at h
        · cases h; exact .of h2.con
        · cases h
    · cases h
  · simp [suc] at h
  · obtain ⟨u, x, rfl, hu, hx⟩ := hc
    obtain ⟨z, rfl⟩ := isW_str h2
    simp only [suc] at h
    split at h
    · rename_i e; subst e
      rcases hw with e | e | e | e <;> exact absurd e (by decide +kernel)
    · split at h
      · split at h
        · cases h
        · rename_i e
          cases h
          have hu' : u = tOut ∨ u = tIn := hu.resolve_left fun z => e (.inl z)
          refine ⟨_, z, rfl, ?_, h2⟩
          split
          · exact .inr hu'
          · unfold invW
            split
            · exact .inr (.inr rfl)
            · exact .inr (.inl rfl)
      · cases h
section
variable {p : Prg}
theorem r_inverse (h : HasStep p) (k : Nat) (M : Mem) (u x : Str) (hu : u = tOut ∨ u = tIn) (hx : isW (.str x) = true) : runF p (k + 4) (Str.ofString "inverse") [.tup [.str u, .str x]] M = .ok (.tup [.str (invW u), .str x]) M := by
  have hd : isDir (.tup [.str u, .str x]) = true := by
    simp only [isDir, hx, Bool.and_true]
    rcases hu with rfl | rfl <;> decide +kernel
  have ht : tr1 (.tup [.str u, .str x]) = true := Cn.tr1 ⟨u, x, rfl, .inr hu, hx⟩
  have z2 : (2 : Nat) ≤ sizeLine := by decide
  have e := r_is_direction h.toHasDi k M _ ht
  rw [hd] at e
  rw [run_def h.iv]
  rcases hu with rfl | rfl
  · simp [evSs, evS, evE, evEs, evT, evTs, evO, evI, retOf, startA, cA, isiA, tyA, isiT, outB, outT, outV, outI, truA, one?, ints2?, two?, bltA, blt1, blt2, toIntA, idxA, asSeq, asL, cmpB, ltA, ltI, binA, addA, binN, MP.binI, mulA, repL, isI, setA, isX, isNone?, isNon, seqItems, asD, idxS, recvOk, methA, appA, f_inverse, e, bindT, setAll, h.gI, gix_out, z2, invW]
  · simp [evSs, evS, evE, evEs, evT, evTs, evO, evI, retOf, startA, cA, isiA, tyA, isiT, outB, outT, outV, outI, truA, one?, ints2?, two?, bltA, blt1, blt2, toIntA, idxA, asSeq, asL, cmpB, ltA, ltI, binA, addA, binN, MP.binI, mulA, repL, isI, setA, isX, isNone?, isNon, seqItems, asD, idxS, recvOk, methA, appA, f_inverse, e, bindT, setAll, h.gI, gix_in, z2, invW, nIO]
theorem r_role_successor (h : HasStep p) (k : Nat) (M : Mem) (w : Str) (x1 x2 c : A) (hw : w = tSr ∨ w = tSi) (h1 : isW x1 = true) (h2 : isW x2 = true) (hc : Cn c) : runF p (k + 5) (Str.ofString "role_successor") [.tup [.str w, x1, x2], c] M = .ok (ocA (suc true (.tup [.str w, x1, x2]) c)) M := by
  obtain ⟨u, x, rfl, hu, hx⟩ := hc
  obtain ⟨s1, rfl⟩ := isW_str h1
  obtain ⟨s2, rfl⟩ := isW_str h2
  have z2 : (2 : Nat) ≤ sizeLine := by decide
  have n1 : ¬ w = tSub := by rcases hw with rfl | rfl <;> decide +kernel
  rw [run_def h.rs]
  by_cases e1 : u = tCon
  · simp [evSs, evS, evE, evEs, evT, evTs, evO, evI, retOf, startA, cA, isiA, tyA, isiT, outB, outT, outV, outI, truA, one?, ints2?, two?, bltA, blt1, blt2, toIntA, idxA, asSeq, asL, cmpB, ltA, ltI, binA, addA, binN, MP.binI, mulA, repL, isI, setA, isX, isNone?, isNon, seqItems, asD, idxS, recvOk, methA, appA, f_role_successor, bindT, setAll, at0, eq_str, e1, suc, n1, hw, ocA]
  · have e1' : ¬ tCon = u := fun e => e1 e.symm
    by_cases e2 : x = s1
    · subst e2
      have hu' := hu.resolve_left e1
      by_cases e3 : w = tSr
      · simp [evSs, evS, evE, evEs, evT, evTs, evO, evI, retOf, startA, cA, isiA, tyA, isiT, outB, outT, outV, outI, truA, one?, ints2?, two?, bltA, blt1, blt2, toIntA, idxA, asSeq, asL, cmpB, ltA, ltI, binA, addA, binN, MP.binI, mulA, repL, isI, setA, isX, isNone?, isNon, seqItems, asD, idxS, recvOk, methA, appA, f_role_successor, bindT, setAll, at0, at1, eq_str, ne_str, e1, e1', e3, suc, ocA, z2, eqT, nSubSr, Ne.symm nSubSr]
      · have e3' : ¬ tSr = w := fun e => e3 e.symm
        have e4 := hw.resolve_left e3
        subst e4
        have e5 := r_inverse h k M u s2 hu' h2
        simp [evSs, evS, evE, evEs, evT, evTs, evO, evI, retOf, startA, cA, isiA, tyA, isiT, outB, outT, outV, outI, truA, one?, ints2?, two?, bltA, blt1, blt2, toIntA, idxA, asSeq, asL, cmpB, ltA, ltI, binA, addA, binN, MP.binI, mulA, repL, isI, setA, isX, isNone?, isNon, seqItems, asD, idxS, recvOk, methA, appA, f_role_successor, bindT, setAll, at0, at1, eq_str, ne_str, e1, e1', e3, e3', n1, suc, ocA, z2, eqT, e5]
    · have e2' : ¬ s1 = x := fun e => e2 e.symm
      simp [evSs, evS, evE, evEs, evT, evTs, evO, evI, retOf, startA, cA, isiA, tyA, isiT, outB, outT, outV, outI, truA, one?, ints2?, two?, bltA, blt1, blt2, toIntA, idxA, asSeq, asL, cmpB, ltA, ltI, binA, addA, binN, MP.binI, mulA, repL, isI, setA, isX, isNone?, isNon, seqItems, asD, idxS, recvOk, methA, appA, f_role_successor, bindT, setAll, at0, at1, eq_str, ne_str, e1, e1', e2, e2', n1, hw, suc, ocA, eqT]
theorem r_successor (h : HasStep p) (k : Nat) (M : Mem) (C Rn menu : List A) (ro : Bool) (ax c : A) (ha : AxD C Rn menu ax) (hc : Cn c) : runF p (k + 6) (Str.ofString "successor") [ax, c, .bl ro] M = .ok (ocA (suc ro ax c)) M := by
  rw [run_def h.su]
  rcases ha with ⟨w, c1, c2, rfl, _, hw, h1, h2⟩ | ⟨u, x, rfl, _, hu, _, hx⟩ | ⟨w, x1, x2, rfl, _, hw, _, _, h1, h2⟩
  · have e := eq_tree (a := c1) (b := c) M (pl_mono (by omega) (Cn.of h1.con).pl) (pl_mono (by omega) hc.pl)
    rcases hw with rfl | rfl
    · cases ro with
      | true => simp [evSs, evS, evE, evEs, evT, evTs, evO, evI, retOf, startA, cA, isiA, tyA, isiT, outB, outT, outV, outI, truA, one?, ints2?, two?, bltA, blt1, blt2, toIntA, idxA, asSeq, asL, cmpB, ltA, ltI, binA, addA, binN, MP.binI, mulA, repL, isI, setA, isX, isNone?, isNon, seqItems, asD, idxS, recvOk, methA, appA, f_successor, at0, at1, at2, eq_str, suc, ocA, Ne.symm nSubSr, Ne.symm nSubSi]
      | false =>
        cases hb : eqT c1 c with
        | true =>
          rw [hb] at e
          simp [evSs, evS, evE, evEs, evT, evTs, evO, evI, retOf, startA, cA, isiA, tyA, isiT, outB, outT, outV, outI, truA, one?, ints2?, two?, bltA, blt1, blt2, toIntA, idxA, asSeq, asL, cmpB, ltA, ltI, binA, addA, binN, MP.binI, mulA, repL, isI, setA, isX, isNone?, isNon, seqItems, asD, idxS, recvOk, methA, appA, f_successor, at0, at1, at2, eq_str, suc, ocA, e, hb]
        | false =>
          rw [hb] at e
          simp [evSs, evS, evE, evEs, evT, evTs, evO, evI, retOf, startA, cA, isiA, tyA, isiT, outB, outT, outV, outI, truA, one?, ints2?, two?, bltA, blt1, blt2, toIntA, idxA, asSeq, asL, cmpB, ltA, ltI, binA, addA, binN, MP.binI, mulA, repL, isI, setA, isX, isNone?, isNon, seqItems, asD, idxS, recvOk, methA, appA, f_successor, at0, at1, at2, eq_str, suc, ocA, e, hb]
    · have n1 : ¬ tSub = tDis := by decide +kernel
      have n2 : ¬ tSr = tDis := by decide +kernel
      have n3 : ¬ tSi = tDis := by decide +kernel
      simp [evSs, evS, evE, evEs, evT, evTs, evO, evI, retOf, startA, cA, isiA, tyA, isiT, outB, outT, outV, outI, truA, one?, ints2?, two?, bltA, blt1, blt2, toIntA, idxA, asSeq, asL, cmpB, ltA, ltI, binA, addA, binN, MP.binI, mulA, repL, isI, setA, isX, isNone?, isNon, seqItems, asD, idxS, recvOk, methA, appA, f_successor, at0, at1, at2, eq_str, suc, ocA, n1, n2, n3, Ne.symm n1, Ne.symm n2, Ne.symm n3]
  · have n1 : ¬ tSub = tFun := by decide +kernel
    simp [evSs, evS, evE, evEs, evT, evTs, evO, evI, retOf, startA, cA, isiA, tyA, isiT, outB, outT, outV, outI, truA, one?, ints2?, two?, bltA, blt1, blt2, toIntA, idxA, asSeq, asL, cmpB, ltA, ltI, binA, addA, binN, MP.binI, mulA, repL, isI, setA, isX, isNone?, isNon, seqItems, asD, idxS, recvOk, methA, appA, f_successor, at0, eq_str, suc, ocA, n1, nSrF, nSiF]
  · have n0 : ¬ w = tSub := by rcases hw with rfl | rfl | rfl | rfl <;> decide +kernel
    have n0' : ¬ tSub = w := fun e => n0 e.symm
    by_cases hq : w = tSr ∨ w = tSi
    · have e := r_role_successor h k M w x1 x2 c hq h1 h2 hc
      have es : suc true (.tup [.str w, x1, x2]) c = suc ro (.tup [.str w, x1, x2]) c := by simp only [suc, if_neg n0]
      rw [es] at e
      by_cases e1 : w = tSr
      · subst e1
        simp [evSs, evS, evE, evEs, evT, evTs, evO, evI, retOf, startA, cA, isiA, tyA, isiT, outB, outT, outV, outI, truA, one?, ints2?, two?, bltA, blt1, blt2, toIntA, idxA, asSeq, asL, cmpB, ltA, ltI, binA, addA, binN, MP.binI, mulA, repL, isI, setA, isX, isNone?, isNon, seqItems, asD, idxS, recvOk, methA, appA, f_successor, at0, eq_str, n0, n0', e]
      · have e2 := hq.resolve_left e1
        subst e2
        have e1' : ¬ tSr = tSi := nSrSi
        simp [evSs, evS, evE, evEs, evT, evTs, evO, evI, retOf, startA, cA, isiA, tyA, isiT, outB, outT, outV, outI, truA, one?, ints2?, two?, bltA, blt1, blt2, toIntA, idxA, asSeq, asL, cmpB, ltA, ltI, binA, addA, binN, MP.binI, mulA, repL, isI, setA, isX, isNone?, isNon, seqItems, asD, idxS, recvOk, methA, appA, f_successor, at0, eq_str, n0, n0', e1', e]
    · have n1 : ¬ tSr = w := fun e => hq (.inl e.symm)
      have n2 : ¬ tSi = w := fun e => hq (.inr e.symm)
      simp [evSs, evS, evE, evEs, evT, evTs, evO, evI, retOf, startA, cA, isiA, tyA, isiT, outB, outT, outV, outI, truA, one?, ints2?, two?, bltA, blt1, blt2, toIntA, idxA, asSeq, asL, cmpB, ltA, ltI, binA, addA, binN, MP.binI, mulA, repL, isI, setA, isX, isNone?, isNon, seqItems, asD, idxS, recvOk, methA, appA, f_successor, at0, eq_str, n0', n1, n2, suc, n0, hq, ocA]
theorem r_require (h : HasChain p) (k : Nat) (M : Mem) (c : A) (hc : tr1 c = true) : runF p (k + 5) (Str.ofString "require_concept") [c] M = if isCon c = true then .ok .non M else .exc ⟨cIC, none⟩ M := by
  have e := r_is_concept h.toHasCo k M c hc
  rw [run_def h.rc]
  cases hb : isCon c with
  | true =>
    rw [hb] at e
    simp [evSs, evS, evE, evEs, evT, evTs, evO, evI, retOf, startA, cA, isiA, tyA, isiT, outB, outT, outV, outI, truA, one?, ints2?, two?, bltA, blt1, blt2, toIntA, idxA, asSeq, asL, cmpB, ltA, ltI, binA, addA, binN, MP.binI, mulA, repL, isI, setA, isX, isNone?, isNon, seqItems, asD, idxS, recvOk, methA, appA, f_require_concept, e]
  | false =>
    rw [hb] at e
    simp [evSs, evS, evE, evEs, evT, evTs, evO, evI, retOf, startA, cA, isiA, tyA, isiT, outB, outT, outV, outI, truA, one?, ints2?, two?, bltA, blt1, blt2, toIntA, idxA, asSeq, asL, cmpB, ltA, ltI, binA, addA, binN, MP.binI, mulA, repL, isI, setA, isX, isNone?, isNon, seqItems, asD, idxS, recvOk, methA, appA, f_require_concept, e, h.xc]
end
/-! the steps from a concept -/
def sq (ro : Bool) (x : A) : Nat → List A → List A
  | _, [] => []
  | i, a :: O => match suc ro a x with
    | some t => .tup [.int (i : Int), t] :: sq ro x (i + 1) O
    | none => sq ro x (i + 1) O
def pq (ro : Bool) (x : A) : A → Option A
  | .tup [i, a] => some (.tup [i, ocA (suc ro a x)])
  | _ => none
def pq2 : A → Option A
  | .tup [i, a] => if isNon a = true then none else some (.tup [i, a])
  | _ => none
theorem sq_fm {C Rn menu : List A} (ro : Bool) (x : A) (hx : Cn x) : ∀ (O : List A) (i : Nat), (∀ a ∈ O, AxD C Rn menu a) → ((enumA i O).filterMap (pq ro x)).filterMap pq2 = sq ro x i O
  | [], i, _ => rfl
  | a :: O, i, h => by
    have ih := sq_fm ro x hx O (i + 1) fun b hb => h b (List.mem_cons_of_mem _ hb)
    simp only [enumA, List.filterMap_cons, pq, sq]
    cases e : suc ro a x with
    | none => simp only [ocA, pq2, isNon, if_true]; exact ih
    | some t =>
      obtain ⟨u, y, rfl, _⟩ := suc_cn (h a List.mem_cons_self) hx e
      simp only [ocA, pq2, isNon, Bool.false_eq_true, if_false, ih]
theorem enumA_mem {x : A} : ∀ {O : List A} {i : Nat}, x ∈ enumA i O → ∃ j a, x = .tup [.int (j : Nat), a] ∧ a ∈ O
  | [], _, h => by cases h
  | a :: O, i, h => by
    simp only [enumA, List.mem_cons] at h
    rcases h with rfl | h
    · exact ⟨i, a, rfl, List.mem_cons_self⟩
    · obtain ⟨j, b, e, hb⟩ := enumA_mem h
      exact ⟨j, b, e, List.mem_cons_of_mem _ hb⟩
theorem enumA_ln : ∀ (O : List A) (i : Nat), (enumA i O).length = O.length
  | [], _ => rfl
  | a :: O, i => by simp [enumA, enumA_ln O (i + 1)]
theorem r_successors {p : Prg} (h : HasChain p) (k : Nat) (M : Mem) (C Rn menu O : List A) (ro : Bool) (o c : A) (ho : seqItems o = some O) (hl : O.length ≤ 100) (ha : ∀ a ∈ O, AxD C Rn menu a) (hc : Cn c) : runF p (k + 7) (Str.ofString "successors") [o, c, .bl ro] M = .ok (.lst (sq ro c 0 O)) M := by
  have a0 : evS (PQ p (k + 6)) (.asg 3 (.lc false [4, 5] (.tup [(.var 4), (.call (Str.ofString "successor") [(.var 5), (.var 1), (.var 2)])]) (.tup [4, 5]) (.enum (.var 0)) [])) [some o, some c, some (.bl ro), none, none, none, none] M = .ok (.nxt, [some o, some c, some (.bl ro), some (.lst ((enumA 0 O).filterMap (pq ro c))), none, none, none]) M := by
    rw [evS, lc_fm _ _ _ _ _ _ _ M (enumA 0 O) (pq ro c) (by simp only [evI, evE, List.getElem?_cons_zero, Out.bind_ok, ho]) (by rw [enumA_ln]; omega) (fun x hx => ?_)]
    · rfl
    · obtain ⟨j, a, rfl, ha'⟩ := enumA_mem hx
      have z2 : (2 : Nat) ≤ sizeLine := by decide
      simp [lcB, bindT, setAll, wipeA, evSs, evS, evE, evEs, evT, evTs, evO, evI, retOf, startA, cA, isiA, tyA, isiT, outB, outT, outV, outI, truA, one?, ints2?, two?, bltA, blt1, blt2, toIntA, idxA, asSeq, asL, cmpB, ltA, ltI, binA, addA, binN, MP.binI, mulA, repL, isI, setA, isX, isNone?, isNon, seqItems, asD, idxS, recvOk, methA, appA, r_successor h.toHasStep k M C Rn menu ro a c (ha a ha') hc, z2, pq]
  have hl2 : ((enumA 0 O).filterMap (pq ro c)).length ≤ 1000 := Nat.le_trans (List.length_filterMap_le _ _) (by rw [enumA_ln]; omega)
  rw [run_body h.ss (k + 6) _ M rfl [some o, some c, some (.bl ro), none, none, none, none] rfl [.asg 3 (.lc false [4, 5] (.tup [(.var 4), (.call (Str.ofString "successor") [(.var 5), (.var 1), (.var 2)])]) (.tup [4, 5]) (.enum (.var 0)) []),
   .ret (.lc false [4, 6] (.tup [(.var 4), (.var 6)]) (.tup [4, 6]) (.over (.var 3)) [(.cmp .IsNot (.var 6) (.con .none))])] rfl]
  rw [evSs_nxt a0, evSs, evS, lc_fm _ _ _ _ _ _ _ M ((enumA 0 O).filterMap (pq ro c)) pq2 (by simp [evSs, evS, evE, evEs, evT, evTs, evO, evI, retOf, startA, cA, isiA, tyA, isiT, outB, outT, outV, outI, truA, one?, ints2?, two?, bltA, blt1, blt2, toIntA, idxA, asSeq, asL, cmpB, ltA, ltI, binA, addA, binN, MP.binI, mulA, repL, isI, setA, isX, isNone?, isNon, seqItems, asD, idxS, recvOk, methA, appA, itemsOf]) hl2 (fun x hx => ?_)]
  · rw [sq_fm ro c hc O 0 ha]
    rfl
  · obtain ⟨y, hy, e⟩ := List.mem_filterMap.mp hx
    obtain ⟨j, a, rfl, ha'⟩ := enumA_mem hy
    simp only [pq] at e
    cases e
    have z2 : (2 : Nat) ≤ sizeLine := by decide
    cases e2 : suc ro a c with
    | none => simp [lcB, bindT, setAll, wipeA, evSs, evS, evE, evEs, evT, evTs, evO, evI, retOf, startA, cA, isiA, tyA, isiT, outB, outT, outV, outI, truA, one?, ints2?, two?, bltA, blt1, blt2, toIntA, idxA, asSeq, asL, cmpB, ltA, ltI, binA, addA, binN, MP.binI, mulA, repL, isI, setA, isX, isNone?, isNon, seqItems, asD, idxS, recvOk, methA, appA, z2, pq2, ocA]
    | some t =>
      obtain ⟨u, y, rfl, _⟩ := suc_cn (ha a ha') hc e2
      simp [lcB, bindT, setAll, wipeA, evSs, evS, evE, evEs, evT, evTs, evO, evI, retOf, startA, cA, isiA, tyA, isiT, outB, outT, outV, outI, truA, one?, ints2?, two?, bltA, blt1, blt2, toIntA, idxA, asSeq, asL, cmpB, ltA, ltI, binA, addA, binN, MP.binI, mulA, repL, isI, setA, isX, isNone?, isNon, seqItems, asD, idxS, recvOk, methA, appA, z2, pq2, ocA]
end MP

/-! printed by wip/gen.py: the text of the law as an MP table, checked against the program -/
namespace K03
open PySem PySem.Spec PyProof.Rows L2 MP
def top (i : Nat) : Stmt := PySem.Challenge.pw_factsandfar_k03_concepts_of_ontology.main.body.getD i (.Pass ⟨0, 0, 0, 0⟩)
def f_is_string_of : Fn := ⟨[(Str.ofString "candidate"), (Str.ofString "characters")], [(Str.ofString "candidate"), (Str.ofString "characters"), (Str.ofString "character")],
  [.ife (.or (.not (.isi (.var 0) .str)) (.not (.chain .LtE .LtE (.con (.int 1)) (.blt false .len [(.var 0)]) (.glob (Str.ofString "MAX_LENGTH"))))) [.ret (.con (.bool false))] [],
   .ret (.blt false .all [(.lc false [2] (.cmp .In (.var 2) (.var 1)) (.name 2) (.over (.var 0)) [])])]⟩
def f_is_word : Fn := ⟨[(Str.ofString "candidate")], [(Str.ofString "candidate")],
  [.ret (.call (Str.ofString "is_string_of") [(.var 0), (.glob (Str.ofString "LETTERS"))])]⟩
def f_is_direction : Fn := ⟨[(Str.ofString "candidate")], [(Str.ofString "candidate")],
  [.ife (.or (.not (.isi (.var 0) .tuple)) (.or (.cmp .NotEq (.blt false .len [(.var 0)]) (.con (.int 2))) (.not (.isi (.idx (.var 0) (.con (.int 0))) .str)))) [.ret (.con (.bool false))] [],
   .ret (.and (.cmp .In (.idx (.var 0) (.con (.int 0))) (.glob (Str.ofString "DIRECTION_WORDS"))) (.call (Str.ofString "is_word") [(.idx (.var 0) (.con (.int 1)))]))]⟩
def f_inverse : Fn := ⟨[(Str.ofString "direction")], [(Str.ofString "direction"), (Str.ofString "word"), (Str.ofString "role")],
  [.ife (.not (.call (Str.ofString "is_direction") [(.var 0)])) [.raise (Str.ofString "InvalidConcept") none] [],
   .asgT (.tup [1, 2]) (.var 0),
   .ret (.tup [(.gix (Str.ofString "INVERSE_WORDS") (.var 1)), (.var 2)])]⟩
def f_law_raises : Fn := ⟨[(Str.ofString "_law_value")], [(Str.ofString "_law_value"), (Str.ofString "_law_before"), (Str.ofString "e")],
  [.asg 1 (.con .none),
   .tryE .expr (.call (Str.ofString "inverse") [(.var 0)]) (Str.ofString "InvalidConcept") (some 2) [(.asg 1 (.isi (Str.ofString "ValueError")))],
   .ret (.var 1)]⟩
def f_law_stream : Fn := ⟨[(Str.ofString "_law_script"), (Str.ofString "_law_k")], [(Str.ofString "_law_script"), (Str.ofString "_law_k"), (Str.ofString "_law_cell"), (Str.ofString "_law_size"), (Str.ofString "_law_mixed")],
  [.asg 2 (.con (.int 0)),
   .ife (.cmp .Lt (.var 1) (.blt false .len [(.var 0)])) [.asg 2 (.idx (.var 0) (.var 1))] [],
   .asg 3 (.blt false .max [(.var 2), (.bin false .Sub (.neg (.con (.int 1))) (.var 2))]),
   .asg 4 (.bin false .Mod (.bin false .Mult (.bin false .Add (.bin false .Add (.bin false .Add (.bin false .Mod (.var 3) (.con (.int 2147483629))) (.bin false .Mult (.bin false .Mult (.con (.int 7919)) (.var 1)) (.var 1))) (.bin false .Mult (.con (.int 31)) (.var 1))) (.con (.int 17))) (.con (.int 48271))) (.con (.int 2147483647))),
   .ret (.lst true [(.bin false .Mult (.var 3) (.blt false .int [(.cmp .GtE (.var 3) (.bin false .Pow (.con (.int 10)) (.con (.int 18))))])), (.var 4)])]⟩
def f_law_draw : Fn := ⟨[(Str.ofString "_law_stream_here"), (Str.ofString "_law_count")], [(Str.ofString "_law_stream_here"), (Str.ofString "_law_count"), (Str.ofString "_law_result")],
  [.ife (.cmp .Gt (.idx (.var 0) (.con (.int 0))) (.con (.int 0))) [.asg 2 (.bin false .Mod (.idx (.var 0) (.con (.int 0))) (.var 1)), .set (.var 0) (.con (.int 0)) (.bin false .FloorDiv (.idx (.var 0) (.con (.int 0))) (.var 1)), .ret (.var 2)] [],
   .set (.var 0) (.con (.int 1)) (.bin false .Mod (.bin false .Add (.bin false .Mult (.idx (.var 0) (.con (.int 1))) (.con (.int 69621))) (.con (.int 7))) (.con (.int 2147483647))),
   .ret (.bin false .Mod (.bin false .FloorDiv (.bin false .Mod (.bin false .Mult (.idx (.var 0) (.con (.int 1))) (.idx (.var 0) (.con (.int 1)))) (.con (.int 2147483629))) (.con (.int 32))) (.var 1))]⟩
def f_law_names : Fn := ⟨[(Str.ofString "_law_stream_here")], [(Str.ofString "_law_stream_here"), (Str.ofString "_law_head"), (Str.ofString "_law_concept_names"), (Str.ofString "_law_sign"), (Str.ofString "_law_role_names")],
  [.asg 1 (.idx (.lst false [(.con (.str (Str.ofString ""))), (.con (.str (Str.ofString "k"))), (.con (.str (Str.ofString "zzzzzzz")))]) (.call (Str.ofString "_law_draw") [(.var 0), (.con (.int 3))])),
   .asg 2 (.lc false [3] (.bin false .Add (.var 1) (.var 3)) (.name 3) (.over (.con (.str (Str.ofString "abcd")))) []),
   .asg 4 (.lc false [3] (.bin false .Add (.var 1) (.var 3)) (.name 3) (.over (.con (.str (Str.ofString "rst")))) []),
   .ret (.tup [(.var 2), (.idx (.lst false [(.var 4), (.slice false (.var 2) none (some (.con (.int 3))))]) (.blt false .int [(.cmp .Eq (.call (Str.ofString "_law_draw") [(.var 0), (.con (.int 4))]) (.con (.int 0)))]))])]⟩
def f_law_choose : Fn := ⟨[(Str.ofString "_law_stream_here"), (Str.ofString "_law_items")], [(Str.ofString "_law_stream_here"), (Str.ofString "_law_items")],
  [.ret (.idx (.var 1) (.call (Str.ofString "_law_draw") [(.var 0), (.blt false .len [(.var 1)])]))]⟩
def f_law_concept : Fn := ⟨[(Str.ofString "_law_stream_here"), (Str.ofString "_law_names_here")], [(Str.ofString "_law_stream_here"), (Str.ofString "_law_names_here"), (Str.ofString "_law_word")],
  [.asg 2 (.idx (.lst false [(.con (.str (Str.ofString "concept"))), (.con (.str (Str.ofString "concept"))), (.con (.str (Str.ofString "out"))), (.con (.str (Str.ofString "in")))]) (.call (Str.ofString "_law_draw") [(.var 0), (.con (.int 4))])),
   .ret (.tup [(.var 2), (.call (Str.ofString "_law_choose") [(.var 0), (.idx (.var 1) (.blt false .int [(.cmp .NotEq (.var 2) (.con (.str (Str.ofString "concept"))))]))])])]⟩
def f_law_axiom : Fn := ⟨[(Str.ofString "_law_stream_here"), (Str.ofString "_law_names_here"), (Str.ofString "_law_menu")], [(Str.ofString "_law_stream_here"), (Str.ofString "_law_names_here"), (Str.ofString "_law_menu"), (Str.ofString "_law_word")],
  [.asg 3 (.call (Str.ofString "_law_choose") [(.var 0), (.var 2)]),
   .ife (.or (.cmp .Eq (.var 3) (.con (.str (Str.ofString "subclass")))) (.cmp .Eq (.var 3) (.con (.str (Str.ofString "disjoint"))))) [.ret (.tup [(.var 3), (.call (Str.ofString "_law_concept") [(.var 0), (.var 1)]), (.call (Str.ofString "_law_concept") [(.var 0), (.var 1)])])] [],
   .ife (.cmp .Eq (.var 3) (.con (.str (Str.ofString "functional")))) [.ret (.tup [(.var 3), (.tup [(.idx (.lst false [(.con (.str (Str.ofString "out"))), (.con (.str (Str.ofString "in")))]) (.call (Str.ofString "_law_draw") [(.var 0), (.con (.int 2))])), (.call (Str.ofString "_law_choose") [(.var 0), (.idx (.var 1) (.con (.int 1)))])])])] [],
   .ret (.tup [(.var 3), (.call (Str.ofString "_law_choose") [(.var 0), (.idx (.var 1) (.con (.int 1)))]), (.call (Str.ofString "_law_choose") [(.var 0), (.idx (.var 1) (.con (.int 1)))])])]⟩
def f_law_allowed : Fn := ⟨[(Str.ofString "_law_items")], [(Str.ofString "_law_items"), (Str.ofString "_law_second"), (Str.ofString "_law_axiom_here")],
  [.asg 1 (.lc false [2] (.idx (.var 2) (.con (.int 2))) (.name 2) (.over (.var 0)) [(.or (.cmp .Eq (.idx (.var 2) (.con (.int 0))) (.con (.str (Str.ofString "subrole")))) (.cmp .Eq (.idx (.var 2) (.con (.int 0))) (.con (.str (Str.ofString "subrole_inverse")))))]),
   .ret (.cmp .Eq (.lc false [2] (.var 2) (.name 2) (.over (.var 0)) [(.and (.cmp .Eq (.idx (.var 2) (.con (.int 0))) (.con (.str (Str.ofString "functional")))) (.cmp .In (.idx (.idx (.var 2) (.con (.int 1))) (.con (.int 1))) (.var 1)))]) (.lst false []))]⟩
def f_law_ontology : Fn := ⟨[(Str.ofString "_law_stream_here"), (Str.ofString "_law_names_here"), (Str.ofString "_law_menu"), (Str.ofString "_law_most")], [(Str.ofString "_law_stream_here"), (Str.ofString "_law_names_here"), (Str.ofString "_law_menu"), (Str.ofString "_law_most"), (Str.ofString "_law_result"), (Str.ofString "_law_turn"), (Str.ofString "_law_axiom_here")],
  [.asg 4 (.lst true []),
   .forS (.name 5) (.range1 (.call (Str.ofString "_law_draw") [(.var 0), (.bin false .Add (.var 3) (.con (.int 1)))])) [.asg 6 (.call (Str.ofString "_law_axiom") [(.var 0), (.var 1), (.var 2)]), .ife (.and (.cmp .NotIn (.var 6) (.var 4)) (.call (Str.ofString "_law_allowed") [(.bin false .Add (.var 4) (.lst false [(.var 6)]))])) [.expr (.meth .append (.var 4) [(.var 6)])] []],
   .frz 4,
   .ret (.var 4)]⟩
def f_concept_names_of : Fn := ⟨[(Str.ofString "ontology")], [(Str.ofString "ontology"), (Str.ofString "concepts"), (Str.ofString "axiom"), (Str.ofString "concept"), (Str.ofString "word"), (Str.ofString "name")],
  [.asg 1 (.lc2 false [2, 3] [3] (.var 3) (.name 2) (.over (.var 0)) [(.cmp .In (.idx (.var 2) (.con (.int 0))) (.glob (Str.ofString "CONCEPT_AXIOMS")))] (.name 3) (.over (.slice false (.var 2) (some (.con (.int 1))) none)) []),
   .ret (.ssetC false [4, 5] (.var 5) (.tup [4, 5]) (.over (.var 1)) [(.cmp .Eq (.var 4) (.con (.str (Str.ofString "concept"))))])]⟩
def f_role_names_of : Fn := ⟨[(Str.ofString "ontology")], [(Str.ofString "ontology"), (Str.ofString "names"), (Str.ofString "axiom"), (Str.ofString "concept")],
  [.asg 1 (.lst true []),
   .forS (.name 2) (.over (.var 0)) [.ife (.cmp .In (.idx (.var 2) (.con (.int 0))) (.glob (Str.ofString "ROLE_AXIOMS"))) [.expr (.meth .extend (.var 1) [(.slice false (.var 2) (some (.con (.int 1))) none)])] [.expr (.meth .extend (.var 1) [(.lc false [3] (.idx (.var 3) (.con (.int 1))) (.name 3) (.over (.slice false (.var 2) (some (.con (.int 1))) none)) [(.cmp .In (.idx (.var 3) (.con (.int 0))) (.glob (Str.ofString "DIRECTION_WORDS")))])])]],
   .frz 1,
   .ret (.sset false false (.var 1))]⟩
def f_concepts_of : Fn := ⟨[(Str.ofString "ontology")], [(Str.ofString "ontology"), (Str.ofString "named"), (Str.ofString "name"), (Str.ofString "word")],
  [.asg 1 (.lc false [2] (.tup [(.con (.str (Str.ofString "concept"))), (.var 2)]) (.name 2) (.over (.call (Str.ofString "concept_names_of") [(.var 0)])) []),
   .ret (.blt true .sorted [(.bin false .Add (.var 1) (.lc2 false [3, 2] [2] (.tup [(.var 3), (.var 2)]) (.name 3) (.over (.glob (Str.ofString "DIRECTION_WORDS"))) [] (.name 2) (.over (.call (Str.ofString "role_names_of") [(.var 0)])) []))])]⟩
def f_law_expected : Fn := ⟨[(Str.ofString "_law_items")], [(Str.ofString "_law_items"), (Str.ofString "_law_result"), (Str.ofString "_law_axiom_here"), (Str.ofString "_law_value"), (Str.ofString "_law_position"), (Str.ofString "_law_concept_here")],
  [.asg 1 (.lst false []),
   .forS (.name 2) (.over (.var 0)) [.forS (.name 3) (.over (.slice false (.var 2) (some (.con (.int 1))) none)) [.ife (.isi (.var 3) .str) [.asg 1 (.bin false .Add (.var 1) (.lst false [(.tup [(.con (.str (Str.ofString "out"))), (.var 3)]), (.tup [(.con (.str (Str.ofString "in"))), (.var 3)])]))] [.ife (.cmp .Eq (.idx (.var 3) (.con (.int 0))) (.con (.str (Str.ofString "concept")))) [.asg 1 (.bin false .Add (.var 1) (.lst false [(.var 3)]))] [.asg 1 (.bin false .Add (.var 1) (.lst false [(.tup [(.con (.str (Str.ofString "out"))), (.idx (.var 3) (.con (.int 1)))]), (.tup [(.con (.str (Str.ofString "in"))), (.idx (.var 3) (.con (.int 1)))])]))]]]],
   .ret (.blt false .sorted [(.lc false [4, 5] (.var 5) (.tup [4, 5]) (.enum (.var 1)) [(.cmp .NotIn (.var 5) (.slice false (.var 1) none (some (.var 4))))])])]⟩
def f_law : Fn := ⟨[(Str.ofString "_law_script")], [(Str.ofString "_law_script"), (Str.ofString "_law_value"), (Str.ofString "_law_menu"), (Str.ofString "_law_k"), (Str.ofString "_law_stream_here"), (Str.ofString "_law_names_here"), (Str.ofString "_law_given"), (Str.ofString "_law_before"), (Str.ofString "_law_result"), (Str.ofString "_law_name")],
  [.forS (.name 1) (.over (.lst false [(.con .none), (.con (.bool true)), (.con (.str (Str.ofString "r"))), (.tup []), (.tup [(.con (.str (Str.ofString "concept"))), (.con (.str (Str.ofString "a")))]), (.tup [(.con (.str (Str.ofString "out")))]), (.tup [(.con (.str (Str.ofString "out"))), (.con (.int 5))]), (.lst false [(.con (.str (Str.ofString "out"))), (.con (.str (Str.ofString "r")))]), (.tup [(.con (.str (Str.ofString "in"))), (.con (.str (Str.ofString "R")))]), (.tup [(.dnew), (.con (.str (Str.ofString "r")))]), (.dnew)])) [.ife (.cmp .IsNot (.call (Str.ofString "_law_raises") [(.var 1)]) (.con (.bool true))) [.ret (.con (.bool false))] []],
   .asg 2 (.lst false [(.con (.str (Str.ofString "subclass"))), (.con (.str (Str.ofString "subclass"))), (.con (.str (Str.ofString "disjoint"))), (.con (.str (Str.ofString "subrole"))), (.con (.str (Str.ofString "subrole_inverse"))), (.con (.str (Str.ofString "disjoint_roles"))), (.con (.str (Str.ofString "disjoint_inverse"))), (.con (.str (Str.ofString "functional")))]),
   .forS (.name 3) (.range1 (.blt false .max [(.con (.int 1)), (.blt false .min [(.con (.int 12)), (.blt false .len [(.var 0)])])])) [.asg 4 (.call (Str.ofString "_law_stream") [(.var 0), (.var 3)]), .asg 5 (.call (Str.ofString "_law_names") [(.var 4)]), .asg 6 (.call (Str.ofString "_law_ontology") [(.var 4), (.var 5), (.var 2), (.con (.int 9))]), .asg 7 (.blt false .repr [(.var 6)]), .asg 8 (.call (Str.ofString "concepts_of") [(.var 6)]), .ife (.cmp .NotEq (.var 8) (.call (Str.ofString "_law_expected") [(.var 6)])) [.ret (.con (.bool false))] [], .expr (.meth .append (.var 8) [(.con .none)]), .frz 8, .ife (.or (.cmp .NotEq (.callK (Str.ofString "concepts_of") 0 [(Str.ofString "ontology")] [] [(.blt false .tuple [(.var 6)])]) (.call (Str.ofString "_law_expected") [(.var 6)])) (.cmp .NotEq (.blt false .repr [(.var 6)]) (.var 7))) [.ret (.con (.bool false))] [], .forS (.name 9) (.over (.idx (.var 5) (.con (.int 1)))) [.ife (.or (.cmp .NotEq (.call (Str.ofString "inverse") [(.tup [(.con (.str (Str.ofString "out"))), (.var 9)])]) (.tup [(.con (.str (Str.ofString "in"))), (.var 9)])) (.cmp .NotEq (.callK (Str.ofString "inverse") 0 [(Str.ofString "direction")] [] [(.tup [(.con (.str (Str.ofString "in"))), (.var 9)])]) (.tup [(.con (.str (Str.ofString "out"))), (.var 9)]))) [.ret (.con (.bool false))] []]],
   .ret (.cmp .Eq (.call (Str.ofString "concepts_of") [(.lst false [])]) (.lst false []))]⟩
abbrev dep : Nat := 30
abbrev wf : Nat := 100000
def xt : XT := ⟨[((Str.ofString "InvalidConcept"), none)],
  [(((Str.ofString "InvalidConcept"), (Str.ofString "InvalidConcept")), true)],
  [(((Str.ofString "InvalidConcept"), (Str.ofString "ValueError")), true)]⟩
def kb : KB := [(((Str.ofString "concepts_of"), 0, [(Str.ofString "ontology")]), [.arg 0]), (((Str.ofString "inverse"), 0, [(Str.ofString "direction")]), [.arg 0])]
def inf : Inf := ⟨[(Str.ofString "is_string_of"), (Str.ofString "is_word"), (Str.ofString "is_direction"), (Str.ofString "inverse"), (Str.ofString "_law_raises"), (Str.ofString "_law_stream"), (Str.ofString "_law_draw"), (Str.ofString "_law_names"), (Str.ofString "_law_choose"), (Str.ofString "_law_concept"), (Str.ofString "_law_axiom"), (Str.ofString "_law_allowed"), (Str.ofString "_law_ontology"), (Str.ofString "concept_names_of"), (Str.ofString "role_names_of"), (Str.ofString "concepts_of"), (Str.ofString "_law_expected"), (Str.ofString "law")], [(Str.ofString "all"), (Str.ofString "enumerate"), (Str.ofString "int"), (Str.ofString "isinstance"), (Str.ofString "len"), (Str.ofString "max"), (Str.ofString "min"), (Str.ofString "range"), (Str.ofString "repr"), (Str.ofString "set"), (Str.ofString "sorted"), (Str.ofString "str"), (Str.ofString "tuple")], xt, [], kb, [(Str.ofString "INVERSE_WORDS")]⟩
def gdt : List (Str × List (Str × A)) := [((Str.ofString "INVERSE_WORDS"), [((Str.ofString "out"), .str (Str.ofString "in")), ((Str.ofString "in"), .str (Str.ofString "out"))])]
def tbl : Tbl := [((Str.ofString "is_string_of"), f_is_string_of), ((Str.ofString "is_word"), f_is_word), ((Str.ofString "is_direction"), f_is_direction), ((Str.ofString "inverse"), f_inverse), ((Str.ofString "_law_raises"), f_law_raises), ((Str.ofString "_law_stream"), f_law_stream), ((Str.ofString "_law_draw"), f_law_draw), ((Str.ofString "_law_names"), f_law_names), ((Str.ofString "_law_choose"), f_law_choose), ((Str.ofString "_law_concept"), f_law_concept), ((Str.ofString "_law_axiom"), f_law_axiom), ((Str.ofString "_law_allowed"), f_law_allowed), ((Str.ofString "_law_ontology"), f_law_ontology), ((Str.ofString "concept_names_of"), f_concept_names_of), ((Str.ofString "role_names_of"), f_role_names_of), ((Str.ofString "concepts_of"), f_concepts_of), ((Str.ofString "_law_expected"), f_law_expected), ((Str.ofString "law"), f_law)]
def gl : List (Str × A) := [((Str.ofString "DIRECTION_WORDS"), (A.tup [.str (Str.ofString "out"), .str (Str.ofString "in")])), ((Str.ofString "MAX_LENGTH"), (A.int 8)), ((Str.ofString "LETTERS"), (A.str (Str.ofString "abcdefghijklmnopqrstuvwxyz"))), ((Str.ofString "CONCEPT_AXIOMS"), (A.tup [.str (Str.ofString "subclass"), .str (Str.ofString "disjoint")])), ((Str.ofString "ROLE_AXIOMS"), (A.tup [.str (Str.ofString "subrole"), .str (Str.ofString "subrole_inverse"), .str (Str.ofString "disjoint_roles"), .str (Str.ofString "disjoint_inverse")]))]
def prg : Prg := ⟨wf, tbl, fun x => gl.lookup x, xt, kb, fun x => gdt.lookup x⟩
theorem s_f_is_string_of : FnScope f_is_string_of.ns f_is_string_of.ps (defScope (top 10)) := ⟨rfl, rfl, rfl, by decide +kernel, by decide +kernel, by decide +kernel, by decide +kernel⟩
theorem c_f_is_string_of : chkSs inf f_is_string_of.ns (defScope (top 10)) f_is_string_of.body (defBody (top 10)) = true := by decide +kernel
theorem s_f_is_word : FnScope f_is_word.ns f_is_word.ps (defScope (top 11)) := ⟨rfl, rfl, rfl, by decide +kernel, by decide +kernel, by decide +kernel, by decide +kernel⟩
theorem c_f_is_word : chkSs inf f_is_word.ns (defScope (top 11)) f_is_word.body (defBody (top 11)) = true := by decide +kernel
theorem s_f_is_direction : FnScope f_is_direction.ns f_is_direction.ps (defScope (top 12)) := ⟨rfl, rfl, rfl, by decide +kernel, by decide +kernel, by decide +kernel, by decide +kernel⟩
theorem c_f_is_direction : chkSs inf f_is_direction.ns (defScope (top 12)) f_is_direction.body (defBody (top 12)) = true := by decide +kernel
theorem s_f_inverse : FnScope f_inverse.ns f_inverse.ps (defScope (top 13)) := ⟨rfl, rfl, rfl, by decide +kernel, by decide +kernel, by decide +kernel, by decide +kernel⟩
theorem c_f_inverse : chkSs inf f_inverse.ns (defScope (top 13)) f_inverse.body (defBody (top 13)) = true := by decide +kernel
theorem s_f_law_raises : FnScope f_law_raises.ns f_law_raises.ps (defScope (top 27)) := ⟨rfl, rfl, rfl, by decide +kernel, by decide +kernel, by decide +kernel, by decide +kernel⟩
theorem c_f_law_raises : chkSs inf f_law_raises.ns (defScope (top 27)) f_law_raises.body (defBody (top 27)) = true := by decide +kernel
theorem s_f_law_stream : FnScope f_law_stream.ns f_law_stream.ps (defScope (top 18)) := ⟨rfl, rfl, rfl, by decide +kernel, by decide +kernel, by decide +kernel, by decide +kernel⟩
theorem c_f_law_stream : chkSs inf f_law_stream.ns (defScope (top 18)) f_law_stream.body (defBody (top 18)) = true := by decide +kernel
theorem s_f_law_draw : FnScope f_law_draw.ns f_law_draw.ps (defScope (top 19)) := ⟨rfl, rfl, rfl, by decide +kernel, by decide +kernel, by decide +kernel, by decide +kernel⟩
theorem c_f_law_draw : chkSs inf f_law_draw.ns (defScope (top 19)) f_law_draw.body (defBody (top 19)) = true := by decide +kernel
theorem s_f_law_names : FnScope f_law_names.ns f_law_names.ps (defScope (top 21)) := ⟨rfl, rfl, rfl, by decide +kernel, by decide +kernel, by decide +kernel, by decide +kernel⟩
theorem c_f_law_names : chkSs inf f_law_names.ns (defScope (top 21)) f_law_names.body (defBody (top 21)) = true := by decide +kernel
theorem s_f_law_choose : FnScope f_law_choose.ns f_law_choose.ps (defScope (top 20)) := ⟨rfl, rfl, rfl, by decide +kernel, by decide +kernel, by decide +kernel, by decide +kernel⟩
theorem c_f_law_choose : chkSs inf f_law_choose.ns (defScope (top 20)) f_law_choose.body (defBody (top 20)) = true := by decide +kernel
theorem s_f_law_concept : FnScope f_law_concept.ns f_law_concept.ps (defScope (top 22)) := ⟨rfl, rfl, rfl, by decide +kernel, by decide +kernel, by decide +kernel, by decide +kernel⟩
theorem c_f_law_concept : chkSs inf f_law_concept.ns (defScope (top 22)) f_law_concept.body (defBody (top 22)) = true := by decide +kernel
theorem s_f_law_axiom : FnScope f_law_axiom.ns f_law_axiom.ps (defScope (top 23)) := ⟨rfl, rfl, rfl, by decide +kernel, by decide +kernel, by decide +kernel, by decide +kernel⟩
theorem c_f_law_axiom : chkSs inf f_law_axiom.ns (defScope (top 23)) f_law_axiom.body (defBody (top 23)) = true := by decide +kernel
theorem s_f_law_allowed : FnScope f_law_allowed.ns f_law_allowed.ps (defScope (top 24)) := ⟨rfl, rfl, rfl, by decide +kernel, by decide +kernel, by decide +kernel, by decide +kernel⟩
theorem c_f_law_allowed : chkSs inf f_law_allowed.ns (defScope (top 24)) f_law_allowed.body (defBody (top 24)) = true := by decide +kernel
theorem s_f_law_ontology : FnScope f_law_ontology.ns f_law_ontology.ps (defScope (top 25)) := ⟨rfl, rfl, rfl, by decide +kernel, by decide +kernel, by decide +kernel, by decide +kernel⟩
theorem c_f_law_ontology : chkSs inf f_law_ontology.ns (defScope (top 25)) f_law_ontology.body (defBody (top 25)) = true := by decide +kernel
theorem s_f_concept_names_of : FnScope f_concept_names_of.ns f_concept_names_of.ps (defScope (top 15)) := ⟨rfl, rfl, rfl, by decide +kernel, by decide +kernel, by decide +kernel, by decide +kernel⟩
theorem c_f_concept_names_of : chkSs inf f_concept_names_of.ns (defScope (top 15)) f_concept_names_of.body (defBody (top 15)) = true := by decide +kernel
theorem s_f_role_names_of : FnScope f_role_names_of.ns f_role_names_of.ps (defScope (top 14)) := ⟨rfl, rfl, rfl, by decide +kernel, by decide +kernel, by decide +kernel, by decide +kernel⟩
theorem c_f_role_names_of : chkSs inf f_role_names_of.ns (defScope (top 14)) f_role_names_of.body (defBody (top 14)) = true := by decide +kernel
theorem s_f_concepts_of : FnScope f_concepts_of.ns f_concepts_of.ps (defScope (top 16)) := ⟨rfl, rfl, rfl, by decide +kernel, by decide +kernel, by decide +kernel, by decide +kernel⟩
theorem c_f_concepts_of : chkSs inf f_concepts_of.ns (defScope (top 16)) f_concepts_of.body (defBody (top 16)) = true := by decide +kernel
theorem s_f_law_expected : FnScope f_law_expected.ns f_law_expected.ps (defScope (top 26)) := ⟨rfl, rfl, rfl, by decide +kernel, by decide +kernel, by decide +kernel, by decide +kernel⟩
theorem c_f_law_expected : chkSs inf f_law_expected.ns (defScope (top 26)) f_law_expected.body (defBody (top 26)) = true := by decide +kernel
theorem s_f_law : FnScope f_law.ns f_law.ps (defScope (top 28)) := ⟨rfl, rfl, rfl, by decide +kernel, by decide +kernel, by decide +kernel, by decide +kernel⟩
theorem c_f_law : chkSs inf f_law.ns (defScope (top 28)) f_law.body (defBody (top 28)) = true := by decide +kernel
theorem lk_f_is_string_of : tbl.lookup (Str.ofString "is_string_of") = some f_is_string_of := lookup_by tbl 0 _ _ rfl (by decide +kernel)
theorem lk_f_is_word : tbl.lookup (Str.ofString "is_word") = some f_is_word := lookup_by tbl 1 _ _ rfl (by decide +kernel)
theorem lk_f_is_direction : tbl.lookup (Str.ofString "is_direction") = some f_is_direction := lookup_by tbl 2 _ _ rfl (by decide +kernel)
theorem lk_f_inverse : tbl.lookup (Str.ofString "inverse") = some f_inverse := lookup_by tbl 3 _ _ rfl (by decide +kernel)
theorem lk_f_law_raises : tbl.lookup (Str.ofString "_law_raises") = some f_law_raises := lookup_by tbl 4 _ _ rfl (by decide +kernel)
theorem lk_f_law_stream : tbl.lookup (Str.ofString "_law_stream") = some f_law_stream := lookup_by tbl 5 _ _ rfl (by decide +kernel)
theorem lk_f_law_draw : tbl.lookup (Str.ofString "_law_draw") = some f_law_draw := lookup_by tbl 6 _ _ rfl (by decide +kernel)
theorem lk_f_law_names : tbl.lookup (Str.ofString "_law_names") = some f_law_names := lookup_by tbl 7 _ _ rfl (by decide +kernel)
theorem lk_f_law_choose : tbl.lookup (Str.ofString "_law_choose") = some f_law_choose := lookup_by tbl 8 _ _ rfl (by decide +kernel)
theorem lk_f_law_concept : tbl.lookup (Str.ofString "_law_concept") = some f_law_concept := lookup_by tbl 9 _ _ rfl (by decide +kernel)
theorem lk_f_law_axiom : tbl.lookup (Str.ofString "_law_axiom") = some f_law_axiom := lookup_by tbl 10 _ _ rfl (by decide +kernel)
theorem lk_f_law_allowed : tbl.lookup (Str.ofString "_law_allowed") = some f_law_allowed := lookup_by tbl 11 _ _ rfl (by decide +kernel)
theorem lk_f_law_ontology : tbl.lookup (Str.ofString "_law_ontology") = some f_law_ontology := lookup_by tbl 12 _ _ rfl (by decide +kernel)
theorem lk_f_concept_names_of : tbl.lookup (Str.ofString "concept_names_of") = some f_concept_names_of := lookup_by tbl 13 _ _ rfl (by decide +kernel)
theorem lk_f_role_names_of : tbl.lookup (Str.ofString "role_names_of") = some f_role_names_of := lookup_by tbl 14 _ _ rfl (by decide +kernel)
theorem lk_f_concepts_of : tbl.lookup (Str.ofString "concepts_of") = some f_concepts_of := lookup_by tbl 15 _ _ rfl (by decide +kernel)
theorem lk_f_law_expected : tbl.lookup (Str.ofString "_law_expected") = some f_law_expected := lookup_by tbl 16 _ _ rfl (by decide +kernel)
theorem lk_f_law : tbl.lookup (Str.ofString "law") = some f_law := lookup_by tbl 17 _ _ rfl (by decide +kernel)
/-! the head -/
theorem all_mk {K : PySem.W.Frag} {w : World} {h : Heap} {mg : Str → Option Value} {f0 f1 f2 f3 f4 f5 f6 f7 f8 f9 f10 f11 f12 f13 f14 f15 f16 f17 : Addr} {od0 an0 od1 an1 od2 an2 od3 an3 od4 an4 od5 an5 od6 an6 od7 an7 od8 an8 od9 an9 od10 an10 od11 an11 od12 an12 od13 an13 od14 an14 od15 an15 od16 an16 od17 an17 : Option Addr} {sl0 sl1 sl2 sl3 sl4 sl5 sl6 sl7 sl8 sl9 sl10 sl11 sl12 sl13 sl14 sl15 sl16 sl17 : Array (Option Value)} {oc0 kV0 dc0 pm0 cd0 ct0 oc1 kV1 dc1 pm1 cd1 ct1 oc2 kV2 dc2 pm2 cd2 ct2 oc3 kV3 dc3 pm3 cd3 ct3 oc4 kV4 dc4 pm4 cd4 ct4 oc5 kV5 dc5 pm5 cd5 ct5 oc6 kV6 dc6 pm6 cd6 ct6 oc7 kV7 dc7 pm7 cd7 ct7 oc8 kV8 dc8 pm8 cd8 ct8 oc9 kV9 dc9 pm9 cd9 ct9 oc10 kV10 dc10 pm10 cd10 ct10 oc11 kV11 dc11 pm11 cd11 ct11 oc12 kV12 dc12 pm12 cd12 ct12 oc13 kV13 dc13 pm13 cd13 ct13 oc14 kV14 dc14 pm14 cd14 ct14 oc15 kV15 dc15 pm15 cd15 ct15 oc16 kV16 dc16 pm16 cd16 ct16 oc17 kV17 dc17 pm17 cd17 ct17 : Value} {gda0 : Addr} {gde0 : Array DictEntry} {gdn0 : Nat} {gdt0_0 : _} {gdt0_1 : _} {ga0 : Addr} {god0 : Option Addr} {gits0 : Array Value} {gn0 : Nat} {gsl0 : Array (Option Value)} {t1 : _} {t2 : _} {ga3 : Addr} {god3 : Option Addr} {gits3 : Array Value} {gn3 : Nat} {gsl3 : Array (Option Value)} {ga4 : Addr} {god4 : Option Addr} {gits4 : Array Value} {gn4 : Nat} {gsl4 : Array (Option Value)} {C0 : Addr} {C1 : Addr} (X : K.In h) (G : h.Ns mainGlobals mg)
    (a0 : PySem.W.nsIn K mainGlobals "is_string_of" = some (some (.ref f0)))
    (l0 : K.lookup f0 = some ⟨oc0, od0, .func (PySem.W.fnOf "is_string_of" "is_string_of" (defArgs (top 10)) (defBody (top 10)) (defScope (top 10)) .none kV0 dc0 pm0 an0 cd0 ct0), sl0⟩)
    (c0 : PySem.W.codeIn K cd0 "is_string_of" = true)
    (k0 : PySem.W.keepIn K (.ref f0) = true)
    (a1 : PySem.W.nsIn K mainGlobals "is_word" = some (some (.ref f1)))
    (l1 : K.lookup f1 = some ⟨oc1, od1, .func (PySem.W.fnOf "is_word" "is_word" (defArgs (top 11)) (defBody (top 11)) (defScope (top 11)) .none kV1 dc1 pm1 an1 cd1 ct1), sl1⟩)
    (c1 : PySem.W.codeIn K cd1 "is_word" = true)
    (k1 : PySem.W.keepIn K (.ref f1) = true)
    (a2 : PySem.W.nsIn K mainGlobals "is_direction" = some (some (.ref f2)))
    (l2 : K.lookup f2 = some ⟨oc2, od2, .func (PySem.W.fnOf "is_direction" "is_direction" (defArgs (top 12)) (defBody (top 12)) (defScope (top 12)) .none kV2 dc2 pm2 an2 cd2 ct2), sl2⟩)
    (c2 : PySem.W.codeIn K cd2 "is_direction" = true)
    (k2 : PySem.W.keepIn K (.ref f2) = true)
    (a3 : PySem.W.nsIn K mainGlobals "inverse" = some (some (.ref f3)))
    (l3 : K.lookup f3 = some ⟨oc3, od3, .func (PySem.W.fnOf "inverse" "inverse" (defArgs (top 13)) (defBody (top 13)) (defScope (top 13)) .none kV3 dc3 pm3 an3 cd3 ct3), sl3⟩)
    (c3 : PySem.W.codeIn K cd3 "inverse" = true)
    (k3 : PySem.W.keepIn K (.ref f3) = true)
    (a4 : PySem.W.nsIn K mainGlobals "_law_raises" = some (some (.ref f4)))
    (l4 : K.lookup f4 = some ⟨oc4, od4, .func (PySem.W.fnOf "_law_raises" "_law_raises" (defArgs (top 27)) (defBody (top 27)) (defScope (top 27)) .none kV4 dc4 pm4 an4 cd4 ct4), sl4⟩)
    (c4 : PySem.W.codeIn K cd4 "_law_raises" = true)
    (k4 : PySem.W.keepIn K (.ref f4) = true)
    (a5 : PySem.W.nsIn K mainGlobals "_law_stream" = some (some (.ref f5)))
    (l5 : K.lookup f5 = some ⟨oc5, od5, .func (PySem.W.fnOf "_law_stream" "_law_stream" (defArgs (top 18)) (defBody (top 18)) (defScope (top 18)) .none kV5 dc5 pm5 an5 cd5 ct5), sl5⟩)
    (c5 : PySem.W.codeIn K cd5 "_law_stream" = true)
    (k5 : PySem.W.keepIn K (.ref f5) = true)
    (a6 : PySem.W.nsIn K mainGlobals "_law_draw" = some (some (.ref f6)))
    (l6 : K.lookup f6 = some ⟨oc6, od6, .func (PySem.W.fnOf "_law_draw" "_law_draw" (defArgs (top 19)) (defBody (top 19)) (defScope (top 19)) .none kV6 dc6 pm6 an6 cd6 ct6), sl6⟩)
    (c6 : PySem.W.codeIn K cd6 "_law_draw" = true)
    (k6 : PySem.W.keepIn K (.ref f6) = true)
    (a7 : PySem.W.nsIn K mainGlobals "_law_names" = some (some (.ref f7)))
    (l7 : K.lookup f7 = some ⟨oc7, od7, .func (PySem.W.fnOf "_law_names" "_law_names" (defArgs (top 21)) (defBody (top 21)) (defScope (top 21)) .none kV7 dc7 pm7 an7 cd7 ct7), sl7⟩)
    (c7 : PySem.W.codeIn K cd7 "_law_names" = true)
    (k7 : PySem.W.keepIn K (.ref f7) = true)
    (a8 : PySem.W.nsIn K mainGlobals "_law_choose" = some (some (.ref f8)))
    (l8 : K.lookup f8 = some ⟨oc8, od8, .func (PySem.W.fnOf "_law_choose" "_law_choose" (defArgs (top 20)) (defBody (top 20)) (defScope (top 20)) .none kV8 dc8 pm8 an8 cd8 ct8), sl8⟩)
    (c8 : PySem.W.codeIn K cd8 "_law_choose" = true)
    (k8 : PySem.W.keepIn K (.ref f8) = true)
    (a9 : PySem.W.nsIn K mainGlobals "_law_concept" = some (some (.ref f9)))
    (l9 : K.lookup f9 = some ⟨oc9, od9, .func (PySem.W.fnOf "_law_concept" "_law_concept" (defArgs (top 22)) (defBody (top 22)) (defScope (top 22)) .none kV9 dc9 pm9 an9 cd9 ct9), sl9⟩)
    (c9 : PySem.W.codeIn K cd9 "_law_concept" = true)
    (k9 : PySem.W.keepIn K (.ref f9) = true)
    (a10 : PySem.W.nsIn K mainGlobals "_law_axiom" = some (some (.ref f10)))
    (l10 : K.lookup f10 = some ⟨oc10, od10, .func (PySem.W.fnOf "_law_axiom" "_law_axiom" (defArgs (top 23)) (defBody (top 23)) (defScope (top 23)) .none kV10 dc10 pm10 an10 cd10 ct10), sl10⟩)
    (c10 : PySem.W.codeIn K cd10 "_law_axiom" = true)
    (k10 : PySem.W.keepIn K (.ref f10) = true)
    (a11 : PySem.W.nsIn K mainGlobals "_law_allowed" = some (some (.ref f11)))
    (l11 : K.lookup f11 = some ⟨oc11, od11, .func (PySem.W.fnOf "_law_allowed" "_law_allowed" (defArgs (top 24)) (defBody (top 24)) (defScope (top 24)) .none kV11 dc11 pm11 an11 cd11 ct11), sl11⟩)
    (c11 : PySem.W.codeIn K cd11 "_law_allowed" = true)
    (k11 : PySem.W.keepIn K (.ref f11) = true)
    (a12 : PySem.W.nsIn K mainGlobals "_law_ontology" = some (some (.ref f12)))
    (l12 : K.lookup f12 = some ⟨oc12, od12, .func (PySem.W.fnOf "_law_ontology" "_law_ontology" (defArgs (top 25)) (defBody (top 25)) (defScope (top 25)) .none kV12 dc12 pm12 an12 cd12 ct12), sl12⟩)
    (c12 : PySem.W.codeIn K cd12 "_law_ontology" = true)
    (k12 : PySem.W.keepIn K (.ref f12) = true)
    (a13 : PySem.W.nsIn K mainGlobals "concept_names_of" = some (some (.ref f13)))
    (l13 : K.lookup f13 = some ⟨oc13, od13, .func (PySem.W.fnOf "concept_names_of" "concept_names_of" (defArgs (top 15)) (defBody (top 15)) (defScope (top 15)) .none kV13 dc13 pm13 an13 cd13 ct13), sl13⟩)
    (c13 : PySem.W.codeIn K cd13 "concept_names_of" = true)
    (k13 : PySem.W.keepIn K (.ref f13) = true)
    (a14 : PySem.W.nsIn K mainGlobals "role_names_of" = some (some (.ref f14)))
    (l14 : K.lookup f14 = some ⟨oc14, od14, .func (PySem.W.fnOf "role_names_of" "role_names_of" (defArgs (top 14)) (defBody (top 14)) (defScope (top 14)) .none kV14 dc14 pm14 an14 cd14 ct14), sl14⟩)
    (c14 : PySem.W.codeIn K cd14 "role_names_of" = true)
    (k14 : PySem.W.keepIn K (.ref f14) = true)
    (a15 : PySem.W.nsIn K mainGlobals "concepts_of" = some (some (.ref f15)))
    (l15 : K.lookup f15 = some ⟨oc15, od15, .func (PySem.W.fnOf "concepts_of" "concepts_of" (defArgs (top 16)) (defBody (top 16)) (defScope (top 16)) .none kV15 dc15 pm15 an15 cd15 ct15), sl15⟩)
    (c15 : PySem.W.codeIn K cd15 "concepts_of" = true)
    (k15 : PySem.W.keepIn K (.ref f15) = true)
    (a16 : PySem.W.nsIn K mainGlobals "_law_expected" = some (some (.ref f16)))
    (l16 : K.lookup f16 = some ⟨oc16, od16, .func (PySem.W.fnOf "_law_expected" "_law_expected" (defArgs (top 26)) (defBody (top 26)) (defScope (top 26)) .none kV16 dc16 pm16 an16 cd16 ct16), sl16⟩)
    (c16 : PySem.W.codeIn K cd16 "_law_expected" = true)
    (k16 : PySem.W.keepIn K (.ref f16) = true)
    (a17 : PySem.W.nsIn K mainGlobals "law" = some (some (.ref f17)))
    (l17 : K.lookup f17 = some ⟨oc17, od17, .func (PySem.W.fnOf "law" "law" (defArgs (top 28)) (defBody (top 28)) (defScope (top 28)) .none kV17 dc17 pm17 an17 cd17 ct17), sl17⟩)
    (c17 : PySem.W.codeIn K cd17 "law" = true)
    (k17 : PySem.W.keepIn K (.ref f17) = true)
    (z0 : PySem.W.nsIn K mainGlobals "all" = some none)
    (z1 : PySem.W.nsIn K mainGlobals "enumerate" = some none)
    (z2 : PySem.W.nsIn K mainGlobals "int" = some none)
    (z3 : PySem.W.nsIn K mainGlobals "isinstance" = some none)
    (z4 : PySem.W.nsIn K mainGlobals "len" = some none)
    (z5 : PySem.W.nsIn K mainGlobals "max" = some none)
    (z6 : PySem.W.nsIn K mainGlobals "min" = some none)
    (z7 : PySem.W.nsIn K mainGlobals "range" = some none)
    (z8 : PySem.W.nsIn K mainGlobals "repr" = some none)
    (z9 : PySem.W.nsIn K mainGlobals "set" = some none)
    (z10 : PySem.W.nsIn K mainGlobals "sorted" = some none)
    (z11 : PySem.W.nsIn K mainGlobals "str" = some none)
    (z12 : PySem.W.nsIn K mainGlobals "tuple" = some none)
    (aC0 : PySem.W.nsIn K mainGlobals "OntologyError" = some (some (.ref C0)))
    (aC1 : PySem.W.nsIn K mainGlobals "InvalidConcept" = some (some (.ref C1)))
    (xcl0 : PySem.W.isClsIn K C0 = true)
    (xty0 : PySem.W.typeIn K (.ref C0) = some (.type "type"))
    (xss0 : PySem.W.subIn K (.ref C0) (.ref C0) = some true)
    (xex0 : PySem.W.subIn K (.ref C0) (.type "BaseException") = some true)
    (xcl1 : PySem.W.isClsIn K C1 = true)
    (xty1 : PySem.W.typeIn K (.ref C1) = some (.type "type"))
    (xss1 : PySem.W.subIn K (.ref C1) (.ref C1) = some true)
    (xex1 : PySem.W.subIn K (.ref C1) (.type "BaseException") = some true)
    (xga1 : PySem.W.findIn K (.ref C1) "__getattribute__" = some (some (.builtin "BaseException.__getattribute__")))
    (xgg1 : PySem.W.findIn K (.ref C1) "__getattr__" = some none)
    (xhd1 : PySem.W.hasDictIn K C1 = true)
    (xha1 : PySem.W.findIn K (.ref C1) "__class__" = some (some (.builtin "object.__class__")))
    (xmo1 : PySem.W.mroIn K C1 (.type "object") = some true)
    (xkC1 : PySem.W.keepIn K (.ref C1) = true)
    (xin1 : PySem.W.excIn K C1 [.type "ValueError", .type "Exception", .type "BaseException", .type "object"] "ValueError.__new__" = true)
    (xhn : PySem.W.specialIn K (.builtin "object.__class__") "__get__" = some (some (.builtin "getset_descriptor.__get__")))
    (xht : PySem.W.takesIn K (.builtin "object.__class__") = some true)
    (xi1_0 : PySem.W.subIn K (.ref C1) (.type "ValueError") = some true)
    (zi0 : PySem.W.nsIn K mainGlobals "ValueError" = some none)
    (gdm0 : PySem.W.nsIn K mainGlobals "INVERSE_WORDS" = some (some (.ref gda0)))
    (gdl0 : K.lookup gda0 = some ⟨.type "dict", none, .dict gde0 gdn0, #[]⟩)
    (gdk0 : PySem.W.KeysLit w.params gde0.toList)
    (gdi0_0 : PySem.W.nsIn K gda0 "out" = some (some (.str (Str.ofString "in") gdt0_0)))
    (gdi0_1 : PySem.W.nsIn K gda0 "in" = some (some (.str (Str.ofString "out") gdt0_1)))
    (g0 : PySem.W.nsIn K mainGlobals "DIRECTION_WORDS" = some (some (.ref ga0)))
    (gl0 : K.lookup ga0 = some ⟨.type "tuple", god0, .seq gits0 gn0, gsl0⟩)
    (gz0 : gits0.size ≤ sizeLine)
    (gv0 : Vals ([.str (Str.ofString "out"), .str (Str.ofString "in")] : List V) gits0.toList)
    (g1 : PySem.W.nsIn K mainGlobals "MAX_LENGTH" = some (some (.int 8 t1)))
    (g2 : PySem.W.nsIn K mainGlobals "LETTERS" = some (some (.str (Str.ofString "abcdefghijklmnopqrstuvwxyz") t2)))
    (g3 : PySem.W.nsIn K mainGlobals "CONCEPT_AXIOMS" = some (some (.ref ga3)))
    (gl3 : K.lookup ga3 = some ⟨.type "tuple", god3, .seq gits3 gn3, gsl3⟩)
    (gz3 : gits3.size ≤ sizeLine)
    (gv3 : Vals ([.str (Str.ofString "subclass"), .str (Str.ofString "disjoint")] : List V) gits3.toList)
    (g4 : PySem.W.nsIn K mainGlobals "ROLE_AXIOMS" = some (some (.ref ga4)))
    (gl4 : K.lookup ga4 = some ⟨.type "tuple", god4, .seq gits4 gn4, gsl4⟩)
    (gz4 : gits4.size ≤ sizeLine)
    (gv4 : Vals ([.str (Str.ofString "subrole"), .str (Str.ofString "subrole_inverse"), .str (Str.ofString "disjoint_roles"), .str (Str.ofString "disjoint_inverse")] : List V) gits4.toList) :
    (∀ f ∈ inf.fns, ∃ d, tbl.lookup f = some d ∧ FnFact K mg inf f d) ∧ (∀ b ∈ inf.bs, mg b = none) ∧ (∀ x a, gl.lookup x = some a → GlobRep K mg x a) ∧ XtOk K mg inf.xt ∧ ∀ x ∈ inf.gds, ∃ l, gdt.lookup x = some l ∧ GDict K w mg x l := by
  have F0 := fun_mk (st := (top 10)) l0 c0 k0
  have b0 : (Str.ofString "is_string_of") ∉ inf.kwo → Binds K _ f_is_string_of.ps [] := fun _ => F0.binds (ps := f_is_string_of.ps) fun _ _ _ _ _ _ us hl => match us, hl with | [_, _], _ => rfl
  have F1 := fun_mk (st := (top 11)) l1 c1 k1
  have b1 : (Str.ofString "is_word") ∉ inf.kwo → Binds K _ f_is_word.ps [] := fun _ => F1.binds (ps := f_is_word.ps) fun _ _ _ _ _ _ us hl => match us, hl with | [_], _ => rfl
  have F2 := fun_mk (st := (top 12)) l2 c2 k2
  have b2 : (Str.ofString "is_direction") ∉ inf.kwo → Binds K _ f_is_direction.ps [] := fun _ => F2.binds (ps := f_is_direction.ps) fun _ _ _ _ _ _ us hl => match us, hl with | [_], _ => rfl
  have F3 := fun_mk (st := (top 13)) l3 c3 k3
  have b3 : (Str.ofString "inverse") ∉ inf.kwo → Binds K _ f_inverse.ps [] := fun _ => F3.binds (ps := f_inverse.ps) fun _ _ _ _ _ _ us hl => match us, hl with | [_], _ => rfl
  have A1 : KArr K _ f_inverse.ps 0 [(Str.ofString "direction")] [.arg 0] := KArr.kw (x := "inverse") (q := "inverse") (params := defArgs (top 13)) (body := defBody (top 13)) (scope := defScope (top 13)) (kV := kV3) (doc := dc3) (pm := pm3) (cdv := cd3) (ct := ct3) (an := an3) (oc := oc3) (od := od3) (K := K) (fd := PySem.W.fnOf "inverse" "inverse" (defArgs (top 13)) (defBody (top 13)) (defScope (top 13)) .none kV3 dc3 pm3 an3 cd3 ct3) (ps := f_inverse.ps) (ks := [(Str.ofString "direction")]) (n := 0) [0] (fun us ws l1 l2 => match us, ws, l1, l2 with | [], [_], _, _ => rfl)
  have F4 := fun_mk (st := (top 27)) l4 c4 k4
  have b4 : (Str.ofString "_law_raises") ∉ inf.kwo → Binds K _ f_law_raises.ps [] := fun _ => F4.binds (ps := f_law_raises.ps) fun _ _ _ _ _ _ us hl => match us, hl with | [_], _ => rfl
  have F5 := fun_mk (st := (top 18)) l5 c5 k5
  have b5 : (Str.ofString "_law_stream") ∉ inf.kwo → Binds K _ f_law_stream.ps [] := fun _ => F5.binds (ps := f_law_stream.ps) fun _ _ _ _ _ _ us hl => match us, hl with | [_, _], _ => rfl
  have F6 := fun_mk (st := (top 19)) l6 c6 k6
  have b6 : (Str.ofString "_law_draw") ∉ inf.kwo → Binds K _ f_law_draw.ps [] := fun _ => F6.binds (ps := f_law_draw.ps) fun _ _ _ _ _ _ us hl => match us, hl with | [_, _], _ => rfl
  have F7 := fun_mk (st := (top 21)) l7 c7 k7
  have b7 : (Str.ofString "_law_names") ∉ inf.kwo → Binds K _ f_law_names.ps [] := fun _ => F7.binds (ps := f_law_names.ps) fun _ _ _ _ _ _ us hl => match us, hl with | [_], _ => rfl
  have F8 := fun_mk (st := (top 20)) l8 c8 k8
  have b8 : (Str.ofString "_law_choose") ∉ inf.kwo → Binds K _ f_law_choose.ps [] := fun _ => F8.binds (ps := f_law_choose.ps) fun _ _ _ _ _ _ us hl => match us, hl with | [_, _], _ => rfl
  have F9 := fun_mk (st := (top 22)) l9 c9 k9
  have b9 : (Str.ofString "_law_concept") ∉ inf.kwo → Binds K _ f_law_concept.ps [] := fun _ => F9.binds (ps := f_law_concept.ps) fun _ _ _ _ _ _ us hl => match us, hl with | [_, _], _ => rfl
  have F10 := fun_mk (st := (top 23)) l10 c10 k10
  have b10 : (Str.ofString "_law_axiom") ∉ inf.kwo → Binds K _ f_law_axiom.ps [] := fun _ => F10.binds (ps := f_law_axiom.ps) fun _ _ _ _ _ _ us hl => match us, hl with | [_, _, _], _ => rfl
  have F11 := fun_mk (st := (top 24)) l11 c11 k11
  have b11 : (Str.ofString "_law_allowed") ∉ inf.kwo → Binds K _ f_law_allowed.ps [] := fun _ => F11.binds (ps := f_law_allowed.ps) fun _ _ _ _ _ _ us hl => match us, hl with | [_], _ => rfl
  have F12 := fun_mk (st := (top 25)) l12 c12 k12
  have b12 : (Str.ofString "_law_ontology") ∉ inf.kwo → Binds K _ f_law_ontology.ps [] := fun _ => F12.binds (ps := f_law_ontology.ps) fun _ _ _ _ _ _ us hl => match us, hl with | [_, _, _, _], _ => rfl
  have F13 := fun_mk (st := (top 15)) l13 c13 k13
  have b13 : (Str.ofString "concept_names_of") ∉ inf.kwo → Binds K _ f_concept_names_of.ps [] := fun _ => F13.binds (ps := f_concept_names_of.ps) fun _ _ _ _ _ _ us hl => match us, hl with | [_], _ => rfl
  have F14 := fun_mk (st := (top 14)) l14 c14 k14
  have b14 : (Str.ofString "role_names_of") ∉ inf.kwo → Binds K _ f_role_names_of.ps [] := fun _ => F14.binds (ps := f_role_names_of.ps) fun _ _ _ _ _ _ us hl => match us, hl with | [_], _ => rfl
  have F15 := fun_mk (st := (top 16)) l15 c15 k15
  have b15 : (Str.ofString "concepts_of") ∉ inf.kwo → Binds K _ f_concepts_of.ps [] := fun _ => F15.binds (ps := f_concepts_of.ps) fun _ _ _ _ _ _ us hl => match us, hl with | [_], _ => rfl
  have A0 : KArr K _ f_concepts_of.ps 0 [(Str.ofString "ontology")] [.arg 0] := KArr.kw (x := "concepts_of") (q := "concepts_of") (params := defArgs (top 16)) (body := defBody (top 16)) (scope := defScope (top 16)) (kV := kV15) (doc := dc15) (pm := pm15) (cdv := cd15) (ct := ct15) (an := an15) (oc := oc15) (od := od15) (K := K) (fd := PySem.W.fnOf "concepts_of" "concepts_of" (defArgs (top 16)) (defBody (top 16)) (defScope (top 16)) .none kV15 dc15 pm15 an15 cd15 ct15) (ps := f_concepts_of.ps) (ks := [(Str.ofString "ontology")]) (n := 0) [0] (fun us ws l1 l2 => match us, ws, l1, l2 with | [], [_], _, _ => rfl)
  have F16 := fun_mk (st := (top 26)) l16 c16 k16
  have b16 : (Str.ofString "_law_expected") ∉ inf.kwo → Binds K _ f_law_expected.ps [] := fun _ => F16.binds (ps := f_law_expected.ps) fun _ _ _ _ _ _ us hl => match us, hl with | [_], _ => rfl
  have F17 := fun_mk (st := (top 28)) l17 c17 k17
  have b17 : (Str.ofString "law") ∉ inf.kwo → Binds K _ f_law.ps [] := fun _ => F17.binds (ps := f_law.ps) fun _ _ _ _ _ _ us hl => match us, hl with | [_], _ => rfl
  refine ⟨fun f hf => ?_, fun b hb => ?_, fun x a e => ?_, ?_, ?_⟩
  · simp only [inf, List.mem_cons, List.not_mem_nil, or_false] at hf
    rcases hf with rfl | rfl | rfl | rfl | rfl | rfl | rfl | rfl | rfl | rfl | rfl | rfl | rfl | rfl | rfl | rfl | rfl | rfl
    · exact ⟨f_is_string_of, lk_f_is_string_of, ⟨f0, _, top 10, PySem.W.mg_of X G a0, F0, ⟨b0, fun n ks ss e => kb_all (kb := kb) (fun q hq hf => by
        simp only [kb, List.mem_cons, List.not_mem_nil, or_false] at hq
        rcases hq with rfl | rfl
        · exact absurd hf (by decide +kernel)
        · exact absurd hf (by decide +kernel)
        ) n ks ss e⟩, s_f_is_string_of, c_f_is_string_of⟩⟩
    · exact ⟨f_is_word, lk_f_is_word, ⟨f1, _, top 11, PySem.W.mg_of X G a1, F1, ⟨b1, fun n ks ss e => kb_all (kb := kb) (fun q hq hf => by
        simp only [kb, List.mem_cons, List.not_mem_nil, or_false] at hq
        rcases hq with rfl | rfl
        · exact absurd hf (by decide +kernel)
        · exact absurd hf (by decide +kernel)
        ) n ks ss e⟩, s_f_is_word, c_f_is_word⟩⟩
    · exact ⟨f_is_direction, lk_f_is_direction, ⟨f2, _, top 12, PySem.W.mg_of X G a2, F2, ⟨b2, fun n ks ss e => kb_all (kb := kb) (fun q hq hf => by
        simp only [kb, List.mem_cons, List.not_mem_nil, or_false] at hq
        rcases hq with rfl | rfl
        · exact absurd hf (by decide +kernel)
        · exact absurd hf (by decide +kernel)
        ) n ks ss e⟩, s_f_is_direction, c_f_is_direction⟩⟩
    · exact ⟨f_inverse, lk_f_inverse, ⟨f3, _, top 13, PySem.W.mg_of X G a3, F3, ⟨b3, fun n ks ss e => kb_all (kb := kb) (fun q hq hf => by
        simp only [kb, List.mem_cons, List.not_mem_nil, or_false] at hq
        rcases hq with rfl | rfl
        · exact absurd hf (by decide +kernel)
        · exact A1
        ) n ks ss e⟩, s_f_inverse, c_f_inverse⟩⟩
    · exact ⟨f_law_raises, lk_f_law_raises, ⟨f4, _, top 27, PySem.W.mg_of X G a4, F4, ⟨b4, fun n ks ss e => kb_all (kb := kb) (fun q hq hf => by
        simp only [kb, List.mem_cons, List.not_mem_nil, or_false] at hq
        rcases hq with rfl | rfl
        · exact absurd hf (by decide +kernel)
        · exact absurd hf (by decide +kernel)
        ) n ks ss e⟩, s_f_law_raises, c_f_law_raises⟩⟩
    · exact ⟨f_law_stream, lk_f_law_stream, ⟨f5, _, top 18, PySem.W.mg_of X G a5, F5, ⟨b5, fun n ks ss e => kb_all (kb := kb) (fun q hq hf => by
        simp only [kb, List.mem_cons, List.not_mem_nil, or_false] at hq
        rcases hq with rfl | rfl
        · exact absurd hf (by decide +kernel)
        · exact absurd hf (by decide +kernel)
        ) n ks ss e⟩, s_f_law_stream, c_f_law_stream⟩⟩
    · exact ⟨f_law_draw, lk_f_law_draw, ⟨f6, _, top 19, PySem.W.mg_of X G a6, F6, ⟨b6, fun n ks ss e => kb_all (kb := kb) (fun q hq hf => by
        simp only [kb, List.mem_cons, List.not_mem_nil, or_false] at hq
        rcases hq with rfl | rfl
        · exact absurd hf (by decide +kernel)
        · exact absurd hf (by decide +kernel)
        ) n ks ss e⟩, s_f_law_draw, c_f_law_draw⟩⟩
    · exact ⟨f_law_names, lk_f_law_names, ⟨f7, _, top 21, PySem.W.mg_of X G a7, F7, ⟨b7, fun n ks ss e => kb_all (kb := kb) (fun q hq hf => by
        simp only [kb, List.mem_cons, List.not_mem_nil, or_false] at hq
        rcases hq with rfl | rfl
        · exact absurd hf (by decide +kernel)
        · exact absurd hf (by decide +kernel)
        ) n ks ss e⟩, s_f_law_names, c_f_law_names⟩⟩
    · exact ⟨f_law_choose, lk_f_law_choose, ⟨f8, _, top 20, PySem.W.mg_of X G a8, F8, ⟨b8, fun n ks ss e => kb_all (kb := kb) (fun q hq hf => by
        simp only [kb, List.mem_cons, List.not_mem_nil, or_false] at hq
        rcases hq with rfl | rfl
        · exact absurd hf (by decide +kernel)
        · exact absurd hf (by decide +kernel)
        ) n ks ss e⟩, s_f_law_choose, c_f_law_choose⟩⟩
    · exact ⟨f_law_concept, lk_f_law_concept, ⟨f9, _, top 22, PySem.W.mg_of X G a9, F9, ⟨b9, fun n ks ss e => kb_all (kb := kb) (fun q hq hf => by
        simp only [kb, List.mem_cons, List.not_mem_nil, or_false] at hq
        rcases hq with rfl | rfl
        · exact absurd hf (by decide +kernel)
        · exact absurd hf (by decide +kernel)
        ) n ks ss e⟩, s_f_law_concept, c_f_law_concept⟩⟩
    · exact ⟨f_law_axiom, lk_f_law_axiom, ⟨f10, _, top 23, PySem.W.mg_of X G a10, F10, ⟨b10, fun n ks ss e => kb_all (kb := kb) (fun q hq hf => by
        simp only [kb, List.mem_cons, List.not_mem_nil, or_false] at hq
        rcases hq with rfl | rfl
        · exact absurd hf (by decide +kernel)
        · exact absurd hf (by decide +kernel)
        ) n ks ss e⟩, s_f_law_axiom, c_f_law_axiom⟩⟩
    · exact ⟨f_law_allowed, lk_f_law_allowed, ⟨f11, _, top 24, PySem.W.mg_of X G a11, F11, ⟨b11, fun n ks ss e => kb_all (kb := kb) (fun q hq hf => by
        simp only [kb, List.mem_cons, List.not_mem_nil, or_false] at hq
        rcases hq with rfl | rfl
        · exact absurd hf (by decide +kernel)
        · exact absurd hf (by decide +kernel)
        ) n ks ss e⟩, s_f_law_allowed, c_f_law_allowed⟩⟩
    · exact ⟨f_law_ontology, lk_f_law_ontology, ⟨f12, _, top 25, PySem.W.mg_of X G a12, F12, ⟨b12, fun n ks ss e => kb_all (kb := kb) (fun q hq hf => by
        simp only [kb, List.mem_cons, List.not_mem_nil, or_false] at hq
        rcases hq with rfl | rfl
        · exact absurd hf (by decide +kernel)
        · exact absurd hf (by decide +kernel)
        ) n ks ss e⟩, s_f_law_ontology, c_f_law_ontology⟩⟩
    · exact ⟨f_concept_names_of, lk_f_concept_names_of, ⟨f13, _, top 15, PySem.W.mg_of X G a13, F13, ⟨b13, fun n ks ss e => kb_all (kb := kb) (fun q hq hf => by
        simp only [kb, List.mem_cons, List.not_mem_nil, or_false] at hq
        rcases hq with rfl | rfl
        · exact absurd hf (by decide +kernel)
        · exact absurd hf (by decide +kernel)
        ) n ks ss e⟩, s_f_concept_names_of, c_f_concept_names_of⟩⟩
    · exact ⟨f_role_names_of, lk_f_role_names_of, ⟨f14, _, top 14, PySem.W.mg_of X G a14, F14, ⟨b14, fun n ks ss e => kb_all (kb := kb) (fun q hq hf => by
        simp only [kb, List.mem_cons, List.not_mem_nil, or_false] at hq
        rcases hq with rfl | rfl
        · exact absurd hf (by decide +kernel)
        · exact absurd hf (by decide +kernel)
        ) n ks ss e⟩, s_f_role_names_of, c_f_role_names_of⟩⟩
    · exact ⟨f_concepts_of, lk_f_concepts_of, ⟨f15, _, top 16, PySem.W.mg_of X G a15, F15, ⟨b15, fun n ks ss e => kb_all (kb := kb) (fun q hq hf => by
        simp only [kb, List.mem_cons, List.not_mem_nil, or_false] at hq
        rcases hq with rfl | rfl
        · exact A0
        · exact absurd hf (by decide +kernel)
        ) n ks ss e⟩, s_f_concepts_of, c_f_concepts_of⟩⟩
    · exact ⟨f_law_expected, lk_f_law_expected, ⟨f16, _, top 26, PySem.W.mg_of X G a16, F16, ⟨b16, fun n ks ss e => kb_all (kb := kb) (fun q hq hf => by
        simp only [kb, List.mem_cons, List.not_mem_nil, or_false] at hq
        rcases hq with rfl | rfl
        · exact absurd hf (by decide +kernel)
        · exact absurd hf (by decide +kernel)
        ) n ks ss e⟩, s_f_law_expected, c_f_law_expected⟩⟩
    · exact ⟨f_law, lk_f_law, ⟨f17, _, top 28, PySem.W.mg_of X G a17, F17, ⟨b17, fun n ks ss e => kb_all (kb := kb) (fun q hq hf => by
        simp only [kb, List.mem_cons, List.not_mem_nil, or_false] at hq
        rcases hq with rfl | rfl
        · exact absurd hf (by decide +kernel)
        · exact absurd hf (by decide +kernel)
        ) n ks ss e⟩, s_f_law, c_f_law⟩⟩
  · simp only [inf, List.mem_cons, List.not_mem_nil, or_false] at hb
    rcases hb with rfl | rfl | rfl | rfl | rfl | rfl | rfl | rfl | rfl | rfl | rfl | rfl | rfl
    · exact PySem.W.mg_none_of X G z0
    · exact PySem.W.mg_none_of X G z1
    · exact PySem.W.mg_none_of X G z2
    · exact PySem.W.mg_none_of X G z3
    · exact PySem.W.mg_none_of X G z4
    · exact PySem.W.mg_none_of X G z5
    · exact PySem.W.mg_none_of X G z6
    · exact PySem.W.mg_none_of X G z7
    · exact PySem.W.mg_none_of X G z8
    · exact PySem.W.mg_none_of X G z9
    · exact PySem.W.mg_none_of X G z10
    · exact PySem.W.mg_none_of X G z11
    · exact PySem.W.mg_none_of X G z12
  · refine glob_all (l := gl) ?_ x a e
    intro q hq
    simp only [gl, List.mem_cons, List.not_mem_nil, or_false] at hq
    rcases hq with rfl | rfl | rfl | rfl | rfl
    · exact glob_tup [(Str.ofString "out"), (Str.ofString "in")] (PySem.W.mg_of X G g0) gl0 gz0 gv0
    · exact glob_int (PySem.W.mg_of X G g1)
    · exact glob_str (PySem.W.mg_of X G g2)
    · exact glob_tup [(Str.ofString "subclass"), (Str.ofString "disjoint")] (PySem.W.mg_of X G g3) gl3 gz3 gv3
    · exact glob_tup [(Str.ofString "subrole"), (Str.ofString "subrole_inverse"), (Str.ofString "disjoint_roles"), (Str.ofString "disjoint_inverse")] (PySem.W.mg_of X G g4) gl4 gz4 gv4
  · have I1 : IsiC K C1 := ⟨xcl1, xga1, xgg1, xex1, xhd1, xha1, xhn, xht, xmo1⟩
    have O1 : BareC K C1 := ⟨⟨_, _, _, _, PySem.F.excBase_ValueError, xin1⟩, xkC1, xex1, xty1⟩
    refine ⟨fun c f h => lk_all (P := fun c f => okName c = true ∧ ∃ C, mg c = some (.ref C) ∧ IsiC K C ∧ match f with | some f => OwnC K mg c f C | none => BareC K C) (l := inf.xt.cls) ?_ c f h, fun n c b h => lk_all (P := fun (p : Str × Str) b => okName p.2 = true ∧ ∃ C D, mg p.1 = some (.ref C) ∧ mg p.2 = some (.ref D) ∧ PySem.W.exmOne K (.ref C) (.ref D) = some b) (l := inf.xt.exm) ?_ (n, c) b h, fun n c b h => lk_all (P := fun (p : Str × Str) b => okName p.2 = true ∧ (∃ f, inf.xt.cls.lookup p.1 = some f) ∧ ∃ C cv v, mg p.1 = some (.ref C) ∧ ClsNm mg p.2 cv v ∧ PySem.W.kitOne K (.ref C) cv = some b) (l := inf.xt.isc) ?_ (n, c) b h⟩
    · intro q hq
      simp only [inf, xt, List.mem_cons, List.not_mem_nil, or_false] at hq
      rcases hq with rfl
      · exact ⟨by decide +kernel, C1, PySem.W.mg_of X G aC1, I1, O1⟩
    · intro q hq
      simp only [inf, xt, List.mem_cons, List.not_mem_nil, or_false] at hq
      rcases hq with rfl
      · exact ⟨by decide +kernel, C1, C1, PySem.W.mg_of X G aC1, PySem.W.mg_of X G aC1, exm_of xex1 xcl1 xty1 xss1⟩
    · intro q hq
      simp only [inf, xt, List.mem_cons, List.not_mem_nil, or_false] at hq
      rcases hq with rfl
      · exact ⟨by decide +kernel, ⟨none, by decide +kernel⟩, C1, _, _, PySem.W.mg_of X G aC1, .inr ⟨"ValueError", rfl, rfl, PySem.W.mg_none_of X G zi0, by decide +kernel⟩, kit_type (by decide +kernel) xi1_0⟩
  · intro x hx
    simp only [inf, List.mem_cons, List.not_mem_nil, or_false] at hx
    rcases hx with rfl
    · refine ⟨_, (by simp [gdt, List.lookup] : gdt.lookup (Str.ofString "INVERSE_WORDS") = some _), gdict_mk (l := [((Str.ofString "out"), (Str.ofString "in")), ((Str.ofString "in"), (Str.ofString "out"))]) (PySem.W.mg_of X G gdm0) gdl0 gdk0 ?_⟩
      intro q hq
      simp only [List.mem_cons, List.not_mem_nil, or_false] at hq
      rcases hq with rfl | rfl
      · exact ⟨_, gdi0_0⟩
      · exact ⟨_, gdi0_1⟩
theorem walk {l : PySem.W.OpenLaw} {q : Program} {loose : List Str} {XP : (Str → Option Value) → Heap → Prop} {YP : World → Heap → Prop} {d : DefRec} {K : Params → PySem.W.Frag} (hn : l.most = some 63) (hdf : d.params.defaults = []) (hnm : d.name = Str.ofString "law") (hin : importsNone q = true)
    (hY : ∀ (w : World) (h : Heap), YP w h → (K w.params).In h)
    (F : ∀ (w : World) (mg : Str → Option Value) (h : Heap), (K w.params).In h → h.Ns mainGlobals mg →
      (∀ f ∈ inf.fns, ∃ d, tbl.lookup f = some d ∧ FnFact (K w.params) mg inf f d) ∧ (∀ b ∈ inf.bs, mg b = none) ∧ (∀ x a, gl.lookup x = some a → GlobRep (K w.params) mg x a) ∧ XtOk (K w.params) mg inf.xt ∧ ∀ x ∈ inf.gds, ∃ l, gdt.lookup x = some l ∧ GDict (K w.params) w mg x l)
    (hrun : ∀ ns : List Int, ns.length ≤ 63 → ∃ M, runF prg (dep + 1) (Str.ofString "law") [scriptA ns] [] = .ok (.bl true) M) :
    PySem.W.WalkO q loose XP YP l.row.toRowW d [] (fun f vs => PySem.call f vs) :=
  walk_mp (n := 63) (k := dep) (x := (Str.ofString "_law_script")) inf prg f_law hn (by decide) hdf ⟨rfl, by decide, by decide⟩ hY hin (by rw [hnm]; exact lk_f_law) rfl (by rw [hnm]; decide +kernel) F rfl rfl (by rw [hnm]; decide +kernel) (by rw [hnm]; exact hrun)
end K03

namespace K03
open PySem MP
abbrev PP (k : Nat) : Par := ⟨runF prg k, prg.G, prg.wf, prg.xt, prg.kb, prg.gd⟩
abbrev sx (t : String) : A := .str (Str.ofString t)
theorem hDi : HasDi prg := ⟨lk_f_is_string_of, lk_f_is_word, lk_f_is_direction, lookup_by gl 1 _ _ rfl (by decide +kernel), lookup_by gl 2 _ _ rfl (by decide +kernel), lookup_by gl 0 _ _ rfl (by decide +kernel)⟩
theorem hOnt : HasOnt prg := ⟨⟨⟨lk_f_law_stream, lk_f_law_draw, lk_f_law_choose, lk_f_law_names⟩, lk_f_law_concept, lk_f_law_axiom⟩, lk_f_law_allowed, lk_f_law_ontology⟩
theorem hDr : HasDraw prg := hOnt.toHasDraw
theorem gCA : prg.G (Str.ofString "CONCEPT_AXIOMS") = some (.tup [.str tSub, .str tDis]) := lookup_by gl 3 _ _ rfl (by decide +kernel)
theorem gRA : prg.G (Str.ofString "ROLE_AXIOMS") = some (.tup [.str tSr, .str tSi, .str tDr, .str tDi]) := lookup_by gl 4 _ _ rfl (by decide +kernel)
theorem gDW : prg.G (Str.ofString "DIRECTION_WORDS") = some (.tup [.str tOut, .str tIn]) := lookup_by gl 0 _ _ rfl (by decide +kernel)
theorem gIW : prg.gd (Str.ofString "INVERSE_WORDS") = some [(tOut, .str tIn), (tIn, .str tOut)] := rfl
/-! inverse -/
theorem r_inv (k : Nat) (M : Mem) (u x : Str) (hu : u = tOut ∨ u = tIn) (hx : isW (.str x) = true) : runF prg (k + 4) (Str.ofString "inverse") [.tup [.str u, .str x]] M = .ok (.tup [.str (invW u), .str x]) M := by
  have ht : tr1 (.tup [.str u, .str x]) = true := by
    refine Cn.tr1 ⟨u, x, rfl, ?_, hx⟩
    rcases hu with rfl | rfl
    · exact .inr (.inl rfl)
    · exact .inr (.inr rfl)
  have hd : isDir (.tup [.str u, .str x]) = true := by
    simp only [isDir, hx, Bool.and_true]
    rcases hu with rfl | rfl <;> decide +kernel
  have e := r_is_direction hDi k M (.tup [.str u, .str x]) ht
  rw [hd] at e
  rw [run_def lk_f_inverse]
  have z2 : (2 : Nat) ≤ sizeLine := by decide
  rcases hu with rfl | rfl
  · simp [evSs, evS, evE, evEs, evT, evTs, evO, evI, retOf, startA, cA, isiA, tyA, isiT, outB, outT, outV, outI, truA, one?, ints2?, two?, bltA, blt1, blt2, toIntA, idxA, asSeq, asL, cmpB, ltA, ltI, binA, addA, binN, MP.binI, mulA, repL, isI, setA, isX, isNone?, isNon, seqItems, asD, idxS, recvOk, methA, appA, f_inverse, e, bindT, setAll, gIW, gix_out, z2, invW]
  · simp [evSs, evS, evE, evEs, evT, evTs, evO, evI, retOf, startA, cA, isiA, tyA, isiT, outB, outT, outV, outI, truA, one?, ints2?, two?, bltA, blt1, blt2, toIntA, idxA, asSeq, asL, cmpB, ltA, ltI, binA, addA, binN, MP.binI, mulA, repL, isI, setA, isX, isNone?, isNon, seqItems, asD, idxS, recvOk, methA, appA, f_inverse, e, bindT, setAll, gIW, gix_in, z2, invW, nIO]
abbrev cIC : Str := Str.ofString "InvalidConcept"
theorem xtc : prg.xt.cls.lookup cIC = some none := by decide +kernel
theorem xte : prg.xt.exm.lookup (cIC, cIC) = some true := by decide +kernel
theorem xti : prg.xt.isc.lookup (cIC, Str.ofString "ValueError") = some true := by decide +kernel
theorem r_raises (k : Nat) (M : Mem) (v : A) (hv : tr1 v = true) (hd : isDir v = false) : runF prg (k + 5) (Str.ofString "_law_raises") [v] M = .ok (.bl true) M := by
  have e := r_is_direction hDi k M v hv
  rw [hd] at e
  have e2 : runF prg (k + 4) (Str.ofString "inverse") [v] M = .exc ⟨cIC, none⟩ M := by
    rw [run_def lk_f_inverse]
    simp [evSs, evS, evE, evEs, evT, evTs, evO, evI, retOf, startA, cA, isiA, tyA, isiT, outB, outT, outV, outI, truA, one?, ints2?, two?, bltA, blt1, blt2, toIntA, idxA, asSeq, asL, cmpB, ltA, ltI, binA, addA, binN, MP.binI, mulA, repL, isI, setA, isX, isNone?, isNon, seqItems, asD, idxS, recvOk, methA, appA, f_inverse, e, xtc]
  rw [run_def lk_f_law_raises]
  simp [evSs, evS, evE, evEs, evT, evTs, evO, evI, retOf, startA, cA, isiA, tyA, isiT, outB, outT, outV, outI, truA, one?, ints2?, two?, bltA, blt1, blt2, toIntA, idxA, asSeq, asL, cmpB, ltA, ltI, binA, addA, binN, MP.binI, mulA, repL, isI, setA, isX, isNone?, isNon, seqItems, asD, idxS, recvOk, methA, appA, f_law_raises, e2, tbA, clauseA, xte, xtc, xti, evHSs, evHS, evH, evHs, evHT, unN]
def badL : List A := [.non, .bl true, sx "r", .tup [], .tup [sx "concept", sx "a"], .tup [sx "out"], .tup [sx "out", .int 5], .lst [sx "out", sx "r"], .tup [sx "in", sx "R"], .tup [.dct [], sx "r"], .dct []]
theorem bad_ok : badL.all (fun v => tr1 v && !isDir v) = true := by decide +kernel
/-! comprehensions with two fors -/
theorem lF2_map (P : Par) (vs1 : List Nat) (elt : E) (tg1 : Tg) (n : Nat) (ς2 : MP.Loc) (g : A → A) : ∀ (ys acc : List A) (M : Mem), M[n]? = some (.lst acc) → acc.length + ys.length ≤ 1000 → (∀ y ∈ ys, ∃ ς3, bindT tg1 y (wipeA ς2 vs1) = some ς3 ∧ ∀ M, evE P elt ς3 M = .ok (g y) M) →
    ∃ M', forU (lF2 P vs1 elt tg1 [] n ς2) ys M = .ok () M' ∧ M'[n]? = some (.lst (acc ++ ys.map g)) ∧ FrX n M M'
  | [], acc, M, hn, _, _ => ⟨M, rfl, by simpa using hn, FrX.refl n M⟩
  | y :: ys, acc, M, hn, hl, h => by
    obtain ⟨ς3, hb, he⟩ := h y List.mem_cons_self
    have hz : acc.length < sizeLine := smallLt (m := 1000) (by simp at hl; omega)
    have hnl : n < M.length := (List.getElem?_eq_some_iff.mp hn).1
    have st : lF2 P vs1 elt tg1 [] n ς2 y M = .ok () (M.set n (.lst (acc ++ [g y]))) := by
      unfold lF2
      rw [hb]
      simp only [evTs, Out.bind_ok, if_true, he, pushU, hn, hz]
    obtain ⟨M', e, a, b⟩ := lF2_map P vs1 elt tg1 n ς2 g ys (acc ++ [g y]) (M.set n (.lst (acc ++ [g y]))) (List.getElem?_set_self hnl) (by simp at hl ⊢; omega) fun z hz => h z (List.mem_cons_of_mem _ hz)
    refine ⟨M', ?_, by rw [a]; simp, FrX.trans ⟨by simp, fun m _ hm => by rw [List.getElem?_set_ne (Ne.symm hm)]⟩ b⟩
    rw [forU, st, Out.bind_ok]; exact e
theorem lF1_flat (P : Par) (vs vs1 : List Nat) (elt : E) (tg : Tg) (ifs : List E) (tg1 : Tg) (it1 : MP.It) (n : Nat) (ς : MP.Loc) (c : A → Bool) (ys : A → List A) (g : A → A → A) (B : Nat) : ∀ (xs acc : List A) (M : Mem), M[n]? = some (.lst acc) → acc.length + B * xs.length ≤ 1000 →
    (∀ x ∈ xs, (ys x).length ≤ B ∧ ∃ ς2, bindT tg x (wipeA ς vs) = some ς2 ∧ ∀ M, evTs P ifs ς2 M = .ok (c x) M ∧ (c x = true → ∃ M1, evI P it1 ς2 M = .ok (ys x) M1 ∧ Xt M M1) ∧ (c x = true → ∀ y ∈ ys x, ∃ ς3, bindT tg1 y (wipeA ς2 vs1) = some ς3 ∧ ∀ M, evE P elt ς3 M = .ok (g x y) M)) →
    ∃ M', forU (lF1 P vs vs1 elt tg ifs tg1 it1 [] n ς) xs M = .ok () M' ∧ M'[n]? = some (.lst (acc ++ xs.flatMap fun x => if c x = true then (ys x).map (g x) else [])) ∧ FrX n M M'
  | [], acc, M, hn, _, _ => ⟨M, rfl, by simpa using hn, FrX.refl n M⟩
  | x :: xs, acc, M, hn, hl, h => by
    obtain ⟨hlx, ς2, hb, he⟩ := h x List.mem_cons_self
    obtain ⟨e1, e2, e3⟩ := he M
    have hmul : B * (x :: xs).length = B * xs.length + B := by rw [List.length_cons, Nat.mul_succ]
    cases hc : c x with
    | false =>
      have st : lF1 P vs vs1 elt tg ifs tg1 it1 [] n ς x M = .ok () M := by
        unfold lF1
        rw [hb]
        simp only [e1, hc, Out.bind_ok, Bool.false_eq_true, if_false]
      obtain ⟨M', e, a, b⟩ := lF1_flat P vs vs1 elt tg ifs tg1 it1 n ς c ys g B xs acc M hn (by omega) fun z hz => h z (List.mem_cons_of_mem _ hz)
      refine ⟨M', ?_, by rw [a]; simp [hc], b⟩
      rw [forU, st, Out.bind_ok]; exact e
    | true =>
      obtain ⟨M1, e2, x1⟩ := e2 hc
      have n1 : M1[n]? = some (.lst acc) := x1.get hn
      obtain ⟨M2, e4, n2, f2⟩ := lF2_map P vs1 elt tg1 n ς2 (g x) (ys x) acc M1 n1 (by omega) (e3 hc)
      have st : lF1 P vs vs1 elt tg ifs tg1 it1 [] n ς x M = .ok () M2 := by
        unfold lF1
        rw [hb]
        simp only [e1, hc, Out.bind_ok, if_true, e2, e4]
      obtain ⟨M', e, a, b⟩ := lF1_flat P vs vs1 elt tg ifs tg1 it1 n ς c ys g B xs (acc ++ (ys x).map (g x)) M2 n2 (by simp; omega) fun z hz => h z (List.mem_cons_of_mem _ hz)
      refine ⟨M', ?_, by rw [a]; simp [hc], ((x1.x n).trans f2).trans b⟩
      rw [forU, st, Out.bind_ok]; exact e
theorem frx_xt {M M' : Mem} {c : Cell} (h : FrX M.length (M ++ [c]) M') : Xt M M' := ⟨by have := h.len; simp at this; omega, fun m hm => by
  rw [h.at' m (by simp; omega) (by omega), List.getElem?_append_left hm]⟩
theorem lc2_ev (P : Par) (vs vs1 : List Nat) (elt : E) (tg : Tg) (it : MP.It) (ifs : List E) (tg1 : Tg) (it1 : MP.It) (ς : MP.Loc) (M : Mem) (xs : List A) (c : A → Bool) (ys : A → List A) (g : A → A → A) (B : Nat) (hl : B * xs.length ≤ 1000)
    (hit : evI P it ς M = .ok xs M) (h : ∀ x ∈ xs, (ys x).length ≤ B ∧ ∃ ς2, bindT tg x (wipeA ς vs) = some ς2 ∧ ∀ M, evTs P ifs ς2 M = .ok (c x) M ∧ (c x = true → ∃ M1, evI P it1 ς2 M = .ok (ys x) M1 ∧ Xt M M1) ∧ (c x = true → ∀ y ∈ ys x, ∃ ς3, bindT tg1 y (wipeA ς2 vs1) = some ς3 ∧ ∀ M, evE P elt ς3 M = .ok (g x y) M)) :
    ∃ M', evE P (.lc2 false vs vs1 elt tg it ifs tg1 it1 []) ς M = .ok (.lst (xs.flatMap fun x => if c x = true then (ys x).map (g x) else [])) M' ∧ Xt M M' := by
  obtain ⟨M', e, a, b⟩ := lF1_flat P vs vs1 elt tg ifs tg1 it1 M.length ς c ys g B xs [] (M ++ [.lst []]) (by simp) (by simpa using hl) h
  rw [List.nil_append] at a
  have hlt := (List.getElem?_eq_some_iff.mp a).1
  refine ⟨M'.set M.length .dead, ?_, (frx_xt b).set _ (Nat.le_refl _) _⟩
  rw [evE_lc2, hit, Out.bind_ok, e]
  simp only [Out.noExc_ok, Out.bind_ok, endU, Bool.false_eq_true, if_false, frzA, a]
end K03

namespace K03
open PySem MP
/-! the order of pairs of texts -/
abbrev tk (x : A) : List (Int ⊕ List Nat) := PySem.W.keyToks (keyD x)
def le' (x y : A) : Bool := !PyProof.Rows.lexLt PyProof.Rows.itemOrd (tk y) (tk x)
theorem le_trans' (a b c : A) (h1 : le' a b = true) (h2 : le' b c = true) : le' a c = true := by
  unfold le' at *
  simp only [Bool.not_eq_true'] at *
  cases h : PyProof.Rows.lexLt PyProof.Rows.itemOrd (tk c) (tk a) with
  | false => rfl
  | true =>
    rcases PyProof.Rows.lex_negTrans (O := PyProof.Rows.itemOrd) (tk c) (tk b) (tk a) h with z | z
    · rw [h2] at z; cases z
    · rw [h1] at z; cases z
theorem le_total' (a b : A) : (le' a b || le' b a) = true := by
  unfold le'
  cases h1 : PyProof.Rows.lexLt PyProof.Rows.itemOrd (tk b) (tk a) with
  | false => rfl
  | true =>
    cases h2 : PyProof.Rows.lexLt PyProof.Rows.itemOrd (tk a) (tk b) with
    | false => rfl
    | true =>
      have := PyProof.Rows.lex_trans (O := PyProof.Rows.itemOrd) _ _ _ h1 h2
      rw [PyProof.Rows.lex_irrefl (O := PyProof.Rows.itemOrd)] at this
      cases this
theorem le_anti' {a b : A} (ha : isPr a = true) (hb : isPr b = true) (h1 : le' a b = true) (h2 : le' b a = true) : a = b := by
  unfold le' at *
  simp only [Bool.not_eq_true'] at *
  have e := PyProof.Rows.lex_total (O := PyProof.Rows.itemOrd) _ _ h2 h1
  obtain ⟨w, x, rfl⟩ := isPr_eq ha
  obtain ⟨w', x', rfl⟩ := isPr_eq hb
  have e' : ([.inl 1, .inr w.cps.toList, .inl 1, .inr x.cps.toList, .inl 0] : List (Int ⊕ List Nat)) = [.inl 1, .inr w'.cps.toList, .inl 1, .inr x'.cps.toList, .inl 0] := e
  simp only [List.cons.injEq, Sum.inr.injEq, true_and, and_true] at e'
  rw [PySem.W.str_of_cps e'.1, PySem.W.str_of_cps e'.2]
theorem sortL_le {xs : List A} (h : ∀ x ∈ xs, isPr x = true) : sortL xs = xs.mergeSort le' := by
  have e := List.map_mergeSort (r := fun a b => !ltD b a) (s := le') (f := id) (l := xs) (fun a ha b hb => by
    obtain ⟨w, x, rfl⟩ := isPr_eq (h a ha)
    obtain ⟨w', x', rfl⟩ := isPr_eq (h b hb)
    rfl)
  rw [List.map_id, List.map_id] at e
  exact e
theorem perm_sortedM {le : A → A → Prop} : ∀ (l1 l2 : List A), (∀ a ∈ l1, ∀ b ∈ l1, le a b → le b a → a = b) → l1.Perm l2 → l1.Pairwise le → l2.Pairwise le → l1 = l2
  | [], l2, _, p, _, _ => (List.nil_perm.mp p).symm
  | a :: l1, l2, anti, p, h1, h2 => by
    cases l2 with
    | nil => exact absurd p.length_eq (by simp)
    | cons b l2 =>
      obtain ⟨a1, a2⟩ := List.pairwise_cons.mp h1
      obtain ⟨b1, b2⟩ := List.pairwise_cons.mp h2
      have e : a = b := by
        rcases List.mem_cons.mp (p.mem_iff.mp List.mem_cons_self) with e | ha
        · exact e
        · have hb' : b ∈ a :: l1 := p.mem_iff.mpr List.mem_cons_self
          rcases List.mem_cons.mp hb' with e | hb
          · exact e.symm
          · exact anti a List.mem_cons_self b hb' (a1 _ hb) (b1 _ ha)
      subst e
      rw [perm_sortedM l1 l2 (fun x hx y hy => anti x (List.mem_cons_of_mem _ hx) y (List.mem_cons_of_mem _ hy)) (List.Perm.cons_inv p) a2 b2]
/-- the same pairs, each once: the same when sorted -/
theorem sortL_same {xs ys : List A} (h1 : ∀ x ∈ xs, isPr x = true) (h2 : ∀ x ∈ ys, isPr x = true) (n1 : xs.Nodup) (n2 : ys.Nodup) (m : ∀ x, x ∈ xs ↔ x ∈ ys) : sortL xs = sortL ys := by
  rw [sortL_le h1, sortL_le h2]
  have p : xs.Perm ys := (List.perm_ext_iff_of_nodup n1 n2).mpr m
  refine perm_sortedM (le := fun a b => le' a b = true) _ _ (fun a ha b hb => ?_) (((List.mergeSort_perm xs le').trans p).trans (List.mergeSort_perm ys le').symm) (List.pairwise_mergeSort (le := le') le_trans' le_total' xs) (List.pairwise_mergeSort (le := le') le_trans' le_total' ys)
  exact le_anti' (h1 a ((List.mergeSort_perm xs le').mem_iff.mp ha)) (h1 b ((List.mergeSort_perm xs le').mem_iff.mp hb))
/-! axioms' parts -/
def args : A → List A
  | .tup (_ :: r) => r
  | _ => []
def cax : A → Bool
  | .tup (.str w :: _) => decide (tSub = w) || decide (tDis = w)
  | _ => false
def rax : A → Bool
  | .tup (.str w :: _) => decide (tSr = w) || (decide (tSi = w) || (decide (tDr = w) || decide (tDi = w)))
  | _ => false
def cnm : A → Option A
  | .tup [.str w, x] => if tCon = w then some x else none
  | _ => none
def dnm : A → Option A
  | .tup [.str u, x] => if (decide (tOut = u) || decide (tIn = u)) = true then some x else none
  | _ => none
def conA (a : A) : List A := if cax a = true then args a else []
def rnA (a : A) : List A := if rax a = true then args a else (args a).filterMap dnm
def pr (w : Str) (x : A) : A := .tup [.str w, x]
def vL : A → List A
  | .str s => [pr tOut (.str s), pr tIn (.str s)]
  | .tup [.str w, x] => if tCon = w then [pr w x] else [pr tOut x, pr tIn x]
  | _ => []
/-- the value of a concept axiom's place, a direction, or a role -/
def Sx (x : A) : Prop := ∃ s, x = .str s ∧ isW (.str s) = true
theorem isW_sx {x : A} (h : isW x = true) : Sx x := by
  obtain ⟨s, rfl⟩ := isW_str h
  exact ⟨s, rfl, h⟩
def Vx (v : A) : Prop := Sx v ∨ ∃ w x, v = pr w x ∧ Sx x ∧ (w = tCon ∨ w = tOut ∨ w = tIn)
/-- a drawn axiom: what its parts give -/
structure Pa (a : A) : Prop where
  l3 : (args a).length ≤ 2
  vx : ∀ v ∈ args a, Vx v
  con : ∀ x, pr tCon x ∈ (args a).flatMap vL ↔ x ∈ (conA a).filterMap cnm
  dir : ∀ u x, (u = tOut ∨ u = tIn) → (pr u x ∈ (args a).flatMap vL ↔ x ∈ rnA a)
  sx : ∀ x ∈ rnA a, Sx x
  cx : ∀ v ∈ conA a, ∃ w x, v = pr w x ∧ Sx x ∧ (w = tCon ∨ w = tOut ∨ w = tIn)
theorem nCO' : ¬ tCon = tOut := nCO
theorem nCI' : ¬ tCon = tIn := nCI
theorem pr_inj {u u' : Str} {x x' : A} : pr u x = pr u' x' ↔ u = u' ∧ x = x' := by
  unfold pr
  simp
theorem con_pr {C Rn : List A} {c : A} (h : ConD C Rn c) : ∃ w x, c = pr w x ∧ Sx x ∧ (w = tCon ∨ w = tOut ∨ w = tIn) := by
  obtain ⟨w, x, rfl, hx, hw⟩ := h
  refine ⟨w, x, rfl, isW_sx hx, ?_⟩
  rcases hw with ⟨rfl, _⟩ | ⟨rfl | rfl, _⟩
  · exact .inl rfl
  · exact .inr (.inl rfl)
  · exact .inr (.inr rfl)
theorem vL_pr {w : Str} {x : A} (hw : w = tCon ∨ w = tOut ∨ w = tIn) : (w = tCon ∧ vL (pr w x) = [pr tCon x] ∧ cnm (pr w x) = some x ∧ dnm (pr w x) = none) ∨ ((w = tOut ∨ w = tIn) ∧ vL (pr w x) = [pr tOut x, pr tIn x] ∧ cnm (pr w x) = none ∧ dnm (pr w x) = some x) := by
  rcases hw with rfl | rfl | rfl
  · exact .inl ⟨rfl, by simp [vL, pr], by simp [cnm, pr], by simp [dnm, pr, Ne.symm nCO, Ne.symm nCI]⟩
  · exact .inr ⟨.inl rfl, by simp [vL, pr, nCO], by simp [cnm, pr, nCO], by simp [dnm, pr]⟩
  · exact .inr ⟨.inr rfl, by simp [vL, pr, nCI], by simp [cnm, pr, nCI], by simp [dnm, pr]⟩
theorem one_con {w : Str} {y : A} (hw : w = tCon ∨ w = tOut ∨ w = tIn) (x : A) : pr tCon x ∈ vL (pr w y) ↔ cnm (pr w y) = some x := by
  rcases vL_pr (x := y) hw with ⟨_, e1, e2, _⟩ | ⟨_, e1, e2, _⟩
  · rw [e1, e2]; simp [pr_inj, eq_comm]
  · rw [e1, e2]; simp [pr_inj, nCO, nCI]
theorem one_dir {w u : Str} {y : A} (hw : w = tCon ∨ w = tOut ∨ w = tIn) (hu : u = tOut ∨ u = tIn) (x : A) : pr u x ∈ vL (pr w y) ↔ dnm (pr w y) = some x := by
  rcases vL_pr (x := y) hw with ⟨_, e1, _, e2⟩ | ⟨_, e1, _, e2⟩
  · rw [e1, e2]
    rcases hu with rfl | rfl <;> simp [pr_inj, Ne.symm nCO, Ne.symm nCI]
  · rw [e1, e2]
    rcases hu with rfl | rfl <;> simp [pr_inj, nOI, nIO, eq_comm]
theorem cax_t {w : Str} {r : List A} {b : Bool} (h : (decide (tSub = w) || decide (tDis = w)) = b) : cax (.tup (.str w :: r)) = b := h
theorem rax_t {w : Str} {r : List A} {b : Bool} (h : (decide (tSr = w) || (decide (tSi = w) || (decide (tDr = w) || decide (tDi = w)))) = b) : rax (.tup (.str w :: r)) = b := h
theorem ax_pa {C Rn menu : List A} {a : A} (h : AxD C Rn menu a) : Pa a := by
  rcases h with ⟨w, c1, c2, rfl, _, hw, h1, h2⟩ | ⟨u, x, rfl, _, hu, _, hx⟩ | ⟨w, x1, x2, rfl, _, hw, _, _, h1, h2⟩
  · obtain ⟨w1, y1, rfl, s1, k1⟩ := con_pr h1
    obtain ⟨w2, y2, rfl, s2, k2⟩ := con_pr h2
    have hc : cax (.tup [.str w, pr w1 y1, pr w2 y2]) = true := cax_t (by rcases hw with rfl | rfl <;> decide +kernel)
    have hr : rax (.tup [.str w, pr w1 y1, pr w2 y2]) = false := rax_t (by rcases hw with rfl | rfl <;> decide +kernel)
    have ea : args (.tup [.str w, pr w1 y1, pr w2 y2]) = [pr w1 y1, pr w2 y2] := rfl
    refine ⟨by rw [ea]; simp, ?_, ?_, ?_, ?_, ?_⟩
    · rw [ea]
      intro v hv
      simp only [List.mem_cons, List.not_mem_nil, or_false] at hv
      rcases hv with rfl | rfl
      · exact .inr ⟨_, _, rfl, s1, k1⟩
      · exact .inr ⟨_, _, rfl, s2, k2⟩
    · intro x
      rw [conA, if_pos hc, ea]
      simp only [List.mem_flatMap, List.mem_filterMap, List.mem_cons, List.not_mem_nil, or_false, exists_eq_or_imp, exists_eq_left, one_con k1, one_con k2]
    · intro u x hu
      rw [rnA, if_neg (by rw [hr]; decide), ea]
      simp only [List.mem_flatMap, List.mem_filterMap, List.mem_cons, List.not_mem_nil, or_false, exists_eq_or_imp, exists_eq_left, one_dir k1 hu, one_dir k2 hu]
    · intro x hx
      rw [rnA, if_neg (by rw [hr]; decide), ea] at hx
      simp only [List.mem_filterMap, List.mem_cons, List.not_mem_nil, or_false, exists_eq_or_imp, exists_eq_left] at hx
      rcases hx with hx | hx
      · rcases vL_pr (x := y1) k1 with ⟨_, _, _, e⟩ | ⟨_, _, _, e⟩ <;> rw [e] at hx <;> cases hx
        exact s1
      · rcases vL_pr (x := y2) k2 with ⟨_, _, _, e⟩ | ⟨_, _, _, e⟩ <;> rw [e] at hx <;> cases hx
        exact s2
    · intro v hv
      rw [conA, if_pos hc, ea] at hv
      simp only [List.mem_cons, List.not_mem_nil, or_false] at hv
      rcases hv with rfl | rfl
      · exact ⟨_, _, rfl, s1, k1⟩
      · exact ⟨_, _, rfl, s2, k2⟩
  · have hc : cax (.tup [.str tFun, .tup [.str u, x]]) = false := cax_t (by decide +kernel)
    have hr : rax (.tup [.str tFun, .tup [.str u, x]]) = false := rax_t (by decide +kernel)
    have k : u = tCon ∨ u = tOut ∨ u = tIn := .inr hu
    have sx := isW_sx hx
    have ea : args (.tup [.str tFun, .tup [.str u, x]]) = [pr u x] := rfl
    have nc : ∀ y, ¬ cnm (pr u x) = some y := fun y e => by
      rcases vL_pr (x := x) k with ⟨z, _, _, _⟩ | ⟨_, _, e2, _⟩
      · rcases hu with rfl | rfl
        · exact nCO z.symm
        · exact nCI z.symm
      · rw [e2] at e; cases e
    refine ⟨by rw [ea]; simp, ?_, ?_, ?_, ?_, ?_⟩
    · rw [ea]
      intro v hv
      simp only [List.mem_cons, List.not_mem_nil, or_false] at hv
      subst hv
      exact .inr ⟨_, _, rfl, sx, k⟩
    · intro y
      rw [conA, if_neg (by rw [hc]; decide), ea]
      simp only [List.mem_flatMap, List.mem_cons, List.not_mem_nil, or_false, exists_eq_left, one_con k, List.filterMap_nil, iff_false]
      exact nc y
    · intro u' y hu'
      rw [rnA, if_neg (by rw [hr]; decide), ea]
      simp only [List.mem_flatMap, List.mem_filterMap, List.mem_cons, List.not_mem_nil, or_false, exists_eq_left, one_dir k hu']
    · intro y hy
      rw [rnA, if_neg (by rw [hr]; decide), ea] at hy
      simp only [List.mem_filterMap, List.mem_cons, List.not_mem_nil, or_false, exists_eq_left] at hy
      rcases vL_pr (x := x) k with ⟨_, _, _, e⟩ | ⟨_, _, _, e⟩ <;> rw [e] at hy <;> cases hy
      exact sx
    · intro v hv
      rw [conA, if_neg (by rw [hc]; decide)] at hv
      cases hv
  · have hc : cax (.tup [.str w, x1, x2]) = false := cax_t (by rcases hw with rfl | rfl | rfl | rfl <;> decide +kernel)
    have hr : rax (.tup [.str w, x1, x2]) = true := rax_t (by rcases hw with rfl | rfl | rfl | rfl <;> decide +kernel)
    obtain ⟨s1, rfl, w1⟩ := isW_sx h1
    obtain ⟨s2, rfl, w2⟩ := isW_sx h2
    have ea : args (.tup [.str w, .str s1, .str s2]) = [.str s1, .str s2] := rfl
    refine ⟨by rw [ea]; simp, ?_, ?_, ?_, ?_, ?_⟩
    · rw [ea]
      intro v hv
      simp only [List.mem_cons, List.not_mem_nil, or_false] at hv
      rcases hv with rfl | rfl
      · exact .inl ⟨_, rfl, w1⟩
      · exact .inl ⟨_, rfl, w2⟩
    · intro y
      rw [conA, if_neg (by rw [hc]; decide), ea]
      simp [vL, pr_inj, nCO, nCI]
    · intro u' y hu'
      rw [rnA, if_pos hr, ea]
      rcases hu' with rfl | rfl <;> simp [vL, pr_inj, nOI, nIO, eq_comm]
    · intro y hy
      rw [rnA, if_pos hr, ea] at hy
      simp only [List.mem_cons, List.not_mem_nil, or_false] at hy
      rcases hy with rfl | rfl
      · exact ⟨_, rfl, w1⟩
      · exact ⟨_, rfl, w2⟩
    · intro v hv
      rw [conA, if_neg (by rw [hc]; decide)] at hv
      cases hv
/-! the lists -/
def cnL (O : List A) : List A := (O.flatMap conA).filterMap cnm
def CN (O : List A) : List Str := sortS (dedS ((cnL O).map strA))
def rnL (O : List A) : List A := O.flatMap rnA
def RN (O : List A) : List Str := sortS (dedS ((rnL O).map strA))
def RES (O : List A) : List A := ((CN O).map fun s => pr tCon (.str s)) ++ (((RN O).map fun s => pr tOut (.str s)) ++ ((RN O).map fun s => pr tIn (.str s)))
def EL (O : List A) : List A := O.flatMap fun a => (args a).flatMap vL
theorem mem_ded {x : Str} : ∀ {l : List Str}, x ∈ dedS l ↔ x ∈ l
  | [] => Iff.rfl
  | k :: r => by
    unfold dedS
    by_cases c : k ∈ r
    · rw [if_pos c, mem_ded, List.mem_cons]
      exact ⟨.inr, fun z => z.elim (fun z => z ▸ c) id⟩
    · rw [if_neg c, List.mem_cons, List.mem_cons, mem_ded]
theorem nodup_ded : ∀ l : List Str, (dedS l).Nodup
  | [] => List.nodup_nil
  | k :: r => by
    unfold dedS
    by_cases c : k ∈ r
    · rw [if_pos c]; exact nodup_ded r
    · rw [if_neg c]; exact List.nodup_cons.mpr ⟨fun z => c (mem_ded.mp z), nodup_ded r⟩
theorem sd_mem {L : List A} (h : ∀ x ∈ L, Sx x) (s : Str) : s ∈ sortS (dedS (L.map strA)) ↔ A.str s ∈ L := by
  unfold sortS
  rw [(List.mergeSort_perm _ _).mem_iff, mem_ded, List.mem_map]
  constructor
  · rintro ⟨x, hx, rfl⟩
    obtain ⟨s, rfl, _⟩ := h x hx
    exact hx
  · intro hs
    exact ⟨_, hs, rfl⟩
theorem sd_nodup (L : List Str) : (sortS (dedS L)).Nodup := (List.mergeSort_perm _ _).nodup_iff.mpr (nodup_ded L)
variable {O : List A}
theorem cnL_sx (h : ∀ a ∈ O, Pa a) : ∀ x ∈ cnL O, Sx x := by
  intro x hx
  obtain ⟨v, hv, e⟩ := List.mem_filterMap.mp hx
  obtain ⟨a, ha, hv⟩ := List.mem_flatMap.mp hv
  obtain ⟨w, y, rfl, sy, kw⟩ := (h a ha).cx v hv
  rcases vL_pr (x := y) kw with ⟨_, _, e2, _⟩ | ⟨_, _, e2, _⟩ <;> rw [e2] at e <;> cases e
  exact sy
theorem rnL_sx (h : ∀ a ∈ O, Pa a) : ∀ x ∈ rnL O, Sx x := by
  intro x hx
  obtain ⟨a, ha, hx⟩ := List.mem_flatMap.mp hx
  exact (h a ha).sx x hx
theorem EL_pr (h : ∀ a ∈ O, Pa a) {x : A} (hx : x ∈ EL O) : ∃ w y, x = pr w y ∧ Sx y ∧ (w = tCon ∨ w = tOut ∨ w = tIn) := by
  obtain ⟨a, ha, hx⟩ := List.mem_flatMap.mp hx
  obtain ⟨v, hv, hx⟩ := List.mem_flatMap.mp hx
  rcases (h a ha).vx v hv with ⟨s, rfl, hs⟩ | ⟨w, y, rfl, sy, kw⟩
  · simp only [vL, List.mem_cons, List.not_mem_nil, or_false] at hx
    rcases hx with rfl | rfl
    · exact ⟨_, _, rfl, ⟨s, rfl, hs⟩, .inr (.inl rfl)⟩
    · exact ⟨_, _, rfl, ⟨s, rfl, hs⟩, .inr (.inr rfl)⟩
  · rcases vL_pr (x := y) kw with ⟨_, e1, _, _⟩ | ⟨_, e1, _, _⟩
    · rw [e1] at hx
      simp only [List.mem_cons, List.not_mem_nil, or_false] at hx
      subst hx
      exact ⟨_, _, rfl, sy, .inl rfl⟩
    · rw [e1] at hx
      simp only [List.mem_cons, List.not_mem_nil, or_false] at hx
      rcases hx with rfl | rfl
      · exact ⟨_, _, rfl, sy, .inr (.inl rfl)⟩
      · exact ⟨_, _, rfl, sy, .inr (.inr rfl)⟩
theorem EL_con (h : ∀ a ∈ O, Pa a) (x : A) : pr tCon x ∈ EL O ↔ x ∈ cnL O := by
  unfold EL cnL
  rw [List.mem_flatMap, List.mem_filterMap]
  constructor
  · rintro ⟨a, ha, hx⟩
    obtain ⟨v, hv, e⟩ := List.mem_filterMap.mp (((h a ha).con x).mp hx)
    exact ⟨v, List.mem_flatMap.mpr ⟨a, ha, hv⟩, e⟩
  · rintro ⟨v, hv, e⟩
    obtain ⟨a, ha, hv⟩ := List.mem_flatMap.mp hv
    exact ⟨a, ha, ((h a ha).con x).mpr (List.mem_filterMap.mpr ⟨v, hv, e⟩)⟩
theorem EL_dir (h : ∀ a ∈ O, Pa a) {u : Str} (hu : u = tOut ∨ u = tIn) (x : A) : pr u x ∈ EL O ↔ x ∈ rnL O := by
  unfold EL rnL
  rw [List.mem_flatMap, List.mem_flatMap]
  exact ⟨fun ⟨a, ha, hx⟩ => ⟨a, ha, ((h a ha).dir u x hu).mp hx⟩, fun ⟨a, ha, hx⟩ => ⟨a, ha, ((h a ha).dir u x hu).mpr hx⟩⟩
theorem RES_mem (h : ∀ a ∈ O, Pa a) (x : A) : x ∈ RES O ↔ x ∈ EL O := by
  unfold RES CN RN
  simp only [List.mem_append, List.mem_map, sd_mem (cnL_sx h), sd_mem (rnL_sx h)]
  constructor
  · rintro (⟨s, hs, rfl⟩ | ⟨s, hs, rfl⟩ | ⟨s, hs, rfl⟩)
    · exact (EL_con h _).mpr hs
    · exact (EL_dir h (.inl rfl) _).mpr hs
    · exact (EL_dir h (.inr rfl) _).mpr hs
  · intro hx
    obtain ⟨w, y, rfl, ⟨s, rfl, _⟩, kw⟩ := EL_pr h hx
    rcases kw with rfl | rfl | rfl
    · exact .inl ⟨s, (EL_con h _).mp hx, rfl⟩
    · exact .inr (.inl ⟨s, (EL_dir h (.inl rfl) _).mp hx, rfl⟩)
    · exact .inr (.inr ⟨s, (EL_dir h (.inr rfl) _).mp hx, rfl⟩)
theorem RES_nodup : (RES O).Nodup := by
  have inj : ∀ (w : Str) (l : List Str), l.Nodup → (l.map fun s => pr w (.str s)).Nodup := fun w l hl => by
    rw [List.Nodup, List.pairwise_map]
    refine List.Pairwise.imp (fun {a b} hab e => hab ?_) hl
    have := (pr_inj.mp e).2
    cases this
    rfl
  unfold RES
  rw [List.nodup_append, List.nodup_append]
  refine ⟨inj _ _ (sd_nodup _), ⟨inj _ _ (sd_nodup _), inj _ _ (sd_nodup _), ?_⟩, ?_⟩
  · intro a ha b hb e
    obtain ⟨s, _, rfl⟩ := List.mem_map.mp ha
    obtain ⟨s', _, rfl⟩ := List.mem_map.mp hb
    exact nOI (pr_inj.mp e).1
  · intro a ha b hb e
    obtain ⟨s, _, rfl⟩ := List.mem_map.mp ha
    rcases List.mem_append.mp hb with hb | hb
    · obtain ⟨s', _, rfl⟩ := List.mem_map.mp hb
      exact nCO (pr_inj.mp e).1
    · obtain ⟨s', _, rfl⟩ := List.mem_map.mp hb
      exact nCI (pr_inj.mp e).1
theorem RES_pr : ∀ x ∈ RES O, isPr x = true := by
  intro x hx
  unfold RES at hx
  simp only [List.mem_append, List.mem_map] at hx
  rcases hx with ⟨s, _, rfl⟩ | ⟨s, _, rfl⟩ | ⟨s, _, rfl⟩ <;> rfl
/-! each once, as the law does it -/
theorem eqT_pr {x y : A} (hx : isPr x = true) (hy : isPr y = true) : eqT x y = true ↔ x = y := by
  obtain ⟨w, a, rfl⟩ := isPr_eq hx
  obtain ⟨w', a', rfl⟩ := isPr_eq hy
  simp [eqT, eqTs]
theorem any_pr {L : List A} {v : A} (h : ∀ x ∈ L, isPr x = true) (hv : isPr v = true) : (L.any fun y => eqT y v) = true ↔ v ∈ L := by
  rw [List.any_eq_true]
  constructor
  · rintro ⟨y, hy, e⟩
    rw [← (eqT_pr (h y hy) hv).mp e]
    exact hy
  · intro hm
    exact ⟨v, hm, (eqT_pr hv hv).mpr rfl⟩
def fE (L : List A) : A → Option A
  | .tup [.int p, v] => if ((L.take p.toNat).any fun y => eqT y v) = true then none else some v
  | _ => none
def dedF (L : List A) : List A := (enumA 0 L).filterMap (fE L)
theorem ded_go {L : List A} (h : ∀ x ∈ L, isPr x = true) : ∀ (suf pre : List A), L = pre ++ suf → (∀ x ∈ (enumA pre.length suf).filterMap (fE L), x ∈ suf ∧ x ∉ pre) ∧ ((enumA pre.length suf).filterMap (fE L)).Nodup ∧ ∀ x ∈ suf, x ∉ pre → x ∈ (enumA pre.length suf).filterMap (fE L)
  | [], pre, _ => ⟨fun x hx => by simp [enumA] at hx, List.nodup_nil, fun x hx => by cases hx⟩
  | v :: suf, pre, e => by
    have e' : L = (pre ++ [v]) ++ suf := by rw [e]; simp
    obtain ⟨g1, g2, g3⟩ := ded_go h suf (pre ++ [v]) e'
    have hlen : (pre ++ [v]).length = pre.length + 1 := by simp
    rw [hlen] at g1 g2 g3
    have hv : isPr v = true := h v (by rw [e]; simp)
    have htk : L.take (Int.toNat (pre.length : Int)) = pre := by rw [Int.toNat_natCast, e, List.take_left']; rfl
    have hpre : ∀ x ∈ pre, isPr x = true := fun x hx => h x (by rw [e]; exact List.mem_append_left _ hx)
    have hany := any_pr (v := v) hpre hv
    have hE : enumA pre.length (v :: suf) = .tup [.int (pre.length : Int), v] :: enumA (pre.length + 1) suf := rfl
    rw [hE]
    by_cases c : v ∈ pre
    · have f : fE L (.tup [.int (pre.length : Int), v]) = none := by
        simp only [fE, htk]
        rw [if_pos (hany.mpr c)]
      rw [List.filterMap_cons, f]
      refine ⟨fun x hx => ⟨List.mem_cons_of_mem _ (g1 x hx).1, fun z => (g1 x hx).2 (List.mem_append_left _ z)⟩, g2, fun x hx hn => ?_⟩
      rcases List.mem_cons.mp hx with rfl | hx
      · exact absurd c hn
      · exact g3 x hx fun z => (List.mem_append.mp z).elim hn fun z => by
          rw [List.mem_singleton.mp z] at hn
          exact hn c
    · have f : fE L (.tup [.int (pre.length : Int), v]) = some v := by
        simp only [fE, htk]
        rw [if_neg (fun z => c (hany.mp z))]
      rw [List.filterMap_cons, f]
      refine ⟨fun x hx => ?_, List.nodup_cons.mpr ⟨fun z => (g1 v z).2 (by simp), g2⟩, fun x hx hn => ?_⟩
      · rcases List.mem_cons.mp hx with rfl | hx
        · exact ⟨List.mem_cons_self, c⟩
        · exact ⟨List.mem_cons_of_mem _ (g1 x hx).1, fun z => (g1 x hx).2 (List.mem_append_left _ z)⟩
      · rcases List.mem_cons.mp hx with rfl | hx
        · exact List.mem_cons_self
        · by_cases z : x = v
          · subst z; exact List.mem_cons_self
          · exact List.mem_cons_of_mem _ (g3 x hx fun y => (List.mem_append.mp y).elim hn fun y => z (List.mem_singleton.mp y))
theorem EL_isPr (h : ∀ a ∈ O, Pa a) : ∀ x ∈ EL O, isPr x = true := fun x hx => by
  obtain ⟨w, y, rfl, ⟨s, rfl, _⟩, _⟩ := EL_pr h hx
  rfl
theorem same (h : ∀ a ∈ O, Pa a) : sortL (RES O) = sortL (dedF (EL O)) := by
  obtain ⟨g1, g2, g3⟩ := ded_go (EL_isPr h) (EL O) [] rfl
  refine sortL_same RES_pr (fun x hx => EL_isPr h x (g1 x hx).1) RES_nodup g2 fun x => ?_
  rw [RES_mem h]
  exact ⟨fun hx => g3 x hx (by simp), fun hx => (g1 x hx).1⟩
end K03

namespace K03
open PySem MP
theorem in_ca' (w : Str) (M : Mem) : inA (.str w) (.tup [.str tSub, .str tDis]) M = some (decide (tSub = w) || decide (tDis = w)) := by
  rw [inA_tup M (by simp [pl]) (by simp [pl])]
  simp [eqT, beq_str]
theorem in_ra' (w : Str) (M : Mem) : inA (.str w) (.tup [.str tSr, .str tSi, .str tDr, .str tDi]) M = some (decide (tSr = w) || (decide (tSi = w) || (decide (tDr = w) || decide (tDi = w)))) := by
  rw [inA_tup M (by simp [pl]) (by simp [pl])]
  simp [eqT, beq_str]
theorem cd1 (a : A) (r : List A) : cutA (a :: r) (some 1) none = r := by
  unfold cutA
  rw [show (some 1 : Option Int) = some ((1 : Nat) : Int) from rfl, HT.sIx_nat, HT.sIx_none]
  have h : min 1 (a :: r).length = 1 := by simp
  rw [h]
  simp
/-- an axiom: its word, its parts -/
theorem ax_sh {C Rn menu : List A} {a : A} (h : AxD C Rn menu a) : ∃ w, a = .tup (.str w :: args a) := by
  rcases h with ⟨w, c1, c2, rfl, _⟩ | ⟨u, x, rfl, _⟩ | ⟨w, x1, x2, rfl, _⟩ <;> exact ⟨_, rfl⟩
variable {C Rn menu O : List A}
theorem pas (ha : ∀ a ∈ O, AxD C Rn menu a) : ∀ a ∈ O, Pa a := fun a h => ax_pa (ha a h)
theorem flat_len {f : A → List A} {B : Nat} : ∀ {O : List A}, (∀ a ∈ O, (f a).length ≤ B) → (O.flatMap f).length ≤ B * O.length
  | [], _ => by simp
  | a :: O, h => by
    have h1 := h a List.mem_cons_self
    have h2 := flat_len fun b hb => h b (List.mem_cons_of_mem _ hb)
    rw [List.flatMap_cons, List.length_append, List.length_cons, Nat.mul_succ]
    omega
theorem sx_st {L : List A} (h : ∀ x ∈ L, Sx x) : L.all isStA = true := List.all_eq_true.mpr fun x hx => by
  obtain ⟨s, rfl, _⟩ := h x hx
  rfl
theorem setQ_ev {L : List A} (h : ∀ x ∈ L, Sx x) (hl : L.length < 64) (M : Mem) : setQ false false (.lst L) M = .ok (.lst ((sortS (dedS (L.map strA))).map .str)) M := by
  have hz : ((sortS (dedS (L.map strA))).map A.str).length ≤ sizeLine := by
    refine small (m := 100) ?_
    have hd : ∀ l : List Str, (dedS l).length ≤ l.length := by
      intro l
      induction l with
      | nil => exact Nat.le_refl _
      | cons k r ih =>
        unfold dedS
        split
        · exact Nat.le_succ_of_le ih
        · exact Nat.succ_le_succ ih
    have := hd (L.map strA)
    rw [List.length_map] at this
    unfold sortS
    rw [List.length_map, List.length_mergeSort]
    omega
  simp only [setQ, asL, sx_st h, hl, decide_true, Bool.and_self, if_true, Bool.false_eq_true, if_false, finL, hz]
theorem evE_ssetC (P : Par) (o : Bool) (vs : List Nat) (elt : E) (tg : Tg) (it : MP.It) (ifs : List E) (ς : MP.Loc) (M : Mem) : evE P (.ssetC o vs elt tg it ifs) ς M = (evI P it ς M).bind fun xs M1 => (lcL (lcB P vs elt tg ifs ς) xs M1).noExc.bind fun ys M2 => setQ false o (.lst ys) M2 := by
  rw [evE]
  rfl
theorem conA_cnL (O : List A) : (O.flatMap fun x => if cax x = true then (args x).map (fun y => y) else []) = O.flatMap conA := by
  congr 1
  funext x
  simp [conA]
theorem r_cnames (k : Nat) (M : Mem) (o : A) (ho : itemsOf o = some O) (ha : ∀ a ∈ O, AxD C Rn menu a) (hl : O.length ≤ 16) : ∃ M', runF prg (k + 1) (Str.ofString "concept_names_of") [o] M = .ok (.lst ((CN O).map .str)) M' ∧ Xt M M' := by
  obtain ⟨M1, e1, x1⟩ := lc2_ev (PP k) [2, 3] [3] (.var 3) (.name 2) (.over (.var 0)) [(.cmp .In (.idx (.var 2) (.con (.int 0))) (.glob (Str.ofString "CONCEPT_AXIOMS")))] (.name 3) (.over (.slice false (.var 2) (some (.con (.int 1))) none)) [some o, none, none, none, none, none] M O cax args (fun _ y => y) 2 (by omega)
    (by simp [evI, evE, ho]) (fun x hx => by
    obtain ⟨w, ew⟩ := ax_sh (ha x hx)
    refine ⟨(pas ha x hx).l3, [some o, none, some x, none, none, none], rfl, fun M => ⟨?_, fun _ => ⟨M, ?_, Xt.refl M⟩, fun _ y _ => ⟨[some o, none, some x, some y, none, none], rfl, fun M => by simp [evE]⟩⟩⟩
    · generalize args x = r at ew
      subst ew
      simp [evTs, evT, evE, cA, gCA, idxA, asD, idxS, asSeq, asL, at0, cmpB, in_ca', outT, cax]
      by_cases q1 : tSub = w <;> by_cases q2 : tDis = w <;> simp [q1, q2]
    · generalize args x = r at ew
      subst ew
      simp [evI, evE, evO, cA, sliceA, cd1, itemsOf])
  rw [conA_cnL] at e1
  refine ⟨M1, ?_, x1⟩
  rw [run_body lk_f_concept_names_of k _ M rfl [some o, none, none, none, none, none] rfl [.asg 1 (.lc2 false [2, 3] [3] (.var 3) (.name 2) (.over (.var 0)) [(.cmp .In (.idx (.var 2) (.con (.int 0))) (.glob (Str.ofString "CONCEPT_AXIOMS")))] (.name 3) (.over (.slice false (.var 2) (some (.con (.int 1))) none)) []),
   .ret (.ssetC false [4, 5] (.var 5) (.tup [4, 5]) (.over (.var 1)) [(.cmp .Eq (.var 4) (.con (.str (Str.ofString "concept"))))])] rfl]
  have a0 : evS (PP k) (.asg 1 (.lc2 false [2, 3] [3] (.var 3) (.name 2) (.over (.var 0)) [(.cmp .In (.idx (.var 2) (.con (.int 0))) (.glob (Str.ofString "CONCEPT_AXIOMS")))] (.name 3) (.over (.slice false (.var 2) (some (.con (.int 1))) none)) [])) [some o, none, none, none, none, none] M = .ok (.nxt, [some o, some (.lst (O.flatMap conA)), none, none, none, none]) M1 := by
    rw [evS, e1]; rfl
  rw [evSs_nxt a0]
  have e2 := lcL_eq (f := lcB (PP k) [4, 5] (.var 5) (.tup [4, 5]) [(.cmp .Eq (.var 4) (.con (.str (Str.ofString "concept"))))] [some o, some (.lst (O.flatMap conA)), none, none, none, none]) (g := cnm) (M := M1) (O.flatMap conA) fun y hy => by
    obtain ⟨a, hO, hy⟩ := List.mem_flatMap.mp hy
    obtain ⟨w, x, rfl, sx, kw⟩ := (pas ha a hO).cx y hy
    by_cases q : tCon = w
    · simp [lcB, bindT, setAll, wipeA, pr, evTs, evT, evE, cA, cmpB, eq_str, outT, cnm, q]
    · simp [lcB, bindT, setAll, wipeA, pr, evTs, evT, evE, cA, cmpB, eq_str, outT, cnm, q]
  have hlen : ((O.flatMap conA).filterMap cnm).length < 64 := by
    have h1 := List.length_filterMap_le cnm (O.flatMap conA)
    have h2 := flat_len (f := conA) (B := 2) (O := O) fun a h => by
      unfold conA
      split
      · exact (pas ha a h).l3
      · simp
    omega
  have e3 := setQ_ev (cnL_sx (pas ha)) hlen M1
  have it : evI (PP k) (.over (.var 1)) [some o, some (.lst (O.flatMap conA)), none, none, none, none] M1 = .ok (O.flatMap conA) M1 := by simp [evI, evE, itemsOf]
  rw [evSs, evS, evE_ssetC, it, Out.bind_ok, e2]
  show retOf (((setQ false false (.lst (cnL O)) M1).bind _).bind _) = _
  rw [e3]
  rfl
theorem turn_eq {P : Par} {tg : Tg} {b : List S} {x : A} {ς ς' : MP.Loc} {M : Mem} (h : bindT tg x ς = some ς') : turnF P tg b x ς M = evSs P b ς' M := by
  rw [turnF, h]
/-! roles -/
abbrev sr (o : A) (q : Nat) (x2 : Option A) : MP.Loc := [some o, some (.ref q), x2, none]
theorem rn_turn (k : Nat) (o : A) (q : Nat) (a : A) (ha : AxD C Rn menu a) (acc : List A) (hl : acc.length ≤ 100) (M : Mem) (hq : M[q]? = some (.lst acc)) (x2 : Option A) :
    turnF (PP k) (.name 2) [.ife (.cmp .In (.idx (.var 2) (.con (.int 0))) (.glob (Str.ofString "ROLE_AXIOMS"))) [.expr (.meth .extend (.var 1) [(.slice false (.var 2) (some (.con (.int 1))) none)])] [.expr (.meth .extend (.var 1) [(.lc false [3] (.idx (.var 3) (.con (.int 1))) (.name 3) (.over (.slice false (.var 2) (some (.con (.int 1))) none)) [(.cmp .In (.idx (.var 3) (.con (.int 0))) (.glob (Str.ofString "DIRECTION_WORDS")))])])]] a (sr o q x2) M = .ok (.nxt, sr o q (some a)) (M.set q (.lst (acc ++ rnA a))) := by
  have pa := ax_pa ha
  obtain ⟨w, ew⟩ := ax_sh ha
  have hb0 : bindT ((.name 2)) a (sr o q x2) = some (sr o q (some a)) := rfl
  have l2 := pa.l3
  rw [turn_eq hb0]
  have hin : evE (PP k) (.cmp .In (.idx (.var 2) (.con (.int 0))) (.glob (Str.ofString "ROLE_AXIOMS"))) (sr o q (some a)) M = .ok (.bl (rax a)) M := by
    generalize args a = r at ew
    subst ew
    simp [evE, cA, gRA, idxA, asD, idxS, asSeq, asL, at0, cmpB, in_ra', outB, rax]
  have hin' : evT (PP k) (.cmp .In (.idx (.var 2) (.con (.int 0))) (.glob (Str.ofString "ROLE_AXIOMS"))) (sr o q (some a)) M = .ok (rax a) M := by
    generalize args a = r at ew
    subst ew
    simp [evT, evE, cA, gRA, idxA, asD, idxS, asSeq, asL, at0, cmpB, in_ra', outT, rax]
  have hsl : ∀ M, evE (PP k) (.slice false (.var 2) (some (.con (.int 1))) none) (sr o q (some a)) M = .ok (.tup (args a)) M := by
    intro M
    generalize hr : args a = r at ew
    subst ew
    simp [evE, evO, cA, sliceA, cd1]
  cases hr : rax a with
  | true =>
    rw [hr] at hin'
    have e : rnA a = args a := by unfold rnA; rw [if_pos hr]
    rw [e]
    have z : acc.length + (args a).length ≤ sizeLine := small (m := 200) (by omega)
    rw [evSs, evS, hin', Out.bind_ok, if_pos rfl, evSs, evS, evE]
    have hv : evE (PP k) (.var 1) (sr o q (some a)) M = .ok (.ref q) M := by simp [evE]
    rw [hv, Out.bind_ok]
    simp [evEs, hsl, recvOk, asL, hq, methA, one?, extA, asSeq, z, evSs]
  | false =>
    rw [hr] at hin'
    have e : rnA a = (args a).filterMap dnm := by unfold rnA; rw [if_neg (by rw [hr]; decide)]
    have hd : ∀ v ∈ args a, ∃ w x, v = pr w x := fun v hv => by
      rcases pa.vx v hv with ⟨s, rfl, hs⟩ | ⟨w, x, rfl, _, _⟩
      · exfalso
        have hcn := (ha)
        rcases ha with ⟨w', c1, c2, rfl, _, hw, h1, h2⟩ | ⟨u, x, rfl, _, hu, _, hx⟩ | ⟨w', x1, x2', rfl, _, hw, _, _, h1, h2⟩
        · obtain ⟨_, _, rfl, _⟩ := con_pr h1
          obtain ⟨_, _, rfl, _⟩ := con_pr h2
          simp [args, pr] at hv
        · simp [args] at hv
        · have : rax (.tup [.str w', x1, x2']) = true := rax_t (by rcases hw with rfl | rfl | rfl | rfl <;> decide +kernel)
          rw [this] at hr
          cases hr
      · exact ⟨w, x, rfl⟩
    have lc := lc_fm (PP k) [3] (.idx (.var 3) (.con (.int 1))) (.name 3) (.over (.slice false (.var 2) (some (.con (.int 1))) none)) [(.cmp .In (.idx (.var 3) (.con (.int 0))) (.glob (Str.ofString "DIRECTION_WORDS")))] (sr o q (some a)) M (args a) dnm (by
      rw [evI, hsl]; rfl) (by omega) fun v hv => by
      obtain ⟨w, x, rfl⟩ := hd v hv
      by_cases c : (decide (tOut = w) || decide (tIn = w)) = true
      · simp [lcB, bindT, wipeA, pr, evTs, evT, evE, cA, gDW, idxA, asD, idxS, asSeq, asL, at0, at1, cmpB, in_dir, outT, dnm, c]
      · simp [lcB, bindT, wipeA, pr, evTs, evT, evE, cA, gDW, idxA, asD, idxS, asSeq, asL, at0, at1, cmpB, in_dir, outT, dnm, c]
    rw [e]
    have lf := List.length_filterMap_le dnm (args a)
    have z : acc.length + ((args a).filterMap dnm).length ≤ sizeLine := small (m := 200) (by omega)
    have hv : evE (PP k) (.var 1) (sr o q (some a)) M = .ok (.ref q) M := by simp [evE]
    rw [evSs, evS, hin', Out.bind_ok, if_neg (by decide), evSs, evS, evE, hv, Out.bind_ok]
    simp [evEs, lc, recvOk, asL, hq, methA, one?, extA, asSeq, z, evSs]
theorem rn_loop (k : Nat) (o : A) (q : Nat) : ∀ (O acc : List A) (M : Mem) (x2 : Option A), (∀ a ∈ O, AxD C Rn menu a) → acc.length + 2 * O.length ≤ 100 → M[q]? = some (.lst acc) →
    ∃ x2' M', forL (turnF (PP k) (.name 2) [.ife (.cmp .In (.idx (.var 2) (.con (.int 0))) (.glob (Str.ofString "ROLE_AXIOMS"))) [.expr (.meth .extend (.var 1) [(.slice false (.var 2) (some (.con (.int 1))) none)])] [.expr (.meth .extend (.var 1) [(.lc false [3] (.idx (.var 3) (.con (.int 1))) (.name 3) (.over (.slice false (.var 2) (some (.con (.int 1))) none)) [(.cmp .In (.idx (.var 3) (.con (.int 0))) (.glob (Str.ofString "DIRECTION_WORDS")))])])]]) O (sr o q x2) M = .ok (.nxt, sr o q x2') M' ∧ M'[q]? = some (.lst (acc ++ rnL O)) ∧ Fr q M M'
  | [], acc, M, x2, _, _, hq => ⟨x2, M, rfl, by simpa [rnL] using hq, Fr.refl q M⟩
  | a :: O, acc, M, x2, ha, hl, hq => by
    have hq' : q < M.length := (List.getElem?_eq_some_iff.mp hq).1
    have st := rn_turn k o q a (ha a List.mem_cons_self) acc (by omega) M hq x2
    have lr : (rnA a).length ≤ 2 := by
      have pa := ax_pa (ha a List.mem_cons_self)
      unfold rnA
      split
      · exact pa.l3
      · exact Nat.le_trans (List.length_filterMap_le _ _) pa.l3
    obtain ⟨x2', M', e, m, f⟩ := rn_loop k o q O (acc ++ rnA a) (M.set q (.lst (acc ++ rnA a))) (some a) (fun b hb => ha b (List.mem_cons_of_mem _ hb)) (by simp at hl ⊢; omega) (List.getElem?_set_self hq')
    refine ⟨x2', M', ?_, by rw [m]; simp [rnL], Fr.trans ⟨by simp, fun x hx => by rw [List.getElem?_set_ne (Ne.symm hx)]⟩ f⟩
    rw [forL, st, Out.bind_ok]; exact e
theorem r_rnames (k : Nat) (M : Mem) (o : A) (ho : itemsOf o = some O) (ha : ∀ a ∈ O, AxD C Rn menu a) (hl : O.length ≤ 16) : ∃ M', runF prg (k + 1) (Str.ofString "role_names_of") [o] M = .ok (.lst ((RN O).map .str)) M' ∧ Xt M M' := by
  have z0 : (0 : Nat) ≤ sizeLine := by decide
  obtain ⟨x2', M2, e2, m2, f2⟩ := rn_loop k o M.length O [] (M ++ [.lst []]) none ha (by simp; omega) (by simp)
  rw [List.nil_append] at m2
  have hlen : (rnL O).length < 64 := by
    have h2 := flat_len (f := rnA) (B := 2) (O := O) fun a h => by
      have pa := ax_pa (ha a h)
      unfold rnA
      split
      · exact pa.l3
      · exact Nat.le_trans (List.length_filterMap_le _ _) pa.l3
    unfold rnL
    omega
  refine ⟨M2.set M.length .dead, ?_, (frx_xt f2.x).set _ (Nat.le_refl _) _⟩
  rw [run_body lk_f_role_names_of k _ M rfl [some o, none, none, none] rfl [.asg 1 (.lst true []),
   .forS (.name 2) (.over (.var 0)) [.ife (.cmp .In (.idx (.var 2) (.con (.int 0))) (.glob (Str.ofString "ROLE_AXIOMS"))) [.expr (.meth .extend (.var 1) [(.slice false (.var 2) (some (.con (.int 1))) none)])] [.expr (.meth .extend (.var 1) [(.lc false [3] (.idx (.var 3) (.con (.int 1))) (.name 3) (.over (.slice false (.var 2) (some (.con (.int 1))) none)) [(.cmp .In (.idx (.var 3) (.con (.int 0))) (.glob (Str.ofString "DIRECTION_WORDS")))])])]],
   .frz 1,
   .ret (.sset false false (.var 1))] rfl]
  have a0 : evS (PP k) (.asg 1 (.lst true [])) [some o, none, none, none] M = .ok (.nxt, sr o M.length none) (M ++ [.lst []]) := by
    simp [evSs, evS, evE, evEs, evT, evTs, evO, evI, retOf, startA, cA, isiA, tyA, isiT, outB, outT, outV, outI, truA, one?, ints2?, two?, bltA, blt1, blt2, toIntA, idxA, asSeq, asL, cmpB, ltA, ltI, binA, addA, binN, MP.binI, mulA, repL, isI, setA, isX, isNone?, isNon, seqItems, asD, idxS, recvOk, methA, appA, finL, z0]
  have a1 : evS (PP k) (.forS (.name 2) (.over (.var 0)) [.ife (.cmp .In (.idx (.var 2) (.con (.int 0))) (.glob (Str.ofString "ROLE_AXIOMS"))) [.expr (.meth .extend (.var 1) [(.slice false (.var 2) (some (.con (.int 1))) none)])] [.expr (.meth .extend (.var 1) [(.lc false [3] (.idx (.var 3) (.con (.int 1))) (.name 3) (.over (.slice false (.var 2) (some (.con (.int 1))) none)) [(.cmp .In (.idx (.var 3) (.con (.int 0))) (.glob (Str.ofString "DIRECTION_WORDS")))])])]]) (sr o M.length none) (M ++ [.lst []]) = .ok (.nxt, sr o M.length x2') M2 := by
    have it : evI (PP k) (.over (.var 0)) (sr o M.length none) (M ++ [.lst []]) = .ok O (M ++ [.lst []]) := by simp [evI, evE, ho]
    rw [evS_for, it, Out.bind_ok, e2]
  have a2 : evS (PP k) (.frz 1) (sr o M.length x2') M2 = .ok (.nxt, [some o, some (.lst (rnL O)), x2', none]) (M2.set M.length .dead) := by
    simp [evSs, evS, evE, evEs, evT, evTs, evO, evI, retOf, startA, cA, isiA, tyA, isiT, outB, outT, outV, outI, truA, one?, ints2?, two?, bltA, blt1, blt2, toIntA, idxA, asSeq, asL, cmpB, ltA, ltI, binA, addA, binN, MP.binI, mulA, repL, isI, setA, isX, isNone?, isNon, seqItems, asD, idxS, recvOk, methA, appA, frzA, m2]
  rw [evSs_nxt a0, evSs_nxt a1, evSs_nxt a2]
  have e3 := setQ_ev (rnL_sx (pas ha)) hlen (M2.set M.length .dead)
  have hv : evE (PP k) (.var 1) [some o, some (.lst (rnL O)), x2', none] (M2.set M.length .dead) = .ok (.lst (rnL O)) (M2.set M.length .dead) := by simp [evE]
  rw [evSs, evS, evE, hv, Out.bind_ok, e3]
  rfl
end K03

namespace K03
open PySem MP
variable {C Rn menu O : List A}
theorem sd_len (L : List Str) : (sortS (dedS L)).length ≤ L.length := by
  unfold sortS
  rw [List.length_mergeSort]
  induction L with
  | nil => exact Nat.le_refl _
  | cons k r ih =>
    unfold dedS
    split
    · exact Nat.le_succ_of_le ih
    · exact Nat.succ_le_succ ih
theorem CN_len (ha : ∀ a ∈ O, AxD C Rn menu a) (hl : O.length ≤ 16) : (CN O).length ≤ 32 := by
  have h1 := sd_len ((cnL O).map strA)
  have h2 := List.length_filterMap_le cnm (O.flatMap conA)
  have h3 := flat_len (f := conA) (B := 2) (O := O) fun a h => by
    unfold conA
    split
    · exact (pas ha a h).l3
    · simp
  rw [List.length_map] at h1
  unfold CN
  unfold cnL at h1 ⊢
  omega
theorem RN_len (ha : ∀ a ∈ O, AxD C Rn menu a) (hl : O.length ≤ 16) : (RN O).length ≤ 32 := by
  have h1 := sd_len ((rnL O).map strA)
  have h3 := flat_len (f := rnA) (B := 2) (O := O) fun a h => by
    have pa := pas ha a h
    unfold rnA
    split
    · exact pa.l3
    · exact Nat.le_trans (List.length_filterMap_le _ _) pa.l3
  rw [List.length_map] at h1
  unfold RN
  unfold rnL at h1 ⊢
  omega
theorem RES_sg (ha : ∀ a ∈ O, AxD C Rn menu a) : ∀ x ∈ RES O, MP.sg 3 x = true := by
  intro x hx
  have hx' := (RES_mem (pas ha) x).mp hx
  obtain ⟨w, y, rfl, ⟨s, rfl, hs⟩, kw⟩ := EL_pr (pas ha) hx'
  exact Cn.sg ⟨w, s, rfl, kw, hs⟩
theorem r_concepts (k : Nat) (M : Mem) (o : A) (ho : itemsOf o = some O) (ha : ∀ a ∈ O, AxD C Rn menu a) (hl : O.length ≤ 16) :
    ∃ q M', runF prg (k + 2) (Str.ofString "concepts_of") [o] M = .ok (.ref q) M' ∧ M'[q]? = some (.lst (sortL (RES O))) ∧ M.length ≤ q ∧ Xt M M' := by
  obtain ⟨M1, e1, x1⟩ := r_cnames k M o ho ha hl
  have hc := CN_len ha hl
  have hr := RN_len ha hl
  have z1 : ((CN O).map fun s => pr tCon (.str s)).length ≤ sizeLine := small (m := 100) (by rw [List.length_map]; omega)
  have a0 : evS (PP (k + 1)) (.asg 1 (.lc false [2] (.tup [(.con (.str (Str.ofString "concept"))), (.var 2)]) (.name 2) (.over (.call (Str.ofString "concept_names_of") [(.var 0)])) [])) [some o, none, none, none] M = .ok (.nxt, [some o, some (.lst ((CN O).map fun s => pr tCon (.str s))), none, none]) M1 := by
    have it : evI (PP (k + 1)) (.over (.call (Str.ofString "concept_names_of") [(.var 0)])) [some o, none, none, none] M = .ok ((CN O).map .str) M1 := by
      simp [evI, evE, evEs, e1, itemsOf]
    have e2 := lcL_eq (f := lcB (PP (k + 1)) [2] (.tup [(.con (.str (Str.ofString "concept"))), (.var 2)]) (.name 2) [] [some o, none, none, none]) (g := fun x => some (pr tCon x)) (M := M1) ((CN O).map .str) fun x _ => by
      have z2 : (2 : Nat) ≤ sizeLine := by decide
      simp [lcB, bindT, wipeA, evTs, evE, evEs, cA, pr, z2]
    rw [evS, evE_lc, it, Out.bind_ok, e2, Out.noExc_ok, Out.bind_ok]
    have e3 : (List.filterMap (fun x => some (pr tCon x)) ((CN O).map A.str)) = (CN O).map fun s => pr tCon (.str s) := by
      generalize CN O = L
      induction L with
      | nil => rfl
      | cons a l ih => rw [List.map_cons, List.map_cons, List.filterMap_cons, ih]
    rw [e3, finL, if_pos z1]
    rfl
  have b := lc2_ev (PP (k + 1)) [3, 2] [2] (.tup [(.var 3), (.var 2)]) (.name 3) (.over (.glob (Str.ofString "DIRECTION_WORDS"))) [] (.name 2) (.over (.call (Str.ofString "role_names_of") [(.var 0)])) [some o, some (.lst ((CN O).map fun s => pr tCon (.str s))), none, none] M1 [.str tOut, .str tIn] (fun _ => true) (fun _ => (RN O).map .str) (fun x y => .tup [x, y]) 100 (by decide)
    (by simp [evI, evE, gDW, itemsOf]) (fun x hx => ⟨by rw [List.length_map]; omega, [some o, some (.lst ((CN O).map fun s => pr tCon (.str s))), none, some x], rfl, fun M => ⟨by simp [evTs], fun _ => by
      obtain ⟨M2, e2, x2⟩ := r_rnames k M o ho ha hl
      exact ⟨M2, by simp [evI, evE, evEs, e2, itemsOf], x2⟩, fun _ y _ => ⟨[some o, some (.lst ((CN O).map fun s => pr tCon (.str s))), some y, some x], rfl, fun M => by
      have z2 : (2 : Nat) ≤ sizeLine := by decide
      simp [evE, evEs, z2]⟩⟩⟩)
  obtain ⟨M2, e2, x2⟩ := b
  have e3 : ([A.str tOut, .str tIn].flatMap fun x => if (fun _ => true) x = true then ((RN O).map A.str).map ((fun x y => A.tup [x, y]) x) else []) = ((RN O).map fun s => pr tOut (.str s)) ++ ((RN O).map fun s => pr tIn (.str s)) := by
    simp [pr]
    rfl
  rw [e3] at e2
  have hlen : (RES O).length ≤ 100 := by
    unfold RES
    simp only [List.length_append, List.length_map]
    omega
  have s1 := okSort_pr RES_pr (by omega : (RES O).length ≤ 1000)
  have s2 : (sortL (RES O)).length ≤ sizeLine := small (m := 100) (by rw [sortL_len]; exact hlen)
  have z2 : (RES O).length ≤ sizeLine := small (m := 100) hlen
  refine ⟨M2.length, M2 ++ [.lst (sortL (RES O))], ?_, by simp, Nat.le_trans x1.len x2.len, (x1.trans x2).trans (Xt.app _ _)⟩
  rw [run_body lk_f_concepts_of (k + 1) _ M rfl [some o, none, none, none] rfl [.asg 1 (.lc false [2] (.tup [(.con (.str (Str.ofString "concept"))), (.var 2)]) (.name 2) (.over (.call (Str.ofString "concept_names_of") [(.var 0)])) []),
   .ret (.blt true .sorted [(.bin false .Add (.var 1) (.lc2 false [3, 2] [2] (.tup [(.var 3), (.var 2)]) (.name 3) (.over (.glob (Str.ofString "DIRECTION_WORDS"))) [] (.name 2) (.over (.call (Str.ofString "role_names_of") [(.var 0)])) []))])] rfl]
  rw [evSs_nxt a0, evSs, evS, evE, evEs, evE]
  have hv : evE (PP (k + 1)) (.var 1) [some o, some (.lst ((CN O).map fun s => pr tCon (.str s))), none, none] M1 = .ok (.lst ((CN O).map fun s => pr tCon (.str s))) M1 := by simp [evE]
  rw [hv, Out.bind_ok, e2, Out.bind_ok]
  have a2 : binA false .Add (.lst ((CN O).map fun s => pr tCon (.str s))) (.lst (((RN O).map fun s => pr tOut (.str s)) ++ ((RN O).map fun s => pr tIn (.str s)))) M2 = .ok (.lst (RES O)) M2 := by
    have z3 : (((CN O).map fun s => pr tCon (.str s)) ++ (((RN O).map fun s => pr tOut (.str s)) ++ ((RN O).map fun s => pr tIn (.str s)))).length ≤ sizeLine := z2
    simp only [binA, addA, asL, finL]
    rw [if_pos z3]
    rfl
  have a3 : bltA true .sorted [.lst (RES O)] M2 = .ok (.ref M2.length) (M2 ++ [.lst (sortL (RES O))]) := by
    simp only [bltA, one?, blt1, asL, s1, if_true, finL, s2]
  simp only [a2, a3, Out.bind_ok, evEs, retOf]
/-! what the law expects -/
abbrev eL (o : A) (acc : List A) (x2 x3 : Option A) : MP.Loc := [some o, some (.lst acc), x2, x3, none, none]
theorem pr_t (w : Str) (x : A) (M : Mem) : isiA (pr w x) .str M = some false := rfl
theorem ex_turn (k : Nat) (o v : A) (hv : Vx v) (acc : List A) (hl : acc.length ≤ 100) (M : Mem) (x2 x3 : Option A) :
    turnF (PP k) (.name 3) [.ife (.isi (.var 3) .str) [.asg 1 (.bin false .Add (.var 1) (.lst false [(.tup [(.con (.str (Str.ofString "out"))), (.var 3)]), (.tup [(.con (.str (Str.ofString "in"))), (.var 3)])]))] [.ife (.cmp .Eq (.idx (.var 3) (.con (.int 0))) (.con (.str (Str.ofString "concept")))) [.asg 1 (.bin false .Add (.var 1) (.lst false [(.var 3)]))] [.asg 1 (.bin false .Add (.var 1) (.lst false [(.tup [(.con (.str (Str.ofString "out"))), (.idx (.var 3) (.con (.int 1)))]), (.tup [(.con (.str (Str.ofString "in"))), (.idx (.var 3) (.con (.int 1)))])]))]]] v (eL o acc x2 x3) M = .ok (.nxt, eL o (acc ++ vL v) x2 (some v)) M := by
  have hb : bindT ((.name 3)) v (eL o acc x2 x3) = some (eL o acc x2 (some v)) := rfl
  rw [turn_eq hb]
  have z1 : acc.length + 1 ≤ sizeLine := small (m := 200) (by omega)
  have z2 : acc.length + 2 ≤ sizeLine := small (m := 200) (by omega)
  have y1 : (1 : Nat) ≤ sizeLine := by decide
  have y2 : (2 : Nat) ≤ sizeLine := by decide
  rcases hv with ⟨s, rfl, hs⟩ | ⟨w, x, rfl, sx, kw⟩
  · simp [evSs, evS, evE, evEs, evT, evTs, evO, evI, retOf, startA, cA, isiA, tyA, isiT, outB, outT, outV, outI, truA, one?, ints2?, two?, bltA, blt1, blt2, toIntA, idxA, asSeq, asL, cmpB, ltA, ltI, binA, addA, binN, MP.binI, mulA, repL, isI, setA, isX, isNone?, isNon, seqItems, asD, idxS, recvOk, methA, appA, finL, z1, z2, y1, y2, vL, pr]
  · by_cases q : tCon = w
    · simp [evSs, evS, evE, evEs, evT, evTs, evO, evI, retOf, startA, cA, isiA, tyA, isiT, outB, outT, outV, outI, truA, one?, ints2?, two?, bltA, blt1, blt2, toIntA, idxA, asSeq, asL, cmpB, ltA, ltI, binA, addA, binN, MP.binI, mulA, repL, isI, setA, isX, isNone?, isNon, seqItems, asD, idxS, recvOk, methA, appA, finL, z1, z2, y1, y2, vL, pr, at0, eq_str, q]
    · simp [evSs, evS, evE, evEs, evT, evTs, evO, evI, retOf, startA, cA, isiA, tyA, isiT, outB, outT, outV, outI, truA, one?, ints2?, two?, bltA, blt1, blt2, toIntA, idxA, asSeq, asL, cmpB, ltA, ltI, binA, addA, binN, MP.binI, mulA, repL, isI, setA, isX, isNone?, isNon, seqItems, asD, idxS, recvOk, methA, appA, finL, z1, z2, y1, y2, vL, pr, at0, at1, eq_str, q]
theorem ex_in (k : Nat) (o : A) (M : Mem) (x2 : Option A) : ∀ (vs acc : List A) (x3 : Option A), (∀ v ∈ vs, Vx v) → acc.length + 2 * vs.length ≤ 100 →
    ∃ x3', forL (turnF (PP k) (.name 3) [.ife (.isi (.var 3) .str) [.asg 1 (.bin false .Add (.var 1) (.lst false [(.tup [(.con (.str (Str.ofString "out"))), (.var 3)]), (.tup [(.con (.str (Str.ofString "in"))), (.var 3)])]))] [.ife (.cmp .Eq (.idx (.var 3) (.con (.int 0))) (.con (.str (Str.ofString "concept")))) [.asg 1 (.bin false .Add (.var 1) (.lst false [(.var 3)]))] [.asg 1 (.bin false .Add (.var 1) (.lst false [(.tup [(.con (.str (Str.ofString "out"))), (.idx (.var 3) (.con (.int 1)))]), (.tup [(.con (.str (Str.ofString "in"))), (.idx (.var 3) (.con (.int 1)))])]))]]]) vs (eL o acc x2 x3) M = .ok (.nxt, eL o (acc ++ vs.flatMap vL) x2 x3') M
  | [], acc, x3, _, _ => ⟨x3, by simp [forL]⟩
  | v :: vs, acc, x3, hv, hl => by
    have hvx := hv v List.mem_cons_self
    have st := ex_turn k o v hvx acc (by omega) M x2 x3
    have lv : (vL v).length ≤ 2 := by
      rcases hvx with ⟨s, rfl, _⟩ | ⟨w, x, rfl, _, kw⟩
      · exact Nat.le_refl _
      · rcases vL_pr (x := x) kw with ⟨_, e, _⟩ | ⟨_, e, _⟩ <;> rw [e] <;> simp
    obtain ⟨x3', e⟩ := ex_in k o M x2 vs (acc ++ vL v) (some v) (fun u hu => hv u (List.mem_cons_of_mem _ hu)) (by simp at hl ⊢; omega)
    refine ⟨x3', ?_⟩
    rw [forL, st, Out.bind_ok]
    simpa using e
theorem vx_len {v : A} (hvx : Vx v) : (vL v).length ≤ 2 := by
  rcases hvx with ⟨s, rfl, _⟩ | ⟨w, x, rfl, _, kw⟩
  · exact Nat.le_refl _
  · rcases vL_pr (x := x) kw with ⟨_, e, _⟩ | ⟨_, e, _⟩ <;> rw [e] <;> simp
theorem ax_len {a : A} (ha : AxD C Rn menu a) : ((args a).flatMap vL).length ≤ 4 := by
  have pa := ax_pa ha
  have h := flat_len (f := vL) (B := 2) (O := args a) fun v hv => vx_len (pa.vx v hv)
  have := pa.l3
  omega
theorem ex_out (k : Nat) (o : A) (M : Mem) : ∀ (O acc : List A) (x2 x3 : Option A), (∀ a ∈ O, AxD C Rn menu a) → acc.length + 4 * O.length ≤ 90 →
    ∃ x2' x3', forL (turnF (PP k) (.name 2) [.forS (.name 3) (.over (.slice false (.var 2) (some (.con (.int 1))) none)) [.ife (.isi (.var 3) .str) [.asg 1 (.bin false .Add (.var 1) (.lst false [(.tup [(.con (.str (Str.ofString "out"))), (.var 3)]), (.tup [(.con (.str (Str.ofString "in"))), (.var 3)])]))] [.ife (.cmp .Eq (.idx (.var 3) (.con (.int 0))) (.con (.str (Str.ofString "concept")))) [.asg 1 (.bin false .Add (.var 1) (.lst false [(.var 3)]))] [.asg 1 (.bin false .Add (.var 1) (.lst false [(.tup [(.con (.str (Str.ofString "out"))), (.idx (.var 3) (.con (.int 1)))]), (.tup [(.con (.str (Str.ofString "in"))), (.idx (.var 3) (.con (.int 1)))])]))]]]]) O (eL o acc x2 x3) M = .ok (.nxt, eL o (acc ++ EL O) x2' x3') M
  | [], acc, x2, x3, _, _ => ⟨x2, x3, by simp [forL, EL]⟩
  | a :: O, acc, x2, x3, ha, hl => by
    have h := ha a List.mem_cons_self
    have pa := ax_pa h
    have l3 := pa.l3
    have l4 := ax_len h
    obtain ⟨w, ew⟩ := ax_sh h
    obtain ⟨x3', e⟩ := ex_in k o M (some a) (args a) acc x3 pa.vx (by simp at hl; omega)
    have hb : bindT ((.name 2)) a (eL o acc x2 x3) = some (eL o acc (some a) x3) := rfl
    have it : evI (PP k) (.over (.slice false (.var 2) (some (.con (.int 1))) none)) (eL o acc (some a) x3) M = .ok (args a) M := by
      generalize args a = r at ew
      subst ew
      simp [evI, evE, evO, cA, sliceA, cd1, itemsOf]
    have st : turnF (PP k) (.name 2) [.forS (.name 3) (.over (.slice false (.var 2) (some (.con (.int 1))) none)) [.ife (.isi (.var 3) .str) [.asg 1 (.bin false .Add (.var 1) (.lst false [(.tup [(.con (.str (Str.ofString "out"))), (.var 3)]), (.tup [(.con (.str (Str.ofString "in"))), (.var 3)])]))] [.ife (.cmp .Eq (.idx (.var 3) (.con (.int 0))) (.con (.str (Str.ofString "concept")))) [.asg 1 (.bin false .Add (.var 1) (.lst false [(.var 3)]))] [.asg 1 (.bin false .Add (.var 1) (.lst false [(.tup [(.con (.str (Str.ofString "out"))), (.idx (.var 3) (.con (.int 1)))]), (.tup [(.con (.str (Str.ofString "in"))), (.idx (.var 3) (.con (.int 1)))])]))]]]] a (eL o acc x2 x3) M = .ok (.nxt, eL o (acc ++ (args a).flatMap vL) (some a) x3') M := by
      have a0 : evS (PP k) (.forS (.name 3) (.over (.slice false (.var 2) (some (.con (.int 1))) none)) [.ife (.isi (.var 3) .str) [.asg 1 (.bin false .Add (.var 1) (.lst false [(.tup [(.con (.str (Str.ofString "out"))), (.var 3)]), (.tup [(.con (.str (Str.ofString "in"))), (.var 3)])]))] [.ife (.cmp .Eq (.idx (.var 3) (.con (.int 0))) (.con (.str (Str.ofString "concept")))) [.asg 1 (.bin false .Add (.var 1) (.lst false [(.var 3)]))] [.asg 1 (.bin false .Add (.var 1) (.lst false [(.tup [(.con (.str (Str.ofString "out"))), (.idx (.var 3) (.con (.int 1)))]), (.tup [(.con (.str (Str.ofString "in"))), (.idx (.var 3) (.con (.int 1)))])]))]]]) (eL o acc (some a) x3) M = .ok (.nxt, eL o (acc ++ (args a).flatMap vL) (some a) x3') M := by
        rw [evS_for, it, Out.bind_ok, e]
      rw [turn_eq hb, evSs_nxt a0, evSs]
    obtain ⟨x2'', x3'', e'⟩ := ex_out k o M O (acc ++ (args a).flatMap vL) (some a) x3' (fun b hb => ha b (List.mem_cons_of_mem _ hb)) (by simp only [List.length_append, List.length_cons] at hl ⊢; omega)
    refine ⟨x2'', x3'', ?_⟩
    rw [forL, st, Out.bind_ok]
    have q : acc ++ EL (a :: O) = (acc ++ (args a).flatMap vL) ++ EL O := by simp [EL]
    rw [q]
    exact e'
theorem enumA_mem {x : A} : ∀ {L : List A} {n : Nat}, x ∈ enumA n L → ∃ (p : Nat) (v : A), x = .tup [.int (p : Int), v] ∧ v ∈ L
  | [], _, h => by simp [enumA] at h
  | y :: L, n, h => by
    have e : enumA n (y :: L) = .tup [.int (n : Int), y] :: enumA (n + 1) L := rfl
    rw [e] at h
    rcases List.mem_cons.mp h with rfl | h
    · exact ⟨n, y, rfl, List.mem_cons_self⟩
    · obtain ⟨p, v, e, m⟩ := enumA_mem h
      exact ⟨p, v, e, List.mem_cons_of_mem _ m⟩
theorem enumA_len : ∀ {L : List A} {n : Nat}, (enumA n L).length = L.length
  | [], _ => rfl
  | y :: L, n => by
    have e : enumA n (y :: L) = .tup [.int (n : Int), y] :: enumA (n + 1) L := rfl
    rw [e, List.length_cons, List.length_cons, enumA_len]
theorem cut_to (L : List A) (p : Nat) : cutA L none (some (p : Int)) = L.take p := by
  unfold cutA
  rw [HT.sIx_nat, HT.sIx_none]
  simp
theorem r_expected (k : Nat) (M : Mem) (o : A) (ho : itemsOf o = some O) (ha : ∀ a ∈ O, AxD C Rn menu a) (hl : O.length ≤ 16) : runF prg (k + 1) (Str.ofString "_law_expected") [o] M = .ok (.lst (sortL (dedF (EL O)))) M := by
  obtain ⟨x2, x3, e⟩ := ex_out k o M O [] none none ha (by simp; omega)
  rw [List.nil_append] at e
  have z0 : (0 : Nat) ≤ sizeLine := by decide
  have hE : (EL O).length ≤ 64 := by
    have h := flat_len (f := fun a => (args a).flatMap vL) (B := 4) (O := O) fun a h => ax_len (ha a h)
    unfold EL
    omega
  have hpl : ∀ x ∈ EL O, MP.pl 60 x = true := fun x hx => by
    obtain ⟨w, y, rfl, ⟨s, rfl, hs⟩, kw⟩ := EL_pr (pas ha) hx
    exact pl_mono (by omega) (Cn.pl ⟨w, s, rfl, kw, hs⟩)
  have a0 : evS (PP k) (.asg 1 (.lst false [])) [some o, none, none, none, none, none] M = .ok (.nxt, eL o [] none none) M := by
    simp [evSs, evS, evE, evEs, evT, evTs, evO, evI, retOf, startA, cA, isiA, tyA, isiT, outB, outT, outV, outI, truA, one?, ints2?, two?, bltA, blt1, blt2, toIntA, idxA, asSeq, asL, cmpB, ltA, ltI, binA, addA, binN, MP.binI, mulA, repL, isI, setA, isX, isNone?, isNon, seqItems, asD, idxS, recvOk, methA, appA, finL, z0]
  have a1 : evS (PP k) (.forS (.name 2) (.over (.var 0)) [.forS (.name 3) (.over (.slice false (.var 2) (some (.con (.int 1))) none)) [.ife (.isi (.var 3) .str) [.asg 1 (.bin false .Add (.var 1) (.lst false [(.tup [(.con (.str (Str.ofString "out"))), (.var 3)]), (.tup [(.con (.str (Str.ofString "in"))), (.var 3)])]))] [.ife (.cmp .Eq (.idx (.var 3) (.con (.int 0))) (.con (.str (Str.ofString "concept")))) [.asg 1 (.bin false .Add (.var 1) (.lst false [(.var 3)]))] [.asg 1 (.bin false .Add (.var 1) (.lst false [(.tup [(.con (.str (Str.ofString "out"))), (.idx (.var 3) (.con (.int 1)))]), (.tup [(.con (.str (Str.ofString "in"))), (.idx (.var 3) (.con (.int 1)))])]))]]]]) (eL o [] none none) M = .ok (.nxt, eL o (EL O) x2 x3) M := by
    have it : evI (PP k) (.over (.var 0)) (eL o [] none none) M = .ok O M := by simp [evI, evE, ho]
    rw [evS_for, it, Out.bind_ok, e]
  have e2 := lc_fm (PP k) [4, 5] (.var 5) (.tup [4, 5]) (.enum (.var 1)) [(.cmp .NotIn (.var 5) (.slice false (.var 1) none (some (.var 4))))] (eL o (EL O) x2 x3) M (enumA 0 (EL O)) (fE (EL O)) (by simp [evI, evE, seqItems]) (by rw [enumA_len]; omega) fun x hx => by
    obtain ⟨p, v, rfl, hv⟩ := enumA_mem hx
    have hin : inA v (.lst ((EL O).take p)) M = some (((EL O).take p).any fun y => eqT y v) := inA_lst M (hpl v hv) (List.all_eq_true.mpr fun y hy => hpl y (List.mem_of_mem_take hy))
    have zt : ((EL O).take p).length ≤ sizeLine := small (m := 100) (by rw [List.length_take]; omega)
    rw [List.length_take] at zt
    cases c : ((EL O).take p).any fun y => eqT y v with
    | true =>
      rw [c] at hin
      have hf : fE (EL O) (.tup [.int (p : Int), v]) = none := by simp only [fE, Int.toNat_natCast]; rw [if_pos c]
      rw [hf]
      simp [lcB, bindT, setAll, wipeA, evTs, evT, evE, evO, cA, sliceA, cut_to, cmpB, hin, outT, asL, finL, zt]
    | false =>
      rw [c] at hin
      have hf : fE (EL O) (.tup [.int (p : Int), v]) = some v := by simp only [fE, Int.toNat_natCast]; rw [if_neg (by rw [c]; decide)]
      rw [hf]
      simp [lcB, bindT, setAll, wipeA, evTs, evT, evE, evO, cA, sliceA, cut_to, cmpB, hin, outT, asL, finL, zt]
  obtain ⟨g1, _, _⟩ := ded_go (EL_isPr (pas ha)) (EL O) [] rfl
  have hlen : (dedF (EL O)).length ≤ 64 := by
    have h := List.length_filterMap_le (fE (EL O)) (enumA 0 (EL O))
    rw [enumA_len] at h
    unfold dedF
    omega
  have s1 := okSort_pr (xs := dedF (EL O)) (fun x hx => EL_isPr (pas ha) x (g1 x hx).1) (by omega)
  have s2 : (sortL (dedF (EL O))).length ≤ sizeLine := small (m := 100) (by rw [sortL_len]; omega)
  have a3 : bltA false .sorted [.lst (dedF (EL O))] M = .ok (.lst (sortL (dedF (EL O)))) M := by
    simp only [bltA, one?, blt1, asL, s1, if_true, finL, s2, Bool.false_eq_true, if_false]
  rw [run_body lk_f_law_expected k _ M rfl [some o, none, none, none, none, none] rfl [.asg 1 (.lst false []),
   .forS (.name 2) (.over (.var 0)) [.forS (.name 3) (.over (.slice false (.var 2) (some (.con (.int 1))) none)) [.ife (.isi (.var 3) .str) [.asg 1 (.bin false .Add (.var 1) (.lst false [(.tup [(.con (.str (Str.ofString "out"))), (.var 3)]), (.tup [(.con (.str (Str.ofString "in"))), (.var 3)])]))] [.ife (.cmp .Eq (.idx (.var 3) (.con (.int 0))) (.con (.str (Str.ofString "concept")))) [.asg 1 (.bin false .Add (.var 1) (.lst false [(.var 3)]))] [.asg 1 (.bin false .Add (.var 1) (.lst false [(.tup [(.con (.str (Str.ofString "out"))), (.idx (.var 3) (.con (.int 1)))]), (.tup [(.con (.str (Str.ofString "in"))), (.idx (.var 3) (.con (.int 1)))])]))]]]],
   .ret (.blt false .sorted [(.lc false [4, 5] (.var 5) (.tup [4, 5]) (.enum (.var 1)) [(.cmp .NotIn (.var 5) (.slice false (.var 1) none (some (.var 4))))])])] rfl]
  rw [evSs_nxt a0, evSs_nxt a1, evSs, evS, evE, evEs, e2]
  have a3' : bltA false .sorted [.lst ((enumA 0 (EL O)).filterMap (fE (EL O)))] M = .ok (.lst (sortL (dedF (EL O)))) M := a3
  simp only [Out.bind_ok, evEs, a3', retOf]
end K03

namespace K03
open PySem MP
theorem kbC : prg.kb.lookup (Str.ofString "concepts_of", 0, [Str.ofString "ontology"]) = some [.arg 0] := by decide +kernel
theorem kbI : prg.kb.lookup (Str.ofString "inverse", 0, [Str.ofString "direction"]) = some [.arg 0] := by decide +kernel
def menuL : List A := [.str tSub, .str tSub, .str tDis, .str tSr, .str tSi, .str tDr, .str tDi, .str tFun]
theorem menu_ok : ∀ m ∈ menuL, m ∈ menuW := by
  intro m hm
  simp only [menuL, List.mem_cons, List.not_mem_nil, or_false] at hm
  rcases hm with rfl | rfl | rfl | rfl | rfl | rfl | rfl | rfl <;> simp [menuW]
abbrev cL (sc : A) (v1 v3 v4 v5 v6 v7 v8 v9 : Option A) : MP.Loc := [some sc, v1, some (.lst menuL), v3, v4, v5, v6, v7, v8, v9]
theorem ne_pr (w x : Str) (hx : isW (.str x) = true) (hw : w = tOut ∨ w = tIn) (M : Mem) : neX (.tup [.str w, .str x]) (.tup [.str w, .str x]) M = some false := by
  have h : MP.pl 60 (.tup [.str w, .str x]) = true := pl_mono (by omega) (Cn.pl ⟨w, x, rfl, .inr hw, hx⟩)
  rw [ne_tree M h h rfl rfl]
  simp [eqT, eqTs]
theorem name_turn (k : Nat) (M : Mem) (sc : A) (v1 v3 v4 v5 v6 v7 v8 v9 : Option A) (x : A) (hx : isW x = true) :
    turnF (PP (k + 4)) (.name 9) [.ife (.or (.cmp .NotEq (.call (Str.ofString "inverse") [(.tup [(.con (.str (Str.ofString "out"))), (.var 9)])]) (.tup [(.con (.str (Str.ofString "in"))), (.var 9)])) (.cmp .NotEq (.callK (Str.ofString "inverse") 0 [(Str.ofString "direction")] [] [(.tup [(.con (.str (Str.ofString "in"))), (.var 9)])]) (.tup [(.con (.str (Str.ofString "out"))), (.var 9)]))) [.ret (.con (.bool false))] []] x (cL sc v1 v3 v4 v5 v6 v7 v8 v9) M = .ok (.nxt, cL sc v1 v3 v4 v5 v6 v7 v8 (some x)) M := by
  obtain ⟨s, rfl⟩ := isW_str hx
  have hb : bindT ((.name 9)) (.str s) (cL sc v1 v3 v4 v5 v6 v7 v8 v9) = some (cL sc v1 v3 v4 v5 v6 v7 v8 (some (.str s))) := rfl
  have e1 := r_inv k M tOut s (.inl rfl) hx
  have e2 := r_inv k M tIn s (.inr rfl) hx
  have i1 : invW tOut = tIn := rfl
  have i2 : invW tIn = tOut := by decide +kernel
  rw [i1] at e1
  rw [i2] at e2
  have n1 := ne_pr tIn s hx (.inr rfl) M
  have n2 := ne_pr tOut s hx (.inl rfl) M
  have z2 : (2 : Nat) ≤ sizeLine := by decide
  rw [turn_eq hb]
  simp [evSs, evS, evE, evEs, evT, evTs, evO, evI, retOf, startA, cA, isiA, tyA, isiT, outB, outT, outV, outI, truA, one?, ints2?, two?, bltA, blt1, blt2, toIntA, idxA, asSeq, asL, cmpB, ltA, ltI, binA, addA, binN, MP.binI, mulA, repL, isI, setA, isX, isNone?, isNon, seqItems, asD, idxS, recvOk, methA, appA, callKA, kbI, arrA, z2, e1, e2, n1, n2]
theorem k_step (k : Nat) (M : Mem) (ns : List Int) (i : Nat) (h1 : i < 100) (v1 v3 v4 v5 v6 v7 v8 v9 : Option A) : ∃ v4' v5' v6' v7' v8' v9' M',
    turnF (PP (k + 10)) (.name 3) [.asg 4 (.call (Str.ofString "_law_stream") [(.var 0), (.var 3)]), .asg 5 (.call (Str.ofString "_law_names") [(.var 4)]), .asg 6 (.call (Str.ofString "_law_ontology") [(.var 4), (.var 5), (.var 2), (.con (.int 9))]), .asg 7 (.blt false .repr [(.var 6)]), .asg 8 (.call (Str.ofString "concepts_of") [(.var 6)]), .ife (.cmp .NotEq (.var 8) (.call (Str.ofString "_law_expected") [(.var 6)])) [.ret (.con (.bool false))] [], .expr (.meth .append (.var 8) [(.con .none)]), .frz 8, .ife (.or (.cmp .NotEq (.callK (Str.ofString "concepts_of") 0 [(Str.ofString "ontology")] [] [(.blt false .tuple [(.var 6)])]) (.call (Str.ofString "_law_expected") [(.var 6)])) (.cmp .NotEq (.blt false .repr [(.var 6)]) (.var 7))) [.ret (.con (.bool false))] [], .forS (.name 9) (.over (.idx (.var 5) (.con (.int 1)))) [.ife (.or (.cmp .NotEq (.call (Str.ofString "inverse") [(.tup [(.con (.str (Str.ofString "out"))), (.var 9)])]) (.tup [(.con (.str (Str.ofString "in"))), (.var 9)])) (.cmp .NotEq (.callK (Str.ofString "inverse") 0 [(Str.ofString "direction")] [] [(.tup [(.con (.str (Str.ofString "in"))), (.var 9)])]) (.tup [(.con (.str (Str.ofString "out"))), (.var 9)]))) [.ret (.con (.bool false))] []]] (.int (i : Int)) (cL (scriptA ns) v1 v3 v4 v5 v6 v7 v8 v9) M = .ok (.nxt, cL (scriptA ns) v1 (some (.int (i : Int))) v4' v5' v6' v7' v8' v9') M' := by
  obtain ⟨M1, e1, s1⟩ := r_stream hDr.d (k + 9) M ns (i : Int) (by omega) (by omega)
  obtain ⟨nv, C, Rn, M2, e2, hn, s2⟩ := r_names hDr (k + 8) M1 M.length s1
  obtain ⟨ys, M3, e3, ha, hly, s3, _⟩ := r_ontology hOnt (k + 5) M2 M.length nv C Rn menuL 9 s2 hn menu_ok (by decide) (by decide) (by decide) (by decide)
  have hO : ys.length ≤ 16 := by omega
  obtain ⟨t, ht⟩ := repr_list (n := 3) (by omega) (xs := ys) (by omega) (List.all_eq_true.mpr fun y hy => (ha y hy).gd3)
  obtain ⟨q, M4, e4, m4, l4, x4⟩ := r_concepts (k + 8) M3 (.lst ys) rfl ha hO
  have e5 := r_expected (k + 9) M4 (.lst ys) rfl ha hO
  rw [← same (pas ha)] at e5
  have hsg : ∀ x ∈ sortL (RES ys), MP.sg 3 x = true := fun x hx => RES_sg ha x (sortL_mem.mp hx)
  have n5 := ne_ref (by omega) m4 hsg
  have hql : q < M4.length := (List.getElem?_eq_some_iff.mp m4).1
  have lsz : (sortL (RES ys)).length < sizeLine := smallLt (m := 100) (by
    have hc := CN_len ha hO
    have hr := RN_len ha hO
    rw [sortL_len]
    unfold RES
    simp only [List.length_append, List.length_map]
    omega)
  have e5' : ∀ M, runF prg (k + 10) (Str.ofString "_law_expected") [.lst ys] M = .ok (.lst (sortL (RES ys))) M := fun M => by
    have e := r_expected (k + 9) M (.lst ys) rfl ha hO
    rw [← same (pas ha)] at e
    exact e
  generalize hR : sortL (RES ys) = R at *
  have m6 : (M4.set q (.lst (R ++ [.non])))[q]? = some (.lst (R ++ [.non])) := List.getElem?_set_self hql
  generalize hM6 : M4.set q (.lst (R ++ [.non])) = M5 at m6
  obtain ⟨q8, M8, e8, m8, l8, x8⟩ := r_concepts (k + 8) (M5.set q .dead) (.tup ys) rfl ha hO
  rw [hR] at m8
  have n8 := ne_ref (by omega) m8 hsg
  have b : bindT ((.name 3)) (.int (i : Int)) (cL (scriptA ns) v1 v3 v4 v5 v6 v7 v8 v9) = some (cL (scriptA ns) v1 (some (.int (i : Int))) v4 v5 v6 v7 v8 v9) := rfl
  have a0 : evS (PP (k + 10)) (.asg 4 (.call (Str.ofString "_law_stream") [(.var 0), (.var 3)])) (cL (scriptA ns) v1 (some (.int (i : Int))) v4 v5 v6 v7 v8 v9) M = .ok (.nxt, cL (scriptA ns) v1 (some (.int (i : Int))) (some (.ref M.length)) v5 v6 v7 v8 v9) M1 := by simp [evSs, evS, evE, evEs, evT, evTs, evO, evI, retOf, startA, cA, isiA, tyA, isiT, outB, outT, outV, outI, truA, one?, ints2?, two?, bltA, blt1, blt2, toIntA, idxA, asSeq, asL, cmpB, ltA, ltI, binA, addA, binN, MP.binI, mulA, repL, isI, setA, isX, isNone?, isNon, seqItems, asD, idxS, recvOk, methA, appA, e1]
  have a1 : evS (PP (k + 10)) (.asg 5 (.call (Str.ofString "_law_names") [(.var 4)])) (cL (scriptA ns) v1 (some (.int (i : Int))) (some (.ref M.length)) v5 v6 v7 v8 v9) M1 = .ok (.nxt, cL (scriptA ns) v1 (some (.int (i : Int))) (some (.ref M.length)) (some nv) v6 v7 v8 v9) M2 := by simp [evSs, evS, evE, evEs, evT, evTs, evO, evI, retOf, startA, cA, isiA, tyA, isiT, outB, outT, outV, outI, truA, one?, ints2?, two?, bltA, blt1, blt2, toIntA, idxA, asSeq, asL, cmpB, ltA, ltI, binA, addA, binN, MP.binI, mulA, repL, isI, setA, isX, isNone?, isNon, seqItems, asD, idxS, recvOk, methA, appA, e2]
  have a2 : evS (PP (k + 10)) (.asg 6 (.call (Str.ofString "_law_ontology") [(.var 4), (.var 5), (.var 2), (.con (.int 9))])) (cL (scriptA ns) v1 (some (.int (i : Int))) (some (.ref M.length)) (some nv) v6 v7 v8 v9) M2 = .ok (.nxt, cL (scriptA ns) v1 (some (.int (i : Int))) (some (.ref M.length)) (some nv) (some (.lst ys)) v7 v8 v9) M3 := by simp [evSs, evS, evE, evEs, evT, evTs, evO, evI, retOf, startA, cA, isiA, tyA, isiT, outB, outT, outV, outI, truA, one?, ints2?, two?, bltA, blt1, blt2, toIntA, idxA, asSeq, asL, cmpB, ltA, ltI, binA, addA, binN, MP.binI, mulA, repL, isI, setA, isX, isNone?, isNon, seqItems, asD, idxS, recvOk, methA, appA, e3]
  have a3 : evS (PP (k + 10)) (.asg 7 (.blt false .repr [(.var 6)])) (cL (scriptA ns) v1 (some (.int (i : Int))) (some (.ref M.length)) (some nv) (some (.lst ys)) v7 v8 v9) M3 = .ok (.nxt, cL (scriptA ns) v1 (some (.int (i : Int))) (some (.ref M.length)) (some nv) (some (.lst ys)) (some (.str t)) v8 v9) M3 := by simp [evSs, evS, evE, evEs, evT, evTs, evO, evI, retOf, startA, cA, isiA, tyA, isiT, outB, outT, outV, outI, truA, one?, ints2?, two?, bltA, blt1, blt2, toIntA, idxA, asSeq, asL, cmpB, ltA, ltI, binA, addA, binN, MP.binI, mulA, repL, isI, setA, isX, isNone?, isNon, seqItems, asD, idxS, recvOk, methA, appA, ht]
  have a4 : evS (PP (k + 10)) (.asg 8 (.call (Str.ofString "concepts_of") [(.var 6)])) (cL (scriptA ns) v1 (some (.int (i : Int))) (some (.ref M.length)) (some nv) (some (.lst ys)) (some (.str t)) v8 v9) M3 = .ok (.nxt, cL (scriptA ns) v1 (some (.int (i : Int))) (some (.ref M.length)) (some nv) (some (.lst ys)) (some (.str t)) (some (.ref q)) v9) M4 := by simp [evSs, evS, evE, evEs, evT, evTs, evO, evI, retOf, startA, cA, isiA, tyA, isiT, outB, outT, outV, outI, truA, one?, ints2?, two?, bltA, blt1, blt2, toIntA, idxA, asSeq, asL, cmpB, ltA, ltI, binA, addA, binN, MP.binI, mulA, repL, isI, setA, isX, isNone?, isNon, seqItems, asD, idxS, recvOk, methA, appA, e4]
  have a5 : evS (PP (k + 10)) (.ife (.cmp .NotEq (.var 8) (.call (Str.ofString "_law_expected") [(.var 6)])) [.ret (.con (.bool false))] []) (cL (scriptA ns) v1 (some (.int (i : Int))) (some (.ref M.length)) (some nv) (some (.lst ys)) (some (.str t)) (some (.ref q)) v9) M4 = .ok (.nxt, cL (scriptA ns) v1 (some (.int (i : Int))) (some (.ref M.length)) (some nv) (some (.lst ys)) (some (.str t)) (some (.ref q)) v9) M4 := by
    simp [evSs, evS, evE, evEs, evT, evTs, evO, evI, retOf, startA, cA, isiA, tyA, isiT, outB, outT, outV, outI, truA, one?, ints2?, two?, bltA, blt1, blt2, toIntA, idxA, asSeq, asL, cmpB, ltA, ltI, binA, addA, binN, MP.binI, mulA, repL, isI, setA, isX, isNone?, isNon, seqItems, asD, idxS, recvOk, methA, appA, e5', n5]
  have a6 : evS (PP (k + 10)) (.expr (.meth .append (.var 8) [(.con .none)])) (cL (scriptA ns) v1 (some (.int (i : Int))) (some (.ref M.length)) (some nv) (some (.lst ys)) (some (.str t)) (some (.ref q)) v9) M4 = .ok (.nxt, cL (scriptA ns) v1 (some (.int (i : Int))) (some (.ref M.length)) (some nv) (some (.lst ys)) (some (.str t)) (some (.ref q)) v9) M5 := by
    rw [← hM6]
    simp [evSs, evS, evE, evEs, evT, evTs, evO, evI, retOf, startA, cA, isiA, tyA, isiT, outB, outT, outV, outI, truA, one?, ints2?, two?, bltA, blt1, blt2, toIntA, idxA, asSeq, asL, cmpB, ltA, ltI, binA, addA, binN, MP.binI, mulA, repL, isI, setA, isX, isNone?, isNon, seqItems, asD, idxS, recvOk, methA, appA, m4, lsz]
  have a7 : evS (PP (k + 10)) (.frz 8) (cL (scriptA ns) v1 (some (.int (i : Int))) (some (.ref M.length)) (some nv) (some (.lst ys)) (some (.str t)) (some (.ref q)) v9) M5 = .ok (.nxt, cL (scriptA ns) v1 (some (.int (i : Int))) (some (.ref M.length)) (some nv) (some (.lst ys)) (some (.str t)) (some (.lst (R ++ [.non]))) v9) (M5.set q .dead) := by
    simp [evSs, evS, evE, evEs, evT, evTs, evO, evI, retOf, startA, cA, isiA, tyA, isiT, outB, outT, outV, outI, truA, one?, ints2?, two?, bltA, blt1, blt2, toIntA, idxA, asSeq, asL, cmpB, ltA, ltI, binA, addA, binN, MP.binI, mulA, repL, isI, setA, isX, isNone?, isNon, seqItems, asD, idxS, recvOk, methA, appA, frzA, m6]
  have a8 : evS (PP (k + 10)) (.ife (.or (.cmp .NotEq (.callK (Str.ofString "concepts_of") 0 [(Str.ofString "ontology")] [] [(.blt false .tuple [(.var 6)])]) (.call (Str.ofString "_law_expected") [(.var 6)])) (.cmp .NotEq (.blt false .repr [(.var 6)]) (.var 7))) [.ret (.con (.bool false))] []) (cL (scriptA ns) v1 (some (.int (i : Int))) (some (.ref M.length)) (some nv) (some (.lst ys)) (some (.str t)) (some (.lst (R ++ [.non]))) v9) (M5.set q .dead) = .ok (.nxt, cL (scriptA ns) v1 (some (.int (i : Int))) (some (.ref M.length)) (some nv) (some (.lst ys)) (some (.str t)) (some (.lst (R ++ [.non]))) v9) M8 := by
    simp [evSs, evS, evE, evEs, evT, evTs, evO, evI, retOf, startA, cA, isiA, tyA, isiT, outB, outT, outV, outI, truA, one?, ints2?, two?, bltA, blt1, blt2, toIntA, idxA, asSeq, asL, cmpB, ltA, ltI, binA, addA, binN, MP.binI, mulA, repL, isI, setA, isX, isNone?, isNon, seqItems, asD, idxS, recvOk, methA, appA, callKA, kbC, arrA, e8, e5', n8, ht, ne_str]
  obtain ⟨hnv, c1, c2, c3, c4⟩ := hn
  subst hnv
  have it9 : evI (PP (k + 10)) (.over (.idx (.var 5) (.con (.int 1)))) (cL (scriptA ns) v1 (some (.int (i : Int))) (some (.ref M.length)) (some (.tup [.lst C, .lst Rn])) (some (.lst ys)) (some (.str t)) (some (.lst (R ++ [.non]))) v9) M8 = .ok Rn M8 := by
    simp [evSs, evS, evE, evEs, evT, evTs, evO, evI, retOf, startA, cA, isiA, tyA, isiT, outB, outT, outV, outI, truA, one?, ints2?, two?, bltA, blt1, blt2, toIntA, idxA, asSeq, asL, cmpB, ltA, ltI, binA, addA, binN, MP.binI, mulA, repL, isI, setA, isX, isNone?, isNon, seqItems, asD, idxS, recvOk, methA, appA, at1, itemsOf]
  obtain ⟨ς', M9, e9, v9', rfl⟩ := forL_all (f := turnF (PP (k + 10)) (.name 9) [.ife (.or (.cmp .NotEq (.call (Str.ofString "inverse") [(.tup [(.con (.str (Str.ofString "out"))), (.var 9)])]) (.tup [(.con (.str (Str.ofString "in"))), (.var 9)])) (.cmp .NotEq (.callK (Str.ofString "inverse") 0 [(Str.ofString "direction")] [] [(.tup [(.con (.str (Str.ofString "in"))), (.var 9)])]) (.tup [(.con (.str (Str.ofString "out"))), (.var 9)]))) [.ret (.con (.bool false))] []]) (fun ς M' => ∃ v9, ς = cL (scriptA ns) v1 (some (.int (i : Int))) (some (.ref M.length)) (some (.tup [.lst C, .lst Rn])) (some (.lst ys)) (some (.str t)) (some (.lst (R ++ [.non]))) v9) Rn (fun x hx ς M1 hI => by
    obtain ⟨v9, rfl⟩ := hI
    exact ⟨_, M1, name_turn (k + 6) M1 (scriptA ns) v1 (some (.int (i : Int))) (some (.ref M.length)) (some (.tup [.lst C, .lst Rn])) (some (.lst ys)) (some (.str t)) (some (.lst (R ++ [.non]))) v9 x (List.all_eq_true.mp c2 x hx), _, rfl⟩) (cL (scriptA ns) v1 (some (.int (i : Int))) (some (.ref M.length)) (some (.tup [.lst C, .lst Rn])) (some (.lst ys)) (some (.str t)) (some (.lst (R ++ [.non]))) v9) M8 ⟨_, rfl⟩
  have a9 : evS (PP (k + 10)) (.forS (.name 9) (.over (.idx (.var 5) (.con (.int 1)))) [.ife (.or (.cmp .NotEq (.call (Str.ofString "inverse") [(.tup [(.con (.str (Str.ofString "out"))), (.var 9)])]) (.tup [(.con (.str (Str.ofString "in"))), (.var 9)])) (.cmp .NotEq (.callK (Str.ofString "inverse") 0 [(Str.ofString "direction")] [] [(.tup [(.con (.str (Str.ofString "in"))), (.var 9)])]) (.tup [(.con (.str (Str.ofString "out"))), (.var 9)]))) [.ret (.con (.bool false))] []]) (cL (scriptA ns) v1 (some (.int (i : Int))) (some (.ref M.length)) (some (.tup [.lst C, .lst Rn])) (some (.lst ys)) (some (.str t)) (some (.lst (R ++ [.non]))) v9) M8 = .ok (.nxt, cL (scriptA ns) v1 (some (.int (i : Int))) (some (.ref M.length)) (some (.tup [.lst C, .lst Rn])) (some (.lst ys)) (some (.str t)) (some (.lst (R ++ [.non]))) v9') M9 := by
    rw [evS_for, it9, Out.bind_ok, e9]
  refine ⟨some (.ref M.length), some (.tup [.lst C, .lst Rn]), some (.lst ys), some (.str t), some (.lst (R ++ [.non])), v9', M9, ?_⟩
  rw [turn_eq b]
  rw [evSs_nxt a0, evSs_nxt a1, evSs_nxt a2, evSs_nxt a3, evSs_nxt a4, evSs_nxt a5, evSs_nxt a6, evSs_nxt a7, evSs_nxt a8, evSs_nxt a9, evSs]
theorem r_law (k : Nat) (ns : List Int) : ∃ M, runF prg (k + 11) (Str.ofString "law") [scriptA ns] [] = .ok (.bl true) M := by
  have z : ∀ n, n ≤ 100 → n ≤ sizeLine := fun n h => small h
  have it0 : evI (PP (k + 10)) (.over (.lst false [(.con .none), (.con (.bool true)), (.con (.str (Str.ofString "r"))), (.tup []), (.tup [(.con (.str (Str.ofString "concept"))), (.con (.str (Str.ofString "a")))]), (.tup [(.con (.str (Str.ofString "out")))]), (.tup [(.con (.str (Str.ofString "out"))), (.con (.int 5))]), (.lst false [(.con (.str (Str.ofString "out"))), (.con (.str (Str.ofString "r")))]), (.tup [(.con (.str (Str.ofString "in"))), (.con (.str (Str.ofString "R")))]), (.tup [(.dnew), (.con (.str (Str.ofString "r")))]), (.dnew)])) [some (scriptA ns), none, none, none, none, none, none, none, none, none] [] = .ok badL [] := by
    simp [evSs, evS, evE, evEs, evT, evTs, evO, evI, retOf, startA, cA, isiA, tyA, isiT, outB, outT, outV, outI, truA, one?, ints2?, two?, bltA, blt1, blt2, toIntA, idxA, asSeq, asL, cmpB, ltA, ltI, binA, addA, binN, MP.binI, mulA, repL, isI, setA, isX, isNone?, isNon, seqItems, asD, idxS, recvOk, methA, appA, finL, z, itemsOf, badL]
  obtain ⟨ς0, M0, e0, v1, rfl⟩ := forL_all (f := turnF (PP (k + 10)) (.name 1) [.ife (.cmp .IsNot (.call (Str.ofString "_law_raises") [(.var 1)]) (.con (.bool true))) [.ret (.con (.bool false))] []]) (fun ς M' => ∃ v1, ς = [some (scriptA ns), v1, none, none, none, none, none, none, none, none]) badL (fun x hx ς M1 hI => by
    obtain ⟨v1, rfl⟩ := hI
    have hb := List.all_eq_true.mp bad_ok x hx
    rw [Bool.and_eq_true] at hb
    have e := r_raises (k + 5) M1 x hb.1 (by simpa using hb.2)
    refine ⟨[some (scriptA ns), some x, none, none, none, none, none, none, none, none], M1, ?_, _, rfl⟩
    simp [turnF, bindT, evSs, evS, evE, evEs, evT, evTs, evO, evI, retOf, startA, cA, isiA, tyA, isiT, outB, outT, outV, outI, truA, one?, ints2?, two?, bltA, blt1, blt2, toIntA, idxA, asSeq, asL, cmpB, ltA, ltI, binA, addA, binN, MP.binI, mulA, repL, isI, setA, isX, isNone?, isNon, seqItems, asD, idxS, recvOk, methA, appA, e]) [some (scriptA ns), none, none, none, none, none, none, none, none, none] [] ⟨_, rfl⟩
  have b0 : evS (PP (k + 10)) (.forS (.name 1) (.over (.lst false [(.con .none), (.con (.bool true)), (.con (.str (Str.ofString "r"))), (.tup []), (.tup [(.con (.str (Str.ofString "concept"))), (.con (.str (Str.ofString "a")))]), (.tup [(.con (.str (Str.ofString "out")))]), (.tup [(.con (.str (Str.ofString "out"))), (.con (.int 5))]), (.lst false [(.con (.str (Str.ofString "out"))), (.con (.str (Str.ofString "r")))]), (.tup [(.con (.str (Str.ofString "in"))), (.con (.str (Str.ofString "R")))]), (.tup [(.dnew), (.con (.str (Str.ofString "r")))]), (.dnew)])) [.ife (.cmp .IsNot (.call (Str.ofString "_law_raises") [(.var 1)]) (.con (.bool true))) [.ret (.con (.bool false))] []]) [some (scriptA ns), none, none, none, none, none, none, none, none, none] [] = .ok (.nxt, [some (scriptA ns), v1, none, none, none, none, none, none, none, none]) M0 := by
    rw [evS_for, it0, Out.bind_ok, e0]
  have b1 : evS (PP (k + 10)) (.asg 2 (.lst false [(.con (.str (Str.ofString "subclass"))), (.con (.str (Str.ofString "subclass"))), (.con (.str (Str.ofString "disjoint"))), (.con (.str (Str.ofString "subrole"))), (.con (.str (Str.ofString "subrole_inverse"))), (.con (.str (Str.ofString "disjoint_roles"))), (.con (.str (Str.ofString "disjoint_inverse"))), (.con (.str (Str.ofString "functional")))])) [some (scriptA ns), v1, none, none, none, none, none, none, none, none] M0 = .ok (.nxt, cL (scriptA ns) v1 none none none none none none none) M0 := by
    simp [evSs, evS, evE, evEs, evT, evTs, evO, evI, retOf, startA, cA, isiA, tyA, isiT, outB, outT, outV, outI, truA, one?, ints2?, two?, bltA, blt1, blt2, toIntA, idxA, asSeq, asL, cmpB, ltA, ltI, binA, addA, binN, MP.binI, mulA, repL, isI, setA, isX, isNone?, isNon, seqItems, asD, idxS, recvOk, methA, appA, finL, z, menuL]
  obtain ⟨m, hm, it⟩ := law_range (PP (k + 10)) (cL (scriptA ns) v1 none none none none none none none) M0 ns 12 rfl (by decide)
  obtain ⟨ς', M', e, v3, v4, v5, v6, v7, v8, v9, rfl⟩ := forL_all (f := turnF (PP (k + 10)) (.name 3) [.asg 4 (.call (Str.ofString "_law_stream") [(.var 0), (.var 3)]), .asg 5 (.call (Str.ofString "_law_names") [(.var 4)]), .asg 6 (.call (Str.ofString "_law_ontology") [(.var 4), (.var 5), (.var 2), (.con (.int 9))]), .asg 7 (.blt false .repr [(.var 6)]), .asg 8 (.call (Str.ofString "concepts_of") [(.var 6)]), .ife (.cmp .NotEq (.var 8) (.call (Str.ofString "_law_expected") [(.var 6)])) [.ret (.con (.bool false))] [], .expr (.meth .append (.var 8) [(.con .none)]), .frz 8, .ife (.or (.cmp .NotEq (.callK (Str.ofString "concepts_of") 0 [(Str.ofString "ontology")] [] [(.blt false .tuple [(.var 6)])]) (.call (Str.ofString "_law_expected") [(.var 6)])) (.cmp .NotEq (.blt false .repr [(.var 6)]) (.var 7))) [.ret (.con (.bool false))] [], .forS (.name 9) (.over (.idx (.var 5) (.con (.int 1)))) [.ife (.or (.cmp .NotEq (.call (Str.ofString "inverse") [(.tup [(.con (.str (Str.ofString "out"))), (.var 9)])]) (.tup [(.con (.str (Str.ofString "in"))), (.var 9)])) (.cmp .NotEq (.callK (Str.ofString "inverse") 0 [(Str.ofString "direction")] [] [(.tup [(.con (.str (Str.ofString "in"))), (.var 9)])]) (.tup [(.con (.str (Str.ofString "out"))), (.var 9)]))) [.ret (.con (.bool false))] []]]) (fun ς M3 => ∃ v3 v4 v5 v6 v7 v8 v9, ς = cL (scriptA ns) v1 v3 v4 v5 v6 v7 v8 v9) (rangeA m) (fun x hx ς M3 h => by
    obtain ⟨v3, v4, v5, v6, v7, v8, v9, rfl⟩ := h
    simp only [rangeA, List.mem_map, List.mem_range] at hx
    obtain ⟨j, hj, rfl⟩ := hx
    obtain ⟨v4', v5', v6', v7', v8', v9', M4, e⟩ := k_step k M3 ns j (by omega) v1 v3 v4 v5 v6 v7 v8 v9
    exact ⟨_, M4, e, _, _, _, _, _, _, _, rfl⟩) (cL (scriptA ns) v1 none none none none none none none) M0 ⟨_, _, _, _, _, _, _, rfl⟩
  have b2 : evS (PP (k + 10)) (.forS (.name 3) (.range1 (.blt false .max [(.con (.int 1)), (.blt false .min [(.con (.int 12)), (.blt false .len [(.var 0)])])])) [.asg 4 (.call (Str.ofString "_law_stream") [(.var 0), (.var 3)]), .asg 5 (.call (Str.ofString "_law_names") [(.var 4)]), .asg 6 (.call (Str.ofString "_law_ontology") [(.var 4), (.var 5), (.var 2), (.con (.int 9))]), .asg 7 (.blt false .repr [(.var 6)]), .asg 8 (.call (Str.ofString "concepts_of") [(.var 6)]), .ife (.cmp .NotEq (.var 8) (.call (Str.ofString "_law_expected") [(.var 6)])) [.ret (.con (.bool false))] [], .expr (.meth .append (.var 8) [(.con .none)]), .frz 8, .ife (.or (.cmp .NotEq (.callK (Str.ofString "concepts_of") 0 [(Str.ofString "ontology")] [] [(.blt false .tuple [(.var 6)])]) (.call (Str.ofString "_law_expected") [(.var 6)])) (.cmp .NotEq (.blt false .repr [(.var 6)]) (.var 7))) [.ret (.con (.bool false))] [], .forS (.name 9) (.over (.idx (.var 5) (.con (.int 1)))) [.ife (.or (.cmp .NotEq (.call (Str.ofString "inverse") [(.tup [(.con (.str (Str.ofString "out"))), (.var 9)])]) (.tup [(.con (.str (Str.ofString "in"))), (.var 9)])) (.cmp .NotEq (.callK (Str.ofString "inverse") 0 [(Str.ofString "direction")] [] [(.tup [(.con (.str (Str.ofString "in"))), (.var 9)])]) (.tup [(.con (.str (Str.ofString "out"))), (.var 9)]))) [.ret (.con (.bool false))] []]]) (cL (scriptA ns) v1 none none none none none none none) M0 = .ok (.nxt, cL (scriptA ns) v1 v3 v4 v5 v6 v7 v8 v9) M' := by
    rw [evS_for, it, Out.bind_ok, e]
  obtain ⟨q, M5, e5, m5, _, _⟩ := r_concepts (C := []) (Rn := []) (menu := []) (k + 8) M' (.lst []) (O := []) rfl (fun a h => by cases h) (by simp)
  have hnil : sortL (RES []) = [] := by
    simp [RES, CN, RN, cnL, rnL, sortS, dedS, sortL]
  rw [hnil] at m5
  have q5 := eq_ref (n := 3) (by omega) m5 (fun x hx => by cases hx)
  refine ⟨M5, ?_⟩
  rw [run_body lk_f_law (k + 10) _ [] rfl [some (scriptA ns), none, none, none, none, none, none, none, none, none] rfl [.forS (.name 1) (.over (.lst false [(.con .none), (.con (.bool true)), (.con (.str (Str.ofString "r"))), (.tup []), (.tup [(.con (.str (Str.ofString "concept"))), (.con (.str (Str.ofString "a")))]), (.tup [(.con (.str (Str.ofString "out")))]), (.tup [(.con (.str (Str.ofString "out"))), (.con (.int 5))]), (.lst false [(.con (.str (Str.ofString "out"))), (.con (.str (Str.ofString "r")))]), (.tup [(.con (.str (Str.ofString "in"))), (.con (.str (Str.ofString "R")))]), (.tup [(.dnew), (.con (.str (Str.ofString "r")))]), (.dnew)])) [.ife (.cmp .IsNot (.call (Str.ofString "_law_raises") [(.var 1)]) (.con (.bool true))) [.ret (.con (.bool false))] []],
   .asg 2 (.lst false [(.con (.str (Str.ofString "subclass"))), (.con (.str (Str.ofString "subclass"))), (.con (.str (Str.ofString "disjoint"))), (.con (.str (Str.ofString "subrole"))), (.con (.str (Str.ofString "subrole_inverse"))), (.con (.str (Str.ofString "disjoint_roles"))), (.con (.str (Str.ofString "disjoint_inverse"))), (.con (.str (Str.ofString "functional")))]),
   .forS (.name 3) (.range1 (.blt false .max [(.con (.int 1)), (.blt false .min [(.con (.int 12)), (.blt false .len [(.var 0)])])])) [.asg 4 (.call (Str.ofString "_law_stream") [(.var 0), (.var 3)]), .asg 5 (.call (Str.ofString "_law_names") [(.var 4)]), .asg 6 (.call (Str.ofString "_law_ontology") [(.var 4), (.var 5), (.var 2), (.con (.int 9))]), .asg 7 (.blt false .repr [(.var 6)]), .asg 8 (.call (Str.ofString "concepts_of") [(.var 6)]), .ife (.cmp .NotEq (.var 8) (.call (Str.ofString "_law_expected") [(.var 6)])) [.ret (.con (.bool false))] [], .expr (.meth .append (.var 8) [(.con .none)]), .frz 8, .ife (.or (.cmp .NotEq (.callK (Str.ofString "concepts_of") 0 [(Str.ofString "ontology")] [] [(.blt false .tuple [(.var 6)])]) (.call (Str.ofString "_law_expected") [(.var 6)])) (.cmp .NotEq (.blt false .repr [(.var 6)]) (.var 7))) [.ret (.con (.bool false))] [], .forS (.name 9) (.over (.idx (.var 5) (.con (.int 1)))) [.ife (.or (.cmp .NotEq (.call (Str.ofString "inverse") [(.tup [(.con (.str (Str.ofString "out"))), (.var 9)])]) (.tup [(.con (.str (Str.ofString "in"))), (.var 9)])) (.cmp .NotEq (.callK (Str.ofString "inverse") 0 [(Str.ofString "direction")] [] [(.tup [(.con (.str (Str.ofString "in"))), (.var 9)])]) (.tup [(.con (.str (Str.ofString "out"))), (.var 9)]))) [.ret (.con (.bool false))] []]],
   .ret (.cmp .Eq (.call (Str.ofString "concepts_of") [(.lst false [])]) (.lst false []))] rfl]
  rw [evSs_nxt b0, evSs_nxt b1, evSs_nxt b2]
  simp [evSs, evS, evE, evEs, evT, evTs, evO, evI, retOf, startA, cA, isiA, tyA, isiT, outB, outT, outV, outI, truA, one?, ints2?, two?, bltA, blt1, blt2, toIntA, idxA, asSeq, asL, cmpB, ltA, ltI, binA, addA, binN, MP.binI, mulA, repL, isI, setA, isX, isNone?, isNon, seqItems, asD, idxS, recvOk, methA, appA, finL, z, e5, q5]
theorem run : ∀ ns : List Int, ns.length ≤ 63 → ∃ M, runF prg (dep + 1) (Str.ofString "law") [scriptA ns] [] = .ok (.bl true) M := fun ns _ => r_law 20 ns
end K03

open PySem PySem.W PyProof.Rows in
set_option maxRecDepth 100000 in
set_option maxHeartbeats 0 in
theorem PySem.Challenge.cw_factsandfar_k03_concepts_of_ontology_holds : PySem.Challenge.rw_factsandfar_k03_concepts_of_ontology.Holds := by
  w_on; o_law; k_head; (case hw => w_witness2)
  k_fill
  refine K03.walk (l := PySem.Challenge.rw_factsandfar_k03_concepts_of_ontology) rfl rfl rfl (by decide +kernel) (fun w h Y => PySem.W.kIn_of Y) ?F K03.run
  case F =>
    intro w mg h KX G
    refine' K03.all_mk (w := w) KX G ?mp_a0 ?mp_l0 ?mp_c0 ?mp_k0 ?mp_a1 ?mp_l1 ?mp_c1 ?mp_k1 ?mp_a2 ?mp_l2 ?mp_c2 ?mp_k2 ?mp_a3 ?mp_l3 ?mp_c3 ?mp_k3 ?mp_a4 ?mp_l4 ?mp_c4 ?mp_k4 ?mp_a5 ?mp_l5 ?mp_c5 ?mp_k5 ?mp_a6 ?mp_l6 ?mp_c6 ?mp_k6 ?mp_a7 ?mp_l7 ?mp_c7 ?mp_k7 ?mp_a8 ?mp_l8 ?mp_c8 ?mp_k8 ?mp_a9 ?mp_l9 ?mp_c9 ?mp_k9 ?mp_a10 ?mp_l10 ?mp_c10 ?mp_k10 ?mp_a11 ?mp_l11 ?mp_c11 ?mp_k11 ?mp_a12 ?mp_l12 ?mp_c12 ?mp_k12 ?mp_a13 ?mp_l13 ?mp_c13 ?mp_k13 ?mp_a14 ?mp_l14 ?mp_c14 ?mp_k14 ?mp_a15 ?mp_l15 ?mp_c15 ?mp_k15 ?mp_a16 ?mp_l16 ?mp_c16 ?mp_k16 ?mp_a17 ?mp_l17 ?mp_c17 ?mp_k17 ?mp_z0 ?mp_z1 ?mp_z2 ?mp_z3 ?mp_z4 ?mp_z5 ?mp_z6 ?mp_z7 ?mp_z8 ?mp_z9 ?mp_z10 ?mp_z11 ?mp_z12 ?mp_aC0 ?mp_aC1 ?mp_xcl0 ?mp_xty0 ?mp_xss0 ?mp_xex0 ?mp_xcl1 ?mp_xty1 ?mp_xss1 ?mp_xex1 ?mp_xga1 ?mp_xgg1 ?mp_xhd1 ?mp_xha1 ?mp_xmo1 ?mp_xkC1 ?mp_xin1 ?mp_xhn ?mp_xht ?mp_xi1_0 ?mp_zi0 ?mp_gdm0 ?mp_gdl0 ?mp_gdk0 ?mp_gdi0_0 ?mp_gdi0_1 ?mp_g0 ?mp_gl0 ?mp_gz0 ?mp_gv0 ?mp_g1 ?mp_g2 ?mp_g3 ?mp_gl3 ?mp_gz3 ?mp_gv3 ?mp_g4 ?mp_gl4 ?mp_gz4 ?mp_gv4
    (case mp_a0 => k_is)
    (case mp_l0 => k_is)
    (case mp_c0 => k_is)
    (case mp_k0 => k_is)
    (case mp_a1 => k_is)
    (case mp_l1 => k_is)
    (case mp_c1 => k_is)
    (case mp_k1 => k_is)
    (case mp_a2 => k_is)
    (case mp_l2 => k_is)
    (case mp_c2 => k_is)
    (case mp_k2 => k_is)
    (case mp_a3 => k_is)
    (case mp_l3 => k_is)
    (case mp_c3 => k_is)
    (case mp_k3 => k_is)
    (case mp_a4 => k_is)
    (case mp_l4 => k_is)
    (case mp_c4 => k_is)
    (case mp_k4 => k_is)
    (case mp_a5 => k_is)
    (case mp_l5 => k_is)
    (case mp_c5 => k_is)
    (case mp_k5 => k_is)
    (case mp_a6 => k_is)
    (case mp_l6 => k_is)
    (case mp_c6 => k_is)
    (case mp_k6 => k_is)
    (case mp_a7 => k_is)
    (case mp_l7 => k_is)
    (case mp_c7 => k_is)
    (case mp_k7 => k_is)
    (case mp_a8 => k_is)
    (case mp_l8 => k_is)
    (case mp_c8 => k_is)
    (case mp_k8 => k_is)
    (case mp_a9 => k_is)
    (case mp_l9 => k_is)
    (case mp_c9 => k_is)
    (case mp_k9 => k_is)
    (case mp_a10 => k_is)
    (case mp_l10 => k_is)
    (case mp_c10 => k_is)
    (case mp_k10 => k_is)
    (case mp_a11 => k_is)
    (case mp_l11 => k_is)
    (case mp_c11 => k_is)
    (case mp_k11 => k_is)
    (case mp_a12 => k_is)
    (case mp_l12 => k_is)
    (case mp_c12 => k_is)
    (case mp_k12 => k_is)
    (case mp_a13 => k_is)
    (case mp_l13 => k_is)
    (case mp_c13 => k_is)
    (case mp_k13 => k_is)
    (case mp_a14 => k_is)
    (case mp_l14 => k_is)
    (case mp_c14 => k_is)
    (case mp_k14 => k_is)
    (case mp_a15 => k_is)
    (case mp_l15 => k_is)
    (case mp_c15 => k_is)
    (case mp_k15 => k_is)
    (case mp_a16 => k_is)
    (case mp_l16 => k_is)
    (case mp_c16 => k_is)
    (case mp_k16 => k_is)
    (case mp_a17 => k_is)
    (case mp_l17 => k_is)
    (case mp_c17 => k_is)
    (case mp_k17 => k_is)
    (case mp_z0 => k_is)
    (case mp_z1 => k_is)
    (case mp_z2 => k_is)
    (case mp_z3 => k_is)
    (case mp_z4 => k_is)
    (case mp_z5 => k_is)
    (case mp_z6 => k_is)
    (case mp_z7 => k_is)
    (case mp_z8 => k_is)
    (case mp_z9 => k_is)
    (case mp_z10 => k_is)
    (case mp_z11 => k_is)
    (case mp_z12 => k_is)
    (case mp_aC0 => k_is)
    (case mp_aC1 => k_is)
    (case mp_xcl0 => k_is)
    (case mp_xty0 => k_is)
    (case mp_xss0 => k_is)
    (case mp_xex0 => k_is)
    (case mp_xcl1 => k_is)
    (case mp_xty1 => k_is)
    (case mp_xss1 => k_is)
    (case mp_xex1 => k_is)
    (case mp_xga1 => k_is)
    (case mp_xgg1 => k_is)
    (case mp_xhd1 => k_is)
    (case mp_xha1 => k_is)
    (case mp_xmo1 => k_is)
    (case mp_xkC1 => k_is)
    (case mp_xin1 => k_exc)
    (case mp_xhn => k_is)
    (case mp_xht => k_is)
    (case mp_xi1_0 => k_is)
    (case mp_zi0 => k_is)
    (case mp_gdm0 => k_is)
    (case mp_gdl0 => k_is)
    (case mp_gdk0 => repeat (first | exact trivial | refine ⟨⟨_, _, rfl, rfl⟩, ?_⟩))
    (case mp_gdi0_0 => k_is)
    (case mp_gdi0_1 => k_is)
    (case mp_g0 => k_is)
    (case mp_gl0 => k_is)
    (case mp_gz0 => decide)
    (case mp_gv0 => repeat (first | exact .nil | refine .cons ⟨_, rfl⟩ ?_))
    (case mp_g1 => k_is)
    (case mp_g2 => k_is)
    (case mp_g3 => k_is)
    (case mp_gl3 => k_is)
    (case mp_gz3 => decide)
    (case mp_gv3 => repeat (first | exact .nil | refine .cons ⟨_, rfl⟩ ?_))
    (case mp_g4 => k_is)
    (case mp_gl4 => k_is)
    (case mp_gz4 => decide)
    (case mp_gv4 => repeat (first | exact .nil | refine .cons ⟨_, rfl⟩ ?_))

