import PyProof.Rows.All
import Wide.All
import OpenK.AllK
import Wide.FinOn
import HandS.ForMost
import HandS.ForExc
import HandS.TupAny
import HandS.TupMul
import HandS.Wide
import HandS.IsInst
import HandS.Style
import HandS.Walk
import KE.KExcSuper
import KE.KExcPX
import KE.GoesEnum
import HandS.EndBits
import HandS.WideBits
import HandS.Deep
import HandS.Conv
import PyProof.ListRange
import PyProof.Rows.RuleIs
import HandS.Gcd
import HandS.Flt
import HandS.SortInts
import KE.KMathG
import HandS.SetFor
import KE.KTupSum
import KE.SortData
import HandS.SortRule
import PyProof.TupleOfSeq
import HandS.List
import KE.KRevSl
import HandS.More
import HandS.Iter
import PyProof.FitsInt
import PySem.Challenge.RW_prefixwire_k23_whole_lives_that_stand
import KE.RegKSuper
set_option Elab.async false
set_option linter.all false

namespace PV
open PySem

inductive D where
  | non
  | bl (b : Bool)
  | int (i : Int)
  | str (s : Str)
  | tup (xs : List D)
  | fz (xs : List D)
  | loc (n : Nat)

inductive MO where
  | lst (xs : List D)
  | dct (kvs : List (Sum Int Str × D))
  | lck (kvs : List (Sum Int Str × D)) (od : Obj) (kws : List (L2.Key × L2.V))

abbrev Mem := List MO
abbrev Ev := List (Option D)

inductive Out (α : Type) where
  | ok (a : α) (M : Mem)
  | err (c : Nat) (fs : List D) (M : Mem)
  | stk

def Out.bind {α β : Type} (o : Out α) (f : α → Mem → Out β) : Out β :=
  match o with
  | .ok a M => f a M
  | .err c fs M => .err c fs M
  | .stk => .stk
@[simp] theorem bind_ok {α β : Type} (a : α) (M : Mem) (f : α → Mem → Out β) : (Out.ok a M).bind f = f a M := Eq.trans rfl rfl
@[simp] theorem bind_err {α β : Type} (c : Nat) (fs : List D) (M : Mem) (f : α → Mem → Out β) : (Out.err c fs M : Out α).bind f = .err c fs M := Eq.trans rfl rfl
@[simp] theorem bind_stk {α β : Type} (f : α → Mem → Out β) : (Out.stk : Out α).bind f = .stk := Eq.trans rfl rfl

inductive SO where
  | nx (r : Ev) (M : Mem)
  | rt (d : D) (M : Mem)
  | bk (r : Ev) (M : Mem)
  | ct (r : Ev) (M : Mem)
  | er (c : Nat) (fs : List D) (r : Ev) (M : Mem)
  | stk
def Out.toS {α : Type} (o : Out α) (r : Ev) (f : α → Mem → SO) : SO :=
  match o with
  | .ok a M => f a M
  | .err c fs M => .er c fs r M
  | .stk => .stk
@[simp] theorem toS_ok {α : Type} (a : α) (M : Mem) (r : Ev) (f : α → Mem → SO) : (Out.ok a M).toS r f = f a M := Eq.trans rfl rfl
@[simp] theorem toS_err {α : Type} (c : Nat) (fs : List D) (M : Mem) (r : Ev) (f : α → Mem → SO) : (Out.err c fs M : Out α).toS r f = .er c fs r M := Eq.trans rfl rfl
@[simp] theorem toS_stk {α : Type} (r : Ev) (f : α → Mem → SO) : (Out.stk : Out α).toS r f = .stk := Eq.trans rfl rfl

abbrev Xp := Ev → Mem → Out D
abbrev Xb := Ev → Mem → Out Bool
abbrev Xa := Ev → Mem → Out (List D)
abbrev Xs := Ev → Mem → SO
abbrev Fn := List D → Mem → Out D


abbrev SZ : Nat := 16777216


def xVar (i : Nat) : Xp := fun r M => match r[i]? with
  | some (some d) => .ok d M
  | _ => .stk
def xK (d : D) : Xp := fun _ M => .ok d M
def aNil : Xa := fun _ M => .ok [] M
def aCons (f : Xp) (t : Xa) : Xa := fun r M => (f r M).bind fun d M1 => (t r M1).bind fun ds M2 => .ok (d :: ds) M2
def xTup (t : Xa) : Xp := fun r M => (t r M).bind fun ds M1 => if ds.length ≤ SZ then .ok (.tup ds) M1 else .stk
def xLst (t : Xa) : Xp := fun r M => (t r M).bind fun ds M1 => if ds.length ≤ SZ then .ok (.loc M1.length) (M1 ++ [.lst ds]) else .stk
def x2 (op : D → D → Mem → Out D) (f g : Xp) : Xp := fun r M => (f r M).bind fun x M1 => (g r M1).bind fun y M2 => op x y M2
def x1 (op : D → Mem → Out D) (f : Xp) : Xp := fun r M => (f r M).bind fun x M1 => op x M1
def xCall (F : Fn) (t : Xa) : Xp := fun r M => (t r M).bind F
def xIf (c : Xb) (f g : Xp) : Xp := fun r M => (c r M).bind fun b M1 => if b = true then f r M1 else g r M1
def xAnd (f g : Xp) : Xp := fun r M => (f r M).bind fun x M1 => match x with
  | .bl b => if b = true then g r M1 else .ok (.bl false) M1
  | _ => .stk
def xOr (f g : Xp) : Xp := fun r M => (f r M).bind fun x M1 => match x with
  | .bl b => if b = true then .ok (.bl true) M1 else g r M1
  | _ => .stk
def xNot (f : Xp) : Xp := fun r M => (f r M).bind fun x M1 => match x with
  | .bl b => .ok (.bl (!b)) M1
  | _ => .stk

def bE (f : Xp) : Xb := fun r M => (f r M).bind fun x M1 => match x with
  | .bl b => .ok b M1
  | _ => .stk
def bAnd (f g : Xb) : Xb := fun r M => (f r M).bind fun b M1 => if b = true then g r M1 else .ok false M1
def bOr (f g : Xb) : Xb := fun r M => (f r M).bind fun b M1 => if b = true then .ok true M1 else g r M1
def bNot (f : Xb) : Xb := fun r M => (f r M).bind fun b M1 => .ok (!b) M1
def xChain (op op' : D → D → Mem → Out D) (f g h : Xp) : Xp := fun r M => (f r M).bind fun x M1 => (g r M1).bind fun y M2 => (op x y M2).bind fun b M3 => match b with
  | .bl b => if b = true then (h r M3).bind fun z M4 => op' y z M4 else .ok (.bl false) M3
  | _ => .stk


def oAdd : D → D → Mem → Out D
  | .int i, .int j, M => .ok (.int (i + j)) M
  | .tup xs, .tup ys, M => if xs.length + ys.length ≤ SZ then .ok (.tup (xs ++ ys)) M else .stk
  | .loc a, .loc b, M => match M[a]?, M[b]? with
    | some (.lst xs), some (.lst ys) => if xs.length + ys.length ≤ SZ then .ok (.loc M.length) (M ++ [.lst (xs ++ ys)]) else .stk
    | _, _ => .stk
  | .str x, .str y, M => if x.length + y.length ≤ SZ then .ok (.str (x ++ y)) M else .stk
  | _, _, _ => .stk
def oSub : D → D → Mem → Out D
  | .int i, .int j, M => .ok (.int (i - j)) M
  | _, _, _ => .stk
def okMul (i j : Int) : Prop := (-(2 ^ 64) < i ∧ i < 2 ^ 64) ∨ (-(2 ^ 64) < j ∧ j < 2 ^ 64) ∨ i.natAbs.log2 + j.natAbs.log2 < 1000000
open Classical in
noncomputable def oMul : D → D → Mem → Out D
  | .int i, .int j, M => if okMul i j then .ok (.int (i * j)) M else .stk
  | .tup xs, .int k, M => if xs ≠ [] ∧ 2 ≤ k ∧ k ≤ 1000 ∧ xs.length ≤ 1000 then .ok (.tup (List.replicate k.toNat xs).flatten) M else .stk
  | .loc a, .int k, M => match M[a]? with
    | some (.lst xs) => if -(2 ^ 63) ≤ k ∧ k < 2 ^ 63 ∧ xs.length * k.toNat ≤ SZ then .ok (.loc M.length) (M ++ [.lst (List.replicate k.toNat xs).flatten]) else .stk
    | _ => .stk
  | _, _, _ => .stk
def okDiv (j : Int) : Prop := 0 < j ∧ j.natAbs.log2 < 9000
open Classical in
noncomputable def oDiv : D → D → Mem → Out D
  | .int i, .int j, M => if okDiv j then .ok (.int (i / j)) M else .stk
  | _, _, _ => .stk
def oMod : D → D → Mem → Out D
  | .int i, .int j, M => if 0 < j then .ok (.int (i % j)) M else .stk
  | _, _, _ => .stk
def oPow : D → D → Mem → Out D
  | .int i, .int j, M => if 0 ≤ j ∧ j ≤ 1000000 ∧ i.natAbs < 2 ^ 64 then .ok (.int (i ^ j.toNat)) M else .stk
  | _, _, _ => .stk
def oShl : D → D → Mem → Out D
  | .int i, .int j, M => if 0 ≤ j ∧ j ≤ 1000000 ∧ i.natAbs < 2 ^ 64 then .ok (.int (i * 2 ^ j.toNat)) M else .stk
  | _, _, _ => .stk
def oShr : D → D → Mem → Out D
  | .int i, .int j, M => if 0 ≤ j then .ok (.int (i / 2 ^ j.toNat)) M else .stk
  | _, _, _ => .stk
def oAndB : D → D → Mem → Out D
  | .int i, .int j, M => .ok (.int (Builtin.bitAnd i j)) M
  | _, _, _ => .stk
def oXorB : D → D → Mem → Out D
  | .int i, .int j, M => .ok (.int (Builtin.bitXor i j)) M
  | _, _, _ => .stk
def oNeg : D → Mem → Out D
  | .int i, M => .ok (.int (-i)) M
  | _, _ => .stk
def oLt : D → D → Mem → Out D
  | .int i, .int j, M => .ok (.bl (decide (i < j))) M
  | _, _, _ => .stk
def oLe : D → D → Mem → Out D
  | .int i, .int j, M => .ok (.bl (decide (i ≤ j))) M
  | _, _, _ => .stk
def oGt : D → D → Mem → Out D
  | .int i, .int j, M => .ok (.bl (decide (j < i))) M
  | _, _, _ => .stk
def oGe : D → D → Mem → Out D
  | .int i, .int j, M => .ok (.bl (decide (j ≤ i))) M
  | _, _, _ => .stk
def isNon : D → Bool
  | .non => true
  | _ => false
def oIsN : D → D → Mem → Out D
  | x, .non, M => .ok (.bl (isNon x)) M
  | _, _, _ => .stk
def oNotN : D → D → Mem → Out D
  | x, .non, M => .ok (.bl (!isNon x)) M
  | _, _, _ => .stk

def oBits : D → Mem → Out D
  | .int i, M => .ok (.int (Builtin.Int.intBits i : Nat)) M
  | _, _ => .stk

def toPy (M : Mem) : Nat → D → Option PyData
  | 0, _ => none
  | _ + 1, .non => some .none
  | _ + 1, .bl b => some (.bool b)
  | _ + 1, .int i => some (.int i)
  | _ + 1, .str s => some (.str s)
  | k + 1, .tup xs => (xs.mapM (toPy M k)).map .tuple
  | _ + 1, .fz _ => none
  | k + 1, .loc n => match M[n]? with
    | some (.lst xs) => (xs.mapM (toPy M k)).map .list
    | _ => none
abbrev DEPTH : Nat := 24
def oEq : D → D → Mem → Out D
  | .int i, .int j, M => .ok (.bl (decide (i = j))) M
  | .str x, .str y, M => .ok (.bl (decide (x = y))) M
  | x, y, M => match toPy M DEPTH x, toPy M DEPTH y with
    | some p, some q => if SeqAt.shaped p = true ∧ SeqAt.shaped q = true then .ok (.bl (PyData.eqv p q)) M else .stk
    | _, _ => .stk
def oNe : D → D → Mem → Out D
  | .int i, .int j, M => .ok (.bl (!decide (i = j))) M
  | .str x, .str y, M => .ok (.bl (!decide (x = y))) M
  | x, y, M => match toPy M DEPTH x, toPy M DEPTH y with
    | some p, some q => if SeqAt.shaped p = true ∧ SeqAt.shaped q = true then .ok (.bl (!PyData.eqv p q)) M else .stk
    | _, _ => .stk
def flatD : D → Bool
  | .non => true
  | .bl _ => true
  | .int _ => true
  | .str _ => true
  | _ => false
def eqF : D → D → Bool
  | .non, .non => true
  | .bl a, .bl b => a == b
  | .bl a, .int b => (if a then 1 else 0) == b
  | .int a, .bl b => a == (if b then 1 else 0)
  | .int a, .int b => a == b
  | .str a, .str b => a == b
  | _, _ => false
def rowOf (y : D) (M : Mem) : Option (List D) := match y with
  | .tup ys => some ys
  | .fz ys => some ys
  | .loc n => (match M[n]? with
    | some (.lst ys) => some ys
    | _ => none)
  | _ => none
def oInF (neg : Bool) (x y : D) (M : Mem) : Out D := match rowOf y M with
  | some ys => if flatD x = true ∧ ys.all flatD = true then .ok (.bl (if neg then !(ys.any fun z => eqF z x) else ys.any fun z => eqF z x)) M else .stk
  | none => .stk
def fRepr : Fn := fun ds M => match ds with
  | [x] => (match toPy M DEPTH x with
    | some p => if p.showable = true ∧ p.hasDict = false ∧ p.depth ≤ 64 ∧ p.shown.length ≤ SZ then .ok (.str p.shown) M else .stk
    | none => .stk)
  | _ => .stk


def ixAt (n : Nat) (i : Int) : Option Nat := if 0 ≤ i then (if i < n then some i.toNat else none) else if -(n : Int) ≤ i then some (i + n).toNat else none
def listAt (xs : List D) (i : Int) : Option D := (ixAt xs.length i).bind fun j => xs[j]?
def kvAt (kvs : List (Sum Int Str × D)) (k : Sum Int Str) : Option D := (kvs.find? fun p => decide (p.1 = k)).map (·.2)
def kvPut (kvs : List (Sum Int Str × D)) (k : Sum Int Str) (v : D) : List (Sum Int Str × D) :=
  if (kvs.any fun p => decide (p.1 = k)) = true then kvs.map fun p => if p.1 = k then (p.1, v) else p else kvs ++ [(k, v)]
def keyOf : D → Option (Sum Int Str)
  | .int i => some (.inl i)
  | .str s => some (.inr s)
  | _ => none
def oIx : D → D → Mem → Out D
  | .tup xs, .int i, M => match listAt xs i with
    | some d => .ok d M
    | none => .stk
  | .fz xs, .int i, M => match listAt xs i with
    | some d => .ok d M
    | none => .stk
  | .loc n, .int i, M => match M[n]? with
    | some (.lst xs) => (match listAt xs i with
      | some d => .ok d M
      | none => .stk)
    | _ => .stk
  | _, _, _ => .stk
def oIxD : D → D → Mem → Out D
  | .loc n, k, M => match M[n]?, keyOf k with
    | some (.dct kvs), some k => (match kvAt kvs k with
      | some d => .ok d M
      | none => .stk)
    | some (.lck kvs _ _), some k => (match kvAt kvs k with
      | some d => .ok d M
      | none => .stk)
    | _, _ => .stk
  | _, _, _ => .stk
def clip (n d : Nat) : Option Int → Nat
  | none => d
  | some v => if v < 0 then (v + (n : Int)).toNat else min v.toNat n
def cutD (xs : List D) (lo hi : Option Int) : List D := (xs.drop (clip xs.length 0 lo)).take (clip xs.length xs.length hi - clip xs.length 0 lo)
abbrev Xo := Ev → Mem → Out (Option Int)
def oNone : Xo := fun _ M => .ok none M
def oSome (f : Xp) : Xo := fun r M => (f r M).bind fun x M1 => match x with
  | .int i => .ok (some i) M1
  | _ => .stk
def sliced (x : D) (lo hi : Option Int) (M : Mem) : Out D := match x with
  | .tup xs => .ok (.tup (cutD xs lo hi)) M
  | .fz xs => .ok (.loc M.length) (M ++ [.lst (cutD xs lo hi)])
  | .loc n => (match M[n]? with
    | some (.lst xs) => .ok (.loc M.length) (M ++ [.lst (cutD xs lo hi)])
    | _ => .stk)
  | _ => .stk
def xSlice (f : Xp) (lo hi : Xo) : Xp := fun r M => (f r M).bind fun x M1 => (lo r M1).bind fun l M2 => (hi r M2).bind fun h M3 => sliced x l h M3
def oRev : D → Mem → Out D
  | .loc n, M => match M[n]? with
    | some (.lst xs) => .ok (.loc M.length) (M ++ [.lst xs.reverse])
    | _ => .stk
  | _, _ => .stk


abbrev Xk := Ev → Mem → Out (List (Sum Int Str × D))
def kNil : Xk := fun _ M => .ok [] M
def kCons (k v : Xp) (t : Xk) : Xk := fun r M => (k r M).bind fun x M1 => (v r M1).bind fun y M2 => match keyOf x with
  | some c => (t r M2).bind fun ps M3 => .ok ((c, y) :: ps) M3
  | none => .stk
def xDct (t : Xk) : Xp := fun r M => (t r M).bind fun ps M1 => if (ps.map (·.1)).Nodup ∧ ps.length ≤ 15 then .ok (.loc M1.length) (M1 ++ [.dct ps]) else .stk
def xDct0 : Xp := fun _ M => .ok (.loc M.length) (M ++ [.dct []])

def fLen : Fn := fun ds M => match ds with
  | [.tup xs] => .ok (.int xs.length) M
  | [.fz xs] => .ok (.int xs.length) M
  | [.loc n] => (match M[n]? with
    | some (.lst xs) => .ok (.int xs.length) M
    | some (.dct kvs) => .ok (.int kvs.length) M
    | _ => .stk)
  | _ => .stk
def fInt : Fn := fun ds M => match ds with
  | [.int i] => .ok (.int i) M
  | [.bl b] => .ok (.int (if b = true then 1 else 0)) M
  | _ => .stk
def fAbs : Fn := fun ds M => match ds with
  | [.int i] => .ok (.int (if i < 0 then -i else i)) M
  | _ => .stk
def fMin2 : Fn := fun ds M => match ds with
  | [.int i, .int j] => .ok (.int (if j < i then j else i)) M
  | _ => .stk
def fMax2 : Fn := fun ds M => match ds with
  | [.int i, .int j] => .ok (.int (if j > i then j else i)) M
  | _ => .stk
def fTuple : Fn := fun ds M => match ds with
  | [.tup xs] => .ok (.tup xs) M
  | [.fz xs] => .ok (.tup xs) M
  | [.loc n] => (match M[n]? with
    | some (.lst xs) => .ok (.tup xs) M
    | _ => .stk)
  | _ => .stk
def fList : Fn := fun ds M => match ds with
  | [.tup xs] => .ok (.loc M.length) (M ++ [.lst xs])
  | [.fz xs] => .ok (.loc M.length) (M ++ [.lst xs])
  | [.loc n] => (match M[n]? with
    | some (.lst xs) => .ok (.loc M.length) (M ++ [.lst xs])
    | _ => .stk)
  | _ => .stk
def lstOf (y : D) (M : Mem) : Option (List D) := match y with
  | .fz ys => some ys
  | .loc n => (match M[n]? with
    | some (.lst ys) => some ys
    | _ => none)
  | _ => none
def boolsOf : List D → Option (List Bool)
  | [] => some []
  | .bl b :: r => (boolsOf r).map fun bs => b :: bs
  | _ => none
def intsOf : List D → Option (List Int)
  | [] => some []
  | .int b :: r => (intsOf r).map fun bs => b :: bs
  | _ => none
def fAny : Fn := fun ds M => match ds with
  | [y] => (match (lstOf y M).bind boolsOf with
    | some bs => .ok (.bl (bs.any id)) M
    | none => .stk)
  | _ => .stk
def fAll : Fn := fun ds M => match ds with
  | [y] => (match (lstOf y M).bind boolsOf with
    | some bs => .ok (.bl (bs.all id)) M
    | none => .stk)
  | _ => .stk
def fSum : Fn := fun ds M => match ds with
  | [y] => (match (lstOf y M).bind intsOf with
    | some ns => .ok (.int ns.sum) M
    | none => .stk)
  | _ => .stk
inductive Ty where
  | int | bool | str | tuple | list | dict
  deriving DecidableEq
def isTy (T : Ty) (x : D) (M : Mem) : Option Bool := match x with
  | .non => some false
  | .bl _ => some (T = .bool ∨ T = .int)
  | .int _ => some (T = .int)
  | .str _ => some (T = .str)
  | .tup _ => some (T = .tuple)
  | .fz _ => none
  | .loc n => (match M[n]? with
    | some (.lst _) => some (T = .list)
    | some (.dct _) => some (T = .dict)
    | _ => none)
def oIsi (T : Ty) : D → Mem → Out D := fun x M => match isTy T x M with
  | some b => .ok (.bl b) M
  | none => .stk


def sPass : Xs := fun r M => .nx r M
def sSeq (s t : Xs) : Xs := fun r M => match s r M with
  | .nx r1 M1 => t r1 M1
  | o => o
def sSet (i : Nat) (f : Xp) : Xs := fun r M => (f r M).toS r fun d M1 => .nx (r.set i (some d)) M1
def sPar (i j : Nat) (t : Xa) : Xs := fun r M => (t r M).toS r fun ds M1 => match ds with
  | [x, y] => .nx ((r.set i (some x)).set j (some y)) M1
  | _ => .stk
def sPar3 (i j l : Nat) (t : Xa) : Xs := fun r M => (t r M).toS r fun ds M1 => match ds with
  | [x, y, z] => .nx (((r.set i (some x)).set j (some y)).set l (some z)) M1
  | _ => .stk
def sExpr (f : Xp) : Xs := fun r M => (f r M).toS r fun _ M1 => .nx r M1
def sRet (f : Xp) : Xs := fun r M => (f r M).toS r fun d M1 => .rt d M1
def sRetN : Xs := fun _ M => .rt .non M
def sIf (c : Xb) (s t : Xs) : Xs := fun r M => (c r M).toS r fun b M1 => if b = true then s r M1 else t r M1
def sBreak : Xs := fun r M => .bk r M
def sCont : Xs := fun r M => .ct r M
def sRaise (c n : Nat) (t : Xa) : Xs := fun r M => (t r M).toS r fun ds M1 => if ds.length = n then .er c ds r M1 else .stk
structure Hdl where
  cls : Nat → Bool
  slot : Option Nat
  run : List D → Xs
def unS (i : Nat) : SO → SO
  | .nx r M => .nx (r.set i none) M
  | .bk r M => .bk (r.set i none) M
  | .ct r M => .ct (r.set i none) M
  | .rt d M => .rt d M
  | _ => .stk
def unN : SO → SO
  | .er _ _ _ _ => .stk
  | o => o
def hGo : List Hdl → Nat → List D → Ev → Mem → SO
  | [], c, fs, r, M => .er c fs r M
  | h :: t, c, fs, r, M => if h.cls c = true then (match h.slot with
    | none => unN (h.run fs r M)
    | some i => if i < r.length then unS i (h.run fs (r.set i none) M) else .stk) else hGo t c fs r M
def sTry (s : Xs) (hs : List Hdl) : Xs := fun r M => match s r M with
  | .er c fs r1 M1 => hGo hs c fs r1 M1
  | o => o
def xFs (fs : List D) (j : Nat) : Xp := fun _ M => match fs[j]? with
  | some d => .ok d M
  | none => .stk
abbrev Tg := D → Ev → Mem → SO
abbrev Tgs := List D → Ev → Mem → SO
def tName (i : Nat) : Tg := fun d r M => .nx (r.set i (some d)) M
def tsNil : Tgs := fun ds r M => match ds with
  | [] => .nx r M
  | _ => .stk
def tsCons (t : Tg) (u : Tgs) : Tgs := fun ds r M => match ds with
  | d :: rest => (match t d r M with
    | .nx r1 M1 => u rest r1 M1
    | o => o)
  | [] => .stk
def tTup (n : Nat) (u : Tgs) : Tg := fun d r M => match d with
  | .tup ds => if ds.length = n then u ds r M else .stk
  | _ => .stk
def nxo (o : SO) : SO := match o with
  | .nx r M => .nx r M
  | .er c fs r M => .er c fs r M
  | _ => .stk
def sAsg (t : Tg) (f : Xp) : Xs := fun r M => (f r M).toS r fun d M1 => nxo (t d r M1)
def setIx (o i v : D) (M : Mem) : Option Mem := match o, i with
  | .loc n, .int k => (match M[n]? with
    | some (.lst xs) => (match ixAt xs.length k with
      | some j => some (M.set n (.lst (xs.set j v)))
      | none => none)
    | _ => none)
  | _, _ => none
def setKv (o i v : D) (M : Mem) : Option Mem := match o, keyOf i with
  | .loc n, some k => (match M[n]? with
    | some (.dct kvs) => if kvs.length < SZ then some (M.set n (.dct (kvPut kvs k v))) else none
    | _ => none)
  | _, _ => none
def tSub (set : D → D → D → Mem → Option Mem) (o i : Xp) : Tg := fun d r M => (o r M).toS r fun x M1 => (i r M1).toS r fun y M2 => match set x y d M2 with
  | some M3 => .nx r M3
  | none => .stk
def sPut (o i v : Xp) : Xs := sAsg (tSub setKv o i) v
def mAppend (x y : D) (M : Mem) : Out D := match x with
  | .loc n => (match M[n]? with
    | some (.lst xs) => if xs.length < SZ then .ok .non (M.set n (.lst (xs ++ [y]))) else .stk
    | _ => .stk)
  | _ => .stk
def isLst (x : D) (M : Mem) : Bool := match x with
  | .loc n => (match M[n]? with
    | some (.lst _) => true
    | _ => false)
  | _ => false
def xLst1 (op : D → D → Mem → Out D) (f g : Xp) : Xp := fun r M => (f r M).bind fun x M1 => if isLst x M1 = true then (g r M1).bind fun y M2 => op x y M2 else .stk
def sAug (op : D → D → Mem → Out D) (i : Nat) (f : Xp) : Xs := fun r M => match r[i]? with
  | some (some x) => (f r M).toS r fun y M1 => (op x y M1).toS r fun z M2 => .nx (r.set i (some z)) M2
  | _ => .stk


abbrev Xi := Ev → Mem → Out (List D × Option Nat × List D)
def stands (M : Mem) (n : Option Nat) (xs : List D) : Prop := match n with
  | none => True
  | some n => M[n]? = some (.lst xs)
open Classical in
noncomputable def forL (n : Option Nat) (ys : List D) (t : Tg) (s : Xs) : List D → Ev → Mem → SO
  | [], r, M => if stands M n ys then .nx r M else .stk
  | x :: rest, r, M => if stands M n ys then (match t x r M with
    | .nx r1 M1 => (match s r1 M1 with
      | .nx r2 M2 => forL n ys t s rest r2 M2
      | .ct r2 M2 => forL n ys t s rest r2 M2
      | .bk r2 M2 => .nx r2 M2
      | o => o)
    | _ => .stk) else .stk
noncomputable def sFor (it : Xi) (t : Tg) (s : Xs) : Xs := fun r M => (it r M).toS r fun p M1 => forL p.2.1 p.2.2 t s p.1 r M1
def iSeq (f : Xp) : Xi := fun r M => (f r M).bind fun x M1 => match x with
  | .tup xs => .ok (xs, none, []) M1
  | .fz xs => .ok (xs, none, []) M1
  | .loc n => (match M1[n]? with
    | some (.lst xs) => .ok (xs, some n, xs) M1
    | _ => .stk)
  | _ => .stk
def pairUp : Nat → List D → List D
  | _, [] => []
  | n, x :: r => .tup [.int (n : Int), x] :: pairUp (n + 1) r
def iEnum (f : Xp) : Xi := fun r M => (f r M).bind fun x M1 => match x with
  | .tup xs => .ok (pairUp 0 xs, none, []) M1
  | .fz xs => .ok (pairUp 0 xs, none, []) M1
  | .loc n => (match M1[n]? with
    | some (.lst xs) => .ok (pairUp 0 xs, some n, xs) M1
    | _ => .stk)
  | _ => .stk
def upFrom (lo : Int) : Nat → List D
  | 0 => []
  | n + 1 => .int lo :: upFrom (lo + 1) n
noncomputable def iRange1 (f : Xp) : Xi := fun r M => (f r M).bind fun x M1 => match x with
  | .int j => @ite _ (-(2 ^ 62) ≤ j ∧ j < 2 ^ 62) (Classical.propDecidable _) (.ok (upFrom 0 j.toNat, none, []) M1) .stk
  | _ => .stk
noncomputable def iRange2 (f g : Xp) : Xi := fun r M => (f r M).bind fun x M1 => (g r M1).bind fun y M2 => match x, y with
  | .int i, .int j => @ite _ (-(2 ^ 62) ≤ i ∧ i < 2 ^ 62 ∧ -(2 ^ 62) ≤ j ∧ j < 2 ^ 62) (Classical.propDecidable _) (.ok (upFrom i (j - i).toNat, none, []) M2) .stk
  | _, _ => .stk

def stepFrom (lo c : Int) : Nat → List D
  | 0 => []
  | n + 1 => .int lo :: stepFrom (lo + c) c n
noncomputable def iRange3 (t : Xa) : Xi := fun r M => (t r M).bind fun ds M3 => match ds with
  | [.int i, .int j, .int c] => @ite _ (c ≠ 0 ∧ c.natAbs < 1073741824 ∧ Builtin.Range.small i j c = true ∧ 0 ≤ Builtin.Range.rangeSize i j c) (Classical.propDecidable _) (.ok (stepFrom i c (Builtin.Range.rangeSize i j c).toNat, none, []) M3) .stk
  | _ => .stk

def whL (c : Xb) (s : Xs) : Nat → Ev → Mem → SO
  | 0, _, _ => .stk
  | k + 1, r, M => (c r M).toS r fun b M1 => if b = true then (match s r M1 with
    | .nx r2 M2 => whL c s k r2 M2
    | .ct r2 M2 => whL c s k r2 M2
    | .bk r2 M2 => .nx r2 M2
    | o => o) else .nx r M1
open Classical in
noncomputable def sWhile (c : Xb) (s : Xs) : Xs := fun r M => if h : ∃ k, whL c s k r M ≠ .stk then whL c s h.choose r M else .stk


def wipeE (r : Ev) : List Nat → Ev
  | [] => r
  | i :: l => (wipeE r l).set i none
open Classical in
noncomputable def lcL (n : Option Nat) (ys : List D) (t : Tg) (c : Xb) (f : Xp) (r : Ev) : List D → Mem → Out (List D)
  | [], M => if stands M n ys then .ok [] M else .stk
  | x :: rest, M => if stands M n ys then (match t x r M with
    | .nx r1 M1 => (match c r1 M1 with
      | .ok b M2 => if b = true then (match f r1 M2 with
          | .ok d M3 => (match lcL n ys t c f r rest M3 with
            | .ok ds M4 => .ok (d :: ds) M4
            | _ => .stk)
          | _ => .stk) else lcL n ys t c f r rest M2
      | _ => .stk)
    | _ => .stk) else .stk
noncomputable def xLc (it : Xi) (t : Tg) (c : Xb) (f : Xp) (own : List Nat) : Xp := fun r M => (it r M).bind fun p M1 => match lcL p.2.1 p.2.2 t c f (wipeE r own) p.1 M1 with
  | .ok ds M2 => if ds.length ≤ SZ then .ok (.loc M2.length) (M2 ++ [.lst ds]) else .stk
  | _ => .stk
def bTrue : Xb := fun _ M => .ok true M


mutual
def below (n : Nat) : D → Bool
  | .tup xs => belowAll n xs
  | .fz xs => belowAll n xs
  | .loc k => decide (k < n)
  | _ => true
def belowAll (n : Nat) : List D → Bool
  | [] => true
  | x :: r => below n x && belowAll n r
end
def belowO (n : Nat) : MO → Bool
  | .lst xs => belowAll n xs
  | .dct kvs => belowAll n (kvs.map (·.2))
  | .lck kvs _ _ => belowAll n (kvs.map (·.2))
def tidy (M0 : Mem) (ds : List D) (M : Mem) : Prop := M0.length ≤ M.length ∧ belowAll M0.length ds = true ∧ ∀ i o, i < M0.length → M[i]? = some o → M0[i]? = some o ∨ belowO M0.length o = true
open Classical in
noncomputable def gc (M0 : Mem) (ds : List D) (M : Mem) : Mem := if tidy M0 ds M then M.take M0.length else M
noncomputable def fDef (n nl : Nat) (s : Xs) : Fn := fun ds M => if ds.length = n then (match s (ds.map some ++ List.replicate nl none) M with
  | .nx _ M1 => .ok .non (gc M [] M1)
  | .rt d M1 => .ok d (gc M [d] M1)
  | .er c fs _ M1 => .err c fs (gc M fs M1)
  | _ => .stk) else .stk
end PV

set_option Elab.async false
set_option linter.all false
set_option maxRecDepth 100000
set_option maxHeartbeats 2000000

namespace PV
open PySem PySem.Spec PyProof.Rows L2
abbrev Sl := L2.St

def FzL (K : PySem.W.Frag) (H : Hp) (a : Addr) (xs : List V) : Prop :=
  (∃ o, H a = some (.frz o (.lst xs))) ∨
    ∃ (ob : Obj) (ws : Array Value) (k : Nat), K.lookup a = some ob ∧ ob.cls = .type "list" ∧ ob.dict = none ∧ ob.data = .seq ws k ∧ ws.size ≤ sizeLine ∧ Vals xs ws.toList
theorem FzL.sq {K : PySem.W.Frag} {H : Hp} {a : Addr} {xs : List V} (h : FzL K H a xs) : SqL K H a xs := h.elim (fun ⟨o, q⟩ => .inl (.inr ⟨o, q⟩)) .inr
mutual
inductive Rep (K : PySem.W.Frag) (H : Hp) (m : List Addr) : V → D → Prop
  | non : Rep K H m .non .non
  | bl (b : Bool) : Rep K H m (.bl b) (.bl b)
  | int (i : Int) : Rep K H m (.int i) (.int i)
  | str (s : Str) : Rep K H m (.str s) (.str s)
  | tup {a : Addr} {vs : List V} {ds : List D} : SqT K H a vs → Reps K H m vs ds → Rep K H m (.ref a) (.tup ds)
  | fz {a : Addr} {vs : List V} {ds : List D} : FzL K H a vs → Reps K H m vs ds → Rep K H m (.ref a) (.fz ds)
  | loc {a : Addr} {n : Nat} : m[n]? = some a → Rep K H m (.ref a) (.loc n)
inductive Reps (K : PySem.W.Frag) (H : Hp) (m : List Addr) : List V → List D → Prop
  | nil : Reps K H m [] []
  | cons {v : V} {vs : List V} {d : D} {ds : List D} : Rep K H m v d → Reps K H m vs ds → Reps K H m (v :: vs) (d :: ds)
end

section
variable {K : PySem.W.Frag} {H H' H'' : Hp} {m m' m'' : List Addr}
theorem Reps.length : ∀ {vs : List V} {ds : List D}, Reps K H m vs ds → vs.length = ds.length
  | _, _, .nil => rfl
  | _, _, .cons _ t => by rw [List.length_cons, List.length_cons, Reps.length t]
theorem Reps.get : ∀ {vs : List V} {ds : List D}, Reps K H m vs ds → ∀ (i : Nat) (d : D), ds[i]? = some d → ∃ v, vs[i]? = some v ∧ Rep K H m v d
  | _, _, .nil, i, d, e => by simp at e
  | _, _, .cons r t, 0, d, e => by
    simp at e
    subst e
    exact ⟨_, rfl, r⟩
  | _, _, .cons r t, i + 1, d, e => by
    obtain ⟨v, h1, h2⟩ := Reps.get t i d (by simpa using e)
    exact ⟨v, by simpa using h1, h2⟩
theorem Reps.get' : ∀ {vs : List V} {ds : List D}, Reps K H m vs ds → ∀ (i : Nat) (v : V), vs[i]? = some v → ∃ d, ds[i]? = some d ∧ Rep K H m v d
  | _, _, .nil, i, d, e => by simp at e
  | _, _, .cons r t, 0, d, e => by
    simp at e
    subst e
    exact ⟨_, rfl, r⟩
  | _, _, .cons r t, i + 1, d, e => by
    obtain ⟨v, h1, h2⟩ := Reps.get' t i d (by simpa using e)
    exact ⟨v, by simpa using h1, h2⟩
theorem Reps.app : ∀ {vs ws : List V} {ds es : List D}, Reps K H m vs ds → Reps K H m ws es → Reps K H m (vs ++ ws) (ds ++ es)
  | _, _, _, _, .nil, s => s
  | _, _, _, _, .cons r t, s => .cons r (Reps.app t s)
theorem Reps.take : ∀ {vs : List V} {ds : List D} (n : Nat), Reps K H m vs ds → Reps K H m (vs.take n) (ds.take n)
  | _, _, 0, _ => .nil
  | _, _, _ + 1, .nil => .nil
  | _, _, n + 1, .cons r t => .cons r (Reps.take n t)
theorem Reps.drop : ∀ {vs : List V} {ds : List D} (n : Nat), Reps K H m vs ds → Reps K H m (vs.drop n) (ds.drop n)
  | _, _, 0, r => r
  | _, _, _ + 1, .nil => .nil
  | _, _, n + 1, .cons _ t => Reps.drop n t
theorem Reps.set {v : V} {d : D} (r : Rep K H m v d) : ∀ {vs : List V} {ds : List D} (i : Nat), Reps K H m vs ds → Reps K H m (vs.set i v) (ds.set i d)
  | _, _, _, .nil => .nil
  | _, _, 0, .cons _ t => .cons r t
  | _, _, i + 1, .cons q t => .cons q (Reps.set r i t)
theorem Reps.reverse : ∀ {vs : List V} {ds : List D}, Reps K H m vs ds → Reps K H m vs.reverse ds.reverse
  | _, _, .nil => .nil
  | _, _, .cons r t => by
    rw [List.reverse_cons, List.reverse_cons]
    exact Reps.app (Reps.reverse t) (.cons r .nil)
theorem Reps.rep {vs : List V} {ds : List D} (r : Reps K H m vs ds) : ∀ k : Nat, Reps K H m (List.replicate k vs).flatten (List.replicate k ds).flatten
  | 0 => .nil
  | k + 1 => by
    rw [List.replicate_succ, List.replicate_succ, List.flatten_cons, List.flatten_cons]
    exact r.app (Reps.rep r k)
theorem Reps.one {d : D} {vs : List V} (r : Reps K H m vs [d]) : ∃ v, vs = [v] ∧ Rep K H m v d := by
  cases r with
  | cons r t =>
    cases t
    exact ⟨_, rfl, r⟩
theorem Reps.two {d e : D} {vs : List V} (r : Reps K H m vs [d, e]) : ∃ v w, vs = [v, w] ∧ Rep K H m v d ∧ Rep K H m w e := by
  cases r with
  | cons r t =>
    cases t with
    | cons r' t =>
      cases t
      exact ⟨_, _, rfl, r, r'⟩
structure Car (K : PySem.W.Frag) (H : Hp) (m : List Addr) (H' : Hp) (m' : List Addr) : Prop where
  tup : ∀ a vs, SqT K H a vs → SqT K H' a vs
  frz : ∀ a vs, FzL K H a vs → FzL K H' a vs
  at_ : ∀ (n : Nat) a, m[n]? = some a → m'[n]? = some a
mutual
theorem Rep.car (c : Car K H m H' m') : ∀ {v : V} {d : D}, Rep K H m v d → Rep K H' m' v d
  | _, _, .non => .non
  | _, _, .bl b => .bl b
  | _, _, .int i => .int i
  | _, _, .str s => .str s
  | _, _, .tup h r => .tup (c.tup _ _ h) (Reps.car c r)
  | _, _, .fz h r => .fz (c.frz _ _ h) (Reps.car c r)
  | _, _, .loc h => .loc (c.at_ _ _ h)
theorem Reps.car (c : Car K H m H' m') : ∀ {vs : List V} {ds : List D}, Reps K H m vs ds → Reps K H' m' vs ds
  | _, _, .nil => .nil
  | _, _, .cons r t => .cons (Rep.car c r) (Reps.car c t)
end

def ObR (K : PySem.W.Frag) (H : Hp) (m : List Addr) (a : Addr) : MO → Prop
  | .lst ds => ∃ vs, H a = some (.lst vs) ∧ Reps K H m vs ds
  | .dct kvs => ∃ kws : List (L2.Key × V), H a = some (.dK kws) ∧ kws.map (·.1) = kvs.map (·.1) ∧ Reps K H m (kws.map (·.2)) (kvs.map (·.2))
  | .lck kvs od kws => H a = some (.frz od (.dK kws)) ∧ kws.map (·.1) = kvs.map (·.1) ∧ Reps K H m (kws.map (·.2)) (kvs.map (·.2))
theorem ObR.is {a : Addr} {o : MO} (h : ObR K H m a o) : (∃ vs, H a = some (.lst vs)) ∨ (∃ kws, H a = some (.dK kws)) ∨ ∃ od kws, H a = some (.frz od (.dK kws)) := by
  cases o with
  | lst ds =>
    obtain ⟨vs, h, _⟩ := h
    exact .inl ⟨vs, h⟩
  | dct kvs =>
    obtain ⟨kws, h, _⟩ := h
    exact .inr (.inl ⟨kws, h⟩)
  | lck kvs od kws => exact .inr (.inr ⟨od, kws, h.1⟩)
structure MemOk (K : PySem.W.Frag) (H : Hp) (m : List Addr) (M : Mem) : Prop where
  len : m.length = M.length
  nd : m.Nodup
  ob : ∀ (n : Nat) a o, m[n]? = some a → M[n]? = some o → ObR K H m a o
theorem MemOk.at_ {M : Mem} (h : MemOk K H m M) {n : Nat} {o : MO} (e : M[n]? = some o) : ∃ a, m[n]? = some a ∧ ObR K H m a o := by
  have hn : n < m.length := by
    rw [h.len]
    exact (List.getElem?_eq_some_iff.mp e).1
  exact ⟨m[n], by simp [hn], h.ob n _ o (by simp [hn]) e⟩
theorem MemOk.of {M : Mem} (h : MemOk K H m M) {n : Nat} {a : Addr} (e : m[n]? = some a) : ∃ o, M[n]? = some o ∧ ObR K H m a o := by
  have hn : n < M.length := by
    rw [← h.len]
    exact (List.getElem?_eq_some_iff.mp e).1
  exact ⟨M[n], by simp [hn], h.ob n _ _ e (by simp [hn])⟩
theorem MemOk.mem {M : Mem} (h : MemOk K H m M) {a : Addr} (e : a ∈ m) : ∃ (n : Nat) (o : MO), m[n]? = some a ∧ M[n]? = some o ∧ ObR K H m a o := by
  obtain ⟨n, q⟩ := List.mem_iff_getElem?.mp e
  obtain ⟨o, h1, h2⟩ := h.of q
  exact ⟨n, o, q, h1, h2⟩
theorem MemOk.noTup {M : Mem} (h : MemOk K H m M) {a : Addr} {vs : List V} (e : Rd H a (.tup vs)) : a ∉ m := fun hm => by
  obtain ⟨n, o, _, _, q⟩ := h.mem hm
  rcases q.is with ⟨ws, z⟩ | ⟨kws, z⟩ | ⟨od, kws, z⟩ <;> rcases e with e | ⟨ob', e⟩ <;> rw [e] at z <;> cases z
theorem MemOk.noFrz {M : Mem} (h : MemOk K H m M) {a : Addr} {ob : Obj} {us : List V} (e : H a = some (.frz ob (.lst us))) : a ∉ m := fun hm => by
  obtain ⟨n, o, _, _, q⟩ := h.mem hm
  rcases q.is with ⟨ws, z⟩ | ⟨kws, z⟩ | ⟨od, kws, z⟩ <;> rw [e] at z <;> cases z

structure Stp (m : List Addr) (H : Hp) (m' : List Addr) (H' : Hp) : Prop where
  more : ∃ n, m' = m ++ n
  oth : ∀ a o, H a = some o → a ∉ m → H' a = some o
  new : ∀ a, a ∈ m' → a ∈ m ∨ H a = none
theorem Stp.refl : Stp m H m H := ⟨⟨[], (List.append_nil m).symm⟩, fun _ _ e _ => e, fun _ h => .inl h⟩
theorem Stp.sub (s : Stp m H m' H') {a : Addr} (h : a ∈ m) : a ∈ m' := by
  obtain ⟨n, rfl⟩ := s.more
  exact List.mem_append_left _ h
theorem Stp.trans (s : Stp m H m' H') (t : Stp m' H' m'' H'') : Stp m H m'' H'' where
  more := by
    obtain ⟨n, rfl⟩ := s.more
    obtain ⟨k, rfl⟩ := t.more
    exact ⟨n ++ k, List.append_assoc _ _ _⟩
  oth := fun a o e h => t.oth a o (s.oth a o e h) fun z => (s.new a z).elim h fun q => by rw [e] at q; cases q
  new := fun a h => (t.new a h).elim (s.new a) fun q => by
    by_cases z : a ∈ m
    · exact .inl z
    · cases e : H a with
      | none => exact .inr rfl
      | some o =>
        rw [s.oth a o e z] at q
        cases q
theorem Stp.car {M : Mem} (s : Stp m H m' H') (h : MemOk K H m M) : Car K H m H' m' where
  tup := fun a vs q => by
    rcases q with q | q
    · have z := h.noTup q
      rcases q with q | ⟨o, q⟩
      · exact .inl (.inl (s.oth a _ q z))
      · exact .inl (.inr ⟨o, s.oth a _ q z⟩)
    · exact .inr q
  frz := fun a vs q => by
    rcases q with ⟨o, q⟩ | q
    · exact .inl ⟨o, s.oth a _ q (h.noFrz q)⟩
    · exact .inr q
  at_ := fun n a e => by
    obtain ⟨k, rfl⟩ := s.more
    rw [List.getElem?_append_left (List.getElem?_eq_some_iff.mp e).1]
    exact e
theorem ObR.keep {a : Addr} {o : MO} (c : Car K H m H' m') (h : ObR K H m a o) (e : H' a = H a) : ObR K H' m' a o := by
  cases o with
  | lst ds =>
    obtain ⟨vs, h, r⟩ := h
    exact ⟨vs, e.trans h, r.car c⟩
  | dct kvs =>
    obtain ⟨kws, h, r1, r2⟩ := h
    exact ⟨kws, e.trans h, r1, r2.car c⟩
  | lck kvs od kws =>
    obtain ⟨h, r1, r2⟩ := h
    exact ⟨e.trans h, r1, r2.car c⟩

theorem Stp.fresh {p : Addr} {u : HO} (hp : H p = none) : Stp m H m (upd H p u) :=
  ⟨⟨[], (List.append_nil m).symm⟩, fun a o e _ => by rw [upd_ne (ne_of_none e hp)]; exact e, fun _ h => .inl h⟩
theorem MemOk.fresh {M : Mem} {p : Addr} {u : HO} (h : MemOk K H m M) (hp : H p = none) : MemOk K (upd H p u) m M :=
  ⟨h.len, h.nd, fun n a o e1 e2 => by
    have q := h.ob n a o e1 e2
    have ne : a ≠ p := fun z => by
      subst z
      rcases q.is with ⟨ws, z⟩ | ⟨kws, z⟩ | ⟨od, kws, z⟩ <;> rw [hp] at z <;> cases z
    exact q.keep ((Stp.fresh hp).car h) (upd_ne ne)⟩
theorem SqT.new {p : Addr} {vs : List V} : SqT K (upd H p (.tup vs)) p vs := .inl (.inl upd_same)
theorem Stp.alloc {p : Addr} {u : HO} (hp : H p = none) : Stp m H (m ++ [p]) (upd H p u) :=
  ⟨⟨[p], rfl⟩, fun a o e _ => by rw [upd_ne (ne_of_none e hp)]; exact e, fun a h => (List.mem_append.mp h).imp id fun z => by
    rw [List.mem_singleton.mp z]
    exact hp⟩
theorem MemOk.alloc {M : Mem} {p : Addr} {u : HO} {o : MO} (h : MemOk K H m M) (hp : H p = none) (ho : ObR K (upd H p u) (m ++ [p]) p o) : MemOk K (upd H p u) (m ++ [p]) (M ++ [o]) := by
  have np : p ∉ m := fun z => by
    obtain ⟨n, o, _, _, q⟩ := h.mem z
    rcases q.is with ⟨ws, z⟩ | ⟨kws, z⟩ | ⟨od, kws, z⟩ <;> rw [hp] at z <;> cases z
  refine ⟨by rw [List.length_append, List.length_append, h.len] <;> rfl, ?_, fun n a o' e1 e2 => ?_⟩
  · rw [List.nodup_append]
    exact ⟨h.nd, by simp, fun a ha b hb => by
      rw [List.mem_singleton.mp hb]
      exact fun z => np (z ▸ ha)⟩
  · by_cases hn : n < m.length
    · rw [List.getElem?_append_left hn] at e1
      rw [List.getElem?_append_left (by rw [← h.len]; exact hn)] at e2
      have q := h.ob n a o' e1 e2
      exact q.keep ((Stp.alloc hp).car h) (upd_ne fun z => np (z ▸ List.mem_of_getElem? e1))
    · have en : n = m.length := by
        have := (List.getElem?_eq_some_iff.mp e1).1
        rw [List.length_append, List.length_singleton] at this
        omega
      rw [en, List.getElem?_append_right (Nat.le_refl _), Nat.sub_self] at e1
      rw [en, h.len, List.getElem?_append_right (Nat.le_refl _), Nat.sub_self] at e2
      simp at e1 e2
      subst e1
      subst e2
      exact ho
theorem Rep.new {M : Mem} {p : Addr} {u : HO} (h : MemOk K H m M) : Rep K (upd H p u) (m ++ [p]) (.ref p) (.loc M.length) := .loc (by rw [← h.len, List.getElem?_append_right (Nat.le_refl _), Nat.sub_self] <;> rfl)
theorem Stp.write {n : Nat} {a : Addr} {u : HO} (e : m[n]? = some a) : Stp m H m (upd H a u) :=
  ⟨⟨[], (List.append_nil m).symm⟩, fun b o q z => by
    have ne : b ≠ a := fun w => z (by rw [w]; exact List.mem_of_getElem? e)
    rw [upd_ne ne]
    exact q, fun _ h => .inl h⟩
theorem MemOk.write {M : Mem} {n : Nat} {a : Addr} {u : HO} {o : MO} (h : MemOk K H m M) (e : m[n]? = some a) (ho : ObR K (upd H a u) m a o) : MemOk K (upd H a u) m (M.set n o) := by
  refine ⟨by rw [List.length_set]; exact h.len, h.nd, fun j b o' e1 e2 => ?_⟩
  by_cases hj : j = n
  · subst hj
    rw [e] at e1
    cases e1
    have hn : j < M.length := by rw [← h.len]; exact (List.getElem?_eq_some_iff.mp e).1
    rw [List.getElem?_set_self hn] at e2
    cases e2
    exact ho
  · rw [List.getElem?_set_ne (Ne.symm hj)] at e2
    have q := h.ob j b o' e1 e2
    refine q.keep ((Stp.write e).car h) (upd_ne fun z => hj ?_)
    subst z
    obtain ⟨h1, e1'⟩ := List.getElem?_eq_some_iff.mp e1
    obtain ⟨h2, e2'⟩ := List.getElem?_eq_some_iff.mp e
    exact (List.getElem_inj h.nd).mp (e1'.trans e2'.symm)


structure EnvOk (K : PySem.W.Frag) (H : Hp) (m : List Addr) (σ : Sl) (r : Ev) : Prop where
  len : σ.length = r.length
  at_ : ∀ (i : Nat) d, r[i]? = some (some d) → ∃ v, σ[i]? = some (some v) ∧ Rep K H m v d
theorem EnvOk.car {σ : Sl} {r : Ev} (h : EnvOk K H m σ r) (c : Car K H m H' m') : EnvOk K H' m' σ r :=
  ⟨h.len, fun i d e => let ⟨v, h1, h2⟩ := h.at_ i d e; ⟨v, h1, h2.car c⟩⟩
theorem EnvOk.set {σ : Sl} {r : Ev} {v : V} {d : D} (h : EnvOk K H m σ r) (i : Nat) (q : Rep K H m v d) : EnvOk K H m (σ.set i (some v)) (r.set i (some d)) := by
  refine ⟨by rw [List.length_set, List.length_set]; exact h.len, fun j d' e => ?_⟩
  by_cases hj : i = j
  · subst hj
    by_cases hi : i < r.length
    · rw [List.getElem?_set_self hi] at e
      cases e
      exact ⟨v, by rw [List.getElem?_set_self (by rw [h.len]; exact hi)], q⟩
    · rw [List.getElem?_eq_none (by rw [List.length_set]; omega)] at e
      cases e
  · rw [List.getElem?_set_ne hj] at e
    obtain ⟨v', h1, h2⟩ := h.at_ j d' e
    exact ⟨v', by rw [List.getElem?_set_ne hj]; exact h1, h2⟩
end


structure Gd where
  K : PySem.W.Frag
  cA : Nat → Addr
  fl : Nat → List Str

def GOut (G : Gd) {α β : Type} (R : Hp → List Addr → β → α → Prop) (m : List Addr) (H : Hp) (o : Out α) (Q : β → Hp → Prop) (E : XK) : Prop :=
  match o with
  | .ok a M => ∀ b H' m', Stp m H m' H' → MemOk G.K H' m' M → R H' m' b a → Q b H'
  | .err c fs M => ∀ (d : Addr) (kv : List (Str × V)) H' m', Stp m H m' H' → MemOk G.K H' m' M → H' d = some (.xd kv) → kv.map (·.1) = G.fl c → Reps G.K H' m' (kv.map (·.2)) fs → E (.ref (G.cA c)) (some d) H'
  | .stk => False

section
variable {G : Gd} {α β γ δ : Type} {R : Hp → List Addr → β → α → Prop} {R' : Hp → List Addr → δ → γ → Prop} {m m' : List Addr} {H H' : Hp} {E : XK}
theorem GOut.later {o : Out α} {Q : β → Hp → Prop} (h : GOut G R m H o Q E) (s : Stp m H m' H') : GOut G R m' H' o Q E := by
  cases o with
  | ok a M => exact fun b H2 m2 t => h b H2 m2 (s.trans t)
  | err c fs M => exact fun d kv H2 m2 t => h d kv H2 m2 (s.trans t)
  | stk => exact h
theorem GOut.bind {o : Out α} {k : α → Mem → Out γ} {Q : δ → Hp → Prop} {Q' : β → Hp → Prop} (h : GOut G R' m H (o.bind k) Q E)
    (hk : ∀ a M1 b H1 m1, Stp m H m1 H1 → MemOk G.K H1 m1 M1 → R H1 m1 b a → GOut G R' m1 H1 (k a M1) Q E → Q' b H1) : GOut G R m H o Q' E := by
  cases o with
  | ok a M => exact fun b H1 m1 s mo r => hk a M b H1 m1 s mo r (GOut.later (o := k a M) h s)
  | err c fs M => exact h
  | stk => exact h
theorem GOut.ret {a : α} {M : Mem} {b : β} {Q : β → Hp → Prop} (h : GOut G R m H (.ok a M) Q E) (mo : MemOk G.K H m M) (r : R H m b a) : Q b H := h b H m .refl mo r
end

abbrev RD (G : Gd) : Hp → List Addr → V → D → Prop := fun H m v d => Rep G.K H m v d
abbrev RB : Hp → List Addr → Bool → Bool → Prop := fun _ _ b c => b = c
abbrev RA (G : Gd) : Hp → List Addr → List V → List D → Prop := fun H m vs ds => Reps G.K H m vs ds
abbrev RO : Hp → List Addr → Option Int → Option Int → Prop := fun _ _ b c => b = c

def Sim (G : Gd) (m : List Addr) (H : Hp) (σ : Sl) (r : Ev) (M : Mem) : Prop := EnvOk G.K H m σ r ∧ MemOk G.K H m M
theorem Sim.later {G : Gd} {m m1 : List Addr} {H H1 : Hp} {σ : Sl} {r : Ev} {M M1 : Mem} (h : Sim G m H σ r M) (s : Stp m H m1 H1) (mo : MemOk G.K H1 m1 M1) : Sim G m1 H1 σ r M1 := ⟨h.1.car (s.car h.2), mo⟩

def TD (G : Gd) (W : WX) (f : Xp) : TE := fun σ H Q => ∃ m r M, Sim G m H σ r M ∧ GOut G (RD G) m H (f r M) Q fun c d H' => W c d σ H'
def TB (G : Gd) (W : WX) (f : Xb) : TT := fun σ H Q => ∃ m r M, Sim G m H σ r M ∧ GOut G RB m H (f r M) Q fun c d H' => W c d σ H'
def TAr (G : Gd) (W : WX) (f : Xa) : TA := fun σ H Q => ∃ m r M, Sim G m H σ r M ∧ GOut G (RA G) m H (f r M) Q fun c d H' => W c d σ H'
def TOp (G : Gd) (W : WX) (f : Xo) : TO := fun σ H Q => ∃ m r M, Sim G m H σ r M ∧ GOut G RO m H (f r M) Q fun c d H' => W c d σ H'

def GSO (G : Gd) (m : List Addr) (H : Hp) (W : WX) (D : Ends) (o : SO) : Prop :=
  match o with
  | .nx r M => ∀ σ' H' m', Stp m H m' H' → Sim G m' H' σ' r M → D.nx σ' H'
  | .bk r M => ∀ σ' H' m', Stp m H m' H' → Sim G m' H' σ' r M → D.bk σ' H'
  | .ct r M => ∀ σ' H' m', Stp m H m' H' → Sim G m' H' σ' r M → D.ct σ' H'
  | .rt d M => ∀ v H' m', Stp m H m' H' → MemOk G.K H' m' M → Rep G.K H' m' v d → D.rt v H'
  | .er c fs r M => ∀ (d : Addr) (kv : List (Str × V)) σ' H' m', Stp m H m' H' → Sim G m' H' σ' r M → H' d = some (.xd kv) → kv.map (·.1) = G.fl c → Reps G.K H' m' (kv.map (·.2)) fs → W (.ref (G.cA c)) (some d) σ' H'
  | .stk => False
def TSt (G : Gd) (W : WX) (g : Xs) : TS := fun D σ H => ∃ m r M, Sim G m H σ r M ∧ GSO G m H W D (g r M)
section
variable {G : Gd} {m m' : List Addr} {H H' : Hp} {W : WX} {D D' : Ends}
theorem GSO.later {o : SO} (h : GSO G m H W D o) (s : Stp m H m' H') : GSO G m' H' W D o := by
  cases o with
  | nx r M => exact fun σ H2 m2 t => h σ H2 m2 (s.trans t)
  | bk r M => exact fun σ H2 m2 t => h σ H2 m2 (s.trans t)
  | ct r M => exact fun σ H2 m2 t => h σ H2 m2 (s.trans t)
  | rt d M => exact fun v H2 m2 t => h v H2 m2 (s.trans t)
  | er c fs r M => exact fun d kv σ H2 m2 t => h d kv σ H2 m2 (s.trans t)
  | stk => exact h
theorem GSO.bind {α β : Type} {R : Hp → List Addr → β → α → Prop} {o : Out α} {r : Ev} {M : Mem} {k : α → Mem → SO} {Q : β → Hp → Prop} {σ : Sl} (h : GSO G m H W D (o.toS r k)) (si : Sim G m H σ r M)
    (hk : ∀ a M1 b H1 m1, Stp m H m1 H1 → Sim G m1 H1 σ r M1 → R H1 m1 b a → GSO G m1 H1 W D (k a M1) → Q b H1) : GOut G R m H o Q fun c d H' => W c d σ H' := by
  cases o with
  | ok a M => exact fun b H1 m1 s mo q => hk a M b H1 m1 s (si.later s mo) q (GSO.later (o := k a M) h s)
  | err c fs M => exact fun d kv H1 m1 s mo e1 e2 e3 => h d kv σ H1 m1 s (si.later s mo) e1 e2 e3
  | stk => exact h
end
end PV

set_option Elab.async false
set_option linter.all false
set_option maxRecDepth 100000
set_option maxHeartbeats 2000000

namespace PV
open PySem PySem.Spec PyProof.Rows L2

theorem szL : (SZ : Nat) = sizeLine := sizeLine_eq.symm
theorem PE.of {X : Cx} {e : Expr} {t t' : TE} (h : PE X e t) (w : ∀ σ H Q, t' σ H Q → t σ H Q) : PE X e t' := ⟨fun pins s σ H Q I q => h.run pins s σ H Q I (w σ H Q q)⟩
theorem PT.of {X : Cx} {e : Expr} {t t' : TT} (h : PT X e t) (w : ∀ σ H Q, t' σ H Q → t σ H Q) : PT X e t' := ⟨fun pins s σ H Q I q => h.run pins s σ H Q I (w σ H Q q)⟩
theorem PW.of {X : Cx} {e : Expr} {t t' : TT} (h : PW X e t) (w : ∀ σ H Q, t' σ H Q → t σ H Q) : PW X e t' := ⟨fun wh pins s σ H Q I q => h.run wh pins s σ H Q I (w σ H Q q)⟩
theorem PA.of {X : Cx} {es : List Expr} {t t' : TA} (h : PA X es t) (w : ∀ σ H Q, t' σ H Q → t σ H Q) : PA X es t' := ⟨fun pos pins s σ H Q I q => h.run pos pins s σ H Q I (w σ H Q q)⟩
theorem PO.of {X : Cx} {e : Option Expr} {t t' : TO} (h : PO X e t) (w : ∀ σ H Q, t' σ H Q → t σ H Q) : PO X e t' := ⟨fun pins s σ H Q I q => h.run pins s σ H Q I (w σ H Q q)⟩

abbrev DE (G : Gd) (X : Cx) (W : WX) (e : Expr) (f : Xp) : Prop := PE X e (TD G W f)
abbrev DT (G : Gd) (X : Cx) (W : WX) (e : Expr) (f : Xb) : Prop := PT X e (TB G W f)
abbrev DW (G : Gd) (X : Cx) (W : WX) (e : Expr) (f : Xb) : Prop := PW X e (TB G W f)
abbrev DA (G : Gd) (X : Cx) (W : WX) (es : List Expr) (f : Xa) : Prop := PA X es (TAr G W f)
abbrev DO (G : Gd) (X : Cx) (W : WX) (e : Option Expr) (f : Xo) : Prop := PO X e (TOp G W f)

section
variable {G : Gd} {X : Cx} {W : WX}

theorem de_var (i : Nat) {x : Str} {pos : Pos} (hN : X.N[i]? = some x := by rfl) (hv : Vis X.env.scope x := by first | exact Or.inl rfl | exact Or.inr (Or.inl rfl) | exact Or.inr (Or.inr rfl)) (hd : (x == ("__debug__" : Str)) = false := by decide)
    (hcd : (x == ("__classdict__" : Str)) = false := by decide) : DE G X W (.Name x pos) (xVar i) := by
  refine PE.of (pe_var hN hv hd hcd) fun σ H Q h => ?_
  obtain ⟨m, r, M, si, h⟩ := h
  unfold xVar at h
  split at h
  · rename_i d e
    obtain ⟨v, h1, h2⟩ := si.1.at_ i d e
    exact ⟨v, h1, h.ret si.2 h2⟩
  · exact h.elim
theorem de_k {e : Expr} {v : V} {d : D} (h : PE X e (tC v)) (hr : ∀ H m, Rep G.K H m v d) : DE G X W e (xK d) := by
  refine PE.of h fun σ H Q q => ?_
  obtain ⟨m, r, M, si, q⟩ := q
  exact GOut.ret (a := d) (M := M) q si.2 (hr H m)
theorem de_int {i j pos} : DE G X W (.Constant (.int i) j pos) (xK (.int i)) := de_k pe_int fun _ _ => .int _
theorem de_bl {b j pos} : DE G X W (.Constant (.bool b) j pos) (xK (.bl b)) := de_k pe_bl fun _ _ => .bl _
theorem de_non {j pos} : DE G X W (.Constant .none j pos) (xK .non) := de_k pe_non fun _ _ => .non
theorem de_str {x j pos} : DE G X W (.Constant (.str x) j pos) (xK (.str x)) := de_k pe_str fun _ _ => .str _
theorem da_nil : DA G X W [] aNil := PA.of pa_nil fun σ H Q q => by
  obtain ⟨m, r, M, si, q⟩ := q
  exact GOut.ret (a := []) (M := M) q si.2 .nil
theorem da_cons {e : Expr} {es : List Expr} {f : Xp} {t : Xa} (ha : DE G X W e f) (hr : DA G X W es t) (hs : starEach (e :: es) X.env = (false, eval e X.env) :: starEach es X.env := by rfl) : DA G X W (e :: es) (aCons f t) := by
  refine PA.of (pa_cons ha hr hs) fun σ H Q q => ?_
  obtain ⟨m, r, M, si, q⟩ := q
  refine ⟨m, r, M, si, GOut.bind q fun d M1 v H1 m1 s1 o1 r1 q1 => ⟨m1, r, M1, si.later s1 o1, GOut.bind q1 fun ds M2 vs H2 m2 s2 o2 r2 q2 => ?_⟩⟩
  exact GOut.ret q2 o2 (.cons (r1.car (s2.car o1)) r2)
theorem de_tup {es : List Expr} {t : Xa} {x1 pos} (h : DA G X W es t) : DE G X W (.Tuple es x1 pos) (xTup t) := by
  refine PE.of (pe_tup h) fun σ H Q q => ?_
  obtain ⟨m, r, M, si, q⟩ := q
  refine ⟨m, r, M, si, GOut.bind q fun ds M1 vs H1 m1 s1 o1 r1 q1 => ?_⟩
  split at q1
  · rename_i hz
    refine ⟨by rw [r1.length, ← szL]; exact hz, fun p hp => ?_⟩
    exact q1 _ _ _ (Stp.fresh hp) (o1.fresh hp) (.tup SqT.new (r1.car ((Stp.fresh hp).car o1)))
  · exact q1.elim
theorem de_lst {es : List Expr} {t : Xa} {pos} (h : DA G X W es t) : DE G X W (.List es pos) (xLst t) := by
  refine PE.of (pe_lst h) fun σ H Q q => ?_
  obtain ⟨m, r, M, si, q⟩ := q
  refine ⟨m, r, M, si, GOut.bind q fun ds M1 vs H1 m1 s1 o1 r1 q1 => ?_⟩
  split at q1
  · rename_i hz
    refine ⟨by rw [r1.length, ← szL]; exact hz, fun p hp => ?_⟩
    exact q1 _ _ _ (Stp.alloc hp) (o1.alloc hp ⟨vs, upd_same, r1.car ((Stp.alloc hp).car o1)⟩) (Rep.new o1)
  · exact q1.elim


def Op2 (G : Gd) (op : D → D → Mem → Out D) (r : R2) : Prop := ∀ (m : List Addr) (H : Hp) (M : Mem) (x y : V) (dx dy : D) (Q : VK) (E : XK), MemOk G.K H m M → Rep G.K H m x dx → Rep G.K H m y dy → GOut G (RD G) m H (op dx dy M) Q E → r x y H Q
theorem bin_of {op : D → D → Mem → Out D} {r : R2} (hr : Op2 G op r) {f g : Xp} (σ : Sl) (H : Hp) (Q : VK) (h : TD G W (x2 op f g) σ H Q) : tOp r (TD G W f) (TD G W g) σ H Q := by
  obtain ⟨m, e, M, si, q⟩ := h
  refine ⟨m, e, M, si, GOut.bind q fun dx M1 x H1 m1 s1 o1 r1 q1 => ⟨m1, e, M1, si.later s1 o1, GOut.bind q1 fun dy M2 y H2 m2 s2 o2 r2 q2 => ?_⟩⟩
  exact hr m2 H2 M2 x y dx dy Q _ o2 (r1.car (s2.car o1)) r2 q2
theorem de_op {op : D → D → Mem → Out D} {r : R2} {o : Operator} {a b : Expr} {f g : Xp} {pos : Pos} (ho : OpR X (binaryOp o) r) (hr : Op2 G op r) (ha : DE G X W a f) (hb : DE G X W b g) : DE G X W (.BinOp a o b pos) (x2 op f g) :=
  PE.of (pe_op ho ha hb) (bin_of hr)
theorem de_cmp {op : D → D → Mem → Out D} {r : R2} {o : CmpOp} {a b : Expr} {f g : Xp} {pos : Pos} (ho : OpR X (compareOp o) r) (hr : Op2 G op r) (ha : DE G X W a f) (hb : DE G X W b g) (hm : behindInMarks o b = false) : DE G X W (.Compare a [o] [b] pos) (x2 op f g) :=
  PE.of (pe_cmpR ho ha hb hm) (bin_of hr)
theorem tB_of {f : Xp} {t : TE} (h : ∀ σ H Q, TD G W f σ H Q → t σ H Q) (σ : Sl) (H : Hp) (Q : Bool → Hp → Prop) (q : TB G W (bE f) σ H Q) : tTest t σ H Q := by
  obtain ⟨m, e, M, si, q⟩ := q
  refine h σ H _ ⟨m, e, M, si, GOut.bind q fun dx M1 x H1 m1 s1 o1 r1 q1 => ?_⟩
  cases r1 with
  | bl b => exact ⟨b, rfl, GOut.ret (a := b) (M := M1) q1 o1 rfl⟩
  | _ => exact q1.elim
theorem dt_cmp {op : D → D → Mem → Out D} {r : R2} {o : CmpOp} {a b : Expr} {f g : Xp} {pos : Pos} (ho : OpR X (compareOp o) r) (hr : Op2 G op r) (ha : DE G X W a f) (hb : DE G X W b g) (hm : behindInMarks o b = false) : DT G X W (.Compare a [o] [b] pos) (bE (x2 op f g)) :=
  PT.of (pt_cmpR ho ha hb hm) (tB_of (bin_of hr))
theorem dt_val {e : Expr} {f : Xp} (h : DE G X W e f) (he : ∀ whole, isTrue e X.env whole = (do let v ← whole; standAt e.pos; holding [v] (truthy v)) := by intro _; rfl) : DT G X W e (bE f) :=
  PT.of (pt_val h he) (tB_of fun _ _ _ q => q)
theorem chain_of {op op' : D → D → Mem → Out D} {r r' : R2} (hr : Op2 G op r) (hr' : Op2 G op' r') {f g h : Xp} (σ : Sl) (H : Hp) (Q : VK) (q : TD G W (xChain op op' f g h) σ H Q) : tChain r r' (TD G W f) (TD G W g) (TD G W h) σ H Q := by
  obtain ⟨m, e, M, si, q⟩ := q
  refine ⟨m, e, M, si, GOut.bind q fun dx M1 x H1 m1 s1 o1 r1 q1 => ⟨m1, e, M1, si.later s1 o1, GOut.bind q1 fun dy M2 y H2 m2 s2 o2 r2 q2 => ?_⟩⟩
  have si2 := (si.later s1 o1).later s2 o2
  refine hr m2 H2 M2 x y dx dy _ (fun c d H' => W c d σ H') o2 (r1.car (s2.car o1)) r2 (GOut.bind q2 fun dz M3 z H3 m3 s3 o3 r3 q3 => ?_)
  cases r3 with
  | bl b =>
    refine ⟨b, rfl, ?_⟩
    cases b with
    | true =>
      dsimp only at q3
      rw [if_pos rfl] at q3 ⊢
      exact ⟨m3, e, M3, si2.later s3 o3, GOut.bind q3 fun dw M4 w H4 m4 s4 o4 r4 q4 => hr' m4 H4 M4 y w dy dw Q _ o4 ((r2.car (s3.car o2)).car (s4.car o3)) r4 q4⟩
    | false =>
      dsimp only at q3
      rw [if_neg Bool.false_ne_true] at q3 ⊢
      exact GOut.ret q3 o3 (.bl false)
  | _ => exact q3.elim
theorem de_chain {op op' : D → D → Mem → Out D} {r r' : R2} {o o' : CmpOp} {a b c : Expr} {f g h : Xp} {pos : Pos} (ho : OpR X (compareOp o) r) (ho' : OpR X (compareOp o') r') (hr : Op2 G op r) (hr' : Op2 G op' r') (ha : DE G X W a f) (hb : DE G X W b g) (hc : DE G X W c h)
    (hm : lastMarks [o, o'] [b, c] = false := by with_unfolding_all rfl) : DE G X W (.Compare a [o, o'] [b, c] pos) (xChain op op' f g h) :=
  PE.of (pe_chain ho ho' ha hb hc hm) (chain_of hr hr')
theorem dt_chain {op op' : D → D → Mem → Out D} {r r' : R2} {o o' : CmpOp} {a b c : Expr} {f g h : Xp} {pos : Pos} (ho : OpR X (compareOp o) r) (ho' : OpR X (compareOp o') r') (hr : Op2 G op r) (hr' : Op2 G op' r') (ha : DE G X W a f) (hb : DE G X W b g) (hc : DE G X W c h)
    (hm : lastMarks [o, o'] [b, c] = false := by with_unfolding_all rfl) : DT G X W (.Compare a [o, o'] [b, c] pos) (bE (xChain op op' f g h)) :=
  PT.of (pt_chain ho ho' ha hb hc hm) (tB_of (chain_of hr hr'))


theorem de_one {op : BoolOp} {a : Expr} {f : Xp} {pos : Pos} (h : DE G X W a f) : DE G X W (.BoolOp op [a] pos) f := pe_one h
theorem de_and {a b : Expr} {rest : List Expr} {f g : Xp} {pos : Pos} (ha : DE G X W a f) (hb : DE G X W (.BoolOp .And (b :: rest) pos) g) : DE G X W (.BoolOp .And (a :: b :: rest) pos) (xAnd f g) := by
  refine PE.of (pe_and ha hb) fun σ H Q q => ?_
  obtain ⟨m, e, M, si, q⟩ := q
  refine ⟨m, e, M, si, GOut.bind q fun dx M1 x H1 m1 s1 o1 r1 q1 => ?_⟩
  cases r1 with
  | bl b =>
    refine ⟨b, rfl, ?_⟩
    cases b with
    | true => exact ⟨m1, e, M1, si.later s1 o1, q1⟩
    | false => exact GOut.ret (a := (D.bl false)) (M := M1) q1 o1 (.bl false)
  | _ => exact q1.elim
theorem de_or {a b : Expr} {rest : List Expr} {f g : Xp} {pos : Pos} (ha : DE G X W a f) (hb : DE G X W (.BoolOp .Or (b :: rest) pos) g) : DE G X W (.BoolOp .Or (a :: b :: rest) pos) (xOr f g) := by
  refine PE.of (pe_or ha hb) fun σ H Q q => ?_
  obtain ⟨m, e, M, si, q⟩ := q
  refine ⟨m, e, M, si, GOut.bind q fun dx M1 x H1 m1 s1 o1 r1 q1 => ?_⟩
  cases r1 with
  | bl b =>
    refine ⟨b, rfl, ?_⟩
    cases b with
    | true => exact GOut.ret (a := (D.bl true)) (M := M1) q1 o1 (.bl true)
    | false => exact ⟨m1, e, M1, si.later s1 o1, q1⟩
  | _ => exact q1.elim
theorem de_not {a : Expr} {f : Xp} {pos : Pos} (ha : DE G X W a f) : DE G X W (.UnaryOp .Not a pos) (xNot f) := by
  refine PE.of (pe_not ha) fun σ H Q q => ?_
  obtain ⟨m, e, M, si, q⟩ := q
  refine ⟨m, e, M, si, GOut.bind q fun dx M1 x H1 m1 s1 o1 r1 q1 => ?_⟩
  cases r1 with
  | bl b => exact ⟨b, rfl, GOut.ret (a := (D.bl (!b))) (M := M1) q1 o1 (.bl _)⟩
  | _ => exact q1.elim
theorem de_ifExp {c a b : Expr} {fc : Xb} {f g : Xp} {pos : Pos} (hc : DT G X W c fc) (ha : DE G X W a f) (hb : DE G X W b g) : DE G X W (.IfExp c a b pos) (xIf fc f g) := by
  refine PE.of (pe_ifExp hc ha hb) fun σ H Q q => ?_
  obtain ⟨m, e, M, si, q⟩ := q
  refine ⟨m, e, M, si, GOut.bind q fun b M1 c H1 m1 s1 o1 r1 q1 => ?_⟩
  cases r1
  cases b with
  | true => exact ⟨m1, e, M1, si.later s1 o1, q1⟩
  | false => exact ⟨m1, e, M1, si.later s1 o1, q1⟩
theorem dw_and1 {a : Expr} {f : Xb} {pos : Pos} (h : DT G X W a f) : DW G X W (.BoolOp .And [a] pos) f := pw_and1 h
theorem dw_or1 {a : Expr} {f : Xb} {pos : Pos} (h : DT G X W a f) : DW G X W (.BoolOp .Or [a] pos) f := pw_or1 h
theorem dw_and {a b : Expr} {rest : List Expr} {f g : Xb} {pos : Pos} (ha : DT G X W a f) (hb : DW G X W (.BoolOp .And (b :: rest) pos) g) : DW G X W (.BoolOp .And (a :: b :: rest) pos) (bAnd f g) := by
  refine PW.of (pw_and ha hb) fun σ H Q q => ?_
  obtain ⟨m, e, M, si, q⟩ := q
  refine ⟨m, e, M, si, GOut.bind q fun b M1 c H1 m1 s1 o1 r1 q1 => ?_⟩
  cases r1
  cases b with
  | true => exact ⟨m1, e, M1, si.later s1 o1, q1⟩
  | false => exact GOut.ret (a := false) (M := M1) q1 o1 rfl
theorem dw_or {a b : Expr} {rest : List Expr} {f g : Xb} {pos : Pos} (ha : DT G X W a f) (hb : DW G X W (.BoolOp .Or (b :: rest) pos) g) : DW G X W (.BoolOp .Or (a :: b :: rest) pos) (bOr f g) := by
  refine PW.of (pw_or ha hb) fun σ H Q q => ?_
  obtain ⟨m, e, M, si, q⟩ := q
  refine ⟨m, e, M, si, GOut.bind q fun b M1 c H1 m1 s1 o1 r1 q1 => ?_⟩
  cases r1
  cases b with
  | true => exact GOut.ret (a := true) (M := M1) q1 o1 rfl
  | false => exact ⟨m1, e, M1, si.later s1 o1, q1⟩
theorem dt_w {e : Expr} {f : Xb} (h : DW G X W e f) : DT G X W e f := L2.PW.pt h
theorem dt_not {a : Expr} {f : Xb} {pos : Pos} (ha : DT G X W a f) : DT G X W (.UnaryOp .Not a pos) (bNot f) := by
  refine PT.of (pt_not ha) fun σ H Q q => ?_
  obtain ⟨m, e, M, si, q⟩ := q
  refine ⟨m, e, M, si, GOut.bind q fun b M1 c H1 m1 s1 o1 r1 q1 => ?_⟩
  cases r1
  exact GOut.ret q1 o1 rfl


theorem o2_add : Op2 G oAdd (fun x y H Q => (rI0 fun i j => .int (i + j)) x y H Q ∨ rCatA G.K x y H Q ∨ rCat x y H Q ∨ ∃ i j, x = .str i ∧ y = .str j ∧ i.length + j.length ≤ sizeLine ∧ Q (.str (i ++ j)) H) := by
  intro m H M x y dx dy Q E mo rx ry h
  cases rx with
  | int i =>
    cases ry with
    | int j => exact .inl ⟨i, j, rfl, rfl, GOut.ret (a := (D.int (i + j))) (M := M) h mo (.int _)⟩
    | _ => exact h.elim
  | str i =>
    cases ry with
    | str j =>
      unfold oAdd at h
      dsimp only at h
      split at h
      · rename_i hz
        exact .inr (.inr (.inr ⟨i, j, rfl, rfl, by rw [← szL]; exact hz, GOut.ret h mo (.str _)⟩))
      · exact h.elim
    | _ => exact h.elim
  | @tup a vs ds hs r =>
    cases ry with
    | @tup b ws es hs' r' =>
      unfold oAdd at h
      dsimp only at h
      split at h
      · rename_i hz
        refine .inr (.inl ⟨a, b, vs, ws, rfl, rfl, hs, hs', by rw [r.length, r'.length, ← szL]; exact hz, fun e => ?_, fun _ e => ?_, fun _ _ p hp => ?_⟩)
        · subst e
          cases r
          exact GOut.ret h mo (.tup hs' r')
        · subst e
          cases r'
          exact GOut.ret h mo (.tup hs (by rw [List.append_nil]; exact r))
        · exact h _ _ _ (Stp.fresh hp) (mo.fresh hp) (.tup SqT.new ((r.app r').car ((Stp.fresh hp).car mo)))
      · exact h.elim
    | _ => exact h.elim
  | @loc a n e =>
    cases ry with
    | @loc b k e' =>
      unfold oAdd at h
      dsimp only at h
      split at h
      · rename_i xs ys h1 h2
        obtain ⟨vs, a1, r1⟩ := mo.ob _ _ _ e h1
        obtain ⟨ws, a2, r2⟩ := mo.ob _ _ _ e' h2
        split at h
        · rename_i hz
          refine .inr (.inr (.inl ⟨a, b, vs, ws, rfl, rfl, a1, a2, by rw [r1.length, r2.length, ← szL]; exact hz, fun p hp => ?_⟩))
          exact h _ _ _ (Stp.alloc hp) (mo.alloc hp ⟨_, upd_same, (r1.app r2).car ((Stp.alloc hp).car mo)⟩) (Rep.new mo)
        · exact h.elim
      · exact h.elim
    | _ => exact h.elim
  | _ => cases ry <;> exact h.elim
theorem opR_add (hK : G.K = X.K) : OpR X (binaryOp .Add) (fun x y H Q => (rI0 fun i j => .int (i + j)) x y H Q ∨ rCatA G.K x y H Q ∨ rCat x y H Q ∨ ∃ i j, x = .str i ∧ y = .str j ∧ i.length + j.length ≤ sizeLine ∧ Q (.str (i ++ j)) H) := by
  rw [hK]
  exact op_add.or (op_catA.or (op_cat.or op_add_str))
theorem o2_int {op : D → D → Mem → Out D} {C : Int → Int → Prop} {g : Int → Int → Int} (h1 : ∀ i j M, op (.int i) (.int j) M = .stk ∨ (C i j ∧ op (.int i) (.int j) M = .ok (.int (g i j)) M))
    (h2 : ∀ x y M, (∀ i j, ¬ (x = .int i ∧ y = .int j)) → op x y M = .stk) : Op2 G op (rI C fun i j => .int (g i j)) := by
  intro m H M x y dx dy Q E mo rx ry h
  by_cases z : ∃ i j, dx = .int i ∧ dy = .int j
  · obtain ⟨i, j, rfl, rfl⟩ := z
    cases rx
    cases ry
    rcases h1 i j M with q | ⟨c, q⟩
    · rw [q] at h
      exact h.elim
    · rw [q] at h
      exact ⟨i, j, rfl, rfl, c, GOut.ret h mo (.int _)⟩
  · rw [h2 dx dy M fun i j q => z ⟨i, j, q.1, q.2⟩] at h
    exact h.elim
theorem o2_intB {op : D → D → Mem → Out D} {g : Int → Int → Bool} (h1 : ∀ i j M, op (.int i) (.int j) M = .ok (.bl (g i j)) M)
    (h2 : ∀ x y M, (∀ i j, ¬ (x = .int i ∧ y = .int j)) → op x y M = .stk) : Op2 G op (rI0 fun i j => .bl (g i j)) := by
  intro m H M x y dx dy Q E mo rx ry h
  by_cases z : ∃ i j, dx = .int i ∧ dy = .int j
  · obtain ⟨i, j, rfl, rfl⟩ := z
    cases rx
    cases ry
    rw [h1 i j M] at h
    exact ⟨i, j, rfl, rfl, GOut.ret h mo (.bl _)⟩
  · rw [h2 dx dy M fun i j q => z ⟨i, j, q.1, q.2⟩] at h
    exact h.elim
theorem stk_of {op : D → D → Mem → Out D} (h : ∀ x y M, (∃ i j, x = .int i ∧ y = .int j) ∨ op x y M = .stk) : ∀ x y M, (∀ i j, ¬ (x = .int i ∧ y = .int j)) → op x y M = .stk := fun x y M n => (h x y M).elim (fun ⟨i, j, e⟩ => (n i j e).elim) id
theorem o2_sub : Op2 G oSub (rI (fun _ _ => True) fun i j => .int (i - j)) := o2_int (g := fun i j => i - j) (fun i j M => .inr ⟨trivial, rfl⟩) (stk_of fun x y M => by cases x <;> cases y <;> simp [oSub])
theorem opR_sub : OpR X (binaryOp .Sub) (rI (fun _ _ => True) fun i j => .int (i - j)) := fun pins s σ H x y v u Q I rx ry ⟨i, j, e1, e2, _, q⟩ => op_sub pins s σ H x y v u Q I rx ry ⟨i, j, e1, e2, q⟩
theorem o2_div : Op2 G oDiv (rI (fun _ j => okDiv j) fun i j => .int (i / j)) := o2_int (g := fun i j => i / j) (fun i j M => by
  by_cases h : okDiv j
  · exact .inr ⟨h, by simp [oDiv, h]⟩
  · exact .inl (by simp [oDiv, h])) (stk_of fun x y M => by cases x <;> cases y <;> simp [oDiv])
theorem opR_div : OpR X (binaryOp .FloorDiv) (rI (fun _ j => okDiv j) fun i j => .int (i / j)) := op_fdivW
theorem o2_mod : Op2 G oMod (rI (fun _ j => 0 < j) fun i j => .int (i % j)) := o2_int (g := fun i j => i % j) (fun i j M => by
  by_cases h : 0 < j
  · exact .inr ⟨h, by simp [oMod, h]⟩
  · exact .inl (by simp [oMod, h])) (stk_of fun x y M => by cases x <;> cases y <;> simp [oMod])
theorem o2_pow : Op2 G oPow (rI CPow fun i j => .int (i ^ j.toNat)) := o2_int (g := fun i j => i ^ j.toNat) (fun i j M => by
  by_cases h : 0 ≤ j ∧ j ≤ 1000000 ∧ i.natAbs < 2 ^ 64
  · exact .inr ⟨h, by simp only [oPow, if_pos h]⟩
  · exact .inl (by simp only [oPow, if_neg h])) (stk_of fun x y M => by cases x <;> cases y <;> simp [oPow])
theorem o2_shl : Op2 G oShl (rI CPow fun i j => .int (i * 2 ^ j.toNat)) := o2_int (g := fun i j => i * 2 ^ j.toNat) (fun i j M => by
  by_cases h : 0 ≤ j ∧ j ≤ 1000000 ∧ i.natAbs < 2 ^ 64
  · exact .inr ⟨h, by simp only [oShl, if_pos h]⟩
  · exact .inl (by simp only [oShl, if_neg h])) (stk_of fun x y M => by cases x <;> cases y <;> simp [oShl])
theorem o2_shr : Op2 G oShr (rI (fun _ j => 0 ≤ j) fun i j => .int (i / 2 ^ j.toNat)) := o2_int (g := fun i j => i / 2 ^ j.toNat) (fun i j M => by
  by_cases h : 0 ≤ j
  · exact .inr ⟨h, by simp only [oShr, if_pos h]⟩
  · exact .inl (by simp only [oShr, if_neg h])) (stk_of fun x y M => by cases x <;> cases y <;> simp [oShr])
theorem o2_andB : Op2 G oAndB (rI (fun _ _ => True) fun i j => .int (Builtin.bitAnd i j)) := o2_int (g := Builtin.bitAnd) (fun i j M => .inr ⟨trivial, rfl⟩) (stk_of fun x y M => by cases x <;> cases y <;> simp [oAndB])
theorem opR_andB : OpR X (binaryOp .BitAnd) (rI (fun _ _ => True) fun i j => .int (Builtin.bitAnd i j)) := fun pins s σ H x y v u Q I rx ry ⟨i, j, e1, e2, _, q⟩ => op_and pins s σ H x y v u Q I rx ry ⟨i, j, e1, e2, q⟩
theorem o2_xorB : Op2 G oXorB (rI (fun _ _ => True) fun i j => .int (Builtin.bitXor i j)) := o2_int (g := Builtin.bitXor) (fun i j M => .inr ⟨trivial, rfl⟩) (stk_of fun x y M => by cases x <;> cases y <;> simp [oXorB])
theorem opR_xorB : OpR X (binaryOp .BitXor) (rI (fun _ _ => True) fun i j => .int (Builtin.bitXor i j)) := fun pins s σ H x y v u Q I rx ry ⟨i, j, e1, e2, _, q⟩ => op_xor pins s σ H x y v u Q I rx ry ⟨i, j, e1, e2, q⟩
theorem o2_lt : Op2 G oLt (rI0 fun i j => .bl (decide (i < j))) := o2_intB (fun _ _ _ => rfl) (stk_of fun x y M => by cases x <;> cases y <;> simp [oLt])
theorem o2_le : Op2 G oLe (rI0 fun i j => .bl (decide (i ≤ j))) := o2_intB (fun _ _ _ => rfl) (stk_of fun x y M => by cases x <;> cases y <;> simp [oLe])
theorem o2_gt : Op2 G oGt (rI0 fun i j => .bl (decide (j < i))) := o2_intB (fun _ _ _ => rfl) (stk_of fun x y M => by cases x <;> cases y <;> simp [oGt])
theorem o2_ge : Op2 G oGe (rI0 fun i j => .bl (decide (j ≤ i))) := o2_intB (fun _ _ _ => rfl) (stk_of fun x y M => by cases x <;> cases y <;> simp [oGe])
theorem isNon_eq {K : PySem.W.Frag} {H : Hp} {m : List Addr} {x : V} {d : D} (r : Rep K H m x d) : isNon d = decide (x = .non) := by cases r <;> rfl
theorem o2_isN : Op2 G oIsN (fun x y H Q => y = .non ∧ Q (.bl (decide (x = .non))) H) := by
  intro m H M x y dx dy Q E mo rx ry h
  cases ry with
  | non =>
    refine ⟨rfl, ?_⟩
    rw [← isNon_eq rx]
    exact GOut.ret (a := D.bl (isNon dx)) (M := M) h mo (.bl _)
  | _ => exact h.elim
theorem o2_notN : Op2 G oNotN (fun x y H Q => y = .non ∧ Q (.bl (!decide (x = .non))) H) := by
  intro m H M x y dx dy Q E mo rx ry h
  cases ry with
  | non =>
    refine ⟨rfl, ?_⟩
    rw [← isNon_eq rx]
    exact GOut.ret (a := D.bl (!isNon dx)) (M := M) h mo (.bl _)
  | _ => exact h.elim
theorem o2_mul : Op2 G oMul (fun x y H Q => (rI CMul fun i j => .int (i * j)) x y H Q ∨ (rI CMulW fun i j => .int (i * j)) x y H Q ∨ rRepT G.K x y H Q ∨ rRep x y H Q) := by
  intro m H M x y dx dy Q E mo rx ry h
  cases rx with
  | int i =>
    cases ry with
    | int j =>
      unfold oMul at h
      dsimp only at h
      split at h
      · rename_i hz
        have q := GOut.ret h mo (.int (i * j))
        rcases hz with hz | hz | hz
        · exact .inl ⟨i, j, rfl, rfl, .inl hz, q⟩
        · exact .inl ⟨i, j, rfl, rfl, .inr hz, q⟩
        · exact .inr (.inl ⟨i, j, rfl, rfl, hz, q⟩)
      · exact h.elim
    | _ => exact h.elim
  | @tup a vs ds hs r =>
    cases ry with
    | int k =>
      unfold oMul at h
      dsimp only at h
      split at h
      · rename_i hz
        refine .inr (.inr (.inl ⟨a, k, vs, rfl, rfl, hs, ?_, hz.2.1, hz.2.2.1, by rw [r.length]; exact hz.2.2.2, fun p hp => ?_⟩))
        · intro e
          subst e
          cases r
          exact hz.1 rfl
        · exact h _ _ _ (Stp.fresh hp) (mo.fresh hp) (.tup SqT.new ((r.rep k.toNat).car ((Stp.fresh hp).car mo)))
      · exact h.elim
    | _ => exact h.elim
  | @loc a n e =>
    cases ry with
    | int k =>
      unfold oMul at h
      dsimp only at h
      split at h
      · rename_i xs h1
        obtain ⟨vs, a1, r1⟩ := mo.ob _ _ _ e h1
        split at h
        · rename_i hz
          refine .inr (.inr (.inr ⟨a, k, vs, rfl, rfl, a1, hz.1, hz.2.1, by rw [r1.length, ← szL]; exact hz.2.2, fun p hp => ?_⟩))
          exact h _ _ _ (Stp.alloc hp) (mo.alloc hp ⟨_, upd_same, (r1.rep k.toNat).car ((Stp.alloc hp).car mo)⟩) (Rep.new mo)
        · exact h.elim
      · exact h.elim
    | _ => exact h.elim
  | _ => cases ry <;> exact h.elim
theorem opR_mul (hK : G.K = X.K) : OpR X (binaryOp .Mult) (fun x y H Q => (rI CMul fun i j => .int (i * j)) x y H Q ∨ (rI CMulW fun i j => .int (i * j)) x y H Q ∨ rRepT G.K x y H Q ∨ rRep x y H Q) := by
  rw [hK]
  exact op_mul.or (op_mulW.or (op_repT.or op_rep))
theorem de_neg {a : Expr} {f : Xp} {pos : Pos} (ha : DE G X W a f) : DE G X W (.UnaryOp .USub a pos) (x1 oNeg f) := by
  refine PE.of (pe_un un_neg ha) fun σ H Q q => ?_
  obtain ⟨m, e, M, si, q⟩ := q
  refine ⟨m, e, M, si, GOut.bind q fun dx M1 x H1 m1 s1 o1 r1 q1 => ?_⟩
  cases r1 with
  | int i => exact ⟨i, rfl, GOut.ret (a := (D.int (-i))) (M := M1) q1 o1 (.int _)⟩
  | _ => exact q1.elim


mutual
theorem dp_of {M : Mem} {H : Hp} {m : List Addr} (mo : MemOk G.K H m M) : ∀ (k : Nat) (d : D) (v : V) (p : PyData), Rep G.K H m v d → toPy M k d = some p → Dp G.K H v p
  | 0, _, _, _, _, e => by simp [toPy] at e
  | k + 1, d, v, p, r, e => by
    cases r with
    | non => simp [toPy] at e; subst e; exact .non
    | bl b => simp [toPy] at e; subst e; exact .bl b
    | int i => simp [toPy] at e; subst e; exact .int i
    | str s => simp [toPy] at e; subst e; exact .str s
    | @tup a vs ds hs rs =>
      simp only [toPy, Option.map_eq_some_iff] at e
      obtain ⟨ps, e, rfl⟩ := e
      exact .tup hs (dpAll_of mo k ds vs ps rs e)
    | @fz a vs ds hs rs => simp [toPy] at e
    | @loc a n hn =>
      simp only [toPy] at e
      split at e
      · rename_i xs h1
        obtain ⟨vs, a1, r1⟩ := mo.ob _ _ _ hn h1
        simp only [Option.map_eq_some_iff] at e
        obtain ⟨ps, e, rfl⟩ := e
        exact .lst (.of a1) (dpAll_of mo k xs vs ps r1 e)
      · cases e
theorem dpAll_of {M : Mem} {H : Hp} {m : List Addr} (mo : MemOk G.K H m M) : ∀ (k : Nat) (ds : List D) (vs : List V) (ps : List PyData), Reps G.K H m vs ds → ds.mapM (toPy M k) = some ps → DpAll G.K H vs ps
  | k, [], _, _, r, e => by
    cases r
    simp at e
    subst e
    exact .nil
  | k, d :: ds, _, _, r, e => by
    cases r with
    | cons r1 r2 =>
      simp only [List.mapM_cons, Option.bind_eq_bind, Option.bind_eq_some_iff, Option.pure_def, Option.some.injEq] at e
      obtain ⟨p, h1, ps, h2, rfl⟩ := e
      exact .cons (dp_of mo k d _ p r1 h1) (dpAll_of mo k ds _ ps r2 h2)
end
theorem o2_eq : Op2 G oEq (fun x y H Q => rEq x y H Q ∨ rEqD G.K x y H Q) := by
  intro m H M x y dx dy Q E mo rx ry h
  unfold oEq at h
  split at h
  · rename_i i j
    cases rx
    cases ry
    exact .inl ⟨rfl, GOut.ret h mo (by rw [show decide (V.int i = V.int j) = decide (i = j) by simp]; exact .bl _)⟩
  · rename_i i j
    cases rx
    cases ry
    exact .inl ⟨rfl, GOut.ret h mo (by rw [show decide (V.str i = V.str j) = decide (i = j) by simp]; exact .bl _)⟩
  · split at h
    · rename_i p q h1 h2
      split at h
      · rename_i hz
        exact .inr ⟨p, q, dp_of mo _ _ _ _ rx h1, dp_of mo _ _ _ _ ry h2, hz.1, hz.2, GOut.ret h mo (.bl _)⟩
      · exact h.elim
    · exact h.elim
theorem o2_ne : Op2 G oNe (fun x y H Q => rNe x y H Q ∨ rNeD G.K x y H Q) := by
  intro m H M x y dx dy Q E mo rx ry h
  unfold oNe at h
  split at h
  · rename_i i j
    cases rx
    cases ry
    exact .inl ⟨rfl, GOut.ret h mo (by rw [show decide (V.int i = V.int j) = decide (i = j) by simp]; exact .bl _)⟩
  · rename_i i j
    cases rx
    cases ry
    exact .inl ⟨rfl, GOut.ret h mo (by rw [show decide (V.str i = V.str j) = decide (i = j) by simp]; exact .bl _)⟩
  · split at h
    · rename_i p q h1 h2
      split at h
      · rename_i hz
        exact .inr ⟨p, q, dp_of mo _ _ _ _ rx h1, dp_of mo _ _ _ _ ry h2, hz.1, hz.2, GOut.ret h mo (.bl _)⟩
      · exact h.elim
    · exact h.elim
theorem opR_eq (hK : G.K = X.K) {k : Nat} (hr : Room k X.A) : OpR X (compareOp .Eq) (fun x y H Q => rEq x y H Q ∨ rEqD G.K x y H Q) := by
  rw [hK]
  exact op_eq.or (op_eqD hr.units)
theorem opR_ne (hK : G.K = X.K) {k : Nat} (hr : Room k X.A) : OpR X (compareOp .NotEq) (fun x y H Q => rNe x y H Q ∨ rNeD G.K x y H Q) := by
  rw [hK]
  exact op_ne.or (op_neD hr.units)
end
end PV

set_option Elab.async false
set_option linter.all false
set_option maxRecDepth 100000
set_option maxHeartbeats 2000000

namespace PV
open PySem PySem.Spec PyProof.Rows L2
section
variable {G : Gd} {X : Cx} {W : WX}

theorem at_of {K : PySem.W.Frag} {H : Hp} {m : List Addr} {vs : List V} {ds : List D} (r : Reps K H m vs ds) {i : Int} {d : D} (e : listAt ds i = some d) : ∃ v, atI vs i = some v ∧ Rep K H m v d := by
  unfold listAt at e
  cases q : ixAt ds.length i with
  | none => rw [q] at e; cases e
  | some j =>
    rw [q] at e
    obtain ⟨v, h1, h2⟩ := r.get j d e
    refine ⟨v, ?_, h2⟩
    unfold atI
    rw [r.length]
    have q' : ixN ds.length i = some j := q
    rw [q']
    exact h1
theorem o2_ix : Op2 G oIx (rIx G.K) := by
  intro m H M x y dx dy Q E mo rx ry h
  cases rx with
  | @tup a vs ds hs r =>
    cases ry with
    | int i =>
      unfold oIx at h
      dsimp only at h
      split at h
      · rename_i d e
        obtain ⟨v, h1, h2⟩ := at_of r e
        exact .inr (.inl ⟨a, vs, i, v, rfl, rfl, hs, h1, GOut.ret h mo h2⟩)
      · exact h.elim
    | _ => exact h.elim
  | @fz a vs ds hs r =>
    cases ry with
    | int i =>
      unfold oIx at h
      dsimp only at h
      split at h
      · rename_i d e
        obtain ⟨v, h1, h2⟩ := at_of r e
        exact .inl ⟨a, vs, i, v, rfl, rfl, hs.sq, h1, GOut.ret h mo h2⟩
      · exact h.elim
    | _ => exact h.elim
  | @loc a n hn =>
    cases ry with
    | int i =>
      unfold oIx at h
      dsimp only at h
      split at h
      · rename_i xs e1
        obtain ⟨vs, a1, r⟩ := mo.ob _ _ _ hn e1
        split at h
        · rename_i d e
          obtain ⟨v, h1, h2⟩ := at_of r e
          exact .inl ⟨a, vs, i, v, rfl, rfl, .of a1, h1, GOut.ret h mo h2⟩
        · exact h.elim
      · exact h.elim
    | _ => exact h.elim
  | _ => cases ry <;> exact h.elim
theorem de_ix {a b : Expr} {f g : Xp} {pos : Pos} (hK : G.K = X.K) (ha : DE G X W a f) (hb : DE G X W b g) (hs : PlainIx b := by exact fun _ _ => rfl) : DE G X W (.Subscript a b pos) (x2 oIx f g) :=
  PE.of (pe_ix (r := rIx X.K) ix_seq ha hb hs) (bin_of (by rw [← hK]; exact o2_ix))
theorem key_of' {K : PySem.W.Frag} {H : Hp} {m : List Addr} {v : V} {d : D} {k : Sum Int Str} (r : Rep K H m v d) (e : keyOf d = some k) : v = kV k := by
  cases r with
  | int i => cases e; rfl
  | str s => cases e; rfl
  | _ => cases e
theorem kv_of {K : PySem.W.Frag} {H : Hp} {m : List Addr} {k : Sum Int Str} : ∀ {kws : List (L2.Key × V)} {kvs : List (Sum Int Str × D)}, kws.map (·.1) = kvs.map (·.1) → Reps K H m (kws.map (·.2)) (kvs.map (·.2)) →
    (∀ d, kvAt kvs k = some d → ∃ v, valV kws k = some v ∧ Rep K H m v d) ∧ (kvAt kvs k = none → valV kws k = none)
  | [], [], _, _ => ⟨fun d e => by simp [kvAt] at e, fun _ => rfl⟩
  | [], _ :: _, e, _ => by simp at e
  | _ :: _, [], e, _ => by simp at e
  | (a, v) :: r, (b, d) :: t, e, q => by
    simp only [List.map_cons, List.cons.injEq] at e
    obtain ⟨rfl, e⟩ := e
    simp only [List.map_cons] at q
    cases q with
    | cons q1 q2 =>
      have ih := kv_of (k := k) e q2
      by_cases hk : a = k
      · subst hk
        refine ⟨fun d' z => ⟨v, by simp [valV], ?_⟩, fun z => ?_⟩
        · simp [kvAt] at z
          subst z
          exact q1
        · simp [kvAt] at z
      · refine ⟨fun d' z => ?_, fun z => ?_⟩
        · have z' : kvAt t k = some d' := by simpa [kvAt, hk] using z
          obtain ⟨w, h1, h2⟩ := ih.1 d' z'
          exact ⟨w, by simpa [valV, hk] using h1, h2⟩
        · have z' : kvAt t k = none := by simpa [kvAt, hk] using z
          simpa [valV, hk] using ih.2 z'
theorem de_ixD {a b : Expr} {f g : Xp} {pos : Pos} {k : Nat} (hr : Room k X.A) (ha : DE G X W a f) (hb : DE G X W b g) (hs : NoSl b := by exact fun _ _ => rfl) : DE G X W (.Subscript a b pos) (x2 oIxD f g) := by
  refine PE.of (pe_dget (hu_of hr) ha hb hs) fun σ H Q h => ?_
  obtain ⟨m, e, M, si, q⟩ := h
  refine ⟨m, e, M, si, GOut.bind q fun dx M1 x H1 m1 s1 o1 r1 q1 => ⟨m1, e, M1, si.later s1 o1, GOut.bind q1 fun dy M2 y H2 m2 s2 o2 r2 q2 => ?_⟩⟩
  have r1' := r1.car (s2.car o1)
  cases r1' with
  | @loc a n hn =>
    unfold oIxD at q2
    dsimp only at q2
    split at q2
    · rename_i kvs k' e1 e2
      obtain ⟨kws, a1, a2, a3⟩ := o2.ob _ _ _ hn e1
      split at q2
      · rename_i d e3
        obtain ⟨v, h1, h2⟩ := (kv_of a2 a3).1 d e3
        have ey := key_of' r2 e2
        subst ey
        refine ⟨a, v, rfl, ?_, GOut.ret q2 o2 h2⟩
        rw [← h1]
        exact DGet.k a1
      · exact q2.elim
    · rename_i kvs od kws k' e1 e2
      obtain ⟨a1, a2, a3⟩ := o2.ob _ _ _ hn e1
      split at q2
      · rename_i d e3
        obtain ⟨v, h1, h2⟩ := (kv_of a2 a3).1 d e3
        have ey := key_of' r2 e2
        subst ey
        refine ⟨a, v, rfl, ?_, GOut.ret q2 o2 h2⟩
        rw [← h1]
        exact .inl ⟨kws, k', .inr ⟨od, a1⟩, rfl, rfl⟩
      · exact q2.elim
    · exact q2.elim
  | _ => exact q2.elim


theorem do_none : DO G X W none oNone := PO.of po_none fun σ H Q q => by
  obtain ⟨m, r, M, si, q⟩ := q
  exact GOut.ret (a := none) (M := M) q si.2 rfl
theorem do_some {e : Expr} {f : Xp} (h : DE G X W e f) : DO G X W (some e) (oSome f) := PO.of (po_some h) fun σ H Q q => by
  obtain ⟨m, r, M, si, q⟩ := q
  refine ⟨m, r, M, si, GOut.bind q fun dx M1 x H1 m1 s1 o1 r1 q1 => ?_⟩
  cases r1 with
  | int i => exact ⟨i, rfl, GOut.ret (a := some i) (M := M1) q1 o1 rfl⟩
  | _ => exact q1.elim
theorem cut_len {K : PySem.W.Frag} {H : Hp} {m : List Addr} {vs : List V} {ds : List D} (r : Reps K H m vs ds) (lo hi : Option Int) : Reps K H m (cutV vs lo hi) (cutD ds lo hi) := by
  unfold cutV cutD
  rw [r.length]
  exact (r.drop _).take _
theorem cut_whole (ds : List D) (lo hi : Option Int) (h : HT.sIx ds.length 0 lo = 0 ∧ HT.sIx ds.length ds.length hi = ds.length) : cutD ds lo hi = ds := by
  have h1 : clip ds.length 0 lo = 0 := h.1
  have h2 : clip ds.length ds.length hi = ds.length := h.2
  unfold cutD
  rw [h1, h2, List.drop_zero, Nat.sub_zero, List.take_length]
theorem de_slice {e : Expr} {lo hi : Option Expr} {f : Xp} {l h : Xo} {p2 pos : Pos} (hK : G.K = X.K) (he : DE G X W e f) (hl : DO G X W lo l) (hh : DO G X W hi h) : DE G X W (.Subscript e (.Slice lo hi none p2) pos) (xSlice f l h) := by
  refine PE.of (pe_slice (r := fun x lo hi H Q => rSlA X.K x lo hi H Q ∨ rSlL X.K x lo hi H Q) (SlR.or sl_tupA sl_list) he hl hh) fun σ H Q q => ?_
  rw [← hK]
  obtain ⟨m, r, M, si, q⟩ := q
  refine ⟨m, r, M, si, GOut.bind q fun dx M1 x H1 m1 s1 o1 r1 q1 => ⟨m1, r, M1, si.later s1 o1, GOut.bind q1 fun i M2 i' H2 m2 s2 o2 e2 q2 => ⟨m2, r, M2, (si.later s1 o1).later s2 o2, GOut.bind q2 fun j M3 j' H3 m3 s3 o3 e3 q3 => ?_⟩⟩⟩
  have e2' : i' = i := e2
  have e3' : j' = j := e3
  subst e2' e3'
  have r1' := (r1.car (s2.car o1)).car (s3.car o2)
  cases r1' with
  | @tup a vs ds hs r =>
    refine .inl ⟨a, vs, rfl, hs, fun w => ?_, fun w p hp => ?_⟩
    · rw [r.length] at w
      refine GOut.ret (a := D.tup (cutD ds i' j')) (M := M3) q3 o3 ?_
      rw [cut_whole ds i' j' w]
      exact .tup hs r
    · exact q3 _ _ _ (Stp.fresh hp) (o3.fresh hp) (.tup SqT.new ((cut_len r i' j').car ((Stp.fresh hp).car o3)))
  | @loc a n hn =>
    unfold sliced at q3
    dsimp only at q3
    split at q3
    · rename_i xs e1
      obtain ⟨vs, a1, r⟩ := o3.ob _ _ _ hn e1
      refine .inr ⟨a, vs, rfl, .of a1, fun p hp => ?_⟩
      exact q3 _ _ _ (Stp.alloc hp) (o3.alloc hp ⟨_, upd_same, (cut_len r i' j').car ((Stp.alloc hp).car o3)⟩) (Rep.new o3)
    · exact q3.elim
  | @fz a vs ds hs r =>
    exact .inr ⟨a, vs, rfl, hs.sq, fun p hp => q3 _ _ _ (Stp.alloc hp) (o3.alloc hp ⟨_, upd_same, (cut_len r i' j').car ((Stp.alloc hp).car o3)⟩) (Rep.new o3)⟩
  | _ => exact q3.elim
theorem de_rev {e : Expr} {f : Xp} {k : Nat} {p1 p2 p3 pos : Pos} (hK : G.K = X.K) (he : DE G X W e f) : DE G X W (.Subscript e (.Slice none none (some (.UnaryOp .USub (.Constant (.int 1) k p1) p2)) p3) pos) (x1 oRev f) := by
  refine PE.of (pe_revL he) fun σ H Q q => ?_
  rw [← hK]
  obtain ⟨m, r, M, si, q⟩ := q
  refine ⟨m, r, M, si, GOut.bind q fun dx M1 x H1 m1 s1 o1 r1 q1 => ?_⟩
  cases r1 with
  | @loc a n hn =>
    unfold oRev at q1
    dsimp only at q1
    split at q1
    · rename_i xs e1
      obtain ⟨vs, a1, r⟩ := o1.ob _ _ _ hn e1
      refine ⟨a, vs, rfl, .of a1, fun p hp => ?_⟩
      exact q1 _ _ _ (Stp.alloc hp) (o1.alloc hp ⟨_, upd_same, r.reverse.car ((Stp.alloc hp).car o1)⟩) (Rep.new o1)
    · exact q1.elim
  | _ => exact q1.elim


def CallG (G : Gd) (F : Fn) (r : List V → Hp → VK → Prop) : Prop := ∀ (m : List Addr) (H : Hp) (M : Mem) (vs : List V) (ds : List D) (Q : VK) (E : XK), MemOk G.K H m M → Reps G.K H m vs ds → GOut G (RD G) m H (F ds M) Q E → r vs H Q
theorem call_of {F : Fn} {r : List V → Hp → VK → Prop} (hr : CallG G F r) {t : Xa} (σ : Sl) (H : Hp) (Q : VK) (q : TD G W (xCall F t) σ H Q) : tCB r (TAr G W t) σ H Q := by
  obtain ⟨m, e, M, si, q⟩ := q
  exact ⟨m, e, M, si, GOut.bind q fun ds M1 vs H1 m1 s1 o1 r1 q1 => hr m1 H1 M1 vs ds Q _ o1 r1 q1⟩
theorem de_callB {id : String} {F : Fn} {r : List V → Hp → VK → Prop} {x : Str} {p pos : Pos} {e : Expr} {es : List Expr} {t : Xa} (hc : CallR X (.builtin id) r) (hr : CallG G F r) (hg : Gl X x) (hm : X.mg x = none) (hv : bootBuiltins x = some (.builtin id)) (ha : DA G X W (e :: es) t)
    (hn : x ≠ "__name__" := by decide) (hdb : (x == ("__debug__" : Str)) = false := by decide)
    (he : starEach (e :: es) X.env = (false, eval e X.env) :: starEach es X.env := by rfl) (hpl : (backTo pos (starEach es X.env)).any (·.1) = false := by rfl) : DE G X W (.Call (.Name x p) (e :: es) [] pos) (xCall F t) :=
  PE.of (pe_callB hc hg hm hv ha hn hdb he hpl) (call_of hr)
theorem de_callTy {T : String} {F : Fn} {r : List V → Hp → VK → Prop} {x : Str} {p pos : Pos} {e : Expr} {es : List Expr} {t : Xa} (hc : CallR X (.type T) r) (hr : CallG G F r) (hg : Gl X x) (hm : X.mg x = none) (hv : bootBuiltins x = some (.type T)) (ha : DA G X W (e :: es) t)
    (hn : x ≠ "__name__" := by decide) (hdb : (x == ("__debug__" : Str)) = false := by decide)
    (he : starEach (e :: es) X.env = (false, eval e X.env) :: starEach es X.env := by rfl) (hpl : (backTo pos (starEach es X.env)).any (·.1) = false := by rfl) : DE G X W (.Call (.Name x p) (e :: es) [] pos) (xCall F t) :=
  PE.of (pe_callTy hc hg hm hv ha hn hdb he hpl) (call_of hr)
theorem g_int : CallG G fInt (fun xs H Q => (∃ i, xs = [.int i] ∧ Q (.int i) H) ∨ ∃ k, xs = [.bl k] ∧ Q (.int (if k then 1 else 0)) H) := by
  intro m H M vs ds Q E mo r h
  unfold fInt at h
  split at h
  · obtain ⟨v, rfl, r1⟩ := r.one
    cases r1
    exact .inl ⟨_, rfl, GOut.ret h mo (.int _)⟩
  · obtain ⟨v, rfl, r1⟩ := r.one
    cases r1
    exact .inr ⟨_, rfl, GOut.ret h mo (.int _)⟩
  · exact h.elim
theorem g_abs : CallG G fAbs (fun xs H Q => ∃ i, xs = [.int i] ∧ Q (.int (if i < 0 then -i else i)) H) := by
  intro m H M vs ds Q E mo r h
  unfold fAbs at h
  split at h
  · obtain ⟨v, rfl, r1⟩ := r.one
    cases r1
    exact ⟨_, rfl, GOut.ret h mo (.int _)⟩
  · exact h.elim
theorem g_min2 : CallG G fMin2 (fun xs H Q => ∃ i j, xs = [.int i, .int j] ∧ Q (.int (if j < i then j else i)) H) := by
  intro m H M vs ds Q E mo r h
  unfold fMin2 at h
  split at h
  · obtain ⟨v, w, rfl, r1, r2⟩ := r.two
    cases r1
    cases r2
    exact ⟨_, _, rfl, GOut.ret h mo (.int _)⟩
  · exact h.elim
theorem g_max2 : CallG G fMax2 (fun xs H Q => ∃ i j, xs = [.int i, .int j] ∧ Q (.int (if j > i then j else i)) H) := by
  intro m H M vs ds Q E mo r h
  unfold fMax2 at h
  split at h
  · obtain ⟨v, w, rfl, r1, r2⟩ := r.two
    cases r1
    cases r2
    exact ⟨_, _, rfl, GOut.ret h mo (.int _)⟩
  · exact h.elim
def rLen (K : PySem.W.Frag) : List V → Hp → VK → Prop := fun xs H Q => (∃ p ys, xs = [.ref p] ∧ (SqL K H p ys ∨ SqT K H p ys) ∧ Q (.int ys.length) H) ∨ ∃ p kvs, xs = [.ref p] ∧ H p = some (.dK kvs) ∧ Q (.int kvs.length) H
theorem cr_len : CallR X (.builtin "len") (rLen X.K) := by
  refine call_len_seq.or ?_
  intro pins s σ H xs us Q I r h
  obtain ⟨p, kvs, rfl, e, q⟩ := h
  obtain ⟨u, rfl, r1⟩ := vals1 r
  cases r1
  exact d_len I (.of e) fun t s' I' => ⟨.int kvs.length, H, I', ⟨t, rfl⟩, q⟩
theorem g_len : CallG G fLen (rLen G.K) := by
  intro m H M vs ds Q E mo r h
  unfold fLen at h
  split at h
  · obtain ⟨v, rfl, r1⟩ := r.one
    cases r1 with
    | tup hs r2 =>
      refine .inl ⟨_, _, rfl, .inr hs, ?_⟩
      rw [r2.length]
      exact GOut.ret h mo (.int _)
  · obtain ⟨v, rfl, r1⟩ := r.one
    cases r1 with
    | fz hs r2 =>
      refine .inl ⟨_, _, rfl, .inl hs.sq, ?_⟩
      rw [r2.length]
      exact GOut.ret h mo (.int _)
  · obtain ⟨v, rfl, r1⟩ := r.one
    cases r1 with
    | loc hn =>
      split at h
      · rename_i xs e1
        obtain ⟨vs, a1, r2⟩ := mo.ob _ _ _ hn e1
        refine .inl ⟨_, _, rfl, .inl (.of a1), ?_⟩
        rw [r2.length]
        exact GOut.ret h mo (.int _)
      · rename_i kvs e1
        obtain ⟨kws, a1, a2, a3⟩ := mo.ob _ _ _ hn e1
        refine .inr ⟨_, _, rfl, a1, ?_⟩
        have e : kws.length = kvs.length := by simpa using congrArg List.length a2
        rw [e]
        exact GOut.ret h mo (.int _)
      · exact h.elim
  · exact h.elim
theorem g_tuple : CallG G fTuple (fun xs H Q => ∃ p ys, xs = [.ref p] ∧ ((SqL G.K H p ys ∧ ∀ l, H l = none → Q (.ref l) (upd H l (.tup ys))) ∨ (SqT G.K H p ys ∧ Q (.ref p) H))) := by
  intro m H M vs ds Q E mo r h
  unfold fTuple at h
  split at h
  · obtain ⟨v, rfl, r1⟩ := r.one
    cases r1 with
    | tup hs r2 => exact ⟨_, _, rfl, .inr ⟨hs, GOut.ret h mo (.tup hs r2)⟩⟩
  · obtain ⟨v, rfl, r1⟩ := r.one
    cases r1 with
    | fz hs r2 => exact ⟨_, _, rfl, .inl ⟨hs.sq, fun p hp => h _ _ _ (Stp.fresh hp) (mo.fresh hp) (.tup SqT.new (r2.car ((Stp.fresh hp).car mo)))⟩⟩
  · obtain ⟨v, rfl, r1⟩ := r.one
    cases r1 with
    | loc hn =>
      split at h
      · rename_i xs e1
        obtain ⟨vs, a1, r2⟩ := mo.ob _ _ _ hn e1
        refine ⟨_, _, rfl, .inl ⟨.of a1, fun p hp => ?_⟩⟩
        exact h _ _ _ (Stp.fresh hp) (mo.fresh hp) (.tup SqT.new (r2.car ((Stp.fresh hp).car mo)))
      · exact h.elim
  · exact h.elim
theorem g_list : CallG G fList (fun xs H Q => ∃ p ys, xs = [.ref p] ∧ (SqL G.K H p ys ∨ SqT G.K H p ys) ∧ ∀ l, H l = none → Q (.ref l) (upd H l (.lst ys))) := by
  intro m H M vs ds Q E mo r h
  unfold fList at h
  split at h
  · obtain ⟨v, rfl, r1⟩ := r.one
    cases r1 with
    | tup hs r2 => exact ⟨_, _, rfl, .inr hs, fun p hp => h _ _ _ (Stp.alloc hp) (mo.alloc hp ⟨_, upd_same, r2.car ((Stp.alloc hp).car mo)⟩) (Rep.new mo)⟩
  · obtain ⟨v, rfl, r1⟩ := r.one
    cases r1 with
    | fz hs r2 => exact ⟨_, _, rfl, .inl hs.sq, fun p hp => h _ _ _ (Stp.alloc hp) (mo.alloc hp ⟨_, upd_same, r2.car ((Stp.alloc hp).car mo)⟩) (Rep.new mo)⟩
  · obtain ⟨v, rfl, r1⟩ := r.one
    cases r1 with
    | loc hn =>
      split at h
      · rename_i xs e1
        obtain ⟨vs, a1, r2⟩ := mo.ob _ _ _ hn e1
        exact ⟨_, _, rfl, .inl (.of a1), fun p hp => h _ _ _ (Stp.alloc hp) (mo.alloc hp ⟨_, upd_same, r2.car ((Stp.alloc hp).car mo)⟩) (Rep.new mo)⟩
      · exact h.elim
  · exact h.elim

def rRepr (K : PySem.W.Frag) : List V → Hp → VK → Prop := fun xs H Q => ∃ x p, xs = [x] ∧ Dp K H x p ∧ p.showable = true ∧ p.hasDict = false ∧ p.depth ≤ 64 ∧ p.shown.length ≤ sizeLine ∧ Q (.str p.shown) H
theorem repr_reads {prog : Program} {w : World} {A : Around} {E : Value → Shared → Prop} {s : Shared} {u : Value} {p : PyData} {as : List Addr} {Q : Value → Shared → Prop} (rd : Reads s.heap u p as)
    (h1 : p.showable = true) (h2 : p.hasDict = false) (h4 : p.shown.length ≤ sizeLine) (hg : A.guards = some []) (hu : A.units + p.depth + 2 < cLine)
    (q : ∀ h' t tk, (∀ b o, s.heap.get? b = some o → h'.get? b = some o) → Q (.str p.shown t) { s with heap := h', toks := tk }) : wpAny (model prog w) A (call (.builtin "repr") [u]) Q E s := by
  have g1 : A.in1.guards = some [] := hg
  have u1 : A.in1.units = A.units + 1 := rfl
  cases rd with
  | none => exact PySem.P.repr_of_none (by simpa only [PyData.shown] using q s.heap _ _ fun _ _ e => e)
  | bool b => exact PySem.P.repr_of_bool (by simpa only [PyData.shown] using q s.heap _ _ fun _ _ e => e)
  | int i t => exact PySem.P.repr_of_int (by simpa [PyData.showable] using h1) (by simpa only [PyData.shown] using q s.heap _ _ fun _ _ e => e)
  | str x t => exact PySem.P.repr_of_str (by simpa only [PyData.shown] using q s.heap _ _ fun _ _ e => e) (by simpa only [PyData.shown] using h4)
  | @list a o vs n xs as b1 b2 b3 b4 =>
    have all := Reads.list b1 b2 b3 b4
    have z : (listText (PyData.shownAll xs)).length ≤ sizeLine := by simpa only [PyData.shown] using h4
    have nod : PyData.hasDictAll xs = false := by simpa [PyData.hasDict] using h2
    obtain ⟨bs, c1, c2⟩ := ReprAllK.of_readsAll (prog := prog) (w := w) b4 (by simpa [PyData.showable] using h1) (fun y => by rw [nod] at y; cases y) (fun t ht => Nat.le_trans (listText_mem_le ht) z)
    have away : a ∉ bs := not_mem_of_deeper all (by simp only [PyData.depth]; omega) c1
    have ty : s.TypeIs (.ref a) "list" := ⟨o, b1, b2⟩
    simp only [PyData.depth] at hu
    simp only [PyData.shown] at q
    refine call_repr_slot (by omega) ty PySem.F.slot_list_repr.toG ?_
    obtain ⟨l⟩ := vs
    cases l with
    | nil =>
      cases b4
      simp only [PyData.shownAll, listText_nil] at q
      exact call_list_repr_empty ty b1 b3 ⟨_, _, rfl, q s.heap _ _ fun _ _ e => e⟩
    | cons y l =>
      refine call_list_reprK b1 b2 b3 away (by simpa using c2.length_eq) (fun i y e => c2.item i y (by simpa using e)) g1 (fun b _ => Clear.nil b) (by omega) (fun _ _ e => e) (fun h' v tk k => ⟨_, _, rfl, q h' _ tk k⟩) z
  | @tuple a o vs n xs as b1 b2 b3 b4 =>
    have all := Reads.tuple b1 b2 b3 b4
    have z : (tupleText (PyData.shownAll xs)).length ≤ sizeLine := by simpa only [PyData.shown] using h4
    have nod : PyData.hasDictAll xs = false := by simpa [PyData.hasDict] using h2
    obtain ⟨bs, c1, c2⟩ := ReprAllK.of_readsAll (prog := prog) (w := w) b4 (by simpa [PyData.showable] using h1) (fun y => by rw [nod] at y; cases y) (fun t ht => Nat.le_trans (tupleText_mem_le ht) z)
    have away : a ∉ bs := not_mem_of_deeper all (by simp only [PyData.depth]; omega) c1
    simp only [PyData.depth] at hu
    simp only [PyData.shown] at q
    refine call_repr_slot (by omega) ⟨o, b1, b2⟩ PySem.F.slot_tuple_repr ?_
    exact call_tuple_reprK b1 b2 b3 away c2 g1 (fun b _ => Clear.nil b) (by omega) (fun _ _ e => e) (fun h' v tk k => ⟨_, _, rfl, q h' _ tk k⟩) z
  | dict => simp [PyData.hasDict] at h2
theorem cr_repr {k : Nat} (hr : Room k X.A) (hg : X.A.guards = some []) : CallR X (.builtin "repr") (rRepr X.K) := by
  intro pins s σ H xs us Q I r h
  obtain ⟨x, p, rfl, hd, h1, h2, h3, h4, q⟩ := h
  obtain ⟨u, rfl, r1⟩ := vals1 r
  obtain ⟨as, rd⟩ := Dp.reads I p x u hd r1
  have un := hr.un
  exact repr_reads rd h1 h2 h4 hg (by omega) fun h' t tk k => ⟨.str p.shown, H, I.kept k, ⟨t, rfl⟩, q⟩
theorem g_repr : CallG G fRepr (rRepr G.K) := by
  intro m H M vs ds Q E mo r h
  unfold fRepr at h
  split at h
  · obtain ⟨v, rfl, r1⟩ := r.one
    split at h
    · rename_i p e
      split at h
      · rename_i hz
        exact ⟨v, p, rfl, dp_of mo _ _ _ _ r1 e, hz.1, hz.2.1, hz.2.2.1, by rw [← szL]; exact hz.2.2.2, GOut.ret h mo (.str _)⟩
      · exact h.elim
    · exact h.elim
  · exact h.elim


def tyN : Ty → String
  | .int => "int"
  | .bool => "bool"
  | .str => "str"
  | .tuple => "tuple"
  | .list => "list"
  | .dict => "dict"
theorem kit_all (K : PySem.W.Frag) (S T : Ty) : PySem.W.kitOne K (.type (tyN S)) (.type (tyN T)) = some (decide (S = T ∨ (S = .bool ∧ T = .int))) := by
  cases S <;> cases T <;> exact kit_ty (by decide +kernel)
theorem kit_non (K : PySem.W.Frag) (T : Ty) : PySem.W.kitOne K (.type "NoneType") (.type (tyN T)) = some false := by
  cases T <;> exact kit_ty (by decide +kernel)
theorem de_isi {a : Expr} {f : Xp} {p p2 pos : Pos} (T : Ty) {x : Str} (hK : G.K = X.K) (hg : Gl X "isinstance") (hm : X.mg "isinstance" = none) (hv : bootBuiltins "isinstance" = some (.builtin "isinstance")) (hT : PE X (.Name x p2) (tC (.ty (tyN T)))) (ha : DE G X W a f)
    (he : starEach [a, .Name x p2] X.env = (false, eval a X.env) :: starEach [.Name x p2] X.env := by rfl) (he2 : starEach [.Name x p2] X.env = (false, eval (.Name x p2) X.env) :: starEach [] X.env := by rfl) (hpl : (backTo pos (starEach [.Name x p2] X.env)).any (·.1) = false := by rfl) :
    DE G X W (.Call (.Name "isinstance" p) [a, .Name x p2] [] pos) (x1 (oIsi T) f) := by
  refine PE.of (pe_callB (r := rIsi X.K) call_isi hg hm hv (pa_cons ha (pa_cons hT pa_nil he2) he) (by decide) (by decide) he hpl) fun σ H Q q => ?_
  rw [← hK]
  obtain ⟨m, r, M, si, q⟩ := q
  refine ⟨m, r, M, si, GOut.bind q fun dx M1 x' H1 m1 s1 o1 r1 q1 => ?_⟩
  unfold oIsi at q1
  split at q1
  · rename_i b hb
    have fin : ∀ t, TyX G.K H1 x' t → PySem.W.kitOne G.K t (.type (tyN T)) = some b → rIsi G.K [x', .ty (tyN T)] H1 Q := fun t h1 h2 =>
      ⟨x', _, t, _, b, rfl, .ty _, h1, h2, GOut.ret q1 o1 (.bl b)⟩
    cases r1 with
    | non =>
      cases hb
      exact fin _ (.base .non) (kit_non _ T)
    | bl c =>
      refine fin (.type (tyN .bool)) (.base (.bl c)) ?_
      rw [kit_all]
      rw [← hb]
      cases T <;> simp [isTy]
    | int c =>
      refine fin (.type (tyN .int)) (.base (.int c)) ?_
      rw [kit_all]
      rw [← hb]
      cases T <;> simp [isTy]
    | str c =>
      refine fin (.type (tyN .str)) (.base (.str c)) ?_
      rw [kit_all]
      rw [← hb]
      cases T <;> simp [isTy]
    | tup hs r2 =>
      have k : PySem.W.kitOne G.K (.type (tyN .tuple)) (.type (tyN T)) = some b := by
        rw [kit_all]
        rw [← hb]
        cases T <;> simp [isTy]
      rcases hs with (hs | ⟨o, hs⟩) | ⟨o, its, n, hs, hc, _⟩
      · exact fin _ (.base (.tup hs)) k
      · exact fin _ (.fTuple hs) k
      · exact fin _ (.kTuple hs hc) k
    | fz hs r2 => cases hb
    | loc hn =>
      simp only [isTy] at hb
      split at hb
      · rename_i xs e1
        obtain ⟨vs, a1, _⟩ := o1.ob _ _ _ hn e1
        refine fin (.type (tyN .list)) (.base (.lst a1)) ?_
        rw [kit_all, ← hb]
        cases T <;> simp
      · rename_i kvs e1
        obtain ⟨kws, a1, _⟩ := o1.ob _ _ _ hn e1
        refine fin (.type (tyN .dict)) (.base (.dK a1)) ?_
        rw [kit_all, ← hb]
        cases T <;> simp
      · cases hb
  · exact q1.elim
end
end PV

set_option Elab.async false
set_option linter.all false
set_option maxRecDepth 100000
set_option maxHeartbeats 2000000

namespace PV
open PySem PySem.Spec PyProof.Rows L2

structure FnG (P : Program) (w : World) (K : PySem.W.Frag) (mg : Str → Option Value) (base : Heap) (k : Nat) (f : Addr) (fd : FuncData) (ps : List Str) (sp : Sp) : Prop where
  len : ∀ vs H Q E, sp vs H Q E → vs.length = ps.length
  run : ∀ (A : Around) (outer : List Env) (s : Shared) (H : Hp) (args : Args) (us : List Value) (vs : List V) (Q : VK) (E : XK), Room k A ∧ A.guards = some [] → Env0 P w K mg base A outer s H → BindsTo s fd args (ps.zip us) →
    Vals vs us → sp vs H Q E → codeAny (model P w) A (.call (.ref f) args) (CR (L2.CX P w) outer P w H s Q E) s
theorem FnG.mono {P : Program} {w : World} {K : PySem.W.Frag} {mg : Str → Option Value} {base : Heap} {j k : Nat} {f : Addr} {fd : FuncData} {ps : List Str} {sp : Sp} (F : FnG P w K mg base j f fd ps sp) (h : j ≤ k) : FnG P w K mg base k f fd ps sp :=
  ⟨F.len, fun A outer s H args us vs Q E ⟨hr, hg⟩ => F.run A outer s H args us vs Q E ⟨hr.mono h, hg⟩⟩
def spD (G : Gd) (F : Fn) : Sp := fun vs H Q E => ∃ m M ds, MemOk G.K H m M ∧ Reps G.K H m vs ds ∧ GOut G (RD G) m H (F ds M) Q E
abbrev Wsh (W : WX) (σ : Sl) : XK := fun c d H => W c d σ H

section
variable {G : Gd} {X : Cx} {W : WX} {k : Nat} {f : Addr} {fd : FuncData} {ps : List Str} {sp : Sp} {F : Fn}
theorem g_run {pins : List (Addr × Obj)} {σ : Sl} {H : Hp} {s : Shared} {Q : VK} {us : List Value} {vs : List V} (Fg : FnG X.prog X.w X.K X.mg X.base k f fd ps sp) (hr : Room k X.A) (hgd : X.A.guards = some []) (hb : Binds X.K fd ps []) (tk : Takes X W)
    (I : Inv X pins σ H s) (rv : Vals vs us) (h : sp vs H Q (Wsh W σ)) : wpAny (model X.prog X.w) X.A (call (.ref f) us) (EP X pins σ Q) X.xe s := by
  have ln : (us ++ ([] : List Value)).length = ps.length := by
    rw [List.append_nil, ← rv.length]
    exact Fg.len vs H Q _ h
  have bd := hb s us I.kIn ln
  rw [List.append_nil] at bd
  have go := Fg.run X.A X.stack s H ⟨us, []⟩ us vs Q (Wsh W σ) ⟨hr, hgd⟩ I.env0 bd rv h
  refine wpAny_call (codeAny_mono go fun res s' done => ?_)
  match res, done with
  | .error u, done => exact tk u s' (XE.of_call I (fun _ _ _ z => z) done)
  | .ok (.ret u), done => exact I.after done
  | .ok .next, done => exact done.elim
  | .ok .brk, done => exact done.elim
  | .ok .cont, done => exact done.elim
theorem de_call {x : Str} {p pos : Pos} {e : Expr} {es : List Expr} {t : Xa} (Fg : FnG X.prog X.w X.K X.mg X.base k f fd ps (spD G F)) (hr : Room k X.A) (hgd : X.A.guards = some []) (tk : Takes X W) (hg : Gl X x) (hm : X.mg x = some (.ref f)) (hk : PySem.W.keepIn X.K (.ref f) = true)
    (hb : Binds X.K fd ps []) (ha : DA G X W (e :: es) t) (hdb : (x == ("__debug__" : Str)) = false := by decide)
    (he : starEach (e :: es) X.env = (false, eval e X.env) :: starEach es X.env := by rfl) (hpl : (backTo pos (starEach es X.env)).any (·.1) = false := by rfl) : DE G X W (.Call (.Name x p) (e :: es) [] pos) (xCall F t) := by
  refine ⟨fun pins s σ H Q I h => ?_⟩
  obtain ⟨m, r, M, si, q⟩ := h
  refine wpAny_Call_Name_kw (ld_glob I hg hm ?_ hdb)
  have args := ha.run pos pins s σ H (fun vs H1 => spD G F vs H1 Q (Wsh W σ)) I ⟨m, r, M, si, GOut.bind q fun ds M1 vs H1 m1 s1 o1 r1 q1 => ⟨m1, M1, ds, o1, r1, q1⟩⟩
  refine PySem.W.callWith_K (h₀ := X.base) I.ok.mod.kin hk (thn args fun us s1 hh => ?_) he hpl
  obtain ⟨vs, H1, I1, rv, hsp⟩ := hh
  exact ⟨I1.kIn, g_run Fg hr hgd hb tk I1 rv hsp⟩
theorem de_call0 {x : Str} {p pos : Pos} (Fg : FnG X.prog X.w X.K X.mg X.base k f fd ps (spD G F)) (hr : Room k X.A) (hgd : X.A.guards = some []) (tk : Takes X W) (hg : Gl X x) (hm : X.mg x = some (.ref f)) (hk : PySem.W.keepIn X.K (.ref f) = true)
    (hb : Binds X.K fd ps []) (hdb : (x == ("__debug__" : Str)) = false := by decide) : DE G X W (.Call (.Name x p) [] [] pos) (xCall F aNil) := by
  refine ⟨fun pins s σ H Q I h => ?_⟩
  obtain ⟨m, r, M, si, q⟩ := h
  refine wpAny_Call_Name_kw (ld_glob I hg hm ?_ hdb)
  exact PySem.W.callWith_K0 I.kIn hk (g_run (us := []) Fg hr hgd hb tk I .nil ⟨m, M, [], si.2, .nil, q⟩)
end


mutual
theorem Rep.cut {K : PySem.W.Frag} {H : Hp} {m : List Addr} {n : Nat} : ∀ {v : V} {d : D}, Rep K H m v d → below n d = true → Rep K H (m.take n) v d
  | _, _, .non, _ => .non
  | _, _, .bl b, _ => .bl b
  | _, _, .int i, _ => .int i
  | _, _, .str s, _ => .str s
  | _, _, .tup h r, e => .tup h (Reps.cut r (by simpa [below] using e))
  | _, _, .fz h r, e => .fz h (Reps.cut r (by simpa [below] using e))
  | _, _, .loc (n := j) h, e => .loc (by
    have q : j < n := by simpa [below] using e
    rw [List.getElem?_take_of_lt q]
    exact h)
theorem Reps.cut {K : PySem.W.Frag} {H : Hp} {m : List Addr} {n : Nat} : ∀ {vs : List V} {ds : List D}, Reps K H m vs ds → belowAll n ds = true → Reps K H (m.take n) vs ds
  | _, _, .nil, _ => .nil
  | _, _, .cons r t, e => by
    simp only [belowAll, Bool.and_eq_true] at e
    exact .cons (Rep.cut r e.1) (Reps.cut t e.2)
end
mutual
theorem Rep.low {K : PySem.W.Frag} {H : Hp} {m : List Addr} : ∀ {v : V} {d : D}, Rep K H m v d → below m.length d = true
  | _, _, .non => by simp [below]
  | _, _, .bl b => by simp [below]
  | _, _, .int i => by simp [below]
  | _, _, .str s => by simp [below]
  | _, _, .tup h r => by simpa [below] using Reps.low r
  | _, _, .fz h r => by simpa [below] using Reps.low r
  | _, _, .loc h => by simpa [below] using (List.getElem?_eq_some_iff.mp h).1
theorem Reps.low {K : PySem.W.Frag} {H : Hp} {m : List Addr} : ∀ {vs : List V} {ds : List D}, Reps K H m vs ds → belowAll m.length ds = true
  | _, _, .nil => by simp [belowAll]
  | _, _, .cons r t => by simp only [belowAll, Rep.low r, Reps.low t, Bool.and_self]
end
theorem gc_ok {K : PySem.W.Frag} {m m' : List Addr} {H H' : Hp} {M M' : Mem} {ds : List D} {vs : List V} (mo : MemOk K H m M) (s : Stp m H m' H') (mo' : MemOk K H' m' M') (r : Reps K H' m' vs ds) :
    ∃ m2, Stp m H m2 H' ∧ MemOk K H' m2 (gc M ds M') ∧ Reps K H' m2 vs ds := by
  unfold gc
  split
  · rename_i t
    obtain ⟨t1, t2, t3⟩ := t
    obtain ⟨n, rfl⟩ := s.more
    have e : (m ++ n).take M.length = m := by rw [← mo.len, List.take_left']; rfl
    refine ⟨m, ⟨⟨[], (List.append_nil m).symm⟩, s.oth, fun _ h => .inl h⟩, ⟨?_, mo.nd, fun j a o e1 e2 => ?_⟩, ?_⟩
    · rw [List.length_take, mo.len]
      omega
    · have hj : j < M.length := by rw [← mo.len]; exact (List.getElem?_eq_some_iff.mp e1).1
      rw [List.getElem?_take_of_lt hj] at e2
      have e1' : (m ++ n)[j]? = some a := by rw [List.getElem?_append_left (by rw [mo.len]; exact hj)]; exact e1
      have ob := mo'.ob j a o e1' e2
      have back : belowO M.length o = true → ObR K H' m a o := fun h => by
        cases o with
        | lst xs =>
          obtain ⟨ws, h1, h2⟩ := ob
          have := Reps.cut (n := M.length) h2 h
          rw [e] at this
          exact ⟨ws, h1, this⟩
        | dct kvs =>
          obtain ⟨kws, h1, h2, h3⟩ := ob
          have := Reps.cut (n := M.length) h3 h
          rw [e] at this
          exact ⟨kws, h1, h2, this⟩
        | lck kvs od kws =>
          obtain ⟨h1, h2, h3⟩ := ob
          have := Reps.cut (n := M.length) h3 h
          rw [e] at this
          exact ⟨h1, h2, this⟩
      rcases t3 j o hj e2 with q | q
      · have old := mo.ob j a o e1 q
        refine back ?_
        rw [← mo.len]
        cases o with
        | lst xs =>
          obtain ⟨_, _, h4⟩ := old
          exact h4.low
        | dct kvs =>
          obtain ⟨_, _, _, h4⟩ := old
          exact h4.low
        | lck kvs od kws =>
          obtain ⟨_, _, h4⟩ := old
          exact h4.low
      · exact back q
    · have := Reps.cut (n := M.length) r t2
      rw [e] at this
      exact this
  · exact ⟨m', s, mo', r⟩


theorem start_ok {K : PySem.W.Frag} {H : Hp} {m : List Addr} {N : List Str} {vs : List V} {ds : List D} {n nl : Nat} (r : Reps K H m vs ds) (hn : ds.length = n) (hl : N.length - n = nl) : EnvOk K H m (L2.start N vs) (ds.map some ++ List.replicate nl none) := by
  have lv := r.length
  unfold L2.start
  refine ⟨by rw [List.length_append, List.length_append, List.length_map, List.length_map, List.length_replicate, List.length_replicate, lv, hn, hl], fun i d e => ?_⟩
  by_cases hi : i < ds.length
  · rw [List.getElem?_append_left (by simpa using hi), List.getElem?_map] at e
    cases q : ds[i]? with
    | none => rw [q] at e; cases e
    | some d' =>
      rw [q] at e
      cases e
      obtain ⟨v, h1, h2⟩ := r.get i d q
      exact ⟨v, by rw [List.getElem?_append_left (by simpa [lv] using hi), List.getElem?_map, h1] <;> rfl, h2⟩
  · rw [List.getElem?_append_right (by simpa using hi), List.getElem?_replicate] at e
    split at e <;> cases e
abbrev DSs (G : Gd) (X : Cx) (W : WX) (st : List Stmt) (g : Xs) : Prop := PSs X st (TSt G W g)
abbrev DS (G : Gd) (X : Cx) (W : WX) (st : Stmt) (g : Xs) : Prop := PS X st (TSt G W g)
theorem fdef {G : Gd} {P : Program} {w : World} {mg : Str → Option Value} {base : Heap} {k n nl : Nat} {x qual : Str} {st : Stmt} {f : Addr} {fd : FuncData} {N ps : List Str} {g : Xs} (F : Fun G.K x qual st f fd) (S : FnScope N ps (defScope st)) (hn : ps.length = n) (hl : N.length - n = nl)
    (body : ∀ (cdv : Value) (A : Around) (outer : List Env) (s : Shared) (H : Hp) (E : XK), Room k (A.deeper (envOfC qual (defScope st) s.heap.objs.size f cdv)) → (A.deeper (envOfC qual (defScope st) s.heap.objs.size f cdv)).guards = some [] →
      DSs G (cxOf (L2.CX P w) P w G.K mg base N qual (defScope st) f cdv A outer s H E) (fun c d _ H' => E c d H') (defBody st) g) :
    FnG P w G.K mg base (k + 1) f fd ps (spD G (fDef n nl g)) := by
  have ar : ∀ vs H Q E, spD G (fDef n nl g) vs H Q E → vs.length = ps.length := fun vs H Q E ⟨m, M, ds, mo, r, q⟩ => by
    rw [r.length, hn]
    unfold fDef at q
    split at q
    · assumption
    · exact q.elim
  obtain ⟨oc, od, kV, doc, pm, an, cdv, ct, osl, rfl, lk, hcd⟩ := F.ex
  refine ⟨ar, fun A outer s H args us vs Q E ⟨hr, hgd⟩ e0 hb rv hsp => ?_⟩
  have lv := ar _ _ _ _ hsp
  have stay : ∀ b o, base.get? b = some o → s.heap.get? b = some o := fun b o e => (e0.bs b o e).1
  have KX : G.K.In s.heap := e0.mod.kin.keeps stay
  have loc : ∀ y ∈ ps.zip us, (defScope st).names.lookup y.1 = some .local ∨ ((defScope st).names.lookup y.1 = some .cell ∧ ((cellsFrom (s.heap.objs.size + 1) (defScope st).names []).lookup y.1).isSome = true) := by
    intro y hy
    have hp : y.1 ∈ ps := by
      obtain ⟨a, b⟩ := y
      exact (List.of_mem_zip hy).1
    cases S.par y.1 hp with
    | inl q => exact .inl q
    | inr q => exact .inr ⟨q, PySem.W.cellsFrom_some _ _ _ (.inl q)⟩
  refine codeAny_call_function hr.depth (KX _ _ lk) rfl S.co S.gen rfl (PySem.W.codeRec_of KX hcd) (hb _ _ _ _ ?_)
  refine wpAny_newFunctionEnv_cells S.kind loc fun env he s1 x => ?_
  cases he
  refine ⟨(e0.mod.nolimit.keeps stay).keeps x.toInCall.keep, codeAny_func ?_⟩
  have run := body cdv A outer s H E (hr.deeper _) hgd
  have I : Inv (cxOf (L2.CX P w) P w G.K mg base N qual (defScope st) f cdv A outer s H E) [] (L2.start N vs) H s1 := inv_start S hr.hd e0 lv rv x
  obtain ⟨m, M, ds, mo, r, q⟩ := hsp
  have fin : ∀ {σ' : Sl} {H' : Hp} {s' : Shared} {v : V} {u : Value}, Inv (cxOf (L2.CX P w) P w G.K mg base N qual (defScope st) f cdv A outer s H E) [] σ' H' s' → RelV v u → Q v H' → CE outer P w H s Q u s' :=
    fun {σ' H' s' v u} J a b => ⟨v, H', J.os, J.bare, J.base, J.hok, a, b⟩
  have want : TSt G (fun c d _ H' => E c d H') g { nx := fun _ H' => Q .non H', rt := Q } (L2.start N vs) H := by
    unfold fDef at q
    split at q
    · rename_i hd
      refine ⟨m, _, M, ⟨start_ok r hd hl, mo⟩, ?_⟩
      generalize g (ds.map some ++ List.replicate nl none) M = o at q
      cases o with
      | nx r1 M1 =>
        intro σ' H' m' s' si'
        obtain ⟨m2, c1, c2, _⟩ := gc_ok mo s' si'.2 (vs := []) (ds := []) .nil
        exact q .non H' m2 c1 c2 .non
      | rt d M1 =>
        intro v H' m' s' mo' rp
        obtain ⟨m2, c1, c2, c3⟩ := gc_ok mo s' mo' (vs := [v]) (ds := [d]) (.cons rp .nil)
        cases c3 with
        | cons c3 _ => exact q v H' m2 c1 c2 c3
      | er c fs r1 M1 =>
        intro d kv σ' H' m' s' si' e1 e2 e3
        obtain ⟨m2, c1, c2, c3⟩ := gc_ok mo s' si'.2 e3
        exact q d kv H' m2 c1 c2 e1 e2 c3
      | bk r1 M1 => exact q.elim
      | ct r1 M1 => exact q.elim
      | stk => exact q.elim
    · exact q.elim
  refine wpAny_mono (run.run [] s1 (L2.start N vs) H _ I want) (fun fl s' done => ?_) fun _ _ done => done
  match fl, done with
  | .ret u, ⟨v, σ', H', J, a, b⟩ => exact fin J a b
  | .next, ⟨σ', H', J, b⟩ => exact fin (v := V.non) (u := Value.none) J rfl b
  | .brk, ⟨_, _, _, b⟩ => exact b.elim
  | .cont, ⟨_, _, _, b⟩ => exact b.elim
end PV

set_option Elab.async false
set_option linter.all false
set_option maxRecDepth 100000
set_option maxHeartbeats 2000000

namespace PV
open PySem PySem.Spec PyProof.Rows L2

theorem PS.of {X : Cx} {e : Stmt} {t t' : TS} (h : PS X e t) (w : ∀ D σ H, t' D σ H → t D σ H) : PS X e t' := ⟨fun pins s σ H D I q => h.run pins s σ H D I (w D σ H q)⟩
theorem PSs.of {X : Cx} {e : List Stmt} {t t' : TS} (h : PSs X e t) (w : ∀ D σ H, t' D σ H → t D σ H) : PSs X e t' := ⟨fun pins s σ H D I q => h.run pins s σ H D I (w D σ H q)⟩
theorem PG.of {X : Cx} {e : Expr} {t t' : TG} (h : PG X e t) (w : ∀ v σ H Q, t' v σ H Q → t v σ H Q) : PG X e t' := ⟨fun pins s σ H v u Q I r q => h.run pins s σ H v u Q I r (w v σ H Q q)⟩
theorem PGs.of {X : Cx} {e : List Expr} {t t' : TGs} (h : PGs X e t) (w : ∀ v σ H Q, t' v σ H Q → t v σ H Q) : PGs X e t' := ⟨fun pins s σ H v u Q I r q => h.run pins s σ H v u Q I r (w v σ H Q q)⟩

abbrev nxOnly (Q : Sl → Hp → Prop) : Ends := { nx := Q, rt := fun _ _ => False }
def TTg (G : Gd) (W : WX) (t : Tg) : TG := fun v σ H Q => ∃ m r M d, Sim G m H σ r M ∧ Rep G.K H m v d ∧ GSO G m H W (nxOnly Q) (t d r M)
def TTgs (G : Gd) (W : WX) (t : Tgs) : TGs := fun vs σ H Q => ∃ m r M ds, Sim G m H σ r M ∧ Reps G.K H m vs ds ∧ GSO G m H W (nxOnly Q) (t ds r M)
abbrev DG (G : Gd) (X : Cx) (W : WX) (e : Expr) (t : Tg) : Prop := PG X e (TTg G W t)
abbrev DGs (G : Gd) (X : Cx) (W : WX) (es : List Expr) (t : Tgs) : Prop := PGs X es (TTgs G W t)

section
variable {G : Gd} {X : Cx} {W : WX}

theorem dss_nil : DSs G X W [] sPass := PSs.of pss_nil fun D σ H q => by
  obtain ⟨m, r, M, si, q⟩ := q
  exact q σ H m .refl si
theorem dss_one {st : Stmt} {g : Xs} (h : DS G X W st g) : DSs G X W [st] g := pss_one h
theorem dss_cons {st : Stmt} {rest : List Stmt} {g h : Xs} (h1 : DS G X W st g) (h2 : DSs G X W rest h) : DSs G X W (st :: rest) (sSeq g h) := by
  refine PSs.of (pss_cons h1 h2) fun D σ H q => ?_
  obtain ⟨m, r, M, si, q⟩ := q
  refine ⟨m, r, M, si, ?_⟩
  unfold sSeq at q
  generalize g r M = o at q
  cases o with
  | nx r1 M1 => exact fun σ' H' m' s si' => ⟨m', r1, M1, si', GSO.later (o := h r1 M1) q s⟩
  | rt d M1 => exact q
  | bk r1 M1 => exact q
  | ct r1 M1 => exact q
  | er c fs r1 M1 => exact q
  | stk => exact q
theorem ds_pass {pos : Pos} : DS G X W (.Pass pos) sPass := PS.of ps_pass fun D σ H q => by
  obtain ⟨m, r, M, si, q⟩ := q
  exact q σ H m .refl si
theorem ds_break {pos : Pos} : DS G X W (.Break pos) sBreak := PS.of ps_break fun D σ H q => by
  obtain ⟨m, r, M, si, q⟩ := q
  exact q σ H m .refl si
theorem ds_cont {pos : Pos} : DS G X W (.Continue pos) sCont := PS.of ps_continue fun D σ H q => by
  obtain ⟨m, r, M, si, q⟩ := q
  exact q σ H m .refl si
theorem ds_expr {e : Expr} {f : Xp} {pos : Pos} (he : DE G X W e f) (hs : swapsWith e none pos.line X.env = pure false := by rfl) : DS G X W (.Expr e pos) (sExpr f) := by
  refine PS.of (ps_expr he hs) fun D σ H q => ?_
  obtain ⟨m, r, M, si, q⟩ := q
  exact ⟨m, r, M, si, GSO.bind q si fun d M1 v H1 m1 s1 si1 _ q1 => q1 σ H1 m1 .refl si1⟩
theorem ds_ret {e : Expr} {f : Xp} {pos : Pos} (he : DE G X W e f) : DS G X W (.Return (some e) pos) (sRet f) := by
  refine PS.of (ps_ret he) fun D σ H q => ?_
  obtain ⟨m, r, M, si, q⟩ := q
  exact ⟨m, r, M, si, GSO.bind q si fun d M1 v H1 m1 s1 si1 r1 q1 => q1 v H1 m1 .refl si1.2 r1⟩
theorem ds_retN {pos : Pos} : DS G X W (.Return none pos) sRetN := PS.of ps_retN fun D σ H q => by
  obtain ⟨m, r, M, si, q⟩ := q
  exact q .non H m .refl si.2 .non
theorem ds_if {c : Expr} {a b : List Stmt} {fc : Xb} {s t : Xs} {pos : Pos} (hc : DT G X W c fc) (ha : DSs G X W a s) (hb : DSs G X W b t) : DS G X W (.If c a b pos) (sIf fc s t) := by
  refine PS.of (ps_if hc ha hb) fun D σ H q => ?_
  obtain ⟨m, r, M, si, q⟩ := q
  refine ⟨m, r, M, si, GSO.bind q si fun b M1 b' H1 m1 s1 si1 r1 q1 => ?_⟩
  cases r1
  cases b with
  | true => exact ⟨m1, r, M1, si1, q1⟩
  | false => exact ⟨m1, r, M1, si1, q1⟩
theorem ds_set {i : Nat} {x : Str} {e : Expr} {f : Xp} {pos' pos : Pos} (hN : X.N.Nodup) (he : DE G X W e f) (hi : X.N[i]? = some x := by rfl) (hx : Loc X.env.scope x := by first | exact Or.inl rfl | exact Or.inr rfl) (hs : swapsWith e (some (.Name x pos')) pos.line X.env = pure false := by rfl)
    (hf : X.fn x = true ∨ X.env.scope.names.lookup x = some .local := by first | exact .inl rfl | exact .inr rfl | assumption) : DS G X W (.Assign [.Name x pos'] e pos) (sSet i f) := by
  refine PS.of (ps_set hN hi hx he hs hf) fun D σ H q => ?_
  obtain ⟨m, r, M, si, q⟩ := q
  exact ⟨m, r, M, si, GSO.bind q si fun d M1 v H1 m1 s1 si1 r1 q1 => q1 _ H1 m1 .refl ⟨si1.1.set i r1, si1.2⟩⟩
theorem ds_par {i j : Nat} {x y : Str} {a b : Expr} {t : Xa} {px py pt pt2 pos : Pos} {kt k2} (hc : X.calm = true) (hN : X.N.Nodup) (ha : DA G X W [a, b] t) (hij : i ≠ j := by decide) (hi : X.N[i]? = some x := by rfl) (hj : X.N[j]? = some y := by rfl)
    (hx : X.env.scope.names.lookup x = some .local := by rfl) (hy : X.env.scope.names.lookup y = some .local := by rfl)
    (hw : swappedStores [.Tuple [.Name x px, .Name y py] kt pt] (.Tuple [a, b] k2 pt2) X.env = pure (some [x, y]) := by rfl)
    (hs : swapsWithSole [.Tuple [.Name x px, .Name y py] kt pt] (.Tuple [a, b] k2 pt2) pos.line X.env = pure false := by rfl) : DS G X W (.Assign [.Tuple [.Name x px, .Name y py] kt pt] (.Tuple [a, b] k2 pt2) pos) (sPar i j t) := by
  refine PS.of (ps_par hc hN hi hj hij hx hy ha hw hs) fun D σ H q => ?_
  obtain ⟨m, r, M, si, q⟩ := q
  refine ⟨m, r, M, si, GSO.bind q si fun ds M1 vs H1 m1 s1 si1 r1 q1 => ?_⟩
  split at q1
  · obtain ⟨v, w, rfl, r2, r3⟩ := r1.two
    exact ⟨v, w, rfl, q1 _ H1 m1 .refl ⟨(si1.1.set i r2).set j r3, si1.2⟩⟩
  · exact q1.elim


theorem dg_name {i : Nat} {x : Str} {pos : Pos} (hN : X.N.Nodup) (hi : X.N[i]? = some x := by rfl) (hx : Loc X.env.scope x := by first | exact Or.inl rfl | exact Or.inr rfl) (hf : X.fn x = true ∨ X.env.scope.names.lookup x = some .local := by first | exact .inl rfl | exact .inr rfl | assumption) : DG G X W (.Name x pos) (tName i) :=
  PG.of (pg_name hN hi hx hf) fun v σ H Q q => by
    obtain ⟨m, r, M, d, si, rp, q⟩ := q
    exact q _ H m .refl ⟨si.1.set i rp, si.2⟩
theorem dgs_nil : DGs G X W [] tsNil := PGs.of pgs_nil fun vs σ H Q q => by
  obtain ⟨m, r, M, ds, si, rp, q⟩ := q
  cases rp with
  | nil => exact ⟨rfl, q _ H m .refl si⟩
  | cons _ _ => exact q.elim
theorem dgs_cons {e : Expr} {es : List Expr} {t : Tg} {u : Tgs} (h1 : DG G X W e t) (h2 : DGs G X W es u) (hs : (assignEach (e :: es) X.env).map (·.2) = assign e X.env :: (assignEach es X.env).map (·.2) := by rfl) : DGs G X W (e :: es) (tsCons t u) := by
  refine PGs.of (pgs_cons h1 h2 hs) fun vs σ H Q q => ?_
  obtain ⟨m, r, M, ds, si, rp, q⟩ := q
  cases rp with
  | nil => exact q.elim
  | @cons v vr d dr r1 r2 =>
    refine ⟨v, vr, rfl, m, r, M, d, si, r1, ?_⟩
    unfold tsCons at q
    dsimp only at q
    generalize t d r M = o at q
    cases o with
    | nx r' M' => exact fun σ' H' m' s si' => ⟨m', r', M', dr, si', r2.car (s.car si.2), GSO.later (o := u dr r' M') q s⟩
    | rt d M1 => exact fun v H' m' s mo rp => q v H' m' s mo rp
    | bk r1 M1 => exact fun σ' H' m' s si' => q σ' H' m' s si'
    | ct r1 M1 => exact fun σ' H' m' s si' => q σ' H' m' s si'
    | er c fs r1 M1 => exact q
    | stk => exact q
theorem dg_tup {es : List Expr} {k n : Nat} {u : Tgs} {pos : Pos} (hK : G.K = X.K) (hc : X.calm = true) (h : DGs G X W es u) (hn : (assignEach es X.env).length = n := by rfl) (hst : (assignEach es X.env).findIdx? (·.1) = none := by rfl) : DG G X W (.Tuple es k pos) (tTup n u) := by
  refine PG.of (pg_tup hc h hn hst) fun v σ H Q q => ?_
  rw [← hK]
  obtain ⟨m, r, M, d, si, rp, q⟩ := q
  cases rp with
  | @tup a vs ds hs r2 =>
    unfold tTup at q
    dsimp only at q
    split at q
    · rename_i hl
      exact ⟨a, vs, rfl, hs, by rw [r2.length]; exact hl, m, r, M, ds, si, r2, q⟩
    · exact q.elim
  | _ => exact q.elim
theorem GSO.only {m : List Addr} {H : Hp} {D : Ends} {o : SO} (h : GSO G m H W D (nxo o)) : GSO G m H W (nxOnly D.nx) o := by
  cases o with
  | nx r M => exact h
  | er c fs r M => exact h
  | _ => exact h.elim
theorem ds_asg {tg e : Expr} {f : Xp} {t : Tg} {pos : Pos} (he : DE G X W e f) (hg : DG G X W tg t) (hs : swapsWithSole [tg] e pos.line X.env = pure false := by rfl) (hw : swappedStores [tg] e X.env = pure none := by rfl)
    (h1 : (assignEach [tg] X.env).map (·.2) = [assign tg X.env] := by rfl) : DS G X W (.Assign [tg] e pos) (sAsg t f) := by
  refine PS.of (ps_asg he hg hs hw h1) fun D σ H q => ?_
  obtain ⟨m, r, M, si, q⟩ := q
  exact ⟨m, r, M, si, GSO.bind q si fun d M1 v H1 m1 s1 si1 r1 q1 => ⟨m1, r, M1, d, si1, r1, q1.only⟩⟩
def SetG (G : Gd) (set : D → D → D → Mem → Option Mem) (t : TSet) : Prop := ∀ (m : List Addr) (H : Hp) (M M' : Mem) (o i v : V) (do' di dv : D) (Q : Hp → Prop), MemOk G.K H m M → Rep G.K H m o do' → Rep G.K H m i di → Rep G.K H m v dv →
  set do' di dv M = some M' → (∀ H' m', Stp m H m' H' → MemOk G.K H' m' M' → Q H') → t o i v H Q
theorem dg_sub {o i : Expr} {fo fi : Xp} {set : D → D → D → Mem → Option Mem} {t : TSet} {pos : Pos} (hp : PSet X t) (hr : SetG G set t) (ho : DE G X W o fo) (hi : DE G X W i fi)
    (ha : ∀ v, assign (.Subscript o i pos) X.env v = (do
      let ov ← holding [v] (eval o X.env)
      let iv ← holding [v, ov] (eval i X.env)
      standAt pos
      holding [v, ov, iv] (setItem ov iv v)
      release [v, ov, iv] []) := by intro _; rfl) : DG G X W (.Subscript o i pos) (tSub set fo fi) := by
  refine PG.of (pg_sub ho hi hp ha) fun v σ H Q q => ?_
  obtain ⟨m, r, M, d, si, rp, q⟩ := q
  refine ⟨m, r, M, si, GSO.bind q si fun dx M1 x H1 m1 s1 si1 r1 q1 => ⟨m1, r, M1, si1, GSO.bind q1 si1 fun dy M2 y H2 m2 s2 si2 r2 q2 => ?_⟩⟩
  split at q2
  · rename_i M3 e
    exact hr m2 H2 M2 M3 x y v dx dy d _ si2.2 (r1.car (s2.car si1.2)) r2 ((rp.car (s1.car si.2)).car (s2.car si1.2)) e fun H' m' s3 mo => q2 σ H' m' s3 (si2.later s3 mo)
  · exact q2.elim
theorem set_l : SetG G setIx rSetL := by
  intro m H M M' o i v do' di dv Q mo ro ri rv e q
  unfold setIx at e
  split at e
  · rename_i n k
    cases ro with
    | @loc a _ hn =>
      cases ri
      split at e
      · rename_i xs e1
        obtain ⟨vs, a1, r1⟩ := mo.ob _ _ _ hn e1
        split at e
        · rename_i j e2
          cases e
          refine ⟨a, vs, k, j, rfl, rfl, a1, by rw [r1.length]; exact e2, ?_⟩
          exact q _ _ (Stp.write hn) (mo.write hn ⟨_, upd_same, (r1.set rv j).car ((Stp.write hn).car mo)⟩)
        · cases e
      · cases e
  · cases e
theorem ds_setIx {o i e : Expr} {fo fi f : Xp} {tpos pos : Pos} (he : DE G X W e f) (ho : DE G X W o fo) (hi : DE G X W i fi) (hs : swapsWithSole [.Subscript o i tpos] e pos.line X.env = pure false := by rfl) (hw : swappedStores [.Subscript o i tpos] e X.env = pure none := by rfl)
    (h1 : (assignEach [.Subscript o i tpos] X.env).map (·.2) = [assign (.Subscript o i tpos) X.env] := by rfl)
    (ha : ∀ v, assign (.Subscript o i tpos) X.env v = (do
      let ov ← holding [v] (eval o X.env)
      let iv ← holding [v, ov] (eval i X.env)
      standAt tpos
      holding [v, ov, iv] (setItem ov iv v)
      release [v, ov, iv] []) := by intro _; rfl) : DS G X W (.Assign [.Subscript o i tpos] e pos) (sAsg (tSub setIx fo fi) f) :=
  ds_asg he (dg_sub set_list set_l ho hi ha) hs hw h1
theorem kvPut_of {K : PySem.W.Frag} {H : Hp} {m : List Addr} {k : Sum Int Str} {v : V} {d : D} (rv : Rep K H m v d) {kws : List (L2.Key × V)} {kvs : List (Sum Int Str × D)} (e : kws.map (·.1) = kvs.map (·.1)) (r : Reps K H m (kws.map (·.2)) (kvs.map (·.2))) :
    (putK kws k v).map (·.1) = (kvPut kvs k d).map (·.1) ∧ Reps K H m ((putK kws k v).map (·.2)) ((kvPut kvs k d).map (·.2)) := by
  have anyE : ∀ {kws : List (L2.Key × V)} {kvs : List (Sum Int Str × D)}, kws.map (·.1) = kvs.map (·.1) → (kws.any fun p => decide (p.1 = k)) = kvs.any fun p => decide (p.1 = k) := by
    intro kws
    induction kws with
    | nil =>
      intro kvs e
      cases kvs with
      | nil => rfl
      | cons _ _ => simp at e
    | cons p r ih =>
      intro kvs e
      cases kvs with
      | nil => simp at e
      | cons q t =>
        simp only [List.map_cons, List.cons.injEq] at e
        simp only [List.any_cons, e.1, ih e.2]
  have mapE : ∀ {kws : List (L2.Key × V)} {kvs : List (Sum Int Str × D)}, kws.map (·.1) = kvs.map (·.1) → Reps K H m (kws.map (·.2)) (kvs.map (·.2)) →
      (kws.map fun p => if p.1 = k then (p.1, v) else p).map (·.1) = (kvs.map fun p => if p.1 = k then (p.1, d) else p).map (·.1) ∧ Reps K H m ((kws.map fun p => if p.1 = k then (p.1, v) else p).map (·.2)) ((kvs.map fun p => if p.1 = k then (p.1, d) else p).map (·.2)) := by
    intro kws
    induction kws with
    | nil =>
      intro kvs e _
      cases kvs with
      | nil => exact ⟨rfl, .nil⟩
      | cons _ _ => simp at e
    | cons p r ih =>
      intro kvs e q
      cases kvs with
      | nil => simp at e
      | cons p' t =>
        obtain ⟨a, b⟩ := p
        obtain ⟨a', b'⟩ := p'
        simp only [List.map_cons, List.cons.injEq] at e
        obtain ⟨rfl, e⟩ := e
        simp only [List.map_cons] at q
        cases q with
        | cons q1 q2 =>
          obtain ⟨i1, i2⟩ := ih e q2
          by_cases hk : a = k
          · subst hk
            simp only [List.map_cons, if_true]
            exact ⟨by rw [i1], .cons rv i2⟩
          · simp only [List.map_cons, if_neg hk]
            exact ⟨by rw [i1], .cons q1 i2⟩
  unfold kvPut
  have un : putK kws k v = if (kws.any fun p => decide (p.1 = k)) = true then kws.map fun p => if p.1 = k then (p.1, v) else p else kws ++ [(k, v)] := rfl
  rw [un, anyE e]
  split
  · exact mapE e r
  · simp only [List.map_append, List.map_cons, List.map_nil]
    exact ⟨by rw [e], r.app (.cons rv .nil)⟩
theorem ds_put {k : Nat} {o i e : Expr} {fo fi f : Xp} {tpos pos : Pos} (hr : Room k X.A) (he : DE G X W e f) (ho : DE G X W o fo) (hi : DE G X W i fi) (hs : swapsWith e (some (.Subscript o i tpos)) pos.line X.env = pure false := by rfl) : DS G X W (.Assign [.Subscript o i tpos] e pos) (sAsg (tSub setKv fo fi) f) := by
  refine PS.of (ps_dput (hu_of hr) ho hi he hs) fun D σ H q => ?_
  obtain ⟨m, r, M, si, q⟩ := q
  refine ⟨m, r, M, si, GSO.bind q si fun d M1 v H1 m1 s1 si1 r1 q1 => ?_⟩
  have q1' := q1.only
  unfold tSub at q1'
  refine ⟨m1, r, M1, si1, GSO.bind q1' si1 fun dx M2 x H2 m2 s2 si2 r2 q2 => ⟨m2, r, M2, si2, GSO.bind q2 si2 fun dy M3 y H3 m3 s3 si3 r3 q3 => ?_⟩⟩
  split at q3
  · rename_i M4 e4
    unfold setKv at e4
    split at e4
    · rename_i n k' e6
      have r2' := r2.car (s3.car si2.2)
      cases r2' with
      | @loc a _ hn =>
        split at e4
        · rename_i kvs e7
          obtain ⟨kws, a1, a2, a3⟩ := si3.2.ob _ _ _ hn e7
          split at e4
          · rename_i hz
            cases e4
            have ey := key_of' r3 e6
            subst ey
            obtain ⟨p1, p2⟩ := kvPut_of (k := k') ((r1.car (s2.car si1.2)).car (s3.car si2.2)) a2 a3
            have hl : kws.length = kvs.length := by simpa using congrArg List.length a2
            refine ⟨a, upd H3 a (.dK (putK kws k' v)), rfl, DPut.k a1 (by rw [hl, ← szL]; exact hz), ?_⟩
            exact q3 σ _ m3 (Stp.write hn) (si3.later (Stp.write hn) (si3.2.write hn ⟨_, upd_same, p1, p2.car ((Stp.write hn).car si3.2)⟩))
          · cases e4
        · cases e4
    · cases e4
  · exact q3.elim
theorem o_append : ∀ (m : List Addr) (H : Hp) (M : Mem) (x y : V) (dx dy : D) (Q : VK) (E : XK), MemOk G.K H m M → Rep G.K H m x dx → Rep G.K H m y dy → GOut G (RD G) m H (mAppend dx dy M) Q E → rAppend x [y] H Q := by
  intro m H M x y dx dy Q E mo rx ry h
  unfold mAppend at h
  split at h
  · rename_i n
    cases rx with
    | @loc a _ hn =>
      split at h
      · rename_i xs e1
        obtain ⟨vs, a1, r1⟩ := mo.ob _ _ _ hn e1
        split at h
        · rename_i hz
          refine ⟨a, vs, y, rfl, rfl, a1, by rw [r1.length, ← szL]; exact hz, ?_⟩
          exact h _ _ _ (Stp.write hn) (mo.write hn ⟨_, upd_same, (r1.app (.cons ry .nil)).car ((Stp.write hn).car mo)⟩) .non
        · exact h.elim
      · exact h.elim
  · exact h.elim
theorem ty_lst {x : V} {d : D} {M : Mem} {H : Hp} {m : List Addr} (mo : MemOk G.K H m M) (r : Rep G.K H m x d) (h : isLst d M = true) : tyV G.K "list" x H := by
  unfold isLst at h
  split at h
  · cases r with
    | loc hn =>
      split at h
      · rename_i xs e1
        obtain ⟨vs, a1, _⟩ := mo.ob _ _ _ hn e1
        exact Or.inl ⟨rfl, _, Or.inl (Or.inl a1)⟩
      · cases h
  · cases h
theorem de_meth1 {op : D → D → Mem → Out D} {r : V → List V → Hp → VK → Prop} {name : Str} {id : String} {o e : Expr} {fo f : Xp} {ap cp : Pos} (hK : G.K = X.K)
    (hm : PE X (.Call (.Attribute o name ap) [e] [] cp) (tBM X.K "list" r (TD G W fo) (tCons (TD G W f) tNil)))
    (hr : ∀ (m : List Addr) (H : Hp) (M : Mem) (x y : V) (dx dy : D) (Q : VK) (E : XK), MemOk G.K H m M → Rep G.K H m x dx → Rep G.K H m y dy → GOut G (RD G) m H (op dx dy M) Q E → r x [y] H Q) :
    DE G X W (.Call (.Attribute o name ap) [e] [] cp) (xLst1 op fo f) := by
  refine PE.of hm fun σ H Q q => ?_
  rw [← hK]
  obtain ⟨m, rr, M, si, q⟩ := q
  refine ⟨m, rr, M, si, GOut.bind q fun dx M1 x H1 m1 s1 o1 r1 q1 => ?_⟩
  split at q1
  · rename_i hl
    refine ⟨ty_lst o1 r1 hl, m1, rr, M1, si.later s1 o1, GOut.bind q1 fun dy M2 y H2 m2 s2 o2 r2 q2 => ?_⟩
    exact hr m2 H2 M2 x y dx dy Q _ o2 (r1.car (s2.car o1)) r2 q2
  · exact q1.elim
theorem de_append {o e : Expr} {fo f : Xp} {ap cp : Pos} (hK : G.K = X.K) (ho : DE G X W o fo) (he : DE G X W e f)
    (hm : PE X (.Call (.Attribute o "append" ap) [e] [] cp) (tBM X.K "list" rAppend (TD G W fo) (tCons (TD G W f) tNil))) : DE G X W (.Call (.Attribute o "append" ap) [e] [] cp) (xLst1 mAppend fo f) := de_meth1 (id := "list.append") hK hm o_append
end
end PV

set_option Elab.async false
set_option linter.all false
set_option maxRecDepth 100000
set_option maxHeartbeats 2000000

namespace PV
open PySem PySem.Spec PyProof.Rows L2

structure WalkI (G : Gd) (J : It) (xs : List D) (n : Option Nat) (ys : List D) (m0 : List Addr) (H0 : Hp) : Prop where
  go : ∀ (i : Nat) m1 H1 M1, Stp m0 H0 m1 H1 → MemOk G.K H1 m1 M1 → stands M1 n ys → i < xs.length → J.go i H1 ∧ ∀ v H', J.yld i H1 v H' → Stp m1 H1 m1 H' ∧ MemOk G.K H' m1 M1 ∧ ∃ d, xs[i]? = some d ∧ Rep G.K H' m1 v d
  stop : ∀ m1 H1 M1, Stp m0 H0 m1 H1 → MemOk G.K H1 m1 M1 → stands M1 n ys → J.stop xs.length H1
abbrev RI (G : Gd) : Hp → List Addr → It → List D × Option Nat × List D → Prop := fun H m J p => WalkI G J p.1 p.2.1 p.2.2 m H
def TIt (G : Gd) (W : WX) (it : Xi) : TI := fun σ H R => ∃ m r M, Sim G m H σ r M ∧ GOut G (RI G) m H (it r M) R fun c d H' => W c d σ H'
structure DI (G : Gd) (X : Cx) (W : WX) (tg e : Expr) (it : Xi) : Prop where
  ex : ∃ wi, PI X tg e wi ∧ ∀ σ H R, TIt G W it σ H R → wi σ H R

section
variable {G : Gd} {X : Cx} {W : WX}
theorem WalkI.later {J : It} {xs ys : List D} {n : Option Nat} {m0 m : List Addr} {H0 H : Hp} (w : WalkI G J xs n ys m0 H0) (s : Stp m0 H0 m H) : WalkI G J xs n ys m H :=
  ⟨fun i m1 H1 M1 t => w.go i m1 H1 M1 (s.trans t), fun m1 H1 M1 t => w.stop m1 H1 M1 (s.trans t)⟩

theorem ds_for {tg iter : Expr} {it : Xi} {t : Tg} {body : List Stmt} {s : Xs} {pos : Pos} (hp : PassesOwn (model X.prog X.w) X.A X.env X.xe) (hc : X.calm = true) (hi : DI G X W tg iter it) (hg : DG G X W tg t) (hb : DSs G X W body s)
    (hs : ∀ x, foldedSetIterable iter X.env x = pure x := by intro _; rfl) : DS G X W (.For tg iter body [] pos) (sFor it t s) := by
  obtain ⟨wi, hwi, imp⟩ := hi.ex
  refine PS.of (ps_for hp hc hwi hg hb hs) fun D σ H q => ?_
  obtain ⟨m, r, M, si, q⟩ := q
  refine imp σ H _ ⟨m, r, M, si, GSO.bind q si fun p M1 J H1 m1 s1 si1 wk q1 => ?_⟩
  obtain ⟨xs, n, ys⟩ := p
  have wk : WalkI G J xs n ys m1 H1 := wk
  have q1 : GSO G m1 H1 W D (forL n ys t s xs r M1) := q1
  refine ⟨fun i k σ' H' => ∃ m' r' M', Stp m1 H1 m' H' ∧ Sim G m' H' σ' r' M' ∧ k = xs.length - i ∧ i ≤ xs.length ∧ GSO G m' H' W D (forL n ys t s (xs.drop i) r' M'), ⟨xs.length, m1, r, M1, .refl, si1, rfl, Nat.zero_le _, q1⟩, ?_⟩
  rintro i k σ' H' ⟨m', r', M', st, si', rfl, hi, q'⟩
  by_cases hlt : i < xs.length
  · have ed : xs.drop i = xs[i] :: xs.drop (i + 1) := List.drop_eq_getElem_cons hlt
    rw [ed] at q'
    unfold forL at q'
    split at q'
    · rename_i hst
      obtain ⟨g1, g2⟩ := wk.go i m' H' M' st si'.2 hst hlt
      refine .inr ⟨g1, fun σ2 H2 => ∃ m2 r2 M2, Stp m1 H1 m2 H2 ∧ Sim G m2 H2 σ2 r2 M2 ∧ GSO G m2 H2 W D (forL n ys t s (xs.drop (i + 1)) r2 M2), fun σ2 H2 ⟨m2, r2, M2, a, b, c⟩ => ⟨xs.length - (i + 1), by omega, m2, r2, M2, a, b, rfl, hlt, c⟩, fun v H2 y => ?_⟩
      obtain ⟨y1, y2, d, y3, y4⟩ := g2 v H2 y
      have ed' : d = xs[i] := by
        rw [List.getElem?_eq_getElem hlt] at y3
        exact (Option.some.inj y3).symm
      subst ed'
      refine ⟨m', r', M', xs[i], si'.later y1 y2, y4, ?_⟩
      generalize t xs[i] r' M' = o at q'
      cases o with
      | nx r1 M2 =>
        intro σ3 H3 m3 s3 si3
        refine ⟨m3, r1, M2, si3, ?_⟩
        have st3 : Stp m1 H1 m3 H3 := (st.trans y1).trans s3
        dsimp only at q'
        generalize s r1 M2 = o2 at q'
        cases o2 with
        | nx r2 M3 => exact fun σ4 H4 m4 s4 si4 => ⟨m4, r2, M3, st3.trans s4, si4, GSO.later (o := forL n ys t s (xs.drop (i + 1)) r2 M3) q' ((y1.trans s3).trans s4)⟩
        | ct r2 M3 => exact fun σ4 H4 m4 s4 si4 => ⟨m4, r2, M3, st3.trans s4, si4, GSO.later (o := forL n ys t s (xs.drop (i + 1)) r2 M3) q' ((y1.trans s3).trans s4)⟩
        | bk r2 M3 => exact fun σ4 H4 m4 s4 si4 => q' σ4 H4 m4 ((y1.trans s3).trans s4) si4
        | rt d M3 => exact fun v H4 m4 s4 mo4 rp => q' v H4 m4 ((y1.trans s3).trans s4) mo4 rp
        | er c fs r2 M3 => exact fun d kv σ4 H4 m4 s4 si4 => q' d kv σ4 H4 m4 ((y1.trans s3).trans s4) si4
        | stk => exact q'
      | _ => exact q'.elim
    · exact q'.elim
  · have e : i = xs.length := by omega
    subst e
    rw [List.drop_length] at q'
    unfold forL at q'
    split at q'
    · rename_i hst
      exact .inl ⟨wk.stop m' H' M' st si'.2 hst, q' σ' H' m' .refl si'⟩
    · exact q'.elim


theorem at_rep {K : PySem.W.Frag} {H : Hp} {m : List Addr} {vs : List V} {ds : List D} (r : Reps K H m vs ds) {i : Nat} {v : V} (e : vs[i]? = some v) : ∃ d, ds[i]? = some d ∧ Rep K H m v d := r.get' i v e
theorem walk_tupI {a : Addr} {vs : List V} {ds : List D} {m : List Addr} {H : Hp} {M : Mem} (mo : MemOk G.K H m M) (hs : SqT G.K H a vs) (r : Reps G.K H m vs ds) : WalkI G (Itt G.K a) ds none [] m H where
  go := fun i m1 H1 M1 s o1 _ hi => by
    have hs1 := (s.car mo).tup _ _ hs
    have hv : i < vs.length := by rw [r.length]; exact hi
    refine ⟨⟨vs, vs[i], hs1, by simp [hv]⟩, fun v H' y => ?_⟩
    obtain ⟨e, y⟩ := y
    subst e
    obtain ⟨d, e1, e2⟩ := at_rep r (y vs hs1)
    exact ⟨.refl, o1, d, e1, e2.car (s.car mo)⟩
  stop := fun m1 H1 M1 s o1 _ => ⟨vs, (s.car mo).tup _ _ hs, by rw [r.length]; exact Nat.le_refl _⟩
theorem sq_stand {n : Nat} {a : Addr} {xs : List D} {m1 : List Addr} {H1 : Hp} {M1 : Mem} (o1 : MemOk G.K H1 m1 M1) (hn : m1[n]? = some a) (st : stands M1 (some n) xs) : ∃ vs, SqL G.K H1 a vs ∧ Reps G.K H1 m1 vs xs := by
  obtain ⟨vs, h1, h2⟩ := o1.ob _ _ _ hn st
  exact ⟨vs, .of h1, h2⟩
theorem walk_fzI {a : Addr} {vs : List V} {ds : List D} {m : List Addr} {H : Hp} {M : Mem} (mo : MemOk G.K H m M) (hs : FzL G.K H a vs) (r : Reps G.K H m vs ds) : WalkI G (Itl G.K a) ds none [] m H where
  go := fun i m1 H1 M1 s o1 _ hi => by
    have hs1 := ((s.car mo).frz _ _ hs).sq
    have hv : i < vs.length := by rw [r.length]; exact hi
    refine ⟨⟨vs, vs[i], hs1, by simp [hv]⟩, fun v H' y => ?_⟩
    obtain ⟨e, y⟩ := y
    subst e
    obtain ⟨d, e1, e2⟩ := at_rep r (y vs hs1)
    exact ⟨.refl, o1, d, e1, e2.car (s.car mo)⟩
  stop := fun m1 H1 M1 s o1 _ => ⟨vs, ((s.car mo).frz _ _ hs).sq, by rw [r.length]; exact Nat.le_refl _⟩
theorem walk_lstI {n : Nat} {a : Addr} {xs : List D} {m : List Addr} {H : Hp} (hn : m[n]? = some a) : WalkI G (Itl G.K a) xs (some n) xs m H where
  go := fun i m1 H1 M1 s o1 st hi => by
    obtain ⟨k, rfl⟩ := s.more
    have hn1 : (m ++ k)[n]? = some a := by rw [List.getElem?_append_left (List.getElem?_eq_some_iff.mp hn).1]; exact hn
    obtain ⟨vs, h1, h2⟩ := sq_stand o1 hn1 st
    have hv : i < vs.length := by rw [h2.length]; exact hi
    refine ⟨⟨vs, vs[i], h1, by simp [hv]⟩, fun v H' y => ?_⟩
    obtain ⟨e, y⟩ := y
    subst e
    obtain ⟨d, e1, e2⟩ := at_rep h2 (y vs h1)
    exact ⟨.refl, o1, d, e1, e2⟩
  stop := fun m1 H1 M1 s o1 st => by
    obtain ⟨k, rfl⟩ := s.more
    have hn1 : (m ++ k)[n]? = some a := by rw [List.getElem?_append_left (List.getElem?_eq_some_iff.mp hn).1]; exact hn
    obtain ⟨vs, h1, h2⟩ := sq_stand o1 hn1 st
    exact ⟨vs, h1, by rw [h2.length]; exact Nat.le_refl _⟩
def iAny (K : PySem.W.Frag) (tl : TE) : TI := fun σ H R => tl σ H fun x H1 => ∃ a, x = .ref a ∧ (((∃ xs, SqL K H1 a xs) ∧ R (Itl K a) H1) ∨ ((∃ xs, SqT K H1 a xs) ∧ R (Itt K a) H1))
theorem pi_any {tg l : Expr} {tl : TE} (hl : PE X l tl) : PI X tg l (iAny X.K tl) := by
  refine ⟨fun pins s σ H R I h => ?_⟩
  refine thn (hl.run pins s σ H _ I h) fun v s1 hv => ?_
  obtain ⟨x, H1, I1, r1, a, e, q⟩ := hv
  subst e
  cases r1
  have lay : ∀ (t : Obj) (tg' : Expr), Inv X pins σ H1 { s1 with heap := s1.heap.push t } ∧ ∀ b ∈ [s1.heap.objs.size], FpOk X pins H1 b := fun t _ =>
    ⟨I1.kept (t' := s1.toks) fun b o z => Heap.get?_push_of_some _ z, fun b hb => by
      rw [List.mem_singleton.mp hb]
      exact I1.fpOk (Nat.le_refl _) (I1.hok.fresh (Nat.le_refl _))⟩
  rcases q with ⟨⟨xs, hx⟩, q⟩ | ⟨⟨xs, hx⟩, q⟩
  · obtain ⟨its, rv, p, hz⟩ := I1.list hx
    refine wpAny_pyIter_list p.isList ?_
    exact ⟨_, [s1.heap.objs.size], _, _, H1, rfl, (lay _ tg).1, turn_list a _, ⟨_, Heap.get?_push_size _ rfl, rfl, rfl⟩, (lay default tg).2, q⟩
  · obtain ⟨its, rv, p, hz⟩ := I1.tuple hx
    refine wpAny_pyIter_tuple (show s1.heap.IsTuple a its.toArray from p) ?_
    exact ⟨_, [s1.heap.objs.size], _, _, H1, rfl, (lay _ tg).1, turn_tuple a _, ⟨_, Heap.get?_push_size _ rfl, rfl, rfl⟩, (lay default tg).2, q⟩
theorem di_any {tg e : Expr} {f : Xp} (hK : G.K = X.K) (he : DE G X W e f) : DI G X W tg e (iSeq f) := by
  refine ⟨_, pi_any he, fun σ H R q => ?_⟩
  obtain ⟨m, r, M, si, q⟩ := q
  refine ⟨m, r, M, si, GOut.bind q fun dx M1 x H1 m1 s1 o1 r1 q1 => ?_⟩
  rw [← hK]
  cases r1 with
  | @tup a vs ds hs r2 => exact ⟨a, rfl, .inr ⟨⟨vs, hs⟩, GOut.ret (a := (ds, none, [])) (M := M1) q1 o1 (walk_tupI o1 hs r2)⟩⟩
  | @fz a vs ds hs r2 => exact ⟨a, rfl, .inl ⟨⟨vs, hs.sq⟩, GOut.ret (a := (ds, none, [])) (M := M1) q1 o1 (walk_fzI o1 hs r2)⟩⟩
  | @loc a n hn =>
    dsimp only at q1
    split at q1
    · rename_i xs e1
      obtain ⟨vs, a1, r2⟩ := o1.ob _ _ _ hn e1
      exact ⟨a, rfl, .inl ⟨⟨vs, .of a1⟩, GOut.ret (a := (xs, some n, xs)) (M := M1) q1 o1 (walk_lstI hn)⟩⟩
    · exact q1.elim
  | _ => exact q1.elim
theorem upFrom_len : ∀ (n : Nat) (lo : Int), (upFrom lo n).length = n
  | 0, _ => rfl
  | n + 1, lo => by rw [upFrom, List.length_cons, upFrom_len n]
theorem upFrom_get : ∀ (n : Nat) (lo : Int) (i : Nat), i < n → (upFrom lo n)[i]? = some (.int (lo + i))
  | n + 1, lo, 0, _ => by simp [upFrom]
  | n + 1, lo, i + 1, h => by
    rw [upFrom, List.getElem?_cons_succ, upFrom_get n (lo + 1) i (by omega)]
    congr 2
    omega
theorem walk_rngI {lo : Int} {n : Nat} {m : List Addr} {H : Hp} : WalkI G (Itr lo n) (upFrom lo n) none [] m H where
  go := fun i m1 H1 M1 s o1 _ hi => by
    rw [upFrom_len] at hi
    refine ⟨hi, fun v H' y => ?_⟩
    obtain ⟨e, y⟩ := y
    subst e y
    exact ⟨.refl, o1, _, upFrom_get n lo i hi, .int _⟩
  stop := fun m1 H1 M1 s o1 _ => by
    rw [upFrom_len]
    exact Nat.le_refl n
theorem di_range1 {tg a : Expr} {f : Xp} {p pos : Pos} (hg : Gl X "range") (hm : X.mg "range" = none) (ha : DE G X W a f) (hs : starEach [a] X.env = [(false, eval a X.env)] := by rfl) : DI G X W tg (.Call (.Name "range" p) [a] [] pos) (iRange1 f) := by
  refine ⟨_, pi_range1 hg hm (pa_cons ha pa_nil hs) hs, fun σ H R q => ?_⟩
  obtain ⟨m, r, M, si, q⟩ := q
  refine ⟨m, r, M, si, GOut.bind q fun dx M1 x H1 m1 s1 o1 r1 q1 => ?_⟩
  cases r1 with
  | int j =>
    dsimp only at q1
    split at q1
    · rename_i hz
      exact ⟨j, rfl, hz.1, hz.2, GOut.ret q1 o1 walk_rngI⟩
    · exact q1.elim
  | _ => exact q1.elim
theorem di_range2 {tg a b : Expr} {f g : Xp} {p pos : Pos} (hg : Gl X "range") (hm : X.mg "range" = none) (ha : DE G X W a f) (hb : DE G X W b g) (hs : starEach [a, b] X.env = [(false, eval a X.env), (false, eval b X.env)] := by rfl) (hs2 : starEach [b] X.env = [(false, eval b X.env)] := by rfl) :
    DI G X W tg (.Call (.Name "range" p) [a, b] [] pos) (iRange2 f g) := by
  refine ⟨_, pi_range2 hg hm (pa_cons ha (pa_cons hb pa_nil hs2) (by rw [hs, hs2])) hs hs2, fun σ H R q => ?_⟩
  obtain ⟨m, r, M, si, q⟩ := q
  refine ⟨m, r, M, si, GOut.bind q fun dx M1 x H1 m1 s1 o1 r1 q1 => ⟨m1, r, M1, si.later s1 o1, GOut.bind q1 fun dy M2 y H2 m2 s2 o2 r2 q2 => ?_⟩⟩
  cases r1 with
  | int i =>
    cases r2 with
    | int j =>
      dsimp only at q2
      split at q2
      · rename_i hz
        exact ⟨i, j, rfl, hz, GOut.ret q2 o2 walk_rngI⟩
      · exact q2.elim
    | _ => exact q2.elim
  | _ => cases r2 <;> exact q2.elim


theorem ds_while {c : Expr} {fc : Xb} {body : List Stmt} {s : Xs} {pos : Pos} (hp : PassesOwn (model X.prog X.w) X.A X.env X.xe) (hc : DT G X W c fc) (hb : DSs G X W body s) : DS G X W (.While c body [] pos) (sWhile fc s) := by
  refine PS.of (ps_while hp hc hb) fun D σ H q => ?_
  obtain ⟨m, r, M, si, q⟩ := q
  unfold sWhile at q
  split at q
  · rename_i h
    refine ⟨fun k σ' H' => ∃ m' r' M', Sim G m' H' σ' r' M' ∧ GSO G m' H' W D (whL fc s k r' M'), ⟨_, m, r, M, si, q⟩, ?_⟩
    rintro k σ' H' ⟨m', r', M', si', q'⟩
    cases k with
    | zero => exact q'.elim
    | succ k =>
      unfold whL at q'
      refine ⟨m', r', M', si', GSO.bind q' si' fun b M1 b' H1 m1 s1 si1 e1 q1 => ?_⟩
      cases e1
      cases b with
      | false => exact q1 σ' H1 m1 .refl si1
      | true =>
        refine ⟨fun σ2 H2 => ∃ m2 r2 M2, Sim G m2 H2 σ2 r2 M2 ∧ GSO G m2 H2 W D (whL fc s k r2 M2), fun σ2 H2 ⟨m2, r2, M2, a, b⟩ => ⟨k, Nat.lt_succ_self k, m2, r2, M2, a, b⟩, m1, r', M1, si1, ?_⟩
        rw [if_pos rfl] at q1
        generalize s r' M1 = o at q1
        cases o with
        | nx r2 M2 => exact fun σ2 H2 m2 s2 si2 => ⟨m2, r2, M2, si2, GSO.later (o := whL fc s k r2 M2) q1 s2⟩
        | ct r2 M2 => exact fun σ2 H2 m2 s2 si2 => ⟨m2, r2, M2, si2, GSO.later (o := whL fc s k r2 M2) q1 s2⟩
        | bk r2 M2 => exact q1
        | rt d M2 => exact q1
        | er c fs r2 M2 => exact q1
        | stk => exact q1
  · exact q.elim
end
end PV

set_option Elab.async false
set_option linter.all false
set_option maxRecDepth 100000
set_option maxHeartbeats 2000000

namespace PV
open PySem PySem.Spec PyProof.Rows L2

section
variable {K : PySem.W.Frag} {H : Hp} {m : List Addr}
theorem MemOk.adopt {M : Mem} {p : Addr} {vs : List V} {ds : List D} (h : MemOk K H m M) (hp : p ∉ m) (e : H p = some (.lst vs)) (r : Reps K H m vs ds) : MemOk K H (m ++ [p]) (M ++ [.lst ds]) := by
  have c : Car K H m H (m ++ [p]) := ⟨fun _ _ h => h, fun _ _ h => h, fun n a q => by rw [List.getElem?_append_left (List.getElem?_eq_some_iff.mp q).1]; exact q⟩
  refine ⟨by rw [List.length_append, List.length_append, h.len] <;> rfl, ?_, fun n a o e1 e2 => ?_⟩
  · rw [List.nodup_append]
    exact ⟨h.nd, by simp, fun a ha b hb => by
      rw [List.mem_singleton.mp hb]
      exact fun z => hp (z ▸ ha)⟩
  · by_cases hn : n < m.length
    · rw [List.getElem?_append_left hn] at e1
      rw [List.getElem?_append_left (by rw [← h.len]; exact hn)] at e2
      exact (h.ob n a o e1 e2).keep c rfl
    · have en : n = m.length := by
        have := (List.getElem?_eq_some_iff.mp e1).1
        rw [List.length_append, List.length_singleton] at this
        omega
      rw [en, List.getElem?_append_right (Nat.le_refl _), Nat.sub_self] at e1
      rw [en, h.len, List.getElem?_append_right (Nat.le_refl _), Nat.sub_self] at e2
      simp at e1 e2
      subst e1
      subst e2
      exact ⟨vs, e, r.car c⟩
theorem car_aside {p : Addr} {vs ws : List V} (hp : p ∉ m) (e : H p = some (.lst vs)) : Car K H m (upd H p (.lst ws)) m :=
  ⟨fun a us q => by
    rcases q with (q | ⟨o, q⟩) | q
    · exact .inl (.inl ((upd_ne (ne_of q e (by intro z; cases z))).trans q))
    · exact .inl (.inr ⟨o, (upd_ne (ne_of q e (by intro z; cases z))).trans q⟩)
    · exact .inr q, fun a us q => by
    rcases q with ⟨o, q⟩ | q
    · exact .inl ⟨o, (upd_ne (ne_of q e (by intro z; cases z))).trans q⟩
    · exact .inr q, fun _ _ q => q⟩
theorem MemOk.aside {M : Mem} {p : Addr} {vs ws : List V} (h : MemOk K H m M) (hp : p ∉ m) (e : H p = some (.lst vs)) : MemOk K (upd H p (.lst ws)) m M :=
  ⟨h.len, h.nd, fun n a o e1 e2 => (h.ob n a o e1 e2).keep (car_aside hp e) (upd_ne fun z => hp (z ▸ List.mem_of_getElem? e1))⟩
theorem wipe_get (σ : Sl) : ∀ (vs : List Nat) (i : Nat), i ∉ vs → (wipe σ vs)[i]? = σ[i]?
  | [], _, _ => rfl
  | j :: l, i, h => by
    have h1 : i ≠ j := fun z => h (by rw [z]; exact List.mem_cons_self)
    have h2 : i ∉ l := fun z => h (List.mem_cons_of_mem _ z)
    show ((wipe σ l).set j none)[i]? = σ[i]?
    rw [List.getElem?_set_ne (Ne.symm h1), wipe_get σ l i h2]
theorem wipe_in (σ : Sl) : ∀ (vs : List Nat) (i : Nat), i ∈ vs → i < σ.length → (wipe σ vs)[i]? = some none
  | j :: l, i, h, hi => by
    show ((wipe σ l).set j none)[i]? = some none
    by_cases z : j = i
    · subst z
      rw [List.getElem?_set_self (by rw [wipe_length]; exact hi)]
    · rw [List.getElem?_set_ne z]
      exact wipe_in σ l i ((List.mem_cons.mp h).resolve_left fun q => z q.symm) hi
theorem wipe_eq {σ τ : Sl} {vs : List Nat} (hl : σ.length = τ.length) (h : ∀ i, i ∉ vs → σ[i]? = τ[i]?) : wipe σ vs = wipe τ vs := by
  apply List.ext_getElem?
  intro i
  by_cases hi : i ∈ vs
  · by_cases hlt : i < σ.length
    · rw [wipe_in σ vs i hi hlt, wipe_in τ vs i hi (by rw [← hl]; exact hlt)]
    · rw [List.getElem?_eq_none (by rw [wipe_length]; omega), List.getElem?_eq_none (by rw [wipe_length]; omega)]
  · rw [wipe_get σ vs i hi, wipe_get τ vs i hi, h i hi]
theorem wipe_wipe (σ : Sl) (vs : List Nat) : wipe (wipe σ vs) vs = wipe σ vs := wipe_eq (wipe_length _ _) fun i hi => wipe_get σ vs i hi
theorem wipe_set (σ : Sl) (vs : List Nat) {i : Nat} (x : Option V) (hi : i ∈ vs) : wipe (σ.set i x) vs = wipe σ vs :=
  wipe_eq (List.length_set ..) fun j hj => by rw [List.getElem?_set_ne fun z => hj (by rw [← z]; exact hi)]
theorem wipeE_len (r : Ev) : ∀ vs : List Nat, (wipeE r vs).length = r.length
  | [] => rfl
  | i :: l => by rw [wipeE, List.length_set, wipeE_len r l]
theorem EnvOk.wipe {σ : Sl} {r : Ev} (h : EnvOk K H m σ r) (vs : List Nat) : EnvOk K H m (L2.wipe σ vs) (wipeE r vs) := by
  refine ⟨by rw [wipe_length, wipeE_len, h.len], ?_⟩
  induction vs with
  | nil => exact h.at_
  | cons j l ih =>
    intro i d e
    have e' : ((wipeE r l).set j none)[i]? = some (some d) := e
    by_cases z : j = i
    · subst z
      by_cases hlt : j < (wipeE r l).length
      · rw [List.getElem?_set_self hlt] at e'
        cases e'
      · rw [List.getElem?_eq_none (by rw [List.length_set]; omega)] at e'
        cases e'
    · rw [List.getElem?_set_ne z] at e'
      obtain ⟨v, h1, h2⟩ := ih i d e'
      refine ⟨v, ?_, h2⟩
      show ((L2.wipe σ l).set j none)[i]? = _
      rw [List.getElem?_set_ne z]
      exact h1
end

abbrev W0 : WX := fun _ _ _ _ => False
def CG (G : Gd) (vs : List Nat) (g : TG) (t : Tg) : Prop := ∀ (v : V) (d : D) (σ : Sl) (r r1 : Ev) (M M1 : Mem) (m : List Addr) (H : Hp) (Q : Sl → Hp → Prop), Sim G m H σ r M → Rep G.K H m v d → t d r M = .nx r1 M1 →
  (∀ σ1, Sim G m H σ1 r1 M1 → wipe σ1 vs = wipe σ vs → Q σ1 H) → g v σ H Q
section
variable {G : Gd} {X : Cx} {W : WX}
theorem cg_name {vs : List Nat} (i : Nat) (hi : i ∈ vs) : CG G vs (gName i) (tName i) := by
  intro v d σ r r1 M M1 m H Q si rp e k
  cases e
  exact k _ ⟨si.1.set i rp, si.2⟩ (wipe_set σ vs _ hi)
def CGs (G : Gd) (vs : List Nat) (g : TGs) (t : Tgs) : Prop := ∀ (us : List V) (ds : List D) (σ : Sl) (r r1 : Ev) (M M1 : Mem) (m : List Addr) (H : Hp) (Q : Sl → Hp → Prop), Sim G m H σ r M → Reps G.K H m us ds → t ds r M = .nx r1 M1 →
  (∀ σ1, Sim G m H σ1 r1 M1 → wipe σ1 vs = wipe σ vs → Q σ1 H) → g us σ H Q
theorem cgs_nil {vs : List Nat} : CGs G vs gNil tsNil := by
  intro us ds σ r r1 M M1 m H Q si rp e k
  cases rp with
  | nil =>
    cases e
    exact ⟨rfl, k σ si rfl⟩
  | cons _ _ => cases e
theorem cgs_cons {vs : List Nat} {g : TG} {gs : TGs} {t : Tg} {u : Tgs} (h1 : CG G vs g t) (h2 : CGs G vs gs u) : CGs G vs (gCons g gs) (tsCons t u) := by
  intro us ds σ r r1 M M1 m H Q si rp e k
  cases rp with
  | nil => cases e
  | @cons v vr d dr q1 q2 =>
    refine ⟨v, vr, rfl, ?_⟩
    unfold tsCons at e
    dsimp only at e
    split at e
    · rename_i r2 M2 e2
      exact h1 v d σ r r2 M M2 m H _ si q1 e2 fun σ1 s1 w1 => h2 vr dr σ1 r2 r1 M2 M1 m H _ s1 q2 e fun σ2 s2 w2 => k σ2 s2 (w2.trans w1)
    · rename_i h
      exact (h r1 M1 e).elim
theorem cg_tup {vs : List Nat} {gs : TGs} {u : Tgs} {n : Nat} (h : CGs G vs gs u) : CG G vs (gTup G.K n gs) (tTup n u) := by
  intro v d σ r r1 M M1 m H Q si rp e k
  cases rp with
  | @tup a us ds hs r2 =>
    unfold tTup at e
    dsimp only at e
    split at e
    · rename_i hl
      exact ⟨a, us, rfl, hs, by rw [r2.length]; exact hl, h us ds σ r r1 M M1 m H Q si r2 e k⟩
    · cases e
  | _ => cases e

theorem lc_of {wi : TI} {it : Xi} {g : TG} {t : Tg} {c : Xb} {f : Xp} {vs : List Nat} (imp : ∀ σ H R, TIt G W it σ H R → wi σ H R) (hcg : CG G vs g t) (σ : Sl) (H : Hp) (Q : VK) (q : TD G W (xLc it t c f vs) σ H Q) : tLc wi g (TB G W0 c) (TD G W0 f) vs σ H Q := by
  obtain ⟨m, r, M, si, q⟩ := q
  refine imp σ H _ ⟨m, r, M, si, GOut.bind q fun p M1 J H1 m1 s1 o1 wk q1 => fun D hD => ?_⟩
  obtain ⟨xs, n, ys⟩ := p
  have wk : WalkI G J xs n ys m1 H1 := wk
  dsimp only at q1
  have si1 := si.later s1 o1
  have nD : D ∉ m1 := fun z => by
    obtain ⟨_, ob, _, _, w⟩ := o1.mem z
    rcases w.is with ⟨ws, z⟩ | ⟨kws, z⟩ | ⟨od, kws, z⟩ <;> rw [hD] at z <;> cases z
  split at q1
  · rename_i ds M2 e0
    split at q1
    · rename_i hz
      have inv : ∃ Inv : Nat → Nat → Hp → Prop, Inv = fun i k H' => ∃ (m' : List Addr) (M' : Mem) (acc : List V) (accD rest : List PV.D), Stp m1 H1 m' H' ∧ D ∉ m' ∧ H' D = some (.lst acc) ∧ MemOk G.K H' m' M' ∧ Reps G.K H' m' acc accD ∧
          lcL n ys t c f (wipeE r vs) (xs.drop i) M' = .ok rest M2 ∧ accD ++ rest = ds ∧ k = xs.length - i ∧ i ≤ xs.length := ⟨_, rfl⟩
      obtain ⟨Inv, hInv⟩ := inv
      refine ⟨Inv, ⟨xs.length, ?_⟩, ?_⟩
      · rw [hInv]
        exact ⟨m1, M1, [], [], ds, Stp.fresh hD, nD, upd_same, o1.fresh hD, .nil, e0, rfl, rfl, Nat.zero_le _⟩
      · intro i k H' w
        rw [hInv] at w
        obtain ⟨m', M', acc, accD, rest, st, nD', eD, o', ra, el, ea, rfl, hi⟩ := w
        by_cases hlt : i < xs.length
        · have ed : xs.drop i = xs[i] :: xs.drop (i + 1) := List.drop_eq_getElem_cons hlt
          rw [ed] at el
          unfold lcL at el
          split at el
          · rename_i hst
            obtain ⟨g1, g2⟩ := wk.go i m' H' M' st o' hst hlt
            refine .inr ⟨g1, fun H'' => ∃ k', k' < xs.length - i ∧ Inv (i + 1) k' H'', fun H'' h => h, fun v H2 y => ?_⟩
            obtain ⟨y1, y2, d, y3, y4⟩ := g2 v H2 y
            have ed' : d = xs[i] := by
              rw [List.getElem?_eq_getElem hlt] at y3
              exact (Option.some.inj y3).symm
            subst ed'
            have eD2 : H2 D = some (.lst acc) := y1.oth D _ eD nD'
            split at el
            · rename_i r1 M3 et
              have siw : Sim G m' H2 (wipe σ vs) (wipeE r vs) M' := ⟨(si1.1.car ((st.trans y1).car si1.2)).wipe vs, y2⟩
              refine hcg v _ _ _ r1 M' M3 m' H2 _ siw y4 et fun σ1 sg wg => ⟨wg.trans (wipe_wipe σ vs), ?_⟩
              split at el
              · rename_i b M4 ec
                refine ⟨m', r1, M3, sg, ?_⟩
                rw [ec]
                intro b' H3 m3 s3 o3 eb
                have eb' : b' = b := eb
                subst eb'
                have nD3 : D ∉ m3 := fun z => (s3.new D z).elim nD' fun z => by rw [eD2] at z; cases z
                have eD3 : H3 D = some (.lst acc) := s3.oth D _ eD2 nD'
                split at el
                · rename_i hb
                  subst hb
                  rw [if_pos rfl]
                  split at el
                  · rename_i dd M5 ef
                    refine ⟨m3, r1, M4, sg.later s3 o3, ?_⟩
                    rw [ef]
                    intro yv H4 m4 s4 o4 ry
                    split at el
                    · rename_i rest' M6 er
                      cases el
                      have nD4 : D ∉ m4 := fun z => (s4.new D z).elim nD3 fun z => by rw [eD3] at z; cases z
                      have eD4 : H4 D = some (.lst acc) := s4.oth D _ eD3 nD3
                      have ra4 : Reps G.K H4 m4 acc accD := ((ra.car (y1.car o')).car (s3.car y2)).car (s4.car o3)
                      have st4 : Stp m1 H1 m4 H4 := ((st.trans y1).trans s3).trans s4
                      have lt : acc.length < sizeLine := by
                        rw [← szL, ra4.length]
                        have := congrArg List.length ea
                        rw [List.length_append, List.length_cons] at this
                        omega
                      refine ⟨acc, eD4, lt, xs.length - (i + 1), by omega, ?_⟩
                      rw [hInv]
                      refine ⟨m4, M5, acc ++ [yv], accD ++ [dd], rest', ⟨st4.more, fun a o z1 z2 => ?_, st4.new⟩, nD4, upd_same, o4.aside nD4 eD4, (ra4.app (.cons ry .nil)).car (car_aside nD4 eD4), er, by rw [List.append_assoc]; exact ea, rfl, hlt⟩
                      rw [upd_ne fun z => by rw [z, hD] at z1; cases z1]
                      exact st4.oth a o z1 z2
                    · cases el
                  · cases el
                · rename_i hb
                  rw [if_neg hb]
                  refine ⟨xs.length - (i + 1), by omega, ?_⟩
                  rw [hInv]
                  exact ⟨m3, M4, acc, accD, rest, (st.trans y1).trans s3, nD3, eD3, o3, (ra.car (y1.car o')).car (s3.car y2), el, ea, rfl, hlt⟩
              · cases el
            · cases el
          · cases el
        · have e : i = xs.length := by omega
          subst e
          rw [List.drop_length] at el
          unfold lcL at el
          split at el
          · rename_i hst
            cases el
            rw [List.append_nil] at ea
            subst ea
            refine .inl ⟨wk.stop m' H' _ st o' hst, ?_⟩
            obtain ⟨nn, en⟩ := st.more
            refine q1 (.ref D) H' (m' ++ [D]) ⟨⟨nn ++ [D], by rw [en, List.append_assoc]⟩, st.oth, fun a ha => ?_⟩ (o'.adopt nD' eD ra) (.loc ?_)
            · rcases List.mem_append.mp ha with ha | ha
              · exact st.new a ha
              · rw [List.mem_singleton.mp ha]
                exact .inr hD
            · rw [← o'.len, List.getElem?_append_right (Nat.le_refl _), Nat.sub_self]
              rfl
          · cases el
    · exact q1.elim
  · exact q1.elim

theorem pts_nil' {X : Cx} : PTs X [] (TB G W0 bTrue) := ⟨fun pins s σ H Q I h => pts_nil.run pins s σ H Q I (by
  obtain ⟨m, r, M, si, q⟩ := h
  exact q true H m .refl si.2 rfl)⟩
theorem pts_one' {X : Cx} {c : Expr} {f : Xb} (h : DT G X W0 c f) : PTs X [c] (TB G W0 f) := pts_one h
theorem de_lc {elt tg iter : Expr} {ifs : List Expr} {scope : Scope} {own : List (Str × Nat)} {pos : Pos} {it : Xi} {g : TG} {t : Tg} {c : Xb} {f : Xp} (hc : X.calm = true) (hN : X.N.Nodup) (hi : DI G X W tg iter it) (ok : BlkOk X.N X.env.scope scope own)
    (hcg : CG G (own.map (·.2)) g t) (hg : ∀ (s : Shared) (H : Hp) (C : Addr) (cl : List (Str × Addr)) (fp : List Addr), PG (X.blk s H scope (compEnvC scope cl C X.env) fp) tg g)
    (ht : ∀ (s : Shared) (H : Hp) (C : Addr) (cl : List (Str × Addr)) (fp : List Addr), PTs (X.blk s H scope (compEnvC scope cl C X.env) fp) ifs (TB G W0 c))
    (he : ∀ (s : Shared) (H : Hp) (C : Addr) (cl : List (Str × Addr)) (fp : List Addr), DE G (X.blk s H scope (compEnvC scope cl C X.env) fp) W0 elt f) (hs : ∀ x, foldedSetIterable iter X.env x = pure x := by intro _; rfl) :
    DE G X W (.ListComp elt [⟨tg, iter, ifs, 0⟩] scope pos) (xLc it t c f (own.map (·.2))) := by
  obtain ⟨wi, h1, h2⟩ := hi.ex
  exact PE.of (pe_lc hc hN h1 ok hg ht he hs) (lc_of h2 hcg)
theorem ds_setLc {i : Nat} {y : Str} {py : Pos} {elt tg iter : Expr} {ifs : List Expr} {scope : Scope} {own : List (Str × Nat)} {pos spos : Pos} {it : Xi} {g : TG} {t : Tg} {c : Xb} {f : Xp} (hc : X.calm = true) (hN : X.N.Nodup)
    (hsw : swapsWith (.ListComp elt [⟨tg, iter, ifs, 0⟩] scope pos) (some (.Name y py)) spos.line X.env = pure true) (hi : DI G X W tg iter it) (ok : BlkOk X.N X.env.scope scope own)
    (hcg : CG G (own.map (·.2)) g t) (hg : ∀ (s : Shared) (H : Hp) (C : Addr) (cl : List (Str × Addr)) (fp : List Addr), PG (X.blk s H scope (compEnvC scope cl C X.env) fp) tg g)
    (ht : ∀ (s : Shared) (H : Hp) (C : Addr) (cl : List (Str × Addr)) (fp : List Addr), PTs (X.blk s H scope (compEnvC scope cl C X.env) fp) ifs (TB G W0 c))
    (he : ∀ (s : Shared) (H : Hp) (C : Addr) (cl : List (Str × Addr)) (fp : List Addr), DE G (X.blk s H scope (compEnvC scope cl C X.env) fp) W0 elt f)
    (hy : X.N[i]? = some y := by rfl) (hyl : X.env.scope.names.lookup y = some .local := by rfl) (hs : ∀ x, foldedSetIterable iter X.env x = pure x := by intro _; rfl) :
    DS G X W (.Assign [.Name y py] (.ListComp elt [⟨tg, iter, ifs, 0⟩] scope pos) spos) (sSet i (xLc it t c f (own.map (·.2)))) := by
  obtain ⟨wi, h1, h2⟩ := hi.ex
  refine PS.of (ps_setLc hc hN hy hyl hsw h1 ok hg ht he hs) fun D σ H q => ?_
  obtain ⟨m, r, M, si, q⟩ := q
  exact lc_of h2 hcg σ H _ ⟨m, r, M, si, GSO.bind q si fun d M1 v H1 m1 s1 si1 r1 q1 => q1 _ H1 m1 .refl ⟨si1.1.set i r1, si1.2⟩⟩
end
end PV

set_option Elab.async false
set_option linter.all false
set_option maxRecDepth 100000
set_option maxHeartbeats 2000000

namespace PV
namespace Er
open PySem PySem.W PySem.Calls PyProof.Rows PySem.HandSPX


def bSup (q1 q2 q3 q4 q5 q6 : Pos) (x : Str) : Stmt := .Expr (.Call (.Attribute (.Call (.Name "super" q1) [] [] q2) "__init__" q3) [.Constant (.str x) 0 q4] [] q5) q6
def bFld (f : Str) (q : Pos × Pos × Pos × Pos) : Stmt := .Assign [.Attribute (.Name "self" q.1) f q.2.1] (.Name f q.2.2.1) q.2.2.2
def bBody (q1 q2 q3 q4 q5 q6 : Pos) (x : Str) (fl : List (Str × Pos × Pos × Pos × Pos)) : List Stmt := bSup q1 q2 q3 q4 q5 q6 x :: fl.map fun p => bFld p.1 p.2

structure Txt (P : Program) (K : Frag) (mg : Str → Option Value) (nm : Str) (fl : List Str) (C : Addr) : Prop where
  gC : mg nm = some (.ref C)
  cls : ∃ (nm' q : Str) (N Wr : Addr) (bs : List Value) (sn : List Str) (sub : List Value) (ab : Bool) (col : Option Bool) (dd : Option Addr) (k0 k1 k2 k3 k5 : Option Value), K.lookup C = some (excClassObj nm' q C N bs (.ref Wr :: veTail) true sn sub ab col dd k0 k1 k2 k3 k5 "ValueError.__new__")
  sa : findIn K (.ref C) "__setattr__" = some (some (.builtin "object.__setattr__"))
  ga : findIn K (.ref C) "__getattribute__" = some (some (.builtin "BaseException.__getattribute__"))
  gg : findIn K (.ref C) "__getattr__" = some none
  noF : ∀ f ∈ fl, findIn K (.ref C) f = some none
  nd : fl.Nodup
  few : fl.length = 1 ∨ fl.length = 2
  noSelf : ("self" : Str) ∉ fl
  exC : subIn K (.ref C) (.type "BaseException") = some true
  hdC : hasDictIn K C = true
  kC : keepIn K (.ref C) = true
  tyC : typeIn K (.ref C) = some (.type "type")
  sup : ks_superIn K C C "__init__" = some (some (.builtin "ValueError.__init__"))
  opq : nsIn K cStatics "thirdparty.any" = some none
  ex : ∃ (fI cc cda : Addr), findIn K (.ref C) "__init__" = some (some (.ref fI)) ∧ typeIn K (.ref fI) = some (.type "function") ∧
    (∃ (oc : Value) (od : Option Addr) (q : Str) (pa : Arguments) (body : List Stmt) (sc : Scope) (doc pm : Value) (an : Option Addr) (ct : Value) (osl : Array (Option Value)) (q1 q2 q3 q4 q5 q6 : Pos) (x : Str) (ps : List (Str × Pos × Pos × Pos × Pos)),
      K.lookup fI = some ⟨oc, od, .func (ksFn "__init__" q pa body sc .none .none doc pm an (.ref cda) ct cc), osl⟩ ∧ codeIn K (.ref cda) q = true ∧ body = bBody q1 q2 q3 q4 q5 q6 x ps ∧ ps.map (·.1) = fl ∧ (q3.endLine == q5.line) = true ∧
      sc.kind = .function ∧ sc.isCoroutine = false ∧ sc.isGenerator = false ∧ (∀ y ∈ sc.names, y.2 ≠ .cell) ∧ sc.names.lookup ("super" : Str) = some .globalImplicit ∧ sc.names.lookup ("__class__" : Str) = some .free ∧
      sc.names.lookup ("self" : Str) = some .local ∧ (∀ f ∈ fl, sc.names.lookup f = some .local ∧ f ≠ "self" ∧ (f == ("__debug__" : Str)) = false) ∧ (∃ p, (pa.posonlyargs ++ pa.args).head? = some { arg := "self", annotation := none, pos := p }) ∧
      (∀ us : List Value, us.length = fl.length + 1 → bindArgs (ksFn "__init__" q pa body sc .none .none doc pm an (.ref cda) ct cc) ⟨us, []⟩ = pure ((("self" : Str) :: fl).zip us)) ∧ x.length ≤ 100) ∧
    (∃ (ccl : Value) (cdd : Option Addr) (vs : Array Value) (ccs : Array (Option Value)) (tf : Tok), K.lookup cda = some ⟨ccl, cdd, .fields vs, ccs⟩ ∧ vs[2]? = some (.str P.main.file tf)) ∧
    (∃ (cl : Value) (cld : Option Addr) (csl : Array (Option Value)), K.lookup cc = some ⟨cl, cld, .cell (some (.ref C)), csl⟩)
  noS : mg "super" = none
  top : (P.main.scope.names.lookup ("super" : Str)).isSome = false

theorem lookup_snoc {α : Type} (y k : Str) (v : α) : ∀ l : List (Str × α), (l ++ [(k, v)]).lookup y = (l.lookup y).or (if y == k then some v else none)
  | [] => by
    show List.lookup y [(k, v)] = _
    cases h : y == k <;> simp [List.lookup, h]
  | (a, b) :: r => by
    have ih := lookup_snoc y k v r
    cases h : y == a
    · simp only [List.cons_append, List.lookup, h, ih]
    · simp only [List.cons_append, List.lookup, h, Option.some_or]
theorem lookup_none {α : Type} {y : Str} : ∀ {l : List (Str × α)}, y ∉ l.map (·.1) → l.lookup y = none
  | [], _ => rfl
  | (a, b) :: r, h => by
    have h1 : (y == a) = false := beq_eq_false_iff_ne.mpr fun z => h (by rw [z]; simp)
    simp only [List.lookup, h1]
    exact lookup_none fun z => h (by simp only [List.map_cons]; exact List.mem_cons_of_mem _ z)
theorem lookup_rev {α : Type} (y : Str) : ∀ l : List (Str × α), (l.map (·.1)).Nodup → l.reverse.lookup y = l.lookup y
  | [], _ => rfl
  | (a, b) :: r, h => by
    simp only [List.map_cons, List.nodup_cons] at h
    rw [List.reverse_cons, lookup_snoc, lookup_rev y r h.2]
    cases e : y == a
    · simp [List.lookup, e]
    · have ya : y = a := eq_of_beq e
      rw [ya, lookup_none h.1]
      simp [List.lookup]
theorem ldE {M : Model} {A : Around} {E : Value → Shared → Prop} {s : Shared} {env : Env} {m : Str → Option Value} {x : Str} {pos : Pos} {v : Value} {Q : Value → Shared → Prop} (hk : env.scope.kind = .function) (hl : env.kindOf x = some .local) (hn : s.heap.Ns env.locals m) (hv : m x = some v) (h : Q v s)
    (hd : (x == ("__debug__" : Str)) = false) : wpAny M A (eval (.Name x pos) env) Q E s := wpAny_Name (wpAny_loadName_local hk hl hn hv h) hd

section
variable {prog : Program} {w : World} {M : Model} {A : Around} {E : Value → Shared → Prop} {h : Heap} {g : Array GenState} {d : Drawn} {t : Nat} {os : OsState}
variable {nm q : Str} {C N : Addr} {bs bm : List Value} {hdct : Bool} {sn : List Str} {sub : List Value} {ab : Bool} {col : Option Bool} {dd : Option Addr} {k0 k1 k2 k3 k5 : Option Value}
theorem call_mw {u e t0 : Addr} {rest : List Value} {Q : Value → Shared → Prop} (hC : h.get? C = some (excClassObj nm q C N bs bm hdct sn sub ab col dd k0 k1 k2 k3 k5 "ValueError.__new__")) (he : h.get? e = some (excO C t0)) (hu : h.get? u = some (kxs_mw "ValueError.__init__" e)) (hz : rest.length ≤ sizeLine)
    (hq : ∀ h' t1, (∀ b o, b ≠ e → h.get? b = some o → h'.get? b = some o) → h'.get? e = some (excO C t1) → Q .none ⟨h', g, d, t, os⟩) : wpAny (model prog w) A (call (.ref u) rest) Q E ⟨h, g, d, t, os⟩ := by
  have FB := F.excBase_ValueError
  refine wpAny_call (codeAny_of_tree ?_)
  show wpAny _ A.in1 (callAny (.ref u) ⟨rest, []⟩) _ _ _
  simp only [callAny]
  refine wpAny_bind (wpAny_load hu ?_)
  simp only [kxs_mw]
  refine KFB.if_so (by decide) ?_
  refine wpAny_bind (check_bound_init FB.toExcCallFacts hC he rfl ?_)
  refine wpAny_pure ⟨plainId_quiet FB.init.plain _, codeAny_builtin FB.initEntry ?_⟩
  exact exc_init_tree (cls := .ref C) (t0 := t0) (dv := none) (c2 := .none) (c3 := .none) (b4 := .bool false) he hz fun h' a b _ => hq h' _ a b
end

def fmap (fl : List Str) (vs : List Value) : Str → Option Value := fun y => (fl.zip vs).lookup y
structure Made (h h' : Heap) (e C : Addr) (fl : List Str) (vs : List Value) : Prop where
  keep : ∀ b o, h.get? b = some o → h'.get? b = some o
  new : h.objs.size ≤ e
  ob : ∃ oe ws dx, h'.get? e = some oe ∧ oe.cls = .ref C ∧ oe.dict = dx ∧ oe.data = .fields ws ∧ ws[1]? = some .none ∧ ∃ d, dx = some d ∧ h.objs.size ≤ d ∧ d ≠ e ∧ ∃ mA, h'.Ns1 d mA ∧ ∀ f, mA f = fmap fl vs f

section
variable {P : Program} {w : World} {A : Around} {E : Value → Shared → Prop} {R : Result → Shared → Prop} {s : Shared} {K : Frag} {mg mb : Str → Option Value} {nm : Str} {fl : List Str} {C : Addr}
theorem init_sup {fI cc cda x t0 : Addr} {vs : List Value} {nm' q : Str} {N Wr : Addr} {bs : List Value} {sn : List Str} {sub : List Value} {ab : Bool} {col : Option Bool} {dd : Option Addr} {k0 k1 k2 k3 k5 : Option Value}
    {oc : Value} {od : Option Addr} {qf : Str} {pa : Arguments} {sc : Scope} {doc pm : Value} {an : Option Addr} {ct : Value} {osl : Array (Option Value)} {q1 q2 q3 q4 q5 q6 p0 : Pos} {txt : Str} {ps : List (Str × Pos × Pos × Pos × Pos)}
    {ccl : Value} {cdd : Option Addr} {cvs : Array Value} {ccs : Array (Option Value)} {tf : Tok} {cl : Value} {cld : Option Addr} {csl : Array (Option Value)}
    (hcls : K.lookup C = some (excClassObj nm' q C N bs (.ref Wr :: veTail) true sn sub ab col dd k0 k1 k2 k3 k5 "ValueError.__new__")) (opq : nsIn K cStatics "thirdparty.any" = some none) (sup : ks_superIn K C C "__init__" = some (some (.builtin "ValueError.__init__")))
    (hf : K.lookup fI = some ⟨oc, od, .func (ksFn "__init__" qf pa (bBody q1 q2 q3 q4 q5 q6 txt ps) sc .none .none doc pm an (.ref cda) ct cc), osl⟩) (hcd : codeIn K (.ref cda) qf = true) (hps : ps.map (·.1) = fl)
    (sk : sc.kind = .function) (sco : sc.isCoroutine = false) (sgn : sc.isGenerator = false) (scl : ∀ y ∈ sc.names, y.2 ≠ .cell) (ssu : sc.names.lookup ("super" : Str) = some .globalImplicit) (scc : sc.names.lookup ("__class__" : Str) = some .free)
    (sse : sc.names.lookup ("self" : Str) = some .local) (sfl : ∀ f ∈ fl, sc.names.lookup f = some .local ∧ f ≠ "self" ∧ (f == ("__debug__" : Str)) = false) (hpa : (pa.posonlyargs ++ pa.args).head? = some { arg := "self", annotation := none, pos := p0 })
    (hbind : ∀ us : List Value, us.length = fl.length + 1 → bindArgs (ksFn "__init__" qf pa (bBody q1 q2 q3 q4 q5 q6 txt ps) sc .none .none doc pm an (.ref cda) ct cc) ⟨us, []⟩ = pure ((("self" : Str) :: fl).zip us)) (htx : txt.length ≤ 100) (hnd : ((("self" : Str) :: fl).zip (Value.ref x :: vs)).map (·.1) |>.Nodup) (hpos : (q3.endLine == q5.line) = true)
    (hco : K.lookup cda = some ⟨ccl, cdd, .fields cvs, ccs⟩) (hcv : cvs[2]? = some (.str P.main.file tf)) (hcc : K.lookup cc = some ⟨cl, cld, .cell (some (.ref C)), csl⟩) (noS : mg "super" = none) (top : (P.main.scope.names.lookup ("super" : Str)).isSome = false)
    (X : K.In s.heap) (hG : s.heap.Ns mainGlobals mg) (hB : s.heap.Ns builtinsNs mb) (hbb : ∀ x : Str, x ≠ "__name__" → mb x = bootBuiltins x) (hlim : s.heap.NoLimit) (hx : s.heap.get? x = some (excO C t0)) (hl : vs.length = fl.length) (hroom : A.depth < recursionLimit)
    (hq : ∀ (h' : Heap) (tk : Nat) (t1 : Addr) (env : Env), (∀ b o, b ≠ x → s.heap.get? b = some o → h'.get? b = some o) → h'.get? x = some (excO C t1) → env.locals = s.heap.objs.size → h'.Ns env.locals (fun y => ((("self" : Str) :: fl).zip (Value.ref x :: vs)).reverse.lookup y) → env.scope.kind = .function →
      env.kindOf "self" = some .local → (∀ f ∈ fl, env.kindOf f = some .local) →
      wpAny (model P w) (A.deeper env) (execs (ps.map fun p => bFld p.1 p.2) env) (fun f s' => R (.ok (.ret (match f with | .ret v => v | _ => .none))) s')
        (fun e s' => wpAny (model P w) (A.deeper env) (leaving env e) (fun _ s'' => R (.error e) s'') (fun e' s'' => R (.error e') s'') s') { s with heap := h', toks := tk }) :
    codeAny (model P w) A (.call (.ref fI) ⟨.ref x :: vs, []⟩) R s := by
  have hxs := Heap.lt_size hx
  have hbd : ∀ y ∈ (("self" : Str) :: fl).zip (Value.ref x :: vs), sc.names.lookup y.1 = some .local := by
    intro y hy
    obtain ⟨a, b⟩ := y
    rcases List.mem_cons.mp (List.of_mem_zip hy).1 with z | z
    · rw [show a = ("self" : Str) from z]
      exact sse
    · exact (sfl a z).1
  refine ks_codeAny_call_defAt (binds := (("self" : Str) :: fl).zip (Value.ref x :: vs)) hroom (X _ _ hf) rfl hlim (codeRec_of X hcd) rfl (.of_eq (hbind (.ref x :: vs) (by rw [List.length_cons, hl]))) scl hbd (fun h1 hns k1 => ?_) sco sgn sk
  have X1 : K.In h1 := X.keeps k1
  obtain ⟨hh, g, d, t, os⟩ := s
  dsimp only at hxs hns k1 hq
  generalize hev : callEnv (ksFn "__init__" qf pa (bBody q1 q2 q3 q4 q5 q6 txt ps) sc .none .none doc pm an (.ref cda) ct cc) hh.objs.size fI = env
  have eL : env.locals = hh.objs.size := by subst hev; rfl
  have eS : env.scope = sc := by subst hev; rfl
  have eK : ∀ y, env.kindOf y = sc.names.lookup y := fun y => by subst hev; rfl
  have eC : env.cells.lookup ("__class__" : Str) = some cc := by subst hev; rfl
  have eF : env.func = some fI := by subst hev; rfl
  have eD : env.code = .ref cda := by subst hev; rfl
  have eG : env.globals = mainGlobals := by subst hev; rfl
  have eB : env.builtins = builtinsNs := by subst hev; rfl
  have ek : env.scope.kind = .function := by rw [eS]; exact sk
  have hcall : eval (.Call (.Attribute (.Call (.Name "super" q1) [] [] q2) "__init__" q3) [.Constant (.str txt) 0 q4] [] q5) env = (do
      let ov ← attributeBase (.Call (.Name "super" q1) [] [] q2) "__init__" env (eval (.Call (.Name "super" q1) [] [] q2) env)
      standAt q3.atName
      let (f, first) ← holding [ov] (getMethod ov "__init__" (do return (← importBound (.Call (.Name "super" q1) [] [] q2) env).getD true))
      callWith q5 f first (backTo q5 (starEach [.Constant (.str txt) 0 q4] env)) []) := by
    have hp : methodCallPos (methodCallForm 1 (backTo q5 (starEach [.Constant (.str txt) 0 q4] env)) []) (.Call (.Name "super" q1) [] [] q2) env q3 q5 = pure q5 := by
      unfold methodCallPos
      rw [if_pos (by rw [hpos, Bool.or_true])]
    show (attributeBase (.Call (.Name "super" q1) [] [] q2) "__init__" env (eval (.Call (.Name "super" q1) [] [] q2) env) >>= fun ov => standAt q3.atName >>= fun _ => methodCall (.Call (.Name "super" q1) [] [] q2) "__init__" q3 q5 env ov 1 (backTo q5 (starEach [.Constant (.str txt) 0 q4] env)) []) = _
    unfold methodCall
    simp only [hp, pure_bind]
    rfl
  refine ks_wpAt_execs_cons (ks_wpAt_Expr_any (ks_wpAt_MethodCall ?_ hcall) (by simp [interactive, ek]) (by rfl))
  refine ks_wpAt_super_base (eK _ ▸ ssu) (eK _ ▸ scc) (by decide) eF (X1 _ _ hf) rfl hpa eD (X1 _ _ hco) rfl hcv (by simp) top ?_
  refine ks_loadName_global ek (eK _ ▸ ssu) (loadGlobal_builtin (by rw [eG]; exact hG.keeps k1) noS (by rw [eB]; exact hB.keeps k1) ((hbb _ (by decide +kernel)).trans (show bootBuiltins "super" = some (.type "super") by decide +kernel)) ⟨rfl, ?_⟩)
  refine wpAny_loadName_free ek (eK _ ▸ scc) eC ⟨_, X1 _ _ hcc, rfl⟩ ?_
  rw [← eL] at hns
  have selfv : (fun y => ((("self" : Str) :: fl).zip (Value.ref x :: vs)).reverse.lookup y) "self" = some (.ref x) := by
    show List.lookup _ _ = _
    rw [lookup_rev _ _ hnd]
    show List.lookup ("self" : Str) ((("self" : Str), Value.ref x) :: fl.zip vs) = _
    simp [List.lookup]
  refine wpAny_loadName_local ek (eK _ ▸ sse) hns selfv ?_
  have hC1 := X1 _ _ hcls
  have hclsIn : clsIn K C = some { name := nm', bases := bs, mro := .ref C :: .ref Wr :: veTail, ns := N, qualname := q, hasDict := true, slotNames := sn, subclasses := sub, abstract := ab, collection := col, hasDel := false } := by
    unfold clsIn
    rw [hcls]
  have mro1 : ∀ b : Value, (Value.ref C :: .ref Wr :: veTail).contains b = true → mroIn K C b = some true := fun b hb => by
    unfold mroIn
    rw [hclsIn, Option.bind_some, if_neg (by simp), hb]
  have hx1 : h1.get? x = some (excO C t0) := k1 _ _ hx
  refine ks_wpAny_isType_cls hC1 rfl ⟨rfl, ?_⟩
  refine ks_wpAny_call_super hC1 rfl hx1 rfl (fun c z => by cases z) (looks_mroIn X1 (mro1 _ (by simp))) (fun h2 e2 k2 => ?_)
  have X2 : K.In h2 := X1.keeps k2
  have hx2 : h2.get? x = some (excO C t0) := k2 _ _ hx1
  have I2 : InstAt h2 x (excO C t0) C none := ⟨hx2, rfl, rfl, trivial⟩
  have hsub : subIn K (.ref C) (.type "ValueError") = some true := mro1 _ (by simp [List.contains_cons])
  have along : alongIn K "__init__" (((Value.ref C :: .ref Wr :: veTail).dropWhile (· != .ref C)).drop 1) = some (some (.builtin "ValueError.__init__")) := by
    unfold ks_superIn at sup
    rw [hclsIn, Option.bind_some] at sup
    exact sup
  refine kxs_getMethod kxs_ValueError e2 (looks_opaque X2 opq) (l₀ := .ref C :: .ref Wr :: veTail) (fun A Q E s k q => wpAny_bind ((looks_clsIn X2 hclsIn) A _ E s k (wpAny_pure q))) rfl X2 along (I2.type.andThen (looks_subIn X2 hsub)) (ks_ne X2 I2 hclsIn) (by decide) ?_
  generalize hu : h2.objs.size = u
  generalize h3e : h2.push (kxs_mw "ValueError.__init__" x) = h3
  have k3 : ∀ b o, h2.get? b = some o → h3.get? b = some o := fun b o e => by
    rw [← h3e]
    exact Heap.get?_push_of_some _ e
  have hu3 : h3.get? u = some (kxs_mw "ValueError.__init__" x) := by
    rw [← h3e, ← hu]
    exact Heap.get?_push_size _ rfl
  show wpAny _ _ (callWith q5 (.ref u) [] ((false, eval (.Constant (.str txt) 0 q4) env) :: backTo q5 (starEach [] env)) []) _ _ _
  refine kxs_callWith (i := "ValueError.__init__") (x := x) rfl (evalArgs_plain (spliced_cons (Constant_str (spliced_nil ⟨hu3, ?_⟩))))
  refine call_mw (k2 _ _ hC1 |> k3 _ _) (k3 _ _ hx2) hu3 (by rw [sizeLine_eq]; exact (by decide : 1 ≤ 16777216)) fun h4 t1 k4 e4 => ?_
  refine wpAt_of_wpAny ?_
  have kk : ∀ b o, b ≠ x → hh.get? b = some o → h4.get? b = some o := fun b o hb e => k4 b o hb (k3 b o (k2 b o (k1 b o e)))
  obtain ⟨oL, es, ep, n1, n2⟩ := id hns
  have hLx : env.locals ≠ x := by
    rw [eL]
    exact Nat.ne_of_gt hxs
  exact hq h4 _ t1 env kk e4 eL ⟨oL, es, ep, k4 _ _ hLx (k3 _ _ (k2 _ _ n1)), n2⟩ ek ((eK _).trans sse) fun f hf => (eK _).trans (sfl f hf).1
theorem store_first {env : Env} {M0 : Str → Option Value} {x Wr t0 : Addr} {f : Str} {v : Value} {q : Pos × Pos × Pos × Pos} {cd : ClassData} {Q : Flow → Shared → Prop} (hcd : clsIn K C = some cd) (hm : cd.mro = .ref C :: .ref Wr :: veTail) (hh : cd.hasDict = true)
    (sa : findIn K (.ref C) "__setattr__" = some (some (.builtin "object.__setattr__"))) (noF : findIn K (.ref C) f = some none) (ek : env.scope.kind = .function) (es : env.kindOf "self" = some .local) (ef : env.kindOf f = some .local) (fd : (f == ("__debug__" : Str)) = false)
    (hself : M0 "self" = some (.ref x)) (hf : M0 f = some v) (X : K.In s.heap) (hn : s.heap.Ns env.locals M0) (hxL : env.locals ≠ x) (hx : s.heap.get? x = some (excO C t0))
    (hq : ∀ h' tk dx, (∀ b o, b ≠ x → s.heap.get? b = some o → h'.get? b = some o) → s.heap.objs.size ≤ dx → dx ≠ x → h'.get? x = some { cls := .ref C, dict := some dx, data := (excO C t0).data } → h'.Ns1 dx (fun y => if y = f then some v else none) → h'.Ns env.locals M0 → Q .next { s with heap := h', toks := tk }) :
    wpAny (model P w) A (exec (bFld f q) env) Q E s := by
  obtain ⟨hh0, g, d, t, os⟩ := s
  refine plainObj_wpAny_Assign_Attribute ?_
  refine ldE ek ef hn hf (ldE ek es hn hself ?_ (by decide)) fd
  refine set_plain X (ox := excO C t0) (od := none) ⟨hx, rfl, rfl, trivial⟩ sa ?_
  refine exc_osa X hx hcd (by rw [hm]; rfl) hh noF (fun h2 tk dx k2 dn dne hx2 hn2 => ?_)
  obtain ⟨oL, es', ep, n1, n2⟩ := id hn
  exact hq h2 tk dx k2 dn dne hx2 hn2 ⟨oL, es', ep, k2 _ _ hxL n1, n2⟩
theorem store_next {env : Env} {M0 m0 : Str → Option Value} {x Wr dx : Addr} {fv : Array Value} {f : Str} {v : Value} {q : Pos × Pos × Pos × Pos} {cd : ClassData} {nl : List Str} {Q : Flow → Shared → Prop} (hcd : clsIn K C = some cd) (hm : cd.mro = .ref C :: .ref Wr :: veTail) (hh : cd.hasDict = true)
    (sa : findIn K (.ref C) "__setattr__" = some (some (.builtin "object.__setattr__"))) (noF : findIn K (.ref C) f = some none) (ek : env.scope.kind = .function) (es : env.kindOf "self" = some .local) (ef : env.kindOf f = some .local) (fd : (f == ("__debug__" : Str)) = false)
    (hself : M0 "self" = some (.ref x)) (hf : M0 f = some v) (X : K.In s.heap) (hn : s.heap.Ns env.locals M0) (hdL : env.locals ≠ dx) (hx : s.heap.get? x = some { cls := .ref C, dict := some dx, data := .fields fv }) (hns : s.heap.Ns1 dx m0) (hw : Within m0 nl) (hz : nl.length ≤ 1000)
    (hq : ∀ h' tk, (∀ b o, b ≠ dx → s.heap.get? b = some o → h'.get? b = some o) → h'.Ns1 dx (fun y => if y = f then some v else m0 y) → Q .next { s with heap := h', toks := tk }) :
    wpAny (model P w) A (exec (bFld f q) env) Q E s := by
  obtain ⟨hh0, g, d, t, os⟩ := s
  refine plainObj_wpAny_Assign_Attribute ?_
  refine ldE ek ef hn hf (ldE ek es hn hself ?_ (by decide)) fd
  obtain ⟨oD, esD, epD, hoD, hdD, _⟩ := hns.count hw
  refine set_plain X (ox := { cls := .ref C, dict := some dx, data := .fields fv }) (od := some oD) ⟨hx, rfl, rfl, hoD⟩ sa ?_
  exact PX.osa_old X hx hns hw hz hcd (by rw [hm]; rfl) hh noF (fun h2 tk k2 hn2 => hq h2 tk k2 hn2)
theorem two_of {α : Type} : ∀ {l : List α}, l.length = 2 → ∃ a b, l = [a, b]
  | [a, b], _ => ⟨a, b, rfl⟩
theorem zip_fst {α : Type} : ∀ (fl : List Str) (vs : List α), vs.length = fl.length → (fl.zip vs).map (·.1) = fl
  | [], [], _ => rfl
  | f :: fl, v :: vs, h => by
    simp only [List.zip_cons_cons, List.map_cons, List.cons.injEq, true_and]
    exact zip_fst fl vs (by simpa using h)
theorem err_made (T : Txt P K mg nm fl C) {vs : List Value} (X : K.In s.heap) (hG : s.heap.Ns mainGlobals mg) (hB : s.heap.Ns builtinsNs mb) (hbb : ∀ x : Str, x ≠ "__name__" → mb x = bootBuiltins x) (hlim : s.heap.NoLimit) (hl : vs.length = fl.length) (hroom : A.depth + 1 < recursionLimit)
    (hq : ∀ h' tk e, Made s.heap h' e C fl vs → R (.ok (.ret (.ref e))) { s with heap := h', toks := tk }) : codeAny (model P w) A (.call (.ref C) ⟨vs, []⟩) R s := by
  obtain ⟨nm', q, N, Wr, bs, sn, sub, ab, col, dd, k0, k1, k2, k3, k5, hC⟩ := T.cls
  obtain ⟨fI, cc, cda, iC, tC, ⟨oc, od, qf, pa, body, sc, doc, pm, an, ct, osl, q1, q2, q3, q4, q5, q6, txt, ps, hf, hcd, rfl, hps, hpos, sk, sco, sgn, scl, ssu, scc, sse, sfl, ⟨p0, hpa⟩, hbind, htx⟩, ⟨ccl, cdd, cvs, ccs, tf, hco, hcv⟩, ⟨cl, cld, csl, hcc⟩⟩ := T.ex
  obtain ⟨hp, g, dr, tk, os⟩ := s
  dsimp only at X hG hB hlim hq
  have hclsIn : clsIn K C = some { name := nm', bases := bs, mro := .ref C :: .ref Wr :: veTail, ns := N, qualname := q, hasDict := true, slotNames := sn, subclasses := sub, abstract := ab, collection := col, hasDel := false } := by
    unfold clsIn
    rw [hC] <;> rfl
  have k : ∀ b o, hp.get? b = some o → ((hp.push (kdv_tup vs)).push (excO C hp.objs.size)).get? b = some o := fun b o e => Heap.get?_push_of_some _ (Heap.get?_push_of_some _ e)
  have hget : ((hp.push (kdv_tup vs)).push (excO C hp.objs.size)).get? (hp.objs.size + 1) = some (excO C hp.objs.size) := by heap_get
  have hnd : (((("self" : Str) :: fl).zip (Value.ref (hp.objs.size + 1) :: vs)).map (·.1)).Nodup := by
    rw [zip_fst _ _ (by simp [hl])]
    exact List.nodup_cons.mpr ⟨T.noSelf, T.nd⟩
  have vz : vs.length ≤ sizeLine := by
    rw [sizeLine_eq, hl]
    rcases T.few with e | e <;> rw [e] <;> decide
  refine call_own F.excBase_ValueError (fun X => refsVE_contains X _ rfl) (X _ _ hC) (looks_findIn X iC) (fun self => bind_fn X self tC) vz ?_
  refine init_sup (x := hp.objs.size + 1) (t0 := hp.objs.size) (vs := vs) (s := ⟨(hp.push (kdv_tup vs)).push (excO C hp.objs.size), g, dr, tk, os⟩) hC T.opq T.sup hf hcd hps sk sco sgn scl ssu scc sse sfl hpa hbind htx hnd hpos hco hcv hcc T.noS T.top (X.keeps k) (hG.keeps k) (hB.keeps k) hbb (hlim.keeps k) hget hl hroom fun h1 tk1 t1 env k1 x1 eL ns1 ek es ef => ?_
  have X1 : K.In h1 := fun a o e => by
    have e0 := X a o e
    exact k1 a o (Nat.ne_of_lt (Nat.lt_succ_of_lt (Heap.lt_size e0))) (k _ _ e0)
  have old1 : ∀ b o, hp.get? b = some o → h1.get? b = some o := fun b o e => k1 b o (Nat.ne_of_lt (Nat.lt_succ_of_lt (Heap.lt_size e))) (k b o e)
  have eL' : @Eq Nat env.locals (hp.objs.size + 2) := by
    rw [eL]
    simp [Heap.size_push]
  have lxL : @Ne Nat env.locals (hp.objs.size + 1) := by omega
  have look : ∀ y, List.lookup y (((("self" : Str) :: fl).zip (Value.ref (hp.objs.size + 1) :: vs)).reverse) = List.lookup y ((("self" : Str), Value.ref (hp.objs.size + 1)) :: fl.zip vs) := fun y => lookup_rev y _ hnd
  have selfv : List.lookup ("self" : Str) (((("self" : Str) :: fl).zip (Value.ref (hp.objs.size + 1) :: vs)).reverse) = some (.ref (hp.objs.size + 1)) := by
    rw [look]
    simp [List.lookup]
  have z1 : hp.objs.size + 2 < h1.objs.size := by
    have lt1 : @LT.lt Nat _ env.locals h1.objs.size := ns1.lt
    omega
  have nS := T.noSelf
  have nD := T.nd
  have noF := T.noF
  have sa := T.sa
  have few := T.few
  clear T
  rcases few with e1 | e2
  · obtain ⟨f, rfl⟩ : ∃ f, fl = [f] := List.length_eq_one_iff.mp e1
    obtain ⟨v, rfl⟩ : ∃ v, vs = [v] := List.length_eq_one_iff.mp (hl.trans e1)
    obtain ⟨p, rfl⟩ : ∃ p, ps = [p] := List.length_eq_one_iff.mp (by rw [← List.length_map (f := (·.1)), hps]; rfl)
    simp only [List.map_cons, List.map_nil, List.cons.injEq, and_true] at hps
    have nfs : (f == ("self" : Str)) = false := beq_eq_false_iff_ne.mpr fun z => nS (by rw [z]; simp)
    refine wpAny_execs_cons ?_
    show wpAny _ _ (exec (bFld p.1 p.2) env) _ _ _
    rw [hps]
    refine store_first (v := v) hclsIn rfl rfl sa (noF f (by simp)) ek es (ef f (by simp)) (sfl f (by simp)).2.2 selfv (by rw [look]; simp [List.lookup, nfs]) X1 ns1 lxL x1 fun h3 tk3 dx k3 dn dne x3 n3 _ => ?_
    show wpAny _ _ (execs _ _) _ _ _
    refine wpAny_execs_nil ⟨rfl, hq h3 tk3 (hp.objs.size + 1) ⟨fun b o e => k3 b o (Nat.ne_of_lt (Nat.lt_succ_of_lt (Heap.lt_size e))) (old1 b o e), Nat.le_succ _, _, _, _, x3, rfl, rfl, rfl, rfl, dx, rfl, ?_, dne, _, n3, fun y => ?_⟩⟩
    · have dn' : @LE.le Nat _ h1.objs.size dx := dn
      show @LE.le Nat _ hp.objs.size dx
      omega
    · unfold fmap
      by_cases c : y = f
      · subst c
        simp [List.lookup]
      · have c' : (y == f) = false := beq_eq_false_iff_ne.mpr c
        simp [List.lookup, c, c']
  · obtain ⟨f, f', rfl⟩ : ∃ f f', fl = [f, f'] := two_of e2
    obtain ⟨v, v', rfl⟩ : ∃ v v', vs = [v, v'] := two_of (hl.trans e2)
    obtain ⟨p, p', rfl⟩ : ∃ p p', ps = [p, p'] := two_of (by rw [← List.length_map (f := (·.1)), hps]; rfl)
    simp only [List.map_cons, List.map_nil, List.cons.injEq, and_true] at hps
    have nfs : (f == ("self" : Str)) = false := beq_eq_false_iff_ne.mpr fun z => nS (by rw [z]; simp)
    have nfs' : (f' == ("self" : Str)) = false := beq_eq_false_iff_ne.mpr fun z => nS (by rw [z]; simp)
    have nff : f ≠ f' := by simpa using nD
    have nff' : (f' == f) = false := beq_eq_false_iff_ne.mpr (Ne.symm nff)
    refine wpAny_execs_cons ?_
    show wpAny _ _ (exec (bFld p.1 p.2) env) _ _ _
    rw [hps.1]
    refine store_first (v := v) hclsIn rfl rfl sa (noF f (by simp)) ek es (ef f (by simp)) (sfl f (by simp)).2.2 selfv (by rw [look]; simp [List.lookup, nfs]) X1 ns1 lxL x1 fun h3 tk3 dx k3 dn dne x3 n3 l3 => ?_
    show wpAny _ _ (execs _ _) _ _ _
    refine wpAny_execs_cons ?_
    show wpAny _ _ (exec (bFld p'.1 p'.2) env) _ _ _
    rw [hps.2]
    have dn' : @LE.le Nat _ h1.objs.size dx := dn
    have X3 : K.In h3 := fun a o e => k3 a o (Nat.ne_of_lt (Nat.lt_succ_of_lt (Heap.lt_size (X a o e)))) (X1 a o e)
    refine store_next (s := ⟨h3, g, dr, tk3, os⟩) (v := v') (dx := dx) (nl := [f]) hclsIn rfl rfl sa (noF f' (by simp)) ek es (ef f' (by simp)) (sfl f' (by simp)).2.2 selfv (by rw [look]; simp [List.lookup, nfs', nff']) X3 l3 (show @Ne Nat env.locals dx by omega) x3 n3 (Within.cons f v Within.nil) (show 1 ≤ 1000 by decide) fun h4 tk4 k4 n4 => ?_
    show wpAny _ _ (execs _ _) _ _ _
    have old4 : ∀ b o, hp.get? b = some o → h4.get? b = some o := fun b o e => by
      have lb : @LT.lt Nat _ b hp.objs.size := Heap.lt_size e
      exact k4 b o (show @Ne Nat b dx by omega) (k3 b o (show @Ne Nat b (hp.objs.size + 1) by omega) (old1 b o e))
    refine wpAny_execs_nil ⟨rfl, hq h4 tk4 (hp.objs.size + 1) ⟨old4, Nat.le_succ _, _, _, _, k4 _ _ (Ne.symm dne) x3, rfl, rfl, rfl, rfl, dx, rfl, (show @LE.le Nat _ hp.objs.size dx by omega), dne, _, n4, fun y => ?_⟩⟩
    unfold fmap
    by_cases c : y = f
    · subst c
      simp [List.lookup, nff]
    · have c1 : (y == f) = false := beq_eq_false_iff_ne.mpr c
      by_cases c' : y = f'
      · subst c'
        simp [List.lookup, c1]
      · have c2 : (y == f') = false := beq_eq_false_iff_ne.mpr c'
        simp [List.lookup, c, c', c1, c2]
end
end Er
end PV

set_option Elab.async false
set_option linter.all false
set_option maxRecDepth 100000
set_option maxHeartbeats 2000000

namespace PV
open PySem PySem.Spec PyProof.Rows L2
theorem relO_zip {f : Str} : ∀ {fl : List Str} {vs : List V} {us : List Value}, Vals vs us → RelO (List.lookup f (fl.zip vs)) (List.lookup f (fl.zip us))
  | [], _, _, _ => by simp [List.lookup]; trivial
  | _ :: _, _, _, .nil => by simp [List.lookup]; trivial
  | g :: fl, _, _, .cons r t => by
    rw [List.zip_cons_cons, List.zip_cons_cons]
    cases c : f == g
    · simp only [List.lookup, c]
      exact relO_zip t
    · simp only [List.lookup, c]
      exact r
theorem zip_snd {α : Type} : ∀ {fl : List Str} {vs : List α}, vs.length = fl.length → (fl.zip vs).map (·.2) = vs
  | [], [], _ => rfl
  | f :: fl, v :: vs, h => by
    simp only [List.zip_cons_cons, List.map_cons, List.cons.injEq, true_and]
    exact zip_snd (by simpa using h)
section
variable {G : Gd} {X : Cx} {W : WX} {k : Nat}
theorem ds_raise {c : Nat} {nm : Str} {e : Expr} {es : List Expr} {t : Xa} {p pos pos2 : Pos} (T : Er.Txt X.prog X.K X.mg nm (G.fl c) (G.cA c)) (hr : Room k X.A) (hK : G.K = X.K) (hc : X.calm = true) (tk : Takes X W) (ha : DA G X W (e :: es) t) (n : Nat) (hn : (G.fl c).length = n)
    (hg : Gl X nm := by rfl) (hdb : (nm == ("__debug__" : Str)) = false := by decide) (he : starEach (e :: es) X.env = (false, eval e X.env) :: starEach es X.env := by rfl) (hpl : (backTo pos (starEach es X.env)).any (·.1) = false := by rfl) :
    DS G X W (.Raise (some (.Call (.Name nm p) (e :: es) [] pos)) none pos2) (sRaise c n t) := by
  have main : PMk X (.Call (.Name nm p) (e :: es) [] pos) (fun σ H Q => TAr G W t σ H fun vs H1 => vs.length = (G.fl c).length ∧ ∀ d, H1 d = none → Q (.ref (G.cA c)) (some d) (upd H1 d (.xd ((G.fl c).zip vs)))) := by
    intro pins s σ H Q I h
    refine wpAny_Call_Name_kw (ld_glob I hg T.gC ?_ hdb)
    refine PySem.W.callWith_K (h₀ := X.base) I.ok.mod.kin T.kC (thn (ha.run pos pins s σ H _ I h) fun us s1 hh => ?_) he hpl
    obtain ⟨vs, H1, I1, rv, lv, q1⟩ := hh
    refine ⟨I1.kIn, ?_⟩
    obtain ⟨mb, B1, B2⟩ := I1.mod.blt
    have bk := I1.bk
    have glob := I1.mod.glob.keeps bk
    have hlim := I1.nolimit
    have lu : us.length = (G.fl c).length := by rw [← rv.length, lv]
    obtain ⟨hp, g, dr, tk', os⟩ := s1
    refine wpAny_call (Er.err_made T (mb := mb) I1.kIn glob (B1.keeps bk) B2 hlim lu (by have := hr.dp; omega) fun h' tk2 e' Me => ?_)
    show MkP X pins σ Q (.ref e') ⟨h', g, dr, tk2, os⟩
    obtain ⟨oe, fv, dx, hoe, hcc, hd, hdat, h1, d, rfl, dbig, dne, mA, hns, hm⟩ := Me.ob
    have new := Me.new
    have mk := Me.keep
    obtain ⟨G', g1, g2⟩ := restrict h' fun b => decide (b ≠ e')
    have gk : ∀ b, b ≠ e' → G'.get? b = h'.get? b := fun b hb => g1 b (decide_eq_true hb)
    have ge : G'.get? e' = none := g2 e' (by simp)
    have old : ∀ b o, hp.get? b = some o → G'.get? b = some o := fun b o q => (gk b (Nat.ne_of_lt (Nat.lt_of_lt_of_le (Heap.lt_size q) new))).trans (mk b o q)
    have ob : ObjOk X.prog X.w (upd H1 d (.xd ((G.fl c).zip vs))) G' d (.xd ((G.fl c).zip vs)) :=
      ⟨mA, hns.at (fun o q => (gk d dne).trans q), fun f => by
        rw [hm f]
        exact relO_zip rv⟩
    have J : Inv X pins σ (upd H1 d (.xd ((G.fl c).zip vs))) ⟨G', g, dr, tk2, os⟩ := I1.laid (t' := tk2) old dbig ob
    have fin : ∀ b o, G'.get? b = some o → h'.get? b = some o := fun b o q => by
      by_cases hb : b = e'
      · rw [hb, ge] at q
        cases q
      · exact (gk b hb).symm.trans q
    refine ⟨e', oe, fv, ⟨G', g, dr, tk2, os⟩, _, .ref (G.cA c), some d, rfl, J, fin, ge, hoe, ⟨hcc, hd⟩, hdat, h1, ?_, rfl, I1.bare, raises_own T.exC T.tyC, q1 d (I1.hok.fresh dbig)⟩
    rw [upd_ne (Ne.symm dne)]
    exact I1.hok.fresh new
  refine PS.of (ps_raise hc tk main) fun D σ H q => ?_
  obtain ⟨m, r, M, si, q⟩ := q
  refine ⟨m, r, M, si, GSO.bind q si fun ds M1 vs H1 m1 s1 si1 r1 q1 => ?_⟩
  split at q1
  · rename_i hz
    have lv : vs.length = (G.fl c).length := by rw [r1.length, hz, hn]
    refine ⟨lv, fun d hd => ?_⟩
    have st : Stp m1 H1 m1 (upd H1 d (.xd ((G.fl c).zip vs))) := Stp.fresh hd
    refine q1 d _ σ _ m1 st (si1.later st (si1.2.fresh hd)) upd_same (Er.zip_fst _ _ lv) ?_
    rw [zip_snd lv]
    exact r1.car (st.car si1.2)
  · exact q1.elim
end
end PV

set_option Elab.async false
set_option linter.all false
set_option maxRecDepth 100000
set_option maxHeartbeats 2000000

namespace PV
open PySem PySem.Spec PyProof.Rows L2
def wHs (K : PySem.W.Frag) (Wout : WX) (D : Ends) : List (Value × Option Nat × (Addr → Value → Option Addr → TS)) → WX
  | [] => Wout
  | (c, none, ts) :: r => fun cls d σ H => ∃ b, PySem.W.exmOne K cls c = some b ∧ (b = true → ∀ ad, H ad = none → ts ad cls d D σ H) ∧ (b = false → wHs K Wout D r cls d σ H)
  | (c, some i, ts) :: r => fun cls d σ H => ∃ b, PySem.W.exmOne K cls c = some b ∧
    (b = true → ∀ ad, H ad = none → ts ad cls d { nx := fun σ' H' => D.nx (σ'.set i none) H', rt := D.rt, bk := fun σ' H' => D.bk (σ'.set i none) H', ct := fun σ' H' => D.ct (σ'.set i none) H' } (σ.set i (some (.ref ad))) H) ∧ (b = false → wHs K Wout D r cls d σ H)
inductive HdsAs (Y : Cx) : List ExceptHandler → List (Value × Option Nat × (Addr → Value → Option Addr → TS)) → Prop
  | nil : HdsAs Y [] []
  | cons {x : Str} {c : Value} {ts : Addr → Value → Option Addr → TS} {b₀ : Stmt} {suite : List Stmt} {np pos' : Pos} {hds : List ExceptHandler} {l : List (Value × Option Nat × (Addr → Value → Option Addr → TS))} (hc : Names Y x c)
      (hsu : ∀ (ad : Addr) (oe : Obj) (cls : Value) (d : Option Addr) (pn : List (Addr × Obj)), Zc cls d oe → (∃ vs, oe.data = .fields vs) → PSs (Y.suite ad ((ad, oe) :: pn)) (b₀ :: suite) (ts ad cls d)) (r : HdsAs Y hds l) :
      HdsAs Y (.ExceptHandler (some (.Name x np)) none (b₀ :: suite) pos' :: hds) ((c, none, ts) :: l)
  | casn {x n : Str} {c : Value} {i : Nat} {ts : Addr → Value → Option Addr → TS} {b₀ : Stmt} {suite : List Stmt} {np pos' : Pos} {hds : List ExceptHandler} {l : List (Value × Option Nat × (Addr → Value → Option Addr → TS))} (hi : Y.N[i]? = some n) (hln : Y.env.kindOf n = some .local) (hc : Names Y x c)
      (hsu : ∀ (ad : Addr) (oe : Obj) (cls : Value) (d : Option Addr) (pn : List (Addr × Obj)), Zc cls d oe → (∃ vs, oe.data = .fields vs) → PSs (Y.suite ad ((ad, oe) :: pn)) (b₀ :: suite) (ts ad cls d)) (r : HdsAs Y hds l) :
      HdsAs Y (.ExceptHandler (some (.Name x np)) (some n) (b₀ :: suite) pos' :: hds) ((c, some i, ts) :: l)
section
variable {Y : Cx} {body : List Stmt} {h₀ : ExceptHandler} {hds : List ExceptHandler} {l : List (Value × Option Nat × (Addr → Value → Option Addr → TS))} {pos : Pos} {tb : WX → TS} {Wout : WX}
theorem ps_try_h (hs : Y.stack = Y.env :: Y.outer) (hN : Y.N.Nodup) (hf : Y.env.frame = some Y.env.locals) (tk : Takes Y Wout)
    (hb : ∀ (W : WX) (pn : List (Addr × Obj)) (xe : Value → Shared → Prop), Takes (Y.tr pn xe) W → PassesOwn (model Y.prog Y.w) Y.A Y.env xe → PSs (Y.tr pn xe) body (tb W))
    (hh : HdsAs Y (h₀ :: hds) l) : PS Y (.Try body (h₀ :: hds) [] [] pos) (fun D σ H => tb (wHs Y.K Wout D l) D σ H) := by
  refine ⟨fun pp s σ H D I h => ?_⟩
  have okk := I.ok
  have hfr : Y.A.frames = some (Y.env :: Y.outer) := by rw [okk.frames, hs]
  refine wpAny_Try_except ?_
  refine wpAny_mono ((hb (wHs Y.K Wout D l) (Y.pn ++ pp) (fun e s₁ => wpAny (model Y.prog Y.w) Y.A (noteFrame e Y.env) (fun _ s₂ => wpAny (model Y.prog Y.w) Y.A (setFlight e none) (fun _ s₃ =>
    wpAny (model Y.prog Y.w) Y.A (handleBy e Y.env (h₀ :: hds)) (SP Y pp D) Y.xe s₃) Y.xe s₂) Y.xe s₁) (fun u s' xx => ?_) PassesOwn.looking).run [] s σ H D (I.toTry _) h) (fun fw s1 hz6 => ?_) (fun e s1 he => he)
  · -- the catch
    obtain ⟨ad, B, sI, pins', σ', H', cls, d, rfl, J', nb, up, sky, na, os, ag, w⟩ := xx
    have J : Inv Y pp σ' H' sI := J'.ofTry okk
    have sky2 : Sky B (Y.env :: Y.outer) ad (Zc cls d) Y.env.locals s'.heap := by rw [← hs]; exact sky
    show wpAny (model Y.prog Y.w) Y.A (noteFrame (.ref ad) Y.env) _ _ _
    refine Sky.land Zc.steady hfr hf sky2 fun hp3 f3 up3 => ?_
    have J3 : Inv Y pp σ' H' { s' with heap := hp3 } := J.landed nb f3.1 (up.trans up3) os ag
    obtain ⟨oe3, vs3, he3, hz3, dd3⟩ := f3.there
    have notFr : ∀ {h : Heap} {o : Obj} {vs : Array Value}, h.FunFrames B (Y.env :: Y.outer) → h.get? ad = some o → o.data = .fields vs → ad ∉ frs (Y.env :: Y.outer) := fun {h o vs} ff e dd hm => by
      obtain ⟨_, o', e', hnf⟩ := ff.mem hm
      rw [e] at e'; cases e'
      exact hnf _ dd
    have nfr := notFr f3.2.2.1 he3 dd3
    have nL : ad ≠ Y.env.locals := fun z => nfr (List.mem_filterMap.mpr ⟨Y.env, List.mem_cons_self, by rw [hf, z]⟩)
    have nF : ad ∉ Y.fs := fun hm => by
      obtain ⟨e, he, qq⟩ := List.mem_filterMap.mp hm
      exact nfr (List.mem_filterMap.mpr ⟨e, List.mem_cons_of_mem _ he, qq⟩)
    have S3 := J3.suite he3 dd3 na nL nF
    have go : ∀ {hds' : List ExceptHandler} {l' : List (Value × Option Nat × (Addr → Value → Option Addr → TS))}, HdsAs Y hds' l' → wHs Y.K Wout D l' cls d σ' H' →
        wpAny (model Y.prog Y.w) Y.A (handleBy (.ref ad) Y.env hds') (SP Y pp D) Y.xe { s' with heap := hp3 } := by
      intro hds' l' hk
      induction hk with
      | nil =>
        intro w
        refine wpAny_handleBy_nil ?_
        obtain ⟨k1, k2, k3, oe, vs, Tb, oT, ts', he, hz, hd, h1, hr⟩ := id f3
        unfold PySem.passOn
        refine wpAny_bind (wpAny_field he hd h1 ?_)
        rw [if_neg (show ¬ ((Value.ref Tb == Value.none) = true) from by simp)]
        have fin1 : wpAny (model Y.prog Y.w) Y.A (setFlight (.ref ad) Y.env.frame) (fun _ s4 => wpAny (model Y.prog Y.w) Y.A (throw (.ref ad) : Sem Flow) (SP Y pp D) Y.xe s4) Y.xe { s' with heap := hp3 } := by
          rw [hf]
          refine HandSPX.setFlight_upZ f3 fun hp4 hh4 up4 => wpAny_throw (tk _ _ ?_)
          exact ⟨ad, B, sI, pp, σ', H', cls, d, rfl, J, nb, (up.trans up3).trans up4, .inr (.inr (by rw [hs]; exact hh4)), na, os, ag, w⟩
        first
          | exact wpAny_bind (wpAny_pure (wpAny_bind fin1))
          | exact wpAny_bind fin1
      | @cons x c ts b₀ suite np pos' hds2 l2 hc hsu r ih =>
        intro w
        obtain ⟨b, hb1, hyes, hno⟩ := w
        refine wpAny_handleBy_cons (codeAny_handlers_test ?_) (by intro qq; cases qq)
        have LT : PySem.W.Looks (model Y.prog Y.w) hp3 (typeOf (.ref ad)) cls := fun A Q E s k qq => wpAny_typeOf_ref (k _ _ he3) (by rw [hz3.1]; exact qq)
        have LM := PySem.W.exm_one (M := model Y.prog Y.w) (J3.kIn) LT hb1
        have test : ∀ {Q : Value → Shared → Prop} {E : Value → Shared → Prop}, Q c { s' with heap := hp3 } → wpAny (model Y.prog Y.w) (Y.A.mark (some (.ref ad))) (eval (.Name x np) Y.env) Q E { s' with heap := hp3 } := fun {Q E} qq => by
          obtain ⟨hg, hdbg, hm | ⟨hm, hv, hnn⟩⟩ := hc
          · exact ld_glob (X := Y.suite ad ((ad, oe3) :: (Y.pn ++ pp))) S3 hg hm qq hdbg
          · exact ld_blt (X := Y.suite ad ((ad, oe3) :: (Y.pn ++ pp))) S3 hg hm hv qq hnn hdbg
        refine test (LM.here ?_)
        cases b with
        | true =>
          refine codeAny_handlers_suite ?_
          refine HandSPX.lands_againZ f3 fun hp4 f4 up4 => ?_
          have J4 : Inv Y pp σ' H' { s' with heap := hp4 } := J.landed nb f4.1 ((up.trans up3).trans up4) os ag
          obtain ⟨oe4, vs4, he4, hz4, hd4⟩ := f4.there
          have S4 := J4.suite he4 hd4 na nL nF
          refine wpAny_mono ((hsu ad oe4 cls d (Y.pn ++ pp) hz4 ⟨_, hd4⟩).run [] _ _ H' _ S4 (hyes rfl ad na)) (fun fw s6 hz6 => ?_) (fun _ _ z => False.elim z)
          cases fw with
          | next =>
            obtain ⟨σ9, H6, S6, g6⟩ := hz6
            exact ⟨_, _, S6.unsuite okk, g6⟩
          | brk =>
            obtain ⟨σ9, H6, S6, g6⟩ := hz6
            exact ⟨_, _, S6.unsuite okk, g6⟩
          | cont =>
            obtain ⟨σ9, H6, S6, g6⟩ := hz6
            exact ⟨_, _, S6.unsuite okk, g6⟩
          | ret u =>
            obtain ⟨v6, σ9, H6, S6, r6, g6⟩ := hz6
            exact ⟨_, _, _, S6.unsuite okk, r6, g6⟩
        | false =>
          show wpAny _ Y.A (handleBy (.ref ad) Y.env hds2) _ _ _
          exact ih (hno rfl)
      | @casn x n c i ts b₀ suite np pos' hds2 l2 hi hln hc hsu r ih =>
        intro w
        obtain ⟨b, hb1, hyes, hno⟩ := w
        refine wpAny_handleBy_cons (codeAny_handlers_test ?_) (by intro qq; cases qq)
        have LT : PySem.W.Looks (model Y.prog Y.w) hp3 (typeOf (.ref ad)) cls := fun A Q E s k qq => wpAny_typeOf_ref (k _ _ he3) (by rw [hz3.1]; exact qq)
        have LM := PySem.W.exm_one (M := model Y.prog Y.w) (J3.kIn) LT hb1
        have test : ∀ {Q : Value → Shared → Prop} {E : Value → Shared → Prop}, Q c { s' with heap := hp3 } → wpAny (model Y.prog Y.w) (Y.A.mark (some (.ref ad))) (eval (.Name x np) Y.env) Q E { s' with heap := hp3 } := fun {Q E} qq => by
          obtain ⟨hg, hdbg, hm | ⟨hm, hv, hnn⟩⟩ := hc
          · exact ld_glob (X := Y.suite ad ((ad, oe3) :: (Y.pn ++ pp))) S3 hg hm qq hdbg
          · exact ld_blt (X := Y.suite ad ((ad, oe3) :: (Y.pn ++ pp))) S3 hg hm hv qq hnn hdbg
        refine test (LM.here ?_)
        cases b with
        | true =>
          have hloc : Loc Y.env.scope n := .inl hln
          refine codeAny_handlers_suite_as ?_
          refine HandSPX.lands_againZ f3 fun hp4 f4 up4 => ?_
          have J4 : Inv Y pp σ' H' { s' with heap := hp4 } := J.landed nb f4.1 ((up.trans up3).trans up4) os ag
          obtain ⟨oe4, vs4, he4, hz4, hd4⟩ := f4.there
          have S4 := J4.suite he4 hd4 na nL nF
          refine store_ok (X := Y.suite ad ((ad, oe4) :: (Y.pn ++ pp))) (v := .ref ad) S4 hN hi hloc rfl (fun s5 S5 => ?_) (.inr hln)
          refine wpAny_mono ((hsu ad oe4 cls d (Y.pn ++ pp) hz4 ⟨_, hd4⟩).run [] s5 _ H' _ S5 (hyes rfl ad na)) (fun fw s6 hz6 => ?_) (fun _ _ z => False.elim z)
          have end_ : ∀ {σ9 : Sl} {H6 : Hp} {Q : Shared → Prop}, Inv (Y.suite ad ((ad, oe4) :: (Y.pn ++ pp))) [] σ9 H6 s6 → (∀ s8, Inv Y pp (σ9.set i none) H6 s8 → Q s8) →
              wpAny (model Y.prog Y.w) Y.A (do bindName Y.env n .none; unbindBehindTheSuite Y.env n pos') (fun _ s8 => Q s8) Y.xe s6 := fun {σ9 H6 Q} S6 hq => gone_ok (S6.unsuite okk) hN hi hln hq
          cases fw with
          | next =>
            obtain ⟨σ9, H6, S6, g6⟩ := hz6
            exact end_ S6 fun s8 J8 => ⟨_, _, J8, g6⟩
          | brk =>
            obtain ⟨σ9, H6, S6, g6⟩ := hz6
            exact end_ S6 fun s8 J8 => ⟨_, _, J8, g6⟩
          | cont =>
            obtain ⟨σ9, H6, S6, g6⟩ := hz6
            exact end_ S6 fun s8 J8 => ⟨_, _, J8, g6⟩
          | ret u =>
            obtain ⟨v6, σ9, H6, S6, r6, g6⟩ := hz6
            exact end_ S6 fun s8 J8 => ⟨_, _, _, J8, r6, g6⟩
        | false =>
          show wpAny _ Y.A (handleBy (.ref ad) Y.env hds2) _ _ _
          exact ih (hno rfl)
    exact go hh w
  · cases fw with
    | next =>
      obtain ⟨σ', H', J', qq⟩ := hz6
      exact wpAny_execs_nil ⟨σ', H', J'.ofTry okk, qq⟩
    | brk =>
      obtain ⟨σ', H', J', qq⟩ := hz6
      exact ⟨σ', H', J'.ofTry okk, qq⟩
    | cont =>
      obtain ⟨σ', H', J', qq⟩ := hz6
      exact ⟨σ', H', J'.ofTry okk, qq⟩
    | ret u =>
      obtain ⟨v, σ', H', J', r, qq⟩ := hz6
      exact ⟨v, σ', H', J'.ofTry okk, r, qq⟩
end


structure Ht where
  a : Addr
  d : Addr
  c : Nat
  fs : List D
def Fact (G : Gd) (h : Ht) (i : Nat) (m : List Addr) (H : Hp) (σ : Sl) : Prop :=
  (∃ kv, H h.d = some (.xd kv) ∧ kv.map (·.1) = G.fl h.c ∧ Reps G.K H m (kv.map (·.2)) h.fs) ∧ σ[i]? = some (some (.ref h.a))
abbrev noW : WX := fun _ _ _ _ => False
def TX (G : Gd) (h : Ht) (i : Nat) (f : Xp) : TE := fun σ H Q => ∃ m r M, Sim G m H σ r M ∧ Fact G h i m H σ ∧ GOut G (RD G) m H (f r M) Q fun _ _ _ => False
def TXa (G : Gd) (h : Ht) (i : Nat) (f : Xa) : TA := fun σ H Q => ∃ m r M, Sim G m H σ r M ∧ Fact G h i m H σ ∧ GOut G (RA G) m H (f r M) Q fun _ _ _ => False
def TXs (G : Gd) (h : Ht) (i : Nat) (g : Xs) : TS := fun D σ H => ∃ m r M, Sim G m H σ r M ∧ Fact G h i m H σ ∧ GSO G m H noW D (g r M)
section
variable {G : Gd} {h : Ht} {i : Nat} {m m' : List Addr} {H H' : Hp} {σ : Sl} {M : Mem} {X : Cx}
theorem MemOk.noXd (mo : MemOk G.K H m M) {a : Addr} {kv : List (Str × V)} (e : H a = some (.xd kv)) : a ∉ m := fun hm => by
  obtain ⟨n, o, _, _, q⟩ := mo.mem hm
  rcases q.is with ⟨ws, z⟩ | ⟨kws, z⟩ | ⟨od, kws, z⟩ <;> rw [e] at z <;> cases z
theorem Fact.later (F : Fact G h i m H σ) (mo : MemOk G.K H m M) (s : Stp m H m' H') : Fact G h i m' H' σ := by
  obtain ⟨⟨kv, e, k, r⟩, q⟩ := F
  exact ⟨⟨kv, s.oth _ _ e (mo.noXd e), k, r.car (s.car mo)⟩, q⟩
theorem lookup_at {α : Type} {f : Str} {v : α} : ∀ {kv : List (Str × α)} {j : Nat}, (kv.map (·.1)).Nodup → kv[j]? = some (f, v) → kv.lookup f = some v
  | [], j, _, e => by simp at e
  | (g, u) :: r, 0, _, e => by
    simp only [List.getElem?_cons_zero, Option.some.injEq, Prod.mk.injEq] at e
    simp [List.lookup, e.1, e.2]
  | (g, u) :: r, j + 1, nd, e => by
    simp only [List.getElem?_cons_succ] at e
    simp only [List.map_cons, List.nodup_cons] at nd
    have hf : f ∈ r.map (·.1) := List.mem_map.mpr ⟨(f, v), List.mem_of_getElem? e, rfl⟩
    have ne : (f == g) = false := beq_eq_false_iff_ne.mpr fun z => nd.1 (z ▸ hf)
    simp only [List.lookup, ne]
    exact lookup_at nd.2 e
theorem dx_up {e : Expr} {f : Xp} (he : DE G X noW e f) : PE X e (TX G h i f) := PE.of he fun σ H Q ⟨m, r, M, si, _, q⟩ => ⟨m, r, M, si, q⟩
theorem dxs_up {st : List Stmt} {g : Xs} (hs : DSs G X noW st g) : PSs X st (TXs G h i g) := PSs.of hs fun D σ H ⟨m, r, M, si, _, q⟩ => ⟨m, r, M, si, q⟩
theorem dx_nil : PA X [] (TXa G h i aNil) := PA.of (da_nil (W := noW)) fun σ H Q ⟨m, r, M, si, _, q⟩ => ⟨m, r, M, si, q⟩
theorem dx_cons {e : Expr} {es : List Expr} {f : Xp} {t : Xa} (ha : PE X e (TX G h i f)) (hr : PA X es (TXa G h i t)) (hs : starEach (e :: es) X.env = (false, eval e X.env) :: starEach es X.env := by rfl) : PA X (e :: es) (TXa G h i (aCons f t)) := by
  refine PA.of (pa_cons ha hr hs) fun σ H Q q => ?_
  obtain ⟨m, r, M, si, F, q⟩ := q
  refine ⟨m, r, M, si, F, GOut.bind q fun d M1 v H1 m1 s1 o1 r1 q1 => ⟨m1, r, M1, si.later s1 o1, F.later si.2 s1, GOut.bind q1 fun ds M2 vs H2 m2 s2 o2 r2 q2 => ?_⟩⟩
  exact GOut.ret q2 o2 (.cons (r1.car (s2.car o1)) r2)
theorem dx_tup {es : List Expr} {t : Xa} {x1 pos} (ha : PA X es (TXa G h i t)) : PE X (.Tuple es x1 pos) (TX G h i (xTup t)) := by
  refine PE.of (pe_tup ha) fun σ H Q q => ?_
  obtain ⟨m, r, M, si, F, q⟩ := q
  refine ⟨m, r, M, si, F, GOut.bind q fun ds M1 vs H1 m1 s1 o1 r1 q1 => ?_⟩
  split at q1
  · rename_i hz
    refine ⟨by rw [r1.length, ← szL]; exact hz, fun p hp => ?_⟩
    exact q1 _ _ _ (Stp.fresh hp) (o1.fresh hp) (.tup SqT.new (r1.car ((Stp.fresh hp).car o1)))
  · exact q1.elim
theorem dx_callB {id : String} {F : Fn} {r : List V → Hp → VK → Prop} {x : Str} {p pos : Pos} {e : Expr} {es : List Expr} {t : Xa} (hc : CallR X (.builtin id) r) (hr : CallG G F r) (hg : Gl X x) (hm : X.mg x = none) (hv : bootBuiltins x = some (.builtin id)) (ha : PA X (e :: es) (TXa G h i t))
    (hn : x ≠ "__name__" := by decide) (hdb : (x == ("__debug__" : Str)) = false := by decide)
    (he : starEach (e :: es) X.env = (false, eval e X.env) :: starEach es X.env := by rfl) (hpl : (backTo pos (starEach es X.env)).any (·.1) = false := by rfl) : PE X (.Call (.Name x p) (e :: es) [] pos) (TX G h i (xCall F t)) := by
  refine PE.of (pe_callB hc hg hm hv ha hn hdb he hpl) fun σ H Q q => ?_
  obtain ⟨m, e, M, si, F, q⟩ := q
  exact ⟨m, e, M, si, F, GOut.bind q fun ds M1 vs H1 m1 s1 o1 r1 q1 => hr m1 H1 M1 vs ds Q _ o1 r1 q1⟩
theorem dx_fld {oe : Obj} {pn : List (Addr × Obj)} {nm n f : Str} {j : Nat} {p pos : Pos} (hz : Zc (.ref (G.cA h.c)) (some h.d) oe) (hf : ∃ vs, oe.data = .fields vs) (T : Er.Txt X.prog X.K X.mg nm (G.fl h.c) (G.cA h.c)) (hj : (G.fl h.c)[j]? = some f)
    (hN : X.N[i]? = some n := by rfl) (hv : Vis X.env.scope n := by first | exact Or.inl rfl | exact Or.inr (Or.inl rfl)) (hd : (n == ("__debug__" : Str)) = false := by decide) (hcd : (n == ("__classdict__" : Str)) = false := by decide)
    (hb : attributeBase (.Name n p) f X.env (eval (.Name n p) X.env) = eval (.Name n p) X.env := by rfl) : PE (X.suite h.a ((h.a, oe) :: pn)) (.Attribute (.Name n p) f pos) (TX G h i (xFs h.fs j)) := by
  refine ⟨fun pins s σ H Q I q => ?_⟩
  obtain ⟨m, r, M, si, ⟨⟨kv, e1, e2, e3⟩, e4⟩, q⟩ := q
  refine attr_of hb (thn ((pe_var (X := X.suite h.a ((h.a, oe) :: pn)) hN hv hd hcd).run pins s σ H (fun x H1 => x = .ref h.a ∧ H1 = H) I ⟨_, e4, rfl, rfl⟩) fun u s1 hh => ?_)
  obtain ⟨x, H1, I1, rx, ex, eH⟩ := hh
  subst ex
  subst eH
  obtain rfl : u = Value.ref h.a := rx
  obtain ⟨ha, _⟩ := I1.pin (h.a, oe) (List.mem_append_left _ List.mem_cons_self)
  obtain ⟨vs, hdt⟩ := hf
  have hx : ObjOk X.prog X.w H1 s1.heap h.d (.xd kv) := I1.hok h.d _ e1
  obtain ⟨mA, hns, hr⟩ := hx
  obtain ⟨od, ho, hl⟩ := lookIn_ns hns
  unfold xFs at q
  split at q
  · rename_i d hd'
    obtain ⟨v, g1, g2⟩ := e3.get j d hd'
    have at2 : kv[j]? = some (f, v) := by
      rw [List.getElem?_map] at g1
      have g0 : (kv.map (·.1))[j]? = some f := by rw [e2]; exact hj
      rw [List.getElem?_map] at g0
      cases w : kv[j]? with
      | none => rw [w] at g1; cases g1
      | some y =>
        rw [w] at g1 g0
        obtain ⟨y1, y2⟩ := y
        simp only [Option.map_some, Option.some.injEq] at g1 g0
        rw [g1, g0]
    have l := lookup_at (by rw [e2]; exact T.nd) at2
    obtain ⟨u, hu, ru⟩ := RelO.some_of (v := v) (o := mA f) (by rw [← l]; exact hr f)
    have J : PySem.W.InstAt s1.heap h.a oe (G.cA h.c) (some od) := ⟨ha, hz.1, by unfold PySem.W.notCls; rw [hdt] <;> rfl, by rw [hz.2]; exact ho⟩
    exact HandSPX.exc_get I1.kIn J T.ga T.gg T.exC (PySem.W.findObj_own T.hdC (T.noF f (List.mem_of_getElem? hj)) rfl (by rw [hl, hu])) (handed_of ru) ⟨v, H1, I1.tok _, ru, GOut.ret q si.2 g2⟩
  · exact q.elim
theorem dxs_set {k : Nat} {x : Str} {e : Expr} {f : Xp} {pos' pos : Pos} (hN : X.N.Nodup) (he : PE X e (TX G h i f)) (hi : X.N[k]? = some x := by rfl) (hx : Loc X.env.scope x := by first | exact Or.inl rfl | exact Or.inr rfl) (hs : swapsWith e (some (.Name x pos')) pos.line X.env = pure false := by rfl)
    (hf : X.fn x = true ∨ X.env.scope.names.lookup x = some .local := by first | exact .inl rfl | exact .inr rfl | assumption) : PSs X [.Assign [.Name x pos'] e pos] (TXs G h i (sSet k f)) := by
  refine PSs.of (pss_one (ps_set hN hi hx he hs hf)) fun D σ H q => ?_
  obtain ⟨m, r, M, si, F, q⟩ := q
  exact ⟨m, r, M, si, F, GSO.bind (W := noW) q si fun d M1 v H1 m1 s1 si1 r1 q1 => q1 _ H1 m1 .refl ⟨si1.1.set k r1, si1.2⟩⟩
theorem dxs_ret {e : Expr} {f : Xp} {pos : Pos} (he : PE X e (TX G h i f)) : PSs X [.Return (some e) pos] (TXs G h i (sRet f)) := by
  refine PSs.of (pss_one (ps_ret he)) fun D σ H q => ?_
  obtain ⟨m, r, M, si, F, q⟩ := q
  exact ⟨m, r, M, si, F, GSO.bind (W := noW) q si fun d M1 v H1 m1 s1 si1 r1 q1 => q1 v H1 m1 .refl si1.2 r1⟩
end


def tsN (G : Gd) (x : Hdl) : Addr → Value → Option Addr → TS := fun _ _ _ D σ H => ∃ m r M fs, Sim G m H σ r M ∧ GSO G m H noW D (x.run fs r M)
def tsA (G : Gd) (x : Hdl) (i : Nat) : Addr → Value → Option Addr → TS := fun a cls d D σ H => ∃ c dd fs, cls = .ref (G.cA c) ∧ d = some dd ∧ x.cls c = true ∧ TXs G ⟨a, dd, c, fs⟩ i (x.run fs) D σ H
inductive DHs (G : Gd) (X : Cx) : List ExceptHandler → List (Value × Option Nat × (Addr → Value → Option Addr → TS)) → List Hdl → Prop
  | nil : DHs G X [] [] []
  | cons {x : Str} {cl : Value} {g : Xs} {cf : Nat → Bool} {b₀ : Stmt} {suite : List Stmt} {np pos' : Pos} {hds : List ExceptHandler} {l : List (Value × Option Nat × (Addr → Value → Option Addr → TS))} {hl : List Hdl} (hc : Names X x cl) (hx : ∀ c, PySem.W.exmOne X.K (.ref (G.cA c)) cl = some (cf c))
      (hsu : ∀ (a : Addr) (oe : Obj) (pn : List (Addr × Obj)), DSs G (X.suite a ((a, oe) :: pn)) noW (b₀ :: suite) g) (r : DHs G X hds l hl) :
      DHs G X (.ExceptHandler (some (.Name x np)) none (b₀ :: suite) pos' :: hds) ((cl, none, tsN G ⟨cf, none, fun _ => g⟩) :: l) (⟨cf, none, fun _ => g⟩ :: hl)
  | casn {x n : Str} {cl : Value} {g : List D → Xs} {cf : Nat → Bool} {i : Nat} {b₀ : Stmt} {suite : List Stmt} {np pos' : Pos} {hds : List ExceptHandler} {l : List (Value × Option Nat × (Addr → Value → Option Addr → TS))} {hl : List Hdl} (hi : X.N[i]? = some n) (hln : X.env.kindOf n = some .local) (hc : Names X x cl)
      (hx : ∀ c, PySem.W.exmOne X.K (.ref (G.cA c)) cl = some (cf c))
      (hsu : ∀ (h : Ht) (oe : Obj) (pn : List (Addr × Obj)), cf h.c = true → Zc (.ref (G.cA h.c)) (some h.d) oe → (∃ vs, oe.data = .fields vs) → PSs (X.suite h.a ((h.a, oe) :: pn)) (b₀ :: suite) (TXs G h i (g h.fs))) (r : DHs G X hds l hl) :
      DHs G X (.ExceptHandler (some (.Name x np)) (some n) (b₀ :: suite) pos' :: hds) ((cl, some i, tsA G ⟨cf, some i, g⟩ i) :: l) (⟨cf, some i, g⟩ :: hl)
section
variable {G : Gd} {X : Cx} {hds : List ExceptHandler} {l : List (Value × Option Nat × (Addr → Value → Option Addr → TS))} {hl : List Hdl}
theorem DHs.as (x : DHs G X hds l hl) : HdsAs X hds l := by
  induction x with
  | nil => exact .nil
  | cons hc hx hsu r ih =>
    exact .cons hc (fun a oe cls d pn hz hf => PSs.of (hsu a oe pn) fun D σ H ⟨m, r, M, fs, si, q⟩ => ⟨m, r, M, si, q⟩) ih
  | casn hi hln hc hx hsu r ih =>
    refine .casn hi hln hc (fun a oe cls d pn hz hf => ⟨fun pins s σ H D I q => ?_⟩) ih
    obtain ⟨c, dd, fs, rfl, rfl, hcc, q⟩ := q
    exact (hsu ⟨a, dd, c, fs⟩ oe pn hcc hz hf).run pins s σ H D I q
theorem EnvOk.off {K : PySem.W.Frag} {H : Hp} {m : List Addr} {σ : Sl} {r : Ev} (h : EnvOk K H m σ r) (i : Nat) (x : Option V) : EnvOk K H m (σ.set i x) (r.set i none) := by
  refine ⟨by rw [List.length_set, List.length_set]; exact h.len, fun j d e => ?_⟩
  by_cases hj : i = j
  · subst hj
    by_cases hi : i < r.length
    · rw [List.getElem?_set_self hi] at e
      cases e
    · rw [List.getElem?_eq_none (by rw [List.length_set]; omega)] at e
      cases e
  · rw [List.getElem?_set_ne hj] at e
    obtain ⟨v', h1, h2⟩ := h.at_ j d e
    exact ⟨v', by rw [List.getElem?_set_ne hj]; exact h1, h2⟩
theorem gso_unN {m : List Addr} {H : Hp} {W : WX} {D : Ends} {o : SO} (h : GSO G m H W D (unN o)) : GSO G m H noW D o := by
  cases o with
  | er c fs r M => exact h.elim
  | nx r M => exact h
  | rt d M => exact h
  | bk r M => exact h
  | ct r M => exact h
  | stk => exact h
theorem gso_unS {m : List Addr} {H : Hp} {W : WX} {D : Ends} {i : Nat} {o : SO} (h : GSO G m H W D (unS i o)) :
    GSO G m H noW { nx := fun σ' H' => D.nx (σ'.set i none) H', rt := D.rt, bk := fun σ' H' => D.bk (σ'.set i none) H', ct := fun σ' H' => D.ct (σ'.set i none) H' } o := by
  cases o with
  | er c fs r M => exact h.elim
  | nx r M => exact fun σ' H' m' s si => h _ H' m' s ⟨si.1.off i none, si.2⟩
  | rt d M => exact h
  | bk r M => exact fun σ' H' m' s si => h _ H' m' s ⟨si.1.off i none, si.2⟩
  | ct r M => exact fun σ' H' m' s si => h _ H' m' s ⟨si.1.off i none, si.2⟩
  | stk => exact h
theorem hs_go {Wout : WX} {D : Ends} {c : Nat} {fs : List PV.D} {r : Ev} {M : Mem} {m : List Addr} {H : Hp} {d : Addr} {kv : List (Str × V)} {σ : Sl} (x : DHs G X hds l hl) (si : Sim G m H σ r M)
    (e1 : H d = some (.xd kv)) (e2 : kv.map (·.1) = G.fl c) (e3 : Reps G.K H m (kv.map (·.2)) fs) (q : GSO G m H Wout D (hGo hl c fs r M)) : wHs X.K Wout D l (.ref (G.cA c)) (some d) σ H := by
  induction x with
  | nil => exact q d kv σ H m .refl si e1 e2 e3
  | @cons x cl g cf b₀ suite np pos' hds l hl hc hx hsu r' ih =>
    refine ⟨cf c, hx c, fun hb a ha => ?_, fun hb => ?_⟩
    · unfold hGo at q
      rw [if_pos hb] at q
      exact ⟨m, r, M, fs, si, gso_unN q⟩
    · unfold hGo at q
      rw [if_neg (show ¬ cf c = true by rw [hb]; exact Bool.false_ne_true)] at q
      exact ih q
  | @casn x n cl g cf i b₀ suite np pos' hds l hl hi hln hc hx hsu r' ih =>
    refine ⟨cf c, hx c, fun hb a ha => ?_, fun hb => ?_⟩
    · unfold hGo at q
      rw [if_pos hb] at q
      dsimp only at q
      by_cases hi2 : i < r.length
      case neg =>
        rw [if_neg hi2] at q
        exact q.elim
      rw [if_pos hi2] at q
      refine ⟨c, d, fs, rfl, rfl, hb, m, _, M, ⟨si.1.off i (some (.ref a)), si.2⟩, ⟨⟨kv, e1, e2, e3⟩, ?_⟩, gso_unS q⟩
      rw [List.getElem?_set_self (by rw [si.1.len]; exact hi2)]
    · unfold hGo at q
      rw [if_neg (show ¬ cf c = true by rw [hb]; exact Bool.false_ne_true)] at q
      exact ih q
theorem ds_try {W : WX} {body : List Stmt} {h₀ : ExceptHandler} {s : Xs} {pos : Pos} (hs : X.stack = X.env :: X.outer) (hN : X.N.Nodup) (hf : X.env.frame = some X.env.locals) (tk : Takes X W)
    (hb : ∀ (W' : WX) (pn : List (Addr × Obj)) (xe : Value → Shared → Prop), Takes (X.tr pn xe) W' → PassesOwn (model X.prog X.w) X.A X.env xe → DSs G (X.tr pn xe) W' body s)
    (hh : DHs G X (h₀ :: hds) l hl) : DS G X W (.Try body (h₀ :: hds) [] [] pos) (sTry s hl) := by
  refine ⟨fun pins s0 σ H D I q => ?_⟩
  refine (ps_try_h (tb := fun W' => TSt G W' s) hs hN hf tk hb hh.as).run pins s0 σ H D I ?_
  obtain ⟨m, r, M, si, q⟩ := q
  refine ⟨m, r, M, si, ?_⟩
  unfold sTry at q
  generalize s r M = o at q ⊢
  cases o with
  | er c fs r1 M1 =>
    intro d kv σ' H' m' st si' e1 e2 e3
    exact hs_go hh si' e1 e2 e3 (GSO.later q st)
  | nx r M => exact q
  | rt d M => exact q
  | bk r M => exact q
  | ct r M => exact q
  | stk => exact q
end
end PV

set_option Elab.async false
set_option linter.all false
set_option maxRecDepth 100000
set_option maxHeartbeats 2000000

namespace PV
open PySem PySem.Spec PyProof.Rows L2

theorem meets_enum1 {v : Value} {o : Obj} {Hh : Heap → Prop} (B : Begins v o Hh) :
    Meets (Builtin.«enumerate.__new__» ⟨[.type "enumerate", v], []⟩) (fun _ R s => Hh s.heap ∧
      R (.ok (.ret (.ref (s.heap.push o).objs.size))) { s with heap := (s.heap.push o).push { cls := .type "enumerate", data := .fields #[.none, .bool false, .ref s.heap.objs.size, rawInt 0, .none, .none] } }) :=
  .of_wp fun prg wd Ar Rs st hyp => by
    obtain ⟨hpp, gg, dd, tt, oo⟩ := st; obtain ⟨in1, in2⟩ := hyp
    have sub1 := sub_enumerate
    have itr : ∀ {A' : Around} {E : Value → Shared → Prop} {Q : Value → Shared → Prop}, Q (.ref hpp.objs.size) ⟨hpp.push o, gg, dd, tt, oo⟩ → wpAny (model prg wd) A' (pyIter v) Q E ⟨hpp, gg, dd, tt, oo⟩ :=
      fun q => B.iter prg wd _ _ ⟨hpp, gg, dd, tt, oo⟩ _ in1 q
    wp_walk using itr
    refine wpAny_stack_any fun stk => wpAny_pure ?_
    split
    · rename_i cc _ _ _ _ _
      cases (cc == Value.type "enumerate")
      · wp_walk using itr
        exact ⟨_, rfl, in2⟩
      · wp_walk using itr
        exact ⟨_, rfl, in2⟩
    · wp_walk using itr
      exact ⟨_, rfl, in2⟩
theorem call_enum1 {prog : Program} {w : World} {A : Around} {E : Value → Shared → Prop} {s : Shared} {v : Value} {o : Obj} {Hh : Heap → Prop} {Q : Value → Shared → Prop} (B : Begins v o Hh) (h1 : Hh s.heap)
    (h : ∀ h', IsEnum h' (s.heap.objs.size + 1) s.heap.objs.size 0 .none → h'.get? s.heap.objs.size = some o → (∀ b o, s.heap.get? b = some o → h'.get? b = some o) → Q (.ref (s.heap.objs.size + 1)) { s with heap := h' }) :
    wpAny (model prog w) A (call (.type "enumerate") [v]) Q E s := by
  refine callType_new F.called_enumerate (by decide) (F.typeCall_enumerate_1 _) (F.newCall_enumerate_1 _) (fun ob => F.args_object_init_2 ob _) F.entry_enumerate_new (meets_enum1 B) ⟨h1, ?_⟩
  have sz : (s.heap.push o).objs.size = s.heap.objs.size + 1 := Heap.size_push ..
  show _ ∧ _
  rw [sz]
  have ie : IsEnum ((s.heap.push o).push { cls := .type "enumerate", data := .fields #[.none, .bool false, .ref s.heap.objs.size, rawInt 0, .none, .none] }) (s.heap.objs.size + 1) s.heap.objs.size 0 .none := by
    have at1 := Heap.get?_push_size (s.heap.push o) (o := { cls := .type "enumerate", data := .fields #[.none, .bool false, .ref s.heap.objs.size, rawInt 0, .none, .none] }) rfl
    rw [sz] at at1
    exact at1
  exact ⟨⟨_, ie, rfl⟩, h _ ie (Heap.get?_push_of_some _ (Heap.get?_push_size _ B.free)) fun b ob x => Heap.get?_push_of_some _ (Heap.get?_push_of_some _ x)⟩

def Iet (K : PySem.W.Frag) (a : Addr) : It :=
  ⟨fun i H => ∃ (xs : List V) (x : V), SqT K H a xs ∧ xs[i]? = some x, fun i H v H' => ∃ p x, v = .ref p ∧ H p = none ∧ H' = upd H p (.tup [.int (i : Nat), x]) ∧ ∀ xs, SqT K H a xs → xs[i]? = some x, fun i H => ∃ xs : List V, SqT K H a xs ∧ xs.length ≤ i⟩
theorem turn_enumT {P : Program} {w : World} {K : PySem.W.Frag} {elts : List Expr} {kk : Nat} {tpos : Pos} (a e it : Addr) :
    Turn P w K (.Tuple elts kk tpos) (Iet K a) [e, it] e (fun i h => (∃ old, IsEnum h e it ((i : Nat) : Int) old) ∧ h.IsTupleIter it a i ∧ e ≠ it ∧ e ≠ a ∧ a ≠ it) where
  mem := by simp
  obj := fun i h st b hb => by
    obtain ⟨⟨old, he⟩, ⟨o, ho, hc, hd⟩, _⟩ := st
    rcases (show b = e ∨ b = it by simpa using hb) with z | z
    · subst z
      exact ⟨_, he, fun v q => nomatch q⟩
    · subst z
      exact ⟨o, ho, fun v q => by rw [hd] at q; cases q⟩
  keep := fun i h h' st k => by
    obtain ⟨⟨old, he⟩, hi, hne⟩ := st
    exact ⟨⟨old, k e (by simp) _ he⟩, hi.at (fun o q => k it (by simp) o q), hne⟩
  item := by
    intro Y hP hw hK hc i pins s σ H E I hf st hg
    subst hP hw hK
    obtain ⟨⟨old, he⟩, hit, hne, hea, hai⟩ := st
    obtain ⟨xs, x, hq, hx⟩ := hg
    obtain ⟨its, rv, p, hz⟩ := I.tuple hq
    obtain ⟨u, hu, ru⟩ := rv.get hx
    have hel : e < s.heap.objs.size := Heap.lt_size he
    have hil : it < s.heap.objs.size := by
      obtain ⟨_, q, _⟩ := hit
      exact Heap.lt_size q
    have il : i < its.length := (List.getElem?_eq_some_iff.mp hu).1
    have DD := Draws.tuple (prog := Y.prog) (w := Y.w) (A := Y.A.in1) (show Y.A.in1.handled = none from I.ok.hd hc) it a hai its.toArray
    refine wpAny_pyNext_enum_itemD DD he ⟨hit, p⟩ (by simpa using il) hne (by simp [hne, hea]) fun x' h' tk hx' ho hit' hT hsz hk => ?_
    have xu : x' = u := by
      have hx'' : its[i]? = some x' := by simpa using hx'
      rw [hu] at hx''
      exact (Option.some.inj hx'').symm
    subst xu
    refine ⟨_, rfl, wpAny_letOwnedTupleGo_enum (s := { s with heap := h', toks := tk + 1 }) ho fun h2 he2 sb => ?_⟩
    have hT2 : h2.get? s.heap.objs.size = some { cls := .type "tuple", data := .seq #[.int i tk, x'] } := (sb.2 _ (Nat.ne_of_gt hel)).trans hT
    have new : ObjOk Y.prog Y.w (upd H s.heap.objs.size (.tup [.int (i : Nat), x])) h2 s.heap.objs.size (.tup [.int (i : Nat), x]) :=
      ⟨by show 2 ≤ sizeLine; decide, [.int i tk, x'], .cons ⟨_, rfl⟩ (.cons ru .nil), ⟨_, hT2, rfl, _, rfl⟩⟩
    have I1 : Inv Y pins σ (upd H s.heap.objs.size (.tup [.int (i : Nat), x])) { s with heap := h2, toks := tk + 1 } :=
      I.turnedNew (ch := [e, it]) (fun b ob hb q => (sb.2 b (fun z => hb (by simp [z]))).trans (hk b ob (fun z => hb (by simp [z])) (fun z => hb (by simp [z])) q)) hf (Nat.le_refl _) new
    refine ⟨.ref s.heap.objs.size, _, I1, rfl, ⟨_, x, rfl, I.hok.fresh (Nat.le_refl _), rfl, fun ys hy => by rw [I.tuple_inj hy hq]; exact hx⟩, ⟨⟨x', ?_⟩, hit'.1.at (fun o q => (sb.2 it (Ne.symm hne)).trans q), hne, hea, hai⟩, fun b hb => ?_⟩
    · rw [show ((i + 1 : Nat) : Int) = (i : Int) + 1 by omega]
      exact he2
    · have hb' : b < s.heap.objs.size := by
        rcases (show b = e ∨ b = it by simpa using hb) with z | z
        · rw [z]; exact hel
        · rw [z]; exact hil
      rw [upd_ne (Nat.ne_of_lt hb')]
      exact (hf b hb).1
  done := by
    intro Y hP hw hK hc i pins s σ H E I hf st hg
    subst hP hw hK
    obtain ⟨⟨old, he⟩, hit, hne, hea, hai⟩ := st
    obtain ⟨xs, hq, hx⟩ := hg
    obtain ⟨its, rv, p, hz⟩ := I.tuple hq
    obtain ⟨f0, f1, f2, f3, f4, f5⟩ := hf it (by simp)
    have hl := rv.length
    have hT : s.TypeIs (.ref e) "enumerate" := ⟨_, he, rfl⟩
    unfold pyNext
    refine wpAny_bind (wpAny_attempt (wpAny_callSpecial?_slot (name := Str.ofString "__next__") hT F.slot_enumerate_next (wpAny_call_entry F.slot_enumerate_next hT F.entry_enumerate_next ?_ (F.args_enumerate_next_1 _))))
    show wpAny _ _ (field (.ref e) 2 >>= _) _ _ _
    refine wpAny_bind (wpAny_field he rfl (x := .ref it) rfl ?_)
    refine wpAny_bind (wpAny_nextOf_tuple_end (show Y.A.in1.handled = none from I.ok.hd hc) hit p (by simp; omega) fun h' x hext hex => ?_)
    obtain ⟨o, ho, hcl⟩ := hex
    refine wpAny_bind (wpAny_isInstance (T := "StopIteration") (b := true) ⟨o, ho, hcl⟩ isSubtype_stop ?_)
    exact wpAny_pure ⟨rfl, I.turned (t' := s.toks) (fun b o hb q => hext b o hb q) f0 f1 f3 f4 f5⟩
  self := fun A i s Q E st h => by
    obtain ⟨⟨old, he⟩, _⟩ := st
    exact wpAny_pyIter_enum he h
def iEnumA (K : PySem.W.Frag) (ta : TA) : TI := fun σ H R => ta σ H fun vs H1 => ∃ a, vs = [.ref a] ∧ (((∃ xs, SqL K H1 a xs) ∧ R (Ite K a) H1) ∨ ((∃ xs, SqT K H1 a xs) ∧ R (Iet K a) H1))
theorem pi_enumA {X : Cx} {e : Expr} {ta : TA} {p pos tpos : Pos} {elts : List Expr} {kk : Nat} (hg : Gl X "enumerate") (hm : X.mg "enumerate" = none) (ha : PA X [e] ta) (hs : starEach [e] X.env = [(false, eval e X.env)] := by rfl) :
    PI X (.Tuple elts kk tpos) (.Call (.Name "enumerate" p) [e] [] pos) (iEnumA X.K ta) := by
  refine ⟨fun pins s σ H R I hyp => ?_⟩
  refine Call_ (ld_blt I hg hm boot_enumerate (PyProof.Rows.callWith_type1 (thn (ha.run pos pins s σ H _ I hyp) fun us s1 ⟨vs, H1, I1, r1, q1⟩ => ?_) hs rfl))
  obtain ⟨a, rfl, q⟩ := q1
  cases r1 with
  | cons r rr =>
    cases rr
    cases r
    have fp : ∀ b ∈ [s1.heap.objs.size + 1, s1.heap.objs.size], FpOk X pins H1 b := fun b hb => by
      have le1 : s1.heap.objs.size ≤ b := by
        rcases (show b = s1.heap.objs.size + 1 ∨ b = s1.heap.objs.size by simpa using hb) with z | z
        · rw [z]; exact Nat.le_add_right _ _
        · rw [z]; exact Nat.le_refl _
      exact I1.fpOk le1 (I1.hok.fresh le1)
    rcases q with ⟨⟨xs, hq⟩, q⟩ | ⟨⟨xs, hq⟩, q⟩
    · obtain ⟨its, rv, p', hz⟩ := I1.list hq
      refine call_enum1 (begins_list a _) p'.isList fun h' he hit hk => wpAny_pyIter_enum he ?_
      have I2 : Inv X pins σ H1 { s1 with heap := h' } := I1.kept (t' := s1.toks) hk
      exact ⟨s1.heap.objs.size + 1, [s1.heap.objs.size + 1, s1.heap.objs.size], _, _, H1, rfl, I2, turn_enum a (s1.heap.objs.size + 1) s1.heap.objs.size, ⟨⟨.none, he⟩, ⟨_, hit, rfl, rfl⟩, Nat.succ_ne_self _⟩, fp, q⟩
    · obtain ⟨its, rv, p', hz⟩ := I1.tuple hq
      have p2 : s1.heap.IsTuple a its.toArray := p'
      have al : a < s1.heap.objs.size := by
        obtain ⟨_, e1, _⟩ := p2
        exact Heap.lt_size e1
      refine call_enum1 (begins_tuple a its.toArray) p2 fun h' he hit hk => wpAny_pyIter_enum he ?_
      have I2 : Inv X pins σ H1 { s1 with heap := h' } := I1.kept (t' := s1.toks) hk
      exact ⟨s1.heap.objs.size + 1, [s1.heap.objs.size + 1, s1.heap.objs.size], _, _, H1, rfl, I2, turn_enumT a (s1.heap.objs.size + 1) s1.heap.objs.size, ⟨⟨.none, he⟩, ⟨_, hit, rfl, rfl⟩, Nat.succ_ne_self _, Nat.ne_of_gt (Nat.lt_succ_of_lt al), Nat.ne_of_lt al⟩, fp, q⟩

section
variable {G : Gd} {X : Cx} {W : WX}
theorem pair_len : ∀ (n : Nat) (xs : List D), (pairUp n xs).length = xs.length
  | _, [] => rfl
  | n, x :: r => by rw [pairUp, List.length_cons, List.length_cons, pair_len]
theorem pair_get : ∀ (n : Nat) (xs : List D) (i : Nat) (d : D), xs[i]? = some d → (pairUp n xs)[i]? = some (.tup [.int ((n + i : Nat) : Int), d])
  | n, x :: r, 0, d, h => by
    simp only [List.getElem?_cons_zero, Option.some.injEq] at h
    subst h
    rfl
  | n, x :: r, i + 1, d, h => by
    rw [pairUp, List.getElem?_cons_succ, pair_get (n + 1) r i d (by simpa using h)]
    congr 4
    omega
theorem walk_etI {a : Addr} {vs : List V} {ds : List D} {m : List Addr} {H : Hp} {M : Mem} (mo : MemOk G.K H m M) (hs : SqT G.K H a vs) (r : Reps G.K H m vs ds) : WalkI G (Iet G.K a) (pairUp 0 ds) none [] m H where
  go := fun i m1 H1 M1 s o1 _ hi => by
    rw [pair_len] at hi
    have hs1 := (s.car mo).tup _ _ hs
    have hv : i < vs.length := by rw [r.length]; exact hi
    refine ⟨⟨vs, vs[i], hs1, by simp [hv]⟩, fun v H' y => ?_⟩
    obtain ⟨p, x, rfl, hp, rfl, y⟩ := y
    obtain ⟨d, e1, e2⟩ := at_rep r (y vs hs1)
    have st : Stp m1 H1 m1 (upd H1 p (.tup [.int (i : Nat), x])) := Stp.fresh hp
    exact ⟨st, o1.fresh hp, _, by rw [pair_get 0 ds i d e1, Nat.zero_add], .tup SqT.new (.cons (.int _) (.cons ((e2.car (s.car mo)).car (st.car o1)) .nil))⟩
  stop := fun m1 H1 M1 s o1 _ => ⟨vs, (s.car mo).tup _ _ hs, by rw [pair_len, r.length]; exact Nat.le_refl _⟩
theorem walk_efI {a : Addr} {vs : List V} {ds : List D} {m : List Addr} {H : Hp} {M : Mem} (mo : MemOk G.K H m M) (hs : FzL G.K H a vs) (r : Reps G.K H m vs ds) : WalkI G (Ite G.K a) (pairUp 0 ds) none [] m H where
  go := fun i m1 H1 M1 s o1 _ hi => by
    rw [pair_len] at hi
    have hs1 := ((s.car mo).frz _ _ hs).sq
    have hv : i < vs.length := by rw [r.length]; exact hi
    refine ⟨⟨vs, vs[i], hs1, by simp [hv]⟩, fun v H' y => ?_⟩
    obtain ⟨p, x, rfl, hp, rfl, y⟩ := y
    obtain ⟨d, e1, e2⟩ := at_rep r (y vs hs1)
    have st : Stp m1 H1 m1 (upd H1 p (.tup [.int (i : Nat), x])) := Stp.fresh hp
    exact ⟨st, o1.fresh hp, _, by rw [pair_get 0 ds i d e1, Nat.zero_add], .tup SqT.new (.cons (.int _) (.cons ((e2.car (s.car mo)).car (st.car o1)) .nil))⟩
  stop := fun m1 H1 M1 s o1 _ => ⟨vs, ((s.car mo).frz _ _ hs).sq, by rw [pair_len, r.length]; exact Nat.le_refl _⟩
theorem walk_elI {n : Nat} {a : Addr} {xs : List D} {m : List Addr} {H : Hp} (hn : m[n]? = some a) : WalkI G (Ite G.K a) (pairUp 0 xs) (some n) xs m H where
  go := fun i m1 H1 M1 s o1 st hi => by
    rw [pair_len] at hi
    obtain ⟨k, rfl⟩ := s.more
    have hn1 : (m ++ k)[n]? = some a := by rw [List.getElem?_append_left (List.getElem?_eq_some_iff.mp hn).1]; exact hn
    obtain ⟨vs, h1, h2⟩ := sq_stand o1 hn1 st
    have hv : i < vs.length := by rw [h2.length]; exact hi
    refine ⟨⟨vs, vs[i], h1, by simp [hv]⟩, fun v H' y => ?_⟩
    obtain ⟨p, x, rfl, hp, rfl, y⟩ := y
    obtain ⟨d, e1, e2⟩ := at_rep h2 (y vs h1)
    have st : Stp (m ++ k) H1 (m ++ k) (upd H1 p (.tup [.int (i : Nat), x])) := Stp.fresh hp
    exact ⟨st, o1.fresh hp, _, by rw [pair_get 0 xs i d e1, Nat.zero_add], .tup SqT.new (.cons (.int _) (.cons (e2.car (st.car o1)) .nil))⟩
  stop := fun m1 H1 M1 s o1 st => by
    obtain ⟨k, rfl⟩ := s.more
    have hn1 : (m ++ k)[n]? = some a := by rw [List.getElem?_append_left (List.getElem?_eq_some_iff.mp hn).1]; exact hn
    obtain ⟨vs, h1, h2⟩ := sq_stand o1 hn1 st
    exact ⟨vs, h1, by rw [pair_len, h2.length]; exact Nat.le_refl _⟩
theorem di_enum {e : Expr} {f : Xp} {p pos tpos : Pos} {elts : List Expr} {kk : Nat} (hK : G.K = X.K) (hg : Gl X "enumerate") (hm : X.mg "enumerate" = none) (he : DE G X W e f) (hs : starEach [e] X.env = [(false, eval e X.env)] := by rfl) :
    DI G X W (.Tuple elts kk tpos) (.Call (.Name "enumerate" p) [e] [] pos) (iEnum f) := by
  refine ⟨_, pi_enumA hg hm (pa_cons he pa_nil hs) hs, fun σ H R q => ?_⟩
  obtain ⟨m, r, M, si, q⟩ := q
  refine ⟨m, r, M, si, GOut.bind q fun dx M1 x H1 m1 s1 o1 r1 q1 => ?_⟩
  rw [← hK]
  cases r1 with
  | @tup a vs ds hs r2 => exact ⟨a, rfl, .inr ⟨⟨vs, hs⟩, GOut.ret (a := (pairUp 0 ds, none, [])) (M := M1) q1 o1 (walk_etI o1 hs r2)⟩⟩
  | @fz a vs ds hs r2 => exact ⟨a, rfl, .inl ⟨⟨vs, hs.sq⟩, GOut.ret (a := (pairUp 0 ds, none, [])) (M := M1) q1 o1 (walk_efI o1 hs r2)⟩⟩
  | @loc a n hn =>
    dsimp only at q1
    split at q1
    · rename_i xs e1
      obtain ⟨vs, a1, r2⟩ := o1.ob _ _ _ hn e1
      exact ⟨a, rfl, .inl ⟨⟨vs, .of a1⟩, GOut.ret (a := (pairUp 0 xs, some n, xs)) (M := M1) q1 o1 (walk_elI hn)⟩⟩
    · exact q1.elim
  | _ => exact q1.elim
end
end PV

set_option Elab.async false
set_option linter.all false
set_option maxRecDepth 100000
set_option maxHeartbeats 2000000

namespace PV
open PySem PySem.Spec PyProof.Rows L2
theorem adoptG {K : PySem.W.Frag} {H H' : Hp} {m : List Addr} {M : Mem} {p : Addr} {o : MO} (h : MemOk K H m M) (hp : p ∉ m) (c : Car K H m H' (m ++ [p])) (same : ∀ a ∈ m, H' a = H a) (ho : ObR K H' (m ++ [p]) p o) : MemOk K H' (m ++ [p]) (M ++ [o]) := by
  refine ⟨by rw [List.length_append, List.length_append, h.len] <;> rfl, ?_, fun n a ob e1 e2 => ?_⟩
  · rw [List.nodup_append]
    exact ⟨h.nd, by simp, fun a ha b hb => by
      rw [List.mem_singleton.mp hb]
      exact fun z => hp (z ▸ ha)⟩
  · by_cases hn : n < m.length
    · rw [List.getElem?_append_left hn] at e1
      rw [List.getElem?_append_left (by rw [← h.len]; exact hn)] at e2
      exact (h.ob n a ob e1 e2).keep c (same a (List.mem_of_getElem? e1))
    · have en : n = m.length := by
        have := (List.getElem?_eq_some_iff.mp e1).1
        rw [List.length_append, List.length_singleton] at this
        omega
      rw [en, List.getElem?_append_right (Nat.le_refl _), Nat.sub_self] at e1
      rw [en, h.len, List.getElem?_append_right (Nat.le_refl _), Nat.sub_self] at e2
      simp at e1 e2
      subst e1
      subst e2
      exact ho
def RK (G : Gd) : Hp → List Addr → List (V × V) → List (Sum Int Str × D) → Prop := fun H m ps kvs => ∃ kws : List (L2.Key × V), ps = kws.map (fun kv => (kV kv.1, kv.2)) ∧ kws.map (·.1) = kvs.map (·.1) ∧ Reps G.K H m (kws.map (·.2)) (kvs.map (·.2))
def TKs (G : Gd) (W : WX) (t : Xk) : Sl → Hp → (List (V × V) → Hp → Prop) → Prop := fun σ H Q => ∃ m r M, Sim G m H σ r M ∧ GOut G (RK G) m H (t r M) Q fun c d H' => W c d σ H'
structure DK (G : Gd) (X : Cx) (W : WX) (pos : Pos) (keys : List (Option Expr)) (values : List Expr) (t : Xk) : Prop where
  ex : ∃ trs, PPs X pos keys values trs ∧ ∀ σ H Q, TKs G W t σ H Q → tPairs trs σ H Q
section
variable {G : Gd} {X : Cx} {W : WX}
theorem dk_nil {pos : Pos} : DK G X W pos [] [] kNil := ⟨_, pps_nil, fun σ H Q ⟨m, r, M, si, q⟩ => GOut.ret (a := []) (M := M) (b := []) q si.2 ⟨[], rfl, rfl, .nil⟩⟩
theorem dk_cons {pos : Pos} {k v : Expr} {ks : List (Option Expr)} {vs : List Expr} {fk fv : Xp} {t : Xk} (hk : DE G X W k fk) (hv : DE G X W v fv) (hr : DK G X W pos ks vs t) : DK G X W pos (some k :: ks) (v :: vs) (kCons fk fv t) := by
  obtain ⟨trs, ps, imp⟩ := hr.ex
  refine ⟨_, pps_cons hk hv ps, fun σ H Q q => ?_⟩
  obtain ⟨m, r, M, si, q⟩ := q
  refine ⟨m, r, M, si, GOut.bind q fun dx M1 x H1 m1 s1 o1 r1 q1 => ⟨m1, r, M1, si.later s1 o1, GOut.bind q1 fun dy M2 y H2 m2 s2 o2 r2 q2 => ?_⟩⟩
  split at q2
  · rename_i c hc
    refine imp σ H2 _ ⟨m2, r, M2, (si.later s1 o1).later s2 o2, GOut.bind q2 fun kvs M3 ps' H3 m3 s3 o3 r3 q3 => ?_⟩
    obtain ⟨kws, rfl, a1, a2⟩ := r3
    have ex := key_of' r1 hc
    refine GOut.ret q3 o3 ⟨(c, y) :: kws, ?_, ?_, ?_⟩
    · rw [List.map_cons, ex]
    · simp only [List.map_cons, a1]
    · exact .cons (r2.car (s3.car o2)) a2
  · exact q2.elim
theorem merge_nd : ∀ (more kvs : List (L2.Key × V)), (kvs.map (·.1) ++ more.map (·.1)).Nodup → mergeK kvs more = kvs ++ more
  | [], kvs, _ => (List.append_nil kvs).symm
  | p :: r, kvs, h => by
    have hn : valV kvs p.1 = none := by
      unfold valV
      rw [Option.map_eq_none_iff, List.find?_eq_none]
      intro q hq
      simp only [decide_eq_true_eq]
      intro z
      rw [List.nodup_append] at h
      exact h.2.2 q.1 (List.mem_map.mpr ⟨q, hq, rfl⟩) p.1 (by simp) z
    show mergeK (putK kvs p.1 p.2) r = _
    rw [putK_new p.2 hn, merge_nd r (kvs ++ [(p.1, p.2)]) (by simpa using h), List.append_assoc]
    rfl
theorem de_dct0 {pos : Pos} : DE G X W (.Dict [] [] pos) xDct0 := by
  refine PE.of pe_dnewK fun σ H Q q => ?_
  obtain ⟨m, r, M, si, q⟩ := q
  intro p hp
  exact q _ _ _ (Stp.alloc hp) (si.2.alloc hp ⟨[], upd_same, rfl, .nil⟩) (Rep.new si.2)
theorem de_dct {pos : Pos} {keys : List (Option Expr)} {values : List Expr} {t : Xk} (h : DK G X W pos keys values t) (hall : keys.all (·.isSome) = true := by rfl) (hl : keys.length = values.length := by rfl) (h0 : keys ≠ [] := by exact List.cons_ne_nil _ _) (h15 : keys.length ≤ 15 := by decide) :
    DE G X W (.Dict keys values pos) (xDct t) := by
  obtain ⟨trs, ps, imp⟩ := h.ex
  refine PE.of (pe_disp ps hall hl h0 h15) fun σ H Q q => ?_
  obtain ⟨m, r, M, si, q⟩ := q
  intro p hp
  have np : p ∉ m := fun z => by
    obtain ⟨n, o, _, _, w⟩ := si.2.mem z
    rcases w.is with ⟨ws, z⟩ | ⟨kws, z⟩ | ⟨od, kws, z⟩ <;> rw [hp] at z <;> cases z
  have s0 : Stp m H m (upd H p (.dK [])) := Stp.fresh hp
  have si0 := si.later s0 (si.2.fresh hp)
  refine imp σ _ _ ⟨m, r, M, si0, ?_⟩
  unfold xDct at q
  generalize t r M = o at q ⊢
  cases o with
  | err c fs M1 => exact GOut.later (o := (.err c fs M1 : Out D)) (R := RD G) (Q := Q) q s0
  | stk => exact q.elim
  | ok kvs M1 => ?_
  intro ps' H2 m2 s2 o2 r2
  have q2 : GOut G (RD G) m H (if (kvs.map (·.1)).Nodup ∧ kvs.length ≤ 15 then .ok (.loc M1.length) (M1 ++ [.dct kvs]) else .stk) Q fun c d H' => W c d σ H' := q
  obtain ⟨kws, rfl, a1, a2⟩ := r2
  have e2 : H2 p = some (.dK []) := s2.oth p _ upd_same np
  have np2 : p ∉ m2 := fun z => by
    rcases s2.new p z with w | w
    · exact np w
    · rw [upd_same] at w
      cases w
  split at q2
  · rename_i hc
    have ln : kws.length = kvs.length := by simpa using congrArg List.length a1
    have mg : mergeK [] kws = kws := by
      rw [merge_nd kws [] (by rw [List.map_nil, List.nil_append, a1]; exact hc.1), List.nil_append]
    have c : Car G.K H2 m2 (upd H2 p (.dK kws)) (m2 ++ [p]) := ⟨fun a us w => by
      rcases w with (w | ⟨o, w⟩) | w
      · exact .inl (.inl ((upd_ne (ne_of w e2 (by intro z; cases z))).trans w))
      · exact .inl (.inr ⟨o, (upd_ne (ne_of w e2 (by intro z; cases z))).trans w⟩)
      · exact .inr w, fun a us w => by
      rcases w with ⟨o, w⟩ | w
      · exact .inl ⟨o, (upd_ne (ne_of w e2 (by intro z; cases z))).trans w⟩
      · exact .inr w, fun n a w => by rw [List.getElem?_append_left (List.getElem?_eq_some_iff.mp w).1]; exact w⟩
    have mo : MemOk G.K (upd H2 p (.dK kws)) (m2 ++ [p]) (M1 ++ [.dct kvs]) := adoptG o2 np2 c (fun a ha => upd_ne fun z => np2 (z ▸ ha)) ⟨kws, upd_same, a1, a2.car c⟩
    refine ⟨e2, kws, rfl, by rw [ln]; exact hc.2, ?_⟩
    rw [mg]
    have st : Stp m (upd H p (.dK [])) m2 H2 := s2
    have full : Stp m H (m2 ++ [p]) (upd H2 p (.dK kws)) := by
      have s02 := s0.trans s2
      obtain ⟨k, hk⟩ := s02.more
      refine ⟨⟨k ++ [p], by rw [hk, List.append_assoc]⟩, fun a o w z => ?_, fun a w => ?_⟩
      · rw [upd_ne (ne_of_none w hp)]
        exact s02.oth a o w z
      · rcases List.mem_append.mp w with w | w
        · exact s02.new a w
        · rw [List.mem_singleton.mp w]
          exact .inr hp
    exact q2 _ _ _ full mo (Rep.new (H := H2) (u := .dK kws) o2)
  · exact q2.elim
end
end PV

set_option Elab.async false
set_option linter.all false
set_option maxRecDepth 100000
set_option maxHeartbeats 2000000

namespace PV
open PySem PySem.Spec PyProof.Rows L2
theorem caller_guards : callerA.guards = some [] := by rfl
theorem cx_never {P : Program} {w : World} {fs : List Env} {H : Hp} {s : Shared} {e : Value} {s' : Shared} (h : L2.CX P w fs H s (fun _ _ _ => False) e s') : False := by
  obtain ⟨_, _, _, _, _, _, _, _, _, _, _, _, z⟩ := h
  exact z
theorem law_callG {P : Program} {w : World} {K : PySem.W.Frag} {mg mb : Str → Option Value} {k : Nat} {fa a : Addr} {fd : FuncData} {x : Str} {sp : Sp} {s₁ : Shared} {vs : List Value} {ns : List Int}
    (KX : K.In s₁.heap) (hns : s₁.heap.Ns mainGlobals mg) (hbn : s₁.heap.Ns builtinsNs mb) (hbb : ∀ x : Str, x ≠ "__name__" → mb x = bootBuiltins x) (hlim : s₁.heap.NoLimit) (hg : s₁.gens = #[])
    (ha : s₁.heap.get? a = some { cls := .type "list", data := .seq vs.toArray }) (hi : IntsAre vs ns) (hl : ns.length ≤ sizeLine) (hr : Room k callerA)
    (F : ∀ base : Heap, K.In base → base.Ns mainGlobals mg → FnG P w K mg base k fa fd [x] sp) (hbind : ∀ (s : Shared) (u : Value), BindsTo s fd ⟨[u], []⟩ [(x, u)])
    (hsp : ∀ H : Hp, Only H → FzL K H a (ns.map V.int) → sp [.ref a] H (fun v _ => v = .bl true) fun _ _ _ => False) (hgd : callerA.guards = some []) :
    codeAny (model P w) callerA (.call (.ref fa) ⟨[.ref a], []⟩) (fun r s' => r = .ok (.ret (.bool true)) ∧ OldK s₁.heap s'.heap ∧ s'.os = s₁.os ∧ AllBare s'.gens) s₁ := by
  have rvv := vals_ints hi
  have lnV := hi.length
  -- from an abstract heap in which nothing but the script may be tracked
  have core : ∀ H : Hp, Only H → FzL K H a (ns.map V.int) → HOk P w H s₁.heap → (∀ b, H b ≠ none → b = a) → (H a ≠ none → K.lookup a = none) →
      codeAny (model P w) callerA (.call (.ref fa) ⟨[.ref a], []⟩) (fun r s' => r = .ok (.ret (.bool true)) ∧ OldK s₁.heap s'.heap ∧ s'.os = s₁.os ∧ AllBare s'.gens) s₁ := by
    intro H hOO hS hok hAA hK
    have base_of : ∀ {b : Addr} {o : Obj}, s₁.heap.get? b = some o → H b = none → (hidT s₁.heap H).get? b = some o := fun e n => hidT_get e n
    have noAA : ∀ {b : Addr} {o : Obj} {es : Array DictEntry} {ep : Nat}, s₁.heap.get? b = some o → o.data = .dict es ep → H b = none := fun {b o es ep} e d => by
      cases qw : H b with
      | none => rfl
      | some u =>
        have e5 : b = a := hAA b (by rw [qw]; simp)
        subst e5
        rw [ha] at e; cases e
        have d' : Data.seq vs.toArray _ = Data.dict es ep := d
        cases d'
    have nsK : ∀ {b : Addr} {m : Str → Option Value}, s₁.heap.Ns b m → (hidT s₁.heap H).Ns b m := fun {b m} ⟨o, es, ep, e, d, r⟩ => ⟨o, es, ep, base_of e (noAA e d), d, r⟩
    have hKb : K.In (hidT s₁.heap H) := fun b o e => base_of (KX b o e) (by
      cases qw : H b with
      | none => rfl
      | some u =>
        have e5 : b = a := hAA b (by rw [qw]; simp)
        subst e5
        rw [hK (by rw [qw]; simp)] at e; cases e)
    have hM : Mod K mg (hidT s₁.heap H) := ⟨hKb, nsK hns, ⟨mb, nsK hbn, hbb⟩, let ⟨mc, h1, h2⟩ := hlim; ⟨mc, nsK h1, h2⟩⟩
    have en0 : Env0 P w K mg (hidT s₁.heap H) callerA [] s₁ H := ⟨rfl, hM, fun b o e => of_hidT e, Nat.le_of_eq (hidT_size _ _), trivial, fun b hbn => absurd (show b ∈ ([] : List Addr) from hbn) (by simp), hok, .of_eq hg⟩
    refine codeAny_mono ((F _ hKb (nsK hns)).run callerA [] s₁ H ⟨[.ref a], []⟩ [.ref a] [.ref a] _ _ ⟨hr, hgd⟩ en0 (hbind s₁ (.ref a)) (.cons rfl .nil) (hsp H hOO hS)) fun r s' h => ?_
    cases r with
    | error e => exact (cx_never h).elim
    | ok fl =>
      cases fl with
      | next => exact False.elim h
      | brk => exact False.elim h
      | cont => exact False.elim h
      | ret u =>
        obtain ⟨v, H', os, bare, unn, hokk, rr1, qw⟩ := h
        have qw1 : v = .bl true := qw
        subst qw1
        obtain rfl : u = Value.bool true := rr1
        refine ⟨rfl, OldK.of_keep fun b o e => ?_, os, bare⟩
        cases qw : H b with
        | none => exact unn.keep b o e qw (by intro zz; exact absurd (show b ∈ ([] : List Addr) from zz) (by simp)) (by simp)
        | some u =>
          rcases hOO b with zz | ⟨ob, xs, zz⟩
          · rw [qw] at zz; cases zz
          · have zz2 := unn.frzs b ob _ zz
            obtain ⟨e1, _⟩ := hok b _ zz
            obtain ⟨e2, _⟩ := hokk b _ zz2
            rw [e] at e1; cases e1
            exact e2
  cases hk : K.lookup a with
  | some o =>
    -- the script is one of the module's own objects
    have e := KX a o hk
    rw [ha] at e
    cases e
    refine core (fun _ => none) (fun _ => .inl rfl) (.inr ⟨_, vs.toArray, _, hk, rfl, rfl, rfl, by rw [List.size_toArray, lnV]; exact hl, by simpa using rvv⟩) (fun b u zz => by have zz1 : (none : Option HO) = some u := zz; cases zz1) (fun b zz => absurd rfl zz) fun zz => absurd rfl zz
  | none =>
    refine core (fun b => if b = a then some (.frz { cls := .type "list", data := .seq vs.toArray } (.lst (ns.map V.int))) else none) (fun b => ?_) (.inl ⟨{ cls := .type "list", data := .seq vs.toArray }, if_pos rfl⟩) (fun b u zz => ?_) (fun b zz => ?_) fun _ => hk
    · by_cases hbn : b = a
      · exact .inr ⟨_, _, if_pos hbn⟩
      · exact .inl (if_neg hbn)
    · by_cases hbn : b = a
      · have zz1 := (if_pos hbn).symm.trans zz
        cases zz1
        subst hbn
        exact ⟨ha, by rw [List.length_map]; exact hl, vs, _, rvv, ha⟩
      · have zz1 := (if_neg hbn).symm.trans zz
        cases zz1
    · by_cases hbn : b = a
      · exact hbn
      · exact absurd (if_neg hbn) zz
theorem reps_ints {K : PySem.W.Frag} {H : Hp} {m : List Addr} : ∀ ns : List Int, Reps K H m (ns.map V.int) (ns.map D.int)
  | [] => .nil
  | n :: r => .cons (.int n) (reps_ints r)
structure LawF (P : Program) (w : World) (K : PySem.W.Frag) (mg : Str → Option Value) (fa : Addr) (k n : Nat) (x : Str) : Prop where
  ex : ∃ (fd : FuncData) (G : Gd) (F : Fn), G.K = K ∧ (∀ (s : Shared) (u : Value), BindsTo s fd ⟨[u], []⟩ [(x, u)]) ∧ (∀ base : Heap, K.In base → base.Ns mainGlobals mg → FnG P w K mg base k fa fd [x] (spD G F)) ∧
    ∀ ns : List Int, ns.length ≤ n → (∀ z ∈ ns, Builtin.Int.intBits z ≤ 1048576) → ∃ M, F [.fz (ns.map .int)] [] = .ok (.bl true) M
theorem walk_pv {l : PySem.W.OpenLaw} {n k : Nat} {q : Program} {loose : List Str} {XP : (Str → Option Value) → Heap → Prop} {YP : World → Heap → Prop} {d : DefRec} {K : Params → PySem.W.Frag} {x : Str}
    (hn : l.most = some n) (hn2 : n ≤ sizeLine) (hdf : d.params.defaults = []) (hr : Room k callerA) (hY : ∀ (w : World) (h : Heap), YP w h → (K w.params).In h)
    (F : ∀ (w : World) (mg : Str → Option Value) (fa : Addr) (h : Heap), XP mg h → (K w.params).In h → h.Ns mainGlobals mg → mg d.name = some (.ref fa) → LawF l.prog w (K w.params) mg fa k n x) :
    PySem.W.WalkO q loose XP YP l.row.toRowW d [] (fun f vs => PySem.call f vs) := by
  refine Att.attach_callB hn hdf fun w s₀ s₁ mg mb fa o pm cd doc a vs ns Gr Y ho hd hcd hmg hobj hints hlen hbits hg => ?_
  have KX := hY w _ Y
  obtain ⟨fd, G, Fm, hK, hb, hF, hlaw⟩ := (F w mg fa _ Gr.X KX Gr.T.g hmg).ex
  refine law_callG KX Gr.T.g Gr.T.b Gr.T.builtins Gr.T.nolimit hg hobj hints (Nat.le_trans hlen hn2) hr hF hb (fun H hO hS => ?_) caller_guards
  obtain ⟨M, e⟩ := hlaw ns hlen hbits
  refine ⟨[], [], [.fz (ns.map .int)], ⟨rfl, List.nodup_nil, fun n a o e => by simp at e⟩, ?_, ?_⟩
  · rw [hK]
    exact .cons (.fz hS (reps_ints ns)) .nil
  · rw [e]
    intro b H' m' st mo r
    cases r
    rfl
end PV

set_option Elab.async false
set_option linter.all false
set_option maxRecDepth 100000
set_option maxHeartbeats 2000000

namespace PV
open PySem PySem.Spec PyProof.Rows L2
theorem bb_len : bootBuiltins "len" = some (.builtin "len") := by decide +kernel
theorem bb_int : bootBuiltins "int" = some (.type "int") := by decide +kernel
theorem bb_bool : bootBuiltins "bool" = some (.type "bool") := by decide +kernel
theorem bb_str : bootBuiltins "str" = some (.type "str") := by decide +kernel
theorem bb_tuple : bootBuiltins "tuple" = some (.type "tuple") := by decide +kernel
theorem bb_list : bootBuiltins "list" = some (.type "list") := by decide +kernel
theorem bb_dict : bootBuiltins "dict" = some (.type "dict") := by decide +kernel
theorem bb_abs : bootBuiltins "abs" = some (.builtin "abs") := by decide +kernel
theorem bb_min : bootBuiltins "min" = some (.builtin "min") := by decide +kernel
theorem bb_max : bootBuiltins "max" = some (.builtin "max") := by decide +kernel
theorem bb_repr : bootBuiltins "repr" = some (.builtin "repr") := by decide +kernel
theorem bb_any : bootBuiltins "any" = some (.builtin "any") := by decide +kernel
theorem bb_all : bootBuiltins "all" = some (.builtin "all") := by decide +kernel
theorem bb_sum : bootBuiltins "sum" = some (.builtin "sum") := by decide +kernel
theorem bb_isinstance : bootBuiltins "isinstance" = some (.builtin "isinstance") := by decide +kernel
theorem takes_no {X : Cx} : Takes X (fun _ _ _ _ => False) := fun _ _ z => by
  obtain ⟨_, _, _, _, _, _, _, _, _, _, _, _, _, _, _, _, q⟩ := z
  exact q.elim
section
variable {P : Program} {w : World} {K : PySem.W.Frag} {mg : Str → Option Value} {base : Heap} {N : List Str} {qual : Str} {scope : Scope} {f : Addr} {cd : Value} {A : Around} {outer : List Env} {s : Shared} {H : Hp} {E : XK}
theorem takes_fn : Takes (cxOf (L2.CX P w) P w K mg base N qual scope f cd A outer s H E) (fun c d _ H' => E c d H') := takes_of rfl rfl rfl rfl
theorem owns_fn : PassesOwn (model P w) (cxOf (L2.CX P w) P w K mg base N qual scope f cd A outer s H E).A (cxOf (L2.CX P w) P w K mg base N qual scope f cd A outer s H E).env (cxOf (L2.CX P w) P w K mg base N qual scope f cd A outer s H E).xe :=
  passes_of (X := cxOf (L2.CX P w) P w K mg base N qual scope f cd A outer s H E) rfl
end
end PV

set_option Elab.async false
set_option linter.all false
set_option maxRecDepth 100000
set_option maxHeartbeats 2000000

namespace PV
namespace Er
open PySem PySem.W PySem.Calls PyProof.Rows PySem.HandSPX
def initOf (s : Stmt) : Stmt := match s with
  | .ClassDef _ _ _ b _ _ _ _ _ _ _ => b.headD (.Pass ⟨0, 0, 0, 0⟩)
  | _ => s
theorem txt_mk {P : Program} {K : Frag} {mg : Str → Option Value} {h : Heap} {nm : Str} {fl : List Str} {C : Addr} (X : K.In h) (G : h.Ns mainGlobals mg) (st : Stmt)
    {nm' q : Str} {N Wr : Addr} {bs : List Value} {sn : List Str} {sub : List Value} {ab : Bool} {col : Option Bool} {dd : Option Addr} {k0 k1 k2 k3 k5 : Option Value} {fI cc cda : Addr} {oc : Value} {od : Option Addr} {qf : Str} {doc pm : Value} {an : Option Addr} {ct : Value} {osl : Array (Option Value)}
    {q1 q2 q3 q4 q5 q6 p0 : Pos} {txt : Str} {ps : List (Str × Pos × Pos × Pos × Pos)} {ccl : Value} {cdd : Option Addr} {vs : Array Value} {ccs : Array (Option Value)} {tf : Tok} {cl : Value} {cld : Option Addr} {csl : Array (Option Value)}
    (gC : nsIn K mainGlobals nm = some (some (.ref C))) (cls : K.lookup C = some (excClassObj nm' q C N bs (.ref Wr :: veTail) true sn sub ab col dd k0 k1 k2 k3 k5 "ValueError.__new__"))
    (sa : findIn K (.ref C) "__setattr__" = some (some (.builtin "object.__setattr__"))) (ga : findIn K (.ref C) "__getattribute__" = some (some (.builtin "BaseException.__getattribute__"))) (gg : findIn K (.ref C) "__getattr__" = some none)
    (exC : subIn K (.ref C) (.type "BaseException") = some true) (hdC : hasDictIn K C = true) (kC : keepIn K (.ref C) = true) (tyC : typeIn K (.ref C) = some (.type "type")) (sup : ks_superIn K C C "__init__" = some (some (.builtin "ValueError.__init__")))
    (iC : findIn K (.ref C) "__init__" = some (some (.ref fI))) (tI : typeIn K (.ref fI) = some (.type "function"))
    (lI : K.lookup fI = some ⟨oc, od, .func (ksFn "__init__" qf (L2.defArgs st) (L2.defBody st) (L2.defScope st) .none .none doc pm an (.ref cda) ct cc), osl⟩) (cI : codeIn K (.ref cda) qf = true)
    (lcda : K.lookup cda = some ⟨ccl, cdd, .fields vs, ccs⟩) (lcc : K.lookup cc = some ⟨cl, cld, .cell (some (.ref C)), csl⟩)
    (opq : nsIn K cStatics "thirdparty.any" = some none) (noS : nsIn K mainGlobals "super" = some none) (noF : ∀ f ∈ fl, findIn K (.ref C) f = some none)
    (hcv : vs[2]? = some (.str P.main.file tf)) (top : (P.main.scope.names.lookup ("super" : Str)).isSome = false) (nd : fl.Nodup) (few : fl.length = 1 ∨ fl.length = 2) (noSelf : ("self" : Str) ∉ fl)
    (body : L2.defBody st = bBody q1 q2 q3 q4 q5 q6 txt ps) (hps : ps.map (·.1) = fl) (hpos : (q3.endLine == q5.line) = true) (sk : (L2.defScope st).kind = .function) (sco : (L2.defScope st).isCoroutine = false) (sgn : (L2.defScope st).isGenerator = false)
    (scl : ∀ y ∈ (L2.defScope st).names, y.2 ≠ .cell) (ssu : (L2.defScope st).names.lookup ("super" : Str) = some .globalImplicit) (scc : (L2.defScope st).names.lookup ("__class__" : Str) = some .free) (sse : (L2.defScope st).names.lookup ("self" : Str) = some .local)
    (sfl : ∀ f ∈ fl, (L2.defScope st).names.lookup f = some .local ∧ f ≠ "self" ∧ (f == ("__debug__" : Str)) = false) (hpa : ((L2.defArgs st).posonlyargs ++ (L2.defArgs st).args).head? = some { arg := "self", annotation := none, pos := p0 })
    (hbind : ∀ us : List Value, us.length = fl.length + 1 → bindArgs (ksFn "__init__" qf (L2.defArgs st) (L2.defBody st) (L2.defScope st) .none .none doc pm an (.ref cda) ct cc) ⟨us, []⟩ = pure ((("self" : Str) :: fl).zip us)) (htx : txt.length ≤ 100) :
    Txt P K mg nm fl C where
  gC := mg_of X G gC
  cls := ⟨_, _, _, _, _, _, _, _, _, _, _, _, _, _, _, cls⟩
  sa := sa
  ga := ga
  gg := gg
  noF := noF
  nd := nd
  few := few
  noSelf := noSelf
  exC := exC
  hdC := hdC
  kC := kC
  tyC := tyC
  sup := sup
  opq := opq
  ex := ⟨fI, cc, cda, iC, tI, ⟨_, _, _, _, _, _, _, _, _, _, _, _, _, _, _, _, _, _, _, lI, cI, body, hps, hpos, sk, sco, sgn, scl, ssu, scc, sse, sfl, ⟨_, hpa⟩, hbind, htx⟩, ⟨_, _, _, _, _, lcda, hcv⟩, ⟨_, _, _, lcc⟩⟩
  noS := mg_none_of X G noS
  top := top
theorem exm_by {K : Frag} {S C : Addr} {b : Bool} (h1 : subIn K (.ref C) (.type "BaseException") = some true) (h2 : isClsIn K C = true) (h3 : typeIn K (.ref C) = some (.type "type")) (h4 : subIn K (.ref S) (.ref C) = some b) : exmOne K (.ref S) (.ref C) = some b := by
  have e2 : (clsIn K C).isSome = true := h2
  unfold exmOne
  rw [h1]
  show kitCls K (.ref S) (.ref C) = some b
  unfold kitCls
  dsimp only
  rw [e2, h3]
  exact h4
theorem loose_int {p : Program} {lv : List (Str × WData)} {mg : Str → Option Value} {h : Heap} (X : XL p lv mg h) {x : Str} {i : Int} (hm : (x, WData.int i) ∈ lv) : ∃ t, mg x = some (.int i t) := by
  obtain ⟨v, h1, h2⟩ := X.2.val _ hm
  cases h2
  exact ⟨_, h1⟩
end Er
end PV

set_option Elab.async false
set_option linter.all false
set_option maxRecDepth 100000
set_option maxHeartbeats 2000000

namespace PV
open PySem PySem.Spec PyProof.Rows L2
section
variable {G : Gd} {X : Cx} {W : WX}
theorem Reps.three {K : PySem.W.Frag} {H : Hp} {m : List Addr} {d e f : D} {vs : List V} (r : Reps K H m vs [d, e, f]) : ∃ v w u, vs = [v, w, u] ∧ Rep K H m v d ∧ Rep K H m w e ∧ Rep K H m u f := by
  cases r with
  | cons r t =>
    obtain ⟨w, u, rfl, r2, r3⟩ := t.two
    exact ⟨_, _, _, rfl, r, r2, r3⟩
theorem ds_par3 {i j l : Nat} {x y z : Str} {a b c : Expr} {t : Xa} {px py pz pt pt2 pos : Pos} {kt k2} (hc : X.calm = true) (hN : X.N.Nodup) (ha : DA G X W [a, b, c] t) (hij : i ≠ j := by decide) (hil : i ≠ l := by decide) (hjl : j ≠ l := by decide)
    (hi : X.N[i]? = some x := by rfl) (hj : X.N[j]? = some y := by rfl) (hl : X.N[l]? = some z := by rfl)
    (hx : X.env.scope.names.lookup x = some .local := by rfl) (hy : X.env.scope.names.lookup y = some .local := by rfl) (hz : X.env.scope.names.lookup z = some .local := by rfl)
    (hw : swappedStores [.Tuple [.Name x px, .Name y py, .Name z pz] kt pt] (.Tuple [a, b, c] k2 pt2) X.env = pure (some [x, y, z]) := by rfl)
    (hs : swapsWithSole [.Tuple [.Name x px, .Name y py, .Name z pz] kt pt] (.Tuple [a, b, c] k2 pt2) pos.line X.env = pure false := by rfl) :
    DS G X W (.Assign [.Tuple [.Name x px, .Name y py, .Name z pz] kt pt] (.Tuple [a, b, c] k2 pt2) pos) (sPar3 i j l t) := by
  refine PS.of (ps_par3 hc hN hi hj hl hij hil hjl hx hy hz ha hw hs) fun D σ H q => ?_
  obtain ⟨m, r, M, si, q⟩ := q
  refine ⟨m, r, M, si, GSO.bind q si fun ds M1 vs H1 m1 s1 si1 r1 q1 => ?_⟩
  split at q1
  · obtain ⟨u, v, w, rfl, r2, r3, r4⟩ := r1.three
    exact ⟨u, v, w, rfl, q1 _ H1 m1 .refl ⟨((si1.1.set i r2).set j r3).set l r4, si1.2⟩⟩
  · exact q1.elim
theorem de_bits {o : Expr} {f : Xp} {apos pos : Pos} (ho : DE G X W o f) (hbase : attributeBase o "bit_length" X.env (eval o X.env) = eval o X.env := by rfl) (hline : (apos.endLine == pos.line) = true := by rfl) : DE G X W (.Call (.Attribute o "bit_length" apos) [] [] pos) (x1 oBits f) := by
  refine PE.of (pe_bits ho hbase hline) fun σ H Q q => ?_
  obtain ⟨m, r, M, si, q⟩ := q
  refine ⟨m, r, M, si, GOut.bind q fun dx M1 x H1 m1 s1 o1 r1 q1 => ?_⟩
  cases r1 with
  | int i => exact ⟨i, rfl, GOut.ret (a := (D.int (Builtin.Int.intBits i : Nat))) (M := M1) q1 o1 (.int _)⟩
  | _ => exact q1.elim
theorem stepFrom_len : ∀ (n : Nat) (lo c : Int), (stepFrom lo c n).length = n
  | 0, _, _ => rfl
  | n + 1, lo, c => by rw [stepFrom, List.length_cons, stepFrom_len n]
theorem stepFrom_get : ∀ (n : Nat) (lo c : Int) (i : Nat), i < n → (stepFrom lo c n)[i]? = some (.int (lo + i * c))
  | n + 1, lo, c, 0, _ => by simp [stepFrom]
  | n + 1, lo, c, i + 1, h => by
    rw [stepFrom, List.getElem?_cons_succ, stepFrom_get n (lo + c) c i (by omega)]
    congr 2
    rw [show ((i + 1 : Nat) : Int) = (i : Int) + 1 by omega, Int.add_mul, Int.one_mul]
    omega
theorem walk_rng3 {lo c : Int} {n : Nat} {m : List Addr} {H : Hp} : WalkI G (Itc lo c n) (stepFrom lo c n) none [] m H where
  go := fun i m1 H1 M1 s o1 _ hi => by
    rw [stepFrom_len] at hi
    refine ⟨hi, fun v H' y => ?_⟩
    obtain ⟨e, y⟩ := y
    subst e y
    exact ⟨.refl, o1, _, stepFrom_get n lo c i hi, .int _⟩
  stop := fun m1 H1 M1 s o1 _ => by
    rw [stepFrom_len]
    exact Nat.le_refl n
theorem di_range3 {tg a b c : Expr} {t : Xa} {p pos : Pos} (hg : Gl X "range") (hm : X.mg "range" = none) (ha : DA G X W [a, b, c] t)
    (hs : starEach [a, b, c] X.env = (false, eval a X.env) :: starEach [b, c] X.env := by rfl) (hpl : (backTo pos (starEach [b, c] X.env)).any (·.1) = false := by rfl) : DI G X W tg (.Call (.Name "range" p) [a, b, c] [] pos) (iRange3 t) := by
  refine ⟨_, pi_range3 hg hm ha hs hpl, fun σ H R q => ?_⟩
  obtain ⟨m, r, M, si, q⟩ := q
  refine ⟨m, r, M, si, ?_⟩
  refine GOut.bind q fun ds M1 vs H1 m1 s1 o1 r1 q1 => ?_
  split at q1
  · rename_i i j c
    obtain ⟨v1, v2, v3, rfl, r1, r2, r3⟩ := r1.three
    cases r1
    cases r2
    cases r3
    split at q1
    · rename_i hz
      exact ⟨i, j, c, (Builtin.Range.rangeSize i j c).toNat, rfl, ⟨hz.1, hz.2.1, hz.2.2.1, (Int.toNat_of_nonneg hz.2.2.2).symm⟩, GOut.ret q1 o1 walk_rng3⟩
    · exact q1.elim
  · exact q1.elim
end
end PV

set_option Elab.async false
set_option linter.all false
set_option maxRecDepth 100000
set_option maxHeartbeats 2000000

namespace PV
open PySem PySem.Spec PyProof.Rows L2
section
variable {G : Gd} {X : Cx} {W : WX}
theorem flat_of {K : PySem.W.Frag} {H : Hp} {m : List Addr} {v : V} {d : D} (r : Rep K H m v d) (h : flatD d = true) : flatV v = true := by
  cases r <;> first | rfl | cases h
theorem eqF_of {K : PySem.W.Frag} {H : Hp} {m : List Addr} {v w : V} {d e : D} (r : Rep K H m v d) (s : Rep K H m w e) (h : flatD d = true) (k : flatD e = true) : eqV v w = eqF d e := by
  cases r <;> cases s <;> first | rfl | cases h | cases k
theorem any_of {K : PySem.W.Frag} {H : Hp} {m : List Addr} {w : V} {e : D} (s : Rep K H m w e) (k : flatD e = true) : ∀ {vs : List V} {ds : List D}, Reps K H m vs ds → ds.all flatD = true → vs.all flatV = true ∧ inV w vs = ds.any fun z => eqF z e
  | _, _, .nil, _ => ⟨rfl, rfl⟩
  | _, _, .cons r t, h => by
    simp only [List.all_cons, Bool.and_eq_true] at h
    obtain ⟨i1, i2⟩ := any_of s k t h.2
    refine ⟨by simp only [List.all_cons, flat_of r h.1, i1, Bool.and_self], ?_⟩
    unfold inV at i2 ⊢
    simp only [List.any_cons, i2, eqF_of r s h.1 k]
theorem row_of {K : PySem.W.Frag} {H : Hp} {m : List Addr} {M : Mem} {v : V} {d : D} {ys : List D} (mo : MemOk K H m M) (r : Rep K H m v d) (h : rowOf d M = some ys) : ∃ p vs, v = .ref p ∧ (SqL K H p vs ∨ SqT K H p vs) ∧ Reps K H m vs ys := by
  cases r with
  | tup hs rs => cases h; exact ⟨_, _, rfl, .inr hs, rs⟩
  | fz hs rs => cases h; exact ⟨_, _, rfl, .inl hs.sq, rs⟩
  | @loc a n hn =>
    unfold rowOf at h
    dsimp only at h
    split at h
    · rename_i xs e1
      cases h
      obtain ⟨vs, a1, r1⟩ := mo.ob _ _ _ hn e1
      exact ⟨_, _, rfl, .inl (.of a1), r1⟩
    · cases h
  | _ => cases h
theorem o2_inF (neg : Bool) : Op2 G (oInF neg) (rIn G.K neg) := by
  intro m H M x y dx dy Q E mo rx ry h
  unfold oInF at h
  split at h
  · rename_i ys hy
    split at h
    · rename_i hz
      obtain ⟨p, vs, rfl, hs, rs⟩ := row_of mo ry hy
      obtain ⟨i1, i2⟩ := any_of rx hz.1 rs hz.2
      refine ⟨p, vs, rfl, hs, flat_of rx hz.1, i1, ?_⟩
      rw [i2]
      exact GOut.ret h mo (.bl _)
    · exact h.elim
  · exact h.elim
theorem opR_in (hK : G.K = X.K) : OpR X (compareOp .In) (rIn G.K false) := by
  rw [hK]
  exact op_in_seq
theorem opR_notIn (hK : G.K = X.K) : OpR X (compareOp .NotIn) (rIn G.K true) := by
  rw [hK]
  exact op_notIn_seq

theorem lst_of {K : PySem.W.Frag} {H : Hp} {m : List Addr} {M : Mem} {v : V} {d : D} {ys : List D} (mo : MemOk K H m M) (r : Rep K H m v d) (h : lstOf d M = some ys) : ∃ p vs, v = .ref p ∧ SqL K H p vs ∧ Reps K H m vs ys := by
  cases r with
  | fz hs rs => cases h; exact ⟨_, _, rfl, hs.sq, rs⟩
  | @loc a n hn =>
    unfold lstOf at h
    dsimp only at h
    split at h
    · rename_i xs e1
      cases h
      obtain ⟨vs, a1, r1⟩ := mo.ob _ _ _ hn e1
      exact ⟨_, _, rfl, .of a1, r1⟩
    · cases h
  | _ => cases h
theorem bools_of {K : PySem.W.Frag} {H : Hp} {m : List Addr} : ∀ {vs : List V} {ds : List D} {bs : List Bool}, Reps K H m vs ds → boolsOf ds = some bs → vs = bs.map V.bl
  | _, _, _, .nil, h => by cases h; rfl
  | _, _, _, .cons r t, h => by
    cases r with
    | bl b =>
      unfold boolsOf at h
      obtain ⟨cs, e, rfl⟩ := Option.map_eq_some_iff.mp h
      rw [bools_of t e]
      rfl
    | _ => cases h
theorem ints_of {K : PySem.W.Frag} {H : Hp} {m : List Addr} : ∀ {vs : List V} {ds : List D} {bs : List Int}, Reps K H m vs ds → intsOf ds = some bs → vs = bs.map V.int
  | _, _, _, .nil, h => by cases h; rfl
  | _, _, _, .cons r t, h => by
    cases r with
    | int b =>
      unfold intsOf at h
      obtain ⟨cs, e, rfl⟩ := Option.map_eq_some_iff.mp h
      rw [ints_of t e]
      rfl
    | _ => cases h
theorem g_any : CallG G fAny (rAny G.K) := by
  intro m H M vs ds Q E mo r h
  unfold fAny at h
  split at h
  · obtain ⟨v, rfl, r1⟩ := r.one
    split at h
    · rename_i bs e
      obtain ⟨ys, e1, e2⟩ := Option.bind_eq_some_iff.mp e
      obtain ⟨p, ws, rfl, hs, rs⟩ := lst_of mo r1 e1
      have := bools_of rs e2
      subst this
      exact ⟨p, bs, rfl, hs, GOut.ret h mo (.bl _)⟩
    · exact h.elim
  · exact h.elim
theorem g_all : CallG G fAll (rAll G.K) := by
  intro m H M vs ds Q E mo r h
  unfold fAll at h
  split at h
  · obtain ⟨v, rfl, r1⟩ := r.one
    split at h
    · rename_i bs e
      obtain ⟨ys, e1, e2⟩ := Option.bind_eq_some_iff.mp e
      obtain ⟨p, ws, rfl, hs, rs⟩ := lst_of mo r1 e1
      have := bools_of rs e2
      subst this
      exact ⟨p, bs, rfl, hs, GOut.ret h mo (.bl _)⟩
    · exact h.elim
  · exact h.elim
theorem g_sum : CallG G fSum (rSum G.K) := by
  intro m H M vs ds Q E mo r h
  unfold fSum at h
  split at h
  · obtain ⟨v, rfl, r1⟩ := r.one
    split at h
    · rename_i bs e
      obtain ⟨ys, e1, e2⟩ := Option.bind_eq_some_iff.mp e
      obtain ⟨p, ws, rfl, hs, rs⟩ := lst_of mo r1 e1
      have := ints_of rs e2
      subst this
      exact ⟨p, bs, rfl, hs, GOut.ret h mo (.int _)⟩
    · exact h.elim
  · exact h.elim
end
end PV

set_option Elab.async false
set_option linter.all false

namespace PV
open PySem

def isDct (x : D) (M : Mem) : Bool := match x with
  | .loc n => (match M[n]? with
    | some (.dct _) => true
    | some (.lck _ _ _) => true
    | _ => false)
  | _ => false
def oIxU (x y : D) (M : Mem) : Out D := if isDct x M = true then oIxD x y M else oIx x y M
def setU (x y d : D) (M : Mem) : Option Mem := if isDct x M = true then setKv x y d M else setIx x y d M
def kvsOf (x : D) (M : Mem) : Option (List (Sum Int Str × D)) := match x with
  | .loc n => (match M[n]? with
    | some (.dct kvs) => some kvs
    | some (.lck kvs _ _) => some kvs
    | _ => none)
  | _ => none
def oInK (neg : Bool) (x y : D) (M : Mem) : Out D := match kvsOf y M, keyOf x with
  | some kvs, some k => .ok (.bl (if neg then !(kvAt kvs k).isSome else (kvAt kvs k).isSome)) M
  | _, _ => .stk
def oInP (neg : Bool) (x y : D) (M : Mem) : Out D := match toPy M DEPTH x, toPy M DEPTH y with
  | some p, some (.list ps) => if SeqAt.shaped p = true ∧ SeqAt.shaped (.list ps) = true then .ok (.bl (if neg then !(ps.any fun z => PyData.eqv z p) else ps.any fun z => PyData.eqv z p)) M else .stk
  | _, _ => .stk
def flatIn (x y : D) (M : Mem) : Bool := match rowOf y M with
  | some ys => flatD x && ys.all flatD
  | none => false
def oInU (neg : Bool) (x y : D) (M : Mem) : Out D := if isDct y M = true then oInK neg x y M else if flatIn x y M = true then oInF neg x y M else oInP neg x y M
def xGet1 (f g : Xp) : Xp := fun r M => (f r M).bind fun x M1 => if isDct x M1 = true then (g r M1).bind fun y M2 => match kvsOf x M2, keyOf y with
  | some kvs, some k => .ok ((kvAt kvs k).getD .non) M2
  | _, _ => .stk else .stk
def xGet2 (f g h : Xp) : Xp := fun r M => (f r M).bind fun x M1 => if isDct x M1 = true then (g r M1).bind fun y M2 => (h r M2).bind fun z M3 => match kvsOf x M3, keyOf y with
  | some kvs, some k => .ok ((kvAt kvs k).getD z) M3
  | _, _ => .stk else .stk

noncomputable def xLRg (mk : Mem → List D → Out D) (t : Xa) : Xp := fun r M => (t r M).bind fun ds M1 => match ds with
  | [.int j] => @ite _ (-(2 ^ 62) ≤ j ∧ j < 2 ^ 62 ∧ (j - 0).toNat ≤ 2 ^ 24) (Classical.propDecidable _) (mk M1 (upFrom 0 (j - 0).toNat)) .stk
  | [.int i, .int j] => @ite _ (-(2 ^ 62) ≤ i ∧ i < 2 ^ 62 ∧ -(2 ^ 62) ≤ j ∧ j < 2 ^ 62 ∧ (j - i).toNat ≤ 2 ^ 24) (Classical.propDecidable _) (mk M1 (upFrom i (j - i).toNat)) .stk
  | _ => .stk
def mkL (M : Mem) (xs : List D) : Out D := .ok (.loc M.length) (M ++ [.lst xs])
def mkT (M : Mem) (xs : List D) : Out D := .ok (.tup xs) M
def oIsU : D → D → Mem → Out D
  | x, .non, M => .ok (.bl (isNon x)) M
  | .bl c, .bl b, M => .ok (.bl (c == b)) M
  | _, .bl _, M => .ok (.bl false) M
  | _, _, _ => .stk
def oNotU : D → D → Mem → Out D
  | x, .non, M => .ok (.bl (!isNon x)) M
  | .bl c, .bl b, M => .ok (.bl (!(c == b))) M
  | _, .bl _, M => .ok (.bl true) M
  | _, _, _ => .stk
noncomputable def xLRg3 (mk : Mem → List D → Out D) (t : Xa) : Xp := fun r M => (t r M).bind fun ds M1 => match ds with
  | [.int i, .int j, .int c] => @ite _ (c ≠ 0 ∧ c.natAbs < 1073741824 ∧ Builtin.Range.small i j c = true ∧ 0 ≤ Builtin.Range.rangeSize i j c ∧ (Builtin.Range.rangeSize i j c).toNat ≤ 2 ^ 24) (Classical.propDecidable _) (mk M1 (stepFrom i c (Builtin.Range.rangeSize i j c).toNat)) .stk
  | _ => .stk
end PV

set_option Elab.async false
set_option linter.all false
set_option maxRecDepth 100000
set_option maxHeartbeats 2000000

namespace PV
open PySem PySem.Spec PyProof.Rows L2

section
variable {G : Gd} {X : Cx} {W : WX}
theorem PE.or {e : Expr} {t t' : TE} (h : PE X e t) (h' : PE X e t') : PE X e (fun σ H Q => t σ H Q ∨ t' σ H Q) := ⟨fun pins s σ H Q I q => q.elim (h.run pins s σ H Q I) (h'.run pins s σ H Q I)⟩
theorem PS.or {e : Stmt} {t t' : TS} (h : PS X e t) (h' : PS X e t') : PS X e (fun D σ H => t D σ H ∨ t' D σ H) := ⟨fun pins s σ H D I q => q.elim (h.run pins s σ H D I) (h'.run pins s σ H D I)⟩
theorem x2_or {op op' opU : D → D → Mem → Out D} (h : ∀ x y M, opU x y M = op x y M ∨ opU x y M = op' x y M) (f g : Xp) (r : Ev) (M : Mem) : x2 opU f g r M = x2 op f g r M ∨ x2 opU f g r M = x2 op' f g r M := by
  unfold x2
  cases f r M with
  | err c fs M1 => exact .inl rfl
  | stk => exact .inl rfl
  | ok x M1 =>
    simp only [bind_ok]
    cases g r M1 with
    | err c fs M1 => exact .inl rfl
    | stk => exact .inl rfl
    | ok y M2 =>
      simp only [bind_ok]
      exact h x y M2
theorem oIxU_or (x y : D) (M : Mem) : oIxU x y M = oIx x y M ∨ oIxU x y M = oIxD x y M := by
  unfold oIxU
  split
  · exact .inr rfl
  · exact .inl rfl
theorem de_ixU {a b : Expr} {f g : Xp} {pos : Pos} {k : Nat} (hK : G.K = X.K) (hr : Room k X.A) (ha : DE G X W a f) (hb : DE G X W b g) (hs : PlainIx b := by exact fun _ _ => rfl) (hs2 : NoSl b := by exact fun _ _ => rfl) : DE G X W (.Subscript a b pos) (x2 oIxU f g) := by
  refine PE.of (PE.or (de_ix (W := W) hK ha hb hs) (de_ixD (W := W) hr ha hb hs2)) fun σ H Q q => ?_
  obtain ⟨m, r, M, si, q⟩ := q
  rcases x2_or oIxU_or f g r M with e | e
  · rw [e] at q
    exact .inl ⟨m, r, M, si, q⟩
  · rw [e] at q
    exact .inr ⟨m, r, M, si, q⟩
theorem setU_or (f fo fi : Xp) (r : Ev) (M : Mem) : sAsg (tSub setU fo fi) f r M = sAsg (tSub setIx fo fi) f r M ∨ sAsg (tSub setU fo fi) f r M = sAsg (tSub setKv fo fi) f r M := by
  unfold sAsg
  cases f r M with
  | err c fs M1 => exact .inl rfl
  | stk => exact .inl rfl
  | ok v M1 =>
    simp only [toS_ok]
    unfold tSub
    cases fo r M1 with
    | err c fs M1 => exact .inl rfl
    | stk => exact .inl rfl
    | ok o M2 =>
      simp only [toS_ok]
      cases fi r M2 with
      | err c fs M1 => exact .inl rfl
      | stk => exact .inl rfl
      | ok i M3 =>
        simp only [toS_ok]
        by_cases hd : isDct o M3 = true
        · right
          simp only [setU, hd, if_true]
        · left
          simp only [setU, hd, if_false]
          rfl
theorem ds_setU {k : Nat} {o i e : Expr} {fo fi f : Xp} {tpos pos : Pos} (hr : Room k X.A) (he : DE G X W e f) (ho : DE G X W o fo) (hi : DE G X W i fi) (hs0 : swapsWith e (some (.Subscript o i tpos)) pos.line X.env = pure false := by rfl)
    (hs : swapsWithSole [.Subscript o i tpos] e pos.line X.env = pure false := by rfl) (hw : swappedStores [.Subscript o i tpos] e X.env = pure none := by rfl)
    (h1 : (assignEach [.Subscript o i tpos] X.env).map (·.2) = [assign (.Subscript o i tpos) X.env] := by rfl)
    (ha : ∀ v, assign (.Subscript o i tpos) X.env v = (do
      let ov ← holding [v] (eval o X.env)
      let iv ← holding [v, ov] (eval i X.env)
      standAt tpos
      holding [v, ov, iv] (setItem ov iv v)
      release [v, ov, iv] []) := by intro _; rfl) : DS G X W (.Assign [.Subscript o i tpos] e pos) (sAsg (tSub setU fo fi) f) := by
  refine PS.of (PS.or (ds_setIx (W := W) he ho hi hs hw h1 ha) (ds_put (W := W) hr he ho hi hs0)) fun D σ H q => ?_
  obtain ⟨m, r, M, si, q⟩ := q
  rcases setU_or f fo fi r M with e | e
  · rw [e] at q
    exact .inl ⟨m, r, M, si, q⟩
  · rw [e] at q
    exact .inr ⟨m, r, M, si, q⟩

def rDIn (neg : Bool) : R2 := fun x y H Q => ∃ (a : Addr) (o : Option V), y = .ref a ∧ DGet H a x o ∧ Q (.bl (if neg then !o.isSome else o.isSome)) H
theorem op_dIn (hu : X.A.units + 1 < cLine) : OpR X (compareOp .In) (rDIn false) := by
  intro pins s σ H x y v u Q I rx ry h
  obtain ⟨a, o, rfl, g, q⟩ := h
  obtain rfl : u = Value.ref a := ry
  exact d_in hu I g rx fun s' I' => ⟨.bl _, H, I', rfl, q⟩
theorem op_dNotIn (hu : X.A.units + 1 < cLine) : OpR X (compareOp .NotIn) (rDIn true) := by
  intro pins s σ H x y v u Q I rx ry h
  obtain ⟨a, o, rfl, g, q⟩ := h
  obtain rfl : u = Value.ref a := ry
  exact d_notIn hu I g rx fun s' I' => ⟨.bl _, H, I', rfl, q⟩
def rInDp (K : PySem.W.Frag) (neg : Bool) : R2 := fun x y H Q => ∃ d ds, Dp K H x d ∧ Dp K H y (.list ds) ∧ SeqAt.shaped d = true ∧ SeqAt.shaped (.list ds) = true ∧ Q (.bl (if neg then !(ds.any fun z => PyData.eqv z d) else ds.any fun z => PyData.eqv z d)) H
abbrev rInU (K : PySem.W.Frag) (neg : Bool) : R2 := fun x y H Q => rDIn neg x y H Q ∨ rIn K neg x y H Q ∨ rInDp K neg x y H Q
theorem opR_inU {k : Nat} (hK : G.K = X.K) (hr : Room k X.A) : OpR X (compareOp .In) (rInU G.K false) := by
  rw [hK]
  exact (op_dIn (hu_of hr)).or (op_in_seq.or (op_inD (by have := hr.un; omega)))
theorem opR_notInU {k : Nat} (hK : G.K = X.K) (hr : Room k X.A) : OpR X (compareOp .NotIn) (rInU G.K true) := by
  rw [hK]
  exact (op_dNotIn (hu_of hr)).or (op_notIn_seq.or (op_notInD (by have := hr.un; omega)))
theorem kvs_of {K : PySem.W.Frag} {H : Hp} {m : List Addr} {M : Mem} {v : V} {d : D} {kvs : List (Sum Int Str × D)} (mo : MemOk K H m M) (r : Rep K H m v d) (h : kvsOf d M = some kvs) : ∃ a kws, v = .ref a ∧ Rd H a (.dK kws) ∧ kws.map (·.1) = kvs.map (·.1) ∧ Reps K H m (kws.map (·.2)) (kvs.map (·.2)) := by
  unfold kvsOf at h
  split at h
  · rename_i n
    cases r with
    | loc hn =>
      split at h
      · rename_i kvs' e1
        cases h
        obtain ⟨kws, a1, a2, a3⟩ := mo.ob _ _ _ hn e1
        exact ⟨_, kws, rfl, .inl a1, a2, a3⟩
      · rename_i kvs' od kws e1
        cases h
        obtain ⟨a1, a2, a3⟩ := mo.ob _ _ _ hn e1
        exact ⟨_, kws, rfl, .inr ⟨od, a1⟩, a2, a3⟩
      · cases h
  · cases h
theorem val_some {K : PySem.W.Frag} {H : Hp} {m : List Addr} {k : Sum Int Str} {kws : List (L2.Key × V)} {kvs : List (Sum Int Str × D)} (e : kws.map (·.1) = kvs.map (·.1)) (r : Reps K H m (kws.map (·.2)) (kvs.map (·.2))) : (valV kws k).isSome = (kvAt kvs k).isSome := by
  cases h : kvAt kvs k with
  | none => rw [(kv_of e r).2 h]; rfl
  | some d =>
    obtain ⟨v, h1, _⟩ := (kv_of e r).1 d h
    rw [h1]; rfl
theorem o2_inU (neg : Bool) : Op2 G (oInU neg) (rInU G.K neg) := by
  intro m H M x y dx dy Q E mo rx ry h
  unfold oInU at h
  split at h
  · unfold oInK at h
    split at h
    · rename_i kvs k h1 h2
      obtain ⟨a, kws, rfl, a1, a2, a3⟩ := kvs_of mo ry h1
      have ex := key_of' rx h2
      subst ex
      refine .inl ⟨a, valV kws k, rfl, (.inl ⟨kws, _, a1, rfl, rfl⟩), ?_⟩
      rw [val_some a2 a3]
      exact GOut.ret h mo (.bl _)
    · exact h.elim
  · split at h
    · exact .inr (.inl (o2_inF neg m H M x y dx dy Q E mo rx ry h))
    · unfold oInP at h
      split at h
      · rename_i p ps h1 h2
        split at h
        · rename_i hz
          exact .inr (.inr ⟨p, ps, dp_of mo _ _ _ _ rx h1, dp_of mo _ _ _ _ ry h2, hz.1, hz.2, GOut.ret h mo (.bl _)⟩)
        · exact h.elim
      · exact h.elim

theorem isD_of {K : PySem.W.Frag} {H : Hp} {m : List Addr} {M : Mem} {v : V} {d : D} (mo : MemOk K H m M) (r : Rep K H m v d) (h : isDct d M = true) : ∃ a, v = .ref a ∧ IsD H a := by
  unfold isDct at h
  split at h
  · cases r with
    | loc hn =>
      split at h
      · rename_i kvs e1
        obtain ⟨kws, a1, _⟩ := mo.ob _ _ _ hn e1
        exact ⟨_, rfl, .inl ⟨kws, .inl a1⟩⟩
      · rename_i kvs od kws e1
        obtain ⟨a1, _⟩ := mo.ob _ _ _ hn e1
        exact ⟨_, rfl, .inl ⟨kws, .inr ⟨od, a1⟩⟩⟩
      · cases h
  · cases h
theorem de_get1 {k : Nat} {o e : Expr} {f g : Xp} {apos cpos : Pos} (hr : Room k X.A) (ho : DE G X W o f) (he : DE G X W e g) (m : M1 X o "get" apos e cpos := by exact ⟨rfl, by rfl, by rfl, by rfl⟩) : DE G X W (.Call (.Attribute o "get" apos) [e] [] cpos) (xGet1 f g) := by
  refine PE.of (pe_dget1 (hu_of hr) ho he m) fun σ H Q q => ?_
  obtain ⟨m, r, M, si, q⟩ := q
  refine ⟨m, r, M, si, GOut.bind q fun dx M1 x H1 m1 s1 o1 r1 q1 => ?_⟩
  split at q1
  · rename_i hd
    obtain ⟨a, rfl, ia⟩ := isD_of o1 r1 hd
    refine ⟨a, rfl, ia, m1, r, M1, si.later s1 o1, GOut.bind q1 fun dy M2 y H2 m2 s2 o2 r2 q2 => ?_⟩
    split at q2
    · rename_i kvs k h1 h2
      obtain ⟨a', kws, ea, a1, a2, a3⟩ := kvs_of o2 (r1.car (s2.car o1)) h1
      cases ea
      have ey := key_of' r2 h2
      subst ey
      refine ⟨valV kws k, (.inl ⟨kws, _, a1, rfl, rfl⟩), ?_⟩
      cases hv : kvAt kvs k with
      | none =>
        rw [(kv_of a2 a3).2 hv]
        rw [hv] at q2
        exact GOut.ret q2 o2 .non
      | some d =>
        obtain ⟨v, e1, e2⟩ := (kv_of a2 a3).1 d hv
        rw [e1]
        rw [hv] at q2
        exact GOut.ret q2 o2 e2
    · exact q2.elim
  · exact q1.elim
theorem de_get2 {k : Nat} {o e e2 : Expr} {f g h : Xp} {apos cpos : Pos} (hr : Room k X.A) (ho : DE G X W o f) (he : DE G X W e g) (he2 : DE G X W e2 h) (m : M2 X o "get" apos e e2 cpos := by exact ⟨rfl, by rfl, by rfl, by rfl⟩) : DE G X W (.Call (.Attribute o "get" apos) [e, e2] [] cpos) (xGet2 f g h) := by
  refine PE.of (pe_dget2 (hu_of hr) ho he he2 m) fun σ H Q q => ?_
  obtain ⟨m, r, M, si, q⟩ := q
  refine ⟨m, r, M, si, GOut.bind q fun dx M1 x H1 m1 s1 o1 r1 q1 => ?_⟩
  split at q1
  · rename_i hd
    obtain ⟨a, rfl, ia⟩ := isD_of o1 r1 hd
    refine ⟨a, rfl, ia, m1, r, M1, si.later s1 o1, GOut.bind q1 fun dy M2 y H2 m2 s2 o2 r2 q2 => ⟨m2, r, M2, (si.later s1 o1).later s2 o2, GOut.bind q2 fun dz M3 z H3 m3 s3 o3 r3 q3 => ?_⟩⟩
    split at q3
    · rename_i kvs k h1 h2
      obtain ⟨a', kws, ea, a1, a2, a3⟩ := kvs_of o3 ((r1.car (s2.car o1)).car (s3.car o2)) h1
      cases ea
      have ey := key_of' (r2.car (s3.car o2)) h2
      subst ey
      refine ⟨valV kws k, (.inl ⟨kws, _, a1, rfl, rfl⟩), ?_⟩
      cases hv : kvAt kvs k with
      | none =>
        rw [(kv_of a2 a3).2 hv]
        rw [hv] at q3
        exact GOut.ret q3 o3 r3
      | some d =>
        obtain ⟨v, e1, e2⟩ := (kv_of a2 a3).1 d hv
        rw [e1]
        rw [hv] at q3
        exact GOut.ret q3 o3 e2
    · exact q3.elim
  · exact q1.elim

theorem rg_reps {K : PySem.W.Frag} {H : Hp} {m : List Addr} (a b : Int) : Reps K H m (rgV a b) (upFrom a (b - a).toNat) := by
  have key : ∀ (n : Nat) (lo : Int) (f : Nat → V), (∀ i, f i = V.int (lo + (i : Nat))) → Reps K H m ((List.range n).map f) (upFrom lo n) := by
    intro n
    induction n with
    | zero => intro lo f _; exact .nil
    | succ n ih =>
      intro lo f hf
      rw [List.range_succ_eq_map, List.map_cons, List.map_map, upFrom, hf 0]
      refine .cons ?_ (ih (lo + 1) _ fun i => ?_)
      · simp only [Int.natCast_zero, Int.add_zero]
        exact .int _
      · simp only [Function.comp]
        rw [hf]
        congr 1
        omega
  exact key _ _ _ fun _ => rfl
theorem da_un {a : Expr} {f : Xp} {σ : Sl} {H : Hp} {mk : Mem → List D → Out D} {Q : VK} (q : TD G W (xLRg mk (aCons f aNil)) σ H Q) : TD G W f σ H fun x H1 => ∃ n : Int, x = .int n ∧ ∃ m M, MemOk G.K H1 m M ∧ (RgOk 0 n ∧ GOut G (RD G) m H1 (mk M (upFrom 0 (n - 0).toNat)) Q fun c d H' => W c d σ H') := by
  obtain ⟨m, r, M, si, q⟩ := q
  refine ⟨m, r, M, si, ?_⟩
  unfold xLRg aCons aNil at q
  cases e : f r M with
  | err c fs M1 => rw [e] at q; exact q
  | stk => rw [e] at q; exact q
  | ok x M1 =>
    rw [e] at q
    intro v H1 m1 s1 o1 r1
    simp only [bind_ok] at q
    cases r1 with
    | int j =>
      dsimp only at q
      split at q
      · rename_i hz
        refine ⟨j, rfl, m1, M1, o1, ⟨by omega, by omega, hz.1, hz.2.1, hz.2.2⟩, ?_⟩
        exact GOut.later q s1
      · exact q.elim
    | _ => exact q.elim
theorem de_listRg1 {a : Expr} {f : Xp} {p p2 pos2 pos : Pos} (hc : X.calm = true) (hg : Gl X "list") (hm : X.mg "list" = none) (hg2 : Gl X "range") (hm2 : X.mg "range" = none) (ha : DE G X W a f)
    (na : starEach [a] X.env = (false, eval a X.env) :: starEach [] X.env := by rfl) (ne : starEach [.Call (.Name "range" p2) [a] [] pos2] X.env = (false, eval (.Call (.Name "range" p2) [a] [] pos2) X.env) :: starEach [] X.env := by rfl) :
    DE G X W (.Call (.Name "list" p) [.Call (.Name "range" p2) [a] [] pos2] [] pos) (xLRg mkL (aCons f aNil)) := by
  refine PE.of (pe_listRg hc hg hm (prg_1 hg2 hm2 ha na) ne) fun σ H Q q => ?_
  obtain ⟨m, r, M, si, q⟩ := da_un (a := a) q
  refine ⟨m, r, M, si, ?_⟩
  cases e : f r M with
  | err c fs M1 => rw [e] at q; exact q
  | stk => rw [e] at q; exact q
  | ok x M1 =>
    rw [e] at q
    intro v H1 m1 s1 o1 r1
    obtain ⟨n, rfl, m2, M2, o2, hk, g⟩ := q v H1 m1 s1 o1 r1
    exact ⟨n, rfl, hk, fun q hq => g _ _ _ (Stp.alloc hq) (o2.alloc hq ⟨_, upd_same, rg_reps _ _⟩) (Rep.new o2)⟩
theorem de_tupRg1 {a : Expr} {f : Xp} {p p2 pos2 pos : Pos} (hc : X.calm = true) (hg : Gl X "tuple") (hm : X.mg "tuple" = none) (hg2 : Gl X "range") (hm2 : X.mg "range" = none) (ha : DE G X W a f)
    (na : starEach [a] X.env = (false, eval a X.env) :: starEach [] X.env := by rfl) (ne : starEach [.Call (.Name "range" p2) [a] [] pos2] X.env = (false, eval (.Call (.Name "range" p2) [a] [] pos2) X.env) :: starEach [] X.env := by rfl) :
    DE G X W (.Call (.Name "tuple" p) [.Call (.Name "range" p2) [a] [] pos2] [] pos) (xLRg mkT (aCons f aNil)) := by
  refine PE.of (pe_tupRg hc hg hm (prg_1 hg2 hm2 ha na) ne) fun σ H Q q => ?_
  obtain ⟨m, r, M, si, q⟩ := da_un (a := a) q
  refine ⟨m, r, M, si, ?_⟩
  cases e : f r M with
  | err c fs M1 => rw [e] at q; exact q
  | stk => rw [e] at q; exact q
  | ok x M1 =>
    rw [e] at q
    intro v H1 m1 s1 o1 r1
    obtain ⟨n, rfl, m2, M2, o2, hk, g⟩ := q v H1 m1 s1 o1 r1
    exact ⟨n, rfl, hk, fun q hq => g _ _ _ (Stp.fresh hq) (o2.fresh hq) (.tup SqT.new (rg_reps _ _))⟩

theorem is_bl {prog : Program} {w : World} {A : Around} {E : Value → Shared → Prop} {s : Shared} {v : Value} {d : Bool} {Q : Value → Shared → Prop} (hb : ∀ id, v ≠ .builtin id) (h : Q (.bool (v == .bool d)) s) : wpAny (model prog w) A (compareOp .Is v (.bool d)) Q E s := by
  cases v with
  | builtin id => exact absurd rfl (hb id)
  | _ => exact wpAny_pure h
theorem isnot_bl {prog : Program} {w : World} {A : Around} {E : Value → Shared → Prop} {s : Shared} {v : Value} {d : Bool} {Q : Value → Shared → Prop} (hb : ∀ id, v ≠ .builtin id) (h : Q (.bool (!(v == .bool d))) s) : wpAny (model prog w) A (compareOp .IsNot v (.bool d)) Q E s := by
  cases v with
  | builtin id => exact absurd rfl (hb id)
  | _ => exact wpAny_pure h
def rIsB (neg : Bool) : R2 := fun x y H Q => ∃ d, y = .bl d ∧ Q (.bl (if neg then !decide (x = .bl d) else decide (x = .bl d))) H
theorem rel_noB {x : V} {v : Value} (r : RelV x v) : ∀ id, v ≠ .builtin id := by
  intro id
  cases x <;> first
    | (obtain ⟨t, rfl⟩ := r; exact fun z => by cases z)
    | (cases r; exact fun z => by cases z)
theorem rel_bl {x : V} {v : Value} {d : Bool} (r : RelV x v) : (v == Value.bool d) = decide (x = .bl d) := by
  cases x with
  | bl b =>
    cases r
    cases b <;> cases d <;> rfl
  | _ => first
    | (obtain ⟨t, rfl⟩ := r; rfl)
    | (cases r; rfl)
theorem op_isB : OpR X (compareOp .Is) (rIsB false) := by
  intro pins s σ H x y v u Q I rx ry h
  obtain ⟨d, rfl, q⟩ := h
  cases ry
  refine is_bl (rel_noB rx) (fin_bl I q ?_)
  rw [rel_bl rx]
  rfl
theorem op_isnotB : OpR X (compareOp .IsNot) (rIsB true) := by
  intro pins s σ H x y v u Q I rx ry h
  obtain ⟨d, rfl, q⟩ := h
  cases ry
  refine isnot_bl (rel_noB rx) (fin_bl I q ?_)
  rw [rel_bl rx]
  rfl
theorem o2_isU : Op2 G oIsU (fun x y H Q => (y = .non ∧ Q (.bl (decide (x = .non))) H) ∨ rIsB false x y H Q) := by
  intro m H M x y dx dy Q E mo rx ry h
  cases ry with
  | non =>
    left
    have h' : GOut G (RD G) m H (.ok (.bl (isNon dx)) M) Q E := by
      cases dx <;> exact h
    refine ⟨rfl, ?_⟩
    rw [← isNon_eq rx]
    exact GOut.ret (a := D.bl (isNon dx)) (M := M) h' mo (.bl _)
  | bl d =>
    right
    refine ⟨d, rfl, ?_⟩
    cases rx with
    | bl c =>
      have e : decide (V.bl c = .bl d) = (c == d) := by cases c <;> cases d <;> rfl
      show Q (.bl (decide (V.bl c = .bl d))) H
      rw [e]
      exact GOut.ret (a := D.bl (c == d)) (M := M) h mo (.bl _)
    | _ => exact GOut.ret (a := D.bl false) (M := M) h mo (.bl _)
  | _ => cases dx <;> exact h.elim
theorem o2_notU : Op2 G oNotU (fun x y H Q => (y = .non ∧ Q (.bl (!decide (x = .non))) H) ∨ rIsB true x y H Q) := by
  intro m H M x y dx dy Q E mo rx ry h
  cases ry with
  | non =>
    left
    have h' : GOut G (RD G) m H (.ok (.bl (!isNon dx)) M) Q E := by
      cases dx <;> exact h
    refine ⟨rfl, ?_⟩
    rw [← isNon_eq rx]
    exact GOut.ret (a := D.bl (!isNon dx)) (M := M) h' mo (.bl _)
  | bl d =>
    right
    refine ⟨d, rfl, ?_⟩
    cases rx with
    | bl c =>
      have e : decide (V.bl c = .bl d) = (c == d) := by cases c <;> cases d <;> rfl
      show Q (.bl (!decide (V.bl c = .bl d))) H
      rw [e]
      exact GOut.ret (a := D.bl (!(c == d))) (M := M) h mo (.bl _)
    | _ => exact GOut.ret (a := D.bl true) (M := M) h mo (.bl _)
  | _ => cases dx <;> exact h.elim
theorem opR_isU : OpR X (compareOp .Is) (fun x y H Q => (y = .non ∧ Q (.bl (decide (x = .non))) H) ∨ rIsB false x y H Q) := op_isN.or op_isB
theorem opR_notU : OpR X (compareOp .IsNot) (fun x y H Q => (y = .non ∧ Q (.bl (!decide (x = .non))) H) ∨ rIsB true x y H Q) := op_notN.or op_isnotB

def stepV (i c : Int) (n : Nat) : List V := (List.range n).map fun k => V.int (i + (k : Nat) * c)
theorem vals_step {i c : Int} {n : Nat} {acc : Array Value} (h : ItemsOf (fun k v => ∃ t, v = .int (i + k * c) t) acc n) : Vals (stepV i c n) acc.toList := by
  have e : acc.toList.length = n := by rw [Array.length_toList]; exact h.1
  unfold stepV
  rw [← e]
  refine vals_of_get acc.toList _ fun j u hj => ?_
  obtain ⟨t, rfl⟩ := h.2 j u (by rw [← hj, Array.getElem?_toList])
  exact ⟨t, rfl⟩
theorem step_reps {K : PySem.W.Frag} {H : Hp} {m : List Addr} (i c : Int) (n : Nat) : Reps K H m (stepV i c n) (stepFrom i c n) := by
  have key : ∀ (n : Nat) (lo : Int) (f : Nat → V), (∀ k, f k = V.int (lo + (k : Nat) * c)) → Reps K H m ((List.range n).map f) (stepFrom lo c n) := by
    intro n
    induction n with
    | zero => intro lo f _; exact .nil
    | succ n ih =>
      intro lo f hf
      rw [List.range_succ_eq_map, List.map_cons, List.map_map, stepFrom, hf 0]
      refine .cons ?_ (ih (lo + c) _ fun k => ?_)
      · simp only [Int.natCast_zero, Int.zero_mul, Int.add_zero]
        exact .int _
      · simp only [Function.comp]
        rw [hf]
        congr 1
        rw [show ((Nat.succ k : Nat) : Int) = (k : Int) + 1 by omega, Int.add_mul, Int.one_mul]
        omega
  exact key _ _ _ fun _ => rfl
theorem stepV_len (i c : Int) (n : Nat) : (stepV i c n).length = n := by unfold stepV; rw [List.length_map, List.length_range]
def tLstRg3 (ta : TA) : TE := fun σ H Q => ta σ H fun vs H1 => ∃ (i j c : Int) (n : Nat), vs = [.int i, .int j, .int c] ∧ RgC i j c n ∧ n ≤ 2 ^ 24 ∧ ∀ q, H1 q = none → Q (.ref q) (upd H1 q (.lst (stepV i c n)))
theorem pe_listRg3 {a b c : Expr} {ta : TA} {p p2 pos2 pos : Pos} (hc : X.calm = true) (hg : Gl X "list") (hm : X.mg "list" = none) (hg2 : Gl X "range") (hm2 : X.mg "range" = none) (ha : PA X [a, b, c] ta)
    (hs : starEach [a, b, c] X.env = (false, eval a X.env) :: starEach [b, c] X.env := by rfl) (hpl : (backTo pos2 (starEach [b, c] X.env)).any (·.1) = false := by rfl)
    (na : starEach [.Call (.Name "range" p2) [a, b, c] [] pos2] X.env = (false, eval (.Call (.Name "range" p2) [a, b, c] [] pos2) X.env) :: starEach [] X.env := by rfl) :
    PE X (.Call (.Name "list" p) [.Call (.Name "range" p2) [a, b, c] [] pos2] [] pos) (tLstRg3 ta) := by
  refine ⟨fun pins s σ H Q I h => ?_⟩
  refine Call_ (ld_blt I hg hm boot_list (PyProof.Rows.callWith_type1 (args_cons ?_ na) na))
  refine Call_ (ld_blt I hg2 hm2 boot_range (PyProof.Rows.callWith_type1 (thn (ha.run pos2 pins s σ H _ I h) fun us s1 ⟨vs, H1, I1, r1, q1⟩ => ?_) hs hpl))
  obtain ⟨i, j, k, n, e, ⟨c0, c1, c2, c3⟩, hn, q⟩ := q1
  subst e
  cases r1 with
  | cons r rr =>
    cases rr with
    | cons r' rr =>
      cases rr with
      | cons r'' rr =>
        cases rr
        obtain ⟨t, rfl⟩ := r
        obtain ⟨t', rfl⟩ := r'
        obtain ⟨t'', rfl⟩ := r''
        refine call_range_3 c0 ?_ (.inl (PyProof.noPylong_small c1))
        refine args_nil ?_
        have I2 : Inv X pins σ H1 { s1 with heap := s1.heap.push { cls := .type "range", data := .fields #[.int i t, .int j t', .int k t''] } } := I1.kept fun b u e => Heap.get?_push_of_some _ e
        refine call_list_range (n := n) (I2.ok.hd hc) (IsRange.new ..) c2 c3 hn fun h' tk acc c' hk e' hi => ?_
        refine ⟨.ref _, upd H1 _ (.lst (stepV i k n)), I2.laid hk (Nat.le_refl _) (show ObjOk X.prog X.w _ _ _ (.lst (stepV i k n)) from ⟨?_, acc.toList, c', vals_step hi, ?_⟩), rfl, q _ (I2.hok.fresh (Nat.le_refl _))⟩
        · rw [stepV_len, sizeLine_eq]; omega
        · rw [Array.toArray_toList]; exact e'
theorem de_listRg3 {a b c : Expr} {t : Xa} {p p2 pos2 pos : Pos} (hc : X.calm = true) (hg : Gl X "list") (hm : X.mg "list" = none) (hg2 : Gl X "range") (hm2 : X.mg "range" = none) (ha : DA G X W [a, b, c] t)
    (hs : starEach [a, b, c] X.env = (false, eval a X.env) :: starEach [b, c] X.env := by rfl) (hpl : (backTo pos2 (starEach [b, c] X.env)).any (·.1) = false := by rfl)
    (na : starEach [.Call (.Name "range" p2) [a, b, c] [] pos2] X.env = (false, eval (.Call (.Name "range" p2) [a, b, c] [] pos2) X.env) :: starEach [] X.env := by rfl) :
    DE G X W (.Call (.Name "list" p) [.Call (.Name "range" p2) [a, b, c] [] pos2] [] pos) (xLRg3 mkL t) := by
  refine PE.of (pe_listRg3 hc hg hm hg2 hm2 ha hs hpl na) fun σ H Q q => ?_
  obtain ⟨m, r, M, si, q⟩ := q
  refine ⟨m, r, M, si, GOut.bind q fun ds M1 vs H1 m1 s1 o1 r1 q1 => ?_⟩
  split at q1
  · rename_i i j c
    obtain ⟨v1, v2, v3, rfl, r1, r2, r3⟩ := r1.three
    cases r1
    cases r2
    cases r3
    split at q1
    · rename_i hz
      exact ⟨i, j, c, (Builtin.Range.rangeSize i j c).toNat, rfl, ⟨hz.1, hz.2.1, hz.2.2.1, (Int.toNat_of_nonneg hz.2.2.2.1).symm⟩, hz.2.2.2.2, fun q hq => q1 _ _ _ (Stp.alloc hq) (o1.alloc hq ⟨_, upd_same, step_reps _ _ _⟩) (Rep.new o1)⟩
    · exact q1.elim
  · exact q1.elim
end
end PV

set_option Elab.async false
set_option linter.all false

namespace PV
open PySem
def maxOf : Int → List Int → Int
  | x, [] => x
  | x, y :: r => maxOf (if x < y then y else x) r
def minOf : Int → List Int → Int
  | x, [] => x
  | x, y :: r => minOf (if y < x then y else x) r
def fMax1 : Fn := fun ds M => match ds with
  | [y] => (match (lstOf y M).bind intsOf with
    | some (x :: xs) => .ok (.int (maxOf x xs)) M
    | _ => .stk)
  | _ => .stk
def fMin1 : Fn := fun ds M => match ds with
  | [y] => (match (lstOf y M).bind intsOf with
    | some (x :: xs) => .ok (.int (minOf x xs)) M
    | _ => .stk)
  | _ => .stk
def fIsqrt : Fn := fun ds M => match ds with
  | [.int a] => if 0 ≤ a ∧ a.toNat.log2 < 13000 then .ok (.int ((Float64.isqrt a.toNat : Nat) : Int)) M else .stk
  | _ => .stk
def fGcd : Fn := fun ds M => match ds with
  | [.int a, .int b] => .ok (.int ((Nat.gcd a.natAbs b.natAbs : Nat) : Int)) M
  | _ => .stk
def insI (x : Int) : List Int → List Int
  | [] => [x]
  | y :: r => if x ≤ y then x :: y :: r else y :: insI x r
def sortI : List Int → List Int
  | [] => []
  | x :: r => insI x (sortI r)
def fSortI : Fn := fun ds M => match ds with
  | [y] => (match (lstOf y M).bind intsOf with
    | some ns => .ok (.loc M.length) (M ++ [.lst ((sortI ns).map D.int)])
    | none => .stk)
  | _ => .stk
def mExtend (x y : D) (M : Mem) : Out D := match x, y with
  | .loc n, .loc k => (match M[n]?, M[k]? with
    | some (.lst xs), some (.lst zs) => if xs.length + zs.length ≤ SZ then .ok .non (M.set n (.lst (xs ++ zs))) else .stk
    | _, _ => .stk)
  | _, _ => .stk
def mPopAt (x y : D) (M : Mem) : Out D := match x, y with
  | .loc n, .int i => (match M[n]? with
    | some (.lst xs) => (match seqIndex? i xs.length with
      | some j => (match xs[j]? with
        | some d => if -(2 ^ 63) ≤ i ∧ i < 2 ^ 63 then .ok d (M.set n (.lst (xs.eraseIdx j))) else .stk
        | none => .stk)
      | none => .stk)
    | _ => .stk)
  | _, _ => .stk
def oAddI : D → D → Mem → Out D
  | .int i, .int j, M => .ok (.int (i + j)) M
  | _, _, _ => .stk
def mPop (x : D) (M : Mem) : Out D := match x with
  | .loc n => (match M[n]? with
    | some (.lst xs) => (match xs[xs.length - 1]? with
      | some d => .ok d (M.set n (.lst xs.dropLast))
      | none => .stk)
    | _ => .stk)
  | _ => .stk
def xPop (f : Xp) : Xp := fun r M => (f r M).bind fun x M1 => if isLst x M1 = true then mPop x M1 else .stk
def fMin3 : Fn := fun ds M => match ds with
  | [.int i, .int j, .int k] => .ok (.int (minOf i [j, k])) M
  | _ => .stk
def fMax3 : Fn := fun ds M => match ds with
  | [.int i, .int j, .int k] => .ok (.int (maxOf i [j, k])) M
  | _ => .stk
def tUnl (n : Nat) (u : Tgs) : Tg := fun d r M => match lstOf d M with
  | some ds => if ds.length = n then u ds r M else .stk
  | none => .stk
end PV

set_option Elab.async false
set_option linter.all false
set_option maxRecDepth 100000
set_option maxHeartbeats 2000000

namespace PV
open PySem PySem.Spec PyProof.Rows L2
section
variable {G : Gd} {X : Cx} {W : WX}
theorem ints_map {K : PySem.W.Frag} {H : Hp} {m : List Addr} : ∀ (ns : List Int), Reps K H m (ns.map V.int) (ns.map D.int)
  | [] => .nil
  | n :: r => .cons (.int n) (ints_map r)
theorem intsOf_map : ∀ {ds : List D} {ns : List Int}, intsOf ds = some ns → ds = ns.map D.int
  | [], _, h => by cases h; rfl
  | .int i :: r, _, h => by
    unfold intsOf at h
    obtain ⟨cs, e, rfl⟩ := Option.map_eq_some_iff.mp h
    rw [intsOf_map e]
    rfl
  | .non :: r, _, h => by cases h
  | .bl _ :: r, _, h => by cases h
  | .str _ :: r, _, h => by cases h
  | .tup _ :: r, _, h => by cases h
  | .fz _ :: r, _, h => by cases h
  | .loc _ :: r, _, h => by cases h
theorem maxOf_mem : ∀ (x : Int) (xs : List Int), maxOf x xs ∈ x :: xs ∧ ∀ y ∈ x :: xs, y ≤ maxOf x xs
  | x, [] => ⟨by simp [maxOf], fun y hy => by simp at hy; simp [maxOf, hy]⟩
  | x, y :: r => by
    obtain ⟨h1, h2⟩ := maxOf_mem (if x < y then y else x) r
    unfold maxOf
    refine ⟨?_, fun z hz => ?_⟩
    · rcases List.mem_cons.mp h1 with e | e
      · rw [e]
        split <;> simp
      · simp [e]
    · have a := h2 (if x < y then y else x) (by simp)
      simp only [List.mem_cons] at hz
      rcases hz with rfl | rfl | hz
      · split at a <;> split <;> omega
      · split at a <;> split <;> omega
      · exact h2 z (by simp [hz])
theorem minOf_mem : ∀ (x : Int) (xs : List Int), minOf x xs ∈ x :: xs ∧ ∀ y ∈ x :: xs, minOf x xs ≤ y
  | x, [] => ⟨by simp [minOf], fun y hy => by simp at hy; simp [minOf, hy]⟩
  | x, y :: r => by
    obtain ⟨h1, h2⟩ := minOf_mem (if y < x then y else x) r
    unfold minOf
    refine ⟨?_, fun z hz => ?_⟩
    · rcases List.mem_cons.mp h1 with e | e
      · rw [e]
        split <;> simp
      · simp [e]
    · have a := h2 (if y < x then y else x) (by simp)
      simp only [List.mem_cons] at hz
      rcases hz with rfl | rfl | hz
      · split at a <;> split <;> omega
      · split at a <;> split <;> omega
      · exact h2 z (by simp [hz])
theorem g_max1 : CallG G fMax1 (rMax G.K) := by
  intro m H M vs ds Q E mo r h
  unfold fMax1 at h
  split at h
  · obtain ⟨v, rfl, r1⟩ := r.one
    split at h
    · rename_i x xs e
      obtain ⟨ys, e1, e2⟩ := Option.bind_eq_some_iff.mp e
      obtain ⟨p, ws, rfl, hs, rs⟩ := lst_of mo r1 e1
      have := ints_of rs e2
      subst this
      refine ⟨p, x :: xs, rfl, hs, by simp, fun k hk hle => ?_⟩
      obtain ⟨a1, a2⟩ := maxOf_mem x xs
      have : k = maxOf x xs := Int.le_antisymm (a2 k hk) (hle _ a1)
      subst this
      exact GOut.ret h mo (.int _)
    · exact h.elim
  · exact h.elim
theorem g_min1 : CallG G fMin1 (rMin G.K) := by
  intro m H M vs ds Q E mo r h
  unfold fMin1 at h
  split at h
  · obtain ⟨v, rfl, r1⟩ := r.one
    split at h
    · rename_i x xs e
      obtain ⟨ys, e1, e2⟩ := Option.bind_eq_some_iff.mp e
      obtain ⟨p, ws, rfl, hs, rs⟩ := lst_of mo r1 e1
      have := ints_of rs e2
      subst this
      refine ⟨p, x :: xs, rfl, hs, by simp, fun k hk hle => ?_⟩
      obtain ⟨a1, a2⟩ := minOf_mem x xs
      have : k = minOf x xs := Int.le_antisymm (hle _ a1) (a2 k hk)
      subst this
      exact GOut.ret h mo (.int _)
    · exact h.elim
  · exact h.elim

def rIsqrt : List V → Hp → VK → Prop := fun vs H Q => ∃ a : Int, vs = [.int a] ∧ 0 ≤ a ∧ a.toNat.log2 < 13000 ∧ Q (.int ((Float64.isqrt a.toNat : Nat) : Int)) H
theorem cr_isqrt : CallR X (.builtin "math.isqrt") rIsqrt := by
  intro pins s σ H vs us Q I r h
  obtain ⟨a, rfl, h0, h1, q⟩ := h
  obtain ⟨u, rfl, r1⟩ := vals1 r
  obtain ⟨t, rfl⟩ := r1
  exact call_function_meets PySem.W.MGF.kind_isqrt PySem.W.MGF.plain_isqrt PySem.W.MGF.entry_isqrt (PySem.W.MGF.args_isqrt _) (PySem.W.mg_run_isqrt a t (by omega) (by omega) (by omega)).meets ⟨.int _, H, I.tok _, ⟨_, rfl⟩, q⟩
theorem g_isqrt : CallG G fIsqrt rIsqrt := by
  intro m H M vs ds Q E mo r h
  unfold fIsqrt at h
  split at h
  · obtain ⟨v, rfl, r1⟩ := r.one
    cases r1
    split at h
    · rename_i hz
      exact ⟨_, rfl, hz.1, hz.2, GOut.ret h mo (.int _)⟩
    · exact h.elim
  · exact h.elim
theorem g_gcd : CallG G fGcd rGcd := by
  intro m H M vs ds Q E mo r h
  unfold fGcd at h
  split at h
  · obtain ⟨v, w, rfl, r1, r2⟩ := r.two
    cases r1
    cases r2
    exact ⟨_, _, rfl, GOut.ret h mo (.int _)⟩
  · exact h.elim
theorem de_callBf {id : String} {F : Fn} {r : List V → Hp → VK → Prop} {x : Str} {p pos : Pos} {e : Expr} {es : List Expr} {t : Xa} (hc : CallR X (.builtin id) r) (hr : CallG G F r) (hg : Gl X x) (hm : X.mg x = some (.builtin id)) (ha : DA G X W (e :: es) t)
    (hdb : (x == ("__debug__" : Str)) = false := by decide)
    (he : starEach (e :: es) X.env = (false, eval e X.env) :: starEach es X.env := by rfl) (hpl : (backTo pos (starEach es X.env)).any (·.1) = false := by rfl) : DE G X W (.Call (.Name x p) (e :: es) [] pos) (xCall F t) :=
  PE.of (pe_callBfun hc hg hm ha hdb he hpl) (call_of hr)

theorem perm_sorted : ∀ {xs ys : List Int}, xs.Perm ys → xs.Pairwise (· ≤ ·) → ys.Pairwise (· ≤ ·) → xs = ys
  | [], ys, h, _, _ => (List.Perm.nil_eq h)
  | x :: r, [], h, _, _ => absurd h.symm (by intro z; have := List.Perm.nil_eq z; cases this)
  | x :: r, y :: t, h, hx, hy => by
    rw [List.pairwise_cons] at hx hy
    have e : x = y := by
      have m1 : x ∈ y :: t := h.subset (by simp)
      have m2 : y ∈ x :: r := h.symm.subset (by simp)
      rcases List.mem_cons.mp m1 with z | z
      · exact z
      · rcases List.mem_cons.mp m2 with w | w
        · exact w.symm
        · exact Int.le_antisymm (hx.1 y w) (hy.1 x z)
    subst e
    rw [perm_sorted (List.Perm.cons_inv h) hx.2 hy.2]
theorem insI_perm (x : Int) : ∀ xs, (insI x xs).Perm (x :: xs)
  | [] => .refl _
  | y :: r => by
    unfold insI
    split
    · exact .refl _
    · exact ((insI_perm x r).cons y).trans (.swap _ _ _)
theorem insI_sorted (x : Int) : ∀ {xs : List Int}, xs.Pairwise (· ≤ ·) → (insI x xs).Pairwise (· ≤ ·)
  | [], _ => by simp [insI]
  | y :: r, h => by
    have h' := h
    rw [List.pairwise_cons] at h
    unfold insI
    split
    · rename_i hxy
      rw [List.pairwise_cons]
      refine ⟨fun z hz => ?_, h'⟩
      rcases List.mem_cons.mp hz with e | e
      · omega
      · have := h.1 z e
        omega
    · rename_i hxy
      rw [List.pairwise_cons]
      refine ⟨fun z hz => ?_, insI_sorted x h.2⟩
      rcases List.mem_cons.mp ((insI_perm x r).subset hz) with e | e
      · omega
      · exact h.1 z e
theorem sortI_perm : ∀ xs, (sortI xs).Perm xs
  | [] => .refl _
  | x :: r => (insI_perm x _).trans ((sortI_perm r).cons x)
theorem sortI_sorted : ∀ xs, (sortI xs).Pairwise (· ≤ ·)
  | [] => List.Pairwise.nil
  | x :: r => insI_sorted x (sortI_sorted r)
theorem g_sortI : CallG G fSortI (rSortedI G.K) := by
  intro m H M vs ds Q E mo r h
  unfold fSortI at h
  split at h
  · obtain ⟨v, rfl, r1⟩ := r.one
    split at h
    · rename_i ns e
      obtain ⟨ys, e1, e2⟩ := Option.bind_eq_some_iff.mp e
      obtain ⟨p, ws, rfl, hs, rs⟩ := lst_of mo r1 e1
      have := ints_of rs e2
      subst this
      refine ⟨p, ns, rfl, hs, fun ns' q hp hsrt hq => ?_⟩
      have : ns' = sortI ns := perm_sorted (hp.trans (sortI_perm ns).symm) hsrt (sortI_sorted ns)
      subst this
      exact h _ _ _ (Stp.alloc hq) (mo.alloc hq ⟨_, upd_same, ints_map _⟩) (Rep.new mo)
    · exact h.elim
  · exact h.elim

theorem o_extend : ∀ (m : List Addr) (H : Hp) (M : Mem) (x y : V) (dx dy : D) (Q : VK) (E : XK), MemOk G.K H m M → Rep G.K H m x dx → Rep G.K H m y dy → GOut G (RD G) m H (mExtend dx dy M) Q E → rExtend x [y] H Q := by
  intro m H M x y dx dy Q E mo rx ry h
  unfold mExtend at h
  split at h
  · rename_i n k
    cases rx with
    | @loc a _ hn =>
      cases ry with
      | @loc b _ hk =>
        split at h
        · rename_i xs zs e1 e2
          obtain ⟨vs, a1, r1⟩ := mo.ob _ _ _ hn e1
          obtain ⟨ws, a2, r2⟩ := mo.ob _ _ _ hk e2
          split at h
          · rename_i hz
            refine ⟨a, b, vs, ws, rfl, rfl, a1, a2, by rw [r1.length, r2.length, ← szL]; exact hz, ?_⟩
            exact h _ _ _ (Stp.write hn) (mo.write hn ⟨_, upd_same, (r1.app r2).car ((Stp.write hn).car mo)⟩) .non
          · exact h.elim
        · exact h.elim
  · exact h.elim
theorem de_extend {o e : Expr} {fo f : Xp} {ap cp : Pos} (hK : G.K = X.K) (ho : DE G X W o fo) (he : DE G X W e f)
    (hm : PE X (.Call (.Attribute o "extend" ap) [e] [] cp) (tBM X.K "list" rExtend (TD G W fo) (tCons (TD G W f) tNil))) : DE G X W (.Call (.Attribute o "extend" ap) [e] [] cp) (xLst1 mExtend fo f) := de_meth1 (id := "list.extend") hK hm o_extend
theorem o_popAt : ∀ (m : List Addr) (H : Hp) (M : Mem) (x y : V) (dx dy : D) (Q : VK) (E : XK), MemOk G.K H m M → Rep G.K H m x dx → Rep G.K H m y dy → GOut G (RD G) m H (mPopAt dx dy M) Q E → rPopAt x [y] H Q := by
  intro m H M x y dx dy Q E mo rx ry h
  unfold mPopAt at h
  split at h
  · rename_i n i
    cases rx with
    | @loc a _ hn =>
      cases ry
      split at h
      · rename_i xs e1
        obtain ⟨vs, a1, r1⟩ := mo.ob _ _ _ hn e1
        split at h
        · rename_i j e2
          split at h
          · rename_i d e3
            split at h
            · rename_i hz
              obtain ⟨v, h1, h2⟩ := r1.get j d e3
              refine ⟨a, vs, i, j, v, rfl, rfl, a1, hz.1, hz.2, by rw [r1.length]; exact e2, h1, ?_⟩
              have er : Reps G.K H m (vs.eraseIdx j) (xs.eraseIdx j) := by
                rw [List.eraseIdx_eq_take_drop_succ, List.eraseIdx_eq_take_drop_succ]
                exact (r1.take j).app (r1.drop (j + 1))
              exact h _ _ _ (Stp.write hn) (mo.write hn ⟨_, upd_same, er.car ((Stp.write hn).car mo)⟩) (h2.car ((Stp.write hn).car mo))
            · exact h.elim
          · exact h.elim
        · exact h.elim
      · exact h.elim
  · exact h.elim
theorem de_popAt {o e : Expr} {fo f : Xp} {ap cp : Pos} (hK : G.K = X.K) (ho : DE G X W o fo) (he : DE G X W e f)
    (hm : PE X (.Call (.Attribute o "pop" ap) [e] [] cp) (tBM X.K "list" rPopAt (TD G W fo) (tCons (TD G W f) tNil))) : DE G X W (.Call (.Attribute o "pop" ap) [e] [] cp) (xLst1 mPopAt fo f) := de_meth1 (id := "list.pop") hK hm o_popAt

theorem Reps.dropLast {K : PySem.W.Frag} {H : Hp} {m : List Addr} {vs : List V} {ds : List D} (r : Reps K H m vs ds) : Reps K H m vs.dropLast ds.dropLast := by
  rw [List.dropLast_eq_take, List.dropLast_eq_take, r.length]
  exact r.take _
theorem de_pop0 {o : Expr} {fo : Xp} {ap cp : Pos} (hK : G.K = X.K) (ho : DE G X W o fo) (hm : PE X (.Call (.Attribute o "pop" ap) [] [] cp) (tBM0 X.K "list" rPop (TD G W fo))) : DE G X W (.Call (.Attribute o "pop" ap) [] [] cp) (xPop fo) := by
  refine PE.of hm fun σ H Q q => ?_
  rw [← hK]
  obtain ⟨m, rr, M, si, q⟩ := q
  refine ⟨m, rr, M, si, GOut.bind q fun dx M1 x H1 m1 s1 o1 r1 q1 => ?_⟩
  split at q1
  · rename_i hl
    refine ⟨ty_lst o1 r1 hl, ?_⟩
    unfold mPop at q1
    split at q1
    · rename_i n
      cases r1 with
      | @loc a _ hn =>
        split at q1
        · rename_i xs e1
          obtain ⟨vs, a1, r2⟩ := o1.ob _ _ _ hn e1
          split at q1
          · rename_i d e2
            obtain ⟨v, h1, h2⟩ := r2.get _ d e2
            refine ⟨a, vs, v, rfl, rfl, a1, by rw [r2.length]; exact h1, ?_⟩
            exact q1 _ _ _ (Stp.write hn) (o1.write hn ⟨_, upd_same, r2.dropLast.car ((Stp.write hn).car o1)⟩) (h2.car ((Stp.write hn).car o1))
          · exact q1.elim
        · exact q1.elim
    · exact q1.elim
  · exact q1.elim
theorem ds_aug {op : D → D → Mem → Out D} {g : Int → Int → Int} {i : Nat} {x : Str} {e : Expr} {f : Xp} {o : Operator} {pos' pos : Pos} (hN : X.N.Nodup) (he : DE G X W e f) (ho : PIp X o (ipI g))
    (h1 : ∀ i j M, op (.int i) (.int j) M = .ok (.int (g i j)) M) (h2 : ∀ x y M, (∀ i j, ¬ (x = .int i ∧ y = .int j)) → op x y M = .stk)
    (hi : X.N[i]? = some x := by rfl) (hx : Loc X.env.scope x := by first | exact Or.inl rfl | exact Or.inr rfl) (hf : X.fn x = true ∨ X.env.scope.names.lookup x = some .local := by first | exact .inl rfl | exact .inr rfl | assumption) : DS G X W (.AugAssign (.Name x pos') o e pos) (sAug op i f) := by
  refine PS.of (ps_aug hN hi hx he ho hf) fun D σ H q => ?_
  obtain ⟨m, r, M, si, q⟩ := q
  unfold sAug at q
  split at q
  · rename_i dx ex
    obtain ⟨v, e1, rv⟩ := si.1.at_ i dx ex
    refine ⟨v, e1, m, r, M, si, GSO.bind q si fun dy M1 y H1 m1 s1 si1 r1 q1 => ?_⟩
    by_cases z : ∃ a b, dx = .int a ∧ dy = .int b
    · obtain ⟨a, b, rfl, rfl⟩ := z
      rw [h1] at q1
      cases rv
      cases r1
      exact ⟨a, b, rfl, rfl, q1 _ H1 m1 .refl ⟨si1.1.set i (.int _), si1.2⟩⟩
    · rw [h2 dx dy M1 fun a b q => z ⟨a, b, q.1, q.2⟩] at q1
      exact q1.elim
  · exact q.elim
theorem ds_augAdd {i : Nat} {x : Str} {e : Expr} {f : Xp} {pos' pos : Pos} (hN : X.N.Nodup) (he : DE G X W e f) (hi : X.N[i]? = some x := by rfl) (hx : Loc X.env.scope x := by first | exact Or.inl rfl | exact Or.inr rfl) (hf : X.fn x = true ∨ X.env.scope.names.lookup x = some .local := by first | exact .inl rfl | exact .inr rfl | assumption) :
    DS G X W (.AugAssign (.Name x pos') .Add e pos) (sAug oAddI i f) := ds_aug hN he ip_add (fun _ _ _ => rfl) (stk_of fun x y M => by cases x <;> cases y <;> simp [oAddI]) hi hx hf
theorem ds_augSub {i : Nat} {x : Str} {e : Expr} {f : Xp} {pos' pos : Pos} (hN : X.N.Nodup) (he : DE G X W e f) (hi : X.N[i]? = some x := by rfl) (hx : Loc X.env.scope x := by first | exact Or.inl rfl | exact Or.inr rfl) (hf : X.fn x = true ∨ X.env.scope.names.lookup x = some .local := by first | exact .inl rfl | exact .inr rfl | assumption) :
    DS G X W (.AugAssign (.Name x pos') .Sub e pos) (sAug oSub i f) := ds_aug hN he ip_sub (fun _ _ _ => rfl) (stk_of fun x y M => by cases x <;> cases y <;> simp [oSub]) hi hx hf

theorem nu_min (i j : Int) : nuMin2 (.int i) (.int j) = some (.int (if j < i then j else i)) := by
  show (some (decide (j < i))).map _ = _
  by_cases h : j < i
  · simp [h]
  · simp [h]
theorem nu_max (i j : Int) : nuMax2 (.int i) (.int j) = some (.int (if i < j then j else i)) := by
  show (some (decide (i < j))).map _ = _
  by_cases h : i < j
  · simp [h]
  · simp [h]
theorem g_min3 : CallG G fMin3 (rNuC3 nuMin3) := by
  intro m H M vs ds Q E mo r h
  unfold fMin3 at h
  split at h
  · obtain ⟨u, v, w, rfl, r1, r2, r3⟩ := r.three
    cases r1
    cases r2
    cases r3
    refine ⟨_, _, _, _, rfl, ?_, GOut.ret h mo (.int _)⟩
    unfold nuMin3
    rw [nu_min]
    exact nu_min _ _
  · exact h.elim
theorem g_max3 : CallG G fMax3 (rNuC3 nuMax3) := by
  intro m H M vs ds Q E mo r h
  unfold fMax3 at h
  split at h
  · obtain ⟨u, v, w, rfl, r1, r2, r3⟩ := r.three
    cases r1
    cases r2
    cases r3
    refine ⟨_, _, _, _, rfl, ?_, GOut.ret h mo (.int _)⟩
    unfold nuMax3
    rw [nu_max]
    exact nu_max _ _
  · exact h.elim
end
section
variable {G : Gd} {X : Cx} {W : WX}
theorem dg_unl {es : List Expr} {k n : Nat} {u : Tgs} {pos : Pos} (hK : G.K = X.K) (hc : X.calm = true) (h : DGs G X W es u) (hn : (assignEach es X.env).length = n := by rfl) (hst : (assignEach es X.env).findIdx? (·.1) = none := by rfl) : DG G X W (.Tuple es k pos) (tUnl n u) := by
  refine PG.of (pg_lst hc h hn hst) fun v σ H Q q => ?_
  rw [← hK]
  obtain ⟨m, r, M, d, si, rp, q⟩ := q
  unfold tUnl at q
  cases hd : lstOf d M with
  | none =>
    rw [hd] at q
    exact q.elim
  | some ds =>
    rw [hd] at q
    dsimp only at q
    split at q
    · rename_i hl
      obtain ⟨p, vs, rfl, hs, r2⟩ := lst_of si.2 rp hd
      exact ⟨p, vs, rfl, hs, by rw [r2.length]; exact hl, m, r, M, ds, si, r2, q⟩
    · exact q.elim
end
end PV

set_option Elab.async false
set_option linter.all false

namespace PV
open PySem
def oIxL : D → D → Mem → Out D
  | .loc n, .int i, M => match M[n]? with
    | some (.lst xs) => (match listAt xs i with
      | some d => .ok d M
      | none => .stk)
    | _ => .stk
  | _, _, _ => .stk
def sAugS (op : D → D → Mem → Out D) (o i f : Xp) : Xs := fun r M => (o r M).toS r fun x M1 => (i r M1).toS r fun y M2 => (oIxL x y M2).toS r fun z M3 => (f r M3).toS r fun w M4 => (op z w M4).toS r fun v M5 => match setIx x y v M5 with
  | some M6 => .nx r M6
  | none => .stk
def mCount (x y : D) (M : Mem) : Out D := match x, y with
  | .loc n, .int k => (match M[n]? with
    | some (.lst xs) => (match intsOf xs with
      | some ns => .ok (.int (ns.count k : Nat)) M
      | none => .stk)
    | _ => .stk)
  | _, _ => .stk
def fSumU : Fn := fun ds M => match ds with
  | [.tup xs] => (match intsOf xs with
    | some ns => .ok (.int ns.sum) M
    | none => .stk)
  | [y] => (match (lstOf y M).bind intsOf with
    | some ns => .ok (.int ns.sum) M
    | none => .stk)
  | _ => .stk
end PV

set_option Elab.async false
set_option linter.all false
set_option maxRecDepth 100000
set_option maxHeartbeats 2000000

namespace PV
open PySem PySem.Spec PyProof.Rows L2
section
variable {G : Gd} {X : Cx} {W : WX}
theorem pget_list : PGet X (rIxL X.K) := by
  intro pins s σ H x y v u Q I rx ry h
  obtain ⟨p, xs, i, z, rfl, rfl, hq, he, q⟩ := h
  cases rx
  obtain ⟨t, rfl⟩ := ry
  obtain ⟨its, r, pl, hz⟩ := I.list hq
  obtain ⟨j, h1, h2, h3, h4, h5⟩ := atI_get he
  obtain ⟨w, ew, rw'⟩ := r.get h2
  have hl := r.length
  have hn := line63
  have fin : EP X pins σ Q w s := ⟨z, H, I, rw', q⟩
  by_cases h0 : 0 ≤ i
  · have hj : i.toNat = j := by
      rw [seqIndex_of h0 h5] at h1
      exact Option.some.inj h1
    exact wpAny_getItem_list pl.isList h0 (by omega) (by rw [hj]; simpa using ew) fin
  · have hj : (i + (its.toArray.size : Int)).toNat = j := by
      rw [seqIndex_neg (by omega) h4] at h1
      rw [List.size_toArray, ← hl]
      exact Option.some.inj h1
    exact wpAny_getItem_list_neg pl.isList (by omega) (by rw [List.size_toArray] <;> omega) (by omega) (by rw [hj]; simpa using ew) fin
theorem o2_ixL : Op2 G oIxL (rIxL G.K) := by
  intro m H M x y dx dy Q E mo rx ry h
  cases rx with
  | @loc a n hn =>
    cases ry with
    | int i =>
      unfold oIxL at h
      dsimp only at h
      split at h
      · rename_i xs e1
        obtain ⟨vs, a1, r⟩ := mo.ob _ _ _ hn e1
        split at h
        · rename_i d e
          obtain ⟨v, h1, h2⟩ := at_of r e
          exact ⟨a, vs, i, v, rfl, rfl, .of a1, h1, GOut.ret h mo h2⟩
        · exact h.elim
      · exact h.elim
    | _ => exact h.elim
  | _ => cases ry <;> exact h.elim
theorem ds_augS {op : D → D → Mem → Out D} {g : Int → Int → Int} {oe ie e : Expr} {fo fi f : Xp} {o : Operator} {tpos pos : Pos} (hK : G.K = X.K) (ho' : DE G X W oe fo) (hi' : DE G X W ie fi) (he : DE G X W e f) (ho : PIp X o (ipI g))
    (h1 : ∀ i j M, op (.int i) (.int j) M = .ok (.int (g i j)) M) (h2 : ∀ x y M, (∀ i j, ¬ (x = .int i ∧ y = .int j)) → op x y M = .stk)
    (ha : ∀ ov iv new, augStore ie ov iv new = (do holding [new, ov, iv] (setItem ov iv new); release [new, ov, iv] []; pure .next) := by intros; rfl) : DS G X W (.AugAssign (.Subscript oe ie tpos) o e pos) (sAugS op fo fi f) := by
  refine PS.of (ps_augS (tpos := tpos) (pos := pos) ho' hi' pget_list he ho set_list ha) fun D σ H q => ?_
  obtain ⟨m, r, M, si, q⟩ := q
  unfold sAugS at q
  rw [← hK]
  refine ⟨m, r, M, si, GSO.bind q si fun dx M1 x H1 m1 s1 si1 r1 q1 => ⟨m1, r, M1, si1, GSO.bind q1 si1 fun dy M2 y H2 m2 s2 si2 r2 q2 => ?_⟩⟩
  refine o2_ixL m2 H2 M2 x y dx dy _ _ si2.2 (r1.car (s2.car si1.2)) r2 (GSO.bind q2 si2 fun dz M3 z H3 m3 s3 si3 r3 q3 => ?_)
  refine ⟨m3, r, M3, si3, GSO.bind q3 si3 fun dw M4 w H4 m4 s4 si4 r4 q4 => ?_⟩
  by_cases c : ∃ a b, dz = .int a ∧ dw = .int b
  · obtain ⟨a, b, rfl, rfl⟩ := c
    rw [h1] at q4
    have q4 : GSO G m4 H4 W D (match setIx dx dy (.int (g a b)) M4 with | some M6 => .nx r M6 | none => .stk) := q4
    cases r3
    cases r4
    refine ⟨a, b, rfl, rfl, ?_⟩
    split at q4
    · rename_i M6 e6
      have rx := (((r1.car (s2.car si1.2)).car (s3.car si2.2)).car (s4.car si3.2))
      have ry := ((r2.car (s3.car si2.2)).car (s4.car si3.2))
      exact set_l m4 H4 M4 M6 x y (.int (g a b)) dx dy (.int (g a b)) _ si4.2 rx ry (.int _) e6 fun H' m' s5 mo => q4 σ H' m' s5 (si4.later s5 mo)
    · exact q4.elim
  · rw [h2 dz dw M4 fun a b q => c ⟨a, b, q.1, q.2⟩] at q4
    exact q4.elim
theorem ds_augSAdd {oe ie e : Expr} {fo fi f : Xp} {tpos pos : Pos} (hK : G.K = X.K) (ho : DE G X W oe fo) (hi : DE G X W ie fi) (he : DE G X W e f)
    (ha : ∀ ov iv new, augStore ie ov iv new = (do holding [new, ov, iv] (setItem ov iv new); release [new, ov, iv] []; pure .next) := by intros; rfl) : DS G X W (.AugAssign (.Subscript oe ie tpos) .Add e pos) (sAugS oAddI fo fi f) :=
  ds_augS hK ho hi he ip_add (fun _ _ _ => rfl) (stk_of fun x y M => by cases x <;> cases y <;> simp [oAddI]) ha
theorem ds_augSSub {oe ie e : Expr} {fo fi f : Xp} {tpos pos : Pos} (hK : G.K = X.K) (ho : DE G X W oe fo) (hi : DE G X W ie fi) (he : DE G X W e f)
    (ha : ∀ ov iv new, augStore ie ov iv new = (do holding [new, ov, iv] (setItem ov iv new); release [new, ov, iv] []; pure .next) := by intros; rfl) : DS G X W (.AugAssign (.Subscript oe ie tpos) .Sub e pos) (sAugS oSub fo fi f) :=
  ds_augS hK ho hi he ip_sub (fun _ _ _ => rfl) (stk_of fun x y M => by cases x <;> cases y <;> simp [oSub]) ha

theorem o_count : ∀ (m : List Addr) (H : Hp) (M : Mem) (x y : V) (dx dy : D) (Q : VK) (E : XK), MemOk G.K H m M → Rep G.K H m x dx → Rep G.K H m y dy → GOut G (RD G) m H (mCount dx dy M) Q E → rCntI G.K x [y] H Q := by
  intro m H M x y dx dy Q E mo rx ry h
  unfold mCount at h
  split at h
  · rename_i n k
    cases rx with
    | @loc a _ hn =>
      cases ry
      split at h
      · rename_i xs e1
        obtain ⟨vs, a1, r1⟩ := mo.ob _ _ _ hn e1
        split at h
        · rename_i ns e2
          have := ints_of r1 e2
          subst this
          exact ⟨a, ns, k, rfl, rfl, .of a1, GOut.ret h mo (.int _)⟩
        · exact h.elim
      · exact h.elim
  · exact h.elim
theorem de_count {o e : Expr} {fo f : Xp} {ap cp : Pos} (hK : G.K = X.K) (ho : DE G X W o fo) (he : DE G X W e f)
    (hm : PE X (.Call (.Attribute o "count" ap) [e] [] cp) (tBM X.K "list" (rCntI X.K) (TD G W fo) (tCons (TD G W f) tNil))) : DE G X W (.Call (.Attribute o "count" ap) [e] [] cp) (xLst1 mCount fo f) := de_meth1 (id := "list.count") hK hm (by rw [← hK]; exact o_count)

def rSumU (K : PySem.W.Frag) : List V → Hp → VK → Prop := fun vs H Q => rSum K vs H Q ∨ ∃ (a : Addr) (ns : List Int), vs = [V.ref a] ∧ SqT K H a (ns.map V.int) ∧ Q (.int ns.sum) H
theorem sumT_raw {prog : Program} {w : World} {A : Around} {E : Value → Shared → Prop} {s : Shared} {l : Addr} {its : List Value} {ns : List Int} {Q : Value → Shared → Prop} (hh : A.handled = none) (hl : s.heap.IsTuple l its.toArray) (hi : IntsAre its ns)
    (h : ∀ h' tk t', (∀ b o, s.heap.get? b = some o → h'.get? b = some o) → Q (.int ns.sum t') { s with heap := h', toks := tk }) : wpAny (model prog w) A (call (.builtin "sum") [.ref l]) Q E s := by
  obtain ⟨xs, e⟩ := hi.allInts.items
  have hn : numsOf (intItems xs).toList = ns := by rw [← e]; exact hi.numsOf
  rw [nums_intItems] at hn
  rw [e] at hl
  refine PySem.W.ktm_sumG hh hl fun h' tk t' hk => ?_
  have := h h' tk t' hk
  rw [preSum_eq, List.take_of_length_le (by simp), hn]; exact this
theorem cr_sumU (hc : X.calm = true) : CallR X (.builtin "sum") (rSumU X.K) := by
  intro pins s σ H vs us Q I r h
  rcases h with h | h
  · exact cr_sum hc pins s σ H vs us Q I r h
  · obtain ⟨a, ns, rfl, hs, q⟩ := h
    obtain ⟨its, rv, hl, _⟩ := I.tuple hs
    rw [Vals.ref1 r]
    exact sumT_raw (I.ok.hd hc) hl rv.ints fun h' tk t' hk => ⟨.int _, H, I.kept hk, ⟨_, rfl⟩, q⟩
theorem g_sumU : CallG G fSumU (rSumU G.K) := by
  intro m H M vs ds Q E mo r h
  unfold fSumU at h
  split at h
  · rename_i xs
    obtain ⟨v, rfl, r1⟩ := r.one
    cases r1 with
    | @tup a ws _ hs rs =>
      split at h
      · rename_i ns e
        have := ints_of rs e
        subst this
        exact .inr ⟨a, ns, rfl, hs, GOut.ret h mo (.int _)⟩
      · exact h.elim
  · obtain ⟨v, rfl, r1⟩ := r.one
    split at h
    · rename_i bs e
      obtain ⟨ys, e1, e2⟩ := Option.bind_eq_some_iff.mp e
      obtain ⟨p, ws, rfl, hs, rs⟩ := lst_of mo r1 e1
      have := ints_of rs e2
      subst this
      exact .inl ⟨p, bs, rfl, hs, GOut.ret h mo (.int _)⟩
    · exact h.elim
  · exact h.elim
end
end PV

set_option Elab.async false
set_option linter.all false

namespace PV
open PySem
def pairsOf : List D → Option (List (Int × Int))
  | [] => some []
  | .tup [.int a, .int b] :: r => (pairsOf r).map fun ps => (a, b) :: ps
  | _ => none
def dpI (p : Int × Int) : D := .tup [.int p.1, .int p.2]
def lexP (p q : Int × Int) : Bool := if p.1 = q.1 then decide (p.2 < q.2) else decide (p.1 < q.1)
def insP (x : Int × Int) : List (Int × Int) → List (Int × Int)
  | [] => [x]
  | y :: r => if lexP y x = true then y :: insP x r else x :: y :: r
def sortP : List (Int × Int) → List (Int × Int)
  | [] => []
  | x :: r => insP x (sortP r)
def seqOf (y : D) (M : Mem) : Option (List D) := match y with
  | .tup xs => some xs
  | .loc n => (match M[n]? with
    | some (.lst ys) => some ys
    | _ => none)
  | _ => none
def fSortU : Fn := fun ds M => match ds with
  | [y] => (match seqOf y M with
    | some xs => (match intsOf xs with
      | some ns => .ok (.loc M.length) (M ++ [.lst ((sortI ns).map D.int)])
      | none => (match pairsOf xs with
        | some ps => .ok (.loc M.length) (M ++ [.lst ((sortP ps).map dpI)])
        | none => .stk))
    | none => .stk)
  | _ => .stk
def fSortP : Fn := fun ds M => match ds with
  | [y] => (match (seqOf y M).bind pairsOf with
    | some ps => .ok (.loc M.length) (M ++ [.lst ((sortP ps).map dpI)])
    | none => .stk)
  | _ => .stk
def bU (f : Xp) : Xb := fun r M => (f r M).bind fun x M1 => match x with
  | .bl b => .ok b M1
  | .tup xs => .ok (!xs.isEmpty) M1
  | _ => .stk
def oRevU : D → Mem → Out D
  | .tup xs, M => .ok (.tup xs.reverse) M
  | .loc n, M => match M[n]? with
    | some (.lst xs) => .ok (.loc M.length) (M ++ [.lst xs.reverse])
    | _ => .stk
  | _, _ => .stk
def oRepT : D → D → Mem → Out D
  | .tup xs, .int k, M => if xs.length = 1 ∧ 2 ≤ k ∧ k ≤ 100000 then .ok (.tup (List.replicate k.toNat xs).flatten) M else .stk
  | _, _, _ => .stk
def sStk : Xs := fun _ _ => .stk
def xStk : Xp := fun _ _ => .stk

open Classical in
noncomputable def lcL2 (n : Option Nat) (ys : List D) (t : Tg) (it1 : Xi) (t1 : Tg) (f : Xp) (vs1 : List Nat) (r : Ev) : List D → Mem → Out (List D)
  | [], M => if stands M n ys then .ok [] M else .stk
  | x :: rest, M => if stands M n ys then (match t x r M with
    | .nx r1 M1 => (match it1 r1 M1 with
      | .ok p M2 => (match lcL p.2.1 p.2.2 t1 bTrue f (wipeE r1 vs1) p.1 M2 with
        | .ok ds M3 => (match lcL2 n ys t it1 t1 f vs1 r rest M3 with
          | .ok es M4 => .ok (ds ++ es) M4
          | _ => .stk)
        | _ => .stk)
      | _ => .stk)
    | _ => .stk) else .stk
noncomputable def xLc2 (it : Xi) (t : Tg) (it1 : Xi) (t1 : Tg) (f : Xp) (own own1 : List Nat) : Xp := fun r M => (it r M).bind fun p M1 => match lcL2 p.2.1 p.2.2 t it1 t1 f own1 (wipeE r own) p.1 M1 with
  | .ok ds M2 => if ds.length ≤ SZ then .ok (.loc M2.length) (M2 ++ [.lst ds]) else .stk
  | _ => .stk
def oShlW : D → D → Mem → Out D
  | .int i, .int j, M => if 0 ≤ j ∧ j ≤ 1000000 ∧ Builtin.Int.intBits i ≤ 1000000 then .ok (.int (i * 2 ^ j.toNat)) M else .stk
  | _, _, _ => .stk
def oKd (kvs : List (Str × Int)) : D → Mem → Out D
  | .str s, M => (match kvs.lookup s with
    | some i => .ok (.int i) M
    | none => .stk)
  | _, _ => .stk
def mExtendT (x y : D) (M : Mem) : Out D := match x, y with
  | .loc n, .tup zs => (match M[n]? with
    | some (.lst xs) => if xs.length + zs.length ≤ SZ then .ok .non (M.set n (.lst (xs ++ zs))) else .stk
    | _ => .stk)
  | _, _ => .stk

def okSortX (ps : List PyData) : Prop := PySem.W.AllAlike ps ∧ PySem.W.Sortable ps ∧ ∀ p ∈ ps, p.depth ≤ 30
noncomputable def sortX (ys : List D) (ps : List PyData) : List D := ((ys.zip ps).mergeSort (PySem.W.dataLe false (fun b => b.2))).map (fun b => b.1)
noncomputable def fSortX : Fn := fun ds M => match ds with
  | [y] => (match seqOf y M with
    | some ys => (match ys.mapM (toPy M DEPTH) with
      | some ps => @ite _ (okSortX ps) (Classical.propDecidable _) (.ok (.loc M.length) (M ++ [.lst (sortX ys ps)])) .stk
      | none => .stk)
    | none => .stk)
  | _ => .stk
def keysI : List (Sum Int Str × D) → Option (List Int)
  | [] => some []
  | (.inl i, _) :: r => (keysI r).map fun t => i :: t
  | _ => none
def fSortK : Fn := fun ds M => match ds with
  | [.loc n] => (match M[n]? with
    | some (.dct kvs) => (match keysI kvs with
      | some ks => if ks.length < 64 then .ok (.loc M.length) (M ++ [.lst ((sortI ks).map D.int)]) else .stk
      | none => .stk)
    | _ => .stk)
  | _ => .stk

open Classical in
noncomputable def lcLS (S : Mem → Prop) (t : Tg) (c : Xb) (f : Xp) (r : Ev) : List D → Mem → Out (List D)
  | [], M => if S M then .ok [] M else .stk
  | x :: rest, M => if S M then (match t x r M with
    | .nx r1 M1 => (match c r1 M1 with
      | .ok b M2 => if b = true then (match f r1 M2 with
          | .ok d M3 => (match lcLS S t c f r rest M3 with
            | .ok ds M4 => .ok (d :: ds) M4
            | _ => .stk)
          | _ => .stk) else lcLS S t c f r rest M2
      | _ => .stk)
    | _ => .stk) else .stk
def keyD : Sum Int Str → D
  | .inl i => .int i
  | .inr s => .str s
def keysD (kvs : List (Sum Int Str × D)) : List D := kvs.map fun p => keyD p.1
def LcK (fd : Xp) (t : Tg) (c : Xb) (f : Xp) (own : List Nat) (r : Ev) (M : Mem) (n : Nat) (kvs : List (Sum Int Str × D)) (ds : List D) (M2 : Mem) : Prop :=
  M2[n]? = some (.dct kvs) ∧ ds.length ≤ SZ ∧ ∀ od kws, fd r (M.set n (.lck kvs od kws)) = .ok (.loc n) (M.set n (.lck kvs od kws)) ∧
    lcLS (fun N => N[n]? = some (.lck kvs od kws)) t c f (wipeE r own) (keysD kvs) (M.set n (.lck kvs od kws)) = .ok ds (M2.set n (.lck kvs od kws))
open Classical in
noncomputable def xLcK (fd : Xp) (t : Tg) (c : Xb) (f : Xp) (own : List Nat) : Xp := fun r M => match fd r M with
  | .ok (.loc n) _ => (match M[n]? with
    | some (.dct kvs) => if h : ∃ p : List D × Mem, LcK fd t c f own r M n kvs p.1 p.2 then .ok (.loc h.choose.2.length) (h.choose.2 ++ [.lst h.choose.1]) else .stk
    | _ => .stk)
  | _ => .stk
theorem set_back {M : Mem} {n : Nat} {o o2 : MO} (h : M[n]? = some o) : (M.set n o2).set n o = M := by
  rw [List.set_set]
  apply List.ext_getElem?
  intro i
  by_cases c : n = i
  · subst c
    rw [List.getElem?_set_self (List.getElem?_eq_some_iff.mp h).1, h]
  · rw [List.getElem?_set_ne c]
theorem lcK_eq {fd : Xp} {t : Tg} {c : Xb} {f : Xp} {own : List Nat} {r : Ev} {M M1 : Mem} {n : Nat} {kvs : List (Sum Int Str × D)} {ds : List D} {M2 : Mem} (h1 : fd r M = .ok (.loc n) M1) (h2 : M[n]? = some (.dct kvs)) (h : LcK fd t c f own r M n kvs ds M2) : xLcK fd t c f own r M = .ok (.loc M2.length) (M2 ++ [.lst ds]) := by
  have ex : ∃ p : List D × Mem, LcK fd t c f own r M n kvs p.1 p.2 := ⟨(ds, M2), h⟩
  have e1 := (h.2.2 default []).2
  have e2 := (ex.choose_spec.2.2 default []).2
  rw [e1] at e2
  injection e2 with e3 e4
  have e5 : ex.choose.2 = M2 := by
    have := congrArg (fun N => N.set n (.dct kvs)) e4
    simp only [set_back h.1, set_back ex.choose_spec.1] at this
    exact this.symm
  unfold xLcK
  simp only [h1, h2]
  rw [dif_pos ex, e5, ← e3]
end PV

set_option Elab.async false
set_option linter.all false
set_option maxRecDepth 100000
set_option maxHeartbeats 2000000

namespace PV
open PySem PySem.Spec PyProof.Rows L2 SrtO
section
variable {prog : Program} {w : World} {A : Around} {E : Value → Shared → Prop} {s : Shared}
theorem collect_tupAt {p : Addr} {us : List Value} {R : List Value → Shared → Prop} (tp : IsTup s.heap p us.toArray) (lim : us.length ≤ sizeLine)
    (fin : R us { s with heap := (s.heap.push (seqObj "list" #[] 0)).update s.heap.objs.size (Obj.mapSeq fun x => x ++ us.toArray) }) : wpAny (model prog w) A (collect (.ref p)) R E s := by
  obtain ⟨ob, g, cl, m, da⟩ := tp
  have g2 : (s.heap.push (seqObj "list" #[] 0)).get? p = some ob := Heap.get?_push_of_some _ g
  have gn : (s.heap.push (seqObj "list" #[] 0)).get? s.heap.objs.size = some (seqObj "list" #[] 0) := Heap.get?_push_size _ rfl
  have small : (#[] ++ us.toArray : Array Value).size ≤ sizeLine + 1 := by
    simp only [Array.size_append, List.size_toArray, List.length_nil]
    omega
  unfold collect
  apply wpAny_bind
  apply wpAny_runValue
  apply codeAny_builtin entry_proto_collect'
  show wpAny _ _ (do again (.builtin "list.__iadd__" ⟨[← newList [], .ref p], []⟩)) _ _ s
  apply wpAny_bind
  refine wpAny_newList ?_ (Nat.zero_le _)
  apply wpAny_pure
  refine And.intro (Code.quiet_builtin _ (by decide +kernel)) (codeAny_builtin entry_list_iadd' ?_)
  show wpAny _ _ (Builtin.List.listExtendWith (.ref s.heap.objs.size) (.ref p) (.ref s.heap.objs.size)) _ _ { s with heap := s.heap.push (seqObj "list" #[] 0) }
  unfold Builtin.List.listExtendWith
  apply wpAny_bind
  refine wpAny_typeOf (T := "tuple") ⟨ob, g2, cl⟩ ?_
  have tt : (Value.type "tuple" == Value.type "tuple") = true := rfl
  rw [if_pos (show _ = true by rw [tt]; simp)]
  apply wpAny_bind
  refine listItems_at g2 da ?_
  apply wpAny_bind
  refine listItems_at (xs := #[]) (n := 0) gn rfl ?_
  rw [if_neg (show ¬ _ by simp)]
  apply wpAny_bind
  refine listUpdate_at (xs := #[]) (n := 0) gn rfl ?_ (Nat.zero_le _) small
  apply wpAny_pure
  show wpAny (model prog w) A (load s.heap.objs.size >>= _) R E _
  apply wpAny_bind
  refine wpAny_load (get?_update_seq gn _) ?_
  show wpAny _ _ (pure ((#[] : Array Value) ++ us.toArray).toList) R E _
  have e : ((#[] : Array Value) ++ us.toArray).toList = us := by simp
  rw [e]
  exact wpAny_pure fin
theorem sorted_tupleO {p : Addr} {us : List Value} {lt : Value → Value → Bool} {R : Value → Shared → Prop} (sw : Swo lt) (tp : IsTup s.heap p us.toArray) (lim : us.length ≤ sizeLine)
    (so : 2 ≤ us.length → ∀ (g : Heap) (b : Addr), g.get? b = some (seqObj "list" us.toArray 0) → (∀ c o, s.heap.get? c = some o → c ≠ b ∧ g.get? c = some o) → SortableO prog w A.in1.in1 { s with heap := g } b us lt)
    (fin : ∀ res : List Value, Srtd lt res → Stb lt res us → R (.ref (s.heap.objs.size + 1)) { s with heap := sortedAll s.heap us res.toArray }) : wpAny (model prog w) A (call (.builtin "sorted") [.ref p]) R E s := by
  obtain ⟨G, hG⟩ : ∃ G, G = (s.heap.push (seqObj "list" #[] 0)).update s.heap.objs.size (Obj.mapSeq fun x => x ++ us.toArray) := ⟨_, rfl⟩
  have sz : G.objs.size = s.heap.objs.size + 1 := by
    rw [hG, Heap.size_update]
    exact size_push' _ _
  have at1 : (G.push (seqObj "list" us.toArray 0)).get? (s.heap.objs.size + 1) = some (seqObj "list" us.toArray 0) := sz ▸ Heap.get?_push_size G rfl
  have old : ∀ c o, s.heap.get? c = some o → c ≠ s.heap.objs.size + 1 ∧ (G.push (seqObj "list" us.toArray 0)).get? c = some o := fun c o q => by
    have less := Heap.lt_size q
    constructor
    · exact Nat.ne_of_lt (Nat.lt_succ_of_lt less)
    · apply Heap.get?_push_of_some
      rw [hG, Heap.get?_update_ne _ _ _ _ (Nat.ne_of_lt less)]
      exact Heap.get?_push_of_some _ q
  apply Calls.call_function_entry kind_sorted plain_sorted entry_sorted (args_sorted1 _)
  unfold Builtin.«sorted»
  apply wpAny_bind (m := checkCount "sorted" 1 1 _)
  apply wpAny_pure
  apply wpAny_bind
  refine collect_tupAt tp lim ?_
  apply wpAny_bind
  refine wpAny_newList ?_ lim
  rw [← hG]
  show wpAny _ _ _ _ _ { s with heap := G.push (seqObj "list" us.toArray 0) }
  rw [sz]
  apply wpAny_bind
  apply wpAny_holding
  refine wpAny_call_entry slot_list_sort ⟨_, at1, rfl⟩ entry_list_sort ?_ (args_list_sort _)
  refine list_sort_ord sw at1 lim (fun n2 => so n2 _ _ at1 old) fun res a b => ⟨_, rfl, ?_⟩
  refine wpAny_pure ⟨_, rfl, ?_⟩
  have := fin res a b
  unfold sortedAll at this
  rw [hG]
  exact this
theorem sorted_pairsU {p : Addr} {us : List Value} {k : Value → Int × Int} {R : Value → Shared → Prop} (at_ : s.heap.IsList p us.toArray ∨ IsTup s.heap p us.toArray) (lim : us.length ≤ sizeLine) (ip : ∀ v ∈ us, Srt.IsPair s.heap v (k v).1 (k v).2)
    (fin : ∀ res : List Value, Srtd (fun v u => lexB (k v) (k u)) res → Stb (fun v u => lexB (k v) (k u)) res us → R (.ref (s.heap.objs.size + 1)) { s with heap := sortedAll s.heap us res.toArray }) : wpAny (model prog w) A (call (.builtin "sorted") [.ref p]) R E s := by
  have so : 2 ≤ us.length → ∀ (g : Heap) (b : Addr), g.get? b = some (seqObj "list" us.toArray 0) → (∀ c o, s.heap.get? c = some o → c ≠ b ∧ g.get? c = some o) → SortableO prog w A.in1.in1 { s with heap := g } b us (fun v u => lexB (k v) (k u)) := by
    intro n2 g b gb kk
    refine pairs_sortableO (s := { s with heap := g }) (show 0 < us.length by omega) (fun v hm => (ip v hm).keeps fun c o e _ => (kk c o e).2) ?_
    intro o e cl
    have e' : some o = some (seqObj "list" us.toArray 0) := e.symm.trans gb
    injection e' with e'
    subst e'
    exact absurd (Value.type.inj cl) (by decide)
  rcases at_ with l | t
  · exact sorted_ord (swo_lex k) l lim so fin
  · exact sorted_tupleO (swo_lex k) t lim so fin
end
def rSortPU (K : PySem.W.Frag) : List V → Hp → VK → Prop := fun vs H Q => ∃ (a : Addr) (zs : List (V × (Int × Int))), vs = [V.ref a] ∧ (SqL K H a (zs.map (·.1)) ∨ SqT K H a (zs.map (·.1))) ∧ (∀ z ∈ zs, ∃ t, z.1 = V.ref t ∧ SqT K H t [.int z.2.1, .int z.2.2]) ∧
  ∀ (ws : List (V × (Int × Int))) (p : Addr), ws.Perm zs → ws.Pairwise (fun x y => lexB y.2 x.2 = false) → H p = none → Q (.ref p) (upd H p (.lst (ws.map (·.1))))
theorem sorted_intsU {prog : Program} {w : World} {A : Around} {E : Value → Shared → Prop} {s : Shared} {p : Addr} {us : List Value} {ns : List Int} {R : Value → Shared → Prop} (tp : IsTup s.heap p us.toArray) (lim : us.length ≤ sizeLine) (hI : IntsAre us ns)
    (fin : ∀ (res : List Value) (ns' : List Int), IntsAre res ns' → ns'.Perm ns → ns'.Pairwise (· ≤ ·) → R (.ref (s.heap.objs.size + 1)) { s with heap := sortedAll s.heap us res.toArray }) : wpAny (model prog w) A (call (.builtin "sorted") [.ref p]) R E s := by
  refine sorted_tupleO swo_int tp lim (fun n2 g b _ _ => ints_sortable hI n2) fun res a b => ?_
  obtain ⟨k1, k2, k3⟩ := ints_out hI a b
  exact fin res _ k1 k2 k3
def rSortIU (K : PySem.W.Frag) : List V → Hp → VK → Prop := fun vs H Q => ∃ (a : Addr) (ns : List Int), vs = [V.ref a] ∧ (SqL K H a (ns.map V.int) ∨ SqT K H a (ns.map V.int)) ∧
  ∀ (ns' : List Int) (p : Addr), ns'.Perm ns → ns'.Pairwise (· ≤ ·) → H p = none → Q (.ref p) (upd H p (.lst (ns'.map V.int)))
def rSortU (K : PySem.W.Frag) : List V → Hp → VK → Prop := fun vs H Q => rSortIU K vs H Q ∨ rSortPU K vs H Q
section
variable {X : Cx}
theorem cr_sortedIU : CallR X (.builtin "sorted") (rSortIU X.K) := by
  intro pins s σ H vs us Q I r h
  obtain ⟨a, ns, rfl, hs, q⟩ := h
  rcases hs with hs | hs
  · exact cr_sortedI pins s σ H _ us Q I r ⟨a, ns, rfl, hs, q⟩
  · obtain ⟨its, rv, tp, hz⟩ := I.tuple hs
    obtain ⟨u, rfl, ru⟩ := vals1 r
    obtain rfl : u = Value.ref a := ru
    refine sorted_intsU tp (by rw [← rv.length]; exact hz) rv.ints fun res ns' h1 h2 h3 => ?_
    obtain ⟨n, hn⟩ := sortedAll_at s.heap its res.toArray
    have len : (ns'.map V.int).length ≤ sizeLine := by
      rw [List.length_map, h2.length_eq, ← List.length_map (f := V.int)]
      exact hz
    exact ⟨.ref _, upd H (s.heap.objs.size + 1) (.lst (ns'.map V.int)), I.laid (t' := s.toks) (fun _ _ => sortedAll_old) (Nat.le_succ _) ⟨len, res, n, vals_of_ints h1, hn⟩, rfl, q ns' _ h2 h3 (I.hok.fresh (Nat.le_succ _))⟩
open Classical in
theorem cr_sortedPU : CallR X (.builtin "sorted") (rSortPU X.K) := by
  intro pins s σ H vs us Q I r h
  obtain ⟨a, zs, rfl, hs, hx, q⟩ := h
  obtain ⟨its, rv, hl, hz⟩ : ∃ its : List Value, Vals (zs.map (·.1)) its ∧ (s.heap.IsList a its.toArray ∨ IsTup s.heap a its.toArray) ∧ (zs.map (·.1)).length ≤ sizeLine := by
    rcases hs with h | h
    · obtain ⟨its, a, b, c⟩ := I.list h
      exact ⟨its, a, .inl b.isList, c⟩
    · obtain ⟨its, a, b, c⟩ := I.tuple h
      exact ⟨its, a, .inr b, c⟩
  obtain ⟨k, hk⟩ : ∃ k : V → Int × Int, ∀ z ∈ zs, k z.1 = z.2 := by
    refine ⟨fun x => if h : ∃ z ∈ zs, z.1 = x then h.choose.2 else (0, 0), fun z hz' => ?_⟩
    have ex : ∃ y ∈ zs, y.1 = z.1 := ⟨z, hz', rfl⟩
    simp only [dif_pos ex]
    obtain ⟨c1, c2⟩ := ex.choose_spec
    obtain ⟨t1, e1, s1⟩ := hx _ c1
    obtain ⟨t2, e2, s2⟩ := hx _ hz'
    have et : t1 = t2 := by
      rw [c2, e2] at e1
      exact (V.ref.inj e1).symm
    subst et
    have := I.tuple_inj s1 s2
    simp only [List.cons.injEq, V.int.injEq, and_true] at this
    exact Prod.ext this.1 this.2
  obtain ⟨u, rfl, ru⟩ := vals1 r
  obtain rfl : u = Value.ref a := ru
  obtain ⟨e1, e2⟩ := refs_back rv fun x m => by
    obtain ⟨z, hz', rfl⟩ := List.mem_map.mp m
    obtain ⟨t, e, _⟩ := hx z hz'
    exact ⟨t, e⟩
  refine sorted_pairsU (k := fun u => k (backV u)) hl (by rw [← rv.length]; exact hz) (fun v hv => ?_) fun res h1 h2 => ?_
  · obtain ⟨t, rfl⟩ := e2 v hv
    have hm : V.ref t ∈ zs.map (·.1) := by
      rw [e1]
      exact List.mem_map_of_mem (f := backV) hv
    obtain ⟨z, hz', ez⟩ := List.mem_map.mp hm
    obtain ⟨t', e, ht⟩ := hx z hz'
    rw [ez] at e
    cases e
    obtain ⟨its2, r2, tp, _⟩ := I.tuple ht
    obtain ⟨u1, u2, rfl, ri, rj⟩ := vals2 r2
    obtain ⟨t1, rfl⟩ := ri
    obtain ⟨t2, rfl⟩ := rj
    obtain ⟨o, ho, hc, n, hd⟩ := tp
    have kz := hk z hz'
    rw [ez] at kz
    show Srt.IsPair s.heap (Value.ref t) (k (.ref t)).1 (k (.ref t)).2
    rw [kz]
    exact ⟨t, o, t1, t2, n, rfl, ho, hc, hd⟩
  · have h3 : ∀ u ∈ res, ∃ a, u = Value.ref a := fun u hu => e2 u (h2.perm.mem_iff.mp hu)
    obtain ⟨n, hn⟩ := sortedAll_at s.heap its res.toArray
    have pm : (res.map backV).Perm (zs.map (·.1)) := by
      rw [e1]
      exact h2.perm.map backV
    have len : (res.map backV).length ≤ sizeLine := by
      rw [pm.length_eq]
      exact hz
    have ew : ((res.map backV).map fun x => (x, k x)).map (·.1) = res.map backV := by
      rw [List.map_map]
      exact List.map_id _
    have key := q ((res.map backV).map fun x => (x, k x)) (s.heap.objs.size + 1) (by
      have this := pm.map fun x => (x, k x)
      rw [List.map_map (l := zs)] at this
      have e : zs.map ((fun x => (x, k x)) ∘ fun x => x.1) = zs := by
        have : zs.map ((fun x => (x, k x)) ∘ fun x => x.1) = zs.map id := List.map_congr_left fun z hz' => Prod.ext rfl (hk z hz')
        rw [this, List.map_id]
      rwa [e] at this) (by
      rw [List.map_map]
      exact List.pairwise_map.mpr h1) (I.hok.fresh (Nat.le_succ _))
    rw [ew] at key
    exact ⟨.ref _, upd H (s.heap.objs.size + 1) (.lst (res.map backV)), I.laid (t' := s.toks) (fun _ _ => sortedAll_old) (Nat.le_succ _) ⟨len, res, n, vals_back h3, hn⟩, rfl, key⟩
end

theorem insP_perm (x : Int × Int) : ∀ l : List (Int × Int), (insP x l).Perm (x :: l)
  | [] => .refl _
  | y :: r => by
    unfold insP
    split
    · exact (List.Perm.cons y (insP_perm x r)).trans (List.Perm.swap x y r)
    · exact .refl _
theorem sortP_perm : ∀ l : List (Int × Int), (sortP l).Perm l
  | [] => .refl _
  | x :: r => (insP_perm x (sortP r)).trans (List.Perm.cons x (sortP_perm r))
theorem lexP_iff {p q : Int × Int} : lexP p q = true ↔ p.1 < q.1 ∨ (p.1 = q.1 ∧ p.2 < q.2) := by
  unfold lexP
  by_cases e : p.1 = q.1
  · rw [if_pos e, decide_eq_true_eq]
    omega
  · rw [if_neg e, decide_eq_true_eq]
    omega
theorem lexP_no {p q : Int × Int} : lexP p q = false ↔ ¬ (p.1 < q.1 ∨ (p.1 = q.1 ∧ p.2 < q.2)) := by
  rw [← lexP_iff]
  cases lexP p q <;> simp
theorem insP_sorted (x : Int × Int) : ∀ l : List (Int × Int), l.Pairwise (fun a b => lexP b a = false) → (insP x l).Pairwise (fun a b => lexP b a = false)
  | [], _ => List.pairwise_singleton _ _
  | y :: r, h => by
    obtain ⟨h1, h2⟩ := List.pairwise_cons.mp h
    unfold insP
    split
    · rename_i c
      have c := lexP_iff.mp c
      refine List.pairwise_cons.mpr ⟨fun z hz => ?_, insP_sorted x r h2⟩
      rcases List.mem_cons.mp ((insP_perm x r).mem_iff.mp hz) with e | e
      · subst e
        refine lexP_no.mpr ?_
        omega
      · exact h1 z e
    · rename_i c
      have c : lexP y x = false := by simpa using c
      refine List.pairwise_cons.mpr ⟨fun z hz => ?_, h⟩
      rcases List.mem_cons.mp hz with e | e
      · subst e
        exact c
      · have a := lexP_no.mp (h1 z e)
        have b := lexP_no.mp c
        refine lexP_no.mpr ?_
        omega
theorem sortP_sorted : ∀ l : List (Int × Int), (sortP l).Pairwise (fun a b => lexP b a = false)
  | [] => .nil
  | x :: r => insP_sorted x _ (sortP_sorted r)
theorem sortP_uniq : ∀ {a b : List (Int × Int)}, a.Perm b → a.Pairwise (fun x y => lexP y x = false) → b.Pairwise (fun x y => lexP y x = false) → a = b
  | [], b, h, _, _ => (List.Perm.eq_nil h.symm).symm
  | x :: r, [], h, _, _ => absurd h.length_eq (by simp)
  | x :: r, y :: t, h, ha, hb => by
    obtain ⟨a1, a2⟩ := List.pairwise_cons.mp ha
    obtain ⟨b1, b2⟩ := List.pairwise_cons.mp hb
    have e : x = y := by
      have h1 := h.mem_iff.mp (List.mem_cons_self (a := x) (l := r))
      have h2 := h.mem_iff.mpr (List.mem_cons_self (a := y) (l := t))
      rcases List.mem_cons.mp h1 with e | e
      · exact e
      · rcases List.mem_cons.mp h2 with e2 | e2
        · exact e2.symm
        · have p := lexP_no.mp (a1 y e2)
          have q := lexP_no.mp (b1 x e)
          apply Prod.ext <;> omega
    subst e
    rw [sortP_uniq h.cons_inv a2 b2]
section
variable {G : Gd}
theorem seq_of {K : PySem.W.Frag} {H : Hp} {m : List Addr} {M : Mem} {v : V} {d : D} {ys : List D} (mo : MemOk K H m M) (r : Rep K H m v d) (h : seqOf d M = some ys) : ∃ p vs, v = .ref p ∧ (SqL K H p vs ∨ SqT K H p vs) ∧ Reps K H m vs ys := by
  cases r with
  | @tup a vs ds hs rs => cases h; exact ⟨_, _, rfl, .inr hs, rs⟩
  | @loc a n hn =>
    unfold seqOf at h
    dsimp only at h
    split at h
    · rename_i xs e1
      cases h
      obtain ⟨vs, a1, r1⟩ := mo.ob _ _ _ hn e1
      exact ⟨_, _, rfl, .inl (.of a1), r1⟩
    · cases h
  | _ => cases h
theorem pairs_of {K : PySem.W.Frag} {H : Hp} {m : List Addr} : ∀ {vs : List V} {ds : List D} {ps : List (Int × Int)}, Reps K H m vs ds → pairsOf ds = some ps → ∃ zs : List (V × (Int × Int)), zs.map (·.1) = vs ∧ zs.map (·.2) = ps ∧ ∀ z ∈ zs, ∃ t, z.1 = V.ref t ∧ SqT K H t [.int z.2.1, .int z.2.2]
  | _, _, _, .nil, h => by
    cases h
    exact ⟨[], rfl, rfl, fun z hz => by cases hz⟩
  | v :: vs, _, _, .cons r t, h => by
    unfold pairsOf at h
    split at h
    · rename_i heq
      cases heq
    · rename_i a b rest heq
      injection heq with h1 h2
      subst h1 h2
      obtain ⟨ps, e, rfl⟩ := Option.map_eq_some_iff.mp h
      obtain ⟨zs, z1, z2, z3⟩ := pairs_of t e
      cases r with
      | @tup x us ds hs rs =>
        cases rs with
        | cons q1 q2 =>
          cases q2 with
          | cons q3 q4 =>
            cases q4
            cases q1
            cases q3
            refine ⟨(.ref x, (a, b)) :: zs, by rw [List.map_cons, z1], by rw [List.map_cons, z2], fun z hz => ?_⟩
            rcases List.mem_cons.mp hz with e | e
            · subst e
              exact ⟨x, rfl, hs⟩
            · exact z3 z e
    · cases h
theorem lexPB (p q : Int × Int) : lexP p q = lexB p q := rfl
theorem g_sortP : CallG G fSortP (rSortPU G.K) := by
  intro m H M vs ds Q E mo r h
  unfold fSortP at h
  split at h
  · obtain ⟨v, rfl, r1⟩ := r.one
    split at h
    · rename_i ps e
      obtain ⟨ys, e1, e2⟩ := Option.bind_eq_some_iff.mp e
      obtain ⟨p, ws, rfl, hs, rs⟩ := seq_of mo r1 e1
      obtain ⟨zs, z1, z2, z3⟩ := pairs_of rs e2
      refine ⟨p, zs, rfl, by rw [z1]; exact hs, z3, fun ws' q hp hsrt hq => ?_⟩
      have eq : ws'.map (·.2) = sortP ps := sortP_uniq ((hp.map (·.2)).trans (z2 ▸ (sortP_perm ps).symm)) (List.pairwise_map.mpr hsrt) (sortP_sorted ps)
      rw [← eq] at h
      have tu : ∀ z ∈ ws', ∃ t, z.1 = V.ref t ∧ SqT G.K H t [.int z.2.1, .int z.2.2] := fun z hz => z3 z (hp.mem_iff.mp hz)
      have st := Stp.alloc (m := m) (H := H) (u := .lst (ws'.map (·.1))) hq
      have rr : ∀ zs : List (V × (Int × Int)), (∀ z ∈ zs, ∃ t, z.1 = V.ref t ∧ SqT G.K H t [.int z.2.1, .int z.2.2]) → Reps G.K H m (zs.map (·.1)) ((zs.map (·.2)).map dpI) := by
        intro zs
        induction zs with
        | nil => intro _; exact .nil
        | cons z t ih =>
          intro hz
          obtain ⟨x, ex, sx⟩ := hz z (by simp)
          rw [List.map_cons, List.map_cons, List.map_cons, ex]
          exact .cons (.tup sx (.cons (.int _) (.cons (.int _) .nil))) (ih fun y hy => hz y (by simp [hy]))
      exact h _ _ _ st (mo.alloc hq ⟨_, upd_same, (rr ws' tu).car (st.car mo)⟩) (Rep.new mo)
    · exact h.elim
  · exact h.elim
theorem cr_sortedU {X : Cx} : CallR X (.builtin "sorted") (rSortU X.K) := fun pins s σ H vs us Q I r h => h.elim (fun h => cr_sortedIU pins s σ H vs us Q I r h) fun h => cr_sortedPU pins s σ H vs us Q I r h
theorem g_sortU : CallG G fSortU (rSortU G.K) := by
  intro m H M vs ds Q E mo r h
  unfold fSortU at h
  split at h
  · rename_i y
    split at h
    · rename_i xs e1
      split at h
      · rename_i ns e2
        obtain ⟨v, rfl, r1⟩ := r.one
        obtain ⟨p, ws, rfl, hs, rs⟩ := seq_of mo r1 e1
        have := ints_of rs e2
        subst this
        refine .inl ⟨p, ns, rfl, hs, fun ns' q hp hsrt hq => ?_⟩
        have : ns' = sortI ns := perm_sorted (hp.trans (sortI_perm ns).symm) hsrt (sortI_sorted ns)
        subst this
        exact h _ _ _ (Stp.alloc hq) (mo.alloc hq ⟨_, upd_same, ints_map _⟩) (Rep.new mo)
      · split at h
        · rename_i ps e3
          refine .inr (g_sortP m H M vs [y] Q E mo r ?_)
          unfold fSortP
          simp only [e1, Option.bind_some, e3]
          exact h
        · exact h.elim
    · exact h.elim
  · exact h.elim
end
end PV
namespace PV
open PySem PySem.Spec PyProof.Rows L2
theorem bb_sorted : bootBuiltins "sorted" = some (.builtin "sorted") := by decide +kernel
section
open PySem L2
theorem look_re {env : Env} : ∀ (names : List (Str × NameKind)) (x : Str), names.lookup x = some .cell ∨ names.lookup x = some .free →
    (names.map fun (n, k) => if (k == NameKind.free && env.scope.kind == .function && env.kindOf n == some .cell) then (n, NameKind.cell) else (n, k)).lookup x = some .cell ∨
    (names.map fun (n, k) => if (k == NameKind.free && env.scope.kind == .function && env.kindOf n == some .cell) then (n, NameKind.cell) else (n, k)).lookup x = some .free
  | [], _, h => by simp at h
  | (n, k) :: r, x, h => by
    have ih := look_re (env := env) r x
    rw [List.map_cons]
    cases hx : x == n with
    | true =>
      simp only [List.lookup_cons, hx] at h
      simp only []
      split
      · left
        simp [List.lookup_cons, hx]
      · simp only [List.lookup_cons, hx]
        exact h
    | false =>
      simp only [List.lookup_cons, hx] at h
      have := ih h
      simp only []
      split <;> (simp only [List.lookup_cons, hx]; exact this)
theorem blkOk_in {N : List Str} {sc scope : Scope} {own : List (Str × Nat)} {env : Env} (h : blkC N sc scope own = true) : BlkOk N (relabel sc env) scope own := by
  obtain ⟨a, b, c, d, e⟩ := blkOk_by h
  exact ⟨a, b, c, fun y hy z => look_re _ _ (d y hy z), e⟩
end
section
open PySem L2
variable {G : Gd} {X : Cx} {W : WX}
theorem dt_tru {e : Expr} {f : Xp} (hk : G.K = X.K) (h : DE G X W e f) (he : ∀ whole, isTrue e X.env whole = (do let v ← whole; standAt e.pos; holding [v] (truthy v)) := by intro _; rfl) : DT G X W e (bU f) :=
  PT.of (pt_truth h he) fun σ H Q q => by
    obtain ⟨m, e, M, si, q⟩ := q
    refine ⟨m, e, M, si, GOut.bind q fun dx M1 x H1 m1 s1 o1 r1 q1 => ?_⟩
    cases r1 with
    | bl b => exact ⟨b, rfl, GOut.ret (a := b) (M := M1) q1 o1 rfl⟩
    | @tup a vs ds s rs =>
      have e : (!vs.isEmpty) = !ds.isEmpty := by cases rs <;> rfl
      exact ⟨!ds.isEmpty, Or.inr (Or.inl ⟨vs, hk ▸ s, e.symm⟩), GOut.ret (a := !ds.isEmpty) (M := M1) q1 o1 rfl⟩
    | _ => exact q1.elim
end
end PV

set_option Elab.async false
set_option linter.all false
set_option maxRecDepth 100000

namespace PV
open PySem PySem.Spec PyProof.Rows L2
section
variable {prog : Program} {w : World} {A : Around} {E : Value → Shared → Prop} {s : Shared}
theorem rv_adj (n : Nat) : Builtin.Slice.sliceAdjust none none (-1) (n : Int) = ((n : Int) - 1, -1) := by
  simp [Builtin.Slice.sliceAdjust]
theorem rv_plc (n : Nat) : Builtin.Slice.slicePlaces ((n : Int) - 1) (-1) (-1) = n := by
  simp only [Builtin.Slice.slicePlaces]
  rw [if_neg (by decide)]
  split
  · have : ((n : Int) - 1 - -1 - 1) / - -1 = (n : Int) - 1 := by
      rw [Int.neg_neg, Int.ediv_one]
      omega
    rw [this]
    omega
  · omega
theorem rv_pick (xs : List Value) : ((List.range xs.length).filterMap fun m : Nat => xs[(((xs.length : Nat) : Int) - 1 + (m : Int) * (-1)).toNat]?) = xs.reverse := by
  have := congrArg (fun l : List (Option Value) => l.filterMap id) (show (List.range xs.length).map (fun m : Nat => xs[(((xs.length : Nat) : Int) - 1 + (m : Int) * (-1)).toNat]?) = xs.reverse.map some from by
    apply List.ext_getElem
    · simp
    · intro i h1 h2
      have hi : i < xs.length := by simpa using h1
      rw [List.getElem_map, List.getElem_map, List.getElem_range, List.getElem_reverse]
      have e : (((xs.length : Nat) : Int) - 1 + (i : Int) * (-1)).toNat = xs.length - 1 - i := by omega
      rw [e]
      exact List.getElem?_eq_getElem (by omega))
  simp only [List.filterMap_map] at this
  simpa [Function.comp_def] using this
theorem rv_app {a : Addr} {c : Value} {n : Nat} {Q : Int × Int × Nat → Shared → Prop} (ha : s.heap.IsSliceOf a .none .none c) (hc : IsPart c (some (-1))) (h : Q ((n : Int) - 1, -1, n) s) :
    wpAny (model prog w) A (Builtin.Slice.sliceApplied (.ref a) (pure (n : Int))) Q E s := by
  obtain ⟨o, ho, _, hd⟩ := id ha
  unfold Builtin.Slice.sliceApplied Builtin.Slice.sliceFields
  refine wpAny_bind (wpAny_bind ?_)
  refine wpAny_field ho hd (x := .none) rfl ?_
  refine wpAny_bind (wpAny_field ho hd (x := .none) rfl ?_)
  refine wpAny_bind (wpAny_field ho hd (x := c) rfl (wpAny_pure ?_))
  refine wpAny_bind (HT.slicePart_ hc ?_)
  show wpAny _ _ (if ((-1 : Int) == 0) = true then _ else _) _ _ s
  rw [if_neg (by decide)]
  refine wpAny_bind (slicePart_none ?_)
  refine wpAny_bind (slicePart_none ?_)
  refine wpAny_bind (wpAny_pure ?_)
  show wpAny _ _ (match Builtin.Slice.sliceAdjust none none (-1) (n : Int) with | (i, j) => pure (i, (-1 : Int), Builtin.Slice.slicePlaces i j (-1))) _ _ s
  rw [rv_adj]
  show wpAny _ _ (pure ((n : Int) - 1, (-1 : Int), Builtin.Slice.slicePlaces ((n : Int) - 1) (-1) (-1))) _ _ s
  rw [rv_plc]
  exact wpAny_pure h
theorem rv_get {t a : Addr} {c : Value} {xs : List Value} {Q : Value → Shared → Prop} (ht : IsTup s.heap t xs.toArray) (ha : s.heap.IsSliceOf a .none .none c) (hc : IsPart c (some (-1)))
    (h : Q (.ref s.heap.objs.size) { s with heap := s.heap.push { cls := .type "tuple", data := .seq xs.reverse.toArray } }) (hz : xs.length ≤ sizeLine) :
    wpAny (model prog w) A (getItem (.ref t) (.ref a)) Q E s := by
  have hs : sizeOk (.seq xs.reverse.toArray) := by
    show xs.reverse.toArray.size ≤ sizeLine
    rw [List.size_toArray, List.length_reverse]
    exact hz
  obtain ⟨o, ho, hk, _⟩ := id ha
  have hT : s.TypeIs (.ref a) "slice" := ⟨o, ho, hk⟩
  unfold getItem
  try with_reducible refine wpAny_holding ?_
  first
    | refine wpAny_bind (wpAny_pure ?_)
    | skip
  refine wpAny_bind (wpAny_sequenceKey ht.typeIs (by decide) ?_)
  have sg := PyProof.Rows.slot_tuple_getitem
  refine wpAny_bind (wpAny_callSpecial?_slot (name := Str.ofString "__getitem__") ht.typeIs sg ?_)
  refine wpAny_call_entry sg ht.typeIs entry_tuple_getitem ?_ (args_tuple_getitem _ _)
  show wpAny _ _ (Builtin.Tuple.tupleItemsOf (.ref t) >>= _) _ _ s
  refine wpAny_bind (tupleItemsOf_ ht ?_)
  refine wpAny_bind (wpAny_typeOf hT ?_)
  rw [if_pos (by decide)]
  have hn : xs.toArray.size = xs.length := List.size_toArray
  rw [hn]
  refine wpAny_bind (rv_app ha hc ?_)
  have no : ¬ ((((xs.length : Nat) : Int) - 1 == 0 && (-1 : Int) == 1 && xs.length == xs.length) = true) := by
    intro q
    rw [Bool.and_eq_true, Bool.and_eq_true] at q
    have : ((-1 : Int) == 1) = true := q.1.2
    exact absurd this (by decide)
  show wpAny _ _ (if (((xs.length : Nat) : Int) - 1 == 0 && (-1 : Int) == 1 && xs.length == xs.length) = true then _ else _) _ _ s
  rw [if_neg no]
  have pk : ((List.range xs.length).filterMap fun m : Nat => xs.toArray[(((xs.length : Nat) : Int) - 1 + (m : Int) * (-1)).toNat]?) = xs.reverse := by
    rw [← rv_pick xs]
    congr 1
    funext m
    simp
  rw [pk]
  first
    | exact wpAny_bind (m := Builtin.Tuple.tupleExact _) (wpAny_newObj_type (wpAny_pure ⟨_, rfl, wpAny_pure h⟩) hs)
    | exact wpAny_bind (wpAny_bind (m := Builtin.Tuple.tupleExact _) (wpAny_newObj_type (wpAny_pure ⟨_, rfl, wpAny_pure h⟩) hs))
end
section
variable {X : Cx}
def tRevU (K : PySem.W.Frag) (te : TE) : TE := fun σ H Q => te σ H fun x J => ∃ a xs, x = .ref a ∧ ((SqL K J a xs ∧ ∀ p, J p = none → Q (.ref p) (upd J p (.lst xs.reverse))) ∨ (SqT K J a xs ∧ ∀ p, J p = none → Q (.ref p) (upd J p (.tup xs.reverse))))
theorem pe_revU {e : Expr} {te : TE} {k : Nat} {p1 p2 p3 pos : Pos} (he : PE X e te) : PE X (.Subscript e (.Slice none none (some (.UnaryOp .USub (.Constant (.int 1) k p1) p2)) p3) pos) (tRevU X.K te) := by
  refine ⟨fun pins s σ H Q I h => ?_⟩
  refine Subscript_ (thn (he.run pins s σ H _ I h) fun v s1 ⟨y, J, I1, r1, q1⟩ => ?_)
  obtain ⟨a, xs, ey, q⟩ := q1
  subst ey
  cases r1
  have step : PO X (some (.UnaryOp .USub (.Constant (.int 1) k p1) p2)) (tPart (tUn (rU fun i => .int (-i)) (tC (.int 1)))) :=
    po_some (pe_un un_neg pe_int)
  refine wpAny_Slice (thn (po_none.run pins s1 σ J (fun o J2 => o = none ∧ J2 = J) I1 ⟨rfl, rfl⟩) fun v2 s2 ⟨o2, J2, I2, c2, eo2, ej2⟩ => ?_)
  subst eo2 ej2
  refine thn (po_none.run pins s2 σ J2 (fun o J3 => o = none ∧ J3 = J2) I2 ⟨rfl, rfl⟩) fun v3 s3 ⟨o3, J3, I3, c3, eo3, ej3⟩ => ?_
  subst eo3 ej3
  refine thn (step.run pins s3 σ J3 (fun o J4 => o = some (-1) ∧ J4 = J3) I3 ⟨1, rfl, -1, rfl, rfl, rfl⟩) fun v4 s4 ⟨o4, J4, I4, c4, eo4, ej4⟩ => ?_
  subst eo4 ej4
  cases c2
  cases c3
  have I5 : Inv X pins σ J4 { s4 with heap := s4.heap.push { cls := .type "slice", data := .fields #[.none, .none, v4] } } :=
    I4.kept (t' := s4.toks) fun b ob q => Heap.get?_push_of_some _ q
  show wpAny (model X.prog X.w) X.A (subscriptTail e (.Slice none none (some (.UnaryOp .USub (.Constant (.int 1) k p1) p2)) p3) (.ref a) (.ref s4.heap.objs.size)) (EP X pins σ Q) X.xe
    { s4 with heap := s4.heap.push { cls := .type "slice", data := .fields #[.none, .none, v4] } }
  have so := Heap.IsSliceOf.new s4.heap Value.none Value.none v4
  rcases q with ⟨hx, q⟩ | ⟨hx, q⟩
  · obtain ⟨its, r, ht, hz⟩ := I5.list hx
    have hn : its.toArray.size ≤ sizeLine := by
      rw [List.size_toArray, ← r.length]
      exact hz
    refine tail_any (ops := [.ref a, .ref s4.heap.objs.size]) ht.isList.typeIs (PySem.slot_list_getitem.lookup) ?_ (by with_unfolding_all rfl)
    refine wpAny_getItem_list_slice ht.isList so .none .none c4 (by decide) ?_ hn
    rw [PySem.W.krv_pick]
    refine ⟨.ref _, _, I5.laid (t' := s4.toks) (o := .lst xs.reverse) (fun b ob q => Heap.get?_push_of_some _ q) (Nat.le_refl _) ?_, rfl, q _ (I5.hok.fresh (Nat.le_refl _))⟩
    exact ⟨by rw [List.length_reverse]; exact hz, _, 0, r.reverse, Heap.get?_push_size _ rfl⟩
  · obtain ⟨its, r, ht, hz⟩ := I5.tuple hx
    have hn : its.length ≤ sizeLine := by
      rw [← r.length]
      exact hz
    refine tail_any (ops := [.ref a, .ref s4.heap.objs.size]) ht.typeIs PyProof.Rows.slot_tuple_getitem.lookup ?_ (by with_unfolding_all rfl)
    refine rv_get ht so c4 ?_ hn
    refine ⟨.ref _, _, I5.laid (t' := s4.toks) (o := .tup xs.reverse) (fun b ob q => Heap.get?_push_of_some _ q) (Nat.le_refl _) ?_, rfl, q _ (I5.hok.fresh (Nat.le_refl _))⟩
    exact ⟨by rw [List.length_reverse]; exact hz, _, r.reverse, IsTup.new _ _⟩
end
section
variable {G : Gd} {X : Cx} {W : WX}
theorem de_revU {e : Expr} {f : Xp} {k : Nat} {p1 p2 p3 pos : Pos} (hK : G.K = X.K) (he : DE G X W e f) : DE G X W (.Subscript e (.Slice none none (some (.UnaryOp .USub (.Constant (.int 1) k p1) p2)) p3) pos) (x1 oRevU f) := by
  refine PE.of (pe_revU he) fun σ H Q q => ?_
  rw [← hK]
  obtain ⟨m, r, M, si, q⟩ := q
  refine ⟨m, r, M, si, GOut.bind q fun dx M1 x H1 m1 s1 o1 r1 q1 => ?_⟩
  cases r1 with
  | @loc a n hn =>
    unfold oRevU at q1
    dsimp only at q1
    split at q1
    · rename_i xs e1
      obtain ⟨vs, a1, r⟩ := o1.ob _ _ _ hn e1
      exact ⟨a, vs, rfl, .inl ⟨.of a1, fun p hp => q1 _ _ _ (Stp.alloc hp) (o1.alloc hp ⟨_, upd_same, r.reverse.car ((Stp.alloc hp).car o1)⟩) (Rep.new o1)⟩⟩
    · exact q1.elim
  | @tup a vs ds s rs =>
    exact ⟨a, vs, rfl, .inr ⟨s, fun p hp => q1 _ _ _ (Stp.fresh hp) (o1.fresh hp) (.tup SqT.new (rs.reverse.car ((Stp.fresh hp).car o1)))⟩⟩
  | _ => exact q1.elim
end
end PV

set_option Elab.async false
set_option linter.all false
set_option maxRecDepth 100000
set_option maxHeartbeats 4000000

namespace PV
open PySem PySem.Spec PyProof.Rows L2
def rRepW (K : PySem.W.Frag) : R2 := fun x y H Q => ∃ a n one, x = .ref a ∧ y = .int n ∧ SqT K H a one ∧ one.length = 1 ∧ 2 ≤ n ∧ n ≤ 100000 ∧ ∀ b, H b = none → Q (.ref b) (upd H b (.tup (List.replicate n.toNat one).flatten))
section
variable {X : Cx}
theorem op_repW : OpR X (binaryOp .Mult) (rRepW X.K) := by
  intro pins st σ H x y v u Q inv rx ry hh
  obtain ⟨a, n, one, ex, ey, sq, l1, n1, n2, kq⟩ := hh
  subst ex
  subst ey
  cases rx
  obtain ⟨tk, hu⟩ := ry
  subst hu
  obtain ⟨vs, rc, obj, hsz⟩ := inv.tuple sq
  obtain ⟨⟨c, dd, dat, slt⟩, og, oc, m, od⟩ := obj
  simp only at oc od
  subst oc od
  have vl : vs.length = 1 := by rw [← rc.length]; exact l1
  have as : vs.toArray.size = 1 := by rw [List.size_toArray, vl]
  have ae : vs.toArray.isEmpty = false := by
    match vs, vl with
    | [z], _ => rfl
  have fl : (List.replicate n.toNat vs).flatten.length = n.toNat := by rw [PyProof.Rows.lm_len_rep_flat, vl, Nat.mul_one]
  have sl := sizeLine_eq
  have g0 : (decide (n < -(2 ^ 63)) || decide (n ≥ 2 ^ 63)) = false := Bool.or_eq_false_iff.mpr ⟨decide_eq_false (by omega), decide_eq_false (by omega)⟩
  have g1 : (vs.toArray.isEmpty || n == 1) = false := Bool.or_eq_false_iff.mpr ⟨ae, beq_eq_false_iff_ne.mpr (by omega)⟩
  have g2 : (decide (n ≤ 0) || vs.toArray.isEmpty) = false := Bool.or_eq_false_iff.mpr ⟨decide_eq_false (by omega), ae⟩
  have g3 : ¬ ((vs.toArray.size : Nat) : Int) * n > (2 ^ 63 - 1) / 8 := by rw [as]; omega
  have g4 : Builtin.Tuple.tupleTooMany (((vs.toArray.size : Nat) : Int) * n) = false := by
    unfold Builtin.Tuple.tupleTooMany
    rw [as, sl]
    exact decide_eq_false (by omega)
  have g5 : (List.foldl (fun p q => p ++ q) #[] (List.replicate n.toNat vs.toArray)).size ≤ sizeLine := by
    rw [size_rep, List.size_toArray, fl, sl]
    omega
  have inner := tuple_mulW a vs.toArray m dd slt n tk g0 g1 g2 g3 g4 g5
  have outer := int_rmul_tuple n tk a vs.toArray m dd slt
  refine wpAny_binaryOp_repeat_ref (T := "tuple") (U := "int") (by decide) ⟨_, og, rfl⟩ (fun z => typeIs_int z n tk) noFill_tuple_mul F.fills_int_mul F.slot_int_rmul repeat_tuple F.slot_int_index.lookup (call_meets F.slot_int_rmul (typeIs_int st n tk) F.entry_int_rmul (F.args_int_rmul_2 _ _) outer ⟨og, rfl, ⟨_, og, rfl⟩, ?_⟩)
  refine call_meets F.slot_tuple_mul ⟨_, og, rfl⟩ F.entry_tuple_mul (F.args_tuple_mul_2 _ _) inner ⟨og, ?_⟩
  rw [size_rep]
  have fin := inv.laid (t' := st.toks) (o := .tup (List.replicate n.toNat one).flatten) (fun b ob q => Heap.get?_push_of_some _ q) (Nat.le_refl _) ⟨by rw [PyProof.Rows.lm_len_rep_flat, l1, sl]; omega, _, rc.rep n.toNat, IsTup.new _ _⟩
  exact ⟨.ref st.heap.objs.size, _, fin, rfl, kq _ (inv.hok.fresh (Nat.le_refl _))⟩
theorem opR_repW {G : Gd} (hK : G.K = X.K) : OpR X (binaryOp .Mult) (rRepW G.K) := by
  rw [hK]
  exact op_repW
end
theorem o2_repW {G : Gd} : Op2 G oRepT (rRepW G.K) := by
  intro m H M x y dx dy Q E mo rx ry h
  cases rx with
  | @tup a vs ds hs r =>
    cases ry with
    | int k =>
      unfold oRepT at h
      dsimp only at h
      split at h
      · rename_i hz
        exact ⟨a, k, vs, rfl, rfl, hs, by rw [r.length]; exact hz.1, hz.2.1, hz.2.2, fun p hp => h _ _ _ (Stp.fresh hp) (mo.fresh hp) (.tup SqT.new ((r.rep k.toNat).car ((Stp.fresh hp).car mo)))⟩
      · exact h.elim
    | _ => exact h.elim
  | _ => cases ry <;> exact h.elim
section
variable {G : Gd} {X : Cx} {W : WX}
theorem dss_stk {st : List Stmt} : DSs G X W st sStk := ⟨fun pins s σ H D I h => by
  obtain ⟨m, r, M, si, q⟩ := h
  exact q.elim⟩
theorem ds_stk {st : Stmt} : DS G X W st sStk := ⟨fun pins s σ H D I h => by
  obtain ⟨m, r, M, si, q⟩ := h
  exact q.elim⟩
theorem de_stk {e : Expr} : DE G X W e xStk := ⟨fun pins s σ H D I h => by
  obtain ⟨m, r, M, si, q⟩ := h
  exact q.elim⟩
end
theorem o2_shlW {G : Gd} : Op2 G oShlW (rI CShl fun i j => .int (i * 2 ^ j.toNat)) := o2_int (g := fun i j => i * 2 ^ j.toNat) (fun i j M => by
  by_cases h : 0 ≤ j ∧ j ≤ 1000000 ∧ Builtin.Int.intBits i ≤ 1000000
  · exact .inr ⟨⟨h.1, by omega⟩, by simp only [oShlW, if_pos h]⟩
  · exact .inl (by simp only [oShlW, if_neg h])) (stk_of fun x y M => by cases x <;> cases y <;> simp [oShlW])
def KdOk (K : PySem.W.Frag) (w : World) (mg : Str → Option Value) (nm : Str) (kvs : List (Str × Int)) : Prop := ∃ a, mg nm = some (.ref a) ∧ ∀ p ∈ kvs, KDct K w a p.1 (.int p.2)
theorem lookup_in : ∀ {kvs : List (Str × Int)} {z : Str} {i : Int}, kvs.lookup z = some i → (z, i) ∈ kvs
  | (a, v) :: t, z, i, h => by
    rw [List.lookup_cons] at h
    split at h
    · rename_i e
      cases h
      have : z = a := by simpa using e
      subst this
      exact List.mem_cons_self
    · exact List.mem_cons_of_mem _ (lookup_in h)
section
variable {G : Gd} {X : Cx} {W : WX}
theorem de_kd {nm : Str} {kvs : List (Str × Int)} {b : Expr} {g : Xp} {p pos : Pos} (h : KdOk X.K X.w X.mg nm kvs) (hg : Gl X nm) (hb : DE G X W b g) (hs : PlainIx b := by exact fun _ _ => rfl) (hd : (nm == ("__debug__" : Str)) = false := by decide) : DE G X W (.Subscript (.Name nm p) b pos) (x1 (oKd kvs) g) := by
  obtain ⟨a, hm, hk⟩ := h
  refine PE.of (pe_ix (r := rIxD X.K X.w) ix_kdict (pe_glob (v := .ref a) hg hm rfl hd) hb hs) fun σ H Q q => ?_
  obtain ⟨m, r, M, si, q⟩ := q
  refine ⟨m, r, M, si, GOut.bind q fun dy M1 y H1 m1 s1 o1 r1 q1 => ?_⟩
  cases r1 with
  | str s =>
    unfold oKd at q1
    dsimp only at q1
    split at q1
    · rename_i i e
      exact ⟨a, s, .int i, rfl, rfl, hk _ (lookup_in e), GOut.ret q1 o1 (.int i)⟩
    · exact q1.elim
  | _ => exact q1.elim
end

theorem ext_list_tuple (l : Addr) (items : Array Value) (n : Nat) (b : Addr) (items2 : Array Value) (n2 : Nat) (dd : Option Addr) (sl : Array (Option Value)) (hs0 : ¬(!items.isEmpty && Builtin.List.listTooLong (items.size + items2.size)) = true) (hs1 : items.size ≤ sizeLine) (hs2 : items.size + items2.size ≤ sizeLine + 1) :
    Meets (Builtin.«list.extend» ⟨[.ref l, .ref b], []⟩) (fun _ R s => s.heap.get? l = some { cls := .type "list", dict := none, data := .seq items n, slots := #[] } ∧ s.heap.get? b = some { cls := .type "tuple", dict := dd, data := .seq items2 n2, slots := sl } ∧ R (.ok (.ret Value.none)) { s with heap := s.heap.update l (Obj.mapSeq fun x => x ++ items2), toks := s.toks }) :=
  .of_wp fun prog w A R s h => by
    obtain ⟨hp, g, d, tk, os⟩ := s
    obtain ⟨hl, hb, h⟩ := h
    have f1 := AutoSeq1.idx_int
    have f2 := AutoSeq1.sub_tuple_tuple
    have f3 := AutoSeq1.sub_list_list
    have f4 := AutoSeq1.sub_tuple_list
    have f5 := AutoSeq1.sub_list_tuple
    have hz' : (items ++ items2).size ≤ sizeLine + 1 := by rw [Array.size_append]; exact hs2
    wp_walk using (wpAny_updateSeq hl rfl (hz := hs1) (_hz' := hz')), wpAny_loadPart' hl, wpAny_loadPart' hb
    exact ⟨_, rfl, h⟩
def rExtendT (K : PySem.W.Frag) : V → List V → Hp → VK → Prop := fun x vs H Q => ∃ l b xs zs, x = .ref l ∧ vs = [.ref b] ∧ H l = some (.lst xs) ∧ SqT K H b zs ∧ xs.length + zs.length ≤ sizeLine ∧ Q .non (upd H l (.lst (xs ++ zs)))
section
variable {G : Gd} {X : Cx} {W : WX}
theorem mt_extendT : MtM X "list.extend" (rExtendT X.K) := by
  intro pins s σ H x vs v us Q I rx rv h
  obtain ⟨l, b, xs, zs, rfl, rfl, hH, hB, hz, q⟩ := h
  cases rx
  obtain ⟨u, rfl, ru⟩ := rv.one
  cases ru
  obtain ⟨z, its, n, r, hl, e⟩ := I.lstM hH
  obtain ⟨its2, r2, obj, hl2⟩ := I.tuple hB
  obtain ⟨⟨c, dd, dat, slt⟩, og, oc, n2, od⟩ := obj
  simp only at oc od
  subst oc od
  have e2l := r2.length
  have hsz : its.toArray.size + its2.toArray.size ≤ sizeLine := by rw [List.size_toArray, List.size_toArray]; omega
  have hlong : ¬ (!its.toArray.isEmpty && Builtin.List.listTooLong (its.toArray.size + its2.toArray.size)) = true := by
    rw [notLongL hsz, Bool.and_false]
    exact Bool.false_ne_true
  refine call_meets F.slot_list_extend ⟨_, e, rfl⟩ F.entry_list_extend (F.args_list_extend_2 _ _)
    (ext_list_tuple l its.toArray n b its2.toArray n2 dd slt hlong (by rw [List.size_toArray]; omega) (by omega)) ⟨e, og, ?_⟩
  refine ⟨.non, _, I.lset (its' := its ++ its2) hH e (by simp) (r.append r2) ?_, rfl, q⟩
  rw [List.length_append]
  omega
theorem o_extendT : ∀ (m : List Addr) (H : Hp) (M : Mem) (x y : V) (dx dy : D) (Q : VK) (E : XK), MemOk G.K H m M → Rep G.K H m x dx → Rep G.K H m y dy → GOut G (RD G) m H (mExtendT dx dy M) Q E → rExtendT G.K x [y] H Q := by
  intro m H M x y dx dy Q E mo rx ry h
  unfold mExtendT at h
  split at h
  · rename_i n zs
    cases rx with
    | @loc a _ hn =>
      cases ry with
      | @tup b ws _ hs r2 =>
        split at h
        · rename_i xs e1
          obtain ⟨vs, a1, r1⟩ := mo.ob _ _ _ hn e1
          split at h
          · rename_i hz
            refine ⟨a, b, vs, ws, rfl, rfl, a1, hs, by rw [r1.length, r2.length, ← szL]; exact hz, ?_⟩
            exact h _ _ _ (Stp.write hn) (mo.write hn ⟨_, upd_same, (r1.app r2).car ((Stp.write hn).car mo)⟩) .non
          · exact h.elim
        · exact h.elim
  · exact h.elim
theorem de_extendT {o e : Expr} {fo f : Xp} {ap cp : Pos} (hK : G.K = X.K) (ho : DE G X W o fo) (he : DE G X W e f)
    (hm : PE X (.Call (.Attribute o "extend" ap) [e] [] cp) (tBM X.K "list" (rExtendT G.K) (TD G W fo) (tCons (TD G W f) tNil))) : DE G X W (.Call (.Attribute o "extend" ap) [e] [] cp) (xLst1 mExtendT fo f) := de_meth1 (id := "list.extend") hK hm o_extendT
end
end PV

set_option Elab.async false
set_option linter.all false
set_option maxRecDepth 100000
set_option maxHeartbeats 4000000

namespace PV
open PySem PySem.Spec PyProof.Rows L2
structure WalkS (G : Gd) (J : It) (xs : List D) : Prop where
  go : ∀ (i : Nat) H, i < xs.length → J.go i H ∧ ∀ v H', J.yld i H v H' → H' = H ∧ ∃ d, xs[i]? = some d ∧ ∀ m, Rep G.K H m v d
  stop : ∀ H, J.stop xs.length H
abbrev RS (G : Gd) : Hp → List Addr → It → List D × Option Nat × List D → Prop := fun _ _ J p => WalkS G J p.1
def TIs (G : Gd) (W : WX) (it : Xi) : TI := fun σ H R => ∃ m r M, Sim G m H σ r M ∧ GOut G (RS G) m H (it r M) R fun c d H' => W c d σ H'
section
variable {G : Gd} {X : Cx} {W : WX}
theorem walk_rngS {lo : Int} {n : Nat} : WalkS G (Itr lo n) (upFrom lo n) where
  go := fun i H hi => by
    rw [upFrom_len] at hi
    refine ⟨hi, fun v H' y => ?_⟩
    obtain ⟨e, y⟩ := y
    subst e y
    exact ⟨rfl, _, upFrom_get n lo i hi, fun _ => .int _⟩
  stop := fun H => by
    rw [upFrom_len]
    exact Nat.le_refl n
theorem walk_rngS3 {lo c : Int} {n : Nat} : WalkS G (Itc lo c n) (stepFrom lo c n) where
  go := fun i H hi => by
    rw [stepFrom_len] at hi
    refine ⟨hi, fun v H' y => ?_⟩
    obtain ⟨e, y⟩ := y
    subst e y
    exact ⟨rfl, _, stepFrom_get n lo c i hi, fun _ => .int _⟩
  stop := fun H => by
    rw [stepFrom_len]
    exact Nat.le_refl n
theorem imp_range3 {t : Xa} (σ : Sl) (H : Hp) (R : It → Hp → Prop) (q : TIs G W (iRange3 t) σ H R) : iRng3 (TAr G W t) σ H R := by
  obtain ⟨m, r, M, si, q⟩ := q
  refine ⟨m, r, M, si, ?_⟩
  refine GOut.bind q fun ds M1 vs H1 m1 s1 o1 r1 q1 => ?_
  split at q1
  · rename_i i j c
    obtain ⟨v1, v2, v3, rfl, r1, r2, r3⟩ := r1.three
    cases r1
    cases r2
    cases r3
    split at q1
    · rename_i hz
      exact ⟨i, j, c, (Builtin.Range.rangeSize i j c).toNat, rfl, ⟨hz.1, hz.2.1, hz.2.2.1, (Int.toNat_of_nonneg hz.2.2.2).symm⟩, GOut.ret q1 o1 walk_rngS3⟩
    · exact q1.elim
  · exact q1.elim
end
section
variable {G : Gd} {X : Cx} {W : WX}
theorem Car.refl' {K : PySem.W.Frag} {H : Hp} {m : List Addr} : Car K H m H m := ⟨fun _ _ q => q, fun _ _ q => q, fun _ _ q => q⟩
theorem Car.comp {K : PySem.W.Frag} {H H1 H2 : Hp} {m m1 m2 : List Addr} (a : Car K H m H1 m1) (b : Car K H1 m1 H2 m2) : Car K H m H2 m2 :=
  ⟨fun x vs q => b.tup x vs (a.tup x vs q), fun x vs q => b.frz x vs (a.frz x vs q), fun n x q => b.at_ n x (a.at_ n x q)⟩
theorem lc2_of {wi wi1 : TI} {it it1 : Xi} {g g1 : TG} {t t1 : Tg} {f : Xp} {vs vs1 : List Nat} (imp : ∀ σ H R, TIt G W it σ H R → wi σ H R) (imp1 : ∀ σ H R, TIs G W0 it1 σ H R → wi1 σ H R) (hcg : CG G vs g t) (hcg1 : CG G vs1 g1 t1) (σ : Sl) (H : Hp) (Q : VK) (q : TD G W (xLc2 it t it1 t1 f vs vs1) σ H Q) :
    tLc2 wi g (TB G W0 bTrue) wi1 g1 (TB G W0 bTrue) (TD G W0 f) vs vs1 σ H Q := by
  obtain ⟨m, r, M, si, q⟩ := q
  refine imp σ H _ ⟨m, r, M, si, GOut.bind q fun p M1 J H1 m1 s1 o1 wk q1 => fun D hD => ?_⟩
  obtain ⟨xs, n, ys⟩ := p
  have wk : WalkI G J xs n ys m1 H1 := wk
  dsimp only at q1
  have si1 := si.later s1 o1
  have nD : D ∉ m1 := fun z => by
    obtain ⟨_, ob, _, _, w⟩ := o1.mem z
    rcases w.is with ⟨ws, z⟩ | ⟨kws, z⟩ | ⟨od, kws, z⟩ <;> rw [hD] at z <;> cases z
  split at q1
  · rename_i ds M2 e0
    split at q1
    · rename_i hz
      have inv : ∃ Inv : Nat → Nat → Hp → Prop, Inv = fun i k H' => ∃ (m' : List Addr) (M' : Mem) (acc : List V) (accD rest : List PV.D), Stp m1 H1 m' H' ∧ D ∉ m' ∧ H' D = some (.lst acc) ∧ MemOk G.K H' m' M' ∧ Reps G.K H' m' acc accD ∧
          lcL2 n ys t it1 t1 f vs1 (wipeE r vs) (xs.drop i) M' = .ok rest M2 ∧ accD ++ rest = ds ∧ k = xs.length - i ∧ i ≤ xs.length := ⟨_, rfl⟩
      obtain ⟨Inv, hInv⟩ := inv
      refine ⟨Inv, ⟨xs.length, ?_⟩, ?_⟩
      · rw [hInv]
        exact ⟨m1, M1, [], [], ds, Stp.fresh hD, nD, upd_same, o1.fresh hD, .nil, e0, rfl, rfl, Nat.zero_le _⟩
      · intro i k H' w
        rw [hInv] at w
        obtain ⟨m', M', acc, accD, rest, st, nD', eD, o', ra, el, ea, rfl, hi⟩ := w
        by_cases hlt : i < xs.length
        · have ed : xs.drop i = xs[i] :: xs.drop (i + 1) := List.drop_eq_getElem_cons hlt
          rw [ed] at el
          unfold lcL2 at el
          split at el
          · rename_i hst
            obtain ⟨g1', g2⟩ := wk.go i m' H' M' st o' hst hlt
            refine .inr ⟨g1', fun H'' => ∃ k', k' < xs.length - i ∧ Inv (i + 1) k' H'', fun H'' h => h, fun v H2 y => ?_⟩
            obtain ⟨y1, y2, d, y3, y4⟩ := g2 v H2 y
            have ed' : d = xs[i] := by
              rw [List.getElem?_eq_getElem hlt] at y3
              exact (Option.some.inj y3).symm
            subst ed'
            have eD2 : H2 D = some (.lst acc) := y1.oth D _ eD nD'
            split at el
            · rename_i r1 M3 et
              have siw : Sim G m' H2 (wipe σ vs) (wipeE r vs) M' := ⟨(si1.1.car ((st.trans y1).car si1.2)).wipe vs, y2⟩
              refine hcg v _ _ _ r1 M' M3 m' H2 _ siw y4 et fun σ1 sg wg => ⟨wg.trans (wipe_wipe σ vs), ?_⟩
              refine ⟨m', r1, M3, sg, fun b' H3 m3 s3 o3 eb => ?_⟩
              have eb : b' = true := eb
              subst eb
              dsimp only
              rw [if_pos rfl]
              have sg3 := sg.later s3 o3
              have nD3 : D ∉ m3 := fun z => (s3.new D z).elim nD' fun z => by rw [eD2] at z; cases z
              have eD3 : H3 D = some (.lst acc) := s3.oth D _ eD2 nD'
              split at el
              · rename_i p1 M4 ei
                refine imp1 σ1 H3 _ ⟨m3, r1, M3, sg3, ?_⟩
                rw [ei]
                intro J1 H4 m4 s4 o4 wk1
                obtain ⟨xs1, n1, ys1⟩ := p1
                have wk1 : WalkS G J1 xs1 := wk1
                dsimp only at el
                have nD4 : D ∉ m4 := fun z => (s4.new D z).elim nD3 fun z => by rw [eD3] at z; cases z
                have eD4 : H4 D = some (.lst acc) := s4.oth D _ eD3 nD3
                have sg4 := sg3.later s4 o4
                have st4 : Stp m1 H1 m4 H4 := ((st.trans y1).trans s3).trans s4
                have ra4 : Reps G.K H4 m4 acc accD := ((ra.car (y1.car o')).car (s3.car y2)).car (s4.car o3)
                split at el
                · rename_i dsi Mi einn
                  split at el
                  · rename_i es M6 er
                    cases el
                    have inv1 : ∃ Inv1 : Nat → Nat → Hp → Prop, Inv1 = fun j k H' => ∃ (m' : List Addr) (M' : Mem) (acc : List V) (accD rest : List PV.D), Stp m1 H1 m' H' ∧ D ∉ m' ∧ H' D = some (.lst acc) ∧ MemOk G.K H' m' M' ∧ Reps G.K H' m' acc accD ∧ Car G.K H4 m4 H' m' ∧
                        lcL n1 ys1 t1 bTrue f (wipeE r1 vs1) (xs1.drop j) M' = .ok rest Mi ∧ accD ++ (rest ++ es) = ds ∧ k = xs1.length - j ∧ j ≤ xs1.length := ⟨_, rfl⟩
                    obtain ⟨Inv1, hInv1⟩ := inv1
                    refine ⟨Inv1, ⟨xs1.length, ?_⟩, ?_⟩
                    · rw [hInv1]
                      exact ⟨m4, M4, acc, accD, dsi, st4, nD4, eD4, o4, ra4, Car.refl', einn, ea, rfl, Nat.zero_le _⟩
                    · intro j k5 H5 w5
                      rw [hInv1] at w5
                      obtain ⟨m5, M5, acc5, accD5, rest5, st5, nD5, eD5, o5, ra5, ca5, el5, ea5, rfl, hj⟩ := w5
                      by_cases hlt1 : j < xs1.length
                      · have ed1 : xs1.drop j = xs1[j] :: xs1.drop (j + 1) := List.drop_eq_getElem_cons hlt1
                        rw [ed1] at el5
                        unfold lcL at el5
                        split at el5
                        · obtain ⟨h1, h2⟩ := wk1.go j H5 hlt1
                          refine .inr ⟨h1, fun H'' => ∃ k', k' < xs1.length - j ∧ Inv1 (j + 1) k' H'', fun H'' h => h, fun v1 H6 y6 => ?_⟩
                          obtain ⟨rfl, d1, y7, y8⟩ := h2 v1 H6 y6
                          have ed1' : d1 = xs1[j] := by
                            rw [List.getElem?_eq_getElem hlt1] at y7
                            exact (Option.some.inj y7).symm
                          subst ed1'
                          split at el5
                          · rename_i r5 M7 et5
                            have siw5 : Sim G m5 H6 (wipe σ1 vs1) (wipeE r1 vs1) M5 := ⟨(sg4.1.car ca5).wipe vs1, o5⟩
                            refine hcg1 v1 _ _ _ r5 M5 M7 m5 H6 _ siw5 (y8 m5) et5 fun σ3 sg5 wg5 => ⟨wg5.trans (wipe_wipe σ1 vs1), ?_⟩
                            refine ⟨m5, r5, M7, sg5, fun b' H7 m7 s7 o7 eb => ?_⟩
                            have eb : b' = true := eb
                            subst eb
                            dsimp only
                            rw [if_pos rfl]
                            have eD7 : H7 D = some (.lst acc5) := s7.oth D _ eD5 nD5
                            have nD7 : D ∉ m7 := fun z => (s7.new D z).elim nD5 fun z => by rw [eD5] at z; cases z
                            have bt : bTrue r5 M7 = .ok true M7 := rfl
                            rw [bt] at el5
                            simp only [if_true] at el5
                            split at el5
                            · rename_i dd M8 ef
                              refine ⟨m7, r5, M7, sg5.later s7 o7, ?_⟩
                              rw [ef]
                              intro yv H8 m8 s8 o8 ry
                              split at el5
                              · rename_i rest' M9 er5
                                cases el5
                                have nD8 : D ∉ m8 := fun z => (s8.new D z).elim nD7 fun z => by rw [eD7] at z; cases z
                                have eD8 : H8 D = some (.lst acc5) := s8.oth D _ eD7 nD7
                                have c1 : Car G.K H6 m5 H7 m7 := s7.car sg5.2
                                have c2 : Car G.K H7 m7 H8 m8 := s8.car o7
                                have ra8 : Reps G.K H8 m8 acc5 accD5 := (ra5.car c1).car c2
                                have st8 : Stp m1 H1 m8 H8 := (st5.trans s7).trans s8
                                have lt : acc5.length < sizeLine := by
                                  rw [← szL, ra8.length]
                                  have := congrArg List.length ea5
                                  rw [List.length_append, List.length_append, List.length_cons] at this
                                  omega
                                refine ⟨acc5, eD8, lt, xs1.length - (j + 1), by omega, ?_⟩
                                rw [hInv1]
                                refine ⟨m8, M8, acc5 ++ [yv], accD5 ++ [dd], rest', ⟨st8.more, fun a o z1 z2 => ?_, st8.new⟩, nD8, upd_same, o8.aside nD8 eD8, (ra8.app (.cons ry .nil)).car (car_aside nD8 eD8), ((ca5.comp c1).comp c2).comp (car_aside nD8 eD8), er5, by rw [List.append_assoc]; exact ea5, rfl, hlt1⟩
                                rw [upd_ne fun z => by rw [z, hD] at z1; cases z1]
                                exact st8.oth a o z1 z2
                              · cases el5
                            · cases el5
                          · cases el5
                        · cases el5
                      · have e : j = xs1.length := by omega
                        subst e
                        rw [List.drop_length] at el5
                        unfold lcL at el5
                        split at el5
                        · cases el5
                          rw [List.nil_append] at ea5
                          refine .inl ⟨wk1.stop H5, xs.length - (i + 1), by omega, ?_⟩
                          rw [hInv]
                          exact ⟨m5, Mi, acc5, accD5, es, st5, nD5, eD5, o5, ra5, er, ea5, rfl, hlt⟩
                        · cases el5
                  · cases el
                · cases el
              · cases el
            · cases el
          · cases el
        · have e : i = xs.length := by omega
          subst e
          rw [List.drop_length] at el
          unfold lcL2 at el
          split at el
          · rename_i hst
            cases el
            rw [List.append_nil] at ea
            subst ea
            refine .inl ⟨wk.stop m' H' _ st o' hst, ?_⟩
            obtain ⟨nn, en⟩ := st.more
            refine q1 (.ref D) H' (m' ++ [D]) ⟨⟨nn ++ [D], by rw [en, List.append_assoc]⟩, st.oth, fun a ha => ?_⟩ (o'.adopt nD' eD ra) (.loc ?_)
            · rcases List.mem_append.mp ha with ha | ha
              · exact st.new a ha
              · rw [List.mem_singleton.mp ha]
                exact .inr hD
            · rw [← o'.len, List.getElem?_append_right (Nat.le_refl _), Nat.sub_self]
              rfl
          · cases el
    · exact q1.elim
  · exact q1.elim
theorem de_lc2 {elt tg iter tg1 iter1 : Expr} {scope : Scope} {own : List (Str × Nat)} {vs1 : List Nat} {pos : Pos} {it it1 : Xi} {g g1 : TG} {t t1 : Tg} {f : Xp} {wi1 : TI} (hc : X.calm = true) (hN : X.N.Nodup) (hi : DI G X W tg iter it) (ok : BlkOk X.N X.env.scope scope own) (hv : ∀ i ∈ vs1, i ∈ own.map (·.2))
    (hcg : CG G (own.map (·.2)) g t) (hcg1 : CG G vs1 g1 t1)
    (hg : ∀ (s : Shared) (H : Hp) (C : Addr) (cl : List (Str × Addr)) (fp : List Addr), PG (X.blk s H scope (compEnvC scope cl C X.env) fp) tg g)
    (hi1 : ∀ (s : Shared) (H : Hp) (C : Addr) (cl : List (Str × Addr)) (fp : List Addr), PI (X.blk s H scope (compEnvC scope cl C X.env) fp) tg1 iter1 wi1) (hi2 : ∀ σ H R, TIs G W0 it1 σ H R → wi1 σ H R)
    (hg1 : ∀ (s : Shared) (H : Hp) (C : Addr) (cl : List (Str × Addr)) (fp : List Addr), PG (X.blk s H scope (compEnvC scope cl C X.env) fp) tg1 g1)
    (he : ∀ (s : Shared) (H : Hp) (C : Addr) (cl : List (Str × Addr)) (fp : List Addr), DE G (X.blk s H scope (compEnvC scope cl C X.env) fp) W0 elt f) (hs : ∀ x, foldedSetIterable iter X.env x = pure x := by intro _; rfl) (hs1 : ∀ env x, foldedSetIterable iter1 env x = pure x := by intro _ _; rfl) :
    DE G X W (.ListComp elt [⟨tg, iter, [], 0⟩, ⟨tg1, iter1, [], 0⟩] scope pos) (xLc2 it t it1 t1 f (own.map (·.2)) vs1) := by
  obtain ⟨wi, h1, h2⟩ := hi.ex
  have nilT : ∀ Y : Cx, PTs Y [] (TB G W0 bTrue) := fun Y => pts_nil'
  exact PE.of (pe_lc2 hc hN h1 ok hv hg (fun s H C cl fp => nilT _) hi1 hg1 (fun s H C cl fp => nilT _) he hs hs1) (lc2_of h2 hi2 hcg hcg1)
end
end PV

set_option Elab.async false
set_option linter.all false
set_option maxRecDepth 100000
set_option maxHeartbeats 2000000

namespace PV
open PySem PySem.Spec PyProof.Rows L2 SrtO
section
variable {prog : Program} {w : World} {A : Around} {E : Value → Shared → Prop} {s : Shared}
theorem sorted_tupS {κ : PyProof.Rows.KeyKind} {p : Addr} {us : List Value} {R : Value → Shared → Prop} (tp : IsTup s.heap p us.toArray) (lim : us.length ≤ sizeLine)
    (S : PySem.W.SortsAt prog w A.in1.in1 { s with heap := PySem.W.sortingHeap (PySem.W.copyHeap s.heap us) (s.heap.objs.size + 1) us } κ us)
    (fin : R (.ref (s.heap.objs.size + 1)) { s with heap := sortedAll s.heap us (PySem.W.sortVals κ false us us).toArray }) : wpAny (model prog w) A (call (.builtin "sorted") [.ref p]) R E s := by
  obtain ⟨G, hG⟩ : ∃ G, G = (s.heap.push (seqObj "list" #[] 0)).update s.heap.objs.size (Obj.mapSeq fun x => x ++ us.toArray) := ⟨_, rfl⟩
  have sz : G.objs.size = s.heap.objs.size + 1 := by
    rw [hG, Heap.size_update]
    exact size_push' _ _
  apply Calls.call_function_entry kind_sorted plain_sorted entry_sorted (args_sorted1 _)
  unfold Builtin.«sorted»
  apply wpAny_bind (m := checkCount "sorted" 1 1 _)
  apply wpAny_pure
  apply wpAny_bind
  refine collect_tupAt tp lim ?_
  apply wpAny_bind
  refine wpAny_newList ?_ lim
  rw [← hG]
  show wpAny _ _ _ _ _ { s with heap := G.push (seqObj "list" us.toArray 0) }
  rw [sz]
  apply wpAny_bind
  apply wpAny_holding
  have at1 : (PySem.W.copyHeap s.heap us).get? (s.heap.objs.size + 1) = some (seqObj "list" us.toArray 0) := PySem.W.copyHeap_at s.heap us
  have hc : G.push (seqObj "list" us.toArray 0) = PySem.W.copyHeap s.heap us := by
    rw [hG]
    rfl
  rw [hc]
  refine wpAny_call_entry slot_list_sort ⟨_, at1, rfl⟩ entry_list_sort ?_ (args_list_sort _)
  refine PySem.W.list_sort_vals (s := { s with heap := PySem.W.copyHeap s.heap us }) at1 S lim ⟨_, rfl, ?_⟩
  exact wpAny_pure ⟨_, rfl, fin⟩
end
def rSortX (K : PySem.W.Frag) : List V → Hp → VK → Prop := fun vs H Q => ∃ (a : Addr) (xs : List V) (ps : List PyData), vs = [V.ref a] ∧ (SqL K H a xs ∨ SqT K H a xs) ∧ DpAll K H xs ps ∧ okSortX ps ∧
  ∀ (p : Addr), H p = none → Q (.ref p) (upd H p (.lst (((xs.zip ps).mergeSort (PySem.W.dataLe false (fun b => b.2))).map (fun b => b.1))))
theorem dpAll_len {K : PySem.W.Frag} {H : Hp} : ∀ {xs : List V} {ps : List PyData}, DpAll K H xs ps → xs.length = ps.length
  | _, _, .nil => rfl
  | _, _, .cons _ t => by rw [List.length_cons, List.length_cons, dpAll_len t]
theorem zipX_snd {α β : Type} : ∀ {xs : List α} {ps : List β}, xs.length = ps.length → (xs.zip ps).map (fun b => b.2) = ps
  | [], [], _ => rfl
  | x :: xs, p :: ps, h => by
    rw [List.zip_cons_cons, List.map_cons, zipX_snd (by simpa using h)]
  | [], _ :: _, h => by simp at h
  | _ :: _, [], h => by simp at h
theorem zipX_fst {α β : Type} : ∀ {xs : List α} {ps : List β}, xs.length = ps.length → (xs.zip ps).map (fun b => b.1) = xs
  | [], [], _ => rfl
  | x :: xs, p :: ps, h => by
    rw [List.zip_cons_cons, List.map_cons, zipX_fst (by simpa using h)]
  | [], _ :: _, h => by simp at h
  | _ :: _, [], h => by simp at h
theorem each_zip : ∀ {us : List Value} {xs : List V} {ps : List PyData}, Vals xs us → xs.length = ps.length → PySem.W.EachIs (fun u b => RelV b.1 u) us (xs.zip ps)
  | _, _, _, .nil, h => by
    show PySem.W.EachIs _ [] []
    exact .nil
  | _, _, [], .cons r t, h => by simp at h
  | _, _, p :: ps, .cons r t, h => .cons r (each_zip t (by simpa using h))
theorem vals_each : ∀ {us : List Value} {bs : List (V × PyData)}, PySem.W.EachIs (fun u b => RelV b.1 u) us bs → Vals (bs.map fun b => b.1) us
  | _, _, .nil => .nil
  | _, _, .cons r t => .cons r (vals_each t)
section
variable {X : Cx}
theorem cr_sortX {k : Nat} (hr : Room k X.A) : CallR X (.builtin "sorted") (rSortX X.K) := by
  intro pins s σ H vs us Q I r h
  obtain ⟨a, xs, ps, rfl, hs, hd, ok, q⟩ := h
  obtain ⟨its, rv, hl, hz⟩ : ∃ its : List Value, Vals xs its ∧ (s.heap.IsList a its.toArray ∨ IsTup s.heap a its.toArray) ∧ xs.length ≤ sizeLine := by
    rcases hs with h | h
    · obtain ⟨its, a, b, c⟩ := I.list h
      exact ⟨its, a, .inl b.isList, c⟩
    · obtain ⟨its, a, b, c⟩ := I.tuple h
      exact ⟨its, a, .inr b, c⟩
  obtain ⟨u, rfl, ru⟩ := vals1 r
  obtain rfl : u = Value.ref a := ru
  have ln := dpAll_len hd
  have lim : its.length ≤ sizeLine := by rw [← rv.length]; exact hz
  have zs := zipX_snd ln
  have e := each_zip rv ln
  obtain ⟨as, ra⟩ := Dp.readsAll I ps xs its hd rv
  have er : PySem.W.EachIs (fun v (b : V × PyData) => ∃ as, Reads s.heap v b.2 as) its (xs.zip ps) := PySem.W.readsAll_each (fun b : V × PyData => b.2) (by rw [zs]; exact ra)
  have hal : PySem.W.AllAlike ((xs.zip ps).map fun b => b.2) := by rw [zs]; exact ok.1
  have hk : PySem.W.Sortable ((xs.zip ps).map fun b => b.2) := by rw [zs]; exact ok.2.1
  have un := hr.un
  have hu : ∀ b ∈ xs.zip ps, X.A.units + 2 + b.2.depth < cLine := fun b hb => by
    have : b.2 ∈ ps := by
      rw [← zs]
      exact List.mem_map_of_mem (f := fun b : V × PyData => b.2) hb
    have := ok.2.2 _ this
    omega
  have hL : (xs.zip ps).length ≤ sizeLine := by
    have := congrArg List.length zs
    rw [List.length_map] at this
    omega
  have fin : ∀ out : List Value, out.length = (xs.zip ps).length → PySem.W.EachIs (fun u b => RelV b.1 u) out ((xs.zip ps).mergeSort (PySem.W.dataLe false fun b => b.2)) → EP X pins σ Q (.ref (s.heap.objs.size + 1)) { s with heap := sortedAll s.heap its out.toArray } := by
    intro out ol oe
    obtain ⟨n, hn⟩ := sortedAll_at s.heap its out.toArray
    have vo := vals_each oe
    have len : (((xs.zip ps).mergeSort (PySem.W.dataLe false fun b => b.2)).map fun b => b.1).length ≤ sizeLine := by
      rw [vo.length, ol]
      exact hL
    exact ⟨.ref _, upd H (s.heap.objs.size + 1) (.lst (((xs.zip ps).mergeSort (PySem.W.dataLe false fun b => b.2)).map fun b => b.1)), I.laid (t' := s.toks) (fun _ _ => sortedAll_old) (Nat.le_succ _) ⟨len, out, n, vo, hn⟩, rfl, q _ (I.hok.fresh (Nat.le_succ _))⟩
  rcases hl with l | t
  · exact PySem.W.sorted_data l e er hal hk hL hu fin
  · have er' : PySem.W.EachIs (fun v (b : V × PyData) => ∃ as, Reads (PySem.W.sortingHeap (PySem.W.copyHeap s.heap its) (s.heap.objs.size + 1) its) v b.2 as) its (xs.zip ps) := er.mono fun _ _ ⟨as, r⟩ => ⟨as, PyProof.Rows.Reads.keeps (fun _ _ => PySem.W.sorting_copy_old) r⟩
    exact sorted_tupS t lim (PySem.W.SortsAt.data (s := { s with heap := PySem.W.sortingHeap (PySem.W.copyHeap s.heap its) (s.heap.objs.size + 1) its }) (PySem.W.each_map (R := fun v d => ∃ as, Reads (PySem.W.sortingHeap (PySem.W.copyHeap s.heap its) (s.heap.objs.size + 1) its) v d as) (fun b : V × PyData => b.2) er') hal hk (PySem.W.bound_map hu))
      (fin _ (by rw [PySem.W.sortVals_length false rfl]; exact e.length) (PySem.W.sortVals_data false e er' hal))
end
section
variable {G : Gd}
abbrev T3 : Type := V × (D × PyData)
theorem reps_tri {K : PySem.W.Frag} {H : Hp} {m : List Addr} : ∀ {zs : List T3}, (∀ z ∈ zs, Rep K H m z.1 z.2.1) → Reps K H m (zs.map fun z => z.1) (zs.map fun z => z.2.1)
  | [], _ => .nil
  | z :: t, h => .cons (h z List.mem_cons_self) (reps_tri fun y hy => h y (List.mem_cons_of_mem _ hy))
theorem tri_of {K : PySem.W.Frag} {H : Hp} {m : List Addr} : ∀ {vs : List V} {ys : List D} {ps : List PyData}, Reps K H m vs ys → ys.length = ps.length → ∃ zs : List T3, (∀ z ∈ zs, Rep K H m z.1 z.2.1) ∧ zs.map (fun z => (z.1, z.2.2)) = vs.zip ps ∧ zs.map (fun z => z.2) = ys.zip ps
  | _, _, [], .nil, _ => ⟨[], fun z hz => (by cases hz), rfl, rfl⟩
  | _, _, _ :: _, .nil, h => by simp at h
  | _, _, [], .cons r t, h => by simp at h
  | v :: vs, y :: ys, p :: ps, .cons r t, h => by
    obtain ⟨zs, h1, h2, h3⟩ := tri_of t (by simpa using h)
    refine ⟨(v, (y, p)) :: zs, fun z hz => ?_, by rw [List.map_cons, h2, List.zip_cons_cons], by rw [List.map_cons, h3, List.zip_cons_cons]⟩
    rcases List.mem_cons.mp hz with e | e
    · rw [e]
      exact r
    · exact h1 z e
theorem mapM_len {M : Mem} {k : Nat} : ∀ {ys : List D} {ps : List PyData}, ys.mapM (toPy M k) = some ps → ys.length = ps.length
  | [], ps, h => by
    rw [List.mapM_nil] at h
    have := Option.some.inj h
    rw [← this]
    rfl
  | y :: ys, ps, h => by
    rw [List.mapM_cons] at h
    obtain ⟨p, e1, h2⟩ := Option.bind_eq_some_iff.mp h
    obtain ⟨qs, e2, h3⟩ := Option.bind_eq_some_iff.mp h2
    have := Option.some.inj h3
    rw [← this, List.length_cons, List.length_cons, mapM_len e2]
theorem g_sortX : CallG G fSortX (rSortX G.K) := by
  intro m H M vs ds Q E mo r h
  unfold fSortX at h
  split at h
  · obtain ⟨v, rfl, r1⟩ := r.one
    split at h
    · rename_i ys e1
      split at h
      · rename_i ps e2
        obtain ⟨p, ws, rfl, hs, rs⟩ := seq_of mo r1 e1
        by_cases ok : okSortX ps
        · rw [if_pos ok] at h
          refine ⟨p, ws, ps, rfl, hs, dpAll_of mo _ _ _ _ rs e2, ok, fun q hq => ?_⟩
          obtain ⟨zs, z1, z2, z3⟩ := tri_of rs (mapM_len e2)
          have m1 := List.map_mergeSort (r := PySem.W.dataLe false (fun z : T3 => z.2.2)) (s := PySem.W.dataLe false (fun b : V × PyData => b.2)) (f := fun z : T3 => (z.1, z.2.2)) (l := zs) (fun _ _ _ _ => rfl)
          have m2 := List.map_mergeSort (r := PySem.W.dataLe false (fun z : T3 => z.2.2)) (s := PySem.W.dataLe false (fun b : D × PyData => b.2)) (f := fun z : T3 => z.2) (l := zs) (fun _ _ _ _ => rfl)
          rw [z2] at m1
          rw [z3] at m2
          have st := Stp.alloc (m := m) (H := H) (u := .lst (((ws.zip ps).mergeSort (PySem.W.dataLe false fun b => b.2)).map fun b => b.1)) hq
          unfold sortX at h
          rw [← m2, List.map_map] at h
          rw [← m1, List.map_map] at st ⊢
          have rr := reps_tri (K := G.K) (H := H) (m := m) (zs := zs.mergeSort (PySem.W.dataLe false fun z => z.2.2)) (fun z hz => z1 z (List.mem_mergeSort.mp hz))
          exact h _ _ _ st (mo.alloc hq ⟨_, upd_same, rr.car (st.car mo)⟩) (Rep.new mo)
        · rw [if_neg ok] at h
          exact h.elim
      · exact h.elim
    · exact h.elim
  · exact h.elim
theorem keys_of : ∀ {kvs : List (Sum Int Str × D)} {ks : List Int}, keysI kvs = some ks → kvs.map (·.1) = ks.map Sum.inl
  | [], ks, h => by
    have := Option.some.inj h
    rw [← this]
    rfl
  | (.inl i, d) :: r, ks, h => by
    unfold keysI at h
    obtain ⟨t, e, rfl⟩ := Option.map_eq_some_iff.mp h
    rw [List.map_cons, keys_of e, List.map_cons]
  | (.inr s, d) :: r, ks, h => by cases h
theorem g_sortK : CallG G fSortK (fun xs H Q => ∃ (a : Addr) (kvs : List (L2.Key × V)) (ks : List Int), xs = [.ref a] ∧ Rd H a (.dK kvs) ∧ kvs.map (·.1) = ks.map Sum.inl ∧ ks.length < 64 ∧
    ∀ (ys : List Int) (p : Addr), ys.Perm ks → ys.Pairwise (· ≤ ·) → H p = none → Q (.ref p) (upd H p (.lst (ys.map V.int)))) := by
  intro m H M vs ds Q E mo r h
  unfold fSortK at h
  split at h
  · rename_i n
    obtain ⟨v, rfl, r1⟩ := r.one
    cases r1 with
    | @loc a _ hn =>
      split at h
      · rename_i kvs e1
        split at h
        · rename_i ks e2
          split at h
          · rename_i hl
            obtain ⟨kws, a1, a2, a3⟩ := mo.ob _ _ _ hn e1
            refine ⟨a, kws, ks, rfl, .inl a1, by rw [a2]; exact keys_of e2, hl, fun ns' q hp hsrt hq => ?_⟩
            have : ns' = sortI ks := perm_sorted (hp.trans (sortI_perm ks).symm) hsrt (sortI_sorted ks)
            subst this
            exact h _ _ _ (Stp.alloc hq) (mo.alloc hq ⟨_, upd_same, ints_map _⟩) (Rep.new mo)
          · exact h.elim
        · exact h.elim
      · exact h.elim
  · exact h.elim
end
end PV

set_option Elab.async false
set_option linter.all false
set_option maxRecDepth 100000
set_option maxHeartbeats 2000000

namespace PV
open PySem PySem.Spec PyProof.Rows L2
structure WalkK (G : Gd) (J : It) (xs : List D) (S : Mem → Prop) (m0 : List Addr) (H0 : Hp) : Prop where
  go : ∀ (i : Nat) m1 H1 M1, Stp m0 H0 m1 H1 → MemOk G.K H1 m1 M1 → S M1 → i < xs.length → J.go i H1 ∧ ∀ v H', J.yld i H1 v H' → Stp m1 H1 m1 H' ∧ MemOk G.K H' m1 M1 ∧ ∃ d, xs[i]? = some d ∧ Rep G.K H' m1 v d
  stop : ∀ m1 H1 M1, Stp m0 H0 m1 H1 → MemOk G.K H1 m1 M1 → S M1 → J.stop xs.length H1
section
variable {G : Gd} {X : Cx} {W : WX}
theorem lcK_of {g : TG} {t : Tg} {c : Xb} {f : Xp} {vs : List Nat} (hcg : CG G vs g t) {J : It} {xs : List PV.D} {S : Mem → Prop} {m1 : List Addr} {H1 : Hp} {M1 : Mem} {σ : Sl} {r : Ev} (si1 : Sim G m1 H1 σ r M1) (wk : WalkK G J xs S m1 H1) {ds : List PV.D} {M2 : Mem} (e0 : lcLS S t c f (wipeE r vs) xs M1 = .ok ds M2) (hz : ds.length ≤ SZ) (Q : VK)
    (q1 : ∀ b H' m', Stp m1 H1 m' H' → MemOk G.K H' m' (M2 ++ [.lst ds]) → Rep G.K H' m' b (.loc M2.length) → Q b H') (D : Addr) (hD : H1 D = none) :
    ∃ W : Nat → Nat → Hp → Prop, (∃ m, W 0 m (upd H1 D (.lst []))) ∧ ∀ i m H, W i m H →
      (J.stop i H ∧ Q (.ref D) H) ∨ (J.go i H ∧ ∃ Nx : Hp → Prop, (∀ H', Nx H' → ∃ m', m' < m ∧ W (i + 1) m' H') ∧ ∀ x H', J.yld i H x H' → g x (wipe σ vs) H' fun σ2 H2 => wipe σ2 vs = wipe σ vs ∧ (TB G W0 c) σ2 H2 fun b H3 =>
        if b = true then (TD G W0 f) σ2 H3 fun y H4 => ∃ acc, H4 D = some (.lst acc) ∧ acc.length < sizeLine ∧ Nx (upd H4 D (.lst (acc ++ [y]))) else Nx H3) := by
  have o1 := si1.2
  have nD : D ∉ m1 := fun z => by
    obtain ⟨_, ob, _, _, w⟩ := o1.mem z
    rcases w.is with ⟨ws, z⟩ | ⟨kws, z⟩ | ⟨od, kws, z⟩ <;> rw [hD] at z <;> cases z
  have inv : ∃ Inv : Nat → Nat → Hp → Prop, Inv = fun i k H' => ∃ (m' : List Addr) (M' : Mem) (acc : List V) (accD rest : List PV.D), Stp m1 H1 m' H' ∧ D ∉ m' ∧ H' D = some (.lst acc) ∧ MemOk G.K H' m' M' ∧ Reps G.K H' m' acc accD ∧
      lcLS S t c f (wipeE r vs) (xs.drop i) M' = .ok rest M2 ∧ accD ++ rest = ds ∧ k = xs.length - i ∧ i ≤ xs.length := ⟨_, rfl⟩
  obtain ⟨Inv, hInv⟩ := inv
  refine ⟨Inv, ⟨xs.length, ?_⟩, ?_⟩
  · rw [hInv]
    exact ⟨m1, M1, [], [], ds, Stp.fresh hD, nD, upd_same, o1.fresh hD, .nil, e0, rfl, rfl, Nat.zero_le _⟩
  · intro i k H' w
    rw [hInv] at w
    obtain ⟨m', M', acc, accD, rest, st, nD', eD, o', ra, el, ea, rfl, hi⟩ := w
    by_cases hlt : i < xs.length
    · have ed : xs.drop i = xs[i] :: xs.drop (i + 1) := List.drop_eq_getElem_cons hlt
      rw [ed] at el
      unfold lcLS at el
      split at el
      · rename_i hst
        obtain ⟨g1, g2⟩ := wk.go i m' H' M' st o' hst hlt
        refine .inr ⟨g1, fun H'' => ∃ k', k' < xs.length - i ∧ Inv (i + 1) k' H'', fun H'' h => h, fun v H2 y => ?_⟩
        obtain ⟨y1, y2, d, y3, y4⟩ := g2 v H2 y
        have ed' : d = xs[i] := by
          rw [List.getElem?_eq_getElem hlt] at y3
          exact (Option.some.inj y3).symm
        subst ed'
        have eD2 : H2 D = some (.lst acc) := y1.oth D _ eD nD'
        split at el
        · rename_i r1 M3 et
          have siw : Sim G m' H2 (wipe σ vs) (wipeE r vs) M' := ⟨(si1.1.car ((st.trans y1).car si1.2)).wipe vs, y2⟩
          refine hcg v _ _ _ r1 M' M3 m' H2 _ siw y4 et fun σ1 sg wg => ⟨wg.trans (wipe_wipe σ vs), ?_⟩
          split at el
          · rename_i b M4 ec
            refine ⟨m', r1, M3, sg, ?_⟩
            rw [ec]
            intro b' H3 m3 s3 o3 eb
            have eb' : b' = b := eb
            subst eb'
            have nD3 : D ∉ m3 := fun z => (s3.new D z).elim nD' fun z => by rw [eD2] at z; cases z
            have eD3 : H3 D = some (.lst acc) := s3.oth D _ eD2 nD'
            split at el
            · rename_i hb
              subst hb
              rw [if_pos rfl]
              split at el
              · rename_i dd M5 ef
                refine ⟨m3, r1, M4, sg.later s3 o3, ?_⟩
                rw [ef]
                intro yv H4 m4 s4 o4 ry
                split at el
                · rename_i rest' M6 er
                  cases el
                  have nD4 : D ∉ m4 := fun z => (s4.new D z).elim nD3 fun z => by rw [eD3] at z; cases z
                  have eD4 : H4 D = some (.lst acc) := s4.oth D _ eD3 nD3
                  have ra4 : Reps G.K H4 m4 acc accD := ((ra.car (y1.car o')).car (s3.car y2)).car (s4.car o3)
                  have st4 : Stp m1 H1 m4 H4 := ((st.trans y1).trans s3).trans s4
                  have lt : acc.length < sizeLine := by
                    rw [← szL, ra4.length]
                    have := congrArg List.length ea
                    rw [List.length_append, List.length_cons] at this
                    omega
                  refine ⟨acc, eD4, lt, xs.length - (i + 1), by omega, ?_⟩
                  rw [hInv]
                  refine ⟨m4, M5, acc ++ [yv], accD ++ [dd], rest', ⟨st4.more, fun a o z1 z2 => ?_, st4.new⟩, nD4, upd_same, o4.aside nD4 eD4, (ra4.app (.cons ry .nil)).car (car_aside nD4 eD4), er, by rw [List.append_assoc]; exact ea, rfl, hlt⟩
                  rw [upd_ne fun z => by rw [z, hD] at z1; cases z1]
                  exact st4.oth a o z1 z2
                · cases el
              · cases el
            · rename_i hb
              rw [if_neg hb]
              refine ⟨xs.length - (i + 1), by omega, ?_⟩
              rw [hInv]
              exact ⟨m3, M4, acc, accD, rest, (st.trans y1).trans s3, nD3, eD3, o3, (ra.car (y1.car o')).car (s3.car y2), el, ea, rfl, hlt⟩
          · cases el
        · cases el
      · cases el
    · have e : i = xs.length := by omega
      subst e
      rw [List.drop_length] at el
      unfold lcLS at el
      split at el
      · rename_i hst
        cases el
        rw [List.append_nil] at ea
        subst ea
        refine .inl ⟨wk.stop m' H' _ st o' hst, ?_⟩
        obtain ⟨nn, en⟩ := st.more
        refine q1 (.ref D) H' (m' ++ [D]) ⟨⟨nn ++ [D], by rw [en, List.append_assoc]⟩, st.oth, fun a ha => ?_⟩ (o'.adopt nD' eD ra) (.loc ?_)
        · rcases List.mem_append.mp ha with ha | ha
          · exact st.new a ha
          · rw [List.mem_singleton.mp ha]
            exact .inr hD
        · rw [← o'.len, List.getElem?_append_right (Nat.le_refl _), Nat.sub_self]
          rfl
      · cases el

theorem keys_rep {K : PySem.W.Frag} {H : Hp} {m : List Addr} {k : L2.Key} : Rep K H m (kV k) (keyD k) := by
  cases k with
  | inl i => exact .int i
  | inr s => exact .str s
theorem keysD_get {kws : List (L2.Key × V)} {kvs : List (Sum Int Str × PV.D)} (e : kws.map (·.1) = kvs.map (·.1)) {i : Nat} {k : L2.Key} {v : V} (h : kws[i]? = some (k, v)) : (keysD kvs)[i]? = some (keyD k) := by
  have h1 : (kws.map (·.1))[i]? = some k := by rw [List.getElem?_map, h]; rfl
  rw [e, List.getElem?_map] at h1
  unfold keysD
  rw [List.getElem?_map]
  cases h2 : kvs[i]? with
  | none => rw [h2] at h1; cases h1
  | some p =>
    rw [h2] at h1
    have := Option.some.inj h1
    show some (keyD p.1) = _
    rw [show p.1 = k from this]
theorem walk_keys {a : Addr} {n : Nat} {od : Obj} {kws : List (L2.Key × V)} {kvs : List (Sum Int Str × PV.D)} {m : List Addr} {H : Hp} (hn : m[n]? = some a) (e : kws.map (·.1) = kvs.map (·.1)) : WalkK G (Itk a od kws) (keysD kvs) (fun N => N[n]? = some (.lck kvs od kws)) m H where
  go := fun i m1 H1 M1 s o1 st hi => by
    obtain ⟨k, rfl⟩ := s.more
    have hn1 : (m ++ k)[n]? = some a := by rw [List.getElem?_append_left (List.getElem?_eq_some_iff.mp hn).1]; exact hn
    obtain ⟨h1, _, _⟩ := o1.ob _ _ _ hn1 st
    have hl : kws.length = (keysD kvs).length := by
      have := congrArg List.length e
      rw [List.length_map, List.length_map] at this
      unfold keysD
      rw [List.length_map]
      exact this
    refine ⟨⟨h1, by omega⟩, fun v H' y => ?_⟩
    obtain ⟨e1, k', v', e2, e3⟩ := y
    subst e1
    subst e3
    exact ⟨.refl, o1, _, keysD_get e e2, keys_rep⟩
  stop := fun m1 H1 M1 s o1 st => by
    obtain ⟨k, rfl⟩ := s.more
    have hn1 : (m ++ k)[n]? = some a := by rw [List.getElem?_append_left (List.getElem?_eq_some_iff.mp hn).1]; exact hn
    obtain ⟨h1, _, _⟩ := o1.ob _ _ _ hn1 st
    have hl : kws.length = (keysD kvs).length := by
      have := congrArg List.length e
      rw [List.length_map, List.length_map] at this
      unfold keysD
      rw [List.length_map]
      exact this
    exact ⟨h1, by omega⟩
theorem de_lcK {elt tg iter : Expr} {ifs : List Expr} {scope : Scope} {own : List (Str × Nat)} {pos : Pos} {fd : Xp} {g : TG} {t : Tg} {c : Xb} {f : Xp} (hc : X.calm = true) (hN : X.N.Nodup) (hi : DE G X W iter fd) (ok : BlkOk X.N X.env.scope scope own)
    (hcg : CG G (own.map (·.2)) g t) (hg : ∀ (s : Shared) (H : Hp) (C : Addr) (cl : List (Str × Addr)) (fp : List Addr), PG (X.blk s H scope (compEnvC scope cl C X.env) fp) tg g)
    (ht : ∀ (s : Shared) (H : Hp) (C : Addr) (cl : List (Str × Addr)) (fp : List Addr), PTs (X.blk s H scope (compEnvC scope cl C X.env) fp) ifs (TB G W0 c))
    (he : ∀ (s : Shared) (H : Hp) (C : Addr) (cl : List (Str × Addr)) (fp : List Addr), DE G (X.blk s H scope (compEnvC scope cl C X.env) fp) W0 elt f) (hs : ∀ x, foldedSetIterable iter X.env x = pure x := by intro _; rfl) :
    DE G X W (.ListComp elt [⟨tg, iter, ifs, 0⟩] scope pos) (xLcK fd t c f (own.map (·.2))) := by
  refine PE.of (pe_lock (pe_lc hc hN (pi_keys hi) ok hg ht he hs)) fun σ H Q q => ?_
  obtain ⟨m, r, M, si, q⟩ := q
  unfold xLcK at q
  split at q
  · rename_i n M0 e0
    split at q
    · rename_i kvs e1
      split at q
      · rename_i h
        obtain ⟨h2, hz, hh⟩ := h.choose_spec
        generalize h.choose.1 = ds at q hz hh
        generalize h.choose.2 = M2 at q h2 hh
        obtain ⟨a, hn, ob⟩ := si.2.at_ e1
        obtain ⟨kws, a1, a2, a3⟩ := ob
        refine ⟨a, .dK kws, a1, trivial, fun od => ?_⟩
        obtain ⟨fe, le⟩ := hh od kws
        have s1 : Stp m H m (upd H a (.frz od (.dK kws))) := Stp.write hn
        have o1 : MemOk G.K (upd H a (.frz od (.dK kws))) m (M.set n (.lck kvs od kws)) := si.2.write hn ⟨upd_same, a2, a3.car (s1.car si.2)⟩
        have si1 : Sim G m (upd H a (.frz od (.dK kws))) σ r (M.set n (.lck kvs od kws)) := ⟨si.1.car (s1.car si.2), o1⟩
        refine ⟨m, r, _, si1, ?_⟩
        rw [fe]
        intro x H1 m1 t1 p1 rx
        cases rx with
        | @loc a' _ hn1 =>
          obtain ⟨k, rfl⟩ := t1.more
          have hn2 : (m ++ k)[n]? = some a := by rw [List.getElem?_append_left (List.getElem?_eq_some_iff.mp hn).1]; exact hn
          rw [hn2] at hn1
          cases hn1
          have hnl : n < M.length := (List.getElem?_eq_some_iff.mp e1).1
          obtain ⟨f1, _, _⟩ := p1.ob _ _ _ hn2 (List.getElem?_set_self hnl)
          refine ⟨a, od, rfl, .inl ⟨kws, f1, ?_⟩⟩
          intro D hD
          refine lcK_of hcg (si1.later t1 p1) (walk_keys hn2 a2) le hz (fun v H' => H' a = some (.frz od (.dK kws)) ∧ Q v (upd H' a (.dK kws))) (fun b H' m' s2 o2 rb => ?_) D hD
          obtain ⟨k2, rfl⟩ := s2.more
          have hn3 : (m ++ k ++ k2)[n]? = some a := by rw [List.getElem?_append_left (List.getElem?_eq_some_iff.mp hn2).1]; exact hn2
          have hn2l : n < M2.length := (List.getElem?_eq_some_iff.mp h2).1
          have gl : (M2.set n (.lck kvs od kws) ++ [MO.lst ds])[n]? = some (.lck kvs od kws) := by
            rw [List.getElem?_append_left (by rw [List.length_set]; exact hn2l), List.getElem?_set_self hn2l]
          obtain ⟨f2, f3, f4⟩ := o2.ob _ _ _ hn3 gl
          refine ⟨f2, ?_⟩
          have s3 : Stp (m ++ k ++ k2) H' (m ++ k ++ k2) (upd H' a (.dK kws)) := Stp.write hn3
          have o3 := o2.write (o := .dct kvs) hn3 ⟨kws, upd_same, a2, f4.car (s3.car o2)⟩
          have eM : (M2.set n (.lck kvs od kws) ++ [MO.lst ds]).set n (.dct kvs) = M2 ++ [.lst ds] := by
            rw [List.set_append_left _ _ (by rw [List.length_set]; exact hn2l), set_back h2]
          rw [eM] at o3
          have lM : (M2.set n (.lck kvs od kws)).length = M2.length := List.length_set
          rw [lM] at rb
          exact q b _ _ (((s1.trans t1).trans s2).trans s3) o3 (rb.car (s3.car o2))
      · exact q.elim
    · exact q.elim
  · exact q.elim
end
end PV

set_option Elab.async false
set_option linter.all false
set_option maxHeartbeats 2000000

namespace PV
open PySem


theorem gc_self (M : Mem) (ds : List D) (M' : Mem) (h : M'.length = M.length) : gc M ds M' = M' := by
  unfold gc
  split
  · rw [← h, List.take_length]
  · rfl
theorem gc_drop (M M1 R : Mem) (ds : List D) (hl : M1.length = M.length) (hb : belowAll M.length ds = true) (ho : ∀ (i : Nat) (o : MO), M1[i]? = some o → M[i]? = some o ∨ belowO M.length o = true) : gc M ds (M1 ++ R) = M1 := by
  unfold gc
  rw [if_pos ⟨by rw [List.length_append]; omega, hb, fun i o hi e => by
    rw [List.getElem?_append_left (by omega)] at e
    exact ho i o e⟩, ← hl, List.take_left']
  rfl
theorem gc_app (M R : Mem) (ds : List D) (hb : belowAll M.length ds = true) : gc M ds (M ++ R) = M := gc_drop M M R ds rfl hb fun _ _ e => .inl e
@[simp] theorem belowAll_nil (n : Nat) : belowAll n [] = true := by simp [belowAll]
@[simp] theorem belowAll_cons (n : Nat) (x : D) (r : List D) : belowAll n (x :: r) = (below n x && belowAll n r) := by simp [belowAll]
@[simp] theorem below_int (n : Nat) (i : Int) : below n (.int i) = true := by simp [below]
@[simp] theorem below_bl (n : Nat) (i : Bool) : below n (.bl i) = true := by simp [below]
@[simp] theorem below_non (n : Nat) : below n .non = true := by simp [below]
@[simp] theorem below_str (n : Nat) (i : Str) : below n (.str i) = true := by simp [below]
@[simp] theorem below_tup (n : Nat) (xs : List D) : below n (.tup xs) = belowAll n xs := by simp [below]
@[simp] theorem below_loc (n k : Nat) : below n (.loc k) = decide (k < n) := by simp [below]
theorem belowAll_ints (n : Nat) : ∀ xs : List Int, belowAll n (xs.map D.int) = true
  | [] => by simp
  | x :: r => by simp [belowAll_ints n r]
theorem belowAll_app (n : Nat) : ∀ xs ys : List D, belowAll n (xs ++ ys) = (belowAll n xs && belowAll n ys)
  | [], ys => by simp
  | x :: r, ys => by simp [belowAll_app n r ys, Bool.and_assoc]


noncomputable def fin (M : Mem) : SO → Out D
  | .nx _ M1 => .ok .non (gc M [] M1)
  | .rt d M1 => .ok d (gc M [d] M1)
  | .er c fs _ M1 => .err c fs (gc M fs M1)
  | _ => .stk
theorem fDef_eq {n nl : Nat} {s : Xs} {ds : List D} {M : Mem} (h : ds.length = n) : fDef n nl s ds M = fin M (s (ds.map some ++ List.replicate nl none) M) := by
  unfold fDef
  rw [if_pos h]
  cases s (ds.map some ++ List.replicate nl none) M <;> rfl
@[simp] theorem fin_rt (M M1 : Mem) (d : D) : fin M (.rt d M1) = .ok d (gc M [d] M1) := Eq.trans rfl rfl
@[simp] theorem fin_nx (M M1 : Mem) (r : Ev) : fin M (.nx r M1) = .ok .non (gc M [] M1) := Eq.trans rfl rfl
@[simp] theorem fin_er (M M1 : Mem) (c : Nat) (fs : List D) (r : Ev) : fin M (.er c fs r M1) = .err c fs (gc M fs M1) := Eq.trans rfl rfl
@[simp] theorem gc_same (M : Mem) (ds : List D) : gc M ds M = M := gc_self M ds M rfl


theorem seq_nx {s t : Xs} {r r1 : Ev} {M M1 : Mem} (h : s r M = .nx r1 M1) : sSeq s t r M = t r1 M1 := by
  unfold sSeq
  rw [h]
theorem seq_rt {s t : Xs} {r : Ev} {M M1 : Mem} {d : D} (h : s r M = .rt d M1) : sSeq s t r M = .rt d M1 := by
  unfold sSeq
  rw [h]
theorem seq_er {s t : Xs} {r r1 : Ev} {M M1 : Mem} {c : Nat} {fs : List D} (h : s r M = .er c fs r1 M1) : sSeq s t r M = .er c fs r1 M1 := by
  unfold sSeq
  rw [h]

theorem forL_inv {n : Option Nat} {ys : List D} {t : Tg} {s : Xs} (J : Nat → Ev → Mem → Prop) : ∀ (xs : List D) (i : Nat) (r : Ev) (M : Mem), J i r M →
    (∀ k r M, J k r M → stands M n ys) → (∀ k x r M, xs[k - i]? = some x → i ≤ k → J k r M → ∃ r1 M1 r2 M2, t x r M = .nx r1 M1 ∧ (s r1 M1 = .nx r2 M2 ∨ s r1 M1 = .ct r2 M2) ∧ J (k + 1) r2 M2) →
    ∃ r' M', forL n ys t s xs r M = .nx r' M' ∧ J (i + xs.length) r' M'
  | [], i, r, M, h, hs, hb => by
    unfold forL
    rw [if_pos (hs i r M h)]
    exact ⟨r, M, rfl, h⟩
  | x :: rest, i, r, M, h, hs, hb => by
    unfold forL
    rw [if_pos (hs i r M h)]
    obtain ⟨r1, M1, r2, M2, e1, e2, h2⟩ := hb i x r M (by simp) (Nat.le_refl i) h
    have ih := forL_inv J rest (i + 1) r2 M2 h2 hs (fun k x r M e hk hJ => hb k x r M (by
      have : k - i = (k - (i + 1)) + 1 := by omega
      rw [this]
      simpa using e) (by omega) hJ)
    rw [e1]
    obtain ⟨r', M', e3, h3⟩ := ih
    refine ⟨r', M', ?_, by rw [List.length_cons, Nat.add_comm rest.length, ← Nat.add_assoc]; exact h3⟩
    rcases e2 with e2 | e2 <;> simp only [e2, e3]
theorem stands_none {M : Mem} {ys : List D} : stands M none ys := trivial

theorem whL_more {c : Xb} {s : Xs} : ∀ (k j : Nat) (r : Ev) (M : Mem), whL c s k r M ≠ .stk → k ≤ j → whL c s j r M = whL c s k r M
  | 0, _, _, _, h, _ => absurd rfl h
  | k + 1, 0, _, _, _, hj => absurd hj (by omega)
  | k + 1, j + 1, r, M, h, hj => by
    unfold whL at h ⊢
    cases hc : c r M with
    | stk => rfl
    | err _ _ _ => rfl
    | ok b M1 =>
      rw [hc] at h
      simp only [toS_ok] at h ⊢
      cases b with
      | false => rfl
      | true =>
        simp only [if_true] at h ⊢
        cases hs : s r M1 with
        | nx r2 M2 =>
          rw [hs] at h
          exact whL_more k j r2 M2 h (by omega)
        | ct r2 M2 =>
          rw [hs] at h
          exact whL_more k j r2 M2 h (by omega)
        | _ => rfl
theorem while_of {c : Xb} {s : Xs} {r : Ev} {M : Mem} {o : SO} (k : Nat) (h : whL c s k r M = o) (ho : o ≠ .stk) : sWhile c s r M = o := by
  unfold sWhile
  have hk : whL c s k r M ≠ .stk := by rw [h]; exact ho
  have ex : ∃ k, whL c s k r M ≠ .stk := ⟨k, hk⟩
  rw [dif_pos ex, ← h]
  have hc := ex.choose_spec
  rcases Nat.le_total ex.choose k with q | q
  · exact (whL_more _ _ r M hc q).symm
  · exact whL_more _ _ r M hk q
theorem szle (n : Nat) : (n ≤ SZ) = (n ≤ 16777216) := rfl
theorem szlt (n : Nat) : (n < SZ) = (n < 16777216) := rfl
theorem get_last {α : Type} (M : List α) (a : α) : (M ++ [a])[M.length]? = some a := by rw [List.getElem?_append_right (Nat.le_refl _), Nat.sub_self] <;> rfl
theorem set_last {α : Type} (M : List α) (a b : α) : (M ++ [a]).set M.length b = M ++ [b] := by
  rw [List.set_append_right _ _ (Nat.le_refl _), Nat.sub_self] <;> rfl
theorem append_at {M : Mem} {n : Nat} {xs : List D} (y : D) (h : M[n]? = some (.lst xs)) (hl : xs.length < 16777216) : mAppend (.loc n) y M = .ok .non (M.set n (.lst (xs ++ [y]))) := by
  unfold mAppend
  simp only [h]
  rw [if_pos hl]
theorem isLst_at {M : Mem} {n : Nat} {xs : List D} (h : M[n]? = some (.lst xs)) : isLst (.loc n) M = true := by
  unfold isLst
  simp only [h]
def enc (xs : List Nat) : List D := xs.map fun x : Nat => D.int ((x : Nat) : Int)
@[simp] theorem enc_nil : enc [] = [] := rfl
@[simp] theorem enc_cons (x : Nat) (r : List Nat) : enc (x :: r) = .int (x : Int) :: enc r := rfl
@[simp] theorem enc_app (x r : List Nat) : enc (x ++ r) = enc x ++ enc r := List.map_append
@[simp] theorem enc_len (x : List Nat) : (enc x).length = x.length := List.length_map _
theorem enc_rev (x : List Nat) : (enc x).reverse = enc x.reverse := by unfold enc; rw [List.map_reverse]
theorem enc_get (x : List Nat) (i : Nat) : (enc x)[i]? = (x[i]?).map fun y => .int (y : Int) := List.getElem?_map
theorem enc_drop (x : List Nat) (i : Nat) : (enc x).drop i = enc (x.drop i) := by unfold enc; rw [List.map_drop]
theorem enc_take (x : List Nat) (i : Nat) : (enc x).take i = enc (x.take i) := by unfold enc; rw [List.map_take]
theorem below_enc (n : Nat) : ∀ x : List Nat, belowAll n (enc x) = true
  | [] => rfl
  | x :: r => by simp [below_enc n r]
theorem while_go {c : Xb} {s : Xs} {r r2 : Ev} {M M1 M2 : Mem} {o : SO} (k : Nat) (hc : c r M = .ok true M1) (hs : s r M1 = .nx r2 M2) (h : whL c s k r2 M2 = o) : whL c s (k + 1) r M = o := by
  unfold whL
  rw [hc, toS_ok, if_pos rfl, hs]
  exact h
theorem while_end {c : Xb} {s : Xs} {r : Ev} {M M1 : Mem} (k : Nat) (hc : c r M = .ok false M1) : whL c s (k + 1) r M = .nx r M1 := by
  unfold whL
  rw [hc, toS_ok, if_neg Bool.false_ne_true]
theorem for_nil {ys : List D} {t : Tg} {s : Xs} {r : Ev} {M : Mem} : forL none ys t s [] r M = .nx r M := by
  unfold forL
  rw [if_pos (show stands M none ys from trivial)]
theorem for_cons {ys : List D} {t : Tg} {s : Xs} {x : D} {rest : List D} {r r1 : Ev} {M M1 : Mem} (h : t x r M = .nx r1 M1) : forL none ys t s (x :: rest) r M = (match s r1 M1 with
    | .nx r2 M2 => forL none ys t s rest r2 M2
    | .ct r2 M2 => forL none ys t s rest r2 M2
    | .bk r2 M2 => .nx r2 M2
    | o => o) := by
  rw [forL, if_pos (show stands M none ys from trivial)]
  simp only [h]
  all_goals (cases s r1 M1 <;> rfl)

theorem div_ok {i j : Int} {M : Mem} (h : 0 < j) (h2 : j.natAbs.log2 < 9000 := by decide) : oDiv (.int i) (.int j) M = .ok (.int (i / j)) M := by
  have e : oDiv (.int i) (.int j) M = @ite _ (okDiv j) (Classical.propDecidable _) (.ok (.int (i / j)) M) .stk := rfl
  rw [e, if_pos ⟨h, h2⟩]
theorem mod_ok {i j : Int} {M : Mem} (h : 0 < j) : oMod (.int i) (.int j) M = .ok (.int (i % j)) M := if_pos h
theorem mul_ok {i j : Int} {M : Mem} (h : okMul i j) : oMul (.int i) (.int j) M = .ok (.int (i * j)) M := by
  have e : oMul (.int i) (.int j) M = @ite _ (okMul i j) (Classical.propDecidable _) (.ok (.int (i * j)) M) .stk := rfl
  rw [e, if_pos h]
theorem mul_l {i j : Int} {M : Mem} (h : -(2 ^ 64) < i) (h2 : i < 2 ^ 64) : oMul (.int i) (.int j) M = .ok (.int (i * j)) M := mul_ok (.inl ⟨h, h2⟩)
theorem mul_r {i j : Int} {M : Mem} (h : -(2 ^ 64) < j) (h2 : j < 2 ^ 64) : oMul (.int i) (.int j) M = .ok (.int (i * j)) M := mul_ok (.inr (.inl ⟨h, h2⟩))
theorem mul_big {i j : Int} {M : Mem} (h : i.natAbs < 2 ^ 1000) (h2 : j.natAbs < 2 ^ 1000) : oMul (.int i) (.int j) M = .ok (.int (i * j)) M := mul_ok (.inr (.inr (by
  have a : i.natAbs.log2 ≤ 1000 := by
    by_cases z : i.natAbs = 0
    · rw [z]; decide
    · exact Nat.le_of_lt ((Nat.log2_lt z).mpr h)
  have b : j.natAbs.log2 ≤ 1000 := by
    by_cases z : j.natAbs = 0
    · rw [z]; decide
    · exact Nat.le_of_lt ((Nat.log2_lt z).mpr h2)
  omega)))
theorem add_ok {i j : Int} {M : Mem} : oAdd (.int i) (.int j) M = .ok (.int (i + j)) M := rfl
theorem sub_ok {i j : Int} {M : Mem} : oSub (.int i) (.int j) M = .ok (.int (i - j)) M := rfl
theorem eq_ok {i j : Int} {M : Mem} : oEq (.int i) (.int j) M = .ok (.bl (decide (i = j))) M := rfl
theorem ne_ok {i j : Int} {M : Mem} : oNe (.int i) (.int j) M = .ok (.bl (!decide (i = j))) M := rfl
theorem lt_ok {i j : Int} {M : Mem} : oLt (.int i) (.int j) M = .ok (.bl (decide (i < j))) M := rfl
theorem le_ok {i j : Int} {M : Mem} : oLe (.int i) (.int j) M = .ok (.bl (decide (i ≤ j))) M := rfl
theorem gt_ok {i j : Int} {M : Mem} : oGt (.int i) (.int j) M = .ok (.bl (decide (j < i))) M := rfl
theorem ge_ok {i j : Int} {M : Mem} : oGe (.int i) (.int j) M = .ok (.bl (decide (j ≤ i))) M := rfl
theorem neg_ok {i : Int} {M : Mem} : oNeg (.int i) M = .ok (.int (-i)) M := rfl
theorem pow_ok {i j : Int} {M : Mem} (h : 0 ≤ j ∧ j ≤ 1000000 ∧ i.natAbs < 2 ^ 64) : oPow (.int i) (.int j) M = .ok (.int (i ^ j.toNat)) M := if_pos h
theorem shl_ok {i j : Int} {M : Mem} (h : 0 ≤ j ∧ j ≤ 1000000 ∧ i.natAbs < 2 ^ 64) : oShl (.int i) (.int j) M = .ok (.int (i * 2 ^ j.toNat)) M := if_pos h
theorem shr_ok {i j : Int} {M : Mem} (h : 0 ≤ j) : oShr (.int i) (.int j) M = .ok (.int (i / 2 ^ j.toNat)) M := if_pos h
theorem int_ok {i : Int} {M : Mem} : fInt [.int i] M = .ok (.int i) M := rfl
theorem cat_ok {xs ys : List D} {M : Mem} (h : xs.length + ys.length ≤ 16777216) : oAdd (.tup xs) (.tup ys) M = .ok (.tup (xs ++ ys)) M := if_pos h
theorem isn_ok {x : D} {M : Mem} : oIsN x .non M = .ok (.bl (isNon x)) M := by cases x <;> rfl
theorem notn_ok {x : D} {M : Mem} : oNotN x .non M = .ok (.bl (!isNon x)) M := by cases x <;> rfl
theorem len_tup {xs : List D} {M : Mem} : fLen [.tup xs] M = .ok (.int (xs.length : Nat)) M := rfl
theorem len_lst {xs : List D} {n : Nat} {M : Mem} (h : M[n]? = some (.lst xs)) : fLen [.loc n] M = .ok (.int (xs.length : Nat)) M := by
  unfold fLen
  simp only [h]
theorem ix_tup {xs : List D} {i : Nat} {d : D} {M : Mem} (h : xs[i]? = some d) : oIx (.tup xs) (.int (i : Nat)) M = .ok d M := by
  have hl := (List.getElem?_eq_some_iff.mp h).1
  have e : listAt xs (i : Nat) = some d := by
    unfold listAt ixAt
    rw [if_pos (by omega), if_pos (by omega)]
    exact h
  show (match listAt xs (i : Nat) with | some d => Out.ok d M | none => .stk) = _
  rw [e]
theorem ix_lst {xs : List D} {n i : Nat} {d : D} {M : Mem} (hn : M[n]? = some (.lst xs)) (h : xs[i]? = some d) : oIx (.loc n) (.int (i : Nat)) M = .ok d M := by
  have hl := (List.getElem?_eq_some_iff.mp h).1
  have e : listAt xs (i : Nat) = some d := by
    unfold listAt ixAt
    rw [if_pos (by omega), if_pos (by omega)]
    exact h
  unfold oIx
  simp only [hn, e]
theorem range1_ok {f : Xp} {r : Ev} {M M1 : Mem} {j : Int} (h : f r M = .ok (.int j) M1) (hj : -(2 ^ 62) ≤ j ∧ j < 2 ^ 62) : iRange1 f r M = .ok (upFrom 0 j.toNat, none, []) M1 := by
  unfold iRange1
  rw [h, bind_ok]
  exact if_pos hj
theorem range2_ok {f g : Xp} {r : Ev} {M M1 M2 : Mem} {i j : Int} (h : f r M = .ok (.int i) M1) (h2 : g r M1 = .ok (.int j) M2) (hj : -(2 ^ 62) ≤ i ∧ i < 2 ^ 62 ∧ -(2 ^ 62) ≤ j ∧ j < 2 ^ 62) : iRange2 f g r M = .ok (upFrom i (j - i).toNat, none, []) M2 := by
  unfold iRange2
  rw [h, bind_ok, h2, bind_ok]
  exact if_pos hj
theorem for_of {it : Xi} {t : Tg} {s : Xs} {r : Ev} {M M1 : Mem} {xs ys : List D} {n : Option Nat} (h : it r M = .ok (xs, n, ys) M1) : sFor it t s r M = forL n ys t s xs r M1 := by
  unfold sFor
  rw [h]
  rfl
theorem seq_for {it : Xi} {t : Tg} {s u : Xs} {r : Ev} {M M1 : Mem} {xs ys : List D} {n : Option Nat} {o : SO} (h : it r M = .ok (xs, n, ys) M1) (h2 : (match forL n ys t s xs r M1 with
    | .nx r1 M2 => u r1 M2
    | o => o) = o) : sSeq (sFor it t s) u r M = o := by
  rw [← h2]
  unfold sSeq
  rw [for_of h]
  all_goals (cases forL n ys t s xs r M1 <;> rfl)
end PV

set_option Elab.async false
set_option linter.all false
set_option maxRecDepth 10000

namespace PV
open PySem
theorem slen (a b : Str) : (a ++ b).length = a.length + b.length := strLen_append a b
theorem textFrom_le : ∀ (ts : List Str) (k : Nat) (acc : Str), (textFrom k acc ts).length ≤ acc.length + piled ts
  | [], k, acc => by show acc.length ≤ _; omega
  | t :: r, k, acc => by
    have ih := textFrom_le r (k + 1) (acc ++ (if k > 0 then ", " else "" : String) ++ t)
    rw [slen, slen] at ih
    have e : ((if k > 0 then ", " else "" : String) : Str).length ≤ 2 := by split <;> decide
    show (textFrom (k + 1) (acc ++ (if k > 0 then ", " else "" : String) ++ t) r).length ≤ _
    rw [piled_cons]
    omega
theorem listText_le (ts : List Str) : (listText ts).length ≤ 2 + piled ts := by
  unfold listText
  rw [slen]
  have h := textFrom_le ts 0 "["
  have e1 : (("[" : String) : Str).length = 1 := rfl
  have e2 : (("]" : String) : Str).length = 1 := rfl
  omega
theorem tupleText_le (ts : List Str) : (tupleText ts).length ≤ 3 + piled ts := by
  unfold tupleText
  rw [slen, slen]
  have e1 : (("(" : String) : Str).length = 1 := rfl
  have e3 : (((if ts.length == 1 then ",)" else ")" : String) : Str)).length ≤ 2 := by split <;> decide
  by_cases h : ts = []
  · subst h
    have e0 : (Str.join ", " []).length = 0 := rfl
    simp only [piled, List.map_nil, List.sum_nil]
    omega
  · have := join_length_add ts h
    omega
mutual
def wt : PyData → Nat
  | .none => 4
  | .bool _ => 5
  | .int i => i.natAbs.log2 + 2
  | .str x => (reprText x).length
  | .list xs => 2 + wtAll xs
  | .tuple xs => 3 + wtAll xs
  | .dict kvs => 0
def wtAll : List PyData → Nat
  | [] => 0
  | x :: r => wt x + 2 + wtAll r
end
mutual
theorem shown_le : ∀ p : PyData, p.hasDict = false → p.shown.length ≤ wt p
  | .none, _ => by simp only [PyData.shown, wt]; decide
  | .bool b, _ => by cases b <;> simp only [PyData.shown, wt] <;> decide
  | .int i, _ => by
    simp only [PyData.shown, wt]
    have := int_text_length_le (a := i) (k := i.natAbs.log2 + 1) (by omega) (by omega)
    rw [ofString_length]
    omega
  | .str x, _ => by simp only [PyData.shown, wt]; exact Nat.le_refl _
  | .list xs, h => by
    simp only [PyData.shown, wt]
    have h1 := listText_le (PyData.shownAll xs)
    have h2 := shownAll_le xs (by simpa [PyData.hasDict] using h)
    omega
  | .tuple xs, h => by
    simp only [PyData.shown, wt]
    have h1 := tupleText_le (PyData.shownAll xs)
    have h2 := shownAll_le xs (by simpa [PyData.hasDict] using h)
    omega
  | .dict kvs, h => by simp [PyData.hasDict] at h
theorem shownAll_le : ∀ xs : List PyData, PyData.hasDictAll xs = false → piled (PyData.shownAll xs) ≤ wtAll xs
  | [], _ => by simp only [PyData.shownAll, wtAll, piled, List.map_nil, List.sum_nil]; exact Nat.le_refl _
  | x :: r, h => by
    simp only [PyData.hasDictAll, Bool.or_eq_false_iff] at h
    simp only [PyData.shownAll, wtAll]
    rw [piled_cons]
    have h1 := shown_le x h.1
    have h2 := shownAll_le r h.2
    omega
end
structure Fit (p : PyData) (n : Nat) : Prop where
  s : p.showable = true
  d : p.hasDict = false
  h : p.depth ≤ n
  w : wt p ≤ 16777216
theorem Fit.can {p : PyData} {n : Nat} (f : Fit p n) (h : n ≤ 64) : p.showable = true ∧ p.hasDict = false ∧ p.depth ≤ 64 ∧ p.shown.length ≤ SZ := ⟨f.s, f.d, Nat.le_trans f.h h, Nat.le_trans (shown_le p f.d) f.w⟩
def pyN (xs : List Nat) : List PyData := xs.map fun x : Nat => PyData.int ((x : Nat) : Int)
theorem toPy_encL (M : Mem) (k : Nat) : ∀ xs : List Nat, (enc xs).mapM (toPy M (k + 1)) = some (pyN xs)
  | [] => rfl
  | x :: r => by
    rw [enc_cons, List.mapM_cons, toPy_encL M k r]
    simp [toPy, pyN]
theorem toPy_enc (M : Mem) (k : Nat) (xs : List Nat) : toPy M (k + 2) (.tup (enc xs)) = some (.tuple (pyN xs)) := by
  rw [toPy, toPy_encL]
  rfl
theorem pyN_show (xs : List Nat) (h : ∀ x ∈ xs, x < 2 ^ 64) : PyData.showableAll (pyN xs) = true := by
  induction xs with
  | nil => simp [pyN, PyData.showableAll]
  | cons x r ih =>
    have hx := h x (by simp)
    have : x.log2 < 1920 := by
      by_cases z : x = 0
      · rw [z]; decide
      · exact Nat.lt_trans ((Nat.log2_lt z).mpr hx) (by decide)
    have ih' := ih fun y hy => h y (by simp [hy])
    simp only [pyN, List.map_cons, PyData.showableAll, PyData.showable] at ih' ⊢
    rw [ih']
    simp [this]
theorem pyN_dict (xs : List Nat) : PyData.hasDictAll (pyN xs) = false := by
  induction xs with
  | nil => simp [pyN, PyData.hasDictAll]
  | cons x r ih =>
    simp only [pyN, List.map_cons, PyData.hasDictAll, PyData.hasDict, Bool.false_or] at ih ⊢
    exact ih
theorem pyN_wt (xs : List Nat) (h : ∀ x ∈ xs, x < 2 ^ 64) : wtAll (pyN xs) ≤ 68 * xs.length := by
  induction xs with
  | nil => simp [pyN, wtAll]
  | cons x r ih =>
    have hx := h x (by simp)
    have : x.log2 < 65 := by
      by_cases z : x = 0
      · rw [z]; decide
      · exact Nat.lt_trans ((Nat.log2_lt z).mpr hx) (by decide)
    have ih' := ih fun y hy => h y (by simp [hy])
    simp only [pyN, List.map_cons, wtAll, wt, List.length_cons, Int.natAbs_natCast] at ih' ⊢
    omega
theorem pyN_depth (xs : List Nat) : PyData.depthAll (pyN xs) ≤ 1 := by
  induction xs with
  | nil => simp [pyN, PyData.depthAll]
  | cons x r ih =>
    simp only [pyN, List.map_cons, PyData.depthAll, PyData.depth] at ih ⊢
    omega
theorem fit_row (xs : List Nat) (h : ∀ x ∈ xs, x < 2 ^ 64) (hl : xs.length ≤ 100000) : Fit (.tuple (pyN xs)) 2 where
  s := by simp only [PyData.showable]; exact pyN_show xs h
  d := by simp only [PyData.hasDict]; exact pyN_dict xs
  h := by
    simp only [PyData.depth]
    have := pyN_depth xs
    omega
  w := by
    simp only [wt]
    have := pyN_wt xs h
    omega
end PV

set_option Elab.async false
set_option linter.all false
set_option maxHeartbeats 2000000

namespace PV
open PySem
abbrev EK := Nat → List D → Mem → Prop
inductive Tag {α : Sort _} (k : α) : Type
  | mk
def wpT {α : Type} (K : α → Mem → Prop) (E : EK) (_ : Tag K) (_ : Tag E) (o : Out α) : Prop := match o with
  | .ok a M => K a M
  | .err c fs M => E c fs M
  | .stk => False
def wsT (Q : SO → Prop) (_ : Tag Q) (o : SO) : Prop := match o with
  | .stk => False
  | o => Q o
abbrev wpo {α : Type} (o : Out α) (K : α → Mem → Prop) (E : EK) : Prop := wpT K E .mk .mk o
abbrev wps (o : SO) (Q : SO → Prop) : Prop := wsT Q .mk o
abbrev noE : EK := fun _ _ _ => False
theorem wpo_ok {α : Type} {a : α} {M : Mem} {K : α → Mem → Prop} {E : EK} : wpo (.ok a M) K E = K a M := Eq.trans rfl rfl
theorem wpo_err {α : Type} {c : Nat} {fs : List D} {M : Mem} {K : α → Mem → Prop} {E : EK} : wpo (.err c fs M : Out α) K E = E c fs M := Eq.trans rfl rfl
theorem wpo_bind {α β : Type} {o : Out α} {f : α → Mem → Out β} {K : β → Mem → Prop} {E : EK} : wpo (o.bind f) K E = wpo o (fun a M => wpo (f a M) K E) E := by cases o <;> rfl
theorem wpo_mono {α : Type} {o : Out α} {K K' : α → Mem → Prop} {E E' : EK} (h : wpo o K E) (hk : ∀ a M, K a M → K' a M) (he : ∀ c fs M, E c fs M → E' c fs M) : wpo o K' E' := by
  cases o with
  | ok a M => exact hk a M h
  | err c fs M => exact he c fs M h
  | stk => exact h
theorem wps_mono {o : SO} {Q Q' : SO → Prop} (h : wps o Q) (hk : ∀ o, Q o → Q' o) : wps o Q' := by
  cases o with
  | stk => exact h
  | _ => exact hk _ h
theorem wpo_eq {α : Type} {o : Out α} {a : α} {M : Mem} (h : wpo o (fun b M1 => b = a ∧ M1 = M) noE) : o = .ok a M := by
  cases o with
  | ok b M1 =>
    obtain ⟨rfl, rfl⟩ := h
    rfl
  | err c fs M => exact h.elim
  | stk => exact h.elim
theorem wpo_ex {α : Type} {o : Out α} {K : α → Mem → Prop} (h : wpo o K noE) : ∃ a M, o = .ok a M ∧ K a M := by
  cases o with
  | ok b M1 => exact ⟨b, M1, rfl, h⟩
  | err c fs M => exact h.elim
  | stk => exact h.elim
theorem wpo_nE {α : Type} {o : Out α} {K : α → Mem → Prop} {E : EK} (h : wpo o K noE) : wpo o K E := wpo_mono h (fun _ _ => id) (fun _ _ _ => False.elim)

section
variable {r : Ev} {M : Mem} {K : D → Mem → Prop} {KA : List D → Mem → Prop} {KB : Bool → Mem → Prop} {KO : Option Int → Mem → Prop} {KK : List (Sum Int Str × D) → Mem → Prop} {E : EK}
def asV (o : Option (Option D)) (M : Mem) : Out D := match o with
  | some (some d) => .ok d M
  | _ => .stk
theorem asV_ok {d : D} : asV (some (some d)) M = .ok d M := Eq.trans rfl rfl
theorem w_var {i : Nat} : wpo (xVar i r M) K E = wpo (asV r[i]? M) K E := Eq.trans rfl rfl
theorem w_k {d : D} : wpo (xK d r M) K E = K d M := Eq.trans rfl rfl
theorem w_aNil : wpo (aNil r M) KA E = KA [] M := Eq.trans rfl rfl
theorem w_aCons {f : Xp} {t : Xa} : wpo (aCons f t r M) KA E = wpo (f r M) (fun d M1 => wpo (t r M1) (fun ds M2 => KA (d :: ds) M2) E) E := by
  unfold aCons; rw [wpo_bind]; congr; funext a M1; rw [wpo_bind]; rfl
theorem w_tup {t : Xa} : wpo (xTup t r M) K E = wpo (t r M) (fun ds M1 => wpo (if ds.length ≤ 16777216 then .ok (.tup ds) M1 else .stk) K E) E := by
  unfold xTup; rw [wpo_bind]
theorem w_lst {t : Xa} : wpo (xLst t r M) K E = wpo (t r M) (fun ds M1 => wpo (if ds.length ≤ 16777216 then .ok (.loc M1.length) (M1 ++ [.lst ds]) else .stk) K E) E := by
  unfold xLst; rw [wpo_bind]
theorem w_2 {op : D → D → Mem → Out D} {f g : Xp} : wpo (x2 op f g r M) K E = wpo (f r M) (fun x M1 => wpo (g r M1) (fun y M2 => wpo (op x y M2) K E) E) E := by
  unfold x2; rw [wpo_bind]; congr; funext a M1; rw [wpo_bind]
theorem w_1 {op : D → Mem → Out D} {f : Xp} : wpo (x1 op f r M) K E = wpo (f r M) (fun x M1 => wpo (op x M1) K E) E := by unfold x1; rw [wpo_bind]
theorem w_call {F : Fn} {t : Xa} : wpo (xCall F t r M) K E = wpo (t r M) (fun ds M1 => wpo (F ds M1) K E) E := by unfold xCall; rw [wpo_bind]
theorem w_if {c : Xb} {f g : Xp} : wpo (xIf c f g r M) K E = wpo (c r M) (fun b M1 => wpo (if b = true then f r M1 else g r M1) K E) E := by unfold xIf; rw [wpo_bind]
def asB (x : D) (M : Mem) : Out Bool := match x with
  | .bl b => .ok b M
  | _ => .stk
theorem asB_ok {b : Bool} : asB (.bl b) M = .ok b M := Eq.trans rfl rfl
theorem w_and {f g : Xp} : wpo (xAnd f g r M) K E = wpo (f r M) (fun x M1 => wpo (asB x M1) (fun b M1 => wpo (if b = true then g r M1 else .ok (.bl false) M1) K E) E) E := by
  unfold xAnd; rw [wpo_bind]; congr; funext a M1; cases a <;> rfl
theorem w_or {f g : Xp} : wpo (xOr f g r M) K E = wpo (f r M) (fun x M1 => wpo (asB x M1) (fun b M1 => wpo (if b = true then .ok (.bl true) M1 else g r M1) K E) E) E := by
  unfold xOr; rw [wpo_bind]; congr; funext a M1; cases a <;> rfl
theorem w_not {f : Xp} : wpo (xNot f r M) K E = wpo (f r M) (fun x M1 => wpo (asB x M1) (fun b M1 => K (.bl (!b)) M1) E) E := by
  unfold xNot; rw [wpo_bind]; congr; funext a M1; cases a <;> rfl
theorem w_bE {f : Xp} : wpo (bE f r M) KB E = wpo (f r M) (fun x M1 => wpo (asB x M1) KB E) E := by unfold bE; rw [wpo_bind]; rfl
theorem w_bAnd {f g : Xb} : wpo (bAnd f g r M) KB E = wpo (f r M) (fun b M1 => wpo (if b = true then g r M1 else .ok false M1) KB E) E := by unfold bAnd; rw [wpo_bind]
theorem w_bOr {f g : Xb} : wpo (bOr f g r M) KB E = wpo (f r M) (fun b M1 => wpo (if b = true then .ok true M1 else g r M1) KB E) E := by unfold bOr; rw [wpo_bind]
theorem w_bNot {f : Xb} : wpo (bNot f r M) KB E = wpo (f r M) (fun b M1 => KB (!b) M1) E := by unfold bNot; rw [wpo_bind]; rfl
theorem w_bTrue : wpo (bTrue r M) KB E = KB true M := Eq.trans rfl rfl
theorem w_chain {op op' : D → D → Mem → Out D} {f g h : Xp} : wpo (xChain op op' f g h r M) K E = wpo (f r M) (fun x M1 => wpo (g r M1) (fun y M2 => wpo (op x y M2) (fun b M3 => wpo (asB b M3) (fun b M3 =>
    wpo (if b = true then (h r M3).bind fun z M4 => op' y z M4 else .ok (.bl false) M3) K E) E) E) E) E := by
  unfold xChain; rw [wpo_bind]; congr; funext a M1; rw [wpo_bind]; congr; funext b M2; rw [wpo_bind]; congr; funext c M3; cases c <;> rfl
theorem w_oNone : wpo (oNone r M) KO E = KO none M := Eq.trans rfl rfl
def asI (x : D) (M : Mem) : Out (Option Int) := match x with
  | .int i => .ok (some i) M
  | _ => .stk
theorem asI_ok {b : Int} : asI (.int b) M = .ok (some b) M := Eq.trans rfl rfl
theorem w_oSome {f : Xp} : wpo (oSome f r M) KO E = wpo (f r M) (fun x M1 => wpo (asI x M1) KO E) E := by unfold oSome; rw [wpo_bind]; rfl
theorem w_slice {f : Xp} {lo hi : Xo} : wpo (xSlice f lo hi r M) K E = wpo (f r M) (fun x M1 => wpo (lo r M1) (fun l M2 => wpo (hi r M2) (fun h M3 => wpo (sliced x l h M3) K E) E) E) E := by
  unfold xSlice; rw [wpo_bind]; congr; funext a M1; rw [wpo_bind]; congr; funext b M2; rw [wpo_bind]
theorem w_kNil : wpo (kNil r M) KK E = KK [] M := Eq.trans rfl rfl
def asK (x : D) (M : Mem) : Out (Sum Int Str) := match keyOf x with
  | some c => .ok c M
  | none => .stk
theorem asK_int {i : Int} : asK (.int i) M = .ok (.inl i) M := Eq.trans rfl rfl
theorem asK_str {i : Str} : asK (.str i) M = .ok (.inr i) M := Eq.trans rfl rfl
theorem w_kCons {k v : Xp} {t : Xk} : wpo (kCons k v t r M) KK E = wpo (k r M) (fun x M1 => wpo (v r M1) (fun y M2 => wpo (asK x M2) (fun c M2 => wpo (t r M2) (fun ps M3 => KK ((c, y) :: ps) M3) E) E) E) E := by
  unfold kCons; rw [wpo_bind]; congr; funext a M1; rw [wpo_bind]; congr; funext b M2
  unfold asK
  cases keyOf a with
  | none => rfl
  | some c => exact wpo_bind
theorem w_dct {t : Xk} : wpo (xDct t r M) K E = wpo (t r M) (fun ps M1 => wpo (if (ps.map (·.1)).Nodup ∧ ps.length ≤ 15 then .ok (.loc M1.length) (M1 ++ [.dct ps]) else .stk) K E) E := by
  unfold xDct; rw [wpo_bind]
theorem w_dct0 : wpo (xDct0 r M) K E = K (.loc M.length) (M ++ [.dct []]) := Eq.trans rfl rfl
theorem w_lst1 {op : D → D → Mem → Out D} {f g : Xp} : wpo (xLst1 op f g r M) K E = wpo (f r M) (fun x M1 => wpo (if isLst x M1 = true then (g r M1).bind fun y M2 => op x y M2 else .stk) K E) E := by
  unfold xLst1; rw [wpo_bind]
theorem w_fs {fs : List D} {j : Nat} : wpo (xFs fs j r M) K E = wpo (asV (fs[j]?.map some) M) K E := by
  unfold xFs
  cases fs[j]? <;> rfl
end

def sq (t : Xs) (Q : SO → Prop) : SO → Prop := fun o => match o with
  | .nx r1 M1 => wps (t r1 M1) Q
  | o => Q o
def lq (J : Ev → Mem → Prop) (Q : SO → Prop) : SO → Prop := fun o => match o with
  | .nx r M => J r M
  | .ct r M => J r M
  | .bk r M => Q (.nx r M)
  | o => Q o
noncomputable def fq (M : Mem) (K : D → Mem → Prop) (E : EK) : SO → Prop := fun o => match o with
  | .nx _ M1 => K .non (gc M [] M1)
  | .rt d M1 => K d (gc M [d] M1)
  | .er c fs _ M1 => E c fs (gc M fs M1)
  | _ => False
section
variable {r r1 : Ev} {M M1 : Mem} {Q : SO → Prop} {t s : Xs} {J : Ev → Mem → Prop} {K : D → Mem → Prop} {E : EK} {d : D} {c : Nat} {fs : List D}
theorem ws_nx : wps (.nx r M) Q = Q (.nx r M) := Eq.trans rfl rfl
theorem ws_rt : wps (.rt d M) Q = Q (.rt d M) := Eq.trans rfl rfl
theorem ws_bk : wps (.bk r M) Q = Q (.bk r M) := Eq.trans rfl rfl
theorem ws_ct : wps (.ct r M) Q = Q (.ct r M) := Eq.trans rfl rfl
theorem ws_er : wps (.er c fs r M) Q = Q (.er c fs r M) := Eq.trans rfl rfl
theorem sq_nx : sq t Q (.nx r M) = wps (t r M) Q := Eq.trans rfl rfl
theorem sq_rt : sq t Q (.rt d M) = Q (.rt d M) := Eq.trans rfl rfl
theorem sq_bk : sq t Q (.bk r M) = Q (.bk r M) := Eq.trans rfl rfl
theorem sq_ct : sq t Q (.ct r M) = Q (.ct r M) := Eq.trans rfl rfl
theorem sq_er : sq t Q (.er c fs r M) = Q (.er c fs r M) := Eq.trans rfl rfl
theorem lq_nx : lq J Q (.nx r M) = J r M := Eq.trans rfl rfl
theorem lq_ct : lq J Q (.ct r M) = J r M := Eq.trans rfl rfl
theorem lq_bk : lq J Q (.bk r M) = Q (.nx r M) := Eq.trans rfl rfl
theorem lq_rt : lq J Q (.rt d M) = Q (.rt d M) := Eq.trans rfl rfl
theorem lq_er : lq J Q (.er c fs r M) = Q (.er c fs r M) := Eq.trans rfl rfl
theorem fq_nx : fq M K E (.nx r M1) = K .non (gc M [] M1) := Eq.trans rfl rfl
theorem fq_rt : fq M K E (.rt d M1) = K d (gc M [d] M1) := Eq.trans rfl rfl
theorem fq_er : fq M K E (.er c fs r M1) = E c fs (gc M fs M1) := Eq.trans rfl rfl
theorem ws_toS {α : Type} {o : Out α} {f : α → Mem → SO} : wps (o.toS r f) Q = wpo o (fun a M => wps (f a M) Q) (fun c fs M1 => Q (.er c fs r M1)) := by cases o <;> rfl
theorem ws_pass : wps (sPass r M) Q = Q (.nx r M) := Eq.trans rfl rfl
theorem ws_break : wps (sBreak r M) Q = Q (.bk r M) := Eq.trans rfl rfl
theorem ws_cont : wps (sCont r M) Q = Q (.ct r M) := Eq.trans rfl rfl
theorem ws_retN : wps (sRetN r M) Q = Q (.rt .non M) := Eq.trans rfl rfl
theorem ws_seq : wps (sSeq s t r M) Q = wps (s r M) (sq t Q) := by
  unfold sSeq
  cases s r M <;> rfl
theorem ws_set {i : Nat} {f : Xp} : wps (sSet i f r M) Q = wpo (f r M) (fun d M1 => Q (.nx (r.set i (some d)) M1)) (fun c fs M1 => Q (.er c fs r M1)) := by
  unfold sSet; rw [ws_toS]; rfl
def asP (i j : Nat) (r : Ev) (ds : List D) (M1 : Mem) : SO := match ds with
  | [x, y] => .nx ((r.set i (some x)).set j (some y)) M1
  | _ => .stk
def asP3 (i j l : Nat) (r : Ev) (ds : List D) (M1 : Mem) : SO := match ds with
  | [x, y, z] => .nx (((r.set i (some x)).set j (some y)).set l (some z)) M1
  | _ => .stk
theorem asP_ok {i j : Nat} {x y : D} : asP i j r [x, y] M = .nx ((r.set i (some x)).set j (some y)) M := Eq.trans rfl rfl
theorem asP3_ok {i j l : Nat} {x y z : D} : asP3 i j l r [x, y, z] M = .nx (((r.set i (some x)).set j (some y)).set l (some z)) M := Eq.trans rfl rfl
theorem ws_par {i j : Nat} {t : Xa} : wps (sPar i j t r M) Q = wpo (t r M) (fun ds M1 => wps (asP i j r ds M1) Q) (fun c fs M1 => Q (.er c fs r M1)) := by
  unfold sPar; rw [ws_toS]; all_goals rfl
theorem ws_par3 {i j l : Nat} {t : Xa} : wps (sPar3 i j l t r M) Q = wpo (t r M) (fun ds M1 => wps (asP3 i j l r ds M1) Q) (fun c fs M1 => Q (.er c fs r M1)) := by
  unfold sPar3; rw [ws_toS]; all_goals rfl
theorem ws_expr {f : Xp} : wps (sExpr f r M) Q = wpo (f r M) (fun d M1 => Q (.nx r M1)) (fun c fs M1 => Q (.er c fs r M1)) := by
  unfold sExpr; rw [ws_toS]; rfl
theorem ws_ret {f : Xp} : wps (sRet f r M) Q = wpo (f r M) (fun d M1 => Q (.rt d M1)) (fun c fs M1 => Q (.er c fs r M1)) := by
  unfold sRet; rw [ws_toS]; rfl
theorem ws_if {c : Xb} : wps (sIf c s t r M) Q = wpo (c r M) (fun b M1 => wps (if b = true then s r M1 else t r M1) Q) (fun c fs M1 => Q (.er c fs r M1)) := by
  unfold sIf; rw [ws_toS]
theorem ws_raise {k n : Nat} {t : Xa} : wps (sRaise k n t r M) Q = wpo (t r M) (fun ds M1 => wps (if ds.length = n then .er k ds r M1 else .stk) Q) (fun c fs M1 => Q (.er c fs r M1)) := by
  unfold sRaise; rw [ws_toS]
def tq (hs : List Hdl) (Q : SO → Prop) : SO → Prop := fun o => match o with
  | .er c fs r1 M1 => wps (hGo hs c fs r1 M1) Q
  | o => Q o
theorem tq_nx {hs : List Hdl} : tq hs Q (.nx r M) = Q (.nx r M) := Eq.trans rfl rfl
theorem tq_rt {hs : List Hdl} : tq hs Q (.rt d M) = Q (.rt d M) := Eq.trans rfl rfl
theorem tq_bk {hs : List Hdl} : tq hs Q (.bk r M) = Q (.bk r M) := Eq.trans rfl rfl
theorem tq_ct {hs : List Hdl} : tq hs Q (.ct r M) = Q (.ct r M) := Eq.trans rfl rfl
theorem tq_er {hs : List Hdl} : tq hs Q (.er c fs r M) = wps (hGo hs c fs r M) Q := Eq.trans rfl rfl
theorem ws_try {hs : List Hdl} : wps (sTry s hs r M) Q = wps (s r M) (tq hs Q) := by
  unfold sTry
  cases s r M <;> rfl
theorem ws_asg {t : Tg} {f : Xp} : wps (sAsg t f r M) Q = wpo (f r M) (fun d M1 => wps (nxo (t d r M1)) Q) (fun c fs M1 => Q (.er c fs r M1)) := by
  unfold sAsg; rw [ws_toS]
theorem ws_nxo {o : SO} : wps (nxo o) Q = wps o (fun o => match o with | .nx r M => Q (.nx r M) | .er c fs r M => Q (.er c fs r M) | _ => False) := by cases o <;> rfl
def asM (r : Ev) (o : Option Mem) : SO := match o with
  | some M3 => .nx r M3
  | none => .stk
theorem asM_ok : asM r (some M) = .nx r M := Eq.trans rfl rfl
theorem ws_sub {set : D → D → D → Mem → Option Mem} {o i : Xp} : wps (tSub set o i d r M) Q = wpo (o r M) (fun x M1 => wpo (i r M1) (fun y M2 => wps (asM r (set x y d M2)) Q) (fun c fs M1 => Q (.er c fs r M1))) (fun c fs M1 => Q (.er c fs r M1)) := by
  unfold tSub; rw [ws_toS]; congr; funext a M1; rw [ws_toS]; all_goals rfl
theorem ws_for {it : Xi} {t : Tg} : wps (sFor it t s r M) Q = wpo (it r M) (fun p M1 => wps (forL p.2.1 p.2.2 t s p.1 r M1) Q) (fun c fs M1 => Q (.er c fs r M1)) := by
  unfold sFor; rw [ws_toS]
theorem wp_def {n nl : Nat} {s : Xs} {ds : List D} (h : ds.length = n) : wpo (fDef n nl s ds M) K E = wps (s (ds.map some ++ List.replicate nl none) M) (fq M K E) := by
  unfold fDef
  rw [if_pos h]
  cases s (ds.map some ++ List.replicate nl none) M <;> rfl

abbrev XI := List D × Option Nat × List D
noncomputable def asR1 (x : D) (M1 : Mem) : Out XI := match x with
  | .int j => @ite _ (-(2 ^ 62) ≤ j ∧ j < 2 ^ 62) (Classical.propDecidable _) (.ok (upFrom 0 j.toNat, none, []) M1) .stk
  | _ => .stk
noncomputable def asR2 (x y : D) (M2 : Mem) : Out XI := match x, y with
  | .int i, .int j => @ite _ (-(2 ^ 62) ≤ i ∧ i < 2 ^ 62 ∧ -(2 ^ 62) ≤ j ∧ j < 2 ^ 62) (Classical.propDecidable _) (.ok (upFrom i (j - i).toNat, none, []) M2) .stk
  | _, _ => .stk
noncomputable def asR3 (ds : List D) (M3 : Mem) : Out XI := match ds with
  | [.int i, .int j, .int c] => @ite _ (c ≠ 0 ∧ c.natAbs < 1073741824 ∧ Builtin.Range.small i j c = true ∧ 0 ≤ Builtin.Range.rangeSize i j c) (Classical.propDecidable _) (.ok (stepFrom i c (Builtin.Range.rangeSize i j c).toNat, none, []) M3) .stk
  | _ => .stk
def asS (x : D) (M1 : Mem) : Out XI := match x with
  | .tup xs => .ok (xs, none, []) M1
  | .fz xs => .ok (xs, none, []) M1
  | .loc n => (match M1[n]? with
    | some (.lst xs) => .ok (xs, some n, xs) M1
    | _ => .stk)
  | _ => .stk
def asE (x : D) (M1 : Mem) : Out XI := match x with
  | .tup xs => .ok (pairUp 0 xs, none, []) M1
  | .fz xs => .ok (pairUp 0 xs, none, []) M1
  | .loc n => (match M1[n]? with
    | some (.lst xs) => .ok (pairUp 0 xs, some n, xs) M1
    | _ => .stk)
  | _ => .stk
theorem asR1_ok {j : Int} (h : -(2 ^ 62) ≤ j ∧ j < 2 ^ 62) : asR1 (.int j) M = .ok (upFrom 0 j.toNat, none, []) M := if_pos h
theorem asR1_nat {j : Nat} (h : j < 2 ^ 62) : asR1 (.int (j : Int)) M = .ok (upFrom 0 j, none, []) M := by
  rw [asR1_ok (by omega), Int.toNat_natCast]
theorem asR2_ok {i j : Int} (h : -(2 ^ 62) ≤ i ∧ i < 2 ^ 62 ∧ -(2 ^ 62) ≤ j ∧ j < 2 ^ 62) : asR2 (.int i) (.int j) M = .ok (upFrom i (j - i).toNat, none, []) M := if_pos h
theorem asS_tup {xs : List D} : asS (.tup xs) M = .ok (xs, none, []) M := Eq.trans rfl rfl
theorem asS_fz {xs : List D} : asS (.fz xs) M = .ok (xs, none, []) M := Eq.trans rfl rfl
theorem asS_lst {xs : List D} {n : Nat} (h : M[n]? = some (.lst xs)) : asS (.loc n) M = .ok (xs, some n, xs) M := by
  unfold asS
  simp only [h]
theorem asE_tup {xs : List D} : asE (.tup xs) M = .ok (pairUp 0 xs, none, []) M := Eq.trans rfl rfl
theorem asE_fz {xs : List D} : asE (.fz xs) M = .ok (pairUp 0 xs, none, []) M := Eq.trans rfl rfl
theorem asE_lst {xs : List D} {n : Nat} (h : M[n]? = some (.lst xs)) : asE (.loc n) M = .ok (pairUp 0 xs, some n, xs) M := by
  unfold asE
  simp only [h]
variable {KI : XI → Mem → Prop}
theorem wi_range1 {f : Xp} : wpo (iRange1 f r M) KI E = wpo (f r M) (fun x M1 => wpo (asR1 x M1) KI E) E := by
  unfold iRange1; rw [wpo_bind]; rfl
theorem wi_range2 {f g : Xp} : wpo (iRange2 f g r M) KI E = wpo (f r M) (fun x M1 => wpo (g r M1) (fun y M2 => wpo (asR2 x y M2) KI E) E) E := by
  unfold iRange2; rw [wpo_bind]; congr; funext a M1; rw [wpo_bind]; rfl
theorem wi_range3 {t : Xa} : wpo (iRange3 t r M) KI E = wpo (t r M) (fun ds M1 => wpo (asR3 ds M1) KI E) E := by
  unfold iRange3; rw [wpo_bind]; rfl
theorem wi_seq {f : Xp} : wpo (iSeq f r M) KI E = wpo (f r M) (fun x M1 => wpo (asS x M1) KI E) E := by
  unfold iSeq; rw [wpo_bind]; rfl
theorem wi_enum {f : Xp} : wpo (iEnum f r M) KI E = wpo (f r M) (fun x M1 => wpo (asE x M1) KI E) E := by
  unfold iEnum; rw [wpo_bind]; rfl
theorem for_inv {n : Option Nat} {ys : List D} {t : Tg} (I : Nat → Ev → Mem → Prop) : ∀ (xs : List D) (i : Nat) {r : Ev} {M : Mem}, I i r M →
    (∀ k r M, I k r M → stands M n ys) →
    (∀ k x r M, xs[k]? = some x → I (i + k) r M → wps (t x r M) (fun o => match o with | .nx r1 M1 => wps (s r1 M1) (lq (I (i + k + 1)) Q) | _ => False)) →
    (∀ r M, I (i + xs.length) r M → Q (.nx r M)) → wps (forL n ys t s xs r M) Q
  | [], i, r, M, h, hs, hb, he => by
    unfold forL
    rw [if_pos (hs i r M h)]
    exact he r M h
  | x :: rest, i, r, M, h, hs, hb, he => by
    unfold forL
    rw [if_pos (hs i r M h)]
    have b := hb 0 x r M rfl h
    have ih : ∀ r M, I (i + 1) r M → wps (forL n ys t s rest r M) Q := fun r M h' =>
      for_inv I rest (i + 1) h' hs (fun k x r M e hI => by
        have b := hb (k + 1) x r M (by simpa using e) (by rw [show i + (k + 1) = i + 1 + k by omega]; exact hI)
        rw [show i + (k + 1) + 1 = i + 1 + k + 1 by omega] at b
        exact b) (fun r M hI => he r M (by rw [List.length_cons, show i + (rest.length + 1) = i + 1 + rest.length by omega]; exact hI))
    cases e1 : t x r M with
    | nx r1 M1 =>
      rw [e1] at b
      have b : wps (s r1 M1) (lq (I (i + 0 + 1)) Q) := b
      dsimp only
      cases e2 : s r1 M1 with
      | nx r2 M2 => rw [e2] at b; exact ih r2 M2 b
      | ct r2 M2 => rw [e2] at b; exact ih r2 M2 b
      | bk r2 M2 => rw [e2] at b; exact b
      | rt d M2 => rw [e2] at b; exact b
      | er c fs r2 M2 => rw [e2] at b; exact b
      | stk => rw [e2] at b; exact b.elim
    | stk => rw [e1] at b; exact b.elim
    | rt _ _ => rw [e1] at b; exact b.elim
    | bk _ _ => rw [e1] at b; exact b.elim
    | ct _ _ => rw [e1] at b; exact b.elim
    | er _ _ _ _ => rw [e1] at b; exact b.elim
theorem for_i0 {t : Tg} (I : Nat → Ev → Mem → Prop) {xs : List D} {ys : List D} (h : I 0 r M)
    (hb : ∀ k x r M, xs[k]? = some x → I k r M → wps (t x r M) (fun o => match o with | .nx r1 M1 => wps (s r1 M1) (lq (I (k + 1)) Q) | _ => False))
    (he : ∀ r M, I xs.length r M → Q (.nx r M)) : wps (forL none ys t s xs r M) Q :=
  for_inv I xs 0 h (fun _ _ _ _ => trivial) (fun k x r M e hI => by
    rw [Nat.zero_add] at hI
    have := hb k x r M e hI
    rw [Nat.zero_add]
    exact this) (fun r M hI => he r M (by rw [Nat.zero_add] at hI; exact hI))
theorem for_up (I : Nat → Ev → Mem → Prop) {v : Nat} {m : Nat} {lo : Int} {ys : List D} (h : I 0 r M)
    (hb : ∀ k r M, k < m → I k r M → wps (s (r.set v (some (.int (lo + (k : Int))))) M) (lq (I (k + 1)) Q))
    (he : ∀ r M, I m r M → Q (.nx r M)) : wps (forL none ys (tName v) s (upFrom lo m) r M) Q := by
  have hl : ∀ (m : Nat) (lo : Int), (upFrom lo m).length = m := by
    intro m
    induction m with
    | zero => intro lo; rfl
    | succ m ih => intro lo; rw [upFrom, List.length_cons, ih]
  have hg : ∀ (m : Nat) (lo : Int) (k : Nat) (x : D), (upFrom lo m)[k]? = some x → k < m ∧ x = .int (lo + (k : Int)) := by
    intro m
    induction m with
    | zero => intro lo k x e; simp [upFrom] at e
    | succ m ih =>
      intro lo k x e
      cases k with
      | zero =>
        simp [upFrom] at e
        subst e
        exact ⟨by omega, by simp⟩
      | succ k =>
        rw [upFrom, List.getElem?_cons_succ] at e
        obtain ⟨a, b⟩ := ih (lo + 1) k x e
        refine ⟨by omega, ?_⟩
        rw [b]
        congr 1
        omega
  refine for_i0 I h (fun k x r M e hI => ?_) (fun r M hI => he r M (by rw [hl] at hI; exact hI))
  obtain ⟨a, rfl⟩ := hg m lo k x e
  exact hb k r M a hI
theorem while_i {c : Xb} (I : Nat → Ev → Mem → Prop) : ∀ (k : Nat) {r : Ev} {M : Mem}, I k r M →
    (∀ k r M, I k r M → wpo (c r M) (fun b M1 => if b = true then wps (s r M1) (lq (fun r M => ∃ j, j < k ∧ I j r M) Q) else Q (.nx r M1)) (fun c fs M1 => Q (.er c fs r M1))) → wps (sWhile c s r M) Q := by
  intro k r M h hb
  have key : ∀ (k : Nat) (r : Ev) (M : Mem), I k r M → ∃ n, wps (whL c s n r M) Q := by
    intro k
    induction k using Nat.strongRecOn with
    | ind k ih =>
      intro r M h
      have b := hb k r M h
      cases e1 : c r M with
      | stk => rw [e1] at b; exact b.elim
      | err a fs M1 =>
        rw [e1] at b
        exact ⟨1, by unfold whL; rw [e1]; exact b⟩
      | ok v M1 =>
        rw [e1] at b
        have b : (if v = true then wps (s r M1) (lq (fun r M => ∃ j, j < k ∧ I j r M) Q) else Q (.nx r M1)) := b
        cases v with
        | false => exact ⟨1, by unfold whL; rw [e1]; exact b⟩
        | true =>
          rw [if_pos rfl] at b
          cases e2 : s r M1 with
          | stk => rw [e2] at b; exact b.elim
          | nx r2 M2 =>
            rw [e2] at b
            obtain ⟨j, hj, hI⟩ := b
            obtain ⟨n, hn⟩ := ih j hj r2 M2 hI
            exact ⟨n + 1, by unfold whL; rw [e1]; simp only [toS_ok, if_true, e2]; exact hn⟩
          | ct r2 M2 =>
            rw [e2] at b
            obtain ⟨j, hj, hI⟩ := b
            obtain ⟨n, hn⟩ := ih j hj r2 M2 hI
            exact ⟨n + 1, by unfold whL; rw [e1]; simp only [toS_ok, if_true, e2]; exact hn⟩
          | bk r2 M2 => rw [e2] at b; exact ⟨1, by unfold whL; rw [e1]; simp only [toS_ok, if_true, e2]; exact b⟩
          | rt d M2 => rw [e2] at b; exact ⟨1, by unfold whL; rw [e1]; simp only [toS_ok, if_true, e2]; exact b⟩
          | er a fs r2 M2 => rw [e2] at b; exact ⟨1, by unfold whL; rw [e1]; simp only [toS_ok, if_true, e2]; exact b⟩
  obtain ⟨n, hn⟩ := key k r M h
  have e : sWhile c s r M = whL c s n r M := while_of n rfl (fun z => by rw [z] at hn; exact hn)
  rw [e]
  exact hn
theorem lc_inv {n : Option Nat} {ys : List D} {t : Tg} {c : Xb} {f : Xp} (I : List D → Mem → Prop) : ∀ (xs : List D) (i : Nat) (acc : List D) {M : Mem} {KA : List D → Mem → Prop}, I acc M →
    (∀ acc M, I acc M → stands M n ys) →
    (∀ (k : Nat) x acc M, xs[k]? = some x → I acc M → wps (t x r M) (fun o => match o with | .nx r1 M1 => wpo (c r1 M1) (fun b M2 => if b = true then wpo (f r1 M2) (fun d M3 => I (acc ++ [d]) M3) noE else I acc M2) noE | _ => False)) →
    (∀ ds M, I ds M → KA ds M) → wpo (lcL n ys t c f r xs M) (fun ds M => KA (acc ++ ds) M) noE
  | [], i, acc, M, KA, h, hs, hb, he => by
    unfold lcL
    rw [if_pos (hs _ _ h)]
    show KA (acc ++ []) M
    rw [List.append_nil]
    exact he _ _ h
  | x :: rest, i, acc, M, KA, h, hs, hb, he => by
    unfold lcL
    rw [if_pos (hs _ _ h)]
    have b := hb 0 x acc M rfl h
    have ih : ∀ acc M, I acc M → wpo (lcL n ys t c f r rest M) (fun ds M => KA (acc ++ ds) M) noE := fun acc M h' =>
      lc_inv I rest (i + 1) acc h' hs (fun (k : Nat) x acc M e hI => hb (k + 1) x acc M (by simpa using e) hI) he
    cases e1 : t x r M with
    | nx r1 M1 =>
      rw [e1] at b
      have b : wpo (c r1 M1) (fun b M2 => if b = true then wpo (f r1 M2) (fun d M3 => I (acc ++ [d]) M3) noE else I acc M2) noE := b
      dsimp only
      cases e2 : c r1 M1 with
      | ok v M2 =>
        rw [e2] at b
        have b : (if v = true then wpo (f r1 M2) (fun d M3 => I (acc ++ [d]) M3) noE else I acc M2) := b
        cases v with
        | false => exact ih acc M2 b
        | true =>
          rw [if_pos rfl] at b
          simp only [if_true]
          cases e3 : f r1 M2 with
          | ok d M3 =>
            rw [e3] at b
            have q := ih _ M3 b
            simp only
            cases e4 : lcL n ys t c f r rest M3 with
            | ok ds M4 =>
              rw [e4] at q
              have q : KA (acc ++ [d] ++ ds) M4 := q
              rw [List.append_assoc] at q
              exact q
            | err _ _ _ => rw [e4] at q; exact q.elim
            | stk => rw [e4] at q; exact q.elim
          | err _ _ _ => rw [e3] at b; exact b.elim
          | stk => rw [e3] at b; exact b.elim
      | err _ _ _ => rw [e2] at b; exact b.elim
      | stk => rw [e2] at b; exact b.elim
    | stk => rw [e1] at b; exact b.elim
    | rt _ _ => rw [e1] at b; exact b.elim
    | bk _ _ => rw [e1] at b; exact b.elim
    | ct _ _ => rw [e1] at b; exact b.elim
    | er _ _ _ _ => rw [e1] at b; exact b.elim
theorem lc_mapf {α : Type} {n : Option Nat} {ys : List D} {t : Tg} {c : Xb} {f : Xp} (g : α → D) (p : α → Bool) (φ : α → D) (hs : stands M n ys) : ∀ xs : List α, (∀ x ∈ xs, ∃ r1, t (g x) r M = .nx r1 M ∧ c r1 M = .ok (p x) M ∧ (p x = true → f r1 M = .ok (φ x) M)) → lcL n ys t c f r (xs.map g) M = .ok ((xs.filter p).map φ) M
  | [], _ => by
    rw [List.map_nil, lcL, if_pos hs]
    rfl
  | x :: rest, h => by
    obtain ⟨r1, e1, e2, e3⟩ := h x (by simp)
    have ih := lc_mapf g p φ hs rest fun y hy => h y (by simp [hy])
    rw [List.map_cons, lcL, if_pos hs]
    cases hp : p x with
    | true =>
      have e3 := e3 hp
      rw [hp] at e2
      simp only [e1, e2, if_true, e3, ih, List.filter_cons, hp, List.map_cons]
    | false =>
      rw [hp] at e2
      simp only [e1, e2, Bool.false_eq_true, if_false, ih, List.filter_cons, hp]
theorem lc_map1 {α : Type} {n : Option Nat} {ys : List D} {t : Tg} {f : Xp} (g : α → D) (φ : α → D) (hs : stands M n ys) (xs : List α) (h : ∀ x ∈ xs, ∃ r1, t (g x) r M = .nx r1 M ∧ f r1 M = .ok (φ x) M) : lcL n ys t bTrue f r (xs.map g) M = .ok (xs.map φ) M := by
  have := lc_mapf (c := bTrue) g (fun _ => true) φ hs xs fun x hx => by
    obtain ⟨r1, e1, e2⟩ := h x hx
    exact ⟨r1, e1, rfl, fun _ => e2⟩
  rwa [List.filter_eq_self.mpr (by simp)] at this
theorem w_lcE {it : Xi} {t : Tg} {c : Xb} {f : Xp} {own : List Nat} {M1 M2 : Mem} {n : Option Nat} {xs ys ds : List D} (h : it r M = .ok (xs, n, ys) M1) (h2 : lcL n ys t c f (wipeE r own) xs M1 = .ok ds M2) (h3 : ds.length ≤ 16777216) : xLc it t c f own r M = .ok (.loc M2.length) (M2 ++ [.lst ds]) := by
  unfold xLc
  rw [h, bind_ok]
  simp only [h2]
  exact if_pos h3
theorem w_lc {it : Xi} {t : Tg} {c : Xb} {f : Xp} {own : List Nat} {K : D → Mem → Prop} (h : wpo (it r M) (fun p M1 => wpo (lcL p.2.1 p.2.2 t c f (wipeE r own) p.1 M1) (fun ds M2 => ds.length ≤ 16777216 ∧ K (.loc M2.length) (M2 ++ [.lst ds])) noE) E) : wpo (xLc it t c f own r M) K E := by
  unfold xLc
  rw [wpo_bind]
  refine wpo_mono h (fun p M1 h => ?_) (fun _ _ _ => id)
  cases e : lcL p.2.1 p.2.2 t c f (wipeE r own) p.1 M1 with
  | ok ds M2 =>
    rw [e] at h
    simp only
    rw [if_pos h.1]
    exact h.2
  | err _ _ _ => rw [e] at h; exact h.elim
  | stk => rw [e] at h; exact h.elim
end

section
variable {M : Mem}
theorem ix0 {a : D} {r : List D} : oIx (.tup (a :: r)) (.int 0) M = .ok a M := ix_tup (i := 0) rfl
theorem ix1 {a b : D} {r : List D} : oIx (.tup (a :: b :: r)) (.int 1) M = .ok b M := ix_tup (i := 1) rfl
theorem ix2 {a b c : D} {r : List D} : oIx (.tup (a :: b :: c :: r)) (.int 2) M = .ok c M := ix_tup (i := 2) rfl
theorem ix3 {a b c d : D} {r : List D} : oIx (.tup (a :: b :: c :: d :: r)) (.int 3) M = .ok d M := ix_tup (i := 3) rfl
theorem ix4 {a b c d e : D} {r : List D} : oIx (.tup (a :: b :: c :: d :: e :: r)) (.int 4) M = .ok e M := ix_tup (i := 4) rfl
theorem ix5 {a b c d e f : D} {r : List D} : oIx (.tup (a :: b :: c :: d :: e :: f :: r)) (.int 5) M = .ok f M := ix_tup (i := 5) rfl
theorem isi_int {i : Int} : oIsi .int (.int i) M = .ok (.bl true) M := by simp [oIsi, isTy]
theorem isi_nbl {i : Int} : oIsi .bool (.int i) M = .ok (.bl false) M := by simp [oIsi, isTy]
theorem isi_tup {xs : List D} : oIsi .tuple (.tup xs) M = .ok (.bl true) M := by simp [oIsi, isTy]
theorem isi_str {i : Str} : oIsi .str (.str i) M = .ok (.bl true) M := by simp [oIsi, isTy]
theorem eqs_ok {x y : Str} : oEq (.str x) (.str y) M = .ok (.bl (decide (x = y))) M := Eq.trans rfl rfl
theorem nes_ok {x y : Str} : oNe (.str x) (.str y) M = .ok (.bl (!decide (x = y))) M := Eq.trans rfl rfl
end
end PV

set_option Elab.async false
set_option linter.all false
set_option maxRecDepth 10000

namespace PV
open PySem
structure Pd (M : Mem) (x : D) (p : PyData) (d n : Nat) : Prop where
  py : ∀ k, d ≤ k → toPy M k x = some p
  s : p.showable = true
  nd : p.hasDict = false
  dp : p.depth + 1 ≤ d
  w : wt p ≤ n
  lay : p.canLay0 = true
structure PdA (M : Mem) (xs : List D) (ps : List PyData) (d n : Nat) : Prop where
  py : ∀ k, d ≤ k → xs.mapM (toPy M k) = some ps
  s : PyData.showableAll ps = true
  nd : PyData.hasDictAll ps = false
  dp : PyData.depthAll ps + 1 ≤ d
  w : wtAll ps ≤ n
  lay : PyData.canLayAll0 ps = true
section
variable {M : Mem} {x y : D} {xs ys : List D} {p q : PyData} {ps qs : List PyData} {d d' n n' : Nat}
theorem Pd.non : Pd M .non .none 1 4 := ⟨fun k h => by
  obtain ⟨k, rfl⟩ : ∃ j, k = j + 1 := ⟨k - 1, by omega⟩
  rfl, by simp [PyData.showable], by simp [PyData.hasDict], by simp [PyData.depth], by simp [wt], by simp [PyData.canLay0]⟩
theorem Pd.bl (b : Bool) : Pd M (.bl b) (.bool b) 1 5 := ⟨fun k h => by
  obtain ⟨k, rfl⟩ : ∃ j, k = j + 1 := ⟨k - 1, by omega⟩
  rfl, by simp [PyData.showable], by simp [PyData.hasDict], by simp [PyData.depth], by simp [wt], by simp [PyData.canLay0]⟩
theorem Pd.int (i : Int) (h : i.natAbs < 2 ^ 1000) : Pd M (.int i) (.int i) 1 1002 := by
  have hl : i.natAbs.log2 ≤ 1000 := by
    by_cases z : i.natAbs = 0
    · rw [z]; decide
    · exact Nat.le_of_lt ((Nat.log2_lt z).mpr h)
  refine ⟨fun k h => ?_, ?_, by simp [PyData.hasDict], by simp [PyData.depth], ?_, by simp [PyData.canLay0]⟩
  · obtain ⟨k, rfl⟩ : ∃ j, k = j + 1 := ⟨k - 1, by omega⟩
    rfl
  · simp only [PyData.showable, decide_eq_true_eq]
    omega
  · simp only [wt]
    omega
theorem Pd.nat (i : Nat) (h : i < 2 ^ 1000) : Pd M (.int (i : Nat)) (.int (i : Nat)) 1 1002 := Pd.int _ (by rw [Int.natAbs_natCast]; exact h)
theorem Pd.str (t : Str) (h : (reprText t).length ≤ n) (hl : PyData.canLay0 (.str t) = true) : Pd M (.str t) (.str t) 1 n := ⟨fun k h => by
  obtain ⟨k, rfl⟩ : ∃ j, k = j + 1 := ⟨k - 1, by omega⟩
  rfl, by simp [PyData.showable], by simp [PyData.hasDict], by simp [PyData.depth], by simpa [wt] using h, hl⟩
theorem PdA.nil : PdA M [] [] 1 0 := ⟨fun _ _ => rfl, by simp [PyData.showableAll], by simp [PyData.hasDictAll], by simp [PyData.depthAll], by simp [wtAll], by simp [PyData.canLayAll0]⟩
theorem PdA.cons (h : Pd M x p d n) (t : PdA M xs ps d' n') : PdA M (x :: xs) (p :: ps) (max d d') (n + 2 + n') := by
  refine ⟨fun k hk => ?_, by simp [PyData.showableAll, h.s, t.s], by simp [PyData.hasDictAll, h.nd, t.nd], ?_, ?_, by simp [PyData.canLayAll0, h.lay, t.lay]⟩
  · rw [List.mapM_cons, h.py k (by omega), t.py k (by omega)]
    rfl
  · have := h.dp
    have := t.dp
    simp only [PyData.depthAll]
    omega
  · have := h.w
    have := t.w
    simp only [wtAll]
    omega
theorem PdA.up (h : PdA M xs ps d n) (hd : d ≤ d') (hn : n ≤ n') : PdA M xs ps d' n' := ⟨fun k hk => h.py k (by omega), h.s, h.nd, Nat.le_trans h.dp hd, Nat.le_trans h.w hn, h.lay⟩
theorem Pd.up (h : Pd M x p d n) (hd : d ≤ d') (hn : n ≤ n') : Pd M x p d' n' := ⟨fun k hk => h.py k (by omega), h.s, h.nd, Nat.le_trans h.dp hd, Nat.le_trans h.w hn, h.lay⟩
theorem Pd.tup (h : PdA M xs ps d n) : Pd M (.tup xs) (.tuple ps) (d + 1) (n + 3) := by
  refine ⟨fun k hk => ?_, by simpa [PyData.showable] using h.s, by simpa [PyData.hasDict] using h.nd, ?_, ?_, by simpa [PyData.canLay0] using h.lay⟩
  · obtain ⟨k, rfl⟩ : ∃ j, k = j + 1 := ⟨k - 1, by omega⟩
    rw [toPy, h.py k (by omega)]
    rfl
  · have := h.dp
    simp only [PyData.depth]
    omega
  · have := h.w
    simp only [wt]
    omega
theorem Pd.lst {k : Nat} (e : M[k]? = some (.lst xs)) (h : PdA M xs ps d n) : Pd M (.loc k) (.list ps) (d + 1) (n + 3) := by
  refine ⟨fun k hk => ?_, by simpa [PyData.showable] using h.s, by simpa [PyData.hasDict] using h.nd, ?_, ?_, by simpa [PyData.canLay0] using h.lay⟩
  · obtain ⟨k, rfl⟩ : ∃ j, k = j + 1 := ⟨k - 1, by omega⟩
    rw [toPy]
    simp only [e, h.py k (by omega), Option.map_some]
  · have := h.dp
    simp only [PyData.depth]
    omega
  · have := h.w
    simp only [wt]
    omega
theorem PdA.map {α : Type} {f : α → D} {g : α → PyData} : ∀ {l : List α}, (∀ x ∈ l, Pd M (f x) (g x) d n) → 1 ≤ d → PdA M (l.map f) (l.map g) d ((n + 2) * l.length)
  | [], _, hd => PdA.nil.up hd (Nat.zero_le _)
  | x :: r, h, hd => by
    have := PdA.cons (h x (by simp)) (PdA.map (l := r) (fun y hy => h y (by simp [hy])) hd)
    rw [Nat.max_self] at this
    refine this.up (Nat.le_refl _) ?_
    rw [List.length_cons, Nat.mul_succ]
    omega
theorem Pd.fit (h : Pd M x p d n) (hd : d ≤ 24) (hn : n ≤ 16777216) : Fit p 24 := ⟨h.s, h.nd, by have := h.dp; omega, Nat.le_trans h.w hn⟩
theorem eq_pd (h : Pd M x p d n) (h2 : Pd M y p d' n') (hd : d ≤ 24) (hd' : d' ≤ 24) : toPy M DEPTH x = some p ∧ toPy M DEPTH y = some p := ⟨h.py _ hd, h2.py _ hd'⟩
theorem PdA.app (h : PdA M xs ps d n) (t : PdA M ys qs d' n') : PdA M (xs ++ ys) (ps ++ qs) (max d d') (n + n') := by
  obtain ⟨h1, h2, h3, h4, h5, h6⟩ := h
  obtain ⟨t1, t2, t3, t4, t5, t6⟩ := t
  have g : ∀ ps : List PyData, (PyData.showableAll (ps ++ qs) = (PyData.showableAll ps && PyData.showableAll qs)) ∧ (PyData.hasDictAll (ps ++ qs) = (PyData.hasDictAll ps || PyData.hasDictAll qs)) ∧ PyData.depthAll (ps ++ qs) = max (PyData.depthAll ps) (PyData.depthAll qs) ∧ wtAll (ps ++ qs) = wtAll ps + wtAll qs ∧ PyData.canLayAll0 (ps ++ qs) = (PyData.canLayAll0 ps && PyData.canLayAll0 qs) := by
    intro ps
    induction ps with
    | nil => simp [PyData.showableAll, PyData.hasDictAll, PyData.depthAll, wtAll, PyData.canLayAll0]
    | cons a r ih =>
      obtain ⟨i1, i2, i3, i4, i5⟩ := ih
      refine ⟨?_, ?_, ?_, ?_, by simp only [List.cons_append, PyData.canLayAll0, i5, Bool.and_assoc]⟩
      · simp only [List.cons_append, PyData.showableAll, i1, Bool.and_assoc]
      · simp only [List.cons_append, PyData.hasDictAll, i2, Bool.or_assoc]
      · simp only [List.cons_append, PyData.depthAll, i3]
        omega
      · simp only [List.cons_append, wtAll, i4]
        omega
  obtain ⟨g1, g2, g3, g4, g5⟩ := g ps
  refine ⟨fun k hk => ?_, by rw [g1, h2, t2]; rfl, by rw [g2, h3, t3]; rfl, by rw [g3]; omega, by rw [g4]; omega, by rw [g5, h6, t6]; rfl⟩
  have a := h1 k (by omega)
  have b := t1 k (by omega)
  clear h1 h2 h3 h4 h5 h6 g1 g2 g3 g4 g5
  induction xs generalizing ps with
  | nil =>
    simp at a
    subst a
    exact b
  | cons x r ih =>
    rw [List.mapM_cons] at a
    rw [List.cons_append, List.mapM_cons]
    cases e : toPy M k x with
    | none => rw [e] at a; cases a
    | some v =>
      rw [e] at a
      cases e2 : r.mapM (toPy M k) with
      | none => rw [e2] at a; cases a
      | some vs =>
        rw [e2] at a
        cases a
        rw [ih e2]
        rfl
theorem Pd.shaped (h : Pd M x p d n) (hd : d ≤ 24) : SeqAt.shaped p = true := by
  have := h.dp
  unfold SeqAt.shaped
  rw [h.lay, Bool.true_and, decide_eq_true_eq]
  omega
theorem eq_of (h : Pd M x p d n) (h2 : Pd M y q d' n') (hd : d ≤ 24 := by decide) (hd' : d' ≤ 24 := by decide) : oEq x y M = .ok (.bl (PyData.eqv p q)) M := by
  have e1 := h.py DEPTH hd
  have e2 := h2.py DEPTH hd'
  unfold oEq
  split
  · cases e1
    cases e2
    simp only [PyData.eqv]
    congr 2
  · cases e1
    cases e2
    simp only [PyData.eqv]
    congr 2
  · simp only [e1, e2, h.shaped hd, h2.shaped hd', and_self, if_true]
theorem ne_of' (h : Pd M x p d n) (h2 : Pd M y q d' n') (hd : d ≤ 24 := by decide) (hd' : d' ≤ 24 := by decide) : oNe x y M = .ok (.bl (!PyData.eqv p q)) M := by
  have e1 := h.py DEPTH hd
  have e2 := h2.py DEPTH hd'
  unfold oNe
  split
  · cases e1
    cases e2
    simp only [PyData.eqv]
    congr 2
  · cases e1
    cases e2
    simp only [PyData.eqv]
    congr 2
  · simp only [e1, e2, h.shaped hd, h2.shaped hd', and_self, if_true]
theorem eqv_nil (ps : List PyData) : PyData.eqv (.list ps) (.list []) = ps.isEmpty := by
  cases ps <;> simp [PyData.eqv, PyData.eqvAll]
end
end PV

set_option Elab.async false
set_option linter.all false
set_option maxHeartbeats 2000000

namespace PV
open PySem
theorem upFrom_len0 : ∀ (n : Nat) (lo : Int), (upFrom lo n).length = n
  | 0, _ => rfl
  | n + 1, lo => by rw [upFrom, List.length_cons, upFrom_len0 n]
section
variable {M : Mem} {n : Nat} {xs : List D} {kvs : List (Sum Int Str × D)} {d : D}
theorem isDct_lst (h : M[n]? = some (.lst xs)) : isDct (.loc n) M = false := by
  unfold isDct
  simp only [h]
theorem isDct_dct (h : M[n]? = some (.dct kvs)) : isDct (.loc n) M = true := by
  unfold isDct
  simp only [h]
theorem ixU_lst {y : D} (h : M[n]? = some (.lst xs)) : oIxU (.loc n) y M = oIx (.loc n) y M := by
  unfold oIxU
  rw [isDct_lst h]
  rfl
theorem ixU_tup {y : D} : oIxU (.tup xs) y M = oIx (.tup xs) y M := rfl
theorem ixU_at {i : Nat} (h : M[n]? = some (.lst xs)) (hi : xs[i]? = some d) : oIxU (.loc n) (.int (i : Nat)) M = .ok d M := by
  rw [ixU_lst h, ix_lst h hi]
theorem ixU_kv {k : Int} (h : M[n]? = some (.dct kvs)) (hk : kvAt kvs (.inl k) = some d) : oIxU (.loc n) (.int k) M = .ok d M := by
  unfold oIxU
  rw [isDct_dct h, if_pos rfl]
  unfold oIxD
  simp only [h, keyOf, hk]
theorem ixD_kv {k : Str} (h : M[n]? = some (.dct kvs)) (hk : kvAt kvs (.inr k) = some d) : oIxD (.loc n) (.str k) M = .ok d M := by
  unfold oIxD
  simp only [h, keyOf, hk]
theorem setIx_at {i : Nat} {v : D} (h : M[n]? = some (.lst xs)) (hi : i < xs.length) : setIx (.loc n) (.int (i : Nat)) v M = some (M.set n (.lst (xs.set i v))) := by
  unfold setIx
  simp only [h]
  have e : ixAt xs.length (i : Nat) = some i := by
    unfold ixAt
    rw [if_pos (by omega), if_pos (by omega)]
    rfl
  rw [e]
theorem setU_at {i : Nat} {v : D} (h : M[n]? = some (.lst xs)) (hi : i < xs.length) : setU (.loc n) (.int (i : Nat)) v M = some (M.set n (.lst (xs.set i v))) := by
  unfold setU
  rw [isDct_lst h, if_neg Bool.false_ne_true, setIx_at h hi]
theorem setKv_s {k : Str} {v : D} (h : M[n]? = some (.dct kvs)) (hl : kvs.length < 16777216) : setKv (.loc n) (.str k) v M = some (M.set n (.dct (kvPut kvs (.inr k) v))) := by
  unfold setKv
  simp only [keyOf, h]
  exact if_pos hl
theorem setU_kv {k : Int} {v : D} (h : M[n]? = some (.dct kvs)) (hl : kvs.length < 16777216) : setU (.loc n) (.int k) v M = some (M.set n (.dct (kvPut kvs (.inl k) v))) := by
  unfold setU
  rw [isDct_dct h, if_pos rfl]
  unfold setKv
  simp only [keyOf, h]
  exact if_pos hl
theorem app_ok {y : D} (h : M[n]? = some (.lst xs)) (hl : xs.length < 16777216) : mAppend (.loc n) y M = .ok .non (M.set n (.lst (xs ++ [y]))) := append_at y h hl
theorem inU_dct {neg : Bool} {k : Int} (h : M[n]? = some (.dct kvs)) : oInU neg (.int k) (.loc n) M = .ok (.bl (if neg then !(kvAt kvs (.inl k)).isSome else (kvAt kvs (.inl k)).isSome)) M := by
  unfold oInU
  rw [isDct_dct h, if_pos rfl]
  unfold oInK kvsOf
  simp only [h, keyOf]
end
theorem min_nat {a b : Nat} {M : Mem} : fMin2 [.int (a : Nat), .int (b : Nat)] M = .ok (.int ((min a b : Nat) : Int)) M := by
  have e : (if (b : Int) < (a : Int) then (b : Int) else (a : Int)) = ((min a b : Nat) : Int) := by split <;> omega
  show Out.ok (D.int (if (b : Int) < (a : Int) then (b : Int) else (a : Int))) M = _
  rw [e]
theorem max_nat {a b : Nat} {M : Mem} : fMax2 [.int (a : Nat), .int (b : Nat)] M = .ok (.int ((max a b : Nat) : Int)) M := by
  have e : (if (b : Int) > (a : Int) then (b : Int) else (a : Int)) = ((max a b : Nat) : Int) := by split <;> omega
  show Out.ok (D.int (if (b : Int) > (a : Int) then (b : Int) else (a : Int))) M = _
  rw [e]
theorem cut_drop {xs : List D} {i : Nat} (h : i ≤ xs.length) : cutD xs (some (i : Nat)) none = xs.drop i := by
  have e1 : clip xs.length 0 (some (i : Nat)) = i := by
    unfold clip
    simp only
    rw [if_neg (by omega)]
    omega
  have e2 : clip xs.length xs.length none = xs.length := rfl
  unfold cutD
  rw [e1, e2]
  exact List.take_of_length_le (by simp)
theorem cut_take {xs : List D} {i : Nat} (h : i ≤ xs.length) : cutD xs none (some (i : Nat)) = xs.take i := by
  have e1 : clip xs.length xs.length (some (i : Nat)) = i := by
    unfold clip
    simp only
    rw [if_neg (by omega)]
    omega
  have e2 : clip xs.length 0 none = 0 := rfl
  unfold cutD
  rw [e1, e2, List.drop_zero, Nat.sub_zero]
theorem sl_lst {lo hi : Option Int} {M : Mem} {n : Nat} {xs : List D} (h : M[n]? = some (.lst xs)) : sliced (.loc n) lo hi M = .ok (.loc M.length) (M ++ [.lst (cutD xs lo hi)]) := by
  unfold sliced
  simp only [h]
theorem sl_tup {lo hi : Option Int} {M : Mem} {xs : List D} : sliced (.tup xs) lo hi M = .ok (.tup (cutD xs lo hi)) M := Eq.trans rfl rfl
def dp (p : Nat × Nat) : D := .tup [.int (p.1 : Nat), .int (p.2 : Nat)]
def pp (p : Nat × Nat) : PyData := .tuple [.int (p.1 : Nat), .int (p.2 : Nat)]
theorem py_dp (M : Mem) (k : Nat) (p : Nat × Nat) : toPy M (k + 2) (dp p) = some (pp p) := by
  simp [dp, pp, toPy, List.mapM_cons]
theorem py_dps (M : Mem) (k : Nat) : ∀ ps : List (Nat × Nat), (ps.map dp).mapM (toPy M (k + 2)) = some (ps.map pp)
  | [] => rfl
  | p :: r => by
    rw [List.map_cons, List.mapM_cons, py_dp, py_dps M k r]
    rfl
theorem lay_pps : ∀ ps : List (Nat × Nat), PyData.canLayAll0 (ps.map pp) = true
  | [] => by simp [PyData.canLayAll0]
  | p :: r => by simp [PyData.canLayAll0, PyData.canLay0, pp, lay_pps r] <;> exact lay_pps r
theorem dep_pps : ∀ ps : List (Nat × Nat), PyData.depthAll (ps.map pp) ≤ 1
  | [] => by simp [PyData.depthAll]
  | p :: r => by
    have := dep_pps r
    simp only [List.map_cons, PyData.depthAll, pp, PyData.depth] at *
    omega
theorem shaped_pp (p : Nat × Nat) : SeqAt.shaped (pp p) = true := by
  simp [SeqAt.shaped, PyData.canLay0, PyData.canLayAll0, pp, PyData.depth, PyData.depthAll]
theorem shaped_pps (ps : List (Nat × Nat)) : SeqAt.shaped (.list (ps.map pp)) = true := by
  have h1 := lay_pps ps
  have h2 := dep_pps ps
  have h3 : PyData.depthAll (ps.map pp) + 1 ≤ 64 := by omega
  simp [SeqAt.shaped, PyData.canLay0, h1, PyData.depth]
  omega
theorem eqv_pp (p q : Nat × Nat) : PyData.eqv (pp p) (pp q) = decide (p = q) := by
  obtain ⟨a, b⟩ := p
  obtain ⟨c, d⟩ := q
  simp only [pp, PyData.eqv, PyData.eqvAll, Bool.and_true, Prod.mk.injEq]
  by_cases h1 : a = c <;> by_cases h2 : b = d <;> simp [h1, h2] <;> omega
theorem any_pp (p : Nat × Nat) : ∀ ps : List (Nat × Nat), ((ps.map pp).any fun z => PyData.eqv z (pp p)) = decide (p ∈ ps)
  | [] => by simp
  | q :: r => by
    rw [List.map_cons, List.any_cons, any_pp p r, eqv_pp]
    by_cases h : q = p
    · subst h
      simp
    · have : ¬ p = q := fun z => h z.symm
      simp [h, this]
theorem inU_pp {M : Mem} {n : Nat} {ps : List (Nat × Nat)} {neg : Bool} (a b : Nat) (h : M[n]? = some (.lst (ps.map dp))) : oInU neg (.tup [.int a, .int b]) (.loc n) M = .ok (.bl (if neg then !decide ((a, b) ∈ ps) else decide ((a, b) ∈ ps))) M := by
  unfold oInU
  rw [isDct_lst h, if_neg Bool.false_ne_true]
  have fl : flatIn (.tup [.int a, .int b]) (.loc n) M = false := by
    unfold flatIn
    cases rowOf (.loc n) M <;> rfl
  rw [fl, if_neg Bool.false_ne_true]
  unfold oInP
  have e1 : toPy M DEPTH (.tup [.int a, .int b]) = some (pp (a, b)) := py_dp M 22 (a, b)
  have e2 : toPy M DEPTH (.loc n) = some (.list (ps.map pp)) := by
    show toPy M (23 + 1) (.loc n) = _
    rw [toPy]
    simp only [h, py_dps M 21 ps, Option.map_some]
  simp only [e1, e2, shaped_pp, shaped_pps, and_self, if_true, any_pp]

section
variable {r : Ev} {M : Mem} {K : D → Mem → Prop} {E : EK} {n : Nat} {kvs : List (Sum Int Str × D)}
def asD (x : D) (M : Mem) : Out Unit := if isDct x M = true then .ok () M else .stk
def get2 (x y z : D) (M : Mem) : Out D := match kvsOf x M, keyOf y with
  | some kvs, some k => .ok ((kvAt kvs k).getD z) M
  | _, _ => .stk
theorem asD_ok (h : M[n]? = some (.dct kvs)) : asD (.loc n) M = .ok () M := by
  unfold asD
  rw [isDct_dct h, if_pos rfl]
theorem get2_ok {k : Int} {z : D} (h : M[n]? = some (.dct kvs)) : get2 (.loc n) (.int k) z M = .ok ((kvAt kvs (.inl k)).getD z) M := by
  unfold get2 kvsOf
  simp only [h, keyOf]
theorem get2_s {k : Str} {z : D} (h : M[n]? = some (.dct kvs)) : get2 (.loc n) (.str k) z M = .ok ((kvAt kvs (.inr k)).getD z) M := by
  unfold get2 kvsOf
  simp only [h, keyOf]
theorem w_get1 {f g : Xp} : wpo (xGet1 f g r M) K E = wpo (f r M) (fun x M1 => wpo (asD x M1) (fun _ M1 => wpo (g r M1) (fun y M2 => wpo (get2 x y .non M2) K E) E) E) E := by
  unfold xGet1
  rw [wpo_bind]
  congr
  funext a M1
  unfold asD
  by_cases h : isDct a M1 = true
  · simp only [h, if_true, wpo_ok]
    rw [wpo_bind]
    rfl
  · simp only [h, if_false]
    rfl
theorem w_get2 {f g h : Xp} : wpo (xGet2 f g h r M) K E = wpo (f r M) (fun x M1 => wpo (asD x M1) (fun _ M1 => wpo (g r M1) (fun y M2 => wpo (h r M2) (fun z M3 => wpo (get2 x y z M3) K E) E) E) E) E := by
  unfold xGet2
  rw [wpo_bind]
  congr
  funext a M1
  unfold asD
  by_cases h : isDct a M1 = true
  · simp only [h, if_true, wpo_ok]
    rw [wpo_bind]
    congr
    funext b M2
    rw [wpo_bind]
    rfl
  · simp only [h, if_false]
    rfl
theorem kvAt_put (k k' : Sum Int Str) (v : D) : ∀ kvs : List (Sum Int Str × D), kvAt (kvPut kvs k v) k' = if k' = k then some v else kvAt kvs k'
  | [] => by
    by_cases e : k' = k
    · subst e
      simp [kvPut, kvAt]
    · have e' : ¬ k = k' := fun z => e z.symm
      simp [kvPut, kvAt, e, e']
  | (a, b) :: r => by
    have ih := kvAt_put k k' v r
    by_cases c : a = k
    · subst c
      have any1 : (((a, b) :: r).any fun p => decide (p.1 = a)) = true := by simp
      unfold kvPut
      rw [if_pos any1, List.map_cons, if_pos rfl]
      by_cases e : k' = a
      · subst e
        simp [kvAt]
      · have e' : ¬ a = k' := fun z => e z.symm
        have h1 : ∀ x : D, kvAt ((a, x) :: r.map fun p => if p.1 = a then (p.1, v) else p) k' = kvAt (r.map fun p => if p.1 = a then (p.1, v) else p) k' := fun x => by
          unfold kvAt
          rw [List.find?_cons_of_neg (by simpa using e')]
        have h2 : kvAt ((a, b) :: r) k' = kvAt r k' := by
          unfold kvAt
          rw [List.find?_cons_of_neg (by simpa using e')]
        rw [h1, if_neg e, h2]
        clear ih any1 h1 h2
        induction r with
        | nil => rfl
        | cons p t iht =>
          obtain ⟨c, d⟩ := p
          rw [List.map_cons]
          by_cases q : c = k'
          · subst q
            have e2 : ¬ c = a := fun z => e z
            simp [kvAt, e2]
          · have h3 : ∀ x : D, ∀ l, kvAt ((c, x) :: l) k' = kvAt l k' := fun x l => by
              unfold kvAt
              rw [List.find?_cons_of_neg (by simpa using q)]
            split
            · rw [h3, h3, iht]
            · rw [h3, h3, iht]
    · have any1 : (((a, b) :: r).any fun p => decide (p.1 = k)) = (r.any fun p => decide (p.1 = k)) := by simp [c]
      have put1 : kvPut ((a, b) :: r) k v = (a, b) :: kvPut r k v := by
        unfold kvPut
        rw [any1]
        split
        · rw [List.map_cons, if_neg c]
        · rfl
      rw [put1]
      by_cases e : a = k'
      · subst e
        simp [kvAt, c]
      · have h3 : ∀ l, kvAt ((a, b) :: l) k' = kvAt l k' := fun l => by
          unfold kvAt
          rw [List.find?_cons_of_neg (by simpa using e)]
        rw [h3, h3, ih]
theorem kvPut_len (k : Sum Int Str) (v : D) (kvs : List (Sum Int Str × D)) : (kvPut kvs k v).length ≤ kvs.length + 1 := by
  unfold kvPut
  split
  · rw [List.length_map]
    omega
  · rw [List.length_append]
    exact Nat.le_refl _
end

section
variable {r : Ev} {M : Mem} {α : Type} {it : Xi} {t : Tg} {c : Xb} {own : List Nat} {n : Option Nat} {ys : List D} {g : α → D} {f : Xp} {p : α → Bool} {q : α → Int} {as : List α}
theorem lc_len (h : it r M = .ok (as.map g, n, ys) M) (hs : stands M n ys) (hx : ∀ x ∈ as, ∃ r1, t (g x) (wipeE r own) M = .nx r1 M ∧ c r1 M = .ok (p x) M ∧ (p x = true → f r1 M = .ok (.int (q x)) M)) (hl : as.length ≤ 16777216) :
    xLc it t c f own r M = .ok (.loc M.length) (M ++ [.lst ((as.filter p).map fun x => .int (q x))]) :=
  w_lcE h (lc_mapf g p (fun x => .int (q x)) hs as hx) (by
    rw [List.length_map]
    exact Nat.le_trans (List.length_filter_le _ _) hl)
theorem isEmpty_filter (p : α → Bool) : ∀ as : List α, ((as.filter p).map q).isEmpty = !(as.any p)
  | [] => rfl
  | x :: r => by
    rw [List.filter_cons, List.any_cons]
    cases p x with
    | true => simp
    | false => simp only [Bool.false_eq_true, if_false, Bool.false_or]; exact isEmpty_filter p r
theorem pd_ints {M' : Mem} {k : Nat} {zs : List Int} (h : M'[k]? = some (.lst (zs.map D.int))) (hz : ∀ z ∈ zs, z.natAbs < 2 ^ 1000) : Pd M' (.loc k) (.list (zs.map PyData.int)) 2 ((1002 + 2) * zs.length + 3) :=
  Pd.lst h (PdA.map (n := 1002) (fun z hz' => Pd.int z (hz z hz')) (by decide))
theorem ne_lc (h : it r M = .ok (as.map g, n, ys) M) (hs : stands M n ys) (hx : ∀ x ∈ as, ∃ r1, t (g x) (wipeE r own) M = .nx r1 M ∧ c r1 M = .ok (p x) M ∧ (p x = true → f r1 M = .ok (.int (q x)) M)) (hl : as.length ≤ 16777216) (hq : ∀ x ∈ as, (q x).natAbs < 2 ^ 1000) :
    x2 oNe (xLc it t c f own) (xLst aNil) r M = .ok (.bl (as.any p)) (M ++ [.lst ((as.filter p).map fun x => .int (q x))] ++ [.lst []]) := by
  have e1 := lc_len h hs hx hl
  have e2 : ((as.filter p).map fun x => D.int (q x)) = (((as.filter p).map q).map D.int) := by rw [List.map_map]; rfl
  have z0 : 0 ≤ 16777216 := by decide
  refine wpo_eq ?_
  simp only [w_2, e1, wpo_ok, w_lst, w_aNil, List.length_nil, z0, if_true]
  rw [e2, ne_of' (pd_ints (k := M.length) (zs := (as.filter p).map q) (by rw [List.append_assoc, List.getElem?_append_right (Nat.le_refl _), Nat.sub_self]; rfl) (fun z hz => by
    obtain ⟨x, hx', rfl⟩ := List.mem_map.mp hz
    exact hq x (List.mem_filter.mp hx').1)) (Pd.lst (get_last _ _) .nil), eqv_nil, List.isEmpty_map, isEmpty_filter, Bool.not_not]
  exact ⟨rfl, rfl⟩
theorem eq_lc (h : it r M = .ok (as.map g, n, ys) M) (hs : stands M n ys) (hx : ∀ x ∈ as, ∃ r1, t (g x) (wipeE r own) M = .nx r1 M ∧ c r1 M = .ok (p x) M ∧ (p x = true → f r1 M = .ok (.int (q x)) M)) (hl : as.length ≤ 16777216) (hq : ∀ x ∈ as, (q x).natAbs < 2 ^ 1000) :
    x2 oEq (xLc it t c f own) (xLst aNil) r M = .ok (.bl (!(as.any p))) (M ++ [.lst ((as.filter p).map fun x => .int (q x))] ++ [.lst []]) := by
  have e1 := lc_len h hs hx hl
  have e2 : ((as.filter p).map fun x => D.int (q x)) = (((as.filter p).map q).map D.int) := by rw [List.map_map]; rfl
  have z0 : 0 ≤ 16777216 := by decide
  refine wpo_eq ?_
  simp only [w_2, e1, wpo_ok, w_lst, w_aNil, List.length_nil, z0, if_true]
  rw [e2, eq_of (pd_ints (k := M.length) (zs := (as.filter p).map q) (by rw [List.append_assoc, List.getElem?_append_right (Nat.le_refl _), Nat.sub_self]; rfl) (fun z hz => by
    obtain ⟨x, hx', rfl⟩ := List.mem_map.mp hz
    exact hq x (List.mem_filter.mp hx').1)) (Pd.lst (get_last _ _) .nil), eqv_nil, List.isEmpty_map, isEmpty_filter]
  exact ⟨rfl, rfl⟩
end
section
variable {r : Ev} {M : Mem} {α : Type} {it : Xi} {t : Tg} {c : Xb} {own : List Nat} {n : Option Nat} {ys : List D} {g : α → D} {f : Xp} {p : α → Bool} {q : α → Int} {as : List α}
theorem ne_fil (hq : ∀ x ∈ as, (q x).natAbs < 2 ^ 1000) : oNe (.loc M.length) (.loc (M ++ [MO.lst ((as.filter p).map fun x => D.int (q x))]).length) (M ++ [MO.lst ((as.filter p).map fun x => D.int (q x))] ++ [.lst []]) = .ok (.bl (as.any p)) (M ++ [MO.lst ((as.filter p).map fun x => D.int (q x))] ++ [.lst []]) := by
  have e2 : ((as.filter p).map fun x => D.int (q x)) = (((as.filter p).map q).map D.int) := by rw [List.map_map]; rfl
  rw [e2, ne_of' (pd_ints (k := M.length) (zs := (as.filter p).map q) (by rw [List.append_assoc, List.getElem?_append_right (Nat.le_refl _), Nat.sub_self]; rfl) (fun z hz => by
    obtain ⟨x, hx', rfl⟩ := List.mem_map.mp hz
    exact hq x (List.mem_filter.mp hx').1)) (Pd.lst (get_last _ _) .nil), eqv_nil, List.isEmpty_map, isEmpty_filter, Bool.not_not]
theorem eq_fil (hq : ∀ x ∈ as, (q x).natAbs < 2 ^ 1000) : oEq (.loc M.length) (.loc (M ++ [MO.lst ((as.filter p).map fun x => D.int (q x))]).length) (M ++ [MO.lst ((as.filter p).map fun x => D.int (q x))] ++ [.lst []]) = .ok (.bl (!(as.any p))) (M ++ [MO.lst ((as.filter p).map fun x => D.int (q x))] ++ [.lst []]) := by
  have e2 : ((as.filter p).map fun x => D.int (q x)) = (((as.filter p).map q).map D.int) := by rw [List.map_map]; rfl
  rw [e2, eq_of (pd_ints (k := M.length) (zs := (as.filter p).map q) (by rw [List.append_assoc, List.getElem?_append_right (Nat.le_refl _), Nat.sub_self]; rfl) (fun z hz => by
    obtain ⟨x, hx', rfl⟩ := List.mem_map.mp hz
    exact hq x (List.mem_filter.mp hx').1)) (Pd.lst (get_last _ _) .nil), eqv_nil, List.isEmpty_map, isEmpty_filter]
end
theorem ix_last {M : Mem} {n : Nat} {xs : List D} {d : D} (h : M[n]? = some (.lst (xs ++ [d]))) : oIx (.loc n) (.int (-1)) M = .ok d M := by
  have e : listAt (xs ++ [d]) (-1) = some d := by
    unfold listAt ixAt
    rw [if_neg (by omega), if_pos (by rw [List.length_append]; simp; omega)]
    simp only [Option.bind_some, List.length_append, List.length_singleton]
    have : (-1 + ((xs.length + 1 : Nat) : Int)).toNat = xs.length := by omega
    rw [this, List.getElem?_append_right (Nat.le_refl _), Nat.sub_self]
    rfl
  unfold oIx
  simp only [h, e]
theorem cut2 {a b : D} {r : List D} : cutD (a :: b :: r) none (some 2) = [a, b] := by
  have e : cutD (a :: b :: r) none (some ((2 : Nat) : Int)) = _ := cut_take (by simp)
  rw [show ((2 : Int)) = ((2 : Nat) : Int) from rfl, e]
  rfl
theorem cut_nn {xs : List D} : cutD xs none none = xs := by
  unfold cutD
  show (xs.drop 0).take (xs.length - 0) = xs
  rw [List.drop_zero, Nat.sub_zero, List.take_length]
theorem cut_neg3 {xs : List D} : cutD xs (some (-3)) none = xs.drop (xs.length - 3) := by
  have e1 : clip xs.length 0 (some (-3)) = xs.length - 3 := by
    unfold clip
    simp only
    rw [if_pos (by decide)]
    omega
  have e2 : clip xs.length xs.length none = xs.length := rfl
  unfold cutD
  rw [e1, e2]
  exact List.take_of_length_le (by simp)
theorem inF_nat {M : Mem} {n : Nat} {vs : List Nat} {neg : Bool} (v : Nat) (h : M[n]? = some (.lst (vs.map fun x : Nat => .int (x : Nat)))) : oInF neg (.int (v : Nat)) (.loc n) M = .ok (.bl (if neg then !decide (v ∈ vs) else decide (v ∈ vs))) M := by
  have hr : rowOf (.loc n) M = some (vs.map fun x : Nat => .int (x : Nat)) := by
    unfold rowOf
    simp only [h]
  have ha : (vs.map fun x : Nat => D.int (x : Nat)).all flatD = true := by
    rw [List.all_eq_true]
    intro x hx
    obtain ⟨y, _, rfl⟩ := List.mem_map.mp hx
    rfl
  have hy : ∀ vs : List Nat, ((vs.map fun x : Nat => D.int (x : Nat)).any fun z => eqF z (.int (v : Nat))) = decide (v ∈ vs) := by
    intro vs
    induction vs with
    | nil => simp
    | cons a r ih =>
      rw [List.map_cons, List.any_cons, ih]
      by_cases e : a = v
      · subst e
        simp [eqF]
      · have e' : ¬ v = a := fun z => e z.symm
        have e2 : ((a : Int) == (v : Int)) = false := by
          simp only [beq_eq_false_iff_ne, ne_eq]
          omega
        simp [eqF, e', e2]
  unfold oInF
  simp only [hr, ha, hy, flatD, and_self, if_true]
end PV

set_option Elab.async false
set_option linter.all false
set_option maxHeartbeats 2000000

namespace PV
open PySem
section
variable {r : Ev} {M : Mem} {K : D → Mem → Prop} {E : EK}
theorem w_tupN0 : wpo (xTup aNil r M) K E = K (.tup []) M := by
  have e : xTup aNil r M = .ok (.tup []) M := rfl
  rw [e]
  exact wpo_ok
theorem w_lstN0 : wpo (xLst aNil r M) K E = K (.loc M.length) (M ++ [.lst []]) := by
  have e : xLst aNil r M = .ok (.loc M.length) (M ++ [.lst []]) := rfl
  rw [e]
  exact wpo_ok
theorem w_tupN1 {f0 : Xp} : wpo (xTup (aCons f0 aNil) r M) K E = wpo (f0 r M) (fun x0 M1 => K (.tup [x0]) M1) E := by
  rw [w_tup]
  simp only [w_aCons, w_aNil]
  rfl
theorem w_lstN1 {f0 : Xp} : wpo (xLst (aCons f0 aNil) r M) K E = wpo (f0 r M) (fun x0 M1 => K (.loc M1.length) (M1 ++ [.lst [x0]])) E := by
  rw [w_lst]
  simp only [w_aCons, w_aNil]
  rfl
theorem w_tupN2 {f0 f1 : Xp} : wpo (xTup (aCons f0 (aCons f1 aNil)) r M) K E = wpo (f0 r M) (fun x0 M1 => wpo (f1 r M1) (fun x1 M2 => K (.tup [x0, x1]) M2) E) E := by
  rw [w_tup]
  simp only [w_aCons, w_aNil]
  rfl
theorem w_lstN2 {f0 f1 : Xp} : wpo (xLst (aCons f0 (aCons f1 aNil)) r M) K E = wpo (f0 r M) (fun x0 M1 => wpo (f1 r M1) (fun x1 M2 => K (.loc M2.length) (M2 ++ [.lst [x0, x1]])) E) E := by
  rw [w_lst]
  simp only [w_aCons, w_aNil]
  rfl
theorem w_tupN3 {f0 f1 f2 : Xp} : wpo (xTup (aCons f0 (aCons f1 (aCons f2 aNil))) r M) K E = wpo (f0 r M) (fun x0 M1 => wpo (f1 r M1) (fun x1 M2 => wpo (f2 r M2) (fun x2 M3 => K (.tup [x0, x1, x2]) M3) E) E) E := by
  rw [w_tup]
  simp only [w_aCons, w_aNil]
  rfl
theorem w_lstN3 {f0 f1 f2 : Xp} : wpo (xLst (aCons f0 (aCons f1 (aCons f2 aNil))) r M) K E = wpo (f0 r M) (fun x0 M1 => wpo (f1 r M1) (fun x1 M2 => wpo (f2 r M2) (fun x2 M3 => K (.loc M3.length) (M3 ++ [.lst [x0, x1, x2]])) E) E) E := by
  rw [w_lst]
  simp only [w_aCons, w_aNil]
  rfl
theorem w_tupN4 {f0 f1 f2 f3 : Xp} : wpo (xTup (aCons f0 (aCons f1 (aCons f2 (aCons f3 aNil)))) r M) K E = wpo (f0 r M) (fun x0 M1 => wpo (f1 r M1) (fun x1 M2 => wpo (f2 r M2) (fun x2 M3 => wpo (f3 r M3) (fun x3 M4 => K (.tup [x0, x1, x2, x3]) M4) E) E) E) E := by
  rw [w_tup]
  simp only [w_aCons, w_aNil]
  rfl
theorem w_lstN4 {f0 f1 f2 f3 : Xp} : wpo (xLst (aCons f0 (aCons f1 (aCons f2 (aCons f3 aNil)))) r M) K E = wpo (f0 r M) (fun x0 M1 => wpo (f1 r M1) (fun x1 M2 => wpo (f2 r M2) (fun x2 M3 => wpo (f3 r M3) (fun x3 M4 => K (.loc M4.length) (M4 ++ [.lst [x0, x1, x2, x3]])) E) E) E) E := by
  rw [w_lst]
  simp only [w_aCons, w_aNil]
  rfl
theorem w_tupN5 {f0 f1 f2 f3 f4 : Xp} : wpo (xTup (aCons f0 (aCons f1 (aCons f2 (aCons f3 (aCons f4 aNil))))) r M) K E = wpo (f0 r M) (fun x0 M1 => wpo (f1 r M1) (fun x1 M2 => wpo (f2 r M2) (fun x2 M3 => wpo (f3 r M3) (fun x3 M4 => wpo (f4 r M4) (fun x4 M5 => K (.tup [x0, x1, x2, x3, x4]) M5) E) E) E) E) E := by
  rw [w_tup]
  simp only [w_aCons, w_aNil]
  rfl
theorem w_lstN5 {f0 f1 f2 f3 f4 : Xp} : wpo (xLst (aCons f0 (aCons f1 (aCons f2 (aCons f3 (aCons f4 aNil))))) r M) K E = wpo (f0 r M) (fun x0 M1 => wpo (f1 r M1) (fun x1 M2 => wpo (f2 r M2) (fun x2 M3 => wpo (f3 r M3) (fun x3 M4 => wpo (f4 r M4) (fun x4 M5 => K (.loc M5.length) (M5 ++ [.lst [x0, x1, x2, x3, x4]])) E) E) E) E) E := by
  rw [w_lst]
  simp only [w_aCons, w_aNil]
  rfl
theorem w_tupN6 {f0 f1 f2 f3 f4 f5 : Xp} : wpo (xTup (aCons f0 (aCons f1 (aCons f2 (aCons f3 (aCons f4 (aCons f5 aNil)))))) r M) K E = wpo (f0 r M) (fun x0 M1 => wpo (f1 r M1) (fun x1 M2 => wpo (f2 r M2) (fun x2 M3 => wpo (f3 r M3) (fun x3 M4 => wpo (f4 r M4) (fun x4 M5 => wpo (f5 r M5) (fun x5 M6 => K (.tup [x0, x1, x2, x3, x4, x5]) M6) E) E) E) E) E) E := by
  rw [w_tup]
  simp only [w_aCons, w_aNil]
  rfl
theorem w_lstN6 {f0 f1 f2 f3 f4 f5 : Xp} : wpo (xLst (aCons f0 (aCons f1 (aCons f2 (aCons f3 (aCons f4 (aCons f5 aNil)))))) r M) K E = wpo (f0 r M) (fun x0 M1 => wpo (f1 r M1) (fun x1 M2 => wpo (f2 r M2) (fun x2 M3 => wpo (f3 r M3) (fun x3 M4 => wpo (f4 r M4) (fun x4 M5 => wpo (f5 r M5) (fun x5 M6 => K (.loc M6.length) (M6 ++ [.lst [x0, x1, x2, x3, x4, x5]])) E) E) E) E) E) E := by
  rw [w_lst]
  simp only [w_aCons, w_aNil]
  rfl
theorem w_tupN7 {f0 f1 f2 f3 f4 f5 f6 : Xp} : wpo (xTup (aCons f0 (aCons f1 (aCons f2 (aCons f3 (aCons f4 (aCons f5 (aCons f6 aNil))))))) r M) K E = wpo (f0 r M) (fun x0 M1 => wpo (f1 r M1) (fun x1 M2 => wpo (f2 r M2) (fun x2 M3 => wpo (f3 r M3) (fun x3 M4 => wpo (f4 r M4) (fun x4 M5 => wpo (f5 r M5) (fun x5 M6 => wpo (f6 r M6) (fun x6 M7 => K (.tup [x0, x1, x2, x3, x4, x5, x6]) M7) E) E) E) E) E) E) E := by
  rw [w_tup]
  simp only [w_aCons, w_aNil]
  rfl
theorem w_lstN7 {f0 f1 f2 f3 f4 f5 f6 : Xp} : wpo (xLst (aCons f0 (aCons f1 (aCons f2 (aCons f3 (aCons f4 (aCons f5 (aCons f6 aNil))))))) r M) K E = wpo (f0 r M) (fun x0 M1 => wpo (f1 r M1) (fun x1 M2 => wpo (f2 r M2) (fun x2 M3 => wpo (f3 r M3) (fun x3 M4 => wpo (f4 r M4) (fun x4 M5 => wpo (f5 r M5) (fun x5 M6 => wpo (f6 r M6) (fun x6 M7 => K (.loc M7.length) (M7 ++ [.lst [x0, x1, x2, x3, x4, x5, x6]])) E) E) E) E) E) E) E := by
  rw [w_lst]
  simp only [w_aCons, w_aNil]
  rfl
theorem w_tupN8 {f0 f1 f2 f3 f4 f5 f6 f7 : Xp} : wpo (xTup (aCons f0 (aCons f1 (aCons f2 (aCons f3 (aCons f4 (aCons f5 (aCons f6 (aCons f7 aNil)))))))) r M) K E = wpo (f0 r M) (fun x0 M1 => wpo (f1 r M1) (fun x1 M2 => wpo (f2 r M2) (fun x2 M3 => wpo (f3 r M3) (fun x3 M4 => wpo (f4 r M4) (fun x4 M5 => wpo (f5 r M5) (fun x5 M6 => wpo (f6 r M6) (fun x6 M7 => wpo (f7 r M7) (fun x7 M8 => K (.tup [x0, x1, x2, x3, x4, x5, x6, x7]) M8) E) E) E) E) E) E) E) E := by
  rw [w_tup]
  simp only [w_aCons, w_aNil]
  rfl
theorem w_lstN8 {f0 f1 f2 f3 f4 f5 f6 f7 : Xp} : wpo (xLst (aCons f0 (aCons f1 (aCons f2 (aCons f3 (aCons f4 (aCons f5 (aCons f6 (aCons f7 aNil)))))))) r M) K E = wpo (f0 r M) (fun x0 M1 => wpo (f1 r M1) (fun x1 M2 => wpo (f2 r M2) (fun x2 M3 => wpo (f3 r M3) (fun x3 M4 => wpo (f4 r M4) (fun x4 M5 => wpo (f5 r M5) (fun x5 M6 => wpo (f6 r M6) (fun x6 M7 => wpo (f7 r M7) (fun x7 M8 => K (.loc M8.length) (M8 ++ [.lst [x0, x1, x2, x3, x4, x5, x6, x7]])) E) E) E) E) E) E) E) E := by
  rw [w_lst]
  simp only [w_aCons, w_aNil]
  rfl
def ag2 (a0 a1 : Nat) : Tg := tTup 2 (tsCons (tName a0) (tsCons (tName a1) tsNil))
theorem ws_ag2 {a0 a1 : Nat} {f : Xp} {Q : SO → Prop} : wps (sAsg (tTup 2 (tsCons (tName a0) (tsCons (tName a1) tsNil))) f r M) Q = wpo (f r M) (fun x M1 => wps (nxo (ag2 a0 a1 x r M1)) Q) (fun c fs M1 => Q (.er c fs r M1)) := ws_asg
theorem ag2_ok {a0 a1 : Nat} {x0 x1 : D} : ag2 a0 a1 (.tup [x0, x1]) r M = .nx ((r.set a0 (some x0)).set a1 (some x1)) M := rfl
def ag3 (a0 a1 a2 : Nat) : Tg := tTup 3 (tsCons (tName a0) (tsCons (tName a1) (tsCons (tName a2) tsNil)))
theorem ws_ag3 {a0 a1 a2 : Nat} {f : Xp} {Q : SO → Prop} : wps (sAsg (tTup 3 (tsCons (tName a0) (tsCons (tName a1) (tsCons (tName a2) tsNil)))) f r M) Q = wpo (f r M) (fun x M1 => wps (nxo (ag3 a0 a1 a2 x r M1)) Q) (fun c fs M1 => Q (.er c fs r M1)) := ws_asg
theorem ag3_ok {a0 a1 a2 : Nat} {x0 x1 x2 : D} : ag3 a0 a1 a2 (.tup [x0, x1, x2]) r M = .nx (((r.set a0 (some x0)).set a1 (some x1)).set a2 (some x2)) M := rfl
def ag4 (a0 a1 a2 a3 : Nat) : Tg := tTup 4 (tsCons (tName a0) (tsCons (tName a1) (tsCons (tName a2) (tsCons (tName a3) tsNil))))
theorem ws_ag4 {a0 a1 a2 a3 : Nat} {f : Xp} {Q : SO → Prop} : wps (sAsg (tTup 4 (tsCons (tName a0) (tsCons (tName a1) (tsCons (tName a2) (tsCons (tName a3) tsNil))))) f r M) Q = wpo (f r M) (fun x M1 => wps (nxo (ag4 a0 a1 a2 a3 x r M1)) Q) (fun c fs M1 => Q (.er c fs r M1)) := ws_asg
theorem ag4_ok {a0 a1 a2 a3 : Nat} {x0 x1 x2 x3 : D} : ag4 a0 a1 a2 a3 (.tup [x0, x1, x2, x3]) r M = .nx ((((r.set a0 (some x0)).set a1 (some x1)).set a2 (some x2)).set a3 (some x3)) M := rfl
def ag5 (a0 a1 a2 a3 a4 : Nat) : Tg := tTup 5 (tsCons (tName a0) (tsCons (tName a1) (tsCons (tName a2) (tsCons (tName a3) (tsCons (tName a4) tsNil)))))
theorem ws_ag5 {a0 a1 a2 a3 a4 : Nat} {f : Xp} {Q : SO → Prop} : wps (sAsg (tTup 5 (tsCons (tName a0) (tsCons (tName a1) (tsCons (tName a2) (tsCons (tName a3) (tsCons (tName a4) tsNil)))))) f r M) Q = wpo (f r M) (fun x M1 => wps (nxo (ag5 a0 a1 a2 a3 a4 x r M1)) Q) (fun c fs M1 => Q (.er c fs r M1)) := ws_asg
theorem ag5_ok {a0 a1 a2 a3 a4 : Nat} {x0 x1 x2 x3 x4 : D} : ag5 a0 a1 a2 a3 a4 (.tup [x0, x1, x2, x3, x4]) r M = .nx (((((r.set a0 (some x0)).set a1 (some x1)).set a2 (some x2)).set a3 (some x3)).set a4 (some x4)) M := rfl
def ag6 (a0 a1 a2 a3 a4 a5 : Nat) : Tg := tTup 6 (tsCons (tName a0) (tsCons (tName a1) (tsCons (tName a2) (tsCons (tName a3) (tsCons (tName a4) (tsCons (tName a5) tsNil))))))
theorem ws_ag6 {a0 a1 a2 a3 a4 a5 : Nat} {f : Xp} {Q : SO → Prop} : wps (sAsg (tTup 6 (tsCons (tName a0) (tsCons (tName a1) (tsCons (tName a2) (tsCons (tName a3) (tsCons (tName a4) (tsCons (tName a5) tsNil))))))) f r M) Q = wpo (f r M) (fun x M1 => wps (nxo (ag6 a0 a1 a2 a3 a4 a5 x r M1)) Q) (fun c fs M1 => Q (.er c fs r M1)) := ws_asg
theorem ag6_ok {a0 a1 a2 a3 a4 a5 : Nat} {x0 x1 x2 x3 x4 x5 : D} : ag6 a0 a1 a2 a3 a4 a5 (.tup [x0, x1, x2, x3, x4, x5]) r M = .nx ((((((r.set a0 (some x0)).set a1 (some x1)).set a2 (some x2)).set a3 (some x3)).set a4 (some x4)).set a5 (some x5)) M := rfl
def ag7 (a0 a1 a2 a3 a4 a5 a6 : Nat) : Tg := tTup 7 (tsCons (tName a0) (tsCons (tName a1) (tsCons (tName a2) (tsCons (tName a3) (tsCons (tName a4) (tsCons (tName a5) (tsCons (tName a6) tsNil)))))))
theorem ws_ag7 {a0 a1 a2 a3 a4 a5 a6 : Nat} {f : Xp} {Q : SO → Prop} : wps (sAsg (tTup 7 (tsCons (tName a0) (tsCons (tName a1) (tsCons (tName a2) (tsCons (tName a3) (tsCons (tName a4) (tsCons (tName a5) (tsCons (tName a6) tsNil)))))))) f r M) Q = wpo (f r M) (fun x M1 => wps (nxo (ag7 a0 a1 a2 a3 a4 a5 a6 x r M1)) Q) (fun c fs M1 => Q (.er c fs r M1)) := ws_asg
theorem ag7_ok {a0 a1 a2 a3 a4 a5 a6 : Nat} {x0 x1 x2 x3 x4 x5 x6 : D} : ag7 a0 a1 a2 a3 a4 a5 a6 (.tup [x0, x1, x2, x3, x4, x5, x6]) r M = .nx (((((((r.set a0 (some x0)).set a1 (some x1)).set a2 (some x2)).set a3 (some x3)).set a4 (some x4)).set a5 (some x5)).set a6 (some x6)) M := rfl
def ag8 (a0 a1 a2 a3 a4 a5 a6 a7 : Nat) : Tg := tTup 8 (tsCons (tName a0) (tsCons (tName a1) (tsCons (tName a2) (tsCons (tName a3) (tsCons (tName a4) (tsCons (tName a5) (tsCons (tName a6) (tsCons (tName a7) tsNil))))))))
theorem ws_ag8 {a0 a1 a2 a3 a4 a5 a6 a7 : Nat} {f : Xp} {Q : SO → Prop} : wps (sAsg (tTup 8 (tsCons (tName a0) (tsCons (tName a1) (tsCons (tName a2) (tsCons (tName a3) (tsCons (tName a4) (tsCons (tName a5) (tsCons (tName a6) (tsCons (tName a7) tsNil))))))))) f r M) Q = wpo (f r M) (fun x M1 => wps (nxo (ag8 a0 a1 a2 a3 a4 a5 a6 a7 x r M1)) Q) (fun c fs M1 => Q (.er c fs r M1)) := ws_asg
theorem ag8_ok {a0 a1 a2 a3 a4 a5 a6 a7 : Nat} {x0 x1 x2 x3 x4 x5 x6 x7 : D} : ag8 a0 a1 a2 a3 a4 a5 a6 a7 (.tup [x0, x1, x2, x3, x4, x5, x6, x7]) r M = .nx ((((((((r.set a0 (some x0)).set a1 (some x1)).set a2 (some x2)).set a3 (some x3)).set a4 (some x4)).set a5 (some x5)).set a6 (some x6)).set a7 (some x7)) M := rfl
theorem ws_agS {set : D → D → D → Mem → Option Mem} {o i f : Xp} {Q : SO → Prop} : wps (sAsg (tSub set o i) f r M) Q = wpo (f r M) (fun d M1 => wps (nxo (tSub set o i d r M1)) Q) (fun c fs M1 => Q (.er c fs r M1)) := ws_asg
def asN (r : Ev) (o : Option Mem) : SO := match o with
  | some M6 => .nx r M6
  | none => .stk
theorem w_popN {f : Xp} : wpo (xPop f r M) K E = wpo (f r M) (fun x M1 => wpo (if isLst x M1 = true then mPop x M1 else .stk) K E) E := by
  unfold xPop
  rw [wpo_bind]
theorem popN {n : Nat} {xs : List D} {y : D} (h : M[n]? = some (.lst (xs ++ [y]))) : mPop (.loc n) M = .ok y (M.set n (.lst xs)) := by
  unfold mPop
  simp only [h]
  have e : (xs ++ [y])[(xs ++ [y]).length - 1]? = some y := by
    rw [List.length_append, List.length_singleton, Nat.add_sub_cancel, List.getElem?_append_right (Nat.le_refl _), Nat.sub_self]
    rfl
  rw [e]
  simp only [List.dropLast_concat]
theorem ws_aug {op : D → D → Mem → Out D} {i : Nat} {f : Xp} {Q : SO → Prop} : wps (sAug op i f r M) Q = wpo (asV r[i]? M) (fun x M0 => wpo (f r M0) (fun y M1 => wpo (op x y M1) (fun z M2 => Q (.nx (r.set i (some z)) M2)) (fun c fs M1 => Q (.er c fs r M1))) (fun c fs M1 => Q (.er c fs r M1))) (fun c fs M1 => Q (.er c fs r M1)) := by
  unfold sAug
  cases h : r[i]? with
  | none => rfl
  | some o =>
    cases o with
    | none => rfl
    | some x =>
      show wps ((f r M).toS r _) Q = wpo (f r M) _ _
      rw [ws_toS]; congr; funext a M1; rw [ws_toS]; rfl
theorem ws_tName {i : Nat} {d : D} {Q : SO → Prop} : wps (tName i d r M) Q = Q (.nx (r.set i (some d)) M) := Eq.trans rfl rfl
theorem asN_ok : asN r (some M) = .nx r M := rfl
theorem ws_augS {op : D → D → Mem → Out D} {o i f : Xp} {Q : SO → Prop} : wps (sAugS op o i f r M) Q = wpo (o r M) (fun x M1 => wpo (i r M1) (fun y M2 => wpo (oIxL x y M2) (fun z M3 => wpo (f r M3) (fun w M4 => wpo (op z w M4) (fun v M5 => wps (asN r (setIx x y v M5)) Q) (fun c fs M1 => Q (.er c fs r M1))) (fun c fs M1 => Q (.er c fs r M1))) (fun c fs M1 => Q (.er c fs r M1))) (fun c fs M1 => Q (.er c fs r M1))) (fun c fs M1 => Q (.er c fs r M1)) := by
  unfold sAugS
  rw [ws_toS]; congr; funext a M1; rw [ws_toS]; congr; funext b M2; rw [ws_toS]; congr; funext c M3; rw [ws_toS]; congr; funext d M4; rw [ws_toS]; rfl
theorem ixL_at {n i : Nat} {xs : List D} {d : D} (h : M[n]? = some (.lst xs)) (hi : xs[i]? = some d) : oIxL (.loc n) (.int (i : Nat)) M = .ok d M := by
  have hl := (List.getElem?_eq_some_iff.mp hi).1
  have e : listAt xs (i : Nat) = some d := by
    unfold listAt ixAt
    rw [if_pos (by omega), if_pos (by omega)]
    exact hi
  unfold oIxL
  simp only [h, e]
theorem addI_ok {i j : Int} : oAddI (.int i) (.int j) M = .ok (.int (i + j)) M := rfl
theorem log2_small {n : Nat} (h : n < 2 ^ 1000) : ((n : Nat) : Int).natAbs.log2 < 9000 := by
  rw [Int.natAbs_natCast]
  by_cases z : n = 0
  · subst z
    decide
  · have := (Nat.log2_lt z).mpr h
    omega
theorem divN {a b : Nat} (h : 0 < b) (h2 : b < 2 ^ 1000) : oDiv (.int (a : Nat)) (.int (b : Nat)) M = .ok (.int ((a / b : Nat) : Int)) M := by
  rw [div_ok (by omega) (log2_small h2)]
  congr 2
theorem modN {a b : Nat} (h : 0 < b) : oMod (.int (a : Nat)) (.int (b : Nat)) M = .ok (.int ((a % b : Nat) : Int)) M := by
  rw [mod_ok (by omega)]
  congr 2
theorem mulNl {a b : Nat} (h : a < 2 ^ 64) : oMul (.int (a : Nat)) (.int (b : Nat)) M = .ok (.int ((a * b : Nat) : Int)) M := by
  rw [mul_l (by omega) (by omega)]
  congr 2
theorem mulNr {a b : Nat} (h : b < 2 ^ 64) : oMul (.int (a : Nat)) (.int (b : Nat)) M = .ok (.int ((a * b : Nat) : Int)) M := by
  rw [mul_r (by omega) (by omega)]
  congr 2
theorem mulNb {a b : Nat} (h : a < 2 ^ 1000) (h2 : b < 2 ^ 1000) : oMul (.int (a : Nat)) (.int (b : Nat)) M = .ok (.int ((a * b : Nat) : Int)) M := by
  rw [mul_big (by rw [Int.natAbs_natCast]; exact h) (by rw [Int.natAbs_natCast]; exact h2)]
  congr 2
end
end PV

set_option Elab.async false
set_option linter.all false
namespace PV
namespace LawT
open PySem

def c_MOST_LIFE : D := .int 1152921504606846976
def c_PHASES : D := .tup [.str "new", .str "sure", .str "gone"]
def flk : Nat → List Str
  | 0 => ["value"]
  | 1 => ["value"]
  | 2 => ["value"]
  | 3 => ["word"]
  | 4 => ["most"]
  | _ => []
noncomputable def f_is_whole : Fn := fDef 1 0 (sRet (xAnd (x1 (oIsi .int) (xVar 0)) (xNot (x1 (oIsi .bool) (xVar 0)))))
noncomputable def f_is_within : Fn := fDef 3 0 (sRet (xAnd (xCall f_is_whole (aCons (xVar 0) (aNil))) (xChain oLe oLe (xVar 1) (xVar 0) (xVar 2))))
noncomputable def f_is_tuple_of : Fn := fDef 2 0 (sRet (xAnd (x1 (oIsi .tuple) (xVar 0)) (x2 oEq (xCall fLen (aCons (xVar 0) (aNil))) (xVar 1))))
noncomputable def f_need_side : Fn := fDef 1 0 (sSeq (sIf (bNot (bE (xCall f_is_within (aCons (xVar 0) (aCons (xK (.int 0)) (aCons (xK (.int 1)) (aNil))))))) (sRaise 2 1 (aCons (xVar 0) (aNil))) (sPass)) (sRet (xVar 0)))
noncomputable def f_is_kind : Fn := fDef 2 0 (sRet (xAnd (xCall f_is_within (aCons (xVar 0) (aCons (xK (.int 1)) (aCons (xK c_MOST_LIFE) (aNil))))) (x2 oEq (x2 oMod (xVar 0) (xK (.int 2))) (x2 oSub (xK (.int 1)) (xVar 1)))))
noncomputable def f_is_life : Fn := fDef 2 0 (sRet (xCall f_is_kind (aCons (xVar 0) (aCons (xCall f_need_side (aCons (xVar 1) (aNil))) (aNil)))))
noncomputable def f_need_life : Fn := fDef 2 0 (sSeq (sIf (bNot (bE (xCall f_is_life (aCons (xVar 0) (aCons (xVar 1) (aNil)))))) (sRaise 1 1 (aCons (xVar 0) (aNil))) (sPass)) (sRet (xVar 0)))
noncomputable def f_next_life : Fn := fDef 2 1 (sSeq (sExpr (xCall f_need_side (aCons (xVar 0) (aNil)))) (sSeq (sIf (bNot (bE (xCall f_is_within (aCons (xVar 1) (aCons (xK (.int 0)) (aCons (xK c_MOST_LIFE) (aNil))))))) (sRaise 0 1 (aCons (xVar 1) (aNil))) (sPass)) (sSeq (sSet 2 (xIf (bE (xCall f_is_kind (aCons (x2 oAdd (xVar 1) (xK (.int 1))) (aCons (xVar 0) (aNil))))) (x2 oAdd (xVar 1) (xK (.int 1))) (x2 oAdd (xVar 1) (xK (.int 2))))) (sSeq (sIf (bE (x2 oGt (xVar 2) (xK c_MOST_LIFE))) (sRaise 4 1 (aCons (xK c_MOST_LIFE) (aNil))) (sPass)) (sRet (xVar 2))))))
noncomputable def f_is_peer : Fn := fDef 2 0 (sRet (xOr (xAnd (x1 (oIsi .int) (xVar 0)) (xAnd (xNot (x1 (oIsi .bool) (xVar 0))) (x2 oEq (xVar 0) (xK (.int 0))))) (xCall f_is_kind (aCons (xVar 0) (aCons (x2 oSub (xK (.int 1)) (xVar 1)) (aNil))))))
noncomputable def f_link_fault : Fn := fDef 1 4 (sSeq (sIf (bOr (bNot (bE (xCall f_is_tuple_of (aCons (xVar 0) (aCons (xK (.int 4)) (aNil)))))) (bOr (bNot (bE (x1 (oIsi .int) (x2 oIx (xVar 0) (xK (.int 0)))))) (bE (x1 (oIsi .bool) (x2 oIx (xVar 0) (xK (.int 0))))))) (sRet (xK (.str "form"))) (sPass)) (sSeq (sAsg (tTup 4 (tsCons (tName 1) (tsCons (tName 2) (tsCons (tName 3) (tsCons (tName 4) (tsNil)))))) (xVar 0)) (sSeq (sIf (bOr (bE (x2 (oInF true) (xVar 1) (xTup (aCons (xK (.int 0)) (aCons (xK (.int 1)) (aNil)))))) (bOr (bNot (bE (xCall f_is_kind (aCons (xVar 2) (aCons (xVar 1) (aNil)))))) (bNot (bE (xCall f_is_peer (aCons (xVar 3) (aCons (xVar 1) (aNil)))))))) (sRet (xK (.str "form"))) (sPass)) (sSeq (sIf (bOr (bNot (bE (x1 (oIsi .str) (xVar 4)))) (bE (x2 (oInF true) (xVar 4) (xK c_PHASES)))) (sRet (xK (.str "form"))) (sPass)) (sRet (xIf (bAnd (bE (x2 oEq (xVar 3) (xK (.int 0)))) (bE (x2 oNe (xVar 4) (xK (.str "new"))))) (xK (.str "phase")) (xK .non)))))))
noncomputable def f_need_link : Fn := fDef 1 1 (sSeq (sSet 1 (xCall f_link_fault (aCons (xVar 0) (aNil)))) (sSeq (sIf (bE (x2 oNotN (xVar 1) (xK .non))) (sRaise 3 1 (aCons (xVar 1) (aNil))) (sPass)) (sRet (xVar 0))))
noncomputable def f_need_header : Fn := fDef 3 0 (sSeq (sExpr (xCall f_need_life (aCons (xVar 1) (aCons (x2 oSub (xK (.int 1)) (x2 oIx (xVar 0) (xK (.int 0)))) (aNil))))) (sIf (bNot (bE (xCall f_is_peer (aCons (xVar 2) (aCons (x2 oSub (xK (.int 1)) (x2 oIx (xVar 0) (xK (.int 0)))) (aNil)))))) (sRaise 1 1 (aCons (xVar 2) (aNil))) (sPass)))
noncomputable def f_heard_by : Fn := fDef 3 4 (sSeq (sAsg (tTup 4 (tsCons (tName 3) (tsCons (tName 4) (tsCons (tName 5) (tsCons (tName 6) (tsNil)))))) (xVar 0)) (sSeq (sIf (bOr (bE (x2 oEq (xVar 6) (xK (.str "gone")))) (bE (x2 oLt (xVar 1) (xVar 5)))) (sRet (xVar 0)) (sPass)) (sSeq (sIf (bAnd (bE (x2 oGt (xVar 1) (xVar 5))) (bE (x2 oEq (xVar 6) (xK (.str "sure"))))) (sRet (xTup (aCons (xVar 3) (aCons (xVar 4) (aCons (xVar 5) (aCons (xK (.str "gone")) (aNil))))))) (sPass)) (sRet (xTup (aCons (xVar 3) (aCons (xVar 4) (aCons (xVar 1) (aCons (xIf (bE (x2 oEq (xVar 2) (xVar 4))) (xK (.str "sure")) (xVar 6)) (aNil))))))))))
noncomputable def f_link_heard : Fn := fDef 3 0 (sSeq (sExpr (xCall f_need_link (aCons (xVar 0) (aNil)))) (sSeq (sExpr (xCall f_need_header (aCons (xVar 0) (aCons (xVar 1) (aCons (xVar 2) (aNil)))))) (sRet (xCall f_heard_by (aCons (xVar 0) (aCons (xVar 1) (aCons (xVar 2) (aNil))))))))
noncomputable def f_link_again : Fn := fDef 3 0 (sSeq (sExpr (xCall f_need_link (aCons (xVar 0) (aNil)))) (sSeq (sExpr (xCall f_need_life (aCons (xVar 1) (aCons (x2 oIx (xVar 0) (xK (.int 0))) (aNil))))) (sSeq (sIf (bE (x2 oLe (xVar 1) (x2 oIx (xVar 0) (xK (.int 1))))) (sRaise 1 1 (aCons (xVar 1) (aNil))) (sPass)) (sSeq (sExpr (xCall f_need_life (aCons (xVar 2) (aCons (x2 oSub (xK (.int 1)) (x2 oIx (xVar 0) (xK (.int 0)))) (aNil))))) (sRet (xTup (aCons (x2 oIx (xVar 0) (xK (.int 0))) (aCons (xVar 1) (aCons (xVar 2) (aCons (xK (.str "new")) (aNil)))))))))))
noncomputable def f__law_mixed : Fn := fDef 2 1 (sSeq (sSet 2 (x2 oAdd (x2 oAdd (x2 oMod (xCall fInt (aCons (x2 oMul (x2 oMul (xVar 0) (x2 oAdd (xK (.int 1)) (x2 oMul (xK (.int 2)) (xVar 1)))) (xK (.int 48271))) (aNil))) (xK (.int 2147483647))) (x2 oMul (x2 oMul (xK (.int 7919)) (xVar 1)) (xVar 1))) (x2 oMul (xK (.int 104729)) (xVar 1)))) (sRet (x2 oDiv (x2 oMod (xCall fInt (aCons (x2 oMul (xVar 2) (xK (.int 69621))) (aNil))) (xK (.int 2147483629))) (xK (.int 7)))))
noncomputable def f__law_folded : Fn := fDef 1 3 (sSeq (sSet 1 (xLc (iRange1 (xK (.int 64))) (tName 2) (bTrue) (x2 oAdd (xK (.int 17)) (xVar 2)) [2])) (sSeq (sFor (iEnum (xVar 0)) (tTup 2 (tsCons (tName 2) (tsCons (tName 3) (tsNil)))) (sAsg (tSub setIx (xVar 1) (x2 oMod (xCall fInt (aCons (xVar 2) (aNil))) (xK (.int 64)))) (x2 oMod (xCall fInt (aCons (x2 oAdd (x2 oMul (x2 oIx (xVar 1) (x2 oMod (xCall fInt (aCons (xVar 2) (aNil))) (xK (.int 64)))) (xK (.int 48271))) (xVar 3)) (aNil))) (xK (.int 2147483647))))) (sSeq (sFor (iRange2 (xK (.int 1)) (xK (.int 64))) (tName 2) (sAsg (tSub setIx (xVar 1) (xVar 2)) (x2 oMod (xCall fInt (aCons (x2 oAdd (x2 oIx (xVar 1) (xVar 2)) (x2 oMul (x2 oIx (xVar 1) (x2 oSub (xVar 2) (xK (.int 1)))) (xK (.int 16807)))) (aNil))) (xK (.int 2147483647))))) (sRet (xVar 1)))))
noncomputable def f__law_draw : Fn := fDef 2 4 (sSeq (sSet 2 (x2 oIxD (xVar 0) (xK (.str "spot")))) (sSeq (sAsg (tSub setKv (xVar 0) (xK (.str "spot"))) (x2 oAdd (xVar 2) (xK (.int 1)))) (sSeq (sIf (bE (x2 oNe (x2 oIxD (xVar 0) (xK (.str "great"))) (xLst (aNil)))) (sSeq (sSet 3 (x2 oIxD (xVar 0) (xK (.str "great")))) (sSeq (sSet 4 (x2 oMod (xCall fInt (aCons (xVar 2) (aNil))) (xCall fLen (aCons (xVar 3) (aNil))))) (sSeq (sSet 5 (x2 oIx (xVar 3) (xVar 4))) (sIf (bE (x2 oGt (xVar 5) (xK (.int 0)))) (sSeq (sAsg (tSub setIx (xVar 3) (xVar 4)) (x2 oDiv (xVar 5) (xVar 1))) (sRet (x2 oMod (xCall fInt (aCons (xVar 5) (aNil))) (xVar 1)))) (sPass))))) (sPass)) (sSeq (sSet 3 (x2 oIxD (xVar 0) (xK (.str "cells")))) (sRet (x2 oMod (xCall fInt (aCons (xCall f__law_mixed (aCons (xCall f__law_mixed (aCons (x2 oAdd (x2 oIx (xVar 3) (x2 oMod (xCall fInt (aCons (xVar 2) (aNil))) (xK (.int 64)))) (x2 oMul (xK (.int 31)) (x2 oDiv (xVar 2) (xK (.int 64))))) (aCons (xVar 2) (aNil)))) (aCons (x2 oAdd (xVar 2) (xK (.int 7))) (aNil)))) (aNil))) (xVar 1)))))))
noncomputable def f__law_begun : Fn := fDef 1 2 (sSeq (sSet 1 (xDct (kCons (xK (.str "cells")) (xCall f__law_folded (aCons (xVar 0) (aNil))) (kCons (xK (.str "great")) (xLst (aNil)) (kCons (xK (.str "spot")) (xK (.int 0)) (kNil)))))) (sSeq (sAsg (tSub setKv (xVar 1) (xK (.str "great"))) (xLc (iSeq (xVar 0)) (tName 2) (bTrue) (xIf (bE (x2 oGe (xVar 2) (x2 oPow (xK (.int 10)) (xK (.int 18))))) (xVar 2) (xK (.int 0))) [2])) (sRet (xVar 1))))
noncomputable def f__law_like : Fn := fDef 2 0 (sRet (x2 oEq (xCall fRepr (aCons (xVar 0) (aNil))) (xCall fRepr (aCons (xVar 1) (aNil)))))
noncomputable def f__law_of : Fn := fDef 2 0 (sRet (x2 oIx (xVar 1) (xCall f__law_draw (aCons (xVar 0) (aCons (xCall fLen (aCons (xVar 1) (aNil))) (aNil))))))
noncomputable def f__law_four_heard : Fn := fDef 3 4 (sSeq (sAsg (tTup 4 (tsCons (tName 3) (tsCons (tName 4) (tsCons (tName 5) (tsCons (tName 6) (tsNil)))))) (xVar 0)) (sSeq (sIf (bOr (bE (x2 oEq (xVar 6) (xK (.str "gone")))) (bE (x2 oLt (xVar 1) (xVar 5)))) (sRet (xVar 0)) (sPass)) (sSeq (sIf (bAnd (bE (x2 oEq (xVar 6) (xK (.str "sure")))) (bE (x2 oNe (xVar 1) (xVar 5)))) (sRet (xTup (aCons (xVar 3) (aCons (xVar 4) (aCons (xVar 5) (aCons (xK (.str "gone")) (aNil))))))) (sPass)) (sSeq (sIf (bOr (bE (x2 oEq (xVar 6) (xK (.str "sure")))) (bE (x2 oEq (xVar 2) (xVar 4)))) (sRet (xTup (aCons (xVar 3) (aCons (xVar 4) (aCons (xVar 1) (aCons (xK (.str "sure")) (aNil))))))) (sPass)) (sRet (xTup (aCons (xVar 3) (aCons (xVar 4) (aCons (xVar 1) (aCons (xK (.str "new")) (aNil)))))))))))
noncomputable def f__law_four_begun : Fn := fDef 1 1 (sSeq (sSet 1 (xLst (aCons (xTup (aCons (xK (.int 0)) (aCons (xK (.int 1)) (aCons (xK (.int 0)) (aCons (xK (.str "new")) (aNil)))))) (aCons (xTup (aCons (xK (.int 1)) (aCons (xK (.int 2)) (aCons (xK (.int 0)) (aCons (xK (.str "new")) (aNil)))))) (aNil))))) (sRet (xDct (kCons (xK (.str "links")) (xVar 1) (kCons (xK (.str "sent")) (xLst (aCons (xLst (aNil)) (aCons (xLst (aNil)) (aNil)))) (kCons (xK (.str "sure")) (xLst (aNil)) (kCons (xK (.str "goings")) (xLst (aCons (xLst (aNil)) (aCons (xLst (aNil)) (aNil)))) (kCons (xK (.str "clock")) (xK (.int 0)) (kCons (xK (.str "since")) (xDct (kCons (xK (.int 1)) (xK (.int 0)) (kCons (xK (.int 2)) (xK (.int 0)) (kNil)))) (kCons (xK (.str "taken")) (xLst (aNil)) (kNil)))))))))))
noncomputable def f__law_four_put : Fn := fDef 3 0 (sSeq (sIf (bE (x2 (oInU true) (x2 oIx (xVar 2) (xK (.int 1))) (x2 oIxD (xVar 0) (xK (.str "since"))))) (sAsg (tSub setU (x2 oIxD (xVar 0) (xK (.str "since"))) (x2 oIx (xVar 2) (xK (.int 1)))) (x2 oIxD (xVar 0) (xK (.str "clock")))) (sPass)) (sSeq (sAsg (tSub setU (x2 oIxD (xVar 0) (xK (.str "links"))) (xVar 1)) (xVar 2)) (sIf (bAnd (bE (x2 oEq (x2 oIx (xVar 2) (xK (.int 3))) (xK (.str "sure")))) (bE (x2 (oInU true) (xTup (aCons (x2 oIx (xVar 2) (xK (.int 1))) (aCons (x2 oIx (xVar 2) (xK (.int 2))) (aNil)))) (x2 oIxD (xVar 0) (xK (.str "sure")))))) (sExpr (xLst1 mAppend (x2 oIxD (xVar 0) (xK (.str "sure"))) (xTup (aCons (x2 oIx (xVar 2) (xK (.int 1))) (aCons (x2 oIx (xVar 2) (xK (.int 2))) (aNil)))))) (sPass))))
noncomputable def f__law_four_send : Fn := fDef 3 1 (sSeq (sSet 3 (x2 oIxU (x2 oIxD (xVar 0) (xK (.str "links"))) (xVar 1))) (sSeq (sSet 2 (xAnd (xVar 2) (x2 oEq (x2 oIx (xVar 3) (xK (.int 3))) (xK (.str "sure"))))) (sExpr (xLst1 mAppend (x2 oIxU (x2 oIxD (xVar 0) (xK (.str "sent"))) (xVar 1)) (xTup (aCons (x2 oIx (xVar 3) (xK (.int 1))) (aCons (x2 oIx (xVar 3) (xK (.int 2))) (aCons (xVar 2) (aCons (x2 oIxD (xVar 0) (xK (.str "clock"))) (aCons (x2 (oInU false) (xTup (aCons (x2 oIx (xVar 3) (xK (.int 1))) (aCons (x2 oIx (xVar 3) (xK (.int 2))) (aNil)))) (x2 oIxD (xVar 0) (xK (.str "sure")))) (aNil)))))))))))
noncomputable def f__law_four_hear : Fn := fDef 3 3 (sSeq (sSet 3 (x2 oIxU (x2 oIxD (xVar 0) (xK (.str "links"))) (xVar 1))) (sSeq (sSet 4 (xCall f__law_four_heard (aCons (xVar 3) (aCons (x2 oIx (xVar 2) (xK (.int 0))) (aCons (x2 oIx (xVar 2) (xK (.int 1))) (aNil)))))) (sSeq (sIf (bNot (bE (xCall f__law_like (aCons (xCall f_link_heard (aCons (xVar 3) (aCons (x2 oIx (xVar 2) (xK (.int 0))) (aCons (x2 oIx (xVar 2) (xK (.int 1))) (aNil))))) (aCons (xVar 4) (aNil)))))) (sRet (xK (.bl false))) (sPass)) (sSeq (sIf (bE (x2 oEq (x2 oIx (xVar 4) (xK (.int 3))) (xK (.str "gone")))) (sSeq (sExpr (xLst1 mAppend (x2 oIxU (x2 oIxD (xVar 0) (xK (.str "goings"))) (xVar 1)) (xTup (aCons (x2 oIx (xVar 3) (xK (.int 1))) (aCons (x2 oIx (xVar 3) (xK (.int 2))) (aCons (x2 oIx (xVar 2) (xK (.int 0))) (aNil))))))) (sSeq (sSet 5 (x2 oAdd (x2 oIx (xVar 3) (xK (.int 1))) (xK (.int 2)))) (sSeq (sSet 4 (xTup (aCons (xVar 1) (aCons (xVar 5) (aCons (x2 oIx (xVar 2) (xK (.int 0))) (aCons (xK (.str "new")) (aNil))))))) (sIf (bOr (bNot (bE (xCall f__law_like (aCons (xCall f_link_again (aCons (xVar 3) (aCons (xVar 5) (aCons (x2 oIx (xVar 2) (xK (.int 0))) (aNil))))) (aCons (xVar 4) (aNil)))))) (bNot (bE (xCall f__law_like (aCons (xCall f_next_life (aCons (xVar 1) (aCons (x2 oIx (xVar 3) (xK (.int 1))) (aNil)))) (aCons (xVar 5) (aNil))))))) (sRet (xK (.bl false))) (sPass))))) (sIf (bAnd (bE (x2 oEq (x2 oIx (xVar 4) (xK (.int 3))) (xK (.str "sure")))) (bAnd (bE (x2 oEq (x2 oIx (xVar 4) (xK (.int 2))) (x2 oIx (xVar 2) (xK (.int 0))))) (bE (x2 oEq (x2 oIx (xVar 4) (xK (.int 1))) (x2 oIx (xVar 2) (xK (.int 1))))))) (sExpr (xLst1 mAppend (x2 oIxD (xVar 0) (xK (.str "taken"))) (xTup (aCons (x2 oIx (xVar 4) (xK (.int 1))) (aCons (xVar 2) (aNil)))))) (sPass))) (sSeq (sExpr (xCall f__law_four_put (aCons (xVar 0) (aCons (xVar 1) (aCons (xVar 4) (aNil)))))) (sRet (xK (.bl true))))))))
noncomputable def f__law_four_crash : Fn := fDef 2 1 (sSeq (sSet 2 (x2 oIxU (x2 oIxD (xVar 0) (xK (.str "links"))) (xVar 1))) (sExpr (xCall f__law_four_put (aCons (xVar 0) (aCons (xVar 1) (aCons (xTup (aCons (xVar 1) (aCons (x2 oAdd (x2 oIx (xVar 2) (xK (.int 1))) (xK (.int 2))) (aCons (xK (.int 0)) (aCons (xK (.str "new")) (aNil)))))) (aNil)))))))
noncomputable def f__law_four_deed : Fn := fDef 3 4 (sSeq (sAsg (tSub setKv (xVar 1) (xK (.str "clock"))) (x2 oAdd (x2 oIxD (xVar 1) (xK (.str "clock"))) (xK (.int 1)))) (sSeq (sPar 3 4 (aCons (xCall f__law_draw (aCons (xVar 0) (aCons (xK (.int 12)) (aNil)))) (aCons (xCall f__law_draw (aCons (xVar 0) (aCons (xK (.int 2)) (aNil)))) (aNil)))) (sSeq (sSet 5 (x2 oIxU (x2 oIxD (xVar 1) (xK (.str "sent"))) (x2 oSub (xK (.int 1)) (xVar 4)))) (sSeq (sIf (bAnd (bE (x2 oEq (xVar 3) (xK (.int 0)))) (bE (xVar 2))) (sExpr (xCall f__law_four_crash (aCons (xVar 1) (aCons (xVar 4) (aNil))))) (sIf (bOr (bE (x2 oLt (xVar 3) (xK (.int 5)))) (bE (x2 oEq (xVar 5) (xLst (aNil))))) (sExpr (xCall f__law_four_send (aCons (xVar 1) (aCons (xVar 4) (aCons (x2 oEq (xCall f__law_draw (aCons (xVar 0) (aCons (xK (.int 2)) (aNil)))) (xK (.int 0))) (aNil)))))) (sSeq (sSet 6 (xCall f__law_draw (aCons (xVar 0) (aCons (xCall fMin2 (aCons (xCall fLen (aCons (xVar 5) (aNil))) (aCons (xCall f__law_of (aCons (xVar 0) (aCons (xLst (aCons (xK (.int 1)) (aCons (xK (.int 1)) (aCons (xK (.int 3)) (aCons (xK (.int 50)) (aNil)))))) (aNil)))) (aNil)))) (aNil))))) (sRet (xCall f__law_four_hear (aCons (xVar 1) (aCons (xVar 4) (aCons (x2 oIx (xVar 5) (x2 oSub (x2 oSub (xCall fLen (aCons (xVar 5) (aNil))) (xK (.int 1))) (xVar 6))) (aNil))))))))) (sRet (xK (.bl true)))))))
noncomputable def f__law_pairs_right : Fn := fDef 1 3 (sSeq (sSet 1 (xDct0)) (sSeq (sFor (iSeq (x2 oIxD (xVar 0) (xK (.str "sure")))) (tTup 2 (tsCons (tName 2) (tsCons (tName 3) (tsNil)))) (sAsg (tSub setU (xVar 1) (xVar 2)) (xVar 3))) (sRet (x2 oEq (xLcK (xVar 1) (tName 2) (bAnd (bE (x2 (oInU false) (x2 oIxU (xVar 1) (xVar 2)) (xVar 1))) (bE (x2 oLt (x2 oIxU (xVar 1) (x2 oIxU (xVar 1) (xVar 2))) (xVar 2)))) (xVar 2) [2]) (xLst (aNil))))))
noncomputable def f_law : Fn := fDef 1 6 (sSeq (sSet 1 (xCall f__law_begun (aCons (xVar 0) (aNil)))) (sSeq (sSet 2 (xCall f__law_four_begun (aCons (xVar 1) (aNil)))) (sSeq (sFor (iRange1 (x2 oAdd (xK (.int 60)) (x2 oMul (xK (.int 20)) (xCall fMin2 (aCons (xCall fLen (aCons (xVar 0) (aNil))) (aCons (xK (.int 5)) (aNil))))))) (tName 3) (sSeq (sIf (bNot (bE (xCall f__law_four_deed (aCons (xVar 1) (aCons (xVar 2) (aCons (xK (.bl true)) (aNil))))))) (sRet (xK (.bl false))) (sPass)) (sSeq (sAsg (tUnl 2 (tsCons (tName 4) (tsCons (tName 5) (tsNil)))) (x2 oIxD (xVar 2) (xK (.str "links")))) (sSeq (sIf (bAnd (bE (x2 oEq (x2 oIx (xVar 4) (xK (.int 3))) (xK (.str "sure")))) (bE (x2 oEq (x2 oIx (xVar 5) (xK (.int 3))) (xK (.str "sure"))))) (sSeq (sSet 6 (xAnd (x2 oEq (x2 oIx (xVar 4) (xK (.int 2))) (x2 oIx (xVar 5) (xK (.int 1)))) (x2 oEq (x2 oIx (xVar 5) (xK (.int 2))) (x2 oIx (xVar 4) (xK (.int 1)))))) (sIf (bAnd (bNot (bE (xVar 6))) (bAnd (bE (x2 oGe (x2 oIx (xVar 4) (xK (.int 2))) (x2 oIx (xVar 5) (xK (.int 1))))) (bE (x2 oGe (x2 oIx (xVar 5) (xK (.int 2))) (x2 oIx (xVar 4) (xK (.int 1))))))) (sRet (xK (.bl false))) (sPass))) (sPass)) (sIf (bNot (bE (xCall f__law_pairs_right (aCons (xVar 2) (aNil))))) (sRet (xK (.bl false))) (sPass)))))) (sRet (xK (.bl true))))))
end LawT
end PV

set_option Elab.async false
set_option linter.all false
set_option maxRecDepth 100000
set_option maxHeartbeats 4000000

namespace PV
namespace LawT
open PySem PySem.Spec PyProof.Rows L2
abbrev pwL : Program := PySem.Challenge.pw_prefixwire_k23_whole_lives_that_stand
def top (i : Nat) : Stmt := pwL.main.body.getD i (.Pass ⟨0, 0, 0, 0⟩)

abbrev GG (K : PySem.W.Frag) (cA : Nat → Addr) : Gd := ⟨K, cA, flk⟩
structure Tx (K : PySem.W.Frag) (mg : Str → Option Value) (fa : Nat → Addr) (fd : Nat → FuncData) (cA : Nat → Addr) : Prop where
  f_is_whole : Fun K "is_whole" "is_whole" (top 8) (fa 0) (fd 0)
  f_is_within : Fun K "is_within" "is_within" (top 9) (fa 1) (fd 1)
  f_is_tuple_of : Fun K "is_tuple_of" "is_tuple_of" (top 10) (fa 2) (fd 2)
  f_need_side : Fun K "need_side" "need_side" (top 13) (fa 3) (fd 3)
  f_is_kind : Fun K "is_kind" "is_kind" (top 14) (fa 4) (fd 4)
  f_is_life : Fun K "is_life" "is_life" (top 15) (fa 5) (fd 5)
  f_need_life : Fun K "need_life" "need_life" (top 16) (fa 6) (fd 6)
  f_next_life : Fun K "next_life" "next_life" (top 17) (fa 7) (fd 7)
  f_is_peer : Fun K "is_peer" "is_peer" (top 20) (fa 8) (fd 8)
  f_link_fault : Fun K "link_fault" "link_fault" (top 21) (fa 9) (fd 9)
  f_need_link : Fun K "need_link" "need_link" (top 22) (fa 10) (fd 10)
  f_need_header : Fun K "need_header" "need_header" (top 23) (fa 11) (fd 11)
  f_heard_by : Fun K "heard_by" "heard_by" (top 24) (fa 12) (fd 12)
  f_link_heard : Fun K "link_heard" "link_heard" (top 25) (fa 13) (fd 13)
  f_link_again : Fun K "link_again" "link_again" (top 26) (fa 14) (fd 14)
  f__law_mixed : Fun K "_law_mixed" "_law_mixed" (top 28) (fa 15) (fd 15)
  f__law_folded : Fun K "_law_folded" "_law_folded" (top 29) (fa 16) (fd 16)
  f__law_draw : Fun K "_law_draw" "_law_draw" (top 30) (fa 17) (fd 17)
  f__law_begun : Fun K "_law_begun" "_law_begun" (top 31) (fa 18) (fd 18)
  f__law_like : Fun K "_law_like" "_law_like" (top 32) (fa 19) (fd 19)
  f__law_of : Fun K "_law_of" "_law_of" (top 33) (fa 20) (fd 20)
  f__law_four_heard : Fun K "_law_four_heard" "_law_four_heard" (top 34) (fa 21) (fd 21)
  f__law_four_begun : Fun K "_law_four_begun" "_law_four_begun" (top 35) (fa 22) (fd 22)
  f__law_four_put : Fun K "_law_four_put" "_law_four_put" (top 36) (fa 23) (fd 23)
  f__law_four_send : Fun K "_law_four_send" "_law_four_send" (top 37) (fa 24) (fd 24)
  f__law_four_hear : Fun K "_law_four_hear" "_law_four_hear" (top 38) (fa 25) (fd 25)
  f__law_four_crash : Fun K "_law_four_crash" "_law_four_crash" (top 39) (fa 26) (fd 26)
  f__law_four_deed : Fun K "_law_four_deed" "_law_four_deed" (top 40) (fa 27) (fd 27)
  f__law_pairs_right : Fun K "_law_pairs_right" "_law_pairs_right" (top 41) (fa 28) (fd 28)
  f_law : Fun K "law" "law" (top 42) (fa 29) (fd 29)
  b_bool : mg "bool" = none
  b_enumerate : mg "enumerate" = none
  b_int : mg "int" = none
  b_isinstance : mg "isinstance" = none
  b_len : mg "len" = none
  b_min : mg "min" = none
  b_range : mg "range" = none
  b_repr : mg "repr" = none
  b_str : mg "str" = none
  b_tuple : mg "tuple" = none
  c_BadLife : Er.Txt pwL K mg "BadLife" ["value"] (cA 1)
  c_BadLink : Er.Txt pwL K mg "BadLink" ["word"] (cA 3)
  c_BadNumber : Er.Txt pwL K mg "BadNumber" ["value"] (cA 0)
  c_BadSide : Er.Txt pwL K mg "BadSide" ["value"] (cA 2)
  c_TooGreat : Er.Txt pwL K mg "TooGreat" ["most"] (cA 4)
  g_MOST_LIFE : ∃ t, mg "MOST_LIFE" = some (.int (1152921504606846976) t)
  g_PHASES : ∃ a, mg "PHASES" = some (.ref a) ∧ ∀ H m, Rep K H m (.ref a) c_PHASES
  m__law_begun : mg "_law_begun" = some (.ref (fa 18))
  m__law_draw : mg "_law_draw" = some (.ref (fa 17))
  m__law_folded : mg "_law_folded" = some (.ref (fa 16))
  m__law_four_begun : mg "_law_four_begun" = some (.ref (fa 22))
  m__law_four_crash : mg "_law_four_crash" = some (.ref (fa 26))
  m__law_four_deed : mg "_law_four_deed" = some (.ref (fa 27))
  m__law_four_hear : mg "_law_four_hear" = some (.ref (fa 25))
  m__law_four_heard : mg "_law_four_heard" = some (.ref (fa 21))
  m__law_four_put : mg "_law_four_put" = some (.ref (fa 23))
  m__law_four_send : mg "_law_four_send" = some (.ref (fa 24))
  m__law_like : mg "_law_like" = some (.ref (fa 19))
  m__law_mixed : mg "_law_mixed" = some (.ref (fa 15))
  m__law_of : mg "_law_of" = some (.ref (fa 20))
  m__law_pairs_right : mg "_law_pairs_right" = some (.ref (fa 28))
  m_heard_by : mg "heard_by" = some (.ref (fa 12))
  m_is_kind : mg "is_kind" = some (.ref (fa 4))
  m_is_life : mg "is_life" = some (.ref (fa 5))
  m_is_peer : mg "is_peer" = some (.ref (fa 8))
  m_is_tuple_of : mg "is_tuple_of" = some (.ref (fa 2))
  m_is_whole : mg "is_whole" = some (.ref (fa 0))
  m_is_within : mg "is_within" = some (.ref (fa 1))
  m_law : mg "law" = some (.ref (fa 29))
  m_link_again : mg "link_again" = some (.ref (fa 14))
  m_link_fault : mg "link_fault" = some (.ref (fa 9))
  m_link_heard : mg "link_heard" = some (.ref (fa 13))
  m_need_header : mg "need_header" = some (.ref (fa 11))
  m_need_life : mg "need_life" = some (.ref (fa 6))
  m_need_link : mg "need_link" = some (.ref (fa 10))
  m_need_side : mg "need_side" = some (.ref (fa 3))
  m_next_life : mg "next_life" = some (.ref (fa 7))

section
variable {w : World} {K : PySem.W.Frag} {mg : Str → Option Value} {base : Heap} {fa : Nat → Addr} {fd : Nat → FuncData} {cA : Nat → Addr}
theorem b_is_whole (T : Tx K mg fa fd cA) : Binds K (fd 0) ["value"] [] := T.f_is_whole.binds fun _ _ _ _ _ _ us hl => match us, hl with | [_], _ => rfl
theorem d_is_whole (T : Tx K mg fa fd cA) : FnG pwL w K mg base 2 (fa 0) (fd 0) ["value"] (spD (GG K cA) f_is_whole) := by
  refine fdef (G := GG K cA) (k := 1) (n := 1) (nl := 0) (N := ["value"]) T.f_is_whole ⟨rfl, rfl, rfl, by decide +kernel, rfl, by decide +kernel, by decide +kernel⟩ rfl rfl fun cdv A outer s H E hr hg => ?_
  have nd : (["value"] : List Str).Nodup := by decide +kernel
  have tk := takes_fn (P := pwL) (w := w) (K := K) (mg := mg) (base := base) (N := ["value"]) (qual := "is_whole") (scope := defScope (top 8)) (f := fa 0) (cd := cdv) (A := A) (outer := outer) (s := s) (H := H) (E := E)
  have hp := owns_fn (P := pwL) (w := w) (K := K) (mg := mg) (base := base) (N := ["value"]) (qual := "is_whole") (scope := defScope (top 8)) (f := fa 0) (cd := cdv) (A := A) (outer := outer) (s := s) (H := H) (E := E)
  exact dss_one (ds_ret (de_and (de_isi .int rfl rfl T.b_isinstance bb_isinstance (pe_bltn rfl T.b_int bb_int rfl) (de_var 0)) (de_one (de_not (de_isi .bool rfl rfl T.b_isinstance bb_isinstance (pe_bltn rfl T.b_bool bb_bool rfl) (de_var 0))))))
theorem b_is_within (T : Tx K mg fa fd cA) : Binds K (fd 1) ["value", "low", "high"] [] := T.f_is_within.binds fun _ _ _ _ _ _ us hl => match us, hl with | [_, _, _], _ => rfl
theorem d_is_within (T : Tx K mg fa fd cA) : FnG pwL w K mg base 3 (fa 1) (fd 1) ["value", "low", "high"] (spD (GG K cA) f_is_within) := by
  refine fdef (G := GG K cA) (k := 2) (n := 3) (nl := 0) (N := ["value", "low", "high"]) T.f_is_within ⟨rfl, rfl, rfl, by decide +kernel, rfl, by decide +kernel, by decide +kernel⟩ rfl rfl fun cdv A outer s H E hr hg => ?_
  have nd : (["value", "low", "high"] : List Str).Nodup := by decide +kernel
  have tk := takes_fn (P := pwL) (w := w) (K := K) (mg := mg) (base := base) (N := ["value", "low", "high"]) (qual := "is_within") (scope := defScope (top 9)) (f := fa 1) (cd := cdv) (A := A) (outer := outer) (s := s) (H := H) (E := E)
  have hp := owns_fn (P := pwL) (w := w) (K := K) (mg := mg) (base := base) (N := ["value", "low", "high"]) (qual := "is_within") (scope := defScope (top 9)) (f := fa 1) (cd := cdv) (A := A) (outer := outer) (s := s) (H := H) (E := E)
  exact dss_one (ds_ret (de_and (de_call ((d_is_whole T).mono (by decide)) hr hg tk rfl T.m_is_whole T.f_is_whole.kp (b_is_whole T) (da_cons (de_var 0) (da_nil))) (de_one (de_chain op_le op_le o2_le o2_le (de_var 1) (de_var 0) (de_var 2)))))
theorem b_is_tuple_of (T : Tx K mg fa fd cA) : Binds K (fd 2) ["value", "many"] [] := T.f_is_tuple_of.binds fun _ _ _ _ _ _ us hl => match us, hl with | [_, _], _ => rfl
theorem d_is_tuple_of (T : Tx K mg fa fd cA) : FnG pwL w K mg base 2 (fa 2) (fd 2) ["value", "many"] (spD (GG K cA) f_is_tuple_of) := by
  refine fdef (G := GG K cA) (k := 1) (n := 2) (nl := 0) (N := ["value", "many"]) T.f_is_tuple_of ⟨rfl, rfl, rfl, by decide +kernel, rfl, by decide +kernel, by decide +kernel⟩ rfl rfl fun cdv A outer s H E hr hg => ?_
  have nd : (["value", "many"] : List Str).Nodup := by decide +kernel
  have tk := takes_fn (P := pwL) (w := w) (K := K) (mg := mg) (base := base) (N := ["value", "many"]) (qual := "is_tuple_of") (scope := defScope (top 10)) (f := fa 2) (cd := cdv) (A := A) (outer := outer) (s := s) (H := H) (E := E)
  have hp := owns_fn (P := pwL) (w := w) (K := K) (mg := mg) (base := base) (N := ["value", "many"]) (qual := "is_tuple_of") (scope := defScope (top 10)) (f := fa 2) (cd := cdv) (A := A) (outer := outer) (s := s) (H := H) (E := E)
  exact dss_one (ds_ret (de_and (de_isi .tuple rfl rfl T.b_isinstance bb_isinstance (pe_bltn rfl T.b_tuple bb_tuple rfl) (de_var 0)) (de_one (de_cmp (opR_eq rfl hr) o2_eq (de_callB cr_len g_len rfl T.b_len bb_len (da_cons (de_var 0) (da_nil))) (de_var 1) (nomark _)))))
theorem b_need_side (T : Tx K mg fa fd cA) : Binds K (fd 3) ["side"] [] := T.f_need_side.binds fun _ _ _ _ _ _ us hl => match us, hl with | [_], _ => rfl
theorem d_need_side (T : Tx K mg fa fd cA) : FnG pwL w K mg base 4 (fa 3) (fd 3) ["side"] (spD (GG K cA) f_need_side) := by
  refine fdef (G := GG K cA) (k := 3) (n := 1) (nl := 0) (N := ["side"]) T.f_need_side ⟨rfl, rfl, rfl, by decide +kernel, rfl, by decide +kernel, by decide +kernel⟩ rfl rfl fun cdv A outer s H E hr hg => ?_
  have nd : (["side"] : List Str).Nodup := by decide +kernel
  have tk := takes_fn (P := pwL) (w := w) (K := K) (mg := mg) (base := base) (N := ["side"]) (qual := "need_side") (scope := defScope (top 13)) (f := fa 3) (cd := cdv) (A := A) (outer := outer) (s := s) (H := H) (E := E)
  have hp := owns_fn (P := pwL) (w := w) (K := K) (mg := mg) (base := base) (N := ["side"]) (qual := "need_side") (scope := defScope (top 13)) (f := fa 3) (cd := cdv) (A := A) (outer := outer) (s := s) (H := H) (E := E)
  exact dss_cons (ds_if (dt_not (dt_val (de_call ((d_is_within T).mono (by decide)) hr hg tk rfl T.m_is_within T.f_is_within.kp (b_is_within T) (da_cons (de_var 0) (da_cons (de_int) (da_cons (de_int) (da_nil))))))) (dss_one (ds_raise T.c_BadSide hr rfl rfl tk (da_cons (de_var 0) (da_nil)) 1 rfl)) (dss_nil)) (dss_one (ds_ret (de_var 0)))
theorem b_is_kind (T : Tx K mg fa fd cA) : Binds K (fd 4) ["value", "side"] [] := T.f_is_kind.binds fun _ _ _ _ _ _ us hl => match us, hl with | [_, _], _ => rfl
theorem d_is_kind (T : Tx K mg fa fd cA) : FnG pwL w K mg base 4 (fa 4) (fd 4) ["value", "side"] (spD (GG K cA) f_is_kind) := by
  refine fdef (G := GG K cA) (k := 3) (n := 2) (nl := 0) (N := ["value", "side"]) T.f_is_kind ⟨rfl, rfl, rfl, by decide +kernel, rfl, by decide +kernel, by decide +kernel⟩ rfl rfl fun cdv A outer s H E hr hg => ?_
  have nd : (["value", "side"] : List Str).Nodup := by decide +kernel
  have tk := takes_fn (P := pwL) (w := w) (K := K) (mg := mg) (base := base) (N := ["value", "side"]) (qual := "is_kind") (scope := defScope (top 14)) (f := fa 4) (cd := cdv) (A := A) (outer := outer) (s := s) (H := H) (E := E)
  have hp := owns_fn (P := pwL) (w := w) (K := K) (mg := mg) (base := base) (N := ["value", "side"]) (qual := "is_kind") (scope := defScope (top 14)) (f := fa 4) (cd := cdv) (A := A) (outer := outer) (s := s) (H := H) (E := E)
  exact dss_one (ds_ret (de_and (de_call ((d_is_within T).mono (by decide)) hr hg tk rfl T.m_is_within T.f_is_within.kp (b_is_within T) (da_cons (de_var 0) (da_cons (de_int) (da_cons (de_k (v := .int (1152921504606846976)) (pe_glob (by rfl) T.g_MOST_LIFE.choose_spec ⟨_, rfl⟩) (fun _ _ => .int _)) (da_nil))))) (de_one (de_cmp (opR_eq rfl hr) o2_eq (de_op op_mod o2_mod (de_var 0) (de_int)) (de_op opR_sub o2_sub (de_int) (de_var 1)) (nomark _)))))
theorem b_is_life (T : Tx K mg fa fd cA) : Binds K (fd 5) ["value", "side"] [] := T.f_is_life.binds fun _ _ _ _ _ _ us hl => match us, hl with | [_, _], _ => rfl
theorem d_is_life (T : Tx K mg fa fd cA) : FnG pwL w K mg base 5 (fa 5) (fd 5) ["value", "side"] (spD (GG K cA) f_is_life) := by
  refine fdef (G := GG K cA) (k := 4) (n := 2) (nl := 0) (N := ["value", "side"]) T.f_is_life ⟨rfl, rfl, rfl, by decide +kernel, rfl, by decide +kernel, by decide +kernel⟩ rfl rfl fun cdv A outer s H E hr hg => ?_
  have nd : (["value", "side"] : List Str).Nodup := by decide +kernel
  have tk := takes_fn (P := pwL) (w := w) (K := K) (mg := mg) (base := base) (N := ["value", "side"]) (qual := "is_life") (scope := defScope (top 15)) (f := fa 5) (cd := cdv) (A := A) (outer := outer) (s := s) (H := H) (E := E)
  have hp := owns_fn (P := pwL) (w := w) (K := K) (mg := mg) (base := base) (N := ["value", "side"]) (qual := "is_life") (scope := defScope (top 15)) (f := fa 5) (cd := cdv) (A := A) (outer := outer) (s := s) (H := H) (E := E)
  exact dss_one (ds_ret (de_call ((d_is_kind T).mono (by decide)) hr hg tk rfl T.m_is_kind T.f_is_kind.kp (b_is_kind T) (da_cons (de_var 0) (da_cons (de_call ((d_need_side T).mono (by decide)) hr hg tk rfl T.m_need_side T.f_need_side.kp (b_need_side T) (da_cons (de_var 1) (da_nil))) (da_nil)))))
theorem b_need_life (T : Tx K mg fa fd cA) : Binds K (fd 6) ["life", "side"] [] := T.f_need_life.binds fun _ _ _ _ _ _ us hl => match us, hl with | [_, _], _ => rfl
theorem d_need_life (T : Tx K mg fa fd cA) : FnG pwL w K mg base 6 (fa 6) (fd 6) ["life", "side"] (spD (GG K cA) f_need_life) := by
  refine fdef (G := GG K cA) (k := 5) (n := 2) (nl := 0) (N := ["life", "side"]) T.f_need_life ⟨rfl, rfl, rfl, by decide +kernel, rfl, by decide +kernel, by decide +kernel⟩ rfl rfl fun cdv A outer s H E hr hg => ?_
  have nd : (["life", "side"] : List Str).Nodup := by decide +kernel
  have tk := takes_fn (P := pwL) (w := w) (K := K) (mg := mg) (base := base) (N := ["life", "side"]) (qual := "need_life") (scope := defScope (top 16)) (f := fa 6) (cd := cdv) (A := A) (outer := outer) (s := s) (H := H) (E := E)
  have hp := owns_fn (P := pwL) (w := w) (K := K) (mg := mg) (base := base) (N := ["life", "side"]) (qual := "need_life") (scope := defScope (top 16)) (f := fa 6) (cd := cdv) (A := A) (outer := outer) (s := s) (H := H) (E := E)
  exact dss_cons (ds_if (dt_not (dt_val (de_call ((d_is_life T).mono (by decide)) hr hg tk rfl T.m_is_life T.f_is_life.kp (b_is_life T) (da_cons (de_var 0) (da_cons (de_var 1) (da_nil)))))) (dss_one (ds_raise T.c_BadLife hr rfl rfl tk (da_cons (de_var 0) (da_nil)) 1 rfl)) (dss_nil)) (dss_one (ds_ret (de_var 0)))
theorem b_next_life (T : Tx K mg fa fd cA) : Binds K (fd 7) ["side", "count"] [] := T.f_next_life.binds fun _ _ _ _ _ _ us hl => match us, hl with | [_, _], _ => rfl
theorem d_next_life (T : Tx K mg fa fd cA) : FnG pwL w K mg base 5 (fa 7) (fd 7) ["side", "count"] (spD (GG K cA) f_next_life) := by
  refine fdef (G := GG K cA) (k := 4) (n := 2) (nl := 1) (N := ["side", "count", "life"]) T.f_next_life ⟨rfl, rfl, rfl, by decide +kernel, rfl, by decide +kernel, by decide +kernel⟩ rfl rfl fun cdv A outer s H E hr hg => ?_
  have nd : (["side", "count", "life"] : List Str).Nodup := by decide +kernel
  have tk := takes_fn (P := pwL) (w := w) (K := K) (mg := mg) (base := base) (N := ["side", "count", "life"]) (qual := "next_life") (scope := defScope (top 17)) (f := fa 7) (cd := cdv) (A := A) (outer := outer) (s := s) (H := H) (E := E)
  have hp := owns_fn (P := pwL) (w := w) (K := K) (mg := mg) (base := base) (N := ["side", "count", "life"]) (qual := "next_life") (scope := defScope (top 17)) (f := fa 7) (cd := cdv) (A := A) (outer := outer) (s := s) (H := H) (E := E)
  exact dss_cons (ds_expr (de_call ((d_need_side T).mono (by decide)) hr hg tk rfl T.m_need_side T.f_need_side.kp (b_need_side T) (da_cons (de_var 0) (da_nil)))) (dss_cons (ds_if (dt_not (dt_val (de_call ((d_is_within T).mono (by decide)) hr hg tk rfl T.m_is_within T.f_is_within.kp (b_is_within T) (da_cons (de_var 1) (da_cons (de_int) (da_cons (de_k (v := .int (1152921504606846976)) (pe_glob (by rfl) T.g_MOST_LIFE.choose_spec ⟨_, rfl⟩) (fun _ _ => .int _)) (da_nil))))))) (dss_one (ds_raise T.c_BadNumber hr rfl rfl tk (da_cons (de_var 1) (da_nil)) 1 rfl)) (dss_nil)) (dss_cons (ds_set nd (de_ifExp (dt_val (de_call ((d_is_kind T).mono (by decide)) hr hg tk rfl T.m_is_kind T.f_is_kind.kp (b_is_kind T) (da_cons (de_op (opR_add rfl) o2_add (de_var 1) (de_int)) (da_cons (de_var 0) (da_nil))))) (de_op (opR_add rfl) o2_add (de_var 1) (de_int)) (de_op (opR_add rfl) o2_add (de_var 1) (de_int)))) (dss_cons (ds_if (dt_cmp op_gt o2_gt (de_var 2) (de_k (v := .int (1152921504606846976)) (pe_glob (by rfl) T.g_MOST_LIFE.choose_spec ⟨_, rfl⟩) (fun _ _ => .int _)) (nomark _)) (dss_one (ds_raise T.c_TooGreat hr rfl rfl tk (da_cons (de_k (v := .int (1152921504606846976)) (pe_glob (by rfl) T.g_MOST_LIFE.choose_spec ⟨_, rfl⟩) (fun _ _ => .int _)) (da_nil)) 1 rfl)) (dss_nil)) (dss_one (ds_ret (de_var 2))))))
theorem b_is_peer (T : Tx K mg fa fd cA) : Binds K (fd 8) ["value", "side"] [] := T.f_is_peer.binds fun _ _ _ _ _ _ us hl => match us, hl with | [_, _], _ => rfl
theorem d_is_peer (T : Tx K mg fa fd cA) : FnG pwL w K mg base 5 (fa 8) (fd 8) ["value", "side"] (spD (GG K cA) f_is_peer) := by
  refine fdef (G := GG K cA) (k := 4) (n := 2) (nl := 0) (N := ["value", "side"]) T.f_is_peer ⟨rfl, rfl, rfl, by decide +kernel, rfl, by decide +kernel, by decide +kernel⟩ rfl rfl fun cdv A outer s H E hr hg => ?_
  have nd : (["value", "side"] : List Str).Nodup := by decide +kernel
  have tk := takes_fn (P := pwL) (w := w) (K := K) (mg := mg) (base := base) (N := ["value", "side"]) (qual := "is_peer") (scope := defScope (top 20)) (f := fa 8) (cd := cdv) (A := A) (outer := outer) (s := s) (H := H) (E := E)
  have hp := owns_fn (P := pwL) (w := w) (K := K) (mg := mg) (base := base) (N := ["value", "side"]) (qual := "is_peer") (scope := defScope (top 20)) (f := fa 8) (cd := cdv) (A := A) (outer := outer) (s := s) (H := H) (E := E)
  exact dss_one (ds_ret (de_or (de_and (de_isi .int rfl rfl T.b_isinstance bb_isinstance (pe_bltn rfl T.b_int bb_int rfl) (de_var 0)) (de_and (de_not (de_isi .bool rfl rfl T.b_isinstance bb_isinstance (pe_bltn rfl T.b_bool bb_bool rfl) (de_var 0))) (de_one (de_cmp (opR_eq rfl hr) o2_eq (de_var 0) (de_int) (nomark _))))) (de_one (de_call ((d_is_kind T).mono (by decide)) hr hg tk rfl T.m_is_kind T.f_is_kind.kp (b_is_kind T) (da_cons (de_var 0) (da_cons (de_op opR_sub o2_sub (de_int) (de_var 1)) (da_nil)))))))
theorem b_link_fault (T : Tx K mg fa fd cA) : Binds K (fd 9) ["value"] [] := T.f_link_fault.binds fun _ _ _ _ _ _ us hl => match us, hl with | [_], _ => rfl
theorem d_link_fault (T : Tx K mg fa fd cA) : FnG pwL w K mg base 6 (fa 9) (fd 9) ["value"] (spD (GG K cA) f_link_fault) := by
  refine fdef (G := GG K cA) (k := 5) (n := 1) (nl := 4) (N := ["value", "side", "mine", "peer", "phase"]) T.f_link_fault ⟨rfl, rfl, rfl, by decide +kernel, rfl, by decide +kernel, by decide +kernel⟩ rfl rfl fun cdv A outer s H E hr hg => ?_
  have nd : (["value", "side", "mine", "peer", "phase"] : List Str).Nodup := by decide +kernel
  have tk := takes_fn (P := pwL) (w := w) (K := K) (mg := mg) (base := base) (N := ["value", "side", "mine", "peer", "phase"]) (qual := "link_fault") (scope := defScope (top 21)) (f := fa 9) (cd := cdv) (A := A) (outer := outer) (s := s) (H := H) (E := E)
  have hp := owns_fn (P := pwL) (w := w) (K := K) (mg := mg) (base := base) (N := ["value", "side", "mine", "peer", "phase"]) (qual := "link_fault") (scope := defScope (top 21)) (f := fa 9) (cd := cdv) (A := A) (outer := outer) (s := s) (H := H) (E := E)
  exact dss_cons (ds_if (dt_w (dw_or (dt_not (dt_val (de_call ((d_is_tuple_of T).mono (by decide)) hr hg tk rfl T.m_is_tuple_of T.f_is_tuple_of.kp (b_is_tuple_of T) (da_cons (de_var 0) (da_cons (de_int) (da_nil)))))) (dw_or (dt_not (dt_val (de_isi .int rfl rfl T.b_isinstance bb_isinstance (pe_bltn rfl T.b_int bb_int rfl) (de_ix rfl (de_var 0) (de_int))))) (dw_or1 (dt_val (de_isi .bool rfl rfl T.b_isinstance bb_isinstance (pe_bltn rfl T.b_bool bb_bool rfl) (de_ix rfl (de_var 0) (de_int)))))))) (dss_one (ds_ret (de_str))) (dss_nil)) (dss_cons (ds_asg (de_var 0) (dg_tup rfl rfl (dgs_cons (dg_name nd) (dgs_cons (dg_name nd) (dgs_cons (dg_name nd) (dgs_cons (dg_name nd) (dgs_nil))))))) (dss_cons (ds_if (dt_w (dw_or (dt_cmp (opR_notIn rfl) (o2_inF true) (de_var 1) (de_tup (da_cons (de_int) (da_cons (de_int) (da_nil)))) (by rfl)) (dw_or (dt_not (dt_val (de_call ((d_is_kind T).mono (by decide)) hr hg tk rfl T.m_is_kind T.f_is_kind.kp (b_is_kind T) (da_cons (de_var 2) (da_cons (de_var 1) (da_nil)))))) (dw_or1 (dt_not (dt_val (de_call ((d_is_peer T).mono (by decide)) hr hg tk rfl T.m_is_peer T.f_is_peer.kp (b_is_peer T) (da_cons (de_var 3) (da_cons (de_var 1) (da_nil)))))))))) (dss_one (ds_ret (de_str))) (dss_nil)) (dss_cons (ds_if (dt_w (dw_or (dt_not (dt_val (de_isi .str rfl rfl T.b_isinstance bb_isinstance (pe_bltn rfl T.b_str bb_str rfl) (de_var 4)))) (dw_or1 (dt_cmp (opR_notIn rfl) (o2_inF true) (de_var 4) (de_k (v := .ref T.g_PHASES.choose) (pe_glob (by rfl) T.g_PHASES.choose_spec.1 rfl) (fun _ _ => T.g_PHASES.choose_spec.2 _ _)) (by rfl))))) (dss_one (ds_ret (de_str))) (dss_nil)) (dss_one (ds_ret (de_ifExp (dt_w (dw_and (dt_cmp (opR_eq rfl hr) o2_eq (de_var 3) (de_int) (nomark _)) (dw_and1 (dt_cmp (opR_ne rfl hr) o2_ne (de_var 4) (de_str) (nomark _))))) (de_str) (de_non)))))))
theorem b_need_link (T : Tx K mg fa fd cA) : Binds K (fd 10) ["value"] [] := T.f_need_link.binds fun _ _ _ _ _ _ us hl => match us, hl with | [_], _ => rfl
theorem d_need_link (T : Tx K mg fa fd cA) : FnG pwL w K mg base 7 (fa 10) (fd 10) ["value"] (spD (GG K cA) f_need_link) := by
  refine fdef (G := GG K cA) (k := 6) (n := 1) (nl := 1) (N := ["value", "word"]) T.f_need_link ⟨rfl, rfl, rfl, by decide +kernel, rfl, by decide +kernel, by decide +kernel⟩ rfl rfl fun cdv A outer s H E hr hg => ?_
  have nd : (["value", "word"] : List Str).Nodup := by decide +kernel
  have tk := takes_fn (P := pwL) (w := w) (K := K) (mg := mg) (base := base) (N := ["value", "word"]) (qual := "need_link") (scope := defScope (top 22)) (f := fa 10) (cd := cdv) (A := A) (outer := outer) (s := s) (H := H) (E := E)
  have hp := owns_fn (P := pwL) (w := w) (K := K) (mg := mg) (base := base) (N := ["value", "word"]) (qual := "need_link") (scope := defScope (top 22)) (f := fa 10) (cd := cdv) (A := A) (outer := outer) (s := s) (H := H) (E := E)
  exact dss_cons (ds_set nd (de_call ((d_link_fault T).mono (by decide)) hr hg tk rfl T.m_link_fault T.f_link_fault.kp (b_link_fault T) (da_cons (de_var 0) (da_nil)))) (dss_cons (ds_if (dt_cmp op_notN o2_notN (de_var 1) (de_non) (nomark _)) (dss_one (ds_raise T.c_BadLink hr rfl rfl tk (da_cons (de_var 1) (da_nil)) 1 rfl)) (dss_nil)) (dss_one (ds_ret (de_var 0))))
theorem b_need_header (T : Tx K mg fa fd cA) : Binds K (fd 11) ["link", "from_life", "to_life"] [] := T.f_need_header.binds fun _ _ _ _ _ _ us hl => match us, hl with | [_, _, _], _ => rfl
theorem d_need_header (T : Tx K mg fa fd cA) : FnG pwL w K mg base 7 (fa 11) (fd 11) ["link", "from_life", "to_life"] (spD (GG K cA) f_need_header) := by
  refine fdef (G := GG K cA) (k := 6) (n := 3) (nl := 0) (N := ["link", "from_life", "to_life"]) T.f_need_header ⟨rfl, rfl, rfl, by decide +kernel, rfl, by decide +kernel, by decide +kernel⟩ rfl rfl fun cdv A outer s H E hr hg => ?_
  have nd : (["link", "from_life", "to_life"] : List Str).Nodup := by decide +kernel
  have tk := takes_fn (P := pwL) (w := w) (K := K) (mg := mg) (base := base) (N := ["link", "from_life", "to_life"]) (qual := "need_header") (scope := defScope (top 23)) (f := fa 11) (cd := cdv) (A := A) (outer := outer) (s := s) (H := H) (E := E)
  have hp := owns_fn (P := pwL) (w := w) (K := K) (mg := mg) (base := base) (N := ["link", "from_life", "to_life"]) (qual := "need_header") (scope := defScope (top 23)) (f := fa 11) (cd := cdv) (A := A) (outer := outer) (s := s) (H := H) (E := E)
  exact dss_cons (ds_expr (de_call ((d_need_life T).mono (by decide)) hr hg tk rfl T.m_need_life T.f_need_life.kp (b_need_life T) (da_cons (de_var 1) (da_cons (de_op opR_sub o2_sub (de_int) (de_ix rfl (de_var 0) (de_int))) (da_nil))))) (dss_one (ds_if (dt_not (dt_val (de_call ((d_is_peer T).mono (by decide)) hr hg tk rfl T.m_is_peer T.f_is_peer.kp (b_is_peer T) (da_cons (de_var 2) (da_cons (de_op opR_sub o2_sub (de_int) (de_ix rfl (de_var 0) (de_int))) (da_nil)))))) (dss_one (ds_raise T.c_BadLife hr rfl rfl tk (da_cons (de_var 2) (da_nil)) 1 rfl)) (dss_nil)))
theorem b_heard_by (T : Tx K mg fa fd cA) : Binds K (fd 12) ["link", "from_life", "to_life"] [] := T.f_heard_by.binds fun _ _ _ _ _ _ us hl => match us, hl with | [_, _, _], _ => rfl
theorem d_heard_by (T : Tx K mg fa fd cA) : FnG pwL w K mg base 2 (fa 12) (fd 12) ["link", "from_life", "to_life"] (spD (GG K cA) f_heard_by) := by
  refine fdef (G := GG K cA) (k := 1) (n := 3) (nl := 4) (N := ["link", "from_life", "to_life", "side", "mine", "peer", "phase"]) T.f_heard_by ⟨rfl, rfl, rfl, by decide +kernel, rfl, by decide +kernel, by decide +kernel⟩ rfl rfl fun cdv A outer s H E hr hg => ?_
  have nd : (["link", "from_life", "to_life", "side", "mine", "peer", "phase"] : List Str).Nodup := by decide +kernel
  have tk := takes_fn (P := pwL) (w := w) (K := K) (mg := mg) (base := base) (N := ["link", "from_life", "to_life", "side", "mine", "peer", "phase"]) (qual := "heard_by") (scope := defScope (top 24)) (f := fa 12) (cd := cdv) (A := A) (outer := outer) (s := s) (H := H) (E := E)
  have hp := owns_fn (P := pwL) (w := w) (K := K) (mg := mg) (base := base) (N := ["link", "from_life", "to_life", "side", "mine", "peer", "phase"]) (qual := "heard_by") (scope := defScope (top 24)) (f := fa 12) (cd := cdv) (A := A) (outer := outer) (s := s) (H := H) (E := E)
  exact dss_cons (ds_asg (de_var 0) (dg_tup rfl rfl (dgs_cons (dg_name nd) (dgs_cons (dg_name nd) (dgs_cons (dg_name nd) (dgs_cons (dg_name nd) (dgs_nil))))))) (dss_cons (ds_if (dt_w (dw_or (dt_cmp (opR_eq rfl hr) o2_eq (de_var 6) (de_str) (nomark _)) (dw_or1 (dt_cmp op_lt o2_lt (de_var 1) (de_var 5) (nomark _))))) (dss_one (ds_ret (de_var 0))) (dss_nil)) (dss_cons (ds_if (dt_w (dw_and (dt_cmp op_gt o2_gt (de_var 1) (de_var 5) (nomark _)) (dw_and1 (dt_cmp (opR_eq rfl hr) o2_eq (de_var 6) (de_str) (nomark _))))) (dss_one (ds_ret (de_tup (da_cons (de_var 3) (da_cons (de_var 4) (da_cons (de_var 5) (da_cons (de_str) (da_nil)))))))) (dss_nil)) (dss_one (ds_ret (de_tup (da_cons (de_var 3) (da_cons (de_var 4) (da_cons (de_var 1) (da_cons (de_ifExp (dt_cmp (opR_eq rfl hr) o2_eq (de_var 2) (de_var 4) (nomark _)) (de_str) (de_var 6)) (da_nil))))))))))
theorem b_link_heard (T : Tx K mg fa fd cA) : Binds K (fd 13) ["link", "from_life", "to_life"] [] := T.f_link_heard.binds fun _ _ _ _ _ _ us hl => match us, hl with | [_, _, _], _ => rfl
theorem d_link_heard (T : Tx K mg fa fd cA) : FnG pwL w K mg base 8 (fa 13) (fd 13) ["link", "from_life", "to_life"] (spD (GG K cA) f_link_heard) := by
  refine fdef (G := GG K cA) (k := 7) (n := 3) (nl := 0) (N := ["link", "from_life", "to_life"]) T.f_link_heard ⟨rfl, rfl, rfl, by decide +kernel, rfl, by decide +kernel, by decide +kernel⟩ rfl rfl fun cdv A outer s H E hr hg => ?_
  have nd : (["link", "from_life", "to_life"] : List Str).Nodup := by decide +kernel
  have tk := takes_fn (P := pwL) (w := w) (K := K) (mg := mg) (base := base) (N := ["link", "from_life", "to_life"]) (qual := "link_heard") (scope := defScope (top 25)) (f := fa 13) (cd := cdv) (A := A) (outer := outer) (s := s) (H := H) (E := E)
  have hp := owns_fn (P := pwL) (w := w) (K := K) (mg := mg) (base := base) (N := ["link", "from_life", "to_life"]) (qual := "link_heard") (scope := defScope (top 25)) (f := fa 13) (cd := cdv) (A := A) (outer := outer) (s := s) (H := H) (E := E)
  exact dss_cons (ds_expr (de_call ((d_need_link T).mono (by decide)) hr hg tk rfl T.m_need_link T.f_need_link.kp (b_need_link T) (da_cons (de_var 0) (da_nil)))) (dss_cons (ds_expr (de_call ((d_need_header T).mono (by decide)) hr hg tk rfl T.m_need_header T.f_need_header.kp (b_need_header T) (da_cons (de_var 0) (da_cons (de_var 1) (da_cons (de_var 2) (da_nil)))))) (dss_one (ds_ret (de_call ((d_heard_by T).mono (by decide)) hr hg tk rfl T.m_heard_by T.f_heard_by.kp (b_heard_by T) (da_cons (de_var 0) (da_cons (de_var 1) (da_cons (de_var 2) (da_nil))))))))
theorem b_link_again (T : Tx K mg fa fd cA) : Binds K (fd 14) ["link", "life", "from_life"] [] := T.f_link_again.binds fun _ _ _ _ _ _ us hl => match us, hl with | [_, _, _], _ => rfl
theorem d_link_again (T : Tx K mg fa fd cA) : FnG pwL w K mg base 8 (fa 14) (fd 14) ["link", "life", "from_life"] (spD (GG K cA) f_link_again) := by
  refine fdef (G := GG K cA) (k := 7) (n := 3) (nl := 0) (N := ["link", "life", "from_life"]) T.f_link_again ⟨rfl, rfl, rfl, by decide +kernel, rfl, by decide +kernel, by decide +kernel⟩ rfl rfl fun cdv A outer s H E hr hg => ?_
  have nd : (["link", "life", "from_life"] : List Str).Nodup := by decide +kernel
  have tk := takes_fn (P := pwL) (w := w) (K := K) (mg := mg) (base := base) (N := ["link", "life", "from_life"]) (qual := "link_again") (scope := defScope (top 26)) (f := fa 14) (cd := cdv) (A := A) (outer := outer) (s := s) (H := H) (E := E)
  have hp := owns_fn (P := pwL) (w := w) (K := K) (mg := mg) (base := base) (N := ["link", "life", "from_life"]) (qual := "link_again") (scope := defScope (top 26)) (f := fa 14) (cd := cdv) (A := A) (outer := outer) (s := s) (H := H) (E := E)
  exact dss_cons (ds_expr (de_call ((d_need_link T).mono (by decide)) hr hg tk rfl T.m_need_link T.f_need_link.kp (b_need_link T) (da_cons (de_var 0) (da_nil)))) (dss_cons (ds_expr (de_call ((d_need_life T).mono (by decide)) hr hg tk rfl T.m_need_life T.f_need_life.kp (b_need_life T) (da_cons (de_var 1) (da_cons (de_ix rfl (de_var 0) (de_int)) (da_nil))))) (dss_cons (ds_if (dt_cmp op_le o2_le (de_var 1) (de_ix rfl (de_var 0) (de_int)) (nomark _)) (dss_one (ds_raise T.c_BadLife hr rfl rfl tk (da_cons (de_var 1) (da_nil)) 1 rfl)) (dss_nil)) (dss_cons (ds_expr (de_call ((d_need_life T).mono (by decide)) hr hg tk rfl T.m_need_life T.f_need_life.kp (b_need_life T) (da_cons (de_var 2) (da_cons (de_op opR_sub o2_sub (de_int) (de_ix rfl (de_var 0) (de_int))) (da_nil))))) (dss_one (ds_ret (de_tup (da_cons (de_ix rfl (de_var 0) (de_int)) (da_cons (de_var 1) (da_cons (de_var 2) (da_cons (de_str) (da_nil)))))))))))
theorem b__law_mixed (T : Tx K mg fa fd cA) : Binds K (fd 15) ["_law_cell", "_law_n"] [] := T.f__law_mixed.binds fun _ _ _ _ _ _ us hl => match us, hl with | [_, _], _ => rfl
theorem d__law_mixed (T : Tx K mg fa fd cA) : FnG pwL w K mg base 2 (fa 15) (fd 15) ["_law_cell", "_law_n"] (spD (GG K cA) f__law_mixed) := by
  refine fdef (G := GG K cA) (k := 1) (n := 2) (nl := 1) (N := ["_law_cell", "_law_n", "_law_blend"]) T.f__law_mixed ⟨rfl, rfl, rfl, by decide +kernel, rfl, by decide +kernel, by decide +kernel⟩ rfl rfl fun cdv A outer s H E hr hg => ?_
  have nd : (["_law_cell", "_law_n", "_law_blend"] : List Str).Nodup := by decide +kernel
  have tk := takes_fn (P := pwL) (w := w) (K := K) (mg := mg) (base := base) (N := ["_law_cell", "_law_n", "_law_blend"]) (qual := "_law_mixed") (scope := defScope (top 28)) (f := fa 15) (cd := cdv) (A := A) (outer := outer) (s := s) (H := H) (E := E)
  have hp := owns_fn (P := pwL) (w := w) (K := K) (mg := mg) (base := base) (N := ["_law_cell", "_law_n", "_law_blend"]) (qual := "_law_mixed") (scope := defScope (top 28)) (f := fa 15) (cd := cdv) (A := A) (outer := outer) (s := s) (H := H) (E := E)
  exact dss_cons (ds_set nd (de_op (opR_add rfl) o2_add (de_op (opR_add rfl) o2_add (de_op op_mod o2_mod (de_callTy call_int1 g_int rfl T.b_int bb_int (da_cons (de_op (opR_mul rfl) o2_mul (de_op (opR_mul rfl) o2_mul (de_var 0) (de_op (opR_add rfl) o2_add (de_int) (de_op (opR_mul rfl) o2_mul (de_int) (de_var 1)))) (de_int)) (da_nil))) (de_int)) (de_op (opR_mul rfl) o2_mul (de_op (opR_mul rfl) o2_mul (de_int) (de_var 1)) (de_var 1))) (de_op (opR_mul rfl) o2_mul (de_int) (de_var 1)))) (dss_one (ds_ret (de_op opR_div o2_div (de_op op_mod o2_mod (de_callTy call_int1 g_int rfl T.b_int bb_int (da_cons (de_op (opR_mul rfl) o2_mul (de_var 2) (de_int)) (da_nil))) (de_int)) (de_int))))
theorem b__law_folded (T : Tx K mg fa fd cA) : Binds K (fd 16) ["_law_script"] [] := T.f__law_folded.binds fun _ _ _ _ _ _ us hl => match us, hl with | [_], _ => rfl
theorem d__law_folded (T : Tx K mg fa fd cA) : FnG pwL w K mg base 2 (fa 16) (fd 16) ["_law_script"] (spD (GG K cA) f__law_folded) := by
  refine fdef (G := GG K cA) (k := 1) (n := 1) (nl := 3) (N := ["_law_script", "_law_found", "_law_n", "_law_cell"]) T.f__law_folded ⟨rfl, rfl, rfl, by decide +kernel, rfl, by decide +kernel, by decide +kernel⟩ rfl rfl fun cdv A outer s H E hr hg => ?_
  have nd : (["_law_script", "_law_found", "_law_n", "_law_cell"] : List Str).Nodup := by decide +kernel
  have tk := takes_fn (P := pwL) (w := w) (K := K) (mg := mg) (base := base) (N := ["_law_script", "_law_found", "_law_n", "_law_cell"]) (qual := "_law_folded") (scope := defScope (top 29)) (f := fa 16) (cd := cdv) (A := A) (outer := outer) (s := s) (H := H) (E := E)
  have hp := owns_fn (P := pwL) (w := w) (K := K) (mg := mg) (base := base) (N := ["_law_script", "_law_found", "_law_n", "_law_cell"]) (qual := "_law_folded") (scope := defScope (top 29)) (f := fa 16) (cd := cdv) (A := A) (outer := outer) (s := s) (H := H) (E := E)
  exact dss_cons (ds_setLc (own := [("_law_n", 2)]) (g := gName 2) (t := tName 2) rfl nd (sw_true rfl rfl rfl (by decide +kernel)) (di_range1 rfl T.b_range (de_int)) (blkOk_by (N := ["_law_script", "_law_found", "_law_n", "_law_cell"]) (sc := defScope (top 29)) (by decide +kernel)) (cg_name 2 (by decide)) (fun _ _ _ _ _ => pg_name nd rfl (Or.inl rfl)) (fun _ _ _ _ _ => pts_nil') (fun _ _ _ _ _ => de_op (opR_add rfl) o2_add (de_int) (de_var 2))) (dss_cons (ds_for hp rfl (di_enum rfl rfl T.b_enumerate (de_var 0)) (dg_tup rfl rfl (dgs_cons (dg_name nd) (dgs_cons (dg_name nd) (dgs_nil)))) (dss_one (ds_setIx (de_op op_mod o2_mod (de_callTy call_int1 g_int rfl T.b_int bb_int (da_cons (de_op (opR_add rfl) o2_add (de_op (opR_mul rfl) o2_mul (de_ix rfl (de_var 1) (de_op op_mod o2_mod (de_callTy call_int1 g_int rfl T.b_int bb_int (da_cons (de_var 2) (da_nil))) (de_int))) (de_int)) (de_var 3)) (da_nil))) (de_int)) (de_var 1) (de_op op_mod o2_mod (de_callTy call_int1 g_int rfl T.b_int bb_int (da_cons (de_var 2) (da_nil))) (de_int))))) (dss_cons (ds_for hp rfl (di_range2 rfl T.b_range (de_int) (de_int)) (dg_name nd) (dss_one (ds_setIx (de_op op_mod o2_mod (de_callTy call_int1 g_int rfl T.b_int bb_int (da_cons (de_op (opR_add rfl) o2_add (de_ix rfl (de_var 1) (de_var 2)) (de_op (opR_mul rfl) o2_mul (de_ix rfl (de_var 1) (de_op opR_sub o2_sub (de_var 2) (de_int))) (de_int))) (da_nil))) (de_int)) (de_var 1) (de_var 2)))) (dss_one (ds_ret (de_var 1)))))
theorem b__law_draw (T : Tx K mg fa fd cA) : Binds K (fd 17) ["_law_m", "_law_limit"] [] := T.f__law_draw.binds fun _ _ _ _ _ _ us hl => match us, hl with | [_, _], _ => rfl
theorem d__law_draw (T : Tx K mg fa fd cA) : FnG pwL w K mg base 3 (fa 17) (fd 17) ["_law_m", "_law_limit"] (spD (GG K cA) f__law_draw) := by
  refine fdef (G := GG K cA) (k := 2) (n := 2) (nl := 4) (N := ["_law_m", "_law_limit", "_law_n", "_law_lot", "_law_here", "_law_cell"]) T.f__law_draw ⟨rfl, rfl, rfl, by decide +kernel, rfl, by decide +kernel, by decide +kernel⟩ rfl rfl fun cdv A outer s H E hr hg => ?_
  have nd : (["_law_m", "_law_limit", "_law_n", "_law_lot", "_law_here", "_law_cell"] : List Str).Nodup := by decide +kernel
  have tk := takes_fn (P := pwL) (w := w) (K := K) (mg := mg) (base := base) (N := ["_law_m", "_law_limit", "_law_n", "_law_lot", "_law_here", "_law_cell"]) (qual := "_law_draw") (scope := defScope (top 30)) (f := fa 17) (cd := cdv) (A := A) (outer := outer) (s := s) (H := H) (E := E)
  have hp := owns_fn (P := pwL) (w := w) (K := K) (mg := mg) (base := base) (N := ["_law_m", "_law_limit", "_law_n", "_law_lot", "_law_here", "_law_cell"]) (qual := "_law_draw") (scope := defScope (top 30)) (f := fa 17) (cd := cdv) (A := A) (outer := outer) (s := s) (H := H) (E := E)
  exact dss_cons (ds_set nd (de_ixD hr (de_var 0) (de_str))) (dss_cons (ds_put hr (de_op (opR_add rfl) o2_add (de_var 2) (de_int)) (de_var 0) (de_str)) (dss_cons (ds_if (dt_cmp (opR_ne rfl hr) o2_ne (de_ixD hr (de_var 0) (de_str)) (de_lst (da_nil)) (nomark _)) (dss_cons (ds_set nd (de_ixD hr (de_var 0) (de_str))) (dss_cons (ds_set nd (de_op op_mod o2_mod (de_callTy call_int1 g_int rfl T.b_int bb_int (da_cons (de_var 2) (da_nil))) (de_callB cr_len g_len rfl T.b_len bb_len (da_cons (de_var 3) (da_nil))))) (dss_cons (ds_set nd (de_ix rfl (de_var 3) (de_var 4))) (dss_one (ds_if (dt_cmp op_gt o2_gt (de_var 5) (de_int) (nomark _)) (dss_cons (ds_setIx (de_op opR_div o2_div (de_var 5) (de_var 1)) (de_var 3) (de_var 4)) (dss_one (ds_ret (de_op op_mod o2_mod (de_callTy call_int1 g_int rfl T.b_int bb_int (da_cons (de_var 5) (da_nil))) (de_var 1))))) (dss_nil)))))) (dss_nil)) (dss_cons (ds_set nd (de_ixD hr (de_var 0) (de_str))) (dss_one (ds_ret (de_op op_mod o2_mod (de_callTy call_int1 g_int rfl T.b_int bb_int (da_cons (de_call ((d__law_mixed T).mono (by decide)) hr hg tk rfl T.m__law_mixed T.f__law_mixed.kp (b__law_mixed T) (da_cons (de_call ((d__law_mixed T).mono (by decide)) hr hg tk rfl T.m__law_mixed T.f__law_mixed.kp (b__law_mixed T) (da_cons (de_op (opR_add rfl) o2_add (de_ix rfl (de_var 3) (de_op op_mod o2_mod (de_callTy call_int1 g_int rfl T.b_int bb_int (da_cons (de_var 2) (da_nil))) (de_int))) (de_op (opR_mul rfl) o2_mul (de_int) (de_op opR_div o2_div (de_var 2) (de_int)))) (da_cons (de_var 2) (da_nil)))) (da_cons (de_op (opR_add rfl) o2_add (de_var 2) (de_int)) (da_nil)))) (da_nil))) (de_var 1)))))))
theorem b__law_begun (T : Tx K mg fa fd cA) : Binds K (fd 18) ["_law_script"] [] := T.f__law_begun.binds fun _ _ _ _ _ _ us hl => match us, hl with | [_], _ => rfl
theorem d__law_begun (T : Tx K mg fa fd cA) : FnG pwL w K mg base 3 (fa 18) (fd 18) ["_law_script"] (spD (GG K cA) f__law_begun) := by
  refine fdef (G := GG K cA) (k := 2) (n := 1) (nl := 2) (N := ["_law_script", "_law_m", "_law_cell"]) T.f__law_begun ⟨rfl, rfl, rfl, by decide +kernel, rfl, by decide +kernel, by decide +kernel⟩ rfl rfl fun cdv A outer s H E hr hg => ?_
  have nd : (["_law_script", "_law_m", "_law_cell"] : List Str).Nodup := by decide +kernel
  have tk := takes_fn (P := pwL) (w := w) (K := K) (mg := mg) (base := base) (N := ["_law_script", "_law_m", "_law_cell"]) (qual := "_law_begun") (scope := defScope (top 31)) (f := fa 18) (cd := cdv) (A := A) (outer := outer) (s := s) (H := H) (E := E)
  have hp := owns_fn (P := pwL) (w := w) (K := K) (mg := mg) (base := base) (N := ["_law_script", "_law_m", "_law_cell"]) (qual := "_law_begun") (scope := defScope (top 31)) (f := fa 18) (cd := cdv) (A := A) (outer := outer) (s := s) (H := H) (E := E)
  exact dss_cons (ds_set nd (de_dct (dk_cons (de_str) (de_call ((d__law_folded T).mono (by decide)) hr hg tk rfl T.m__law_folded T.f__law_folded.kp (b__law_folded T) (da_cons (de_var 0) (da_nil))) (dk_cons (de_str) (de_lst (da_nil)) (dk_cons (de_str) (de_int) (dk_nil)))))) (dss_cons (ds_put hr (de_lc (own := [("_law_cell", 2)]) (g := gName 2) (t := tName 2) rfl nd (di_any rfl (de_var 0)) (blkOk_by (N := ["_law_script", "_law_m", "_law_cell"]) (sc := defScope (top 31)) (by decide +kernel)) (cg_name 2 (by decide)) (fun _ _ _ _ _ => pg_name nd rfl (Or.inl rfl)) (fun _ _ _ _ _ => pts_nil') (fun _ _ _ _ _ => de_ifExp (dt_cmp op_ge o2_ge (de_var 2) (de_op op_pow o2_pow (de_int) (de_int)) (nomark _)) (de_var 2) (de_int))) (de_var 1) (de_str)) (dss_one (ds_ret (de_var 1))))
theorem b__law_like (T : Tx K mg fa fd cA) : Binds K (fd 19) ["_law_got", "_law_due"] [] := T.f__law_like.binds fun _ _ _ _ _ _ us hl => match us, hl with | [_, _], _ => rfl
theorem d__law_like (T : Tx K mg fa fd cA) : FnG pwL w K mg base 2 (fa 19) (fd 19) ["_law_got", "_law_due"] (spD (GG K cA) f__law_like) := by
  refine fdef (G := GG K cA) (k := 1) (n := 2) (nl := 0) (N := ["_law_got", "_law_due"]) T.f__law_like ⟨rfl, rfl, rfl, by decide +kernel, rfl, by decide +kernel, by decide +kernel⟩ rfl rfl fun cdv A outer s H E hr hg => ?_
  have nd : (["_law_got", "_law_due"] : List Str).Nodup := by decide +kernel
  have tk := takes_fn (P := pwL) (w := w) (K := K) (mg := mg) (base := base) (N := ["_law_got", "_law_due"]) (qual := "_law_like") (scope := defScope (top 32)) (f := fa 19) (cd := cdv) (A := A) (outer := outer) (s := s) (H := H) (E := E)
  have hp := owns_fn (P := pwL) (w := w) (K := K) (mg := mg) (base := base) (N := ["_law_got", "_law_due"]) (qual := "_law_like") (scope := defScope (top 32)) (f := fa 19) (cd := cdv) (A := A) (outer := outer) (s := s) (H := H) (E := E)
  exact dss_one (ds_ret (de_cmp (opR_eq rfl hr) o2_eq (de_callB (cr_repr hr hg) g_repr rfl T.b_repr bb_repr (da_cons (de_var 0) (da_nil))) (de_callB (cr_repr hr hg) g_repr rfl T.b_repr bb_repr (da_cons (de_var 1) (da_nil))) (nomark _)))
theorem b__law_of (T : Tx K mg fa fd cA) : Binds K (fd 20) ["_law_m", "_law_some"] [] := T.f__law_of.binds fun _ _ _ _ _ _ us hl => match us, hl with | [_, _], _ => rfl
theorem d__law_of (T : Tx K mg fa fd cA) : FnG pwL w K mg base 4 (fa 20) (fd 20) ["_law_m", "_law_some"] (spD (GG K cA) f__law_of) := by
  refine fdef (G := GG K cA) (k := 3) (n := 2) (nl := 0) (N := ["_law_m", "_law_some"]) T.f__law_of ⟨rfl, rfl, rfl, by decide +kernel, rfl, by decide +kernel, by decide +kernel⟩ rfl rfl fun cdv A outer s H E hr hg => ?_
  have nd : (["_law_m", "_law_some"] : List Str).Nodup := by decide +kernel
  have tk := takes_fn (P := pwL) (w := w) (K := K) (mg := mg) (base := base) (N := ["_law_m", "_law_some"]) (qual := "_law_of") (scope := defScope (top 33)) (f := fa 20) (cd := cdv) (A := A) (outer := outer) (s := s) (H := H) (E := E)
  have hp := owns_fn (P := pwL) (w := w) (K := K) (mg := mg) (base := base) (N := ["_law_m", "_law_some"]) (qual := "_law_of") (scope := defScope (top 33)) (f := fa 20) (cd := cdv) (A := A) (outer := outer) (s := s) (H := H) (E := E)
  exact dss_one (ds_ret (de_ix rfl (de_var 1) (de_call ((d__law_draw T).mono (by decide)) hr hg tk rfl T.m__law_draw T.f__law_draw.kp (b__law_draw T) (da_cons (de_var 0) (da_cons (de_callB cr_len g_len rfl T.b_len bb_len (da_cons (de_var 1) (da_nil))) (da_nil))))))
theorem b__law_four_heard (T : Tx K mg fa fd cA) : Binds K (fd 21) ["_law_link", "_law_life", "_law_far"] [] := T.f__law_four_heard.binds fun _ _ _ _ _ _ us hl => match us, hl with | [_, _, _], _ => rfl
theorem d__law_four_heard (T : Tx K mg fa fd cA) : FnG pwL w K mg base 2 (fa 21) (fd 21) ["_law_link", "_law_life", "_law_far"] (spD (GG K cA) f__law_four_heard) := by
  refine fdef (G := GG K cA) (k := 1) (n := 3) (nl := 4) (N := ["_law_link", "_law_life", "_law_far", "_law_side", "_law_mine", "_law_peer", "_law_phase"]) T.f__law_four_heard ⟨rfl, rfl, rfl, by decide +kernel, rfl, by decide +kernel, by decide +kernel⟩ rfl rfl fun cdv A outer s H E hr hg => ?_
  have nd : (["_law_link", "_law_life", "_law_far", "_law_side", "_law_mine", "_law_peer", "_law_phase"] : List Str).Nodup := by decide +kernel
  have tk := takes_fn (P := pwL) (w := w) (K := K) (mg := mg) (base := base) (N := ["_law_link", "_law_life", "_law_far", "_law_side", "_law_mine", "_law_peer", "_law_phase"]) (qual := "_law_four_heard") (scope := defScope (top 34)) (f := fa 21) (cd := cdv) (A := A) (outer := outer) (s := s) (H := H) (E := E)
  have hp := owns_fn (P := pwL) (w := w) (K := K) (mg := mg) (base := base) (N := ["_law_link", "_law_life", "_law_far", "_law_side", "_law_mine", "_law_peer", "_law_phase"]) (qual := "_law_four_heard") (scope := defScope (top 34)) (f := fa 21) (cd := cdv) (A := A) (outer := outer) (s := s) (H := H) (E := E)
  exact dss_cons (ds_asg (de_var 0) (dg_tup rfl rfl (dgs_cons (dg_name nd) (dgs_cons (dg_name nd) (dgs_cons (dg_name nd) (dgs_cons (dg_name nd) (dgs_nil))))))) (dss_cons (ds_if (dt_w (dw_or (dt_cmp (opR_eq rfl hr) o2_eq (de_var 6) (de_str) (nomark _)) (dw_or1 (dt_cmp op_lt o2_lt (de_var 1) (de_var 5) (nomark _))))) (dss_one (ds_ret (de_var 0))) (dss_nil)) (dss_cons (ds_if (dt_w (dw_and (dt_cmp (opR_eq rfl hr) o2_eq (de_var 6) (de_str) (nomark _)) (dw_and1 (dt_cmp (opR_ne rfl hr) o2_ne (de_var 1) (de_var 5) (nomark _))))) (dss_one (ds_ret (de_tup (da_cons (de_var 3) (da_cons (de_var 4) (da_cons (de_var 5) (da_cons (de_str) (da_nil)))))))) (dss_nil)) (dss_cons (ds_if (dt_w (dw_or (dt_cmp (opR_eq rfl hr) o2_eq (de_var 6) (de_str) (nomark _)) (dw_or1 (dt_cmp (opR_eq rfl hr) o2_eq (de_var 2) (de_var 4) (nomark _))))) (dss_one (ds_ret (de_tup (da_cons (de_var 3) (da_cons (de_var 4) (da_cons (de_var 1) (da_cons (de_str) (da_nil)))))))) (dss_nil)) (dss_one (ds_ret (de_tup (da_cons (de_var 3) (da_cons (de_var 4) (da_cons (de_var 1) (da_cons (de_str) (da_nil)))))))))))
theorem b__law_four_begun (T : Tx K mg fa fd cA) : Binds K (fd 22) ["_law_m"] [] := T.f__law_four_begun.binds fun _ _ _ _ _ _ us hl => match us, hl with | [_], _ => rfl
theorem d__law_four_begun (T : Tx K mg fa fd cA) : FnG pwL w K mg base 2 (fa 22) (fd 22) ["_law_m"] (spD (GG K cA) f__law_four_begun) := by
  refine fdef (G := GG K cA) (k := 1) (n := 1) (nl := 1) (N := ["_law_m", "_law_links"]) T.f__law_four_begun ⟨rfl, rfl, rfl, by decide +kernel, rfl, by decide +kernel, by decide +kernel⟩ rfl rfl fun cdv A outer s H E hr hg => ?_
  have nd : (["_law_m", "_law_links"] : List Str).Nodup := by decide +kernel
  have tk := takes_fn (P := pwL) (w := w) (K := K) (mg := mg) (base := base) (N := ["_law_m", "_law_links"]) (qual := "_law_four_begun") (scope := defScope (top 35)) (f := fa 22) (cd := cdv) (A := A) (outer := outer) (s := s) (H := H) (E := E)
  have hp := owns_fn (P := pwL) (w := w) (K := K) (mg := mg) (base := base) (N := ["_law_m", "_law_links"]) (qual := "_law_four_begun") (scope := defScope (top 35)) (f := fa 22) (cd := cdv) (A := A) (outer := outer) (s := s) (H := H) (E := E)
  exact dss_cons (ds_set nd (de_lst (da_cons (de_tup (da_cons (de_int) (da_cons (de_int) (da_cons (de_int) (da_cons (de_str) (da_nil)))))) (da_cons (de_tup (da_cons (de_int) (da_cons (de_int) (da_cons (de_int) (da_cons (de_str) (da_nil)))))) (da_nil))))) (dss_one (ds_ret (de_dct (dk_cons (de_str) (de_var 1) (dk_cons (de_str) (de_lst (da_cons (de_lst (da_nil)) (da_cons (de_lst (da_nil)) (da_nil)))) (dk_cons (de_str) (de_lst (da_nil)) (dk_cons (de_str) (de_lst (da_cons (de_lst (da_nil)) (da_cons (de_lst (da_nil)) (da_nil)))) (dk_cons (de_str) (de_int) (dk_cons (de_str) (de_dct (dk_cons (de_int) (de_int) (dk_cons (de_int) (de_int) (dk_nil)))) (dk_cons (de_str) (de_lst (da_nil)) (dk_nil)))))))))))
theorem b__law_four_put (T : Tx K mg fa fd cA) : Binds K (fd 23) ["_law_world", "_law_side", "_law_link"] [] := T.f__law_four_put.binds fun _ _ _ _ _ _ us hl => match us, hl with | [_, _, _], _ => rfl
theorem d__law_four_put (T : Tx K mg fa fd cA) : FnG pwL w K mg base 2 (fa 23) (fd 23) ["_law_world", "_law_side", "_law_link"] (spD (GG K cA) f__law_four_put) := by
  refine fdef (G := GG K cA) (k := 1) (n := 3) (nl := 0) (N := ["_law_world", "_law_side", "_law_link"]) T.f__law_four_put ⟨rfl, rfl, rfl, by decide +kernel, rfl, by decide +kernel, by decide +kernel⟩ rfl rfl fun cdv A outer s H E hr hg => ?_
  have nd : (["_law_world", "_law_side", "_law_link"] : List Str).Nodup := by decide +kernel
  have tk := takes_fn (P := pwL) (w := w) (K := K) (mg := mg) (base := base) (N := ["_law_world", "_law_side", "_law_link"]) (qual := "_law_four_put") (scope := defScope (top 36)) (f := fa 23) (cd := cdv) (A := A) (outer := outer) (s := s) (H := H) (E := E)
  have hp := owns_fn (P := pwL) (w := w) (K := K) (mg := mg) (base := base) (N := ["_law_world", "_law_side", "_law_link"]) (qual := "_law_four_put") (scope := defScope (top 36)) (f := fa 23) (cd := cdv) (A := A) (outer := outer) (s := s) (H := H) (E := E)
  exact dss_cons (ds_if (dt_cmp (opR_notInU rfl hr) (o2_inU true) (de_ix rfl (de_var 2) (de_int)) (de_ixD hr (de_var 0) (de_str)) (by rfl)) (dss_one (ds_setU hr (de_ixD hr (de_var 0) (de_str)) (de_ixD hr (de_var 0) (de_str)) (de_ix rfl (de_var 2) (de_int)))) (dss_nil)) (dss_cons (ds_setU hr (de_var 2) (de_ixD hr (de_var 0) (de_str)) (de_var 1)) (dss_one (ds_if (dt_w (dw_and (dt_cmp (opR_eq rfl hr) o2_eq (de_ix rfl (de_var 2) (de_int)) (de_str) (nomark _)) (dw_and1 (dt_cmp (opR_notInU rfl hr) (o2_inU true) (de_tup (da_cons (de_ix rfl (de_var 2) (de_int)) (da_cons (de_ix rfl (de_var 2) (de_int)) (da_nil)))) (de_ixD hr (de_var 0) (de_str)) (by rfl))))) (dss_one (ds_expr (de_append rfl (de_ixD hr (de_var 0) (de_str)) (de_tup (da_cons (de_ix rfl (de_var 2) (de_int)) (da_cons (de_ix rfl (de_var 2) (de_int)) (da_nil)))) (pe_bm PySem.F.plainAttrs_list PySem.F.slot_list_append PySem.F.type_list_append mt_append (de_ixD hr (de_var 0) (de_str)) (pa_cons (de_tup (da_cons (de_ix rfl (de_var 2) (de_int)) (da_cons (de_ix rfl (de_var 2) (de_int)) (da_nil)))) pa_nil))))) (dss_nil))))
theorem b__law_four_send (T : Tx K mg fa fd cA) : Binds K (fd 24) ["_law_world", "_law_side", "_law_is_numbered"] [] := T.f__law_four_send.binds fun _ _ _ _ _ _ us hl => match us, hl with | [_, _, _], _ => rfl
theorem d__law_four_send (T : Tx K mg fa fd cA) : FnG pwL w K mg base 2 (fa 24) (fd 24) ["_law_world", "_law_side", "_law_is_numbered"] (spD (GG K cA) f__law_four_send) := by
  refine fdef (G := GG K cA) (k := 1) (n := 3) (nl := 1) (N := ["_law_world", "_law_side", "_law_is_numbered", "_law_link"]) T.f__law_four_send ⟨rfl, rfl, rfl, by decide +kernel, rfl, by decide +kernel, by decide +kernel⟩ rfl rfl fun cdv A outer s H E hr hg => ?_
  have nd : (["_law_world", "_law_side", "_law_is_numbered", "_law_link"] : List Str).Nodup := by decide +kernel
  have tk := takes_fn (P := pwL) (w := w) (K := K) (mg := mg) (base := base) (N := ["_law_world", "_law_side", "_law_is_numbered", "_law_link"]) (qual := "_law_four_send") (scope := defScope (top 37)) (f := fa 24) (cd := cdv) (A := A) (outer := outer) (s := s) (H := H) (E := E)
  have hp := owns_fn (P := pwL) (w := w) (K := K) (mg := mg) (base := base) (N := ["_law_world", "_law_side", "_law_is_numbered", "_law_link"]) (qual := "_law_four_send") (scope := defScope (top 37)) (f := fa 24) (cd := cdv) (A := A) (outer := outer) (s := s) (H := H) (E := E)
  exact dss_cons (ds_set nd (de_ixU rfl hr (de_ixD hr (de_var 0) (de_str)) (de_var 1))) (dss_cons (ds_set nd (de_and (de_var 2) (de_one (de_cmp (opR_eq rfl hr) o2_eq (de_ix rfl (de_var 3) (de_int)) (de_str) (nomark _))))) (dss_one (ds_expr (de_append rfl (de_ixU rfl hr (de_ixD hr (de_var 0) (de_str)) (de_var 1)) (de_tup (da_cons (de_ix rfl (de_var 3) (de_int)) (da_cons (de_ix rfl (de_var 3) (de_int)) (da_cons (de_var 2) (da_cons (de_ixD hr (de_var 0) (de_str)) (da_cons (de_cmp (opR_inU rfl hr) (o2_inU false) (de_tup (da_cons (de_ix rfl (de_var 3) (de_int)) (da_cons (de_ix rfl (de_var 3) (de_int)) (da_nil)))) (de_ixD hr (de_var 0) (de_str)) (by rfl)) (da_nil))))))) (pe_bm PySem.F.plainAttrs_list PySem.F.slot_list_append PySem.F.type_list_append mt_append (de_ixU rfl hr (de_ixD hr (de_var 0) (de_str)) (de_var 1)) (pa_cons (de_tup (da_cons (de_ix rfl (de_var 3) (de_int)) (da_cons (de_ix rfl (de_var 3) (de_int)) (da_cons (de_var 2) (da_cons (de_ixD hr (de_var 0) (de_str)) (da_cons (de_cmp (opR_inU rfl hr) (o2_inU false) (de_tup (da_cons (de_ix rfl (de_var 3) (de_int)) (da_cons (de_ix rfl (de_var 3) (de_int)) (da_nil)))) (de_ixD hr (de_var 0) (de_str)) (by rfl)) (da_nil))))))) pa_nil))))))
theorem b__law_four_hear (T : Tx K mg fa fd cA) : Binds K (fd 25) ["_law_world", "_law_side", "_law_header"] [] := T.f__law_four_hear.binds fun _ _ _ _ _ _ us hl => match us, hl with | [_, _, _], _ => rfl
theorem d__law_four_hear (T : Tx K mg fa fd cA) : FnG pwL w K mg base 9 (fa 25) (fd 25) ["_law_world", "_law_side", "_law_header"] (spD (GG K cA) f__law_four_hear) := by
  refine fdef (G := GG K cA) (k := 8) (n := 3) (nl := 3) (N := ["_law_world", "_law_side", "_law_header", "_law_link", "_law_later", "_law_life"]) T.f__law_four_hear ⟨rfl, rfl, rfl, by decide +kernel, rfl, by decide +kernel, by decide +kernel⟩ rfl rfl fun cdv A outer s H E hr hg => ?_
  have nd : (["_law_world", "_law_side", "_law_header", "_law_link", "_law_later", "_law_life"] : List Str).Nodup := by decide +kernel
  have tk := takes_fn (P := pwL) (w := w) (K := K) (mg := mg) (base := base) (N := ["_law_world", "_law_side", "_law_header", "_law_link", "_law_later", "_law_life"]) (qual := "_law_four_hear") (scope := defScope (top 38)) (f := fa 25) (cd := cdv) (A := A) (outer := outer) (s := s) (H := H) (E := E)
  have hp := owns_fn (P := pwL) (w := w) (K := K) (mg := mg) (base := base) (N := ["_law_world", "_law_side", "_law_header", "_law_link", "_law_later", "_law_life"]) (qual := "_law_four_hear") (scope := defScope (top 38)) (f := fa 25) (cd := cdv) (A := A) (outer := outer) (s := s) (H := H) (E := E)
  exact dss_cons (ds_set nd (de_ixU rfl hr (de_ixD hr (de_var 0) (de_str)) (de_var 1))) (dss_cons (ds_set nd (de_call ((d__law_four_heard T).mono (by decide)) hr hg tk rfl T.m__law_four_heard T.f__law_four_heard.kp (b__law_four_heard T) (da_cons (de_var 3) (da_cons (de_ix rfl (de_var 2) (de_int)) (da_cons (de_ix rfl (de_var 2) (de_int)) (da_nil)))))) (dss_cons (ds_if (dt_not (dt_val (de_call ((d__law_like T).mono (by decide)) hr hg tk rfl T.m__law_like T.f__law_like.kp (b__law_like T) (da_cons (de_call ((d_link_heard T).mono (by decide)) hr hg tk rfl T.m_link_heard T.f_link_heard.kp (b_link_heard T) (da_cons (de_var 3) (da_cons (de_ix rfl (de_var 2) (de_int)) (da_cons (de_ix rfl (de_var 2) (de_int)) (da_nil))))) (da_cons (de_var 4) (da_nil)))))) (dss_one (ds_ret (de_bl))) (dss_nil)) (dss_cons (ds_if (dt_cmp (opR_eq rfl hr) o2_eq (de_ix rfl (de_var 4) (de_int)) (de_str) (nomark _)) (dss_cons (ds_expr (de_append rfl (de_ixU rfl hr (de_ixD hr (de_var 0) (de_str)) (de_var 1)) (de_tup (da_cons (de_ix rfl (de_var 3) (de_int)) (da_cons (de_ix rfl (de_var 3) (de_int)) (da_cons (de_ix rfl (de_var 2) (de_int)) (da_nil))))) (pe_bm PySem.F.plainAttrs_list PySem.F.slot_list_append PySem.F.type_list_append mt_append (de_ixU rfl hr (de_ixD hr (de_var 0) (de_str)) (de_var 1)) (pa_cons (de_tup (da_cons (de_ix rfl (de_var 3) (de_int)) (da_cons (de_ix rfl (de_var 3) (de_int)) (da_cons (de_ix rfl (de_var 2) (de_int)) (da_nil))))) pa_nil)))) (dss_cons (ds_set nd (de_op (opR_add rfl) o2_add (de_ix rfl (de_var 3) (de_int)) (de_int))) (dss_cons (ds_set nd (de_tup (da_cons (de_var 1) (da_cons (de_var 5) (da_cons (de_ix rfl (de_var 2) (de_int)) (da_cons (de_str) (da_nil))))))) (dss_one (ds_if (dt_w (dw_or (dt_not (dt_val (de_call ((d__law_like T).mono (by decide)) hr hg tk rfl T.m__law_like T.f__law_like.kp (b__law_like T) (da_cons (de_call ((d_link_again T).mono (by decide)) hr hg tk rfl T.m_link_again T.f_link_again.kp (b_link_again T) (da_cons (de_var 3) (da_cons (de_var 5) (da_cons (de_ix rfl (de_var 2) (de_int)) (da_nil))))) (da_cons (de_var 4) (da_nil)))))) (dw_or1 (dt_not (dt_val (de_call ((d__law_like T).mono (by decide)) hr hg tk rfl T.m__law_like T.f__law_like.kp (b__law_like T) (da_cons (de_call ((d_next_life T).mono (by decide)) hr hg tk rfl T.m_next_life T.f_next_life.kp (b_next_life T) (da_cons (de_var 1) (da_cons (de_ix rfl (de_var 3) (de_int)) (da_nil)))) (da_cons (de_var 5) (da_nil))))))))) (dss_one (ds_ret (de_bl))) (dss_nil)))))) (dss_one (ds_if (dt_w (dw_and (dt_cmp (opR_eq rfl hr) o2_eq (de_ix rfl (de_var 4) (de_int)) (de_str) (nomark _)) (dw_and (dt_cmp (opR_eq rfl hr) o2_eq (de_ix rfl (de_var 4) (de_int)) (de_ix rfl (de_var 2) (de_int)) (nomark _)) (dw_and1 (dt_cmp (opR_eq rfl hr) o2_eq (de_ix rfl (de_var 4) (de_int)) (de_ix rfl (de_var 2) (de_int)) (nomark _)))))) (dss_one (ds_expr (de_append rfl (de_ixD hr (de_var 0) (de_str)) (de_tup (da_cons (de_ix rfl (de_var 4) (de_int)) (da_cons (de_var 2) (da_nil)))) (pe_bm PySem.F.plainAttrs_list PySem.F.slot_list_append PySem.F.type_list_append mt_append (de_ixD hr (de_var 0) (de_str)) (pa_cons (de_tup (da_cons (de_ix rfl (de_var 4) (de_int)) (da_cons (de_var 2) (da_nil)))) pa_nil))))) (dss_nil)))) (dss_cons (ds_expr (de_call ((d__law_four_put T).mono (by decide)) hr hg tk rfl T.m__law_four_put T.f__law_four_put.kp (b__law_four_put T) (da_cons (de_var 0) (da_cons (de_var 1) (da_cons (de_var 4) (da_nil)))))) (dss_one (ds_ret (de_bl)))))))
theorem b__law_four_crash (T : Tx K mg fa fd cA) : Binds K (fd 26) ["_law_world", "_law_side"] [] := T.f__law_four_crash.binds fun _ _ _ _ _ _ us hl => match us, hl with | [_, _], _ => rfl
theorem d__law_four_crash (T : Tx K mg fa fd cA) : FnG pwL w K mg base 3 (fa 26) (fd 26) ["_law_world", "_law_side"] (spD (GG K cA) f__law_four_crash) := by
  refine fdef (G := GG K cA) (k := 2) (n := 2) (nl := 1) (N := ["_law_world", "_law_side", "_law_link"]) T.f__law_four_crash ⟨rfl, rfl, rfl, by decide +kernel, rfl, by decide +kernel, by decide +kernel⟩ rfl rfl fun cdv A outer s H E hr hg => ?_
  have nd : (["_law_world", "_law_side", "_law_link"] : List Str).Nodup := by decide +kernel
  have tk := takes_fn (P := pwL) (w := w) (K := K) (mg := mg) (base := base) (N := ["_law_world", "_law_side", "_law_link"]) (qual := "_law_four_crash") (scope := defScope (top 39)) (f := fa 26) (cd := cdv) (A := A) (outer := outer) (s := s) (H := H) (E := E)
  have hp := owns_fn (P := pwL) (w := w) (K := K) (mg := mg) (base := base) (N := ["_law_world", "_law_side", "_law_link"]) (qual := "_law_four_crash") (scope := defScope (top 39)) (f := fa 26) (cd := cdv) (A := A) (outer := outer) (s := s) (H := H) (E := E)
  exact dss_cons (ds_set nd (de_ixU rfl hr (de_ixD hr (de_var 0) (de_str)) (de_var 1))) (dss_one (ds_expr (de_call ((d__law_four_put T).mono (by decide)) hr hg tk rfl T.m__law_four_put T.f__law_four_put.kp (b__law_four_put T) (da_cons (de_var 0) (da_cons (de_var 1) (da_cons (de_tup (da_cons (de_var 1) (da_cons (de_op (opR_add rfl) o2_add (de_ix rfl (de_var 2) (de_int)) (de_int)) (da_cons (de_int) (da_cons (de_str) (da_nil)))))) (da_nil)))))))
theorem b__law_four_deed (T : Tx K mg fa fd cA) : Binds K (fd 27) ["_law_m", "_law_world", "_law_crashes"] [] := T.f__law_four_deed.binds fun _ _ _ _ _ _ us hl => match us, hl with | [_, _, _], _ => rfl
theorem d__law_four_deed (T : Tx K mg fa fd cA) : FnG pwL w K mg base 10 (fa 27) (fd 27) ["_law_m", "_law_world", "_law_crashes"] (spD (GG K cA) f__law_four_deed) := by
  refine fdef (G := GG K cA) (k := 9) (n := 3) (nl := 4) (N := ["_law_m", "_law_world", "_law_crashes", "_law_pick", "_law_side", "_law_lot", "_law_back"]) T.f__law_four_deed ⟨rfl, rfl, rfl, by decide +kernel, rfl, by decide +kernel, by decide +kernel⟩ rfl rfl fun cdv A outer s H E hr hg => ?_
  have nd : (["_law_m", "_law_world", "_law_crashes", "_law_pick", "_law_side", "_law_lot", "_law_back"] : List Str).Nodup := by decide +kernel
  have tk := takes_fn (P := pwL) (w := w) (K := K) (mg := mg) (base := base) (N := ["_law_m", "_law_world", "_law_crashes", "_law_pick", "_law_side", "_law_lot", "_law_back"]) (qual := "_law_four_deed") (scope := defScope (top 40)) (f := fa 27) (cd := cdv) (A := A) (outer := outer) (s := s) (H := H) (E := E)
  have hp := owns_fn (P := pwL) (w := w) (K := K) (mg := mg) (base := base) (N := ["_law_m", "_law_world", "_law_crashes", "_law_pick", "_law_side", "_law_lot", "_law_back"]) (qual := "_law_four_deed") (scope := defScope (top 40)) (f := fa 27) (cd := cdv) (A := A) (outer := outer) (s := s) (H := H) (E := E)
  exact dss_cons (ds_put hr (de_op (opR_add rfl) o2_add (de_ixD hr (de_var 1) (de_str)) (de_int)) (de_var 1) (de_str)) (dss_cons (ds_par rfl nd (da_cons (de_call ((d__law_draw T).mono (by decide)) hr hg tk rfl T.m__law_draw T.f__law_draw.kp (b__law_draw T) (da_cons (de_var 0) (da_cons (de_int) (da_nil)))) (da_cons (de_call ((d__law_draw T).mono (by decide)) hr hg tk rfl T.m__law_draw T.f__law_draw.kp (b__law_draw T) (da_cons (de_var 0) (da_cons (de_int) (da_nil)))) (da_nil)))) (dss_cons (ds_set nd (de_ixU rfl hr (de_ixD hr (de_var 1) (de_str)) (de_op opR_sub o2_sub (de_int) (de_var 4)))) (dss_cons (ds_if (dt_w (dw_and (dt_cmp (opR_eq rfl hr) o2_eq (de_var 3) (de_int) (nomark _)) (dw_and1 (dt_val (de_var 2))))) (dss_one (ds_expr (de_call ((d__law_four_crash T).mono (by decide)) hr hg tk rfl T.m__law_four_crash T.f__law_four_crash.kp (b__law_four_crash T) (da_cons (de_var 1) (da_cons (de_var 4) (da_nil)))))) (dss_one (ds_if (dt_w (dw_or (dt_cmp op_lt o2_lt (de_var 3) (de_int) (nomark _)) (dw_or1 (dt_cmp (opR_eq rfl hr) o2_eq (de_var 5) (de_lst (da_nil)) (nomark _))))) (dss_one (ds_expr (de_call ((d__law_four_send T).mono (by decide)) hr hg tk rfl T.m__law_four_send T.f__law_four_send.kp (b__law_four_send T) (da_cons (de_var 1) (da_cons (de_var 4) (da_cons (de_cmp (opR_eq rfl hr) o2_eq (de_call ((d__law_draw T).mono (by decide)) hr hg tk rfl T.m__law_draw T.f__law_draw.kp (b__law_draw T) (da_cons (de_var 0) (da_cons (de_int) (da_nil)))) (de_int) (nomark _)) (da_nil))))))) (dss_cons (ds_set nd (de_call ((d__law_draw T).mono (by decide)) hr hg tk rfl T.m__law_draw T.f__law_draw.kp (b__law_draw T) (da_cons (de_var 0) (da_cons (de_callB (call_min2 rfl) g_min2 rfl T.b_min bb_min (da_cons (de_callB cr_len g_len rfl T.b_len bb_len (da_cons (de_var 5) (da_nil))) (da_cons (de_call ((d__law_of T).mono (by decide)) hr hg tk rfl T.m__law_of T.f__law_of.kp (b__law_of T) (da_cons (de_var 0) (da_cons (de_lst (da_cons (de_int) (da_cons (de_int) (da_cons (de_int) (da_cons (de_int) (da_nil)))))) (da_nil)))) (da_nil)))) (da_nil))))) (dss_one (ds_ret (de_call ((d__law_four_hear T).mono (by decide)) hr hg tk rfl T.m__law_four_hear T.f__law_four_hear.kp (b__law_four_hear T) (da_cons (de_var 1) (da_cons (de_var 4) (da_cons (de_ix rfl (de_var 5) (de_op opR_sub o2_sub (de_op opR_sub o2_sub (de_callB cr_len g_len rfl T.b_len bb_len (da_cons (de_var 5) (da_nil))) (de_int)) (de_var 6))) (da_nil))))))))))) (dss_one (ds_ret (de_bl))))))
theorem b__law_pairs_right (T : Tx K mg fa fd cA) : Binds K (fd 28) ["_law_world"] [] := T.f__law_pairs_right.binds fun _ _ _ _ _ _ us hl => match us, hl with | [_], _ => rfl
theorem d__law_pairs_right (T : Tx K mg fa fd cA) : FnG pwL w K mg base 2 (fa 28) (fd 28) ["_law_world"] (spD (GG K cA) f__law_pairs_right) := by
  refine fdef (G := GG K cA) (k := 1) (n := 1) (nl := 3) (N := ["_law_world", "_law_known", "_law_life", "_law_peer"]) T.f__law_pairs_right ⟨rfl, rfl, rfl, by decide +kernel, rfl, by decide +kernel, by decide +kernel⟩ rfl rfl fun cdv A outer s H E hr hg => ?_
  have nd : (["_law_world", "_law_known", "_law_life", "_law_peer"] : List Str).Nodup := by decide +kernel
  have tk := takes_fn (P := pwL) (w := w) (K := K) (mg := mg) (base := base) (N := ["_law_world", "_law_known", "_law_life", "_law_peer"]) (qual := "_law_pairs_right") (scope := defScope (top 41)) (f := fa 28) (cd := cdv) (A := A) (outer := outer) (s := s) (H := H) (E := E)
  have hp := owns_fn (P := pwL) (w := w) (K := K) (mg := mg) (base := base) (N := ["_law_world", "_law_known", "_law_life", "_law_peer"]) (qual := "_law_pairs_right") (scope := defScope (top 41)) (f := fa 28) (cd := cdv) (A := A) (outer := outer) (s := s) (H := H) (E := E)
  exact dss_cons (ds_set nd (de_dct0)) (dss_cons (ds_for hp rfl (di_any rfl (de_ixD hr (de_var 0) (de_str))) (dg_tup rfl rfl (dgs_cons (dg_name nd) (dgs_cons (dg_name nd) (dgs_nil)))) (dss_one (ds_setU hr (de_var 3) (de_var 1) (de_var 2)))) (dss_one (ds_ret (de_cmp (opR_eq rfl hr) o2_eq (de_lcK (own := [("_law_life", 2)]) (g := gName 2) (t := tName 2) rfl nd (de_var 1) (blkOk_by (N := ["_law_world", "_law_known", "_law_life", "_law_peer"]) (sc := defScope (top 41)) (by decide +kernel)) (cg_name 2 (by decide)) (fun _ _ _ _ _ => pg_name nd rfl (Or.inl rfl)) (fun _ _ _ _ _ => pts_one' (dt_w (dw_and (dt_cmp (opR_inU rfl hr) (o2_inU false) (de_ixU rfl hr (de_var 1) (de_var 2)) (de_var 1) (by rfl)) (dw_and1 (dt_cmp op_lt o2_lt (de_ixU rfl hr (de_var 1) (de_ixU rfl hr (de_var 1) (de_var 2))) (de_var 2) (nomark _)))))) (fun _ _ _ _ _ => de_var 2)) (de_lst (da_nil)) (nomark _)))))
theorem b_law (T : Tx K mg fa fd cA) : Binds K (fd 29) ["_law_script"] [] := T.f_law.binds fun _ _ _ _ _ _ us hl => match us, hl with | [_], _ => rfl
theorem d_law (T : Tx K mg fa fd cA) : FnG pwL w K mg base 11 (fa 29) (fd 29) ["_law_script"] (spD (GG K cA) f_law) := by
  refine fdef (G := GG K cA) (k := 10) (n := 1) (nl := 6) (N := ["_law_script", "_law_m", "_law_world", "_law_turn", "_law_left", "_law_right", "_law_is_pair"]) T.f_law ⟨rfl, rfl, rfl, by decide +kernel, rfl, by decide +kernel, by decide +kernel⟩ rfl rfl fun cdv A outer s H E hr hg => ?_
  have nd : (["_law_script", "_law_m", "_law_world", "_law_turn", "_law_left", "_law_right", "_law_is_pair"] : List Str).Nodup := by decide +kernel
  have tk := takes_fn (P := pwL) (w := w) (K := K) (mg := mg) (base := base) (N := ["_law_script", "_law_m", "_law_world", "_law_turn", "_law_left", "_law_right", "_law_is_pair"]) (qual := "law") (scope := defScope (top 42)) (f := fa 29) (cd := cdv) (A := A) (outer := outer) (s := s) (H := H) (E := E)
  have hp := owns_fn (P := pwL) (w := w) (K := K) (mg := mg) (base := base) (N := ["_law_script", "_law_m", "_law_world", "_law_turn", "_law_left", "_law_right", "_law_is_pair"]) (qual := "law") (scope := defScope (top 42)) (f := fa 29) (cd := cdv) (A := A) (outer := outer) (s := s) (H := H) (E := E)
  exact dss_cons (ds_set nd (de_call ((d__law_begun T).mono (by decide)) hr hg tk rfl T.m__law_begun T.f__law_begun.kp (b__law_begun T) (da_cons (de_var 0) (da_nil)))) (dss_cons (ds_set nd (de_call ((d__law_four_begun T).mono (by decide)) hr hg tk rfl T.m__law_four_begun T.f__law_four_begun.kp (b__law_four_begun T) (da_cons (de_var 1) (da_nil)))) (dss_cons (ds_for hp rfl (di_range1 rfl T.b_range (de_op (opR_add rfl) o2_add (de_int) (de_op (opR_mul rfl) o2_mul (de_int) (de_callB (call_min2 rfl) g_min2 rfl T.b_min bb_min (da_cons (de_callB cr_len g_len rfl T.b_len bb_len (da_cons (de_var 0) (da_nil))) (da_cons (de_int) (da_nil))))))) (dg_name nd) (dss_cons (ds_if (dt_not (dt_val (de_call ((d__law_four_deed T).mono (by decide)) hr hg tk rfl T.m__law_four_deed T.f__law_four_deed.kp (b__law_four_deed T) (da_cons (de_var 1) (da_cons (de_var 2) (da_cons (de_bl) (da_nil))))))) (dss_one (ds_ret (de_bl))) (dss_nil)) (dss_cons (ds_asg (de_ixD hr (de_var 2) (de_str)) (dg_unl rfl rfl (dgs_cons (dg_name nd) (dgs_cons (dg_name nd) (dgs_nil))))) (dss_cons (ds_if (dt_w (dw_and (dt_cmp (opR_eq rfl hr) o2_eq (de_ix rfl (de_var 4) (de_int)) (de_str) (nomark _)) (dw_and1 (dt_cmp (opR_eq rfl hr) o2_eq (de_ix rfl (de_var 5) (de_int)) (de_str) (nomark _))))) (dss_cons (ds_set nd (de_and (de_cmp (opR_eq rfl hr) o2_eq (de_ix rfl (de_var 4) (de_int)) (de_ix rfl (de_var 5) (de_int)) (nomark _)) (de_one (de_cmp (opR_eq rfl hr) o2_eq (de_ix rfl (de_var 5) (de_int)) (de_ix rfl (de_var 4) (de_int)) (nomark _))))) (dss_one (ds_if (dt_w (dw_and (dt_not (dt_val (de_var 6))) (dw_and (dt_cmp op_ge o2_ge (de_ix rfl (de_var 4) (de_int)) (de_ix rfl (de_var 5) (de_int)) (nomark _)) (dw_and1 (dt_cmp op_ge o2_ge (de_ix rfl (de_var 5) (de_int)) (de_ix rfl (de_var 4) (de_int)) (nomark _)))))) (dss_one (ds_ret (de_bl))) (dss_nil)))) (dss_nil)) (dss_one (ds_if (dt_not (dt_val (de_call ((d__law_pairs_right T).mono (by decide)) hr hg tk rfl T.m__law_pairs_right T.f__law_pairs_right.kp (b__law_pairs_right T) (da_cons (de_var 2) (da_nil))))) (dss_one (ds_ret (de_bl))) (dss_nil))))))) (dss_one (ds_ret (de_bl)))))
theorem tx_of {h : Heap} (KX : K.In h) (G : h.Ns mainGlobals mg)
     {C0 : Addr} {n0 q0 : Str} {N0 W0 : Addr} {bs0 : List Value} {sn0 : List Str} {su0 : List Value} {ab0 : Bool} {co0 : Option Bool} {dd0 : Option Addr} {m0a m0b m0c m0d m0e : Option Value} {I0 cc0 cd0 : Addr} {oc0 : Value} {od0 : Option Addr} {qf0 : Str} {dc0 pm0 : Value} {an0 : Option Addr} {ct0 : Value} {ol0 : Array (Option Value)} {ka0 : Value} {kb0 : Option Addr} {kv0 : Array Value} {ks0 : Array (Option Value)} {la0 : Value} {lb0 : Option Addr} {ls0 : Array (Option Value)} {tf0 : Tok} {C1 : Addr} {n1 q1 : Str} {N1 W1 : Addr} {bs1 : List Value} {sn1 : List Str} {su1 : List Value} {ab1 : Bool} {co1 : Option Bool} {dd1 : Option Addr} {m1a m1b m1c m1d m1e : Option Value} {I1 cc1 cd1 : Addr} {oc1 : Value} {od1 : Option Addr} {qf1 : Str} {dc1 pm1 : Value} {an1 : Option Addr} {ct1 : Value} {ol1 : Array (Option Value)} {ka1 : Value} {kb1 : Option Addr} {kv1 : Array Value} {ks1 : Array (Option Value)} {la1 : Value} {lb1 : Option Addr} {ls1 : Array (Option Value)} {tf1 : Tok} {C2 : Addr} {n2 q2 : Str} {N2 W2 : Addr} {bs2 : List Value} {sn2 : List Str} {su2 : List Value} {ab2 : Bool} {co2 : Option Bool} {dd2 : Option Addr} {m2a m2b m2c m2d m2e : Option Value} {I2 cc2 cd2 : Addr} {oc2 : Value} {od2 : Option Addr} {qf2 : Str} {dc2 pm2 : Value} {an2 : Option Addr} {ct2 : Value} {ol2 : Array (Option Value)} {ka2 : Value} {kb2 : Option Addr} {kv2 : Array Value} {ks2 : Array (Option Value)} {la2 : Value} {lb2 : Option Addr} {ls2 : Array (Option Value)} {tf2 : Tok} {C3 : Addr} {n3 q3 : Str} {N3 W3 : Addr} {bs3 : List Value} {sn3 : List Str} {su3 : List Value} {ab3 : Bool} {co3 : Option Bool} {dd3 : Option Addr} {m3a m3b m3c m3d m3e : Option Value} {I3 cc3 cd3 : Addr} {oc3 : Value} {od3 : Option Addr} {qf3 : Str} {dc3 pm3 : Value} {an3 : Option Addr} {ct3 : Value} {ol3 : Array (Option Value)} {ka3 : Value} {kb3 : Option Addr} {kv3 : Array Value} {ks3 : Array (Option Value)} {la3 : Value} {lb3 : Option Addr} {ls3 : Array (Option Value)} {tf3 : Tok} {C4 : Addr} {n4 q4 : Str} {N4 W4 : Addr} {bs4 : List Value} {sn4 : List Str} {su4 : List Value} {ab4 : Bool} {co4 : Option Bool} {dd4 : Option Addr} {m4a m4b m4c m4d m4e : Option Value} {I4 cc4 cd4 : Addr} {oc4 : Value} {od4 : Option Addr} {qf4 : Str} {dc4 pm4 : Value} {an4 : Option Addr} {ct4 : Value} {ol4 : Array (Option Value)} {ka4 : Value} {kb4 : Option Addr} {kv4 : Array Value} {ks4 : Array (Option Value)} {la4 : Value} {lb4 : Option Addr} {ls4 : Array (Option Value)} {tf4 : Tok} {F0 : Addr} {xa0 : Value} {xb0 xc0 : Option Addr} {xd0 : Array (Option Value)} {xe0 xf0 xg0 xh0 xi0 : Value} {F1 : Addr} {xa1 : Value} {xb1 xc1 : Option Addr} {xd1 : Array (Option Value)} {xe1 xf1 xg1 xh1 xi1 : Value} {F2 : Addr} {xa2 : Value} {xb2 xc2 : Option Addr} {xd2 : Array (Option Value)} {xe2 xf2 xg2 xh2 xi2 : Value} {F3 : Addr} {xa3 : Value} {xb3 xc3 : Option Addr} {xd3 : Array (Option Value)} {xe3 xf3 xg3 xh3 xi3 : Value} {F4 : Addr} {xa4 : Value} {xb4 xc4 : Option Addr} {xd4 : Array (Option Value)} {xe4 xf4 xg4 xh4 xi4 : Value} {F5 : Addr} {xa5 : Value} {xb5 xc5 : Option Addr} {xd5 : Array (Option Value)} {xe5 xf5 xg5 xh5 xi5 : Value} {F6 : Addr} {xa6 : Value} {xb6 xc6 : Option Addr} {xd6 : Array (Option Value)} {xe6 xf6 xg6 xh6 xi6 : Value} {F7 : Addr} {xa7 : Value} {xb7 xc7 : Option Addr} {xd7 : Array (Option Value)} {xe7 xf7 xg7 xh7 xi7 : Value} {F8 : Addr} {xa8 : Value} {xb8 xc8 : Option Addr} {xd8 : Array (Option Value)} {xe8 xf8 xg8 xh8 xi8 : Value} {F9 : Addr} {xa9 : Value} {xb9 xc9 : Option Addr} {xd9 : Array (Option Value)} {xe9 xf9 xg9 xh9 xi9 : Value} {F10 : Addr} {xa10 : Value} {xb10 xc10 : Option Addr} {xd10 : Array (Option Value)} {xe10 xf10 xg10 xh10 xi10 : Value} {F11 : Addr} {xa11 : Value} {xb11 xc11 : Option Addr} {xd11 : Array (Option Value)} {xe11 xf11 xg11 xh11 xi11 : Value} {F12 : Addr} {xa12 : Value} {xb12 xc12 : Option Addr} {xd12 : Array (Option Value)} {xe12 xf12 xg12 xh12 xi12 : Value} {F13 : Addr} {xa13 : Value} {xb13 xc13 : Option Addr} {xd13 : Array (Option Value)} {xe13 xf13 xg13 xh13 xi13 : Value} {F14 : Addr} {xa14 : Value} {xb14 xc14 : Option Addr} {xd14 : Array (Option Value)} {xe14 xf14 xg14 xh14 xi14 : Value} {F15 : Addr} {xa15 : Value} {xb15 xc15 : Option Addr} {xd15 : Array (Option Value)} {xe15 xf15 xg15 xh15 xi15 : Value} {F16 : Addr} {xa16 : Value} {xb16 xc16 : Option Addr} {xd16 : Array (Option Value)} {xe16 xf16 xg16 xh16 xi16 : Value} {F17 : Addr} {xa17 : Value} {xb17 xc17 : Option Addr} {xd17 : Array (Option Value)} {xe17 xf17 xg17 xh17 xi17 : Value} {F18 : Addr} {xa18 : Value} {xb18 xc18 : Option Addr} {xd18 : Array (Option Value)} {xe18 xf18 xg18 xh18 xi18 : Value} {F19 : Addr} {xa19 : Value} {xb19 xc19 : Option Addr} {xd19 : Array (Option Value)} {xe19 xf19 xg19 xh19 xi19 : Value} {F20 : Addr} {xa20 : Value} {xb20 xc20 : Option Addr} {xd20 : Array (Option Value)} {xe20 xf20 xg20 xh20 xi20 : Value} {F21 : Addr} {xa21 : Value} {xb21 xc21 : Option Addr} {xd21 : Array (Option Value)} {xe21 xf21 xg21 xh21 xi21 : Value} {F22 : Addr} {xa22 : Value} {xb22 xc22 : Option Addr} {xd22 : Array (Option Value)} {xe22 xf22 xg22 xh22 xi22 : Value} {F23 : Addr} {xa23 : Value} {xb23 xc23 : Option Addr} {xd23 : Array (Option Value)} {xe23 xf23 xg23 xh23 xi23 : Value} {F24 : Addr} {xa24 : Value} {xb24 xc24 : Option Addr} {xd24 : Array (Option Value)} {xe24 xf24 xg24 xh24 xi24 : Value} {F25 : Addr} {xa25 : Value} {xb25 xc25 : Option Addr} {xd25 : Array (Option Value)} {xe25 xf25 xg25 xh25 xi25 : Value} {F26 : Addr} {xa26 : Value} {xb26 xc26 : Option Addr} {xd26 : Array (Option Value)} {xe26 xf26 xg26 xh26 xi26 : Value} {F27 : Addr} {xa27 : Value} {xb27 xc27 : Option Addr} {xd27 : Array (Option Value)} {xe27 xf27 xg27 xh27 xi27 : Value} {F28 : Addr} {xa28 : Value} {xb28 xc28 : Option Addr} {xd28 : Array (Option Value)} {xe28 xf28 xg28 xh28 xi28 : Value} {F29 : Addr} {xa29 : Value} {xb29 xc29 : Option Addr} {xd29 : Array (Option Value)} {xe29 xf29 xg29 xh29 xi29 : Value} {gA_PHASES_0 : Addr} {gD_PHASES_0 : Option Addr} {gW_PHASES_0 : Array Value} {gK_PHASES_0 : Nat} {gS_PHASES_0 : Array (Option Value)} {gt_PHASES_1 : Tok} {gt_PHASES_2 : Tok} {gt_PHASES_3 : Tok}
    (opq : PySem.W.nsIn K cStatics "thirdparty.any" = some none)
    (noS : PySem.W.nsIn K mainGlobals "super" = some none)
    (aC0 : PySem.W.nsIn K mainGlobals "BadNumber" = some (some (.ref C0)))
    (xC0 : K.lookup C0 = some (excClassObj n0 q0 C0 N0 bs0 (.ref W0 :: PySem.HandSPX.veTail) true sn0 su0 ab0 co0 dd0 m0a m0b m0c m0d m0e "ValueError.__new__"))
    (sa0 : PySem.W.findIn K (.ref C0) "__setattr__" = some (some (.builtin "object.__setattr__")))
    (ga0 : PySem.W.findIn K (.ref C0) "__getattribute__" = some (some (.builtin "BaseException.__getattribute__")))
    (gg0 : PySem.W.findIn K (.ref C0) "__getattr__" = some none)
    (eC0 : PySem.W.subIn K (.ref C0) (.type "BaseException") = some true)
    (hC0 : PySem.W.hasDictIn K C0 = true)
    (kC0 : PySem.W.keepIn K (.ref C0) = true)
    (tC0 : PySem.W.typeIn K (.ref C0) = some (.type "type"))
    (sC0 : PySem.W.ks_superIn K C0 C0 "__init__" = some (some (.builtin "ValueError.__init__")))
    (iC0 : PySem.W.findIn K (.ref C0) "__init__" = some (some (.ref I0)))
    (tI0 : PySem.W.typeIn K (.ref I0) = some (.type "function"))
    (lI0 : K.lookup I0 = some ⟨oc0, od0, .func (PySem.W.ksFn "__init__" qf0 (defArgs (Er.initOf (top 2))) (defBody (Er.initOf (top 2))) (defScope (Er.initOf (top 2))) .none .none dc0 pm0 an0 (.ref cd0) ct0 cc0), ol0⟩)
    (cI0 : PySem.W.codeIn K (.ref cd0) qf0 = true)
    (ld0 : K.lookup cd0 = some ⟨ka0, kb0, .fields kv0, ks0⟩)
    (lc0 : K.lookup cc0 = some ⟨la0, lb0, .cell (some (.ref C0)), ls0⟩)
    (f0_0 : PySem.W.findIn K (.ref C0) "value" = some none)
    (fv0 : kv0[2]? = some (.str pwL.main.file tf0))
    (aC1 : PySem.W.nsIn K mainGlobals "BadLife" = some (some (.ref C1)))
    (xC1 : K.lookup C1 = some (excClassObj n1 q1 C1 N1 bs1 (.ref W1 :: PySem.HandSPX.veTail) true sn1 su1 ab1 co1 dd1 m1a m1b m1c m1d m1e "ValueError.__new__"))
    (sa1 : PySem.W.findIn K (.ref C1) "__setattr__" = some (some (.builtin "object.__setattr__")))
    (ga1 : PySem.W.findIn K (.ref C1) "__getattribute__" = some (some (.builtin "BaseException.__getattribute__")))
    (gg1 : PySem.W.findIn K (.ref C1) "__getattr__" = some none)
    (eC1 : PySem.W.subIn K (.ref C1) (.type "BaseException") = some true)
    (hC1 : PySem.W.hasDictIn K C1 = true)
    (kC1 : PySem.W.keepIn K (.ref C1) = true)
    (tC1 : PySem.W.typeIn K (.ref C1) = some (.type "type"))
    (sC1 : PySem.W.ks_superIn K C1 C1 "__init__" = some (some (.builtin "ValueError.__init__")))
    (iC1 : PySem.W.findIn K (.ref C1) "__init__" = some (some (.ref I1)))
    (tI1 : PySem.W.typeIn K (.ref I1) = some (.type "function"))
    (lI1 : K.lookup I1 = some ⟨oc1, od1, .func (PySem.W.ksFn "__init__" qf1 (defArgs (Er.initOf (top 3))) (defBody (Er.initOf (top 3))) (defScope (Er.initOf (top 3))) .none .none dc1 pm1 an1 (.ref cd1) ct1 cc1), ol1⟩)
    (cI1 : PySem.W.codeIn K (.ref cd1) qf1 = true)
    (ld1 : K.lookup cd1 = some ⟨ka1, kb1, .fields kv1, ks1⟩)
    (lc1 : K.lookup cc1 = some ⟨la1, lb1, .cell (some (.ref C1)), ls1⟩)
    (f1_0 : PySem.W.findIn K (.ref C1) "value" = some none)
    (fv1 : kv1[2]? = some (.str pwL.main.file tf1))
    (aC2 : PySem.W.nsIn K mainGlobals "BadSide" = some (some (.ref C2)))
    (xC2 : K.lookup C2 = some (excClassObj n2 q2 C2 N2 bs2 (.ref W2 :: PySem.HandSPX.veTail) true sn2 su2 ab2 co2 dd2 m2a m2b m2c m2d m2e "ValueError.__new__"))
    (sa2 : PySem.W.findIn K (.ref C2) "__setattr__" = some (some (.builtin "object.__setattr__")))
    (ga2 : PySem.W.findIn K (.ref C2) "__getattribute__" = some (some (.builtin "BaseException.__getattribute__")))
    (gg2 : PySem.W.findIn K (.ref C2) "__getattr__" = some none)
    (eC2 : PySem.W.subIn K (.ref C2) (.type "BaseException") = some true)
    (hC2 : PySem.W.hasDictIn K C2 = true)
    (kC2 : PySem.W.keepIn K (.ref C2) = true)
    (tC2 : PySem.W.typeIn K (.ref C2) = some (.type "type"))
    (sC2 : PySem.W.ks_superIn K C2 C2 "__init__" = some (some (.builtin "ValueError.__init__")))
    (iC2 : PySem.W.findIn K (.ref C2) "__init__" = some (some (.ref I2)))
    (tI2 : PySem.W.typeIn K (.ref I2) = some (.type "function"))
    (lI2 : K.lookup I2 = some ⟨oc2, od2, .func (PySem.W.ksFn "__init__" qf2 (defArgs (Er.initOf (top 4))) (defBody (Er.initOf (top 4))) (defScope (Er.initOf (top 4))) .none .none dc2 pm2 an2 (.ref cd2) ct2 cc2), ol2⟩)
    (cI2 : PySem.W.codeIn K (.ref cd2) qf2 = true)
    (ld2 : K.lookup cd2 = some ⟨ka2, kb2, .fields kv2, ks2⟩)
    (lc2 : K.lookup cc2 = some ⟨la2, lb2, .cell (some (.ref C2)), ls2⟩)
    (f2_0 : PySem.W.findIn K (.ref C2) "value" = some none)
    (fv2 : kv2[2]? = some (.str pwL.main.file tf2))
    (aC3 : PySem.W.nsIn K mainGlobals "BadLink" = some (some (.ref C3)))
    (xC3 : K.lookup C3 = some (excClassObj n3 q3 C3 N3 bs3 (.ref W3 :: PySem.HandSPX.veTail) true sn3 su3 ab3 co3 dd3 m3a m3b m3c m3d m3e "ValueError.__new__"))
    (sa3 : PySem.W.findIn K (.ref C3) "__setattr__" = some (some (.builtin "object.__setattr__")))
    (ga3 : PySem.W.findIn K (.ref C3) "__getattribute__" = some (some (.builtin "BaseException.__getattribute__")))
    (gg3 : PySem.W.findIn K (.ref C3) "__getattr__" = some none)
    (eC3 : PySem.W.subIn K (.ref C3) (.type "BaseException") = some true)
    (hC3 : PySem.W.hasDictIn K C3 = true)
    (kC3 : PySem.W.keepIn K (.ref C3) = true)
    (tC3 : PySem.W.typeIn K (.ref C3) = some (.type "type"))
    (sC3 : PySem.W.ks_superIn K C3 C3 "__init__" = some (some (.builtin "ValueError.__init__")))
    (iC3 : PySem.W.findIn K (.ref C3) "__init__" = some (some (.ref I3)))
    (tI3 : PySem.W.typeIn K (.ref I3) = some (.type "function"))
    (lI3 : K.lookup I3 = some ⟨oc3, od3, .func (PySem.W.ksFn "__init__" qf3 (defArgs (Er.initOf (top 5))) (defBody (Er.initOf (top 5))) (defScope (Er.initOf (top 5))) .none .none dc3 pm3 an3 (.ref cd3) ct3 cc3), ol3⟩)
    (cI3 : PySem.W.codeIn K (.ref cd3) qf3 = true)
    (ld3 : K.lookup cd3 = some ⟨ka3, kb3, .fields kv3, ks3⟩)
    (lc3 : K.lookup cc3 = some ⟨la3, lb3, .cell (some (.ref C3)), ls3⟩)
    (f3_0 : PySem.W.findIn K (.ref C3) "word" = some none)
    (fv3 : kv3[2]? = some (.str pwL.main.file tf3))
    (aC4 : PySem.W.nsIn K mainGlobals "TooGreat" = some (some (.ref C4)))
    (xC4 : K.lookup C4 = some (excClassObj n4 q4 C4 N4 bs4 (.ref W4 :: PySem.HandSPX.veTail) true sn4 su4 ab4 co4 dd4 m4a m4b m4c m4d m4e "ValueError.__new__"))
    (sa4 : PySem.W.findIn K (.ref C4) "__setattr__" = some (some (.builtin "object.__setattr__")))
    (ga4 : PySem.W.findIn K (.ref C4) "__getattribute__" = some (some (.builtin "BaseException.__getattribute__")))
    (gg4 : PySem.W.findIn K (.ref C4) "__getattr__" = some none)
    (eC4 : PySem.W.subIn K (.ref C4) (.type "BaseException") = some true)
    (hC4 : PySem.W.hasDictIn K C4 = true)
    (kC4 : PySem.W.keepIn K (.ref C4) = true)
    (tC4 : PySem.W.typeIn K (.ref C4) = some (.type "type"))
    (sC4 : PySem.W.ks_superIn K C4 C4 "__init__" = some (some (.builtin "ValueError.__init__")))
    (iC4 : PySem.W.findIn K (.ref C4) "__init__" = some (some (.ref I4)))
    (tI4 : PySem.W.typeIn K (.ref I4) = some (.type "function"))
    (lI4 : K.lookup I4 = some ⟨oc4, od4, .func (PySem.W.ksFn "__init__" qf4 (defArgs (Er.initOf (top 6))) (defBody (Er.initOf (top 6))) (defScope (Er.initOf (top 6))) .none .none dc4 pm4 an4 (.ref cd4) ct4 cc4), ol4⟩)
    (cI4 : PySem.W.codeIn K (.ref cd4) qf4 = true)
    (ld4 : K.lookup cd4 = some ⟨ka4, kb4, .fields kv4, ks4⟩)
    (lc4 : K.lookup cc4 = some ⟨la4, lb4, .cell (some (.ref C4)), ls4⟩)
    (f4_0 : PySem.W.findIn K (.ref C4) "most" = some none)
    (fv4 : kv4[2]? = some (.str pwL.main.file tf4))
    (aF0 : PySem.W.nsIn K mainGlobals "is_whole" = some (some (.ref F0)))
    (lF0 : K.lookup F0 = some ⟨xa0, xb0, .func (PySem.W.fnOf "is_whole" "is_whole" (defArgs (top 8)) (defBody (top 8)) (defScope (top 8)) .none xe0 xf0 xg0 xc0 xh0 xi0), xd0⟩)
    (cF0 : PySem.W.codeIn K xh0 "is_whole" = true)
    (kF0 : PySem.W.keepIn K (.ref F0) = true)
    (aF1 : PySem.W.nsIn K mainGlobals "is_within" = some (some (.ref F1)))
    (lF1 : K.lookup F1 = some ⟨xa1, xb1, .func (PySem.W.fnOf "is_within" "is_within" (defArgs (top 9)) (defBody (top 9)) (defScope (top 9)) .none xe1 xf1 xg1 xc1 xh1 xi1), xd1⟩)
    (cF1 : PySem.W.codeIn K xh1 "is_within" = true)
    (kF1 : PySem.W.keepIn K (.ref F1) = true)
    (aF2 : PySem.W.nsIn K mainGlobals "is_tuple_of" = some (some (.ref F2)))
    (lF2 : K.lookup F2 = some ⟨xa2, xb2, .func (PySem.W.fnOf "is_tuple_of" "is_tuple_of" (defArgs (top 10)) (defBody (top 10)) (defScope (top 10)) .none xe2 xf2 xg2 xc2 xh2 xi2), xd2⟩)
    (cF2 : PySem.W.codeIn K xh2 "is_tuple_of" = true)
    (kF2 : PySem.W.keepIn K (.ref F2) = true)
    (aF3 : PySem.W.nsIn K mainGlobals "need_side" = some (some (.ref F3)))
    (lF3 : K.lookup F3 = some ⟨xa3, xb3, .func (PySem.W.fnOf "need_side" "need_side" (defArgs (top 13)) (defBody (top 13)) (defScope (top 13)) .none xe3 xf3 xg3 xc3 xh3 xi3), xd3⟩)
    (cF3 : PySem.W.codeIn K xh3 "need_side" = true)
    (kF3 : PySem.W.keepIn K (.ref F3) = true)
    (aF4 : PySem.W.nsIn K mainGlobals "is_kind" = some (some (.ref F4)))
    (lF4 : K.lookup F4 = some ⟨xa4, xb4, .func (PySem.W.fnOf "is_kind" "is_kind" (defArgs (top 14)) (defBody (top 14)) (defScope (top 14)) .none xe4 xf4 xg4 xc4 xh4 xi4), xd4⟩)
    (cF4 : PySem.W.codeIn K xh4 "is_kind" = true)
    (kF4 : PySem.W.keepIn K (.ref F4) = true)
    (aF5 : PySem.W.nsIn K mainGlobals "is_life" = some (some (.ref F5)))
    (lF5 : K.lookup F5 = some ⟨xa5, xb5, .func (PySem.W.fnOf "is_life" "is_life" (defArgs (top 15)) (defBody (top 15)) (defScope (top 15)) .none xe5 xf5 xg5 xc5 xh5 xi5), xd5⟩)
    (cF5 : PySem.W.codeIn K xh5 "is_life" = true)
    (kF5 : PySem.W.keepIn K (.ref F5) = true)
    (aF6 : PySem.W.nsIn K mainGlobals "need_life" = some (some (.ref F6)))
    (lF6 : K.lookup F6 = some ⟨xa6, xb6, .func (PySem.W.fnOf "need_life" "need_life" (defArgs (top 16)) (defBody (top 16)) (defScope (top 16)) .none xe6 xf6 xg6 xc6 xh6 xi6), xd6⟩)
    (cF6 : PySem.W.codeIn K xh6 "need_life" = true)
    (kF6 : PySem.W.keepIn K (.ref F6) = true)
    (aF7 : PySem.W.nsIn K mainGlobals "next_life" = some (some (.ref F7)))
    (lF7 : K.lookup F7 = some ⟨xa7, xb7, .func (PySem.W.fnOf "next_life" "next_life" (defArgs (top 17)) (defBody (top 17)) (defScope (top 17)) .none xe7 xf7 xg7 xc7 xh7 xi7), xd7⟩)
    (cF7 : PySem.W.codeIn K xh7 "next_life" = true)
    (kF7 : PySem.W.keepIn K (.ref F7) = true)
    (aF8 : PySem.W.nsIn K mainGlobals "is_peer" = some (some (.ref F8)))
    (lF8 : K.lookup F8 = some ⟨xa8, xb8, .func (PySem.W.fnOf "is_peer" "is_peer" (defArgs (top 20)) (defBody (top 20)) (defScope (top 20)) .none xe8 xf8 xg8 xc8 xh8 xi8), xd8⟩)
    (cF8 : PySem.W.codeIn K xh8 "is_peer" = true)
    (kF8 : PySem.W.keepIn K (.ref F8) = true)
    (aF9 : PySem.W.nsIn K mainGlobals "link_fault" = some (some (.ref F9)))
    (lF9 : K.lookup F9 = some ⟨xa9, xb9, .func (PySem.W.fnOf "link_fault" "link_fault" (defArgs (top 21)) (defBody (top 21)) (defScope (top 21)) .none xe9 xf9 xg9 xc9 xh9 xi9), xd9⟩)
    (cF9 : PySem.W.codeIn K xh9 "link_fault" = true)
    (kF9 : PySem.W.keepIn K (.ref F9) = true)
    (aF10 : PySem.W.nsIn K mainGlobals "need_link" = some (some (.ref F10)))
    (lF10 : K.lookup F10 = some ⟨xa10, xb10, .func (PySem.W.fnOf "need_link" "need_link" (defArgs (top 22)) (defBody (top 22)) (defScope (top 22)) .none xe10 xf10 xg10 xc10 xh10 xi10), xd10⟩)
    (cF10 : PySem.W.codeIn K xh10 "need_link" = true)
    (kF10 : PySem.W.keepIn K (.ref F10) = true)
    (aF11 : PySem.W.nsIn K mainGlobals "need_header" = some (some (.ref F11)))
    (lF11 : K.lookup F11 = some ⟨xa11, xb11, .func (PySem.W.fnOf "need_header" "need_header" (defArgs (top 23)) (defBody (top 23)) (defScope (top 23)) .none xe11 xf11 xg11 xc11 xh11 xi11), xd11⟩)
    (cF11 : PySem.W.codeIn K xh11 "need_header" = true)
    (kF11 : PySem.W.keepIn K (.ref F11) = true)
    (aF12 : PySem.W.nsIn K mainGlobals "heard_by" = some (some (.ref F12)))
    (lF12 : K.lookup F12 = some ⟨xa12, xb12, .func (PySem.W.fnOf "heard_by" "heard_by" (defArgs (top 24)) (defBody (top 24)) (defScope (top 24)) .none xe12 xf12 xg12 xc12 xh12 xi12), xd12⟩)
    (cF12 : PySem.W.codeIn K xh12 "heard_by" = true)
    (kF12 : PySem.W.keepIn K (.ref F12) = true)
    (aF13 : PySem.W.nsIn K mainGlobals "link_heard" = some (some (.ref F13)))
    (lF13 : K.lookup F13 = some ⟨xa13, xb13, .func (PySem.W.fnOf "link_heard" "link_heard" (defArgs (top 25)) (defBody (top 25)) (defScope (top 25)) .none xe13 xf13 xg13 xc13 xh13 xi13), xd13⟩)
    (cF13 : PySem.W.codeIn K xh13 "link_heard" = true)
    (kF13 : PySem.W.keepIn K (.ref F13) = true)
    (aF14 : PySem.W.nsIn K mainGlobals "link_again" = some (some (.ref F14)))
    (lF14 : K.lookup F14 = some ⟨xa14, xb14, .func (PySem.W.fnOf "link_again" "link_again" (defArgs (top 26)) (defBody (top 26)) (defScope (top 26)) .none xe14 xf14 xg14 xc14 xh14 xi14), xd14⟩)
    (cF14 : PySem.W.codeIn K xh14 "link_again" = true)
    (kF14 : PySem.W.keepIn K (.ref F14) = true)
    (aF15 : PySem.W.nsIn K mainGlobals "_law_mixed" = some (some (.ref F15)))
    (lF15 : K.lookup F15 = some ⟨xa15, xb15, .func (PySem.W.fnOf "_law_mixed" "_law_mixed" (defArgs (top 28)) (defBody (top 28)) (defScope (top 28)) .none xe15 xf15 xg15 xc15 xh15 xi15), xd15⟩)
    (cF15 : PySem.W.codeIn K xh15 "_law_mixed" = true)
    (kF15 : PySem.W.keepIn K (.ref F15) = true)
    (aF16 : PySem.W.nsIn K mainGlobals "_law_folded" = some (some (.ref F16)))
    (lF16 : K.lookup F16 = some ⟨xa16, xb16, .func (PySem.W.fnOf "_law_folded" "_law_folded" (defArgs (top 29)) (defBody (top 29)) (defScope (top 29)) .none xe16 xf16 xg16 xc16 xh16 xi16), xd16⟩)
    (cF16 : PySem.W.codeIn K xh16 "_law_folded" = true)
    (kF16 : PySem.W.keepIn K (.ref F16) = true)
    (aF17 : PySem.W.nsIn K mainGlobals "_law_draw" = some (some (.ref F17)))
    (lF17 : K.lookup F17 = some ⟨xa17, xb17, .func (PySem.W.fnOf "_law_draw" "_law_draw" (defArgs (top 30)) (defBody (top 30)) (defScope (top 30)) .none xe17 xf17 xg17 xc17 xh17 xi17), xd17⟩)
    (cF17 : PySem.W.codeIn K xh17 "_law_draw" = true)
    (kF17 : PySem.W.keepIn K (.ref F17) = true)
    (aF18 : PySem.W.nsIn K mainGlobals "_law_begun" = some (some (.ref F18)))
    (lF18 : K.lookup F18 = some ⟨xa18, xb18, .func (PySem.W.fnOf "_law_begun" "_law_begun" (defArgs (top 31)) (defBody (top 31)) (defScope (top 31)) .none xe18 xf18 xg18 xc18 xh18 xi18), xd18⟩)
    (cF18 : PySem.W.codeIn K xh18 "_law_begun" = true)
    (kF18 : PySem.W.keepIn K (.ref F18) = true)
    (aF19 : PySem.W.nsIn K mainGlobals "_law_like" = some (some (.ref F19)))
    (lF19 : K.lookup F19 = some ⟨xa19, xb19, .func (PySem.W.fnOf "_law_like" "_law_like" (defArgs (top 32)) (defBody (top 32)) (defScope (top 32)) .none xe19 xf19 xg19 xc19 xh19 xi19), xd19⟩)
    (cF19 : PySem.W.codeIn K xh19 "_law_like" = true)
    (kF19 : PySem.W.keepIn K (.ref F19) = true)
    (aF20 : PySem.W.nsIn K mainGlobals "_law_of" = some (some (.ref F20)))
    (lF20 : K.lookup F20 = some ⟨xa20, xb20, .func (PySem.W.fnOf "_law_of" "_law_of" (defArgs (top 33)) (defBody (top 33)) (defScope (top 33)) .none xe20 xf20 xg20 xc20 xh20 xi20), xd20⟩)
    (cF20 : PySem.W.codeIn K xh20 "_law_of" = true)
    (kF20 : PySem.W.keepIn K (.ref F20) = true)
    (aF21 : PySem.W.nsIn K mainGlobals "_law_four_heard" = some (some (.ref F21)))
    (lF21 : K.lookup F21 = some ⟨xa21, xb21, .func (PySem.W.fnOf "_law_four_heard" "_law_four_heard" (defArgs (top 34)) (defBody (top 34)) (defScope (top 34)) .none xe21 xf21 xg21 xc21 xh21 xi21), xd21⟩)
    (cF21 : PySem.W.codeIn K xh21 "_law_four_heard" = true)
    (kF21 : PySem.W.keepIn K (.ref F21) = true)
    (aF22 : PySem.W.nsIn K mainGlobals "_law_four_begun" = some (some (.ref F22)))
    (lF22 : K.lookup F22 = some ⟨xa22, xb22, .func (PySem.W.fnOf "_law_four_begun" "_law_four_begun" (defArgs (top 35)) (defBody (top 35)) (defScope (top 35)) .none xe22 xf22 xg22 xc22 xh22 xi22), xd22⟩)
    (cF22 : PySem.W.codeIn K xh22 "_law_four_begun" = true)
    (kF22 : PySem.W.keepIn K (.ref F22) = true)
    (aF23 : PySem.W.nsIn K mainGlobals "_law_four_put" = some (some (.ref F23)))
    (lF23 : K.lookup F23 = some ⟨xa23, xb23, .func (PySem.W.fnOf "_law_four_put" "_law_four_put" (defArgs (top 36)) (defBody (top 36)) (defScope (top 36)) .none xe23 xf23 xg23 xc23 xh23 xi23), xd23⟩)
    (cF23 : PySem.W.codeIn K xh23 "_law_four_put" = true)
    (kF23 : PySem.W.keepIn K (.ref F23) = true)
    (aF24 : PySem.W.nsIn K mainGlobals "_law_four_send" = some (some (.ref F24)))
    (lF24 : K.lookup F24 = some ⟨xa24, xb24, .func (PySem.W.fnOf "_law_four_send" "_law_four_send" (defArgs (top 37)) (defBody (top 37)) (defScope (top 37)) .none xe24 xf24 xg24 xc24 xh24 xi24), xd24⟩)
    (cF24 : PySem.W.codeIn K xh24 "_law_four_send" = true)
    (kF24 : PySem.W.keepIn K (.ref F24) = true)
    (aF25 : PySem.W.nsIn K mainGlobals "_law_four_hear" = some (some (.ref F25)))
    (lF25 : K.lookup F25 = some ⟨xa25, xb25, .func (PySem.W.fnOf "_law_four_hear" "_law_four_hear" (defArgs (top 38)) (defBody (top 38)) (defScope (top 38)) .none xe25 xf25 xg25 xc25 xh25 xi25), xd25⟩)
    (cF25 : PySem.W.codeIn K xh25 "_law_four_hear" = true)
    (kF25 : PySem.W.keepIn K (.ref F25) = true)
    (aF26 : PySem.W.nsIn K mainGlobals "_law_four_crash" = some (some (.ref F26)))
    (lF26 : K.lookup F26 = some ⟨xa26, xb26, .func (PySem.W.fnOf "_law_four_crash" "_law_four_crash" (defArgs (top 39)) (defBody (top 39)) (defScope (top 39)) .none xe26 xf26 xg26 xc26 xh26 xi26), xd26⟩)
    (cF26 : PySem.W.codeIn K xh26 "_law_four_crash" = true)
    (kF26 : PySem.W.keepIn K (.ref F26) = true)
    (aF27 : PySem.W.nsIn K mainGlobals "_law_four_deed" = some (some (.ref F27)))
    (lF27 : K.lookup F27 = some ⟨xa27, xb27, .func (PySem.W.fnOf "_law_four_deed" "_law_four_deed" (defArgs (top 40)) (defBody (top 40)) (defScope (top 40)) .none xe27 xf27 xg27 xc27 xh27 xi27), xd27⟩)
    (cF27 : PySem.W.codeIn K xh27 "_law_four_deed" = true)
    (kF27 : PySem.W.keepIn K (.ref F27) = true)
    (aF28 : PySem.W.nsIn K mainGlobals "_law_pairs_right" = some (some (.ref F28)))
    (lF28 : K.lookup F28 = some ⟨xa28, xb28, .func (PySem.W.fnOf "_law_pairs_right" "_law_pairs_right" (defArgs (top 41)) (defBody (top 41)) (defScope (top 41)) .none xe28 xf28 xg28 xc28 xh28 xi28), xd28⟩)
    (cF28 : PySem.W.codeIn K xh28 "_law_pairs_right" = true)
    (kF28 : PySem.W.keepIn K (.ref F28) = true)
    (aF29 : PySem.W.nsIn K mainGlobals "law" = some (some (.ref F29)))
    (lF29 : K.lookup F29 = some ⟨xa29, xb29, .func (PySem.W.fnOf "law" "law" (defArgs (top 42)) (defBody (top 42)) (defScope (top 42)) .none xe29 xf29 xg29 xc29 xh29 xi29), xd29⟩)
    (cF29 : PySem.W.codeIn K xh29 "law" = true)
    (kF29 : PySem.W.keepIn K (.ref F29) = true)
    (b_bool : PySem.W.nsIn K mainGlobals "bool" = some none)
    (b_enumerate : PySem.W.nsIn K mainGlobals "enumerate" = some none)
    (b_int : PySem.W.nsIn K mainGlobals "int" = some none)
    (b_isinstance : PySem.W.nsIn K mainGlobals "isinstance" = some none)
    (b_len : PySem.W.nsIn K mainGlobals "len" = some none)
    (b_min : PySem.W.nsIn K mainGlobals "min" = some none)
    (b_range : PySem.W.nsIn K mainGlobals "range" = some none)
    (b_repr : PySem.W.nsIn K mainGlobals "repr" = some none)
    (b_str : PySem.W.nsIn K mainGlobals "str" = some none)
    (b_tuple : PySem.W.nsIn K mainGlobals "tuple" = some none)
    (g_MOST_LIFE : ∃ t, mg "MOST_LIFE" = some (.int (1152921504606846976) t))
    (aG_PHASES : PySem.W.nsIn K mainGlobals "PHASES" = some (some (.ref gA_PHASES_0)))
    (lG_PHASES_0 : K.lookup gA_PHASES_0 = some ⟨.type "tuple", gD_PHASES_0, .seq gW_PHASES_0 gK_PHASES_0, gS_PHASES_0⟩)
    (vG_PHASES_0 : gW_PHASES_0 = #[.str "new" gt_PHASES_1, .str "sure" gt_PHASES_2, .str "gone" gt_PHASES_3]) :
    Tx K mg (fun i => ([F0, F1, F2, F3, F4, F5, F6, F7, F8, F9, F10, F11, F12, F13, F14, F15, F16, F17, F18, F19, F20, F21, F22, F23, F24, F25, F26, F27, F28, F29] : List Addr).getD i 0) (fun i => match i with | 0 => PySem.W.fnOf "is_whole" "is_whole" (defArgs (top 8)) (defBody (top 8)) (defScope (top 8)) .none xe0 xf0 xg0 xc0 xh0 xi0 | 1 => PySem.W.fnOf "is_within" "is_within" (defArgs (top 9)) (defBody (top 9)) (defScope (top 9)) .none xe1 xf1 xg1 xc1 xh1 xi1 | 2 => PySem.W.fnOf "is_tuple_of" "is_tuple_of" (defArgs (top 10)) (defBody (top 10)) (defScope (top 10)) .none xe2 xf2 xg2 xc2 xh2 xi2 | 3 => PySem.W.fnOf "need_side" "need_side" (defArgs (top 13)) (defBody (top 13)) (defScope (top 13)) .none xe3 xf3 xg3 xc3 xh3 xi3 | 4 => PySem.W.fnOf "is_kind" "is_kind" (defArgs (top 14)) (defBody (top 14)) (defScope (top 14)) .none xe4 xf4 xg4 xc4 xh4 xi4 | 5 => PySem.W.fnOf "is_life" "is_life" (defArgs (top 15)) (defBody (top 15)) (defScope (top 15)) .none xe5 xf5 xg5 xc5 xh5 xi5 | 6 => PySem.W.fnOf "need_life" "need_life" (defArgs (top 16)) (defBody (top 16)) (defScope (top 16)) .none xe6 xf6 xg6 xc6 xh6 xi6 | 7 => PySem.W.fnOf "next_life" "next_life" (defArgs (top 17)) (defBody (top 17)) (defScope (top 17)) .none xe7 xf7 xg7 xc7 xh7 xi7 | 8 => PySem.W.fnOf "is_peer" "is_peer" (defArgs (top 20)) (defBody (top 20)) (defScope (top 20)) .none xe8 xf8 xg8 xc8 xh8 xi8 | 9 => PySem.W.fnOf "link_fault" "link_fault" (defArgs (top 21)) (defBody (top 21)) (defScope (top 21)) .none xe9 xf9 xg9 xc9 xh9 xi9 | 10 => PySem.W.fnOf "need_link" "need_link" (defArgs (top 22)) (defBody (top 22)) (defScope (top 22)) .none xe10 xf10 xg10 xc10 xh10 xi10 | 11 => PySem.W.fnOf "need_header" "need_header" (defArgs (top 23)) (defBody (top 23)) (defScope (top 23)) .none xe11 xf11 xg11 xc11 xh11 xi11 | 12 => PySem.W.fnOf "heard_by" "heard_by" (defArgs (top 24)) (defBody (top 24)) (defScope (top 24)) .none xe12 xf12 xg12 xc12 xh12 xi12 | 13 => PySem.W.fnOf "link_heard" "link_heard" (defArgs (top 25)) (defBody (top 25)) (defScope (top 25)) .none xe13 xf13 xg13 xc13 xh13 xi13 | 14 => PySem.W.fnOf "link_again" "link_again" (defArgs (top 26)) (defBody (top 26)) (defScope (top 26)) .none xe14 xf14 xg14 xc14 xh14 xi14 | 15 => PySem.W.fnOf "_law_mixed" "_law_mixed" (defArgs (top 28)) (defBody (top 28)) (defScope (top 28)) .none xe15 xf15 xg15 xc15 xh15 xi15 | 16 => PySem.W.fnOf "_law_folded" "_law_folded" (defArgs (top 29)) (defBody (top 29)) (defScope (top 29)) .none xe16 xf16 xg16 xc16 xh16 xi16 | 17 => PySem.W.fnOf "_law_draw" "_law_draw" (defArgs (top 30)) (defBody (top 30)) (defScope (top 30)) .none xe17 xf17 xg17 xc17 xh17 xi17 | 18 => PySem.W.fnOf "_law_begun" "_law_begun" (defArgs (top 31)) (defBody (top 31)) (defScope (top 31)) .none xe18 xf18 xg18 xc18 xh18 xi18 | 19 => PySem.W.fnOf "_law_like" "_law_like" (defArgs (top 32)) (defBody (top 32)) (defScope (top 32)) .none xe19 xf19 xg19 xc19 xh19 xi19 | 20 => PySem.W.fnOf "_law_of" "_law_of" (defArgs (top 33)) (defBody (top 33)) (defScope (top 33)) .none xe20 xf20 xg20 xc20 xh20 xi20 | 21 => PySem.W.fnOf "_law_four_heard" "_law_four_heard" (defArgs (top 34)) (defBody (top 34)) (defScope (top 34)) .none xe21 xf21 xg21 xc21 xh21 xi21 | 22 => PySem.W.fnOf "_law_four_begun" "_law_four_begun" (defArgs (top 35)) (defBody (top 35)) (defScope (top 35)) .none xe22 xf22 xg22 xc22 xh22 xi22 | 23 => PySem.W.fnOf "_law_four_put" "_law_four_put" (defArgs (top 36)) (defBody (top 36)) (defScope (top 36)) .none xe23 xf23 xg23 xc23 xh23 xi23 | 24 => PySem.W.fnOf "_law_four_send" "_law_four_send" (defArgs (top 37)) (defBody (top 37)) (defScope (top 37)) .none xe24 xf24 xg24 xc24 xh24 xi24 | 25 => PySem.W.fnOf "_law_four_hear" "_law_four_hear" (defArgs (top 38)) (defBody (top 38)) (defScope (top 38)) .none xe25 xf25 xg25 xc25 xh25 xi25 | 26 => PySem.W.fnOf "_law_four_crash" "_law_four_crash" (defArgs (top 39)) (defBody (top 39)) (defScope (top 39)) .none xe26 xf26 xg26 xc26 xh26 xi26 | 27 => PySem.W.fnOf "_law_four_deed" "_law_four_deed" (defArgs (top 40)) (defBody (top 40)) (defScope (top 40)) .none xe27 xf27 xg27 xc27 xh27 xi27 | 28 => PySem.W.fnOf "_law_pairs_right" "_law_pairs_right" (defArgs (top 41)) (defBody (top 41)) (defScope (top 41)) .none xe28 xf28 xg28 xc28 xh28 xi28 | 29 => PySem.W.fnOf "law" "law" (defArgs (top 42)) (defBody (top 42)) (defScope (top 42)) .none xe29 xf29 xg29 xc29 xh29 xi29 | _ => PySem.W.fnOf "law" "law" (defArgs (top 42)) (defBody (top 42)) (defScope (top 42)) .none xe29 xf29 xg29 xc29 xh29 xi29) (fun i => ([C0, C1, C2, C3, C4] : List Addr).getD i 0) where
  f_is_whole := fun_mk (st := top 8) lF0 cF0 kF0
  f_is_within := fun_mk (st := top 9) lF1 cF1 kF1
  f_is_tuple_of := fun_mk (st := top 10) lF2 cF2 kF2
  f_need_side := fun_mk (st := top 13) lF3 cF3 kF3
  f_is_kind := fun_mk (st := top 14) lF4 cF4 kF4
  f_is_life := fun_mk (st := top 15) lF5 cF5 kF5
  f_need_life := fun_mk (st := top 16) lF6 cF6 kF6
  f_next_life := fun_mk (st := top 17) lF7 cF7 kF7
  f_is_peer := fun_mk (st := top 20) lF8 cF8 kF8
  f_link_fault := fun_mk (st := top 21) lF9 cF9 kF9
  f_need_link := fun_mk (st := top 22) lF10 cF10 kF10
  f_need_header := fun_mk (st := top 23) lF11 cF11 kF11
  f_heard_by := fun_mk (st := top 24) lF12 cF12 kF12
  f_link_heard := fun_mk (st := top 25) lF13 cF13 kF13
  f_link_again := fun_mk (st := top 26) lF14 cF14 kF14
  f__law_mixed := fun_mk (st := top 28) lF15 cF15 kF15
  f__law_folded := fun_mk (st := top 29) lF16 cF16 kF16
  f__law_draw := fun_mk (st := top 30) lF17 cF17 kF17
  f__law_begun := fun_mk (st := top 31) lF18 cF18 kF18
  f__law_like := fun_mk (st := top 32) lF19 cF19 kF19
  f__law_of := fun_mk (st := top 33) lF20 cF20 kF20
  f__law_four_heard := fun_mk (st := top 34) lF21 cF21 kF21
  f__law_four_begun := fun_mk (st := top 35) lF22 cF22 kF22
  f__law_four_put := fun_mk (st := top 36) lF23 cF23 kF23
  f__law_four_send := fun_mk (st := top 37) lF24 cF24 kF24
  f__law_four_hear := fun_mk (st := top 38) lF25 cF25 kF25
  f__law_four_crash := fun_mk (st := top 39) lF26 cF26 kF26
  f__law_four_deed := fun_mk (st := top 40) lF27 cF27 kF27
  f__law_pairs_right := fun_mk (st := top 41) lF28 cF28 kF28
  f_law := fun_mk (st := top 42) lF29 cF29 kF29
  b_bool := PySem.W.mg_none_of KX G b_bool
  b_enumerate := PySem.W.mg_none_of KX G b_enumerate
  b_int := PySem.W.mg_none_of KX G b_int
  b_isinstance := PySem.W.mg_none_of KX G b_isinstance
  b_len := PySem.W.mg_none_of KX G b_len
  b_min := PySem.W.mg_none_of KX G b_min
  b_range := PySem.W.mg_none_of KX G b_range
  b_repr := PySem.W.mg_none_of KX G b_repr
  b_str := PySem.W.mg_none_of KX G b_str
  b_tuple := PySem.W.mg_none_of KX G b_tuple
  c_BadLife := Er.txt_mk KX G (Er.initOf (top 3)) (ps := [("value", _, _, _, _)]) aC1 xC1 sa1 ga1 gg1 eC1 hC1 kC1 tC1 sC1 iC1 tI1 lI1 cI1 ld1 lc1 opq noS (fun f hf => by
      simp only [List.mem_cons, List.not_mem_nil, or_false] at hf
      subst hf; exact f1_0) fv1 (by decide +kernel) (by decide) (.inl rfl) (by decide) rfl rfl (by decide +kernel) rfl rfl rfl (by decide +kernel) rfl rfl rfl (by decide +kernel) rfl (fun us hl => match us, hl with | [_, _], _ => rfl) (by decide +kernel)
  c_BadLink := Er.txt_mk KX G (Er.initOf (top 5)) (ps := [("word", _, _, _, _)]) aC3 xC3 sa3 ga3 gg3 eC3 hC3 kC3 tC3 sC3 iC3 tI3 lI3 cI3 ld3 lc3 opq noS (fun f hf => by
      simp only [List.mem_cons, List.not_mem_nil, or_false] at hf
      subst hf; exact f3_0) fv3 (by decide +kernel) (by decide) (.inl rfl) (by decide) rfl rfl (by decide +kernel) rfl rfl rfl (by decide +kernel) rfl rfl rfl (by decide +kernel) rfl (fun us hl => match us, hl with | [_, _], _ => rfl) (by decide +kernel)
  c_BadNumber := Er.txt_mk KX G (Er.initOf (top 2)) (ps := [("value", _, _, _, _)]) aC0 xC0 sa0 ga0 gg0 eC0 hC0 kC0 tC0 sC0 iC0 tI0 lI0 cI0 ld0 lc0 opq noS (fun f hf => by
      simp only [List.mem_cons, List.not_mem_nil, or_false] at hf
      subst hf; exact f0_0) fv0 (by decide +kernel) (by decide) (.inl rfl) (by decide) rfl rfl (by decide +kernel) rfl rfl rfl (by decide +kernel) rfl rfl rfl (by decide +kernel) rfl (fun us hl => match us, hl with | [_, _], _ => rfl) (by decide +kernel)
  c_BadSide := Er.txt_mk KX G (Er.initOf (top 4)) (ps := [("value", _, _, _, _)]) aC2 xC2 sa2 ga2 gg2 eC2 hC2 kC2 tC2 sC2 iC2 tI2 lI2 cI2 ld2 lc2 opq noS (fun f hf => by
      simp only [List.mem_cons, List.not_mem_nil, or_false] at hf
      subst hf; exact f2_0) fv2 (by decide +kernel) (by decide) (.inl rfl) (by decide) rfl rfl (by decide +kernel) rfl rfl rfl (by decide +kernel) rfl rfl rfl (by decide +kernel) rfl (fun us hl => match us, hl with | [_, _], _ => rfl) (by decide +kernel)
  c_TooGreat := Er.txt_mk KX G (Er.initOf (top 6)) (ps := [("most", _, _, _, _)]) aC4 xC4 sa4 ga4 gg4 eC4 hC4 kC4 tC4 sC4 iC4 tI4 lI4 cI4 ld4 lc4 opq noS (fun f hf => by
      simp only [List.mem_cons, List.not_mem_nil, or_false] at hf
      subst hf; exact f4_0) fv4 (by decide +kernel) (by decide) (.inl rfl) (by decide) rfl rfl (by decide +kernel) rfl rfl rfl (by decide +kernel) rfl rfl rfl (by decide +kernel) rfl (fun us hl => match us, hl with | [_, _], _ => rfl) (by decide +kernel)
  g_MOST_LIFE := g_MOST_LIFE
  g_PHASES := ⟨_, PySem.W.mg_of KX G aG_PHASES, fun H m => .tup (vs := [.str "new", .str "sure", .str "gone"]) (.inr ⟨_, _, _, lG_PHASES_0, rfl, rfl, by subst vG_PHASES_0; show 3 ≤ sizeLine; decide, by subst vG_PHASES_0; exact .cons (⟨_, rfl⟩) (.cons (⟨_, rfl⟩) (.cons (⟨_, rfl⟩) (.nil)))⟩) (.cons (.str _) (.cons (.str _) (.cons (.str _) (.nil))))⟩
  m__law_begun := PySem.W.mg_of KX G aF18
  m__law_draw := PySem.W.mg_of KX G aF17
  m__law_folded := PySem.W.mg_of KX G aF16
  m__law_four_begun := PySem.W.mg_of KX G aF22
  m__law_four_crash := PySem.W.mg_of KX G aF26
  m__law_four_deed := PySem.W.mg_of KX G aF27
  m__law_four_hear := PySem.W.mg_of KX G aF25
  m__law_four_heard := PySem.W.mg_of KX G aF21
  m__law_four_put := PySem.W.mg_of KX G aF23
  m__law_four_send := PySem.W.mg_of KX G aF24
  m__law_like := PySem.W.mg_of KX G aF19
  m__law_mixed := PySem.W.mg_of KX G aF15
  m__law_of := PySem.W.mg_of KX G aF20
  m__law_pairs_right := PySem.W.mg_of KX G aF28
  m_heard_by := PySem.W.mg_of KX G aF12
  m_is_kind := PySem.W.mg_of KX G aF4
  m_is_life := PySem.W.mg_of KX G aF5
  m_is_peer := PySem.W.mg_of KX G aF8
  m_is_tuple_of := PySem.W.mg_of KX G aF2
  m_is_whole := PySem.W.mg_of KX G aF0
  m_is_within := PySem.W.mg_of KX G aF1
  m_law := PySem.W.mg_of KX G aF29
  m_link_again := PySem.W.mg_of KX G aF14
  m_link_fault := PySem.W.mg_of KX G aF9
  m_link_heard := PySem.W.mg_of KX G aF13
  m_need_header := PySem.W.mg_of KX G aF11
  m_need_life := PySem.W.mg_of KX G aF6
  m_need_link := PySem.W.mg_of KX G aF10
  m_need_side := PySem.W.mg_of KX G aF3
  m_next_life := PySem.W.mg_of KX G aF7
end
end LawT
end PV

set_option Elab.async false
set_option linter.all false
namespace PV
namespace LawT
open PySem
theorem is_whole_int (i : Int) (M : Mem) : f_is_whole [.int i] M = .ok (.bl true) M := by
  unfold f_is_whole
  rw [fDef_eq (by rfl)]
  simp only [sRet, sRetN, sSeq, sIf, sSet, sPar, sExpr, sPass, sBreak, sCont, sRaise, sAsg, nxo, bNot, bE, bAnd, bOr, bTrue, x1, x2, xVar, xK, xCall, xTup, xIf, xAnd, xOr, xNot, xChain, aCons, aNil, kNil, kCons, oNone, oSome, bind_ok, bind_err, bind_stk, toS_ok, toS_err, toS_stk, List.map_cons, List.map_nil, List.replicate, List.cons_append, List.nil_append, List.getElem?_cons_zero, List.getElem?_cons_succ, List.set_cons_zero, List.set_cons_succ, if_true, if_false, Bool.not_true, Bool.not_false, fin_rt, fin_nx, fin_er, gc_same, Bool.false_eq_true, decide_true, decide_false, tName, tTup, tsCons, tsNil, List.length_cons, List.length_nil, ite_true, ite_false, reduceIte, reduceCtorEq, Nat.zero_add, Nat.reduceAdd, Nat.reduceEqDiff, Nat.reduceLeDiff, szle, dite_true, oIsi, isTy]
theorem is_within_int (i a b : Int) (M : Mem) : f_is_within [.int i, .int a, .int b] M = .ok (.bl (decide (a ≤ i ∧ i ≤ b))) M := by
  unfold f_is_within
  rw [fDef_eq (by rfl)]
  by_cases h : a ≤ i
  · simp only [sRet, sRetN, sSeq, sIf, sSet, sPar, sExpr, sPass, sBreak, sCont, sRaise, sAsg, nxo, bNot, bE, bAnd, bOr, bTrue, x1, x2, xVar, xK, xCall, xTup, xIf, xAnd, xOr, xNot, xChain, aCons, aNil, kNil, kCons, oNone, oSome, bind_ok, bind_err, bind_stk, toS_ok, toS_err, toS_stk, List.map_cons, List.map_nil, List.replicate, List.cons_append, List.nil_append, List.getElem?_cons_zero, List.getElem?_cons_succ, List.set_cons_zero, List.set_cons_succ, if_true, if_false, Bool.not_true, Bool.not_false, fin_rt, fin_nx, fin_er, gc_same, Bool.false_eq_true, decide_true, decide_false, tName, tTup, tsCons, tsNil, List.length_cons, List.length_nil, ite_true, ite_false, reduceIte, reduceCtorEq, Nat.zero_add, Nat.reduceAdd, Nat.reduceEqDiff, Nat.reduceLeDiff, szle, dite_true, oIsi, isTy, oLe, is_whole_int, h, true_and]
  · simp only [sRet, sRetN, sSeq, sIf, sSet, sPar, sExpr, sPass, sBreak, sCont, sRaise, sAsg, nxo, bNot, bE, bAnd, bOr, bTrue, x1, x2, xVar, xK, xCall, xTup, xIf, xAnd, xOr, xNot, xChain, aCons, aNil, kNil, kCons, oNone, oSome, bind_ok, bind_err, bind_stk, toS_ok, toS_err, toS_stk, List.map_cons, List.map_nil, List.replicate, List.cons_append, List.nil_append, List.getElem?_cons_zero, List.getElem?_cons_succ, List.set_cons_zero, List.set_cons_succ, if_true, if_false, Bool.not_true, Bool.not_false, fin_rt, fin_nx, fin_er, gc_same, Bool.false_eq_true, decide_true, decide_false, tName, tTup, tsCons, tsNil, List.length_cons, List.length_nil, ite_true, ite_false, reduceIte, reduceCtorEq, Nat.zero_add, Nat.reduceAdd, Nat.reduceEqDiff, Nat.reduceLeDiff, szle, dite_true, oIsi, isTy, oLe, is_whole_int, h, false_and]
end LawT
end PV

set_option Elab.async false
set_option linter.all false
set_option maxRecDepth 10000
set_option pp.maxSteps 700
namespace PV
namespace LawT
open PySem
theorem repr_ok {x : D} {p : PyData} {M : Mem} {n : Nat} (h : toPy M DEPTH x = some p) (f : Fit p n) (hn : n ≤ 64) : fRepr [x] M = .ok (.str p.shown) M := by
  unfold fRepr
  simp only [h]
  rw [if_pos (f.can hn)]
theorem like_true {x y : D} {p : PyData} {M : Mem} {n : Nat} (h : toPy M DEPTH x = some p) (h2 : toPy M DEPTH y = some p) (f : Fit p n) (hn : n ≤ 64) : f__law_like [x, y] M = .ok (.bl true) M := by
  unfold f__law_like
  rw [fDef_eq (by rfl)]
  have e : oEq (.str p.shown) (.str p.shown) M = .ok (.bl true) M := by
    show Out.ok (D.bl (decide (p.shown = p.shown))) M = _
    rw [decide_eq_true rfl]
  simp only [sRet, sRetN, sSeq, sIf, sSet, sPar, sExpr, sPass, sBreak, sCont, sRaise, sAsg, nxo, bNot, bE, bAnd, bOr, bTrue, x1, x2, xVar, xK, xCall, xTup, xIf, xAnd, xOr, xNot, xChain, aCons, aNil, kNil, kCons, oNone, oSome, bind_ok, bind_err, bind_stk, toS_ok, toS_err, toS_stk, List.map_cons, List.map_nil, List.replicate, List.cons_append, List.nil_append, List.getElem?_cons_zero, List.getElem?_cons_succ, List.set_cons_zero, List.set_cons_succ, if_true, if_false, Bool.not_true, Bool.not_false, fin_rt, fin_nx, fin_er, gc_same, Bool.false_eq_true, decide_true, decide_false, tName, tTup, tsCons, tsNil, List.length_cons, List.length_nil, ite_true, ite_false, reduceIte, reduceCtorEq, Nat.zero_add, Nat.reduceAdd, Nat.reduceEqDiff, Nat.reduceLeDiff, szle, dite_true, repr_ok h f hn, repr_ok h2 f hn, e]

theorem mixed_is (c n : Int) (M : Mem) (h1 : c.natAbs < 2 ^ 400) (h2 : n.natAbs < 2 ^ 300) : ∃ v : Int, 0 ≤ v ∧ v < 2147483647 ∧ f__law_mixed [.int c, .int n] M = .ok (.int v) M := by
  unfold f__law_mixed
  rw [fDef_eq (by rfl)]
  have a1 : oMul (.int 2) (.int n) M = .ok (.int (2 * n)) M := mul_l (by omega) (by omega)
  have b1 : (1 + 2 * n).natAbs < 2 ^ 1000 := by
    have e : (1 + 2 * n).natAbs ≤ 1 + 2 * n.natAbs := by omega
    have : (1 : Nat) + 2 * 2 ^ 300 < 2 ^ 1000 := by decide
    omega
  have a2 : oMul (.int c) (.int (1 + 2 * n)) M = .ok (.int (c * (1 + 2 * n))) M := mul_big (Nat.lt_trans h1 (by decide)) b1
  have a3 : oMul (.int (c * (1 + 2 * n))) (.int 48271) M = .ok (.int (c * (1 + 2 * n) * 48271)) M := mul_r (by omega) (by omega)
  have a4 : oMul (.int 7919) (.int n) M = .ok (.int (7919 * n)) M := mul_l (by omega) (by omega)
  have b2 : (7919 * n).natAbs < 2 ^ 1000 := by
    have e : (7919 * n).natAbs = 7919 * n.natAbs := by omega
    have : (7919 : Nat) * 2 ^ 300 < 2 ^ 1000 := by decide
    omega
  have a5 : oMul (.int (7919 * n)) (.int n) M = .ok (.int (7919 * n * n)) M := mul_big b2 (Nat.lt_trans h2 (by decide))
  have a6 : oMul (.int 104729) (.int n) M = .ok (.int (104729 * n)) M := mul_l (by omega) (by omega)
  generalize hb : (c * (1 + 2 * n) * 48271) % 2147483647 + 7919 * n * n + 104729 * n = b
  have a7 : oMul (.int b) (.int 69621) M = .ok (.int (b * 69621)) M := mul_r (by omega) (by omega)
  have m1 : oMod (.int (c * (1 + 2 * n) * 48271)) (.int 2147483647) M = .ok (.int ((c * (1 + 2 * n) * 48271) % 2147483647)) M := mod_ok (by omega)
  have m2 : oMod (.int (b * 69621)) (.int 2147483629) M = .ok (.int ((b * 69621) % 2147483629)) M := mod_ok (by omega)
  have m3 : oDiv (.int ((b * 69621) % 2147483629)) (.int 7) M = .ok (.int ((b * 69621) % 2147483629 / 7)) M := div_ok (by omega)
  refine ⟨(b * 69621) % 2147483629 / 7, ?_, ?_, ?_⟩
  · omega
  · omega
  · simp only [sRet, sRetN, sSeq, sIf, sSet, sPar, sExpr, sPass, sBreak, sCont, sRaise, sAsg, nxo, bNot, bE, bAnd, bOr, bTrue, x1, x2, xVar, xK, xCall, xTup, xIf, xAnd, xOr, xNot, xChain, aCons, aNil, kNil, kCons, oNone, oSome, bind_ok, bind_err, bind_stk, toS_ok, toS_err, toS_stk, List.map_cons, List.map_nil, List.replicate, List.cons_append, List.nil_append, List.getElem?_cons_zero, List.getElem?_cons_succ, List.set_cons_zero, List.set_cons_succ, if_true, if_false, Bool.not_true, Bool.not_false, fin_rt, fin_nx, fin_er, gc_same, Bool.false_eq_true, decide_true, decide_false, tName, tTup, tsCons, tsNil, List.length_cons, List.length_nil, ite_true, ite_false, reduceIte, reduceCtorEq, Nat.zero_add, Nat.reduceAdd, Nat.reduceEqDiff, Nat.reduceLeDiff, szle, dite_true, add_ok, a1, a2, a3, a4, a5, a6, int_ok, m1, hb, a7, m2, m3]
def Dk (a b : Nat) (n : Int) : List (Sum Int Str × D) := [(.inr "cells", .loc a), (.inr "great", .loc b), (.inr "spot", .int n)]
theorem k1 : decide ((Sum.inr "cells" : Sum Int Str) = .inr "spot") = false := by decide +kernel
theorem k2 : decide ((Sum.inr "great" : Sum Int Str) = .inr "spot") = false := by decide +kernel
theorem k3 : decide ((Sum.inr "cells" : Sum Int Str) = .inr "great") = false := by decide +kernel
theorem k4 : decide ((Sum.inr "spot" : Sum Int Str) = .inr "great") = false := by decide +kernel
theorem kv_spot (a b : Nat) (n : Int) : kvAt (Dk a b n) (.inr "spot") = some (.int n) := by
  unfold kvAt Dk
  simp only [List.find?_cons, k1, k2, decide_true, Option.map_some]
theorem kv_great (a b : Nat) (n : Int) : kvAt (Dk a b n) (.inr "great") = some (.loc b) := by
  unfold kvAt Dk
  simp only [List.find?_cons, k3, decide_true, Option.map_some]
theorem kv_cells (a b : Nat) (n : Int) : kvAt (Dk a b n) (.inr "cells") = some (.loc a) := by
  unfold kvAt Dk
  simp only [List.find?_cons, decide_true, Option.map_some]
theorem put_spot (a b : Nat) (n m : Int) : kvPut (Dk a b n) (.inr "spot") (.int m) = Dk a b m := by
  have e1 : ((Sum.inr "cells" : Sum Int Str) = .inr "spot") = False := eq_false (of_decide_eq_false k1)
  have e2 : ((Sum.inr "great" : Sum Int Str) = .inr "spot") = False := eq_false (of_decide_eq_false k2)
  unfold kvPut Dk
  simp only [List.any_cons, k1, k2, decide_true, Bool.true_or, Bool.or_true, if_true, List.map_cons, List.map_nil, e1, e2, if_false]
def Gs (cs gs : List Int) (n : Nat) (R : Mem) : Mem := .lst (cs.map .int) :: .lst [] :: .dct (Dk 0 3 n) :: .lst (gs.map .int) :: R
theorem ixd_ok {M : Mem} {n : Nat} {kvs : List (Sum Int Str × D)} {s : Str} {d : D} (h : M[n]? = some (.dct kvs)) (h2 : kvAt kvs (.inr s) = some d) : oIxD (.loc n) (.str s) M = .ok d M := by
  unfold oIxD
  simp only [h, keyOf, h2]
theorem py_ints (M : Mem) (k : Nat) : ∀ xs : List Int, (xs.map D.int).mapM (toPy M (k + 1)) = some (xs.map PyData.int)
  | [] => rfl
  | x :: r => by
    rw [List.map_cons, List.mapM_cons, py_ints M k r]
    simp [toPy]
theorem lay_ints : ∀ xs : List Int, PyData.canLayAll0 (xs.map PyData.int) = true
  | [] => by simp [PyData.canLayAll0]
  | x :: r => by simp [PyData.canLayAll0, PyData.canLay0, lay_ints r]
theorem dep_ints : ∀ xs : List Int, PyData.depthAll (xs.map PyData.int) = 0
  | [] => by simp [PyData.depthAll]
  | x :: r => by simp [PyData.depthAll, PyData.depth, dep_ints r]
theorem ne_empty {M : Mem} {a b : Nat} {gs : List Int} (h : M[a]? = some (.lst (gs.map .int))) (h2 : M[b]? = some (.lst [])) : oNe (.loc a) (.loc b) M = .ok (.bl (!gs.isEmpty)) M := by
  have e1 : toPy M DEPTH (.loc a) = some (.list (gs.map PyData.int)) := by
    show toPy M (22 + 1 + 1) (.loc a) = _
    rw [toPy]
    simp only [h, py_ints M 22 gs, Option.map_some]
  have e2 : toPy M DEPTH (.loc b) = some (.list []) := by
    show toPy M (22 + 1 + 1) (.loc b) = _
    rw [toPy]
    simp only [h2]
    rfl
  unfold oNe
  simp only [e1, e2]
  rw [if_pos]
  · cases gs <;> simp [PyData.eqv, PyData.eqvAll]
  · constructor
    · simp [SeqAt.shaped, PyData.canLay0, lay_ints, PyData.depth, dep_ints]
    · simp [SeqAt.shaped, PyData.canLay0, PyData.canLayAll0, PyData.depth, PyData.depthAll]
theorem ix_int {xs : List D} {n : Nat} {i : Int} {d : D} {M : Mem} (hn : M[n]? = some (.lst xs)) (h0 : 0 ≤ i) (h : xs[i.toNat]? = some d) : oIx (.loc n) (.int i) M = .ok d M := by
  have := ix_lst (M := M) hn h
  rwa [Int.toNat_of_nonneg h0] at this
theorem set_ok {xs : List D} {n : Nat} {i : Int} {d : D} {M : Mem} (hn : M[n]? = some (.lst xs)) (h0 : 0 ≤ i) (hl : i < xs.length) : setIx (.loc n) (.int i) d M = some (M.set n (.lst (xs.set i.toNat d))) := by
  unfold setIx
  simp only [hn]
  have e : ixAt xs.length i = some i.toNat := by
    unfold ixAt
    rw [if_pos h0, if_pos hl]
  rw [e]
theorem cells_part (cs : List Int) (n m : Nat) (L : Int) (M : Mem) (t3 t4 t5 : Option D) (h0 : 0 < L) (hc : cs.length = 64) (hb : ∀ c ∈ cs, c.natAbs < 2 ^ 64) (hn : n < 2 ^ 200) (g2 : M[2]? = some (.dct (Dk 0 3 m))) (g0 : M[0]? = some (.lst (cs.map .int))) :
    ∃ v : Int, 0 ≤ v ∧ v < L ∧ sSeq (sSet 3 (x2 oIxD (xVar 0) (xK (.str "cells")))) (sRet (x2 oMod (xCall fInt (aCons (xCall f__law_mixed (aCons (xCall f__law_mixed (aCons (x2 oAdd (x2 oIx (xVar 3) (x2 oMod (xCall fInt (aCons (xVar 2) (aNil))) (xK (.int 64)))) (x2 oMul (xK (.int 31)) (x2 oDiv (xVar 2) (xK (.int 64))))) (aCons (xVar 2) (aNil)))) (aCons (x2 oAdd (xVar 2) (xK (.int 7))) (aNil)))) (aNil))) (xVar 1)))
      [some (.loc 2), some (.int L), some (.int (n : Int)), t3, t4, t5] M = .rt (.int v) M := by
  have d1 : oIxD (.loc 2) (.str "cells") M = .ok (.loc 0) M := ixd_ok g2 (kv_cells _ _ _)
  have hlt : n % 64 < cs.length := by omega
  have m1 : oMod (.int (n : Int)) (.int 64) M = .ok (.int ((n % 64 : Nat) : Int)) M := by
    rw [mod_ok (by omega)]
    simp
  have m2 : oDiv (.int (n : Int)) (.int 64) M = .ok (.int ((n / 64 : Nat) : Int)) M := by
    rw [div_ok (by omega)]
    simp
  have m3 : oMul (.int 31) (.int ((n / 64 : Nat) : Int)) M = .ok (.int (31 * ((n / 64 : Nat) : Int))) M := mul_l (by omega) (by omega)
  have ix : oIx (.loc 0) (.int ((n % 64 : Nat) : Int)) M = .ok (.int cs[n % 64]) M := ix_lst g0 (by rw [List.getElem?_map, List.getElem?_eq_getElem hlt]; rfl)
  have hcell := hb cs[n % 64] (List.getElem_mem hlt)
  obtain ⟨v1, p1, p2, e1⟩ := mixed_is (cs[n % 64] + 31 * ((n / 64 : Nat) : Int)) (n : Int) M (by
    have : (2 : Nat) ^ 64 + 31 * 2 ^ 200 < 2 ^ 400 := by decide +kernel
    omega) (by
    have : (2 : Nat) ^ 200 < 2 ^ 300 := by decide +kernel
    omega)
  have n7 : (n : Int) + 7 = ((n + 7 : Nat) : Int) := by omega
  obtain ⟨v2, p3, p4, e2⟩ := mixed_is v1 ((n + 7 : Nat) : Int) M (by
    have : (2147483647 : Nat) < 2 ^ 400 := by decide +kernel
    omega) (by
    have : (2 : Nat) ^ 200 + 7 < 2 ^ 300 := by decide +kernel
    omega)
  refine ⟨v2 % L, Int.emod_nonneg _ (by omega), Int.emod_lt_of_pos _ h0, ?_⟩
  have m4 : oMod (.int v2) (.int L) M = .ok (.int (v2 % L)) M := mod_ok h0
  simp only [sRet, sRetN, sSeq, sIf, sSet, sPar, sExpr, sPass, sBreak, sCont, sRaise, sAsg, nxo, bNot, bE, bAnd, bOr, bTrue, x1, x2, xVar, xK, xCall, xTup, xIf, xAnd, xOr, xNot, xChain, aCons, aNil, kNil, kCons, oNone, oSome, bind_ok, bind_err, bind_stk, toS_ok, toS_err, toS_stk, List.map_cons, List.map_nil, List.replicate, List.cons_append, List.nil_append, List.getElem?_cons_zero, List.getElem?_cons_succ, List.set_cons_zero, List.set_cons_succ, if_true, if_false, Bool.not_true, Bool.not_false, fin_rt, fin_nx, fin_er, gc_same, Bool.false_eq_true, decide_true, decide_false, tName, tTup, tsCons, tsNil, List.length_cons, List.length_nil, ite_true, ite_false, reduceIte, reduceCtorEq, Nat.zero_add, Nat.reduceAdd, Nat.reduceEqDiff, Nat.reduceLeDiff, szle, dite_true, d1, int_ok, m1, m2, m3, ix, add_ok, e1, n7, e2, m4]
theorem draw_is (cs gs : List Int) (n : Nat) (R : Mem) (L : Int) (h0 : 0 < L) (h1 : L.natAbs.log2 < 9000) (hc : cs.length = 64) (hb : ∀ c ∈ cs, c.natAbs < 2 ^ 64) (hn : n < 2 ^ 200) :
    ∃ (v : Int) (gs' : List Int), 0 ≤ v ∧ v < L ∧ f__law_draw [.loc 2, .int L] (Gs cs gs n R) = .ok (.int v) (Gs cs gs' (n + 1) R) := by
  have d1 : oIxD (.loc 2) (.str "spot") (Gs cs gs n R) = .ok (.int (n : Int)) (Gs cs gs n R) := ixd_ok (kvs := Dk 0 3 n) rfl (kv_spot _ _ _)
  have hn1 : ((n : Int) + 1) = ((n + 1 : Nat) : Int) := by omega
  have s2 : sAsg (tSub setKv (xVar 0) (xK (.str "spot"))) (x2 oAdd (xVar 2) (xK (.int 1))) [some (.loc 2), some (.int L), some (.int (n : Int)), none, none, none] (Gs cs gs n R) = .nx [some (.loc 2), some (.int L), some (.int (n : Int)), none, none, none] (Gs cs gs (n + 1) R) := by
    have sk : setKv (.loc 2) (.str "spot") (.int ((n : Int) + 1)) (Gs cs gs n R) = some (Gs cs gs (n + 1) R) := by
      unfold setKv
      have g : (Gs cs gs n R)[2]? = some (.dct (Dk 0 3 n)) := rfl
      simp only [keyOf, g]
      rw [if_pos (by show 3 < SZ; decide), put_spot, hn1]
      rfl
    simp only [sRet, sRetN, sSeq, sIf, sSet, sPar, sExpr, sPass, sBreak, sCont, sRaise, sAsg, nxo, bNot, bE, bAnd, bOr, bTrue, x1, x2, xVar, xK, xCall, xTup, xIf, xAnd, xOr, xNot, xChain, aCons, aNil, kNil, kCons, oNone, oSome, bind_ok, bind_err, bind_stk, toS_ok, toS_err, toS_stk, List.map_cons, List.map_nil, List.replicate, List.cons_append, List.nil_append, List.getElem?_cons_zero, List.getElem?_cons_succ, List.set_cons_zero, List.set_cons_succ, if_true, if_false, Bool.not_true, Bool.not_false, fin_rt, fin_nx, fin_er, gc_same, Bool.false_eq_true, decide_true, decide_false, tName, tTup, tsCons, tsNil, List.length_cons, List.length_nil, ite_true, ite_false, reduceIte, reduceCtorEq, Nat.zero_add, Nat.reduceAdd, Nat.reduceEqDiff, Nat.reduceLeDiff, szle, dite_true, tSub, add_ok, sk]
  have len1 : (Gs cs gs (n + 1) R).length = (Gs cs gs n R).length := rfl
  -- what is left behind
  have keep : ∀ (gs' : List Int) (ds : List D), belowAll (Gs cs gs n R).length ds = true → gc (Gs cs gs n R) ds (Gs cs gs' (n + 1) R ++ [.lst []]) = Gs cs gs' (n + 1) R := by
    intro gs' ds hd
    refine gc_drop _ _ _ _ rfl hd fun i o e => ?_
    match i with
    | 0 => exact .inl e
    | 1 => exact .inl e
    | 2 =>
      right
      have e' : o = .dct (Dk 0 3 ((n + 1 : Nat) : Int)) := (Option.some.inj e).symm
      subst e'
      simp [belowO, Dk, Gs]
    | 3 =>
      right
      have e' : o = .lst (gs'.map .int) := (Option.some.inj e).symm
      subst e'
      simp only [belowO]
      exact belowAll_ints _ _
    | i + 4 => exact .inl e
  unfold f__law_draw
  rw [fDef_eq (by rfl), show (List.map some [D.loc 2, D.int L] ++ List.replicate 4 none : Ev) = [some (.loc 2), some (.int L), none, none, none, none] from rfl,
    seq_nx (show sSet 2 (x2 oIxD (xVar 0) (xK (.str "spot"))) [some (.loc 2), some (.int L), none, none, none, none] (Gs cs gs n R) = .nx [some (.loc 2), some (.int L), some (.int (n : Int)), none, none, none] (Gs cs gs n R) by simp only [sRet, sRetN, sSeq, sIf, sSet, sPar, sExpr, sPass, sBreak, sCont, sRaise, sAsg, nxo, bNot, bE, bAnd, bOr, bTrue, x1, x2, xVar, xK, xCall, xTup, xIf, xAnd, xOr, xNot, xChain, aCons, aNil, kNil, kCons, oNone, oSome, bind_ok, bind_err, bind_stk, toS_ok, toS_err, toS_stk, List.map_cons, List.map_nil, List.replicate, List.cons_append, List.nil_append, List.getElem?_cons_zero, List.getElem?_cons_succ, List.set_cons_zero, List.set_cons_succ, if_true, if_false, Bool.not_true, Bool.not_false, fin_rt, fin_nx, fin_er, gc_same, Bool.false_eq_true, decide_true, decide_false, tName, tTup, tsCons, tsNil, List.length_cons, List.length_nil, ite_true, ite_false, reduceIte, reduceCtorEq, Nat.zero_add, Nat.reduceAdd, Nat.reduceEqDiff, Nat.reduceLeDiff, szle, dite_true, d1]), seq_nx s2]
  generalize hM : Gs cs gs (n + 1) R = M1 at s2 ⊢
  have g2 : M1[2]? = some (.dct (Dk 0 3 ((n + 1 : Nat) : Int))) := by rw [← hM]; rfl
  have g3 : M1[3]? = some (.lst (gs.map .int)) := by rw [← hM]; rfl
  have g0 : M1[0]? = some (.lst (cs.map .int)) := by rw [← hM]; rfl
  have up : ∀ (i : Nat) (o : MO), M1[i]? = some o → (M1 ++ [MO.lst []])[i]? = some o := fun i o e => by rw [List.getElem?_append_left (List.getElem?_eq_some_iff.mp e).1]; exact e
  have dg : oIxD (.loc 2) (.str "great") M1 = .ok (.loc 3) M1 := ixd_ok g2 (kv_great _ _ _)
  have dg2 : oIxD (.loc 2) (.str "great") (M1 ++ [MO.lst []]) = .ok (.loc 3) (M1 ++ [MO.lst []]) := ixd_ok (up _ _ g2) (kv_great _ _ _)
  have ne := ne_empty (up _ _ g3) (get_last M1 (MO.lst []))
  have zl : ([] : List D).length ≤ 16777216 := by decide
  obtain ⟨v, v0, v1, ev⟩ := cells_part cs n (n + 1) L (M1 ++ [.lst []]) none none none h0 hc hb hn (up _ _ g2) (up _ _ g0)
  by_cases hg : gs = []
  · refine ⟨v, gs, v0, v1, ?_⟩
    rw [hg] at ne
    rw [seq_nx (r1 := [some (.loc 2), some (.int L), some (.int (n : Int)), none, none, none]) (M1 := M1 ++ [.lst []]) (by simp only [sRet, sRetN, sSeq, sIf, sSet, sPar, sExpr, sPass, sBreak, sCont, sRaise, sAsg, nxo, bNot, bE, bAnd, bOr, bTrue, x1, x2, xVar, xK, xCall, xTup, xIf, xAnd, xOr, xNot, xChain, aCons, aNil, kNil, kCons, oNone, oSome, bind_ok, bind_err, bind_stk, toS_ok, toS_err, toS_stk, List.map_cons, List.map_nil, List.replicate, List.cons_append, List.nil_append, List.getElem?_cons_zero, List.getElem?_cons_succ, List.set_cons_zero, List.set_cons_succ, if_true, if_false, Bool.not_true, Bool.not_false, fin_rt, fin_nx, fin_er, gc_same, Bool.false_eq_true, decide_true, decide_false, tName, tTup, tsCons, tsNil, List.length_cons, List.length_nil, ite_true, ite_false, reduceIte, reduceCtorEq, Nat.zero_add, Nat.reduceAdd, Nat.reduceEqDiff, Nat.reduceLeDiff, szle, dite_true, dg, xLst, zl, ne, List.isEmpty_nil]), ev, fin_rt, ← hM, keep gs _ (by simp)]
  · have hpos : 0 < gs.length := List.length_pos_iff.mpr hg
    have hh : n % gs.length < gs.length := Nat.mod_lt _ hpos
    have ge : (!gs.isEmpty) = true := by simp [hg]
    rw [ge] at ne
    have lenG : fLen [.loc 3] (M1 ++ [MO.lst []]) = .ok (.int (gs.length : Int)) (M1 ++ [MO.lst []]) := by
      rw [len_lst (up _ _ g3), List.length_map]
    have m1 : oMod (.int (n : Int)) (.int (gs.length : Int)) (M1 ++ [MO.lst []]) = .ok (.int ((n % gs.length : Nat) : Int)) (M1 ++ [MO.lst []]) := by
      rw [mod_ok (by omega)]
      simp
    have ix : oIx (.loc 3) (.int ((n % gs.length : Nat) : Int)) (M1 ++ [MO.lst []]) = .ok (.int gs[n % gs.length]) (M1 ++ [MO.lst []]) := ix_lst (up _ _ g3) (by rw [List.getElem?_map, List.getElem?_eq_getElem hh]; rfl)
    generalize hcell : gs[n % gs.length] = cell at ix
    have gz : oGt (.int cell) (.int 0) (M1 ++ [MO.lst []]) = .ok (.bl (decide (0 < cell))) (M1 ++ [MO.lst []]) := gt_ok
    by_cases hp : 0 < cell
    · refine ⟨cell % L, gs.set (n % gs.length) (cell / L), Int.emod_nonneg _ (by omega), Int.emod_lt_of_pos _ h0, ?_⟩
      have dv : oDiv (.int cell) (.int L) (M1 ++ [MO.lst []]) = .ok (.int (cell / L)) (M1 ++ [MO.lst []]) := div_ok h0 h1
      have st : setIx (.loc 3) (.int ((n % gs.length : Nat) : Int)) (.int (cell / L)) (M1 ++ [MO.lst []]) = some (Gs cs (gs.set (n % gs.length) (cell / L)) (n + 1) R ++ [.lst []]) := by
        rw [set_ok (up _ _ g3) (by omega) (by rw [List.length_map]; omega), ← hM]
        simp only [Int.toNat_natCast, ← List.map_set]
        rfl
      have mL : ∀ M, oMod (.int cell) (.int L) M = .ok (.int (cell % L)) M := fun M => mod_ok h0
      rw [seq_rt (d := .int (cell % L)) (M1 := Gs cs (gs.set (n % gs.length) (cell / L)) (n + 1) R ++ [.lst []])
        (by simp only [sRet, sRetN, sSeq, sIf, sSet, sPar, sExpr, sPass, sBreak, sCont, sRaise, sAsg, nxo, bNot, bE, bAnd, bOr, bTrue, x1, x2, xVar, xK, xCall, xTup, xIf, xAnd, xOr, xNot, xChain, aCons, aNil, kNil, kCons, oNone, oSome, bind_ok, bind_err, bind_stk, toS_ok, toS_err, toS_stk, List.map_cons, List.map_nil, List.replicate, List.cons_append, List.nil_append, List.getElem?_cons_zero, List.getElem?_cons_succ, List.set_cons_zero, List.set_cons_succ, if_true, if_false, Bool.not_true, Bool.not_false, fin_rt, fin_nx, fin_er, gc_same, Bool.false_eq_true, decide_true, decide_false, tName, tTup, tsCons, tsNil, List.length_cons, List.length_nil, ite_true, ite_false, reduceIte, reduceCtorEq, Nat.zero_add, Nat.reduceAdd, Nat.reduceEqDiff, Nat.reduceLeDiff, szle, dite_true, dg, dg2, xLst, zl, ne, lenG, int_ok, m1, ix, gz, decide_eq_true hp, tSub, dv, st, mL]), fin_rt, keep _ _ (by simp)]
    · obtain ⟨v, v0, v1, ev⟩ := cells_part cs n (n + 1) L (M1 ++ [.lst []]) (some (.loc 3)) (some (.int ((n % gs.length : Nat) : Int))) (some (.int cell)) h0 hc hb hn (up _ _ g2) (up _ _ g0)
      refine ⟨v, gs, v0, v1, ?_⟩
      rw [seq_nx (r1 := [some (.loc 2), some (.int L), some (.int (n : Int)), some (.loc 3), some (.int ((n % gs.length : Nat) : Int)), some (.int cell)]) (M1 := M1 ++ [.lst []])
        (by simp only [sRet, sRetN, sSeq, sIf, sSet, sPar, sExpr, sPass, sBreak, sCont, sRaise, sAsg, nxo, bNot, bE, bAnd, bOr, bTrue, x1, x2, xVar, xK, xCall, xTup, xIf, xAnd, xOr, xNot, xChain, aCons, aNil, kNil, kCons, oNone, oSome, bind_ok, bind_err, bind_stk, toS_ok, toS_err, toS_stk, List.map_cons, List.map_nil, List.replicate, List.cons_append, List.nil_append, List.getElem?_cons_zero, List.getElem?_cons_succ, List.set_cons_zero, List.set_cons_succ, if_true, if_false, Bool.not_true, Bool.not_false, fin_rt, fin_nx, fin_er, gc_same, Bool.false_eq_true, decide_true, decide_false, tName, tTup, tsCons, tsNil, List.length_cons, List.length_nil, ite_true, ite_false, reduceIte, reduceCtorEq, Nat.zero_add, Nat.reduceAdd, Nat.reduceEqDiff, Nat.reduceLeDiff, szle, dite_true, dg, dg2, xLst, zl, ne, lenG, int_ok, m1, ix, gz, decide_eq_false hp]), ev, fin_rt, ← hM, keep gs _ (by simp)]
end LawT
end PV
namespace PV
theorem lc_pure {ys : List D} {t : Tg} {c : Xb} {f : Xp} {r : Ev} {M : Mem} (φ : D → D) : ∀ xs : List D, (∀ x ∈ xs, ∃ r1, t x r M = .nx r1 M ∧ c r1 M = .ok true M ∧ f r1 M = .ok (φ x) M) → lcL none ys t c f r xs M = .ok (xs.map φ) M
  | [], _ => by
    rw [lcL, if_pos (show stands M none ys from trivial)]
    rfl
  | x :: rest, h => by
    obtain ⟨r1, e1, e2, e3⟩ := h x (by simp)
    rw [lcL, if_pos (show stands M none ys from trivial)]
    simp only [e1, e2, if_true, e3, lc_pure φ rest fun y hy => h y (by simp [hy])]
    rfl
theorem lc_ok {it : Xi} {t : Tg} {c : Xb} {f : Xp} {own : List Nat} {r : Ev} {M M1 M2 : Mem} {n : Option Nat} {xs ys ds : List D} (h : it r M = .ok (xs, n, ys) M1) (h2 : lcL n ys t c f (wipeE r own) xs M1 = .ok ds M2) (h3 : ds.length ≤ 16777216) :
    xLc it t c f own r M = .ok (.loc M2.length) (M2 ++ [.lst ds]) := by
  unfold xLc
  rw [h, bind_ok]
  simp only [h2]
  exact if_pos h3
theorem upFrom_len' : ∀ (n : Nat) (lo : Int), (upFrom lo n).length = n
  | 0, _ => rfl
  | n + 1, lo => by rw [upFrom, List.length_cons, upFrom_len' n]
theorem upFrom_mem : ∀ (n : Nat) (lo : Int) (x : D), x ∈ upFrom lo n → ∃ i : Int, x = .int i ∧ lo ≤ i ∧ i < lo + n
  | n + 1, lo, x, h => by
    rw [upFrom] at h
    rcases List.mem_cons.mp h with e | h
    · exact ⟨lo, e, by omega, by omega⟩
    · obtain ⟨i, e, a, b⟩ := upFrom_mem n (lo + 1) x h
      exact ⟨i, e, by omega, by omega⟩
namespace LawT
open PySem
def Cells (cs : List Int) : Prop := cs.length = 64 ∧ ∀ c ∈ cs, 0 ≤ c ∧ c < 2 ^ 40
theorem Cells.set {cs : List Int} (h : Cells cs) (i : Nat) {c : Int} (h0 : 0 ≤ c) (h1 : c < 2 ^ 40) : Cells (cs.set i c) := by
  refine ⟨by rw [List.length_set]; exact h.1, fun x hx => ?_⟩
  rcases List.mem_or_eq_of_mem_set hx with q | q
  · exact h.2 x q
  · subst q
    exact ⟨h0, h1⟩
noncomputable abbrev fold1 : Xs := (sAsg (tSub setIx (xVar 1) (x2 oMod (xCall fInt (aCons (xVar 2) (aNil))) (xK (.int 64)))) (x2 oMod (xCall fInt (aCons (x2 oAdd (x2 oMul (x2 oIx (xVar 1) (x2 oMod (xCall fInt (aCons (xVar 2) (aNil))) (xK (.int 64)))) (xK (.int 48271))) (xVar 3)) (aNil))) (xK (.int 2147483647))))
theorem fold1_loop (s0 : D) : ∀ (xs : List Int) (k : Nat) (cs : List Int) (t u : Option D), Cells cs → ∃ cs' t' u', Cells cs' ∧
    forL none [] (tTup 2 (tsCons (tName 2) (tsCons (tName 3) (tsNil)))) fold1 (pairUp k (xs.map .int)) [some s0, some (.loc 0), t, u] [.lst (cs.map .int)] = .nx [some s0, some (.loc 0), t', u'] [.lst (cs'.map .int)] := by
  intro xs
  induction xs with
  | nil =>
    intro k cs t u h
    refine ⟨cs, t, u, h, ?_⟩
    rw [List.map_nil, pairUp, for_nil]
  | cons x r ih =>
    intro k cs t u h
    have hlt : k % 64 < cs.length := by
      rw [h.1]
      omega
    have m1 : oMod (.int (k : Int)) (.int 64) [.lst (cs.map .int)] = .ok (.int ((k % 64 : Nat) : Int)) [.lst (cs.map .int)] := by
      rw [mod_ok (by omega)]
      simp
    have ix : oIx (.loc 0) (.int ((k % 64 : Nat) : Int)) [.lst (cs.map .int)] = .ok (.int cs[k % 64]) [.lst (cs.map .int)] := ix_lst rfl (by rw [List.getElem?_map, List.getElem?_eq_getElem hlt]; rfl)
    generalize hv : (cs[k % 64] * 48271 + x) % 2147483647 = v
    have hv0 : 0 ≤ v ∧ v < 2147483647 := by omega
    have m2 : oMul (.int cs[k % 64]) (.int 48271) [.lst (cs.map .int)] = .ok (.int (cs[k % 64] * 48271)) [.lst (cs.map .int)] := mul_r (by omega) (by omega)
    have m3 : oMod (.int (cs[k % 64] * 48271 + x)) (.int 2147483647) [.lst (cs.map .int)] = .ok (.int v) [.lst (cs.map .int)] := by
      rw [mod_ok (by omega), hv]
    have st : setIx (.loc 0) (.int ((k % 64 : Nat) : Int)) (.int v) [.lst (cs.map .int)] = some [.lst ((cs.set (k % 64) v).map .int)] := by
      rw [set_ok (xs := cs.map .int) rfl (by omega) (by rw [List.length_map]; omega)]
      simp only [Int.toNat_natCast, ← List.map_set]
      rfl
    obtain ⟨cs', t', u', hc, e⟩ := ih (k + 1) (cs.set (k % 64) v) (some (.int (k : Int))) (some (.int x)) (h.set _ hv0.1 (by omega))
    refine ⟨cs', t', u', hc, ?_⟩
    rw [List.map_cons, pairUp, for_cons (r1 := [some s0, some (.loc 0), some (.int (k : Int)), some (.int x)]) (M1 := [.lst (cs.map .int)]) rfl]
    simp only [sRet, sRetN, sSeq, sIf, sSet, sPar, sExpr, sPass, sBreak, sCont, sRaise, sAsg, nxo, bNot, bE, bAnd, bOr, bTrue, x1, x2, xVar, xK, xCall, xTup, xIf, xAnd, xOr, xNot, xChain, aCons, aNil, kNil, kCons, oNone, oSome, bind_ok, bind_err, bind_stk, toS_ok, toS_err, toS_stk, List.map_cons, List.map_nil, List.replicate, List.cons_append, List.nil_append, List.getElem?_cons_zero, List.getElem?_cons_succ, List.set_cons_zero, List.set_cons_succ, if_true, if_false, Bool.not_true, Bool.not_false, fin_rt, fin_nx, fin_er, gc_same, Bool.false_eq_true, decide_true, decide_false, tName, tTup, tsCons, tsNil, List.length_cons, List.length_nil, ite_true, ite_false, reduceIte, reduceCtorEq, Nat.zero_add, Nat.reduceAdd, Nat.reduceEqDiff, Nat.reduceLeDiff, szle, dite_true, int_ok, m1, ix, m2, add_ok, m3, tSub, st, e]
noncomputable abbrev fold2 : Xs := (sAsg (tSub setIx (xVar 1) (xVar 2)) (x2 oMod (xCall fInt (aCons (x2 oAdd (x2 oIx (xVar 1) (xVar 2)) (x2 oMul (x2 oIx (xVar 1) (x2 oSub (xVar 2) (xK (.int 1)))) (xK (.int 16807)))) (aNil))) (xK (.int 2147483647))))
theorem fold2_loop (s0 : D) : ∀ (m k : Nat) (cs : List Int) (t u : Option D), Cells cs → 1 ≤ k → k + m ≤ 64 → ∃ cs' t', Cells cs' ∧
    forL none [] (tName 2) fold2 (upFrom (k : Int) m) [some s0, some (.loc 0), t, u] [.lst (cs.map .int)] = .nx [some s0, some (.loc 0), t', u] [.lst (cs'.map .int)] := by
  intro m
  induction m with
  | zero =>
    intro k cs t u h _ _
    exact ⟨cs, t, h, by rw [upFrom, for_nil]⟩
  | succ m ih =>
    intro k cs t u h h1 h2
    have hk : k < cs.length := by rw [h.1]; omega
    have hk1 : k - 1 < cs.length := by omega
    have ix : oIx (.loc 0) (.int (k : Int)) [.lst (cs.map .int)] = .ok (.int cs[k]) [.lst (cs.map .int)] := ix_lst rfl (by rw [List.getElem?_map, List.getElem?_eq_getElem hk]; rfl)
    have ix1 : oIx (.loc 0) (.int ((k - 1 : Nat) : Int)) [.lst (cs.map .int)] = .ok (.int cs[k - 1]) [.lst (cs.map .int)] := ix_lst rfl (by rw [List.getElem?_map, List.getElem?_eq_getElem hk1]; rfl)
    have e1 : (k : Int) - 1 = ((k - 1 : Nat) : Int) := by omega
    generalize hv : (cs[k] + cs[k - 1] * 16807) % 2147483647 = v
    have hv0 : 0 ≤ v ∧ v < 2147483647 := by omega
    have m2 : oMul (.int cs[k - 1]) (.int 16807) [.lst (cs.map .int)] = .ok (.int (cs[k - 1] * 16807)) [.lst (cs.map .int)] := mul_r (by omega) (by omega)
    have m3 : oMod (.int (cs[k] + cs[k - 1] * 16807)) (.int 2147483647) [.lst (cs.map .int)] = .ok (.int v) [.lst (cs.map .int)] := by
      rw [mod_ok (by omega), hv]
    have st : setIx (.loc 0) (.int (k : Int)) (.int v) [.lst (cs.map .int)] = some [.lst ((cs.set k v).map .int)] := by
      rw [set_ok (xs := cs.map .int) rfl (by omega) (by rw [List.length_map]; omega)]
      simp only [Int.toNat_natCast, ← List.map_set]
      rfl
    obtain ⟨cs', t', hc, e⟩ := ih (k + 1) (cs.set k v) (some (.int (k : Int))) u (h.set _ hv0.1 (by omega)) (by omega) (by omega)
    refine ⟨cs', t', hc, ?_⟩
    rw [upFrom, for_cons (r1 := [some s0, some (.loc 0), some (.int (k : Int)), u]) (M1 := [.lst (cs.map .int)]) rfl]
    rw [show ((k : Int) + 1) = ((k + 1 : Nat) : Int) by omega]
    simp only [sRet, sRetN, sSeq, sIf, sSet, sPar, sExpr, sPass, sBreak, sCont, sRaise, sAsg, nxo, bNot, bE, bAnd, bOr, bTrue, x1, x2, xVar, xK, xCall, xTup, xIf, xAnd, xOr, xNot, xChain, aCons, aNil, kNil, kCons, oNone, oSome, bind_ok, bind_err, bind_stk, toS_ok, toS_err, toS_stk, List.map_cons, List.map_nil, List.replicate, List.cons_append, List.nil_append, List.getElem?_cons_zero, List.getElem?_cons_succ, List.set_cons_zero, List.set_cons_succ, if_true, if_false, Bool.not_true, Bool.not_false, fin_rt, fin_nx, fin_er, gc_same, Bool.false_eq_true, decide_true, decide_false, tName, tTup, tsCons, tsNil, List.length_cons, List.length_nil, ite_true, ite_false, reduceIte, reduceCtorEq, Nat.zero_add, Nat.reduceAdd, Nat.reduceEqDiff, Nat.reduceLeDiff, szle, dite_true, int_ok, ix, sub_ok, e1, ix1, m2, add_ok, m3, tSub, st, e]
theorem folded_is (ns : List Int) : ∃ cs, Cells cs ∧ f__law_folded [.fz (ns.map .int)] [] = .ok (.loc 0) [.lst (cs.map .int)] := by
  unfold f__law_folded
  rw [fDef_eq (by rfl), show (List.map some [D.fz (ns.map .int)] ++ List.replicate 3 none : Ev) = [some (.fz (ns.map .int)), none, none, none] from rfl]
  have lc : xLc (iRange1 (xK (.int 64))) (tName 2) (bTrue) (x2 oAdd (xK (.int 17)) (xVar 2)) [2] [some (.fz (ns.map .int)), none, none, none] [] = .ok (.loc 0) [.lst (((List.range 64).map fun i : Nat => ((17 + i : Nat) : Int)).map .int)] := by
    have h2 := lc_pure (ys := []) (t := tName 2) (c := bTrue) (f := x2 oAdd (xK (.int 17)) (xVar 2)) (r := [some (.fz (ns.map .int)), none, none, none]) (M := []) (fun x => match x with | .int i => .int (17 + i) | d => d) (upFrom 0 64) (fun x hx => by
      obtain ⟨i, rfl, _, _⟩ := upFrom_mem _ _ _ hx
      exact ⟨_, rfl, rfl, rfl⟩)
    have h1 : iRange1 (xK (.int 64)) [some (.fz (ns.map .int)), none, none, none] [] = .ok (upFrom 0 64, none, []) [] := range1_ok (j := 64) rfl (by decide)
    rw [lc_ok h1 h2 (by rw [List.length_map, upFrom_len']; decide)]
    rfl
  have start : Cells ((List.range 64).map fun i : Nat => ((17 + i : Nat) : Int)) := by
    refine ⟨by simp, fun c hc => ?_⟩
    obtain ⟨i, hi, rfl⟩ := List.mem_map.mp hc
    have := List.mem_range.mp hi
    omega
  generalize ((List.range 64).map fun i : Nat => ((17 + i : Nat) : Int)) = cs0 at lc start
  obtain ⟨cs1, t1, u1, c1, e1⟩ := fold1_loop (.fz (ns.map .int)) ns 0 cs0 none none start
  obtain ⟨cs2, t2, c2, e2⟩ := fold2_loop (.fz (ns.map .int)) 63 1 cs1 t1 u1 c1 (by omega) (by omega)
  have i1 : iEnum (xVar 0) [some (.fz (ns.map .int)), some (.loc 0), none, none] [.lst (cs0.map .int)] = .ok (pairUp 0 (ns.map .int), none, []) [.lst (cs0.map .int)] := by
    unfold iEnum
    simp only [sRet, sRetN, sSeq, sIf, sSet, sPar, sExpr, sPass, sBreak, sCont, sRaise, sAsg, nxo, bNot, bE, bAnd, bOr, bTrue, x1, x2, xVar, xK, xCall, xTup, xIf, xAnd, xOr, xNot, xChain, aCons, aNil, kNil, kCons, oNone, oSome, bind_ok, bind_err, bind_stk, toS_ok, toS_err, toS_stk, List.map_cons, List.map_nil, List.replicate, List.cons_append, List.nil_append, List.getElem?_cons_zero, List.getElem?_cons_succ, List.set_cons_zero, List.set_cons_succ, if_true, if_false, Bool.not_true, Bool.not_false, fin_rt, fin_nx, fin_er, gc_same, Bool.false_eq_true, decide_true, decide_false, tName, tTup, tsCons, tsNil, List.length_cons, List.length_nil, ite_true, ite_false, reduceIte, reduceCtorEq, Nat.zero_add, Nat.reduceAdd, Nat.reduceEqDiff, Nat.reduceLeDiff, szle, dite_true]
  have i2 : iRange2 (xK (.int 1)) (xK (.int 64)) [some (.fz (ns.map .int)), some (.loc 0), t1, u1] [.lst (cs1.map .int)] = .ok (upFrom ((1 : Nat) : Int) 63, none, []) [.lst (cs1.map .int)] := range2_ok (i := 1) (j := 64) rfl rfl (by decide)
  refine ⟨cs2, c2, ?_⟩
  rw [seq_nx (r1 := [some (.fz (ns.map .int)), some (.loc 0), none, none]) (M1 := [.lst (cs0.map .int)]) (by unfold sSet; rw [lc]; rfl)]
  rw [seq_for (o := .rt (.loc 0) [.lst (cs2.map .int)]) i1 (by
    rw [e1]
    show sSeq _ _ _ _ = _
    rw [seq_for (o := .rt (.loc 0) [.lst (cs2.map .int)]) i2 (by rw [e2]; rfl)])]
  rw [fin_rt]
  unfold gc
  rw [if_neg (fun z => by
    have := z.2.1
    simp at this)]
theorem put_great (a b c : Nat) (n : Int) : kvPut (Dk a b n) (.inr "great") (.loc c) = Dk a c n := by
  have e1 : ((Sum.inr "cells" : Sum Int Str) = .inr "great") = False := eq_false (of_decide_eq_false k3)
  have e2 : ((Sum.inr "spot" : Sum Int Str) = .inr "great") = False := eq_false (of_decide_eq_false k4)
  unfold kvPut Dk
  simp only [List.any_cons, k3, decide_true, Bool.true_or, Bool.or_true, if_true, List.map_cons, List.map_nil, e1, e2, if_false]
theorem k5 : (["cells", "great", "spot"].map (fun s : String => (Sum.inr (Str.ofString s) : Sum Int Str))).Nodup := by decide +kernel
theorem begun_is (ns : List Int) (hl : ns.length ≤ 63) : ∃ cs gs, Cells cs ∧ f__law_begun [.fz (ns.map .int)] [] = .ok (.loc 2) (Gs cs gs 0 []) := by
  obtain ⟨cs, hc, e⟩ := folded_is ns
  refine ⟨cs, ns.map fun i => if i ≥ 10 ^ 18 then i else 0, hc, ?_⟩
  unfold f__law_begun
  rw [fDef_eq (by rfl), show (List.map some [D.fz (ns.map .int)] ++ List.replicate 2 none : Ev) = [some (.fz (ns.map .int)), none, none] from rfl]
  have nd : (List.map (fun x : Sum Int Str × D => x.fst) [(.inr "cells", D.loc 0), (.inr "great", D.loc 1), (.inr "spot", D.int 0)]).Nodup ∧ ([(.inr "cells", D.loc 0), (.inr "great", D.loc 1), (.inr "spot", D.int 0)] : List (Sum Int Str × D)).length ≤ 15 := ⟨k5, by decide⟩
  have s1 : sSet 1 (xDct (kCons (xK (.str "cells")) (xCall f__law_folded (aCons (xVar 0) (aNil))) (kCons (xK (.str "great")) (xLst (aNil)) (kCons (xK (.str "spot")) (xK (.int 0)) (kNil))))) [some (.fz (ns.map .int)), none, none] [] =
      .nx [some (.fz (ns.map .int)), some (.loc 2), none] [.lst (cs.map .int), .lst [], .dct (Dk 0 1 0)] := by
    have zl : ([] : List D).length ≤ 16777216 := by decide
    simp only [sRet, sRetN, sSeq, sIf, sSet, sPar, sExpr, sPass, sBreak, sCont, sRaise, sAsg, nxo, bNot, bE, bAnd, bOr, bTrue, x1, x2, xVar, xK, xCall, xTup, xIf, xAnd, xOr, xNot, xChain, aCons, aNil, kNil, kCons, oNone, oSome, bind_ok, bind_err, bind_stk, toS_ok, toS_err, toS_stk, List.map_cons, List.map_nil, List.replicate, List.cons_append, List.nil_append, List.getElem?_cons_zero, List.getElem?_cons_succ, List.set_cons_zero, List.set_cons_succ, if_true, if_false, Bool.not_true, Bool.not_false, fin_rt, fin_nx, fin_er, gc_same, Bool.false_eq_true, decide_true, decide_false, tName, tTup, tsCons, tsNil, List.length_cons, List.length_nil, ite_true, ite_false, reduceIte, reduceCtorEq, Nat.zero_add, Nat.reduceAdd, Nat.reduceEqDiff, Nat.reduceLeDiff, szle, dite_true, e, xLst, zl, keyOf, xDct, nd]
    rfl
  have p18 : ∀ M, oPow (.int 10) (.int 18) M = .ok (.int (10 ^ 18)) M := fun M => by
    rw [pow_ok (by decide)]
    rfl
  have lc : xLc (iSeq (xVar 0)) (tName 2) (bTrue) (xIf (bE (x2 oGe (xVar 2) (x2 oPow (xK (.int 10)) (xK (.int 18))))) (xVar 2) (xK (.int 0))) [2] [some (.fz (ns.map .int)), some (.loc 2), none] [.lst (cs.map .int), .lst [], .dct (Dk 0 1 0)] =
      .ok (.loc 3) [.lst (cs.map .int), .lst [], .dct (Dk 0 1 0), .lst ((ns.map fun i => if i ≥ 10 ^ 18 then i else 0).map .int)] := by
    have h1 : iSeq (xVar 0) [some (.fz (ns.map .int)), some (.loc 2), none] [.lst (cs.map .int), .lst [], .dct (Dk 0 1 0)] = .ok (ns.map .int, none, []) [.lst (cs.map .int), .lst [], .dct (Dk 0 1 0)] := by
      unfold iSeq
      simp only [sRet, sRetN, sSeq, sIf, sSet, sPar, sExpr, sPass, sBreak, sCont, sRaise, sAsg, nxo, bNot, bE, bAnd, bOr, bTrue, x1, x2, xVar, xK, xCall, xTup, xIf, xAnd, xOr, xNot, xChain, aCons, aNil, kNil, kCons, oNone, oSome, bind_ok, bind_err, bind_stk, toS_ok, toS_err, toS_stk, List.map_cons, List.map_nil, List.replicate, List.cons_append, List.nil_append, List.getElem?_cons_zero, List.getElem?_cons_succ, List.set_cons_zero, List.set_cons_succ, if_true, if_false, Bool.not_true, Bool.not_false, fin_rt, fin_nx, fin_er, gc_same, Bool.false_eq_true, decide_true, decide_false, tName, tTup, tsCons, tsNil, List.length_cons, List.length_nil, ite_true, ite_false, reduceIte, reduceCtorEq, Nat.zero_add, Nat.reduceAdd, Nat.reduceEqDiff, Nat.reduceLeDiff, szle, dite_true]
    have h2 := lc_pure (ys := []) (t := tName 2) (c := bTrue) (f := xIf (bE (x2 oGe (xVar 2) (x2 oPow (xK (.int 10)) (xK (.int 18))))) (xVar 2) (xK (.int 0))) (r := [some (.fz (ns.map .int)), some (.loc 2), none]) (M := [.lst (cs.map .int), .lst [], .dct (Dk 0 1 0)])
      (fun x => match x with | .int i => .int (if i ≥ 10 ^ 18 then i else 0) | d => d) (ns.map .int) (fun x hx => by
        obtain ⟨i, _, rfl⟩ := List.mem_map.mp hx
        refine ⟨_, rfl, rfl, ?_⟩
        by_cases hi : (10 : Int) ^ 18 ≤ i
        · simp only [sRet, sRetN, sSeq, sIf, sSet, sPar, sExpr, sPass, sBreak, sCont, sRaise, sAsg, nxo, bNot, bE, bAnd, bOr, bTrue, x1, x2, xVar, xK, xCall, xTup, xIf, xAnd, xOr, xNot, xChain, aCons, aNil, kNil, kCons, oNone, oSome, bind_ok, bind_err, bind_stk, toS_ok, toS_err, toS_stk, List.map_cons, List.map_nil, List.replicate, List.cons_append, List.nil_append, List.getElem?_cons_zero, List.getElem?_cons_succ, List.set_cons_zero, List.set_cons_succ, if_true, if_false, Bool.not_true, Bool.not_false, fin_rt, fin_nx, fin_er, gc_same, Bool.false_eq_true, decide_true, decide_false, tName, tTup, tsCons, tsNil, List.length_cons, List.length_nil, ite_true, ite_false, reduceIte, reduceCtorEq, Nat.zero_add, Nat.reduceAdd, Nat.reduceEqDiff, Nat.reduceLeDiff, szle, dite_true, p18, ge_ok, decide_eq_true hi]
          rw [if_pos hi]
        · simp only [sRet, sRetN, sSeq, sIf, sSet, sPar, sExpr, sPass, sBreak, sCont, sRaise, sAsg, nxo, bNot, bE, bAnd, bOr, bTrue, x1, x2, xVar, xK, xCall, xTup, xIf, xAnd, xOr, xNot, xChain, aCons, aNil, kNil, kCons, oNone, oSome, bind_ok, bind_err, bind_stk, toS_ok, toS_err, toS_stk, List.map_cons, List.map_nil, List.replicate, List.cons_append, List.nil_append, List.getElem?_cons_zero, List.getElem?_cons_succ, List.set_cons_zero, List.set_cons_succ, if_true, if_false, Bool.not_true, Bool.not_false, fin_rt, fin_nx, fin_er, gc_same, Bool.false_eq_true, decide_true, decide_false, tName, tTup, tsCons, tsNil, List.length_cons, List.length_nil, ite_true, ite_false, reduceIte, reduceCtorEq, Nat.zero_add, Nat.reduceAdd, Nat.reduceEqDiff, Nat.reduceLeDiff, szle, dite_true, p18, ge_ok, decide_eq_false hi]
          rw [if_neg hi])
    rw [lc_ok h1 h2 (by rw [List.length_map, List.length_map]; omega), List.map_map, List.map_map]
    rfl
  have sk : setKv (.loc 2) (.str "great") (.loc 3) [.lst (cs.map .int), .lst [], .dct (Dk 0 1 0), .lst ((ns.map fun i => if i ≥ 10 ^ 18 then i else 0).map .int)] = some (Gs cs (ns.map fun i => if i ≥ 10 ^ 18 then i else 0) 0 []) := by
    unfold setKv
    have g : ([.lst (cs.map .int), .lst [], .dct (Dk 0 1 0), .lst ((ns.map fun i => if i ≥ 10 ^ 18 then i else 0).map .int)] : Mem)[2]? = some (.dct (Dk 0 1 0)) := rfl
    simp only [keyOf, g]
    rw [if_pos (by show 3 < SZ; decide), put_great]
    rfl
  rw [seq_nx s1]
  have s2 : sAsg (tSub setKv (xVar 1) (xK (.str "great"))) (xLc (iSeq (xVar 0)) (tName 2) (bTrue) (xIf (bE (x2 oGe (xVar 2) (x2 oPow (xK (.int 10)) (xK (.int 18))))) (xVar 2) (xK (.int 0))) [2]) [some (.fz (ns.map .int)), some (.loc 2), none] [.lst (cs.map .int), .lst [], .dct (Dk 0 1 0)] =
      .nx [some (.fz (ns.map .int)), some (.loc 2), none] (Gs cs (ns.map fun i => if i ≥ 10 ^ 18 then i else 0) 0 []) := by
    simp only [sRet, sRetN, sSeq, sIf, sSet, sPar, sExpr, sPass, sBreak, sCont, sRaise, sAsg, nxo, bNot, bE, bAnd, bOr, bTrue, x1, x2, xVar, xK, xCall, xTup, xIf, xAnd, xOr, xNot, xChain, aCons, aNil, kNil, kCons, oNone, oSome, bind_ok, bind_err, bind_stk, toS_ok, toS_err, toS_stk, List.map_cons, List.map_nil, List.replicate, List.cons_append, List.nil_append, List.getElem?_cons_zero, List.getElem?_cons_succ, List.set_cons_zero, List.set_cons_succ, if_true, if_false, Bool.not_true, Bool.not_false, fin_rt, fin_nx, fin_er, gc_same, Bool.false_eq_true, decide_true, decide_false, tName, tTup, tsCons, tsNil, List.length_cons, List.length_nil, ite_true, ite_false, reduceIte, reduceCtorEq, Nat.zero_add, Nat.reduceAdd, Nat.reduceEqDiff, Nat.reduceLeDiff, szle, dite_true, lc, tSub, sk]
  rw [seq_nx s2]
  simp only [sRet, sRetN, sSeq, sIf, sSet, sPar, sExpr, sPass, sBreak, sCont, sRaise, sAsg, nxo, bNot, bE, bAnd, bOr, bTrue, x1, x2, xVar, xK, xCall, xTup, xIf, xAnd, xOr, xNot, xChain, aCons, aNil, kNil, kCons, oNone, oSome, bind_ok, bind_err, bind_stk, toS_ok, toS_err, toS_stk, List.map_cons, List.map_nil, List.replicate, List.cons_append, List.nil_append, List.getElem?_cons_zero, List.getElem?_cons_succ, List.set_cons_zero, List.set_cons_succ, if_true, if_false, Bool.not_true, Bool.not_false, fin_rt, fin_nx, fin_er, gc_same, Bool.false_eq_true, decide_true, decide_false, tName, tTup, tsCons, tsNil, List.length_cons, List.length_nil, ite_true, ite_false, reduceIte, reduceCtorEq, Nat.zero_add, Nat.reduceAdd, Nat.reduceEqDiff, Nat.reduceLeDiff, szle, dite_true]
  unfold gc
  rw [if_neg (fun z => by
    have := z.2.1
    simp at this)]
end LawT
end PV
namespace PV
namespace LawT
open PySem
theorem gs_len (cs gs : List Int) (n : Nat) (R : Mem) : (Gs cs gs n R).length = R.length + 4 := rfl
theorem gs_app (cs gs : List Int) (n : Nat) (R X : Mem) : Gs cs gs n R ++ X = Gs cs gs n (R ++ X) := rfl
theorem gs_get (cs gs : List Int) (n : Nat) (R : Mem) (k : Nat) : (Gs cs gs n R)[k + 4]? = R[k]? := rfl
theorem gs_gc (cs gs gs' : List Int) (n n' : Nat) (R X : Mem) (ds : List D) (hd : belowAll (R.length + 4) ds = true) : gc (Gs cs gs n R) ds (Gs cs gs' n' (R ++ X)) = Gs cs gs' n' R := by
  rw [← gs_app]
  refine gc_drop _ _ _ _ rfl hd fun i o e => ?_
  match i with
  | 0 => exact .inl e
  | 1 => exact .inl e
  | 2 =>
    right
    have e' : o = .dct (Dk 0 3 (n' : Int)) := (Option.some.inj e).symm
    subst e'
    simp [belowO, Dk, Gs]
  | 3 =>
    right
    have e' : o = .lst (gs'.map .int) := (Option.some.inj e).symm
    subst e'
    simp only [belowO]
    exact belowAll_ints _ _
  | i + 4 => exact .inl e
theorem gs_gc0 (cs gs gs' : List Int) (n n' : Nat) (R : Mem) (ds : List D) (hd : belowAll (R.length + 4) ds = true) : gc (Gs cs gs n R) ds (Gs cs gs' n' R) = Gs cs gs' n' R := by
  have := gs_gc cs gs gs' n n' R [] ds hd
  rwa [List.append_nil] at this
theorem draw {cs : List Int} (hc : Cells cs) (gs : List Int) (n : Nat) (R : Mem) (L : Nat) (h0 : 0 < L) (h1 : L < 2 ^ 100) (hn : n < 2 ^ 200) :
    ∃ (v : Nat) (gs' : List Int), v < L ∧ f__law_draw [.loc 2, .int (L : Int)] (Gs cs gs n R) = .ok (.int (v : Int)) (Gs cs gs' (n + 1) R) := by
  obtain ⟨v, gs', a, b, e⟩ := draw_is cs gs n R (L : Int) (by omega) (by
    rw [Int.natAbs_natCast]
    exact Nat.lt_trans ((Nat.log2_lt (by omega)).mpr h1) (by decide)) hc.1 (fun c h => by
      have := hc.2 c h
      omega) hn
  refine ⟨v.toNat, gs', by omega, ?_⟩
  rw [e, Int.toNat_of_nonneg a]
end LawT
end PV
namespace PV
open PySem
theorem eqvAll_pyN : ∀ a b : List Nat, PyData.eqvAll (pyN a) (pyN b) = decide (a = b)
  | [], [] => by simp [pyN, PyData.eqvAll]
  | [], y :: s => by simp [pyN, PyData.eqvAll]
  | x :: r, [] => by simp [pyN, PyData.eqvAll]
  | x :: r, y :: s => by
    have ih := eqvAll_pyN r s
    simp only [pyN, List.map_cons, PyData.eqvAll, PyData.eqv] at ih ⊢
    rw [ih]
    by_cases h : x = y
    · subst h
      simp
    · have : ¬ ((x : Int) = (y : Int)) := by omega
      simp [h, this]
theorem shaped_pyN (xs : List Nat) : SeqAt.shaped (.tuple (pyN xs)) = true := by
  have a : ∀ xs : List Nat, PyData.canLayAll0 (pyN xs) = true := by
    intro xs
    induction xs with
    | nil => simp [pyN, PyData.canLayAll0]
    | cons x r ih =>
      simp only [pyN, List.map_cons, PyData.canLayAll0, PyData.canLay0, Bool.true_and] at ih ⊢
      exact ih
  have d := pyN_depth xs
  simp only [SeqAt.shaped, PyData.canLay0, a, PyData.depth, Bool.true_and, decide_eq_true_eq]
  exact decide_eq_true (by omega)
theorem eq_enc (a b : List Nat) (M : Mem) : oEq (.tup (enc a)) (.tup (enc b)) M = .ok (.bl (decide (a = b))) M := by
  have e1 : ∀ x : List Nat, toPy M DEPTH (.tup (enc x)) = some (.tuple (pyN x)) := fun x => toPy_enc M 22 x
  unfold oEq
  simp only [e1]
  rw [if_pos ⟨shaped_pyN a, shaped_pyN b⟩, PyData.eqv, eqvAll_pyN]
namespace LawT
open PySem
theorem of_is {cs : List Int} (hc : Cells cs) (gs : List Int) (n k : Nat) (R : Mem) (xs : List Nat) (h : R[k]? = some (.lst (enc xs))) (h0 : 0 < xs.length) (h1 : xs.length < 1000) (hn : n < 2 ^ 200) :
    ∃ (i : Nat) (gs' : List Int), ∃ hi : i < xs.length, f__law_of [.loc 2, .loc (k + 4)] (Gs cs gs n R) = .ok (.int (xs[i] : Nat)) (Gs cs gs' (n + 1) R) := by
  have h1' : xs.length < 2 ^ 100 := Nat.lt_trans h1 (by decide)
  obtain ⟨i, gs1, hi, e⟩ := draw hc gs n R xs.length h0 h1' hn
  refine ⟨i, gs1, hi, ?_⟩
  have ln : fLen [.loc (k + 4)] (Gs cs gs n R) = .ok (.int (xs.length : Nat)) (Gs cs gs n R) := by
    rw [len_lst (M := Gs cs gs n R) (n := k + 4) (xs := enc xs) h, enc_len]
  have ix : oIx (.loc (k + 4)) (.int (i : Nat)) (Gs cs gs1 (n + 1) R) = .ok (.int (xs[i] : Nat)) (Gs cs gs1 (n + 1) R) := ix_lst (M := Gs cs gs1 (n + 1) R) (n := k + 4) (xs := enc xs) h (by rw [enc_get, List.getElem?_eq_getElem hi]; rfl)
  unfold f__law_of
  rw [fDef_eq (by rfl)]
  simp only [sRet, sRetN, sSeq, sIf, sSet, sPar, sExpr, sPass, sBreak, sCont, sRaise, sAsg, nxo, bNot, bE, bAnd, bOr, bTrue, x1, x2, xVar, xK, xCall, xTup, xIf, xAnd, xOr, xNot, xChain, aCons, aNil, kNil, kCons, oNone, oSome, bind_ok, bind_err, bind_stk, toS_ok, toS_err, toS_stk, List.map_cons, List.map_nil, List.replicate, List.cons_append, List.nil_append, List.getElem?_cons_zero, List.getElem?_cons_succ, List.set_cons_zero, List.set_cons_succ, if_true, if_false, Bool.not_true, Bool.not_false, fin_rt, fin_nx, fin_er, gc_same, Bool.false_eq_true, decide_true, decide_false, tName, tTup, tsCons, tsNil, List.length_cons, List.length_nil, ite_true, ite_false, reduceIte, reduceCtorEq, Nat.zero_add, Nat.reduceAdd, Nat.reduceEqDiff, Nat.reduceLeDiff, szle, dite_true, ln, e, ix]
  rw [gs_gc0 _ _ _ _ _ _ _ (by simp)]
end LawT
end PV

set_option Elab.async false
set_option linter.all false
set_option maxRecDepth 10000
set_option pp.maxSteps 700

namespace PV
namespace LawT
open PySem
def St (k : Nat) (R M : Mem) : Prop := ∃ cs gs n, Cells cs ∧ n ≤ k ∧ M = Gs cs gs n R
theorem St.mono {k k' : Nat} {R M : Mem} (h : St k R M) (hk : k ≤ k') : St k' R M := by
  obtain ⟨cs, gs, n, hc, hn, e⟩ := h
  exact ⟨cs, gs, n, hc, by omega, e⟩
theorem St.len {k : Nat} {R M : Mem} (h : St k R M) : M.length = R.length + 4 := by
  obtain ⟨cs, gs, n, hc, hn, rfl⟩ := h
  rfl
theorem St.at_ {k : Nat} {R M : Mem} (h : St k R M) (i : Nat) : M[i + 4]? = R[i]? := by
  obtain ⟨cs, gs, n, hc, hn, rfl⟩ := h
  rfl
theorem St.at' {k : Nat} {R M : Mem} (h : St k R M) {i j : Nat} (e : i = j + 4) : M[i]? = R[j]? := by
  subst e
  exact h.at_ j
theorem St.keep {k k' lo : Nat} {o : MO} {R M M' : Mem} (h : St k R M) (h' : St k' R M') (hl : 4 ≤ lo) (g : M[lo]? = some o) : M'[lo]? = some o := by
  obtain ⟨y, hy⟩ : ∃ y, lo = y + 4 := ⟨lo - 4, by omega⟩
  have a := h.at' hy
  have b := h'.at' hy
  rw [b, ← a]
  exact g
theorem St.keepA {k k' lo : Nat} {o : MO} {R X M M' : Mem} (h : St k R M) (h' : St k' (R ++ X) M') (hl : 4 ≤ lo) (g : M[lo]? = some o) : M'[lo]? = some o := by
  obtain ⟨y, hy⟩ : ∃ y, lo = y + 4 := ⟨lo - 4, by omega⟩
  have a := h.at' hy
  have b := h'.at' hy
  rw [g] at a
  rw [b, List.getElem?_append_left (List.getElem?_eq_some_iff.mp a.symm).1]
  exact a.symm
theorem St.app {k : Nat} {R M : Mem} (h : St k R M) (X : Mem) : St k (R ++ X) (M ++ X) := by
  obtain ⟨cs, gs, n, hc, hn, rfl⟩ := h
  exact ⟨cs, gs, n, hc, hn, rfl⟩
theorem St.set {k : Nat} {R M : Mem} (h : St k R M) (i : Nat) (o : MO) : St k (R.set i o) (M.set (i + 4) o) := by
  obtain ⟨cs, gs, n, hc, hn, rfl⟩ := h
  exact ⟨cs, gs, n, hc, hn, rfl⟩
theorem St.set' {k : Nat} {R M : Mem} (h : St k R M) {i j : Nat} (o : MO) (e : j = i + 4) : St k (R.set i o) (M.set j o) := by
  subst e
  exact h.set i o
theorem St.gc {k k' : Nat} {R R1 X M M1 : Mem} {ds : List D} (h : St k R M) (h1 : St k' (R1 ++ X) M1) (hl : R1.length = R.length) (hd : belowAll (R.length + 4) ds = true)
    (ho : ∀ (i : Nat) (o : MO), R1[i]? = some o → R[i]? = some o ∨ belowO (R.length + 4) o = true) : St k' R1 (gc M ds M1) := by
  obtain ⟨cs, gs, n, hc, hn, rfl⟩ := h
  obtain ⟨cs', gs', n', hc', hn', rfl⟩ := h1
  have e : PV.gc (Gs cs gs n R) ds (Gs cs' gs' n' (R1 ++ X)) = Gs cs' gs' n' R1 := by
    rw [← gs_app]
    refine gc_drop _ _ _ _ (by rw [gs_len, gs_len, hl]) (by rw [gs_len]; exact hd) fun i o e => ?_
    rw [gs_len]
    match i, e with
    | 0, e =>
      cases e
      right
      exact belowAll_ints _ _
    | 1, e => exact .inl e
    | 2, e =>
      cases e
      right
      simp [belowO, Dk]
    | 3, e =>
      cases e
      right
      exact belowAll_ints _ _
    | i + 4, e => exact ho i o e
  rw [e]
  exact ⟨cs', gs', n', hc', hn', rfl⟩
theorem St.gc0 {k k' : Nat} {R X M M1 : Mem} {ds : List D} (h : St k R M) (h1 : St k' (R ++ X) M1) (hd : belowAll (R.length + 4) ds = true) : St k' R (PV.gc M ds M1) := h.gc h1 rfl hd fun _ _ e => .inl e
theorem St.gc1 {k k' : Nat} {R M M1 : Mem} {ds : List D} (h : St k R M) (h1 : St k' R M1) (hd : belowAll (R.length + 4) ds = true) : St k' R (PV.gc M ds M1) := h.gc0 (X := []) (by rw [List.append_nil]; exact h1) hd
theorem gc_keep {M M1 : Mem} {ds : List D} (h : belowAll M.length ds = false) : PV.gc M ds M1 = M1 := by
  unfold PV.gc
  rw [if_neg fun z => by rw [z.2.1] at h; cases h]
theorem belowAll_mem {n : Nat} : ∀ {xs : List D} {x : D}, belowAll n xs = true → x ∈ xs → below n x = true
  | y :: r, x, h, hx => by
    rw [belowAll_cons, Bool.and_eq_true] at h
    rcases List.mem_cons.mp hx with e | e
    · rw [e]
      exact h.1
    · exact belowAll_mem h.2 e
mutual
theorem below_le {n m : Nat} (hm : n ≤ m) : ∀ {x : D}, below n x = true → below m x = true
  | .non, _ => by simp [below]
  | .bl _, _ => by simp [below]
  | .int _, _ => by simp [below]
  | .str _, _ => by simp [below]
  | .loc k, h => by
    simp only [below_loc, decide_eq_true_eq] at h ⊢
    omega
  | .tup xs, h => by
    simp only [below_tup] at h ⊢
    exact belowAll_le h hm
  | .fz xs, h => by
    simp only [below] at h ⊢
    exact belowAll_le h hm
theorem belowAll_le {n m : Nat} : ∀ {xs : List D}, belowAll n xs = true → n ≤ m → belowAll m xs = true
  | [], _, _ => belowAll_nil m
  | x :: r, h, hm => by
    rw [belowAll_cons, Bool.and_eq_true] at h ⊢
    exact ⟨below_le hm h.1, belowAll_le h.2 hm⟩
end
section
variable {k : Nat} {R M : Mem} {K : D → Mem → Prop} {E : EK}
theorem draw_w {L : Nat} (h : St k R M) (h0 : 0 < L) (h1 : L < 2 ^ 1000) (hk : k < 2 ^ 200) (hK : ∀ (v : Nat) (M' : Mem), v < L → St (k + 1) R M' → K (.int (v : Int)) M') : wpo (f__law_draw [.loc 2, .int (L : Int)] M) K E := by
  obtain ⟨cs, gs, n, hc, hn, rfl⟩ := h
  obtain ⟨v, gs', a, b, e⟩ := draw_is cs gs n R (L : Int) (by omega) (by
    rw [Int.natAbs_natCast]
    exact Nat.lt_trans ((Nat.log2_lt (by omega)).mpr h1) (by decide)) hc.1 (fun c h => by
      have := hc.2 c h
      omega) (by omega)
  rw [e]
  have := hK v.toNat (Gs cs gs' (n + 1) R) (by omega) ⟨cs, gs', n + 1, hc, by omega, rfl⟩
  rw [Int.toNat_of_nonneg a] at this
  exact this
theorem draw_wi {L : Int} (h : St k R M) (h0 : 0 < L) (h1 : L < 2 ^ 1000) (hk : k < 2 ^ 200) (hK : ∀ (v : Nat) (M' : Mem), (v : Int) < L → St (k + 1) R M' → K (.int (v : Int)) M') : wpo (f__law_draw [.loc 2, .int L] M) K E := by
  have e : L = ((L.toNat : Nat) : Int) := by omega
  rw [e]
  exact draw_w h (by omega) (by omega) hk fun v M' hv hs => hK v M' (by omega) hs
theorem begun_w {ns : List Int} (hl : ns.length ≤ 63) (hK : ∀ M, St 0 [] M → K (.loc 2) M) : wpo (f__law_begun [.fz (ns.map .int)] []) K E := by
  obtain ⟨cs, gs, hc, e⟩ := begun_is ns hl
  rw [e]
  exact hK _ ⟨cs, gs, 0, hc, Nat.le_refl _, rfl⟩
theorem like_w {x y : D} {p : PyData} {n : Nat} (h : toPy M DEPTH x = some p) (h2 : toPy M DEPTH y = some p) (f : Fit p n) (hn : n ≤ 64) (hK : K (.bl true) M) : wpo (f__law_like [x, y] M) K E := by
  rw [like_true h h2 f hn]
  exact hK
theorem like_pd {x y : D} {p : PyData} {d n d' n' : Nat} {M : Mem} (h : Pd M x p d n) (h2 : Pd M y p d' n') (hd : d ≤ 24 := by decide) (hd' : d' ≤ 24 := by decide) (hn : n ≤ 16777216 := by decide) : f__law_like [x, y] M = .ok (.bl true) M :=
  like_true (h.py _ hd) (h2.py _ hd') (h.fit hd hn) (by decide)
theorem of_w {j : Nat} {xs : List D} (h : St k R M) (hl : R[j]? = some (.lst xs)) (h0 : 0 < xs.length) (h1 : xs.length < 2 ^ 1000) (hk : k < 2 ^ 200)
    (hb : belowAll (R.length + 4) xs = true) (hK : ∀ (x : D) (M' : Mem), x ∈ xs → St (k + 1) R M' → K x M') : wpo (f__law_of [.loc 2, .loc (j + 4)] M) K E := by
  have hl' : M[j + 4]? = some (.lst xs) := (h.at_ j).trans hl
  unfold f__law_of
  rw [wp_def (by rfl)]
  simp only [↓wpo, ↓wps, ↓w_var, ↓w_k, ↓w_aNil, ↓w_aCons, ↓w_tup, ↓w_lst, ↓w_2, ↓w_1, ↓w_call, ↓w_if, ↓w_and, ↓w_or, ↓w_not, ↓w_bE, ↓w_bAnd, ↓w_bOr, ↓w_bNot, ↓w_bTrue, ↓w_chain, ↓w_oNone, ↓w_oSome, ↓w_slice, ↓w_kNil, ↓w_kCons, ↓w_dct, ↓w_dct0, ↓w_lst1, ↓w_fs, ↓w_get1, ↓w_get2, ↓ws_pass, ↓ws_break, ↓ws_cont, ↓ws_retN, ↓ws_seq, ↓ws_set, ↓ws_par, ↓ws_par3, ↓ws_expr, ↓ws_ret, ↓ws_if, ↓ws_raise, ↓ws_try, ↓ws_asg, ↓ws_nxo, ↓ws_sub, ↓ws_for, ↓wi_range1, ↓wi_range2, ↓wi_range3, ↓wi_seq, ↓wi_enum, wpo_ok, wpo_err, wpo_bind, ws_nx, ws_rt, ws_bk, ws_ct, ws_er, sq_nx, sq_rt, sq_bk, sq_ct, sq_er, lq_nx, lq_ct, lq_bk, lq_rt, lq_er, fq_nx, fq_rt, fq_er, tq_nx, tq_rt, tq_bk, tq_ct, tq_er, asV_ok, asB_ok, asI_ok, asK_int, asK_str, asP_ok, asP3_ok, asM_ok, asS_tup, asS_fz, asE_tup, asE_fz, add_ok, sub_ok, eq_ok, ne_ok, lt_ok, le_ok, gt_ok, ge_ok, neg_ok, isn_ok, notn_ok, int_ok, bind_ok, List.map_cons, List.map_nil, List.replicate, List.cons_append, List.nil_append, List.getElem?_cons_zero, List.getElem?_cons_succ, List.set_cons_zero, List.set_cons_succ, if_true, if_false, Bool.not_true, Bool.not_false, gc_same, Bool.false_eq_true, decide_true, decide_false, tName, tTup, tsCons, tsNil, List.length_cons, List.length_nil, ite_true, ite_false, reduceIte, reduceCtorEq, Nat.zero_add, Nat.reduceAdd, Nat.reduceEqDiff, Nat.reduceLeDiff, isNon, Int.zero_add, and_self, eq_self, ix0, ix1, ix2, ix3, ix4, ix5, isi_int, isi_nbl, isi_tup, isi_str, eqs_ok, nes_ok, len_tup, len_lst hl']
  refine draw_w h h0 h1 hk fun v M' hv hs => ?_
  rw [ix_lst ((hs.at_ j).trans hl) (List.getElem?_eq_getElem hv)]
  simp only [↓wpo, ↓wps, ↓w_var, ↓w_k, ↓w_aNil, ↓w_aCons, ↓w_tup, ↓w_lst, ↓w_2, ↓w_1, ↓w_call, ↓w_if, ↓w_and, ↓w_or, ↓w_not, ↓w_bE, ↓w_bAnd, ↓w_bOr, ↓w_bNot, ↓w_bTrue, ↓w_chain, ↓w_oNone, ↓w_oSome, ↓w_slice, ↓w_kNil, ↓w_kCons, ↓w_dct, ↓w_dct0, ↓w_lst1, ↓w_fs, ↓w_get1, ↓w_get2, ↓ws_pass, ↓ws_break, ↓ws_cont, ↓ws_retN, ↓ws_seq, ↓ws_set, ↓ws_par, ↓ws_par3, ↓ws_expr, ↓ws_ret, ↓ws_if, ↓ws_raise, ↓ws_try, ↓ws_asg, ↓ws_nxo, ↓ws_sub, ↓ws_for, ↓wi_range1, ↓wi_range2, ↓wi_range3, ↓wi_seq, ↓wi_enum, wpo_ok, wpo_err, wpo_bind, ws_nx, ws_rt, ws_bk, ws_ct, ws_er, sq_nx, sq_rt, sq_bk, sq_ct, sq_er, lq_nx, lq_ct, lq_bk, lq_rt, lq_er, fq_nx, fq_rt, fq_er, tq_nx, tq_rt, tq_bk, tq_ct, tq_er, asV_ok, asB_ok, asI_ok, asK_int, asK_str, asP_ok, asP3_ok, asM_ok, asS_tup, asS_fz, asE_tup, asE_fz, add_ok, sub_ok, eq_ok, ne_ok, lt_ok, le_ok, gt_ok, ge_ok, neg_ok, isn_ok, notn_ok, int_ok, bind_ok, List.map_cons, List.map_nil, List.replicate, List.cons_append, List.nil_append, List.getElem?_cons_zero, List.getElem?_cons_succ, List.set_cons_zero, List.set_cons_succ, if_true, if_false, Bool.not_true, Bool.not_false, gc_same, Bool.false_eq_true, decide_true, decide_false, tName, tTup, tsCons, tsNil, List.length_cons, List.length_nil, ite_true, ite_false, reduceIte, reduceCtorEq, Nat.zero_add, Nat.reduceAdd, Nat.reduceEqDiff, Nat.reduceLeDiff, isNon, Int.zero_add, and_self, eq_self, ix0, ix1, ix2, ix3, ix4, ix5, isi_int, isi_nbl, isi_tup, isi_str, eqs_ok, nes_ok, len_tup]
  have hm : xs[v] ∈ xs := List.getElem_mem hv
  refine hK _ _ hm (h.gc1 hs ?_)
  rw [belowAll_cons, belowAll_nil, Bool.and_true]
  exact belowAll_mem hb hm
theorem of_d {xs : List D} {l : Nat} (h : St k (R ++ [.lst xs]) M) (e : l = R.length + 4) (h0 : 0 < xs.length) (h1 : xs.length < 2 ^ 1000) (hk : k < 2 ^ 200)
    (hb : belowAll (R.length + 4) xs = true) (hK : ∀ (x : D) (M' : Mem), x ∈ xs → St (k + 1) (R ++ [.lst xs]) M' → K x M') : wpo (f__law_of [.loc 2, .loc l] M) K E := by
  subst e
  exact of_w h (by simp) h0 h1 hk (belowAll_le hb (by simp)) hK
end
end LawT
end PV

set_option Elab.async false
set_option linter.all false
set_option maxRecDepth 10000
set_option pp.maxSteps 700

namespace PV
namespace LawT
open PySem
inductive Ph where
  | new | sure | gone
  deriving DecidableEq
def phS : Ph → Str
  | .new => "new"
  | .sure => "sure"
  | .gone => "gone"
theorem ph_new (p : Ph) : decide (phS p = "new") = decide (p = .new) := by cases p <;> decide +kernel
theorem ph_sure (p : Ph) : decide (phS p = "sure") = decide (p = .sure) := by cases p <;> decide +kernel
theorem ph_gone (p : Ph) : decide (phS p = "gone") = decide (p = .gone) := by cases p <;> decide +kernel
theorem n_s : decide (("new" : Str) = "sure") = false := by decide +kernel
theorem n_g : decide (("new" : Str) = "gone") = false := by decide +kernel
theorem s_g : decide (("sure" : Str) = "gone") = false := by decide +kernel
theorem s_n : decide (("sure" : Str) = "new") = false := by decide +kernel
theorem g_s : decide (("gone" : Str) = "sure") = false := by decide +kernel
structure Lk where
  side : Nat
  mine : Nat
  peer : Nat
  ph : Ph
  deriving DecidableEq
def dl (l : Lk) : D := .tup [.int l.side, .int l.mine, .int l.peer, .str (phS l.ph)]
def kind (v s : Nat) : Prop := 1 ≤ v ∧ v ≤ 1152921504606846976 ∧ v % 2 = 1 - s
structure okL (l : Lk) : Prop where
  s : l.side ≤ 1
  m : kind l.mine l.side
  p : l.peer = 0 ∨ kind l.peer (1 - l.side)
  z : l.peer = 0 → l.ph = .new
def heard (l : Lk) (a b : Nat) : Lk :=
  if l.ph = .gone ∨ a < l.peer then l
  else if l.ph = .sure ∧ a ≠ l.peer then { l with ph := .gone }
  else { l with peer := a, ph := if l.ph = .sure ∨ b = l.mine then .sure else .new }
theorem is_kind_ok (v s : Int) (M : Mem) : f_is_kind [.int v, .int s] M = .ok (.bl (decide (1 ≤ v ∧ v ≤ 1152921504606846976 ∧ v % 2 = 1 - s))) M := by
  refine wpo_eq ?_
  unfold f_is_kind
  rw [wp_def (by rfl)]
  simp only [↓wpo, ↓wps, ↓w_var, ↓w_k, ↓w_aNil, ↓w_aCons, ↓w_tup, ↓w_lst, ↓w_2, ↓w_1, ↓w_call, ↓w_if, ↓w_and, ↓w_or, ↓w_not, ↓w_bE, ↓w_bAnd, ↓w_bOr, ↓w_bNot, ↓w_bTrue, ↓w_chain, ↓w_oNone, ↓w_oSome, ↓w_slice, ↓w_kNil, ↓w_kCons, ↓w_dct, ↓w_dct0, ↓w_lst1, ↓w_fs, ↓w_get1, ↓w_get2, ↓ws_pass, ↓ws_break, ↓ws_cont, ↓ws_retN, ↓ws_seq, ↓ws_set, ↓ws_par, ↓ws_par3, ↓ws_expr, ↓ws_ret, ↓ws_if, ↓ws_raise, ↓ws_try, ↓ws_asg, ↓ws_nxo, ↓ws_sub, ↓ws_for, ↓wi_range1, ↓wi_range2, ↓wi_range3, ↓wi_seq, ↓wi_enum, wpo_ok, wpo_err, wpo_bind, ws_nx, ws_rt, ws_bk, ws_ct, ws_er, sq_nx, sq_rt, sq_bk, sq_ct, sq_er, lq_nx, lq_ct, lq_bk, lq_rt, lq_er, fq_nx, fq_rt, fq_er, tq_nx, tq_rt, tq_bk, tq_ct, tq_er, asV_ok, asB_ok, asI_ok, asK_int, asK_str, asP_ok, asP3_ok, asM_ok, asS_tup, asS_fz, asE_tup, asE_fz, add_ok, sub_ok, eq_ok, ne_ok, lt_ok, le_ok, gt_ok, ge_ok, neg_ok, isn_ok, notn_ok, int_ok, bind_ok, List.map_cons, List.map_nil, List.replicate, List.cons_append, List.nil_append, List.getElem?_cons_zero, List.getElem?_cons_succ, List.set_cons_zero, List.set_cons_succ, if_true, if_false, Bool.not_true, Bool.not_false, gc_same, Bool.false_eq_true, decide_true, decide_false, tName, tTup, tsCons, tsNil, List.length_cons, List.length_nil, ite_true, ite_false, reduceIte, reduceCtorEq, Nat.zero_add, Nat.reduceAdd, Nat.reduceEqDiff, Nat.reduceLeDiff, isNon, Int.zero_add, and_self, eq_self, ix0, ix1, ix2, ix3, ix4, ix5, isi_int, isi_nbl, isi_tup, isi_str, eqs_ok, nes_ok, len_tup, c_MOST_LIFE, is_within_int]
  by_cases h : (1 : Int) ≤ v ∧ v ≤ 1152921504606846976
  · simp only [↓wpo, ↓wps, ↓w_var, ↓w_k, ↓w_aNil, ↓w_aCons, ↓w_tup, ↓w_lst, ↓w_2, ↓w_1, ↓w_call, ↓w_if, ↓w_and, ↓w_or, ↓w_not, ↓w_bE, ↓w_bAnd, ↓w_bOr, ↓w_bNot, ↓w_bTrue, ↓w_chain, ↓w_oNone, ↓w_oSome, ↓w_slice, ↓w_kNil, ↓w_kCons, ↓w_dct, ↓w_dct0, ↓w_lst1, ↓w_fs, ↓w_get1, ↓w_get2, ↓ws_pass, ↓ws_break, ↓ws_cont, ↓ws_retN, ↓ws_seq, ↓ws_set, ↓ws_par, ↓ws_par3, ↓ws_expr, ↓ws_ret, ↓ws_if, ↓ws_raise, ↓ws_try, ↓ws_asg, ↓ws_nxo, ↓ws_sub, ↓ws_for, ↓wi_range1, ↓wi_range2, ↓wi_range3, ↓wi_seq, ↓wi_enum, wpo_ok, wpo_err, wpo_bind, ws_nx, ws_rt, ws_bk, ws_ct, ws_er, sq_nx, sq_rt, sq_bk, sq_ct, sq_er, lq_nx, lq_ct, lq_bk, lq_rt, lq_er, fq_nx, fq_rt, fq_er, tq_nx, tq_rt, tq_bk, tq_ct, tq_er, asV_ok, asB_ok, asI_ok, asK_int, asK_str, asP_ok, asP3_ok, asM_ok, asS_tup, asS_fz, asE_tup, asE_fz, add_ok, sub_ok, eq_ok, ne_ok, lt_ok, le_ok, gt_ok, ge_ok, neg_ok, isn_ok, notn_ok, int_ok, bind_ok, List.map_cons, List.map_nil, List.replicate, List.cons_append, List.nil_append, List.getElem?_cons_zero, List.getElem?_cons_succ, List.set_cons_zero, List.set_cons_succ, if_true, if_false, Bool.not_true, Bool.not_false, gc_same, Bool.false_eq_true, decide_true, decide_false, tName, tTup, tsCons, tsNil, List.length_cons, List.length_nil, ite_true, ite_false, reduceIte, reduceCtorEq, Nat.zero_add, Nat.reduceAdd, Nat.reduceEqDiff, Nat.reduceLeDiff, isNon, Int.zero_add, and_self, eq_self, ix0, ix1, ix2, ix3, ix4, ix5, isi_int, isi_nbl, isi_tup, isi_str, eqs_ok, nes_ok, len_tup, h, mod_ok (M := M) (i := v) (j := 2) (by omega), true_and, and_true, and_self]
  · have : ¬ ((1 : Int) ≤ v ∧ v ≤ 1152921504606846976 ∧ v % 2 = 1 - s) := fun z => h ⟨z.1, z.2.1⟩
    simp only [↓wpo, ↓wps, ↓w_var, ↓w_k, ↓w_aNil, ↓w_aCons, ↓w_tup, ↓w_lst, ↓w_2, ↓w_1, ↓w_call, ↓w_if, ↓w_and, ↓w_or, ↓w_not, ↓w_bE, ↓w_bAnd, ↓w_bOr, ↓w_bNot, ↓w_bTrue, ↓w_chain, ↓w_oNone, ↓w_oSome, ↓w_slice, ↓w_kNil, ↓w_kCons, ↓w_dct, ↓w_dct0, ↓w_lst1, ↓w_fs, ↓w_get1, ↓w_get2, ↓ws_pass, ↓ws_break, ↓ws_cont, ↓ws_retN, ↓ws_seq, ↓ws_set, ↓ws_par, ↓ws_par3, ↓ws_expr, ↓ws_ret, ↓ws_if, ↓ws_raise, ↓ws_try, ↓ws_asg, ↓ws_nxo, ↓ws_sub, ↓ws_for, ↓wi_range1, ↓wi_range2, ↓wi_range3, ↓wi_seq, ↓wi_enum, wpo_ok, wpo_err, wpo_bind, ws_nx, ws_rt, ws_bk, ws_ct, ws_er, sq_nx, sq_rt, sq_bk, sq_ct, sq_er, lq_nx, lq_ct, lq_bk, lq_rt, lq_er, fq_nx, fq_rt, fq_er, tq_nx, tq_rt, tq_bk, tq_ct, tq_er, asV_ok, asB_ok, asI_ok, asK_int, asK_str, asP_ok, asP3_ok, asM_ok, asS_tup, asS_fz, asE_tup, asE_fz, add_ok, sub_ok, eq_ok, ne_ok, lt_ok, le_ok, gt_ok, ge_ok, neg_ok, isn_ok, notn_ok, int_ok, bind_ok, List.map_cons, List.map_nil, List.replicate, List.cons_append, List.nil_append, List.getElem?_cons_zero, List.getElem?_cons_succ, List.set_cons_zero, List.set_cons_succ, if_true, if_false, Bool.not_true, Bool.not_false, gc_same, Bool.false_eq_true, decide_true, decide_false, tName, tTup, tsCons, tsNil, List.length_cons, List.length_nil, ite_true, ite_false, reduceIte, reduceCtorEq, Nat.zero_add, Nat.reduceAdd, Nat.reduceEqDiff, Nat.reduceLeDiff, isNon, Int.zero_add, and_self, eq_self, ix0, ix1, ix2, ix3, ix4, ix5, isi_int, isi_nbl, isi_tup, isi_str, eqs_ok, nes_ok, len_tup, h, this, and_self]
theorem kind_dec {v s : Nat} (h : kind v s) (hs : s ≤ 1) : (1 ≤ (v : Int) ∧ (v : Int) ≤ 1152921504606846976 ∧ (v : Int) % 2 = 1 - (s : Int)) := by
  obtain ⟨a, b, c⟩ := h
  omega
theorem is_kind_y {v s : Nat} (M : Mem) (h : kind v s) (hs : s ≤ 1) : f_is_kind [.int v, .int s] M = .ok (.bl true) M := by
  rw [is_kind_ok, decide_eq_true (kind_dec h hs)]
theorem need_side_ok {s : Nat} (M : Mem) (hs : s ≤ 1) : f_need_side [.int s] M = .ok (.int s) M := by
  unfold f_need_side
  rw [fDef_eq (by rfl)]
  have : (0 : Int) ≤ (s : Int) ∧ (s : Int) ≤ 1 := by omega
  simp only [sRet, sRetN, sSeq, sIf, sSet, sPar, sExpr, sPass, sBreak, sCont, sRaise, sAsg, nxo, bNot, bE, bAnd, bOr, bTrue, x1, x2, xVar, xK, xCall, xTup, xIf, xAnd, xOr, xNot, xChain, aCons, aNil, kNil, kCons, oNone, oSome, bind_ok, bind_err, bind_stk, toS_ok, toS_err, toS_stk, List.map_cons, List.map_nil, List.replicate, List.cons_append, List.nil_append, List.getElem?_cons_zero, List.getElem?_cons_succ, List.set_cons_zero, List.set_cons_succ, if_true, if_false, Bool.not_true, Bool.not_false, fin_rt, fin_nx, fin_er, gc_same, Bool.false_eq_true, decide_true, decide_false, tName, tTup, tsCons, tsNil, List.length_cons, List.length_nil, ite_true, ite_false, reduceIte, reduceCtorEq, Nat.zero_add, Nat.reduceAdd, Nat.reduceEqDiff, Nat.reduceLeDiff, szle, dite_true, is_within_int, this, and_self]
theorem is_life_ok {v s : Nat} (M : Mem) (h : kind v s) (hs : s ≤ 1) : f_is_life [.int v, .int s] M = .ok (.bl true) M := by
  unfold f_is_life
  rw [fDef_eq (by rfl)]
  simp only [sRet, sRetN, sSeq, sIf, sSet, sPar, sExpr, sPass, sBreak, sCont, sRaise, sAsg, nxo, bNot, bE, bAnd, bOr, bTrue, x1, x2, xVar, xK, xCall, xTup, xIf, xAnd, xOr, xNot, xChain, aCons, aNil, kNil, kCons, oNone, oSome, bind_ok, bind_err, bind_stk, toS_ok, toS_err, toS_stk, List.map_cons, List.map_nil, List.replicate, List.cons_append, List.nil_append, List.getElem?_cons_zero, List.getElem?_cons_succ, List.set_cons_zero, List.set_cons_succ, if_true, if_false, Bool.not_true, Bool.not_false, fin_rt, fin_nx, fin_er, gc_same, Bool.false_eq_true, decide_true, decide_false, tName, tTup, tsCons, tsNil, List.length_cons, List.length_nil, ite_true, ite_false, reduceIte, reduceCtorEq, Nat.zero_add, Nat.reduceAdd, Nat.reduceEqDiff, Nat.reduceLeDiff, szle, dite_true, need_side_ok M hs, is_kind_y M h hs]
theorem need_life_ok {v s : Nat} (M : Mem) (h : kind v s) (hs : s ≤ 1) : f_need_life [.int v, .int s] M = .ok (.int v) M := by
  unfold f_need_life
  rw [fDef_eq (by rfl)]
  simp only [sRet, sRetN, sSeq, sIf, sSet, sPar, sExpr, sPass, sBreak, sCont, sRaise, sAsg, nxo, bNot, bE, bAnd, bOr, bTrue, x1, x2, xVar, xK, xCall, xTup, xIf, xAnd, xOr, xNot, xChain, aCons, aNil, kNil, kCons, oNone, oSome, bind_ok, bind_err, bind_stk, toS_ok, toS_err, toS_stk, List.map_cons, List.map_nil, List.replicate, List.cons_append, List.nil_append, List.getElem?_cons_zero, List.getElem?_cons_succ, List.set_cons_zero, List.set_cons_succ, if_true, if_false, Bool.not_true, Bool.not_false, fin_rt, fin_nx, fin_er, gc_same, Bool.false_eq_true, decide_true, decide_false, tName, tTup, tsCons, tsNil, List.length_cons, List.length_nil, ite_true, ite_false, reduceIte, reduceCtorEq, Nat.zero_add, Nat.reduceAdd, Nat.reduceEqDiff, Nat.reduceLeDiff, szle, dite_true, is_life_ok M h hs]
theorem is_peer_ok {v s : Nat} (M : Mem) (h : v = 0 ∨ kind v (1 - s)) (hs : s ≤ 1) : f_is_peer [.int v, .int s] M = .ok (.bl true) M := by
  unfold f_is_peer
  rw [fDef_eq (by rfl)]
  have e : (1 : Int) - (s : Int) = ((1 - s : Nat) : Int) := by omega
  by_cases hv : v = 0
  · subst hv
    simp only [sRet, sRetN, sSeq, sIf, sSet, sPar, sExpr, sPass, sBreak, sCont, sRaise, sAsg, nxo, bNot, bE, bAnd, bOr, bTrue, x1, x2, xVar, xK, xCall, xTup, xIf, xAnd, xOr, xNot, xChain, aCons, aNil, kNil, kCons, oNone, oSome, bind_ok, bind_err, bind_stk, toS_ok, toS_err, toS_stk, List.map_cons, List.map_nil, List.replicate, List.cons_append, List.nil_append, List.getElem?_cons_zero, List.getElem?_cons_succ, List.set_cons_zero, List.set_cons_succ, if_true, if_false, Bool.not_true, Bool.not_false, fin_rt, fin_nx, fin_er, gc_same, Bool.false_eq_true, decide_true, decide_false, tName, tTup, tsCons, tsNil, List.length_cons, List.length_nil, ite_true, ite_false, reduceIte, reduceCtorEq, Nat.zero_add, Nat.reduceAdd, Nat.reduceEqDiff, Nat.reduceLeDiff, szle, dite_true, isi_int, isi_nbl, eq_ok, Int.natCast_zero]
  · have hk : kind v (1 - s) := h.resolve_left hv
    have : ¬ ((v : Int) = 0) := by omega
    simp only [sRet, sRetN, sSeq, sIf, sSet, sPar, sExpr, sPass, sBreak, sCont, sRaise, sAsg, nxo, bNot, bE, bAnd, bOr, bTrue, x1, x2, xVar, xK, xCall, xTup, xIf, xAnd, xOr, xNot, xChain, aCons, aNil, kNil, kCons, oNone, oSome, bind_ok, bind_err, bind_stk, toS_ok, toS_err, toS_stk, List.map_cons, List.map_nil, List.replicate, List.cons_append, List.nil_append, List.getElem?_cons_zero, List.getElem?_cons_succ, List.set_cons_zero, List.set_cons_succ, if_true, if_false, Bool.not_true, Bool.not_false, fin_rt, fin_nx, fin_er, gc_same, Bool.false_eq_true, decide_true, decide_false, tName, tTup, tsCons, tsNil, List.length_cons, List.length_nil, ite_true, ite_false, reduceIte, reduceCtorEq, Nat.zero_add, Nat.reduceAdd, Nat.reduceEqDiff, Nat.reduceLeDiff, szle, dite_true, isi_int, isi_nbl, eq_ok, this, sub_ok, e, is_kind_y M hk (by omega)]
theorem link_fault_ok {l : Lk} (M : Mem) (h : okL l) : f_link_fault [dl l] M = .ok .non M := by
  obtain ⟨s, m, p, ph⟩ := l
  obtain ⟨h1, h2, h3, h4⟩ := h
  dsimp only at h1 h2 h3 h4
  have tl : f_is_tuple_of [dl ⟨s, m, p, ph⟩, .int 4] M = .ok (.bl true) M := by
    unfold f_is_tuple_of dl
    rw [fDef_eq (by rfl)]
    have e : ((4 : Nat) : Int) = 4 := rfl
    simp only [sRet, sRetN, sSeq, sIf, sSet, sPar, sExpr, sPass, sBreak, sCont, sRaise, sAsg, nxo, bNot, bE, bAnd, bOr, bTrue, x1, x2, xVar, xK, xCall, xTup, xIf, xAnd, xOr, xNot, xChain, aCons, aNil, kNil, kCons, oNone, oSome, bind_ok, bind_err, bind_stk, toS_ok, toS_err, toS_stk, List.map_cons, List.map_nil, List.replicate, List.cons_append, List.nil_append, List.getElem?_cons_zero, List.getElem?_cons_succ, List.set_cons_zero, List.set_cons_succ, if_true, if_false, Bool.not_true, Bool.not_false, fin_rt, fin_nx, fin_er, gc_same, Bool.false_eq_true, decide_true, decide_false, tName, tTup, tsCons, tsNil, List.length_cons, List.length_nil, ite_true, ite_false, reduceIte, reduceCtorEq, Nat.zero_add, Nat.reduceAdd, Nat.reduceEqDiff, Nat.reduceLeDiff, szle, dite_true, isi_tup, len_tup, eq_ok, e]
  have rs : rowOf (.tup [.int 0, .int 1]) M = some [.int 0, .int 1] := rfl
  have in1 : oInF true (.int s) (.tup [.int 0, .int 1]) M = .ok (.bl false) M := by
    unfold oInF
    have h01 : s = 0 ∨ s = 1 := by omega
    rcases h01 with rfl | rfl <;> simp [rs, flatD, eqF]
  have in2 : oInF true (.str (phS ph)) c_PHASES M = .ok (.bl false) M := by
    unfold oInF c_PHASES
    cases ph <;> simp [rowOf, flatD, eqF, phS]
  have z2 : 2 ≤ 16777216 := by decide
  refine wpo_eq ?_
  unfold f_link_fault
  rw [wp_def (by rfl)]
  simp only [↓wpo, ↓wps, ↓w_var, ↓w_k, ↓w_aNil, ↓w_aCons, ↓w_tup, ↓w_lst, ↓w_2, ↓w_1, ↓w_call, ↓w_if, ↓w_and, ↓w_or, ↓w_not, ↓w_bE, ↓w_bAnd, ↓w_bOr, ↓w_bNot, ↓w_bTrue, ↓w_chain, ↓w_oNone, ↓w_oSome, ↓w_slice, ↓w_kNil, ↓w_kCons, ↓w_dct, ↓w_dct0, ↓w_lst1, ↓w_fs, ↓w_get1, ↓w_get2, ↓ws_pass, ↓ws_break, ↓ws_cont, ↓ws_retN, ↓ws_seq, ↓ws_set, ↓ws_par, ↓ws_par3, ↓ws_expr, ↓ws_ret, ↓ws_if, ↓ws_raise, ↓ws_try, ↓ws_asg, ↓ws_nxo, ↓ws_sub, ↓ws_for, ↓wi_range1, ↓wi_range2, ↓wi_range3, ↓wi_seq, ↓wi_enum, wpo_ok, wpo_err, wpo_bind, ws_nx, ws_rt, ws_bk, ws_ct, ws_er, sq_nx, sq_rt, sq_bk, sq_ct, sq_er, lq_nx, lq_ct, lq_bk, lq_rt, lq_er, fq_nx, fq_rt, fq_er, tq_nx, tq_rt, tq_bk, tq_ct, tq_er, asV_ok, asB_ok, asI_ok, asK_int, asK_str, asP_ok, asP3_ok, asM_ok, asS_tup, asS_fz, asE_tup, asE_fz, add_ok, sub_ok, eq_ok, ne_ok, lt_ok, le_ok, gt_ok, ge_ok, neg_ok, isn_ok, notn_ok, int_ok, bind_ok, List.map_cons, List.map_nil, List.replicate, List.cons_append, List.nil_append, List.getElem?_cons_zero, List.getElem?_cons_succ, List.set_cons_zero, List.set_cons_succ, if_true, if_false, Bool.not_true, Bool.not_false, gc_same, Bool.false_eq_true, decide_true, decide_false, tName, tTup, tsCons, tsNil, List.length_cons, List.length_nil, ite_true, ite_false, reduceIte, reduceCtorEq, Nat.zero_add, Nat.reduceAdd, Nat.reduceEqDiff, Nat.reduceLeDiff, isNon, Int.zero_add, and_self, eq_self, ix0, ix1, ix2, ix3, ix4, ix5, isi_int, isi_nbl, isi_tup, isi_str, eqs_ok, nes_ok, len_tup, tl]
  unfold dl
  simp only [↓wpo, ↓wps, ↓w_var, ↓w_k, ↓w_aNil, ↓w_aCons, ↓w_tup, ↓w_lst, ↓w_2, ↓w_1, ↓w_call, ↓w_if, ↓w_and, ↓w_or, ↓w_not, ↓w_bE, ↓w_bAnd, ↓w_bOr, ↓w_bNot, ↓w_bTrue, ↓w_chain, ↓w_oNone, ↓w_oSome, ↓w_slice, ↓w_kNil, ↓w_kCons, ↓w_dct, ↓w_dct0, ↓w_lst1, ↓w_fs, ↓w_get1, ↓w_get2, ↓ws_pass, ↓ws_break, ↓ws_cont, ↓ws_retN, ↓ws_seq, ↓ws_set, ↓ws_par, ↓ws_par3, ↓ws_expr, ↓ws_ret, ↓ws_if, ↓ws_raise, ↓ws_try, ↓ws_asg, ↓ws_nxo, ↓ws_sub, ↓ws_for, ↓wi_range1, ↓wi_range2, ↓wi_range3, ↓wi_seq, ↓wi_enum, wpo_ok, wpo_err, wpo_bind, ws_nx, ws_rt, ws_bk, ws_ct, ws_er, sq_nx, sq_rt, sq_bk, sq_ct, sq_er, lq_nx, lq_ct, lq_bk, lq_rt, lq_er, fq_nx, fq_rt, fq_er, tq_nx, tq_rt, tq_bk, tq_ct, tq_er, asV_ok, asB_ok, asI_ok, asK_int, asK_str, asP_ok, asP3_ok, asM_ok, asS_tup, asS_fz, asE_tup, asE_fz, add_ok, sub_ok, eq_ok, ne_ok, lt_ok, le_ok, gt_ok, ge_ok, neg_ok, isn_ok, notn_ok, int_ok, bind_ok, List.map_cons, List.map_nil, List.replicate, List.cons_append, List.nil_append, List.getElem?_cons_zero, List.getElem?_cons_succ, List.set_cons_zero, List.set_cons_succ, if_true, if_false, Bool.not_true, Bool.not_false, gc_same, Bool.false_eq_true, decide_true, decide_false, tName, tTup, tsCons, tsNil, List.length_cons, List.length_nil, ite_true, ite_false, reduceIte, reduceCtorEq, Nat.zero_add, Nat.reduceAdd, Nat.reduceEqDiff, Nat.reduceLeDiff, isNon, Int.zero_add, and_self, eq_self, ix0, ix1, ix2, ix3, ix4, ix5, isi_int, isi_nbl, isi_tup, isi_str, eqs_ok, nes_ok, len_tup, ix0, isi_int, isi_nbl, z2, in1, is_kind_y M h2 h1, is_peer_ok M h3 h1, isi_str, in2]
  by_cases hp : p = 0
  · have := h4 hp
    subst hp this
    have e : ((0 : Nat) : Int) = 0 := rfl
    have e2 : phS .new = "new" := rfl
    simp only [↓wpo, ↓wps, ↓w_var, ↓w_k, ↓w_aNil, ↓w_aCons, ↓w_tup, ↓w_lst, ↓w_2, ↓w_1, ↓w_call, ↓w_if, ↓w_and, ↓w_or, ↓w_not, ↓w_bE, ↓w_bAnd, ↓w_bOr, ↓w_bNot, ↓w_bTrue, ↓w_chain, ↓w_oNone, ↓w_oSome, ↓w_slice, ↓w_kNil, ↓w_kCons, ↓w_dct, ↓w_dct0, ↓w_lst1, ↓w_fs, ↓w_get1, ↓w_get2, ↓ws_pass, ↓ws_break, ↓ws_cont, ↓ws_retN, ↓ws_seq, ↓ws_set, ↓ws_par, ↓ws_par3, ↓ws_expr, ↓ws_ret, ↓ws_if, ↓ws_raise, ↓ws_try, ↓ws_asg, ↓ws_nxo, ↓ws_sub, ↓ws_for, ↓wi_range1, ↓wi_range2, ↓wi_range3, ↓wi_seq, ↓wi_enum, wpo_ok, wpo_err, wpo_bind, ws_nx, ws_rt, ws_bk, ws_ct, ws_er, sq_nx, sq_rt, sq_bk, sq_ct, sq_er, lq_nx, lq_ct, lq_bk, lq_rt, lq_er, fq_nx, fq_rt, fq_er, tq_nx, tq_rt, tq_bk, tq_ct, tq_er, asV_ok, asB_ok, asI_ok, asK_int, asK_str, asP_ok, asP3_ok, asM_ok, asS_tup, asS_fz, asE_tup, asE_fz, add_ok, sub_ok, eq_ok, ne_ok, lt_ok, le_ok, gt_ok, ge_ok, neg_ok, isn_ok, notn_ok, int_ok, bind_ok, List.map_cons, List.map_nil, List.replicate, List.cons_append, List.nil_append, List.getElem?_cons_zero, List.getElem?_cons_succ, List.set_cons_zero, List.set_cons_succ, if_true, if_false, Bool.not_true, Bool.not_false, gc_same, Bool.false_eq_true, decide_true, decide_false, tName, tTup, tsCons, tsNil, List.length_cons, List.length_nil, ite_true, ite_false, reduceIte, reduceCtorEq, Nat.zero_add, Nat.reduceAdd, Nat.reduceEqDiff, Nat.reduceLeDiff, isNon, Int.zero_add, and_self, eq_self, ix0, ix1, ix2, ix3, ix4, ix5, isi_int, isi_nbl, isi_tup, isi_str, eqs_ok, nes_ok, len_tup, e, nes_ok, e2]
  · have : ¬ ((p : Int) = 0) := by omega
    simp only [↓wpo, ↓wps, ↓w_var, ↓w_k, ↓w_aNil, ↓w_aCons, ↓w_tup, ↓w_lst, ↓w_2, ↓w_1, ↓w_call, ↓w_if, ↓w_and, ↓w_or, ↓w_not, ↓w_bE, ↓w_bAnd, ↓w_bOr, ↓w_bNot, ↓w_bTrue, ↓w_chain, ↓w_oNone, ↓w_oSome, ↓w_slice, ↓w_kNil, ↓w_kCons, ↓w_dct, ↓w_dct0, ↓w_lst1, ↓w_fs, ↓w_get1, ↓w_get2, ↓ws_pass, ↓ws_break, ↓ws_cont, ↓ws_retN, ↓ws_seq, ↓ws_set, ↓ws_par, ↓ws_par3, ↓ws_expr, ↓ws_ret, ↓ws_if, ↓ws_raise, ↓ws_try, ↓ws_asg, ↓ws_nxo, ↓ws_sub, ↓ws_for, ↓wi_range1, ↓wi_range2, ↓wi_range3, ↓wi_seq, ↓wi_enum, wpo_ok, wpo_err, wpo_bind, ws_nx, ws_rt, ws_bk, ws_ct, ws_er, sq_nx, sq_rt, sq_bk, sq_ct, sq_er, lq_nx, lq_ct, lq_bk, lq_rt, lq_er, fq_nx, fq_rt, fq_er, tq_nx, tq_rt, tq_bk, tq_ct, tq_er, asV_ok, asB_ok, asI_ok, asK_int, asK_str, asP_ok, asP3_ok, asM_ok, asS_tup, asS_fz, asE_tup, asE_fz, add_ok, sub_ok, eq_ok, ne_ok, lt_ok, le_ok, gt_ok, ge_ok, neg_ok, isn_ok, notn_ok, int_ok, bind_ok, List.map_cons, List.map_nil, List.replicate, List.cons_append, List.nil_append, List.getElem?_cons_zero, List.getElem?_cons_succ, List.set_cons_zero, List.set_cons_succ, if_true, if_false, Bool.not_true, Bool.not_false, gc_same, Bool.false_eq_true, decide_true, decide_false, tName, tTup, tsCons, tsNil, List.length_cons, List.length_nil, ite_true, ite_false, reduceIte, reduceCtorEq, Nat.zero_add, Nat.reduceAdd, Nat.reduceEqDiff, Nat.reduceLeDiff, isNon, Int.zero_add, and_self, eq_self, ix0, ix1, ix2, ix3, ix4, ix5, isi_int, isi_nbl, isi_tup, isi_str, eqs_ok, nes_ok, len_tup, this]
theorem need_link_ok {l : Lk} (M : Mem) (h : okL l) : f_need_link [dl l] M = .ok (dl l) M := by
  unfold f_need_link
  rw [fDef_eq (by rfl)]
  have : isNon .non = true := rfl
  simp only [sRet, sRetN, sSeq, sIf, sSet, sPar, sExpr, sPass, sBreak, sCont, sRaise, sAsg, nxo, bNot, bE, bAnd, bOr, bTrue, x1, x2, xVar, xK, xCall, xTup, xIf, xAnd, xOr, xNot, xChain, aCons, aNil, kNil, kCons, oNone, oSome, bind_ok, bind_err, bind_stk, toS_ok, toS_err, toS_stk, List.map_cons, List.map_nil, List.replicate, List.cons_append, List.nil_append, List.getElem?_cons_zero, List.getElem?_cons_succ, List.set_cons_zero, List.set_cons_succ, if_true, if_false, Bool.not_true, Bool.not_false, fin_rt, fin_nx, fin_er, gc_same, Bool.false_eq_true, decide_true, decide_false, tName, tTup, tsCons, tsNil, List.length_cons, List.length_nil, ite_true, ite_false, reduceIte, reduceCtorEq, Nat.zero_add, Nat.reduceAdd, Nat.reduceEqDiff, Nat.reduceLeDiff, szle, dite_true, link_fault_ok M h, notn_ok, this]
theorem need_header_ok {l : Lk} {a b : Nat} (M : Mem) (h : okL l) (ha : kind a (1 - l.side)) (hb : b = 0 ∨ kind b l.side) : f_need_header [dl l, .int a, .int b] M = .ok .non M := by
  have h1 := h.s
  have e : (1 : Int) - (l.side : Int) = ((1 - l.side : Nat) : Int) := by omega
  have e2 : 1 - (1 - l.side) = l.side := by omega
  refine wpo_eq ?_
  unfold f_need_header dl
  rw [wp_def (by rfl)]
  simp only [↓wpo, ↓wps, ↓w_var, ↓w_k, ↓w_aNil, ↓w_aCons, ↓w_tup, ↓w_lst, ↓w_2, ↓w_1, ↓w_call, ↓w_if, ↓w_and, ↓w_or, ↓w_not, ↓w_bE, ↓w_bAnd, ↓w_bOr, ↓w_bNot, ↓w_bTrue, ↓w_chain, ↓w_oNone, ↓w_oSome, ↓w_slice, ↓w_kNil, ↓w_kCons, ↓w_dct, ↓w_dct0, ↓w_lst1, ↓w_fs, ↓w_get1, ↓w_get2, ↓ws_pass, ↓ws_break, ↓ws_cont, ↓ws_retN, ↓ws_seq, ↓ws_set, ↓ws_par, ↓ws_par3, ↓ws_expr, ↓ws_ret, ↓ws_if, ↓ws_raise, ↓ws_try, ↓ws_asg, ↓ws_nxo, ↓ws_sub, ↓ws_for, ↓wi_range1, ↓wi_range2, ↓wi_range3, ↓wi_seq, ↓wi_enum, wpo_ok, wpo_err, wpo_bind, ws_nx, ws_rt, ws_bk, ws_ct, ws_er, sq_nx, sq_rt, sq_bk, sq_ct, sq_er, lq_nx, lq_ct, lq_bk, lq_rt, lq_er, fq_nx, fq_rt, fq_er, tq_nx, tq_rt, tq_bk, tq_ct, tq_er, asV_ok, asB_ok, asI_ok, asK_int, asK_str, asP_ok, asP3_ok, asM_ok, asS_tup, asS_fz, asE_tup, asE_fz, add_ok, sub_ok, eq_ok, ne_ok, lt_ok, le_ok, gt_ok, ge_ok, neg_ok, isn_ok, notn_ok, int_ok, bind_ok, List.map_cons, List.map_nil, List.replicate, List.cons_append, List.nil_append, List.getElem?_cons_zero, List.getElem?_cons_succ, List.set_cons_zero, List.set_cons_succ, if_true, if_false, Bool.not_true, Bool.not_false, gc_same, Bool.false_eq_true, decide_true, decide_false, tName, tTup, tsCons, tsNil, List.length_cons, List.length_nil, ite_true, ite_false, reduceIte, reduceCtorEq, Nat.zero_add, Nat.reduceAdd, Nat.reduceEqDiff, Nat.reduceLeDiff, isNon, Int.zero_add, and_self, eq_self, ix0, ix1, ix2, ix3, ix4, ix5, isi_int, isi_nbl, isi_tup, isi_str, eqs_ok, nes_ok, len_tup, ix0, e, need_life_ok M ha (by omega), is_peer_ok (v := b) (s := 1 - l.side) M (by rw [e2]; exact hb) (by omega), and_self]
theorem heard_by_ok {l : Lk} {a b : Nat} (M : Mem) : f_heard_by [dl l, .int a, .int b] M = .ok (dl (heard l a b)) M := by
  obtain ⟨s, m, p, ph⟩ := l
  have z4 : 4 ≤ 16777216 := by decide
  refine wpo_eq ?_
  unfold f_heard_by dl
  rw [wp_def (by rfl)]
  simp only [↓wpo, ↓wps, ↓w_var, ↓w_k, ↓w_aNil, ↓w_aCons, ↓w_tup, ↓w_lst, ↓w_2, ↓w_1, ↓w_call, ↓w_if, ↓w_and, ↓w_or, ↓w_not, ↓w_bE, ↓w_bAnd, ↓w_bOr, ↓w_bNot, ↓w_bTrue, ↓w_chain, ↓w_oNone, ↓w_oSome, ↓w_slice, ↓w_kNil, ↓w_kCons, ↓w_dct, ↓w_dct0, ↓w_lst1, ↓w_fs, ↓w_get1, ↓w_get2, ↓ws_pass, ↓ws_break, ↓ws_cont, ↓ws_retN, ↓ws_seq, ↓ws_set, ↓ws_par, ↓ws_par3, ↓ws_expr, ↓ws_ret, ↓ws_if, ↓ws_raise, ↓ws_try, ↓ws_asg, ↓ws_nxo, ↓ws_sub, ↓ws_for, ↓wi_range1, ↓wi_range2, ↓wi_range3, ↓wi_seq, ↓wi_enum, wpo_ok, wpo_err, wpo_bind, ws_nx, ws_rt, ws_bk, ws_ct, ws_er, sq_nx, sq_rt, sq_bk, sq_ct, sq_er, lq_nx, lq_ct, lq_bk, lq_rt, lq_er, fq_nx, fq_rt, fq_er, tq_nx, tq_rt, tq_bk, tq_ct, tq_er, asV_ok, asB_ok, asI_ok, asK_int, asK_str, asP_ok, asP3_ok, asM_ok, asS_tup, asS_fz, asE_tup, asE_fz, add_ok, sub_ok, eq_ok, ne_ok, lt_ok, le_ok, gt_ok, ge_ok, neg_ok, isn_ok, notn_ok, int_ok, bind_ok, List.map_cons, List.map_nil, List.replicate, List.cons_append, List.nil_append, List.getElem?_cons_zero, List.getElem?_cons_succ, List.set_cons_zero, List.set_cons_succ, if_true, if_false, Bool.not_true, Bool.not_false, gc_same, Bool.false_eq_true, decide_true, decide_false, tName, tTup, tsCons, tsNil, List.length_cons, List.length_nil, ite_true, ite_false, reduceIte, reduceCtorEq, Nat.zero_add, Nat.reduceAdd, Nat.reduceEqDiff, Nat.reduceLeDiff, isNon, Int.zero_add, and_self, eq_self, ix0, ix1, ix2, ix3, ix4, ix5, isi_int, isi_nbl, isi_tup, isi_str, eqs_ok, nes_ok, len_tup, eqs_ok, ph_gone, heard]
  by_cases hg : ph = .gone
  · simp only [↓wpo, ↓wps, ↓w_var, ↓w_k, ↓w_aNil, ↓w_aCons, ↓w_tup, ↓w_lst, ↓w_2, ↓w_1, ↓w_call, ↓w_if, ↓w_and, ↓w_or, ↓w_not, ↓w_bE, ↓w_bAnd, ↓w_bOr, ↓w_bNot, ↓w_bTrue, ↓w_chain, ↓w_oNone, ↓w_oSome, ↓w_slice, ↓w_kNil, ↓w_kCons, ↓w_dct, ↓w_dct0, ↓w_lst1, ↓w_fs, ↓w_get1, ↓w_get2, ↓ws_pass, ↓ws_break, ↓ws_cont, ↓ws_retN, ↓ws_seq, ↓ws_set, ↓ws_par, ↓ws_par3, ↓ws_expr, ↓ws_ret, ↓ws_if, ↓ws_raise, ↓ws_try, ↓ws_asg, ↓ws_nxo, ↓ws_sub, ↓ws_for, ↓wi_range1, ↓wi_range2, ↓wi_range3, ↓wi_seq, ↓wi_enum, wpo_ok, wpo_err, wpo_bind, ws_nx, ws_rt, ws_bk, ws_ct, ws_er, sq_nx, sq_rt, sq_bk, sq_ct, sq_er, lq_nx, lq_ct, lq_bk, lq_rt, lq_er, fq_nx, fq_rt, fq_er, tq_nx, tq_rt, tq_bk, tq_ct, tq_er, asV_ok, asB_ok, asI_ok, asK_int, asK_str, asP_ok, asP3_ok, asM_ok, asS_tup, asS_fz, asE_tup, asE_fz, add_ok, sub_ok, eq_ok, ne_ok, lt_ok, le_ok, gt_ok, ge_ok, neg_ok, isn_ok, notn_ok, int_ok, bind_ok, List.map_cons, List.map_nil, List.replicate, List.cons_append, List.nil_append, List.getElem?_cons_zero, List.getElem?_cons_succ, List.set_cons_zero, List.set_cons_succ, if_true, if_false, Bool.not_true, Bool.not_false, gc_same, Bool.false_eq_true, decide_true, decide_false, tName, tTup, tsCons, tsNil, List.length_cons, List.length_nil, ite_true, ite_false, reduceIte, reduceCtorEq, Nat.zero_add, Nat.reduceAdd, Nat.reduceEqDiff, Nat.reduceLeDiff, isNon, Int.zero_add, and_self, eq_self, ix0, ix1, ix2, ix3, ix4, ix5, isi_int, isi_nbl, isi_tup, isi_str, eqs_ok, nes_ok, len_tup, hg, true_or, and_self]
  · by_cases hl : (a : Int) < (p : Int)
    · have hl' : a < p := by omega
      simp only [↓wpo, ↓wps, ↓w_var, ↓w_k, ↓w_aNil, ↓w_aCons, ↓w_tup, ↓w_lst, ↓w_2, ↓w_1, ↓w_call, ↓w_if, ↓w_and, ↓w_or, ↓w_not, ↓w_bE, ↓w_bAnd, ↓w_bOr, ↓w_bNot, ↓w_bTrue, ↓w_chain, ↓w_oNone, ↓w_oSome, ↓w_slice, ↓w_kNil, ↓w_kCons, ↓w_dct, ↓w_dct0, ↓w_lst1, ↓w_fs, ↓w_get1, ↓w_get2, ↓ws_pass, ↓ws_break, ↓ws_cont, ↓ws_retN, ↓ws_seq, ↓ws_set, ↓ws_par, ↓ws_par3, ↓ws_expr, ↓ws_ret, ↓ws_if, ↓ws_raise, ↓ws_try, ↓ws_asg, ↓ws_nxo, ↓ws_sub, ↓ws_for, ↓wi_range1, ↓wi_range2, ↓wi_range3, ↓wi_seq, ↓wi_enum, wpo_ok, wpo_err, wpo_bind, ws_nx, ws_rt, ws_bk, ws_ct, ws_er, sq_nx, sq_rt, sq_bk, sq_ct, sq_er, lq_nx, lq_ct, lq_bk, lq_rt, lq_er, fq_nx, fq_rt, fq_er, tq_nx, tq_rt, tq_bk, tq_ct, tq_er, asV_ok, asB_ok, asI_ok, asK_int, asK_str, asP_ok, asP3_ok, asM_ok, asS_tup, asS_fz, asE_tup, asE_fz, add_ok, sub_ok, eq_ok, ne_ok, lt_ok, le_ok, gt_ok, ge_ok, neg_ok, isn_ok, notn_ok, int_ok, bind_ok, List.map_cons, List.map_nil, List.replicate, List.cons_append, List.nil_append, List.getElem?_cons_zero, List.getElem?_cons_succ, List.set_cons_zero, List.set_cons_succ, if_true, if_false, Bool.not_true, Bool.not_false, gc_same, Bool.false_eq_true, decide_true, decide_false, tName, tTup, tsCons, tsNil, List.length_cons, List.length_nil, ite_true, ite_false, reduceIte, reduceCtorEq, Nat.zero_add, Nat.reduceAdd, Nat.reduceEqDiff, Nat.reduceLeDiff, isNon, Int.zero_add, and_self, eq_self, ix0, ix1, ix2, ix3, ix4, ix5, isi_int, isi_nbl, isi_tup, isi_str, eqs_ok, nes_ok, len_tup, hg, hl, hl', or_true, and_self]
    · have hl' : ¬ a < p := by omega
      simp only [↓wpo, ↓wps, ↓w_var, ↓w_k, ↓w_aNil, ↓w_aCons, ↓w_tup, ↓w_lst, ↓w_2, ↓w_1, ↓w_call, ↓w_if, ↓w_and, ↓w_or, ↓w_not, ↓w_bE, ↓w_bAnd, ↓w_bOr, ↓w_bNot, ↓w_bTrue, ↓w_chain, ↓w_oNone, ↓w_oSome, ↓w_slice, ↓w_kNil, ↓w_kCons, ↓w_dct, ↓w_dct0, ↓w_lst1, ↓w_fs, ↓w_get1, ↓w_get2, ↓ws_pass, ↓ws_break, ↓ws_cont, ↓ws_retN, ↓ws_seq, ↓ws_set, ↓ws_par, ↓ws_par3, ↓ws_expr, ↓ws_ret, ↓ws_if, ↓ws_raise, ↓ws_try, ↓ws_asg, ↓ws_nxo, ↓ws_sub, ↓ws_for, ↓wi_range1, ↓wi_range2, ↓wi_range3, ↓wi_seq, ↓wi_enum, wpo_ok, wpo_err, wpo_bind, ws_nx, ws_rt, ws_bk, ws_ct, ws_er, sq_nx, sq_rt, sq_bk, sq_ct, sq_er, lq_nx, lq_ct, lq_bk, lq_rt, lq_er, fq_nx, fq_rt, fq_er, tq_nx, tq_rt, tq_bk, tq_ct, tq_er, asV_ok, asB_ok, asI_ok, asK_int, asK_str, asP_ok, asP3_ok, asM_ok, asS_tup, asS_fz, asE_tup, asE_fz, add_ok, sub_ok, eq_ok, ne_ok, lt_ok, le_ok, gt_ok, ge_ok, neg_ok, isn_ok, notn_ok, int_ok, bind_ok, List.map_cons, List.map_nil, List.replicate, List.cons_append, List.nil_append, List.getElem?_cons_zero, List.getElem?_cons_succ, List.set_cons_zero, List.set_cons_succ, if_true, if_false, Bool.not_true, Bool.not_false, gc_same, Bool.false_eq_true, decide_true, decide_false, tName, tTup, tsCons, tsNil, List.length_cons, List.length_nil, ite_true, ite_false, reduceIte, reduceCtorEq, Nat.zero_add, Nat.reduceAdd, Nat.reduceEqDiff, Nat.reduceLeDiff, isNon, Int.zero_add, and_self, eq_self, ix0, ix1, ix2, ix3, ix4, ix5, isi_int, isi_nbl, isi_tup, isi_str, eqs_ok, nes_ok, len_tup, hg, hl, hl', or_self, z4]
      by_cases hs : ph = .sure
      · by_cases hap : (p : Int) < (a : Int)
        · have h1 : a ≠ p := by omega
          have e2 : phS .gone = "gone" := rfl
          simp only [↓wpo, ↓wps, ↓w_var, ↓w_k, ↓w_aNil, ↓w_aCons, ↓w_tup, ↓w_lst, ↓w_2, ↓w_1, ↓w_call, ↓w_if, ↓w_and, ↓w_or, ↓w_not, ↓w_bE, ↓w_bAnd, ↓w_bOr, ↓w_bNot, ↓w_bTrue, ↓w_chain, ↓w_oNone, ↓w_oSome, ↓w_slice, ↓w_kNil, ↓w_kCons, ↓w_dct, ↓w_dct0, ↓w_lst1, ↓w_fs, ↓w_get1, ↓w_get2, ↓ws_pass, ↓ws_break, ↓ws_cont, ↓ws_retN, ↓ws_seq, ↓ws_set, ↓ws_par, ↓ws_par3, ↓ws_expr, ↓ws_ret, ↓ws_if, ↓ws_raise, ↓ws_try, ↓ws_asg, ↓ws_nxo, ↓ws_sub, ↓ws_for, ↓wi_range1, ↓wi_range2, ↓wi_range3, ↓wi_seq, ↓wi_enum, wpo_ok, wpo_err, wpo_bind, ws_nx, ws_rt, ws_bk, ws_ct, ws_er, sq_nx, sq_rt, sq_bk, sq_ct, sq_er, lq_nx, lq_ct, lq_bk, lq_rt, lq_er, fq_nx, fq_rt, fq_er, tq_nx, tq_rt, tq_bk, tq_ct, tq_er, asV_ok, asB_ok, asI_ok, asK_int, asK_str, asP_ok, asP3_ok, asM_ok, asS_tup, asS_fz, asE_tup, asE_fz, add_ok, sub_ok, eq_ok, ne_ok, lt_ok, le_ok, gt_ok, ge_ok, neg_ok, isn_ok, notn_ok, int_ok, bind_ok, List.map_cons, List.map_nil, List.replicate, List.cons_append, List.nil_append, List.getElem?_cons_zero, List.getElem?_cons_succ, List.set_cons_zero, List.set_cons_succ, if_true, if_false, Bool.not_true, Bool.not_false, gc_same, Bool.false_eq_true, decide_true, decide_false, tName, tTup, tsCons, tsNil, List.length_cons, List.length_nil, ite_true, ite_false, reduceIte, reduceCtorEq, Nat.zero_add, Nat.reduceAdd, Nat.reduceEqDiff, Nat.reduceLeDiff, isNon, Int.zero_add, and_self, eq_self, ix0, ix1, ix2, ix3, ix4, ix5, isi_int, isi_nbl, isi_tup, isi_str, eqs_ok, nes_ok, len_tup, hap, eqs_ok, ph_sure, hs, h1, e2, ne_eq, not_false_eq_true, and_self]
        · have h1 : a = p := by omega
          have e2 : phS .sure = "sure" := rfl
          have h3 : ¬ ((p : Int) < (p : Int)) := by omega
          subst h1
          by_cases hbm : (b : Int) = (m : Int)
          · simp only [↓wpo, ↓wps, ↓w_var, ↓w_k, ↓w_aNil, ↓w_aCons, ↓w_tup, ↓w_lst, ↓w_2, ↓w_1, ↓w_call, ↓w_if, ↓w_and, ↓w_or, ↓w_not, ↓w_bE, ↓w_bAnd, ↓w_bOr, ↓w_bNot, ↓w_bTrue, ↓w_chain, ↓w_oNone, ↓w_oSome, ↓w_slice, ↓w_kNil, ↓w_kCons, ↓w_dct, ↓w_dct0, ↓w_lst1, ↓w_fs, ↓w_get1, ↓w_get2, ↓ws_pass, ↓ws_break, ↓ws_cont, ↓ws_retN, ↓ws_seq, ↓ws_set, ↓ws_par, ↓ws_par3, ↓ws_expr, ↓ws_ret, ↓ws_if, ↓ws_raise, ↓ws_try, ↓ws_asg, ↓ws_nxo, ↓ws_sub, ↓ws_for, ↓wi_range1, ↓wi_range2, ↓wi_range3, ↓wi_seq, ↓wi_enum, wpo_ok, wpo_err, wpo_bind, ws_nx, ws_rt, ws_bk, ws_ct, ws_er, sq_nx, sq_rt, sq_bk, sq_ct, sq_er, lq_nx, lq_ct, lq_bk, lq_rt, lq_er, fq_nx, fq_rt, fq_er, tq_nx, tq_rt, tq_bk, tq_ct, tq_er, asV_ok, asB_ok, asI_ok, asK_int, asK_str, asP_ok, asP3_ok, asM_ok, asS_tup, asS_fz, asE_tup, asE_fz, add_ok, sub_ok, eq_ok, ne_ok, lt_ok, le_ok, gt_ok, ge_ok, neg_ok, isn_ok, notn_ok, int_ok, bind_ok, List.map_cons, List.map_nil, List.replicate, List.cons_append, List.nil_append, List.getElem?_cons_zero, List.getElem?_cons_succ, List.set_cons_zero, List.set_cons_succ, if_true, if_false, Bool.not_true, Bool.not_false, gc_same, Bool.false_eq_true, decide_true, decide_false, tName, tTup, tsCons, tsNil, List.length_cons, List.length_nil, ite_true, ite_false, reduceIte, reduceCtorEq, Nat.zero_add, Nat.reduceAdd, Nat.reduceEqDiff, Nat.reduceLeDiff, isNon, Int.zero_add, and_self, eq_self, ix0, ix1, ix2, ix3, ix4, ix5, isi_int, isi_nbl, isi_tup, isi_str, eqs_ok, nes_ok, len_tup, h3, eqs_ok, ph_sure, hs, e2, ne_eq, not_true_eq_false, and_false, z4, hbm, true_or, and_self]
          · simp only [↓wpo, ↓wps, ↓w_var, ↓w_k, ↓w_aNil, ↓w_aCons, ↓w_tup, ↓w_lst, ↓w_2, ↓w_1, ↓w_call, ↓w_if, ↓w_and, ↓w_or, ↓w_not, ↓w_bE, ↓w_bAnd, ↓w_bOr, ↓w_bNot, ↓w_bTrue, ↓w_chain, ↓w_oNone, ↓w_oSome, ↓w_slice, ↓w_kNil, ↓w_kCons, ↓w_dct, ↓w_dct0, ↓w_lst1, ↓w_fs, ↓w_get1, ↓w_get2, ↓ws_pass, ↓ws_break, ↓ws_cont, ↓ws_retN, ↓ws_seq, ↓ws_set, ↓ws_par, ↓ws_par3, ↓ws_expr, ↓ws_ret, ↓ws_if, ↓ws_raise, ↓ws_try, ↓ws_asg, ↓ws_nxo, ↓ws_sub, ↓ws_for, ↓wi_range1, ↓wi_range2, ↓wi_range3, ↓wi_seq, ↓wi_enum, wpo_ok, wpo_err, wpo_bind, ws_nx, ws_rt, ws_bk, ws_ct, ws_er, sq_nx, sq_rt, sq_bk, sq_ct, sq_er, lq_nx, lq_ct, lq_bk, lq_rt, lq_er, fq_nx, fq_rt, fq_er, tq_nx, tq_rt, tq_bk, tq_ct, tq_er, asV_ok, asB_ok, asI_ok, asK_int, asK_str, asP_ok, asP3_ok, asM_ok, asS_tup, asS_fz, asE_tup, asE_fz, add_ok, sub_ok, eq_ok, ne_ok, lt_ok, le_ok, gt_ok, ge_ok, neg_ok, isn_ok, notn_ok, int_ok, bind_ok, List.map_cons, List.map_nil, List.replicate, List.cons_append, List.nil_append, List.getElem?_cons_zero, List.getElem?_cons_succ, List.set_cons_zero, List.set_cons_succ, if_true, if_false, Bool.not_true, Bool.not_false, gc_same, Bool.false_eq_true, decide_true, decide_false, tName, tTup, tsCons, tsNil, List.length_cons, List.length_nil, ite_true, ite_false, reduceIte, reduceCtorEq, Nat.zero_add, Nat.reduceAdd, Nat.reduceEqDiff, Nat.reduceLeDiff, isNon, Int.zero_add, and_self, eq_self, ix0, ix1, ix2, ix3, ix4, ix5, isi_int, isi_nbl, isi_tup, isi_str, eqs_ok, nes_ok, len_tup, h3, eqs_ok, ph_sure, hs, e2, ne_eq, not_true_eq_false, and_false, z4, hbm, true_or, and_self]
      · have hn : ph = .new := by cases ph <;> simp_all
        have e2 : phS .sure = "sure" := rfl
        have e3 : phS .new = "new" := rfl
        subst hn
        by_cases hap : (p : Int) < (a : Int)
        · by_cases hbm : b = m
          · simp only [↓wpo, ↓wps, ↓w_var, ↓w_k, ↓w_aNil, ↓w_aCons, ↓w_tup, ↓w_lst, ↓w_2, ↓w_1, ↓w_call, ↓w_if, ↓w_and, ↓w_or, ↓w_not, ↓w_bE, ↓w_bAnd, ↓w_bOr, ↓w_bNot, ↓w_bTrue, ↓w_chain, ↓w_oNone, ↓w_oSome, ↓w_slice, ↓w_kNil, ↓w_kCons, ↓w_dct, ↓w_dct0, ↓w_lst1, ↓w_fs, ↓w_get1, ↓w_get2, ↓ws_pass, ↓ws_break, ↓ws_cont, ↓ws_retN, ↓ws_seq, ↓ws_set, ↓ws_par, ↓ws_par3, ↓ws_expr, ↓ws_ret, ↓ws_if, ↓ws_raise, ↓ws_try, ↓ws_asg, ↓ws_nxo, ↓ws_sub, ↓ws_for, ↓wi_range1, ↓wi_range2, ↓wi_range3, ↓wi_seq, ↓wi_enum, wpo_ok, wpo_err, wpo_bind, ws_nx, ws_rt, ws_bk, ws_ct, ws_er, sq_nx, sq_rt, sq_bk, sq_ct, sq_er, lq_nx, lq_ct, lq_bk, lq_rt, lq_er, fq_nx, fq_rt, fq_er, tq_nx, tq_rt, tq_bk, tq_ct, tq_er, asV_ok, asB_ok, asI_ok, asK_int, asK_str, asP_ok, asP3_ok, asM_ok, asS_tup, asS_fz, asE_tup, asE_fz, add_ok, sub_ok, eq_ok, ne_ok, lt_ok, le_ok, gt_ok, ge_ok, neg_ok, isn_ok, notn_ok, int_ok, bind_ok, List.map_cons, List.map_nil, List.replicate, List.cons_append, List.nil_append, List.getElem?_cons_zero, List.getElem?_cons_succ, List.set_cons_zero, List.set_cons_succ, if_true, if_false, Bool.not_true, Bool.not_false, gc_same, Bool.false_eq_true, decide_true, decide_false, tName, tTup, tsCons, tsNil, List.length_cons, List.length_nil, ite_true, ite_false, reduceIte, reduceCtorEq, Nat.zero_add, Nat.reduceAdd, Nat.reduceEqDiff, Nat.reduceLeDiff, isNon, Int.zero_add, and_self, eq_self, ix0, ix1, ix2, ix3, ix4, ix5, isi_int, isi_nbl, isi_tup, isi_str, eqs_ok, nes_ok, len_tup, hap, n_s, eqs_ok, ph_sure, e2, e3, z4, hbm, false_and, or_true, and_self]
          · have : ¬ ((b : Int) = (m : Int)) := by omega
            simp only [↓wpo, ↓wps, ↓w_var, ↓w_k, ↓w_aNil, ↓w_aCons, ↓w_tup, ↓w_lst, ↓w_2, ↓w_1, ↓w_call, ↓w_if, ↓w_and, ↓w_or, ↓w_not, ↓w_bE, ↓w_bAnd, ↓w_bOr, ↓w_bNot, ↓w_bTrue, ↓w_chain, ↓w_oNone, ↓w_oSome, ↓w_slice, ↓w_kNil, ↓w_kCons, ↓w_dct, ↓w_dct0, ↓w_lst1, ↓w_fs, ↓w_get1, ↓w_get2, ↓ws_pass, ↓ws_break, ↓ws_cont, ↓ws_retN, ↓ws_seq, ↓ws_set, ↓ws_par, ↓ws_par3, ↓ws_expr, ↓ws_ret, ↓ws_if, ↓ws_raise, ↓ws_try, ↓ws_asg, ↓ws_nxo, ↓ws_sub, ↓ws_for, ↓wi_range1, ↓wi_range2, ↓wi_range3, ↓wi_seq, ↓wi_enum, wpo_ok, wpo_err, wpo_bind, ws_nx, ws_rt, ws_bk, ws_ct, ws_er, sq_nx, sq_rt, sq_bk, sq_ct, sq_er, lq_nx, lq_ct, lq_bk, lq_rt, lq_er, fq_nx, fq_rt, fq_er, tq_nx, tq_rt, tq_bk, tq_ct, tq_er, asV_ok, asB_ok, asI_ok, asK_int, asK_str, asP_ok, asP3_ok, asM_ok, asS_tup, asS_fz, asE_tup, asE_fz, add_ok, sub_ok, eq_ok, ne_ok, lt_ok, le_ok, gt_ok, ge_ok, neg_ok, isn_ok, notn_ok, int_ok, bind_ok, List.map_cons, List.map_nil, List.replicate, List.cons_append, List.nil_append, List.getElem?_cons_zero, List.getElem?_cons_succ, List.set_cons_zero, List.set_cons_succ, if_true, if_false, Bool.not_true, Bool.not_false, gc_same, Bool.false_eq_true, decide_true, decide_false, tName, tTup, tsCons, tsNil, List.length_cons, List.length_nil, ite_true, ite_false, reduceIte, reduceCtorEq, Nat.zero_add, Nat.reduceAdd, Nat.reduceEqDiff, Nat.reduceLeDiff, isNon, Int.zero_add, and_self, eq_self, ix0, ix1, ix2, ix3, ix4, ix5, isi_int, isi_nbl, isi_tup, isi_str, eqs_ok, nes_ok, len_tup, hap, n_s, eqs_ok, ph_sure, e2, e3, z4, hbm, this, false_and, or_false, and_self]
        · by_cases hbm : b = m
          · simp only [↓wpo, ↓wps, ↓w_var, ↓w_k, ↓w_aNil, ↓w_aCons, ↓w_tup, ↓w_lst, ↓w_2, ↓w_1, ↓w_call, ↓w_if, ↓w_and, ↓w_or, ↓w_not, ↓w_bE, ↓w_bAnd, ↓w_bOr, ↓w_bNot, ↓w_bTrue, ↓w_chain, ↓w_oNone, ↓w_oSome, ↓w_slice, ↓w_kNil, ↓w_kCons, ↓w_dct, ↓w_dct0, ↓w_lst1, ↓w_fs, ↓w_get1, ↓w_get2, ↓ws_pass, ↓ws_break, ↓ws_cont, ↓ws_retN, ↓ws_seq, ↓ws_set, ↓ws_par, ↓ws_par3, ↓ws_expr, ↓ws_ret, ↓ws_if, ↓ws_raise, ↓ws_try, ↓ws_asg, ↓ws_nxo, ↓ws_sub, ↓ws_for, ↓wi_range1, ↓wi_range2, ↓wi_range3, ↓wi_seq, ↓wi_enum, wpo_ok, wpo_err, wpo_bind, ws_nx, ws_rt, ws_bk, ws_ct, ws_er, sq_nx, sq_rt, sq_bk, sq_ct, sq_er, lq_nx, lq_ct, lq_bk, lq_rt, lq_er, fq_nx, fq_rt, fq_er, tq_nx, tq_rt, tq_bk, tq_ct, tq_er, asV_ok, asB_ok, asI_ok, asK_int, asK_str, asP_ok, asP3_ok, asM_ok, asS_tup, asS_fz, asE_tup, asE_fz, add_ok, sub_ok, eq_ok, ne_ok, lt_ok, le_ok, gt_ok, ge_ok, neg_ok, isn_ok, notn_ok, int_ok, bind_ok, List.map_cons, List.map_nil, List.replicate, List.cons_append, List.nil_append, List.getElem?_cons_zero, List.getElem?_cons_succ, List.set_cons_zero, List.set_cons_succ, if_true, if_false, Bool.not_true, Bool.not_false, gc_same, Bool.false_eq_true, decide_true, decide_false, tName, tTup, tsCons, tsNil, List.length_cons, List.length_nil, ite_true, ite_false, reduceIte, reduceCtorEq, Nat.zero_add, Nat.reduceAdd, Nat.reduceEqDiff, Nat.reduceLeDiff, isNon, Int.zero_add, and_self, eq_self, ix0, ix1, ix2, ix3, ix4, ix5, isi_int, isi_nbl, isi_tup, isi_str, eqs_ok, nes_ok, len_tup, hap, n_s, eqs_ok, ph_sure, e2, e3, z4, hbm, false_and, or_true, and_self]
          · have : ¬ ((b : Int) = (m : Int)) := by omega
            simp only [↓wpo, ↓wps, ↓w_var, ↓w_k, ↓w_aNil, ↓w_aCons, ↓w_tup, ↓w_lst, ↓w_2, ↓w_1, ↓w_call, ↓w_if, ↓w_and, ↓w_or, ↓w_not, ↓w_bE, ↓w_bAnd, ↓w_bOr, ↓w_bNot, ↓w_bTrue, ↓w_chain, ↓w_oNone, ↓w_oSome, ↓w_slice, ↓w_kNil, ↓w_kCons, ↓w_dct, ↓w_dct0, ↓w_lst1, ↓w_fs, ↓w_get1, ↓w_get2, ↓ws_pass, ↓ws_break, ↓ws_cont, ↓ws_retN, ↓ws_seq, ↓ws_set, ↓ws_par, ↓ws_par3, ↓ws_expr, ↓ws_ret, ↓ws_if, ↓ws_raise, ↓ws_try, ↓ws_asg, ↓ws_nxo, ↓ws_sub, ↓ws_for, ↓wi_range1, ↓wi_range2, ↓wi_range3, ↓wi_seq, ↓wi_enum, wpo_ok, wpo_err, wpo_bind, ws_nx, ws_rt, ws_bk, ws_ct, ws_er, sq_nx, sq_rt, sq_bk, sq_ct, sq_er, lq_nx, lq_ct, lq_bk, lq_rt, lq_er, fq_nx, fq_rt, fq_er, tq_nx, tq_rt, tq_bk, tq_ct, tq_er, asV_ok, asB_ok, asI_ok, asK_int, asK_str, asP_ok, asP3_ok, asM_ok, asS_tup, asS_fz, asE_tup, asE_fz, add_ok, sub_ok, eq_ok, ne_ok, lt_ok, le_ok, gt_ok, ge_ok, neg_ok, isn_ok, notn_ok, int_ok, bind_ok, List.map_cons, List.map_nil, List.replicate, List.cons_append, List.nil_append, List.getElem?_cons_zero, List.getElem?_cons_succ, List.set_cons_zero, List.set_cons_succ, if_true, if_false, Bool.not_true, Bool.not_false, gc_same, Bool.false_eq_true, decide_true, decide_false, tName, tTup, tsCons, tsNil, List.length_cons, List.length_nil, ite_true, ite_false, reduceIte, reduceCtorEq, Nat.zero_add, Nat.reduceAdd, Nat.reduceEqDiff, Nat.reduceLeDiff, isNon, Int.zero_add, and_self, eq_self, ix0, ix1, ix2, ix3, ix4, ix5, isi_int, isi_nbl, isi_tup, isi_str, eqs_ok, nes_ok, len_tup, hap, n_s, eqs_ok, ph_sure, e2, e3, z4, hbm, this, false_and, or_false, and_self]
theorem link_heard_ok {l : Lk} {a b : Nat} (M : Mem) (h : okL l) (ha : kind a (1 - l.side)) (hb : b = 0 ∨ kind b l.side) : f_link_heard [dl l, .int a, .int b] M = .ok (dl (heard l a b)) M := by
  unfold f_link_heard
  rw [fDef_eq (by rfl)]
  simp only [sRet, sRetN, sSeq, sIf, sSet, sPar, sExpr, sPass, sBreak, sCont, sRaise, sAsg, nxo, bNot, bE, bAnd, bOr, bTrue, x1, x2, xVar, xK, xCall, xTup, xIf, xAnd, xOr, xNot, xChain, aCons, aNil, kNil, kCons, oNone, oSome, bind_ok, bind_err, bind_stk, toS_ok, toS_err, toS_stk, List.map_cons, List.map_nil, List.replicate, List.cons_append, List.nil_append, List.getElem?_cons_zero, List.getElem?_cons_succ, List.set_cons_zero, List.set_cons_succ, if_true, if_false, Bool.not_true, Bool.not_false, fin_rt, fin_nx, fin_er, gc_same, Bool.false_eq_true, decide_true, decide_false, tName, tTup, tsCons, tsNil, List.length_cons, List.length_nil, ite_true, ite_false, reduceIte, reduceCtorEq, Nat.zero_add, Nat.reduceAdd, Nat.reduceEqDiff, Nat.reduceLeDiff, szle, dite_true, need_link_ok M h, need_header_ok M h ha hb, heard_by_ok M, sExpr]
theorem link_again_ok {l : Lk} {v a : Nat} (M : Mem) (h : okL l) (hv : kind v l.side) (hm : l.mine < v) (ha : kind a (1 - l.side)) : f_link_again [dl l, .int v, .int a] M = .ok (dl ⟨l.side, v, a, .new⟩) M := by
  have h1 := h.s
  have e : (1 : Int) - (l.side : Int) = ((1 - l.side : Nat) : Int) := by omega
  have nl : ¬ ((v : Int) ≤ (l.mine : Int)) := by omega
  have z4 : 4 ≤ 16777216 := by decide
  have e3 : phS .new = "new" := rfl
  refine wpo_eq ?_
  unfold f_link_again
  rw [wp_def (by rfl)]
  simp only [↓wpo, ↓wps, ↓w_var, ↓w_k, ↓w_aNil, ↓w_aCons, ↓w_tup, ↓w_lst, ↓w_2, ↓w_1, ↓w_call, ↓w_if, ↓w_and, ↓w_or, ↓w_not, ↓w_bE, ↓w_bAnd, ↓w_bOr, ↓w_bNot, ↓w_bTrue, ↓w_chain, ↓w_oNone, ↓w_oSome, ↓w_slice, ↓w_kNil, ↓w_kCons, ↓w_dct, ↓w_dct0, ↓w_lst1, ↓w_fs, ↓w_get1, ↓w_get2, ↓ws_pass, ↓ws_break, ↓ws_cont, ↓ws_retN, ↓ws_seq, ↓ws_set, ↓ws_par, ↓ws_par3, ↓ws_expr, ↓ws_ret, ↓ws_if, ↓ws_raise, ↓ws_try, ↓ws_asg, ↓ws_nxo, ↓ws_sub, ↓ws_for, ↓wi_range1, ↓wi_range2, ↓wi_range3, ↓wi_seq, ↓wi_enum, wpo_ok, wpo_err, wpo_bind, ws_nx, ws_rt, ws_bk, ws_ct, ws_er, sq_nx, sq_rt, sq_bk, sq_ct, sq_er, lq_nx, lq_ct, lq_bk, lq_rt, lq_er, fq_nx, fq_rt, fq_er, tq_nx, tq_rt, tq_bk, tq_ct, tq_er, asV_ok, asB_ok, asI_ok, asK_int, asK_str, asP_ok, asP3_ok, asM_ok, asS_tup, asS_fz, asE_tup, asE_fz, add_ok, sub_ok, eq_ok, ne_ok, lt_ok, le_ok, gt_ok, ge_ok, neg_ok, isn_ok, notn_ok, int_ok, bind_ok, List.map_cons, List.map_nil, List.replicate, List.cons_append, List.nil_append, List.getElem?_cons_zero, List.getElem?_cons_succ, List.set_cons_zero, List.set_cons_succ, if_true, if_false, Bool.not_true, Bool.not_false, gc_same, Bool.false_eq_true, decide_true, decide_false, tName, tTup, tsCons, tsNil, List.length_cons, List.length_nil, ite_true, ite_false, reduceIte, reduceCtorEq, Nat.zero_add, Nat.reduceAdd, Nat.reduceEqDiff, Nat.reduceLeDiff, isNon, Int.zero_add, and_self, eq_self, ix0, ix1, ix2, ix3, ix4, ix5, isi_int, isi_nbl, isi_tup, isi_str, eqs_ok, nes_ok, len_tup, need_link_ok M h]
  unfold dl
  simp only [↓wpo, ↓wps, ↓w_var, ↓w_k, ↓w_aNil, ↓w_aCons, ↓w_tup, ↓w_lst, ↓w_2, ↓w_1, ↓w_call, ↓w_if, ↓w_and, ↓w_or, ↓w_not, ↓w_bE, ↓w_bAnd, ↓w_bOr, ↓w_bNot, ↓w_bTrue, ↓w_chain, ↓w_oNone, ↓w_oSome, ↓w_slice, ↓w_kNil, ↓w_kCons, ↓w_dct, ↓w_dct0, ↓w_lst1, ↓w_fs, ↓w_get1, ↓w_get2, ↓ws_pass, ↓ws_break, ↓ws_cont, ↓ws_retN, ↓ws_seq, ↓ws_set, ↓ws_par, ↓ws_par3, ↓ws_expr, ↓ws_ret, ↓ws_if, ↓ws_raise, ↓ws_try, ↓ws_asg, ↓ws_nxo, ↓ws_sub, ↓ws_for, ↓wi_range1, ↓wi_range2, ↓wi_range3, ↓wi_seq, ↓wi_enum, wpo_ok, wpo_err, wpo_bind, ws_nx, ws_rt, ws_bk, ws_ct, ws_er, sq_nx, sq_rt, sq_bk, sq_ct, sq_er, lq_nx, lq_ct, lq_bk, lq_rt, lq_er, fq_nx, fq_rt, fq_er, tq_nx, tq_rt, tq_bk, tq_ct, tq_er, asV_ok, asB_ok, asI_ok, asK_int, asK_str, asP_ok, asP3_ok, asM_ok, asS_tup, asS_fz, asE_tup, asE_fz, add_ok, sub_ok, eq_ok, ne_ok, lt_ok, le_ok, gt_ok, ge_ok, neg_ok, isn_ok, notn_ok, int_ok, bind_ok, List.map_cons, List.map_nil, List.replicate, List.cons_append, List.nil_append, List.getElem?_cons_zero, List.getElem?_cons_succ, List.set_cons_zero, List.set_cons_succ, if_true, if_false, Bool.not_true, Bool.not_false, gc_same, Bool.false_eq_true, decide_true, decide_false, tName, tTup, tsCons, tsNil, List.length_cons, List.length_nil, ite_true, ite_false, reduceIte, reduceCtorEq, Nat.zero_add, Nat.reduceAdd, Nat.reduceEqDiff, Nat.reduceLeDiff, isNon, Int.zero_add, and_self, eq_self, ix0, ix1, ix2, ix3, ix4, ix5, isi_int, isi_nbl, isi_tup, isi_str, eqs_ok, nes_ok, len_tup, ix0, ix1, need_life_ok M hv h1, e, need_life_ok M ha (by omega), nl, z4, e3, and_self]
theorem next_life_ok {s v : Nat} (M : Mem) (hs : s ≤ 1) (hv : kind v s) (hm : v + 2 ≤ 1152921504606846976) : f_next_life [.int s, .int v] M = .ok (.int ((v + 2 : Nat) : Int)) M := by
  obtain ⟨a, b, c⟩ := hv
  have w : (0 : Int) ≤ (v : Int) ∧ (v : Int) ≤ 1152921504606846976 := by omega
  have nk : ¬ (1 ≤ (v : Int) + 1 ∧ (v : Int) + 1 ≤ 1152921504606846976 ∧ ((v : Int) + 1) % 2 = 1 - (s : Int)) := by omega
  have ng : ¬ ((1152921504606846976 : Int) < (v : Int) + 2) := by omega
  have e : (v : Int) + 2 = ((v + 2 : Nat) : Int) := by omega
  refine wpo_eq ?_
  unfold f_next_life
  rw [wp_def (by rfl)]
  simp only [↓wpo, ↓wps, ↓w_var, ↓w_k, ↓w_aNil, ↓w_aCons, ↓w_tup, ↓w_lst, ↓w_2, ↓w_1, ↓w_call, ↓w_if, ↓w_and, ↓w_or, ↓w_not, ↓w_bE, ↓w_bAnd, ↓w_bOr, ↓w_bNot, ↓w_bTrue, ↓w_chain, ↓w_oNone, ↓w_oSome, ↓w_slice, ↓w_kNil, ↓w_kCons, ↓w_dct, ↓w_dct0, ↓w_lst1, ↓w_fs, ↓w_get1, ↓w_get2, ↓ws_pass, ↓ws_break, ↓ws_cont, ↓ws_retN, ↓ws_seq, ↓ws_set, ↓ws_par, ↓ws_par3, ↓ws_expr, ↓ws_ret, ↓ws_if, ↓ws_raise, ↓ws_try, ↓ws_asg, ↓ws_nxo, ↓ws_sub, ↓ws_for, ↓wi_range1, ↓wi_range2, ↓wi_range3, ↓wi_seq, ↓wi_enum, wpo_ok, wpo_err, wpo_bind, ws_nx, ws_rt, ws_bk, ws_ct, ws_er, sq_nx, sq_rt, sq_bk, sq_ct, sq_er, lq_nx, lq_ct, lq_bk, lq_rt, lq_er, fq_nx, fq_rt, fq_er, tq_nx, tq_rt, tq_bk, tq_ct, tq_er, asV_ok, asB_ok, asI_ok, asK_int, asK_str, asP_ok, asP3_ok, asM_ok, asS_tup, asS_fz, asE_tup, asE_fz, add_ok, sub_ok, eq_ok, ne_ok, lt_ok, le_ok, gt_ok, ge_ok, neg_ok, isn_ok, notn_ok, int_ok, bind_ok, List.map_cons, List.map_nil, List.replicate, List.cons_append, List.nil_append, List.getElem?_cons_zero, List.getElem?_cons_succ, List.set_cons_zero, List.set_cons_succ, if_true, if_false, Bool.not_true, Bool.not_false, gc_same, Bool.false_eq_true, decide_true, decide_false, tName, tTup, tsCons, tsNil, List.length_cons, List.length_nil, ite_true, ite_false, reduceIte, reduceCtorEq, Nat.zero_add, Nat.reduceAdd, Nat.reduceEqDiff, Nat.reduceLeDiff, isNon, Int.zero_add, and_self, eq_self, ix0, ix1, ix2, ix3, ix4, ix5, isi_int, isi_nbl, isi_tup, isi_str, eqs_ok, nes_ok, len_tup, need_side_ok M hs, is_within_int, c_MOST_LIFE, w, and_self, is_kind_ok, nk, ng]
  exact ⟨by rw [e], trivial⟩
theorem law_heard_ok {l : Lk} {a b : Nat} (M : Mem) : f__law_four_heard [dl l, .int a, .int b] M = .ok (dl (heard l a b)) M := by
  obtain ⟨s, m, p, ph⟩ := l
  have z4 : 4 ≤ 16777216 := by decide
  refine wpo_eq ?_
  unfold f__law_four_heard dl
  rw [wp_def (by rfl)]
  simp only [↓wpo, ↓wps, ↓w_var, ↓w_k, ↓w_aNil, ↓w_aCons, ↓w_tup, ↓w_lst, ↓w_2, ↓w_1, ↓w_call, ↓w_if, ↓w_and, ↓w_or, ↓w_not, ↓w_bE, ↓w_bAnd, ↓w_bOr, ↓w_bNot, ↓w_bTrue, ↓w_chain, ↓w_oNone, ↓w_oSome, ↓w_slice, ↓w_kNil, ↓w_kCons, ↓w_dct, ↓w_dct0, ↓w_lst1, ↓w_fs, ↓w_get1, ↓w_get2, ↓ws_pass, ↓ws_break, ↓ws_cont, ↓ws_retN, ↓ws_seq, ↓ws_set, ↓ws_par, ↓ws_par3, ↓ws_expr, ↓ws_ret, ↓ws_if, ↓ws_raise, ↓ws_try, ↓ws_asg, ↓ws_nxo, ↓ws_sub, ↓ws_for, ↓wi_range1, ↓wi_range2, ↓wi_range3, ↓wi_seq, ↓wi_enum, wpo_ok, wpo_err, wpo_bind, ws_nx, ws_rt, ws_bk, ws_ct, ws_er, sq_nx, sq_rt, sq_bk, sq_ct, sq_er, lq_nx, lq_ct, lq_bk, lq_rt, lq_er, fq_nx, fq_rt, fq_er, tq_nx, tq_rt, tq_bk, tq_ct, tq_er, asV_ok, asB_ok, asI_ok, asK_int, asK_str, asP_ok, asP3_ok, asM_ok, asS_tup, asS_fz, asE_tup, asE_fz, add_ok, sub_ok, eq_ok, ne_ok, lt_ok, le_ok, gt_ok, ge_ok, neg_ok, isn_ok, notn_ok, int_ok, bind_ok, List.map_cons, List.map_nil, List.replicate, List.cons_append, List.nil_append, List.getElem?_cons_zero, List.getElem?_cons_succ, List.set_cons_zero, List.set_cons_succ, if_true, if_false, Bool.not_true, Bool.not_false, gc_same, Bool.false_eq_true, decide_true, decide_false, tName, tTup, tsCons, tsNil, List.length_cons, List.length_nil, ite_true, ite_false, reduceIte, reduceCtorEq, Nat.zero_add, Nat.reduceAdd, Nat.reduceEqDiff, Nat.reduceLeDiff, isNon, Int.zero_add, and_self, eq_self, ix0, ix1, ix2, ix3, ix4, ix5, isi_int, isi_nbl, isi_tup, isi_str, eqs_ok, nes_ok, len_tup, eqs_ok, ph_gone, heard]
  by_cases hg : ph = .gone
  · simp only [↓wpo, ↓wps, ↓w_var, ↓w_k, ↓w_aNil, ↓w_aCons, ↓w_tup, ↓w_lst, ↓w_2, ↓w_1, ↓w_call, ↓w_if, ↓w_and, ↓w_or, ↓w_not, ↓w_bE, ↓w_bAnd, ↓w_bOr, ↓w_bNot, ↓w_bTrue, ↓w_chain, ↓w_oNone, ↓w_oSome, ↓w_slice, ↓w_kNil, ↓w_kCons, ↓w_dct, ↓w_dct0, ↓w_lst1, ↓w_fs, ↓w_get1, ↓w_get2, ↓ws_pass, ↓ws_break, ↓ws_cont, ↓ws_retN, ↓ws_seq, ↓ws_set, ↓ws_par, ↓ws_par3, ↓ws_expr, ↓ws_ret, ↓ws_if, ↓ws_raise, ↓ws_try, ↓ws_asg, ↓ws_nxo, ↓ws_sub, ↓ws_for, ↓wi_range1, ↓wi_range2, ↓wi_range3, ↓wi_seq, ↓wi_enum, wpo_ok, wpo_err, wpo_bind, ws_nx, ws_rt, ws_bk, ws_ct, ws_er, sq_nx, sq_rt, sq_bk, sq_ct, sq_er, lq_nx, lq_ct, lq_bk, lq_rt, lq_er, fq_nx, fq_rt, fq_er, tq_nx, tq_rt, tq_bk, tq_ct, tq_er, asV_ok, asB_ok, asI_ok, asK_int, asK_str, asP_ok, asP3_ok, asM_ok, asS_tup, asS_fz, asE_tup, asE_fz, add_ok, sub_ok, eq_ok, ne_ok, lt_ok, le_ok, gt_ok, ge_ok, neg_ok, isn_ok, notn_ok, int_ok, bind_ok, List.map_cons, List.map_nil, List.replicate, List.cons_append, List.nil_append, List.getElem?_cons_zero, List.getElem?_cons_succ, List.set_cons_zero, List.set_cons_succ, if_true, if_false, Bool.not_true, Bool.not_false, gc_same, Bool.false_eq_true, decide_true, decide_false, tName, tTup, tsCons, tsNil, List.length_cons, List.length_nil, ite_true, ite_false, reduceIte, reduceCtorEq, Nat.zero_add, Nat.reduceAdd, Nat.reduceEqDiff, Nat.reduceLeDiff, isNon, Int.zero_add, and_self, eq_self, ix0, ix1, ix2, ix3, ix4, ix5, isi_int, isi_nbl, isi_tup, isi_str, eqs_ok, nes_ok, len_tup, hg, true_or, and_self]
  · by_cases hl : (a : Int) < (p : Int)
    · have hl' : a < p := by omega
      simp only [↓wpo, ↓wps, ↓w_var, ↓w_k, ↓w_aNil, ↓w_aCons, ↓w_tup, ↓w_lst, ↓w_2, ↓w_1, ↓w_call, ↓w_if, ↓w_and, ↓w_or, ↓w_not, ↓w_bE, ↓w_bAnd, ↓w_bOr, ↓w_bNot, ↓w_bTrue, ↓w_chain, ↓w_oNone, ↓w_oSome, ↓w_slice, ↓w_kNil, ↓w_kCons, ↓w_dct, ↓w_dct0, ↓w_lst1, ↓w_fs, ↓w_get1, ↓w_get2, ↓ws_pass, ↓ws_break, ↓ws_cont, ↓ws_retN, ↓ws_seq, ↓ws_set, ↓ws_par, ↓ws_par3, ↓ws_expr, ↓ws_ret, ↓ws_if, ↓ws_raise, ↓ws_try, ↓ws_asg, ↓ws_nxo, ↓ws_sub, ↓ws_for, ↓wi_range1, ↓wi_range2, ↓wi_range3, ↓wi_seq, ↓wi_enum, wpo_ok, wpo_err, wpo_bind, ws_nx, ws_rt, ws_bk, ws_ct, ws_er, sq_nx, sq_rt, sq_bk, sq_ct, sq_er, lq_nx, lq_ct, lq_bk, lq_rt, lq_er, fq_nx, fq_rt, fq_er, tq_nx, tq_rt, tq_bk, tq_ct, tq_er, asV_ok, asB_ok, asI_ok, asK_int, asK_str, asP_ok, asP3_ok, asM_ok, asS_tup, asS_fz, asE_tup, asE_fz, add_ok, sub_ok, eq_ok, ne_ok, lt_ok, le_ok, gt_ok, ge_ok, neg_ok, isn_ok, notn_ok, int_ok, bind_ok, List.map_cons, List.map_nil, List.replicate, List.cons_append, List.nil_append, List.getElem?_cons_zero, List.getElem?_cons_succ, List.set_cons_zero, List.set_cons_succ, if_true, if_false, Bool.not_true, Bool.not_false, gc_same, Bool.false_eq_true, decide_true, decide_false, tName, tTup, tsCons, tsNil, List.length_cons, List.length_nil, ite_true, ite_false, reduceIte, reduceCtorEq, Nat.zero_add, Nat.reduceAdd, Nat.reduceEqDiff, Nat.reduceLeDiff, isNon, Int.zero_add, and_self, eq_self, ix0, ix1, ix2, ix3, ix4, ix5, isi_int, isi_nbl, isi_tup, isi_str, eqs_ok, nes_ok, len_tup, hg, hl, hl', or_true, and_self]
    · have hl' : ¬ a < p := by omega
      simp only [↓wpo, ↓wps, ↓w_var, ↓w_k, ↓w_aNil, ↓w_aCons, ↓w_tup, ↓w_lst, ↓w_2, ↓w_1, ↓w_call, ↓w_if, ↓w_and, ↓w_or, ↓w_not, ↓w_bE, ↓w_bAnd, ↓w_bOr, ↓w_bNot, ↓w_bTrue, ↓w_chain, ↓w_oNone, ↓w_oSome, ↓w_slice, ↓w_kNil, ↓w_kCons, ↓w_dct, ↓w_dct0, ↓w_lst1, ↓w_fs, ↓w_get1, ↓w_get2, ↓ws_pass, ↓ws_break, ↓ws_cont, ↓ws_retN, ↓ws_seq, ↓ws_set, ↓ws_par, ↓ws_par3, ↓ws_expr, ↓ws_ret, ↓ws_if, ↓ws_raise, ↓ws_try, ↓ws_asg, ↓ws_nxo, ↓ws_sub, ↓ws_for, ↓wi_range1, ↓wi_range2, ↓wi_range3, ↓wi_seq, ↓wi_enum, wpo_ok, wpo_err, wpo_bind, ws_nx, ws_rt, ws_bk, ws_ct, ws_er, sq_nx, sq_rt, sq_bk, sq_ct, sq_er, lq_nx, lq_ct, lq_bk, lq_rt, lq_er, fq_nx, fq_rt, fq_er, tq_nx, tq_rt, tq_bk, tq_ct, tq_er, asV_ok, asB_ok, asI_ok, asK_int, asK_str, asP_ok, asP3_ok, asM_ok, asS_tup, asS_fz, asE_tup, asE_fz, add_ok, sub_ok, eq_ok, ne_ok, lt_ok, le_ok, gt_ok, ge_ok, neg_ok, isn_ok, notn_ok, int_ok, bind_ok, List.map_cons, List.map_nil, List.replicate, List.cons_append, List.nil_append, List.getElem?_cons_zero, List.getElem?_cons_succ, List.set_cons_zero, List.set_cons_succ, if_true, if_false, Bool.not_true, Bool.not_false, gc_same, Bool.false_eq_true, decide_true, decide_false, tName, tTup, tsCons, tsNil, List.length_cons, List.length_nil, ite_true, ite_false, reduceIte, reduceCtorEq, Nat.zero_add, Nat.reduceAdd, Nat.reduceEqDiff, Nat.reduceLeDiff, isNon, Int.zero_add, and_self, eq_self, ix0, ix1, ix2, ix3, ix4, ix5, isi_int, isi_nbl, isi_tup, isi_str, eqs_ok, nes_ok, len_tup, hg, hl, hl', or_self, z4, eqs_ok, ph_sure]
      by_cases hs : ph = .sure
      · by_cases hap : a = p
        · have h1 : (a : Int) = (p : Int) := by omega
          have e2 : phS .sure = "sure" := rfl
          subst hap
          simp only [↓wpo, ↓wps, ↓w_var, ↓w_k, ↓w_aNil, ↓w_aCons, ↓w_tup, ↓w_lst, ↓w_2, ↓w_1, ↓w_call, ↓w_if, ↓w_and, ↓w_or, ↓w_not, ↓w_bE, ↓w_bAnd, ↓w_bOr, ↓w_bNot, ↓w_bTrue, ↓w_chain, ↓w_oNone, ↓w_oSome, ↓w_slice, ↓w_kNil, ↓w_kCons, ↓w_dct, ↓w_dct0, ↓w_lst1, ↓w_fs, ↓w_get1, ↓w_get2, ↓ws_pass, ↓ws_break, ↓ws_cont, ↓ws_retN, ↓ws_seq, ↓ws_set, ↓ws_par, ↓ws_par3, ↓ws_expr, ↓ws_ret, ↓ws_if, ↓ws_raise, ↓ws_try, ↓ws_asg, ↓ws_nxo, ↓ws_sub, ↓ws_for, ↓wi_range1, ↓wi_range2, ↓wi_range3, ↓wi_seq, ↓wi_enum, wpo_ok, wpo_err, wpo_bind, ws_nx, ws_rt, ws_bk, ws_ct, ws_er, sq_nx, sq_rt, sq_bk, sq_ct, sq_er, lq_nx, lq_ct, lq_bk, lq_rt, lq_er, fq_nx, fq_rt, fq_er, tq_nx, tq_rt, tq_bk, tq_ct, tq_er, asV_ok, asB_ok, asI_ok, asK_int, asK_str, asP_ok, asP3_ok, asM_ok, asS_tup, asS_fz, asE_tup, asE_fz, add_ok, sub_ok, eq_ok, ne_ok, lt_ok, le_ok, gt_ok, ge_ok, neg_ok, isn_ok, notn_ok, int_ok, bind_ok, List.map_cons, List.map_nil, List.replicate, List.cons_append, List.nil_append, List.getElem?_cons_zero, List.getElem?_cons_succ, List.set_cons_zero, List.set_cons_succ, if_true, if_false, Bool.not_true, Bool.not_false, gc_same, Bool.false_eq_true, decide_true, decide_false, tName, tTup, tsCons, tsNil, List.length_cons, List.length_nil, ite_true, ite_false, reduceIte, reduceCtorEq, Nat.zero_add, Nat.reduceAdd, Nat.reduceEqDiff, Nat.reduceLeDiff, isNon, Int.zero_add, and_self, eq_self, ix0, ix1, ix2, ix3, ix4, ix5, isi_int, isi_nbl, isi_tup, isi_str, eqs_ok, nes_ok, len_tup, eqs_ok, hs, ne_eq, not_true_eq_false, and_false, z4, e2, true_or, and_self]
        · have h1 : ¬ (a : Int) = (p : Int) := by omega
          have e2 : phS .gone = "gone" := rfl
          simp only [↓wpo, ↓wps, ↓w_var, ↓w_k, ↓w_aNil, ↓w_aCons, ↓w_tup, ↓w_lst, ↓w_2, ↓w_1, ↓w_call, ↓w_if, ↓w_and, ↓w_or, ↓w_not, ↓w_bE, ↓w_bAnd, ↓w_bOr, ↓w_bNot, ↓w_bTrue, ↓w_chain, ↓w_oNone, ↓w_oSome, ↓w_slice, ↓w_kNil, ↓w_kCons, ↓w_dct, ↓w_dct0, ↓w_lst1, ↓w_fs, ↓w_get1, ↓w_get2, ↓ws_pass, ↓ws_break, ↓ws_cont, ↓ws_retN, ↓ws_seq, ↓ws_set, ↓ws_par, ↓ws_par3, ↓ws_expr, ↓ws_ret, ↓ws_if, ↓ws_raise, ↓ws_try, ↓ws_asg, ↓ws_nxo, ↓ws_sub, ↓ws_for, ↓wi_range1, ↓wi_range2, ↓wi_range3, ↓wi_seq, ↓wi_enum, wpo_ok, wpo_err, wpo_bind, ws_nx, ws_rt, ws_bk, ws_ct, ws_er, sq_nx, sq_rt, sq_bk, sq_ct, sq_er, lq_nx, lq_ct, lq_bk, lq_rt, lq_er, fq_nx, fq_rt, fq_er, tq_nx, tq_rt, tq_bk, tq_ct, tq_er, asV_ok, asB_ok, asI_ok, asK_int, asK_str, asP_ok, asP3_ok, asM_ok, asS_tup, asS_fz, asE_tup, asE_fz, add_ok, sub_ok, eq_ok, ne_ok, lt_ok, le_ok, gt_ok, ge_ok, neg_ok, isn_ok, notn_ok, int_ok, bind_ok, List.map_cons, List.map_nil, List.replicate, List.cons_append, List.nil_append, List.getElem?_cons_zero, List.getElem?_cons_succ, List.set_cons_zero, List.set_cons_succ, if_true, if_false, Bool.not_true, Bool.not_false, gc_same, Bool.false_eq_true, decide_true, decide_false, tName, tTup, tsCons, tsNil, List.length_cons, List.length_nil, ite_true, ite_false, reduceIte, reduceCtorEq, Nat.zero_add, Nat.reduceAdd, Nat.reduceEqDiff, Nat.reduceLeDiff, isNon, Int.zero_add, and_self, eq_self, ix0, ix1, ix2, ix3, ix4, ix5, isi_int, isi_nbl, isi_tup, isi_str, eqs_ok, nes_ok, len_tup, hs, hap, h1, ne_eq, not_false_eq_true, z4, e2, and_self]
      · have e2 : phS .sure = "sure" := rfl
        have e3 : phS .new = "new" := rfl
        by_cases hbm : b = m
        · simp only [↓wpo, ↓wps, ↓w_var, ↓w_k, ↓w_aNil, ↓w_aCons, ↓w_tup, ↓w_lst, ↓w_2, ↓w_1, ↓w_call, ↓w_if, ↓w_and, ↓w_or, ↓w_not, ↓w_bE, ↓w_bAnd, ↓w_bOr, ↓w_bNot, ↓w_bTrue, ↓w_chain, ↓w_oNone, ↓w_oSome, ↓w_slice, ↓w_kNil, ↓w_kCons, ↓w_dct, ↓w_dct0, ↓w_lst1, ↓w_fs, ↓w_get1, ↓w_get2, ↓ws_pass, ↓ws_break, ↓ws_cont, ↓ws_retN, ↓ws_seq, ↓ws_set, ↓ws_par, ↓ws_par3, ↓ws_expr, ↓ws_ret, ↓ws_if, ↓ws_raise, ↓ws_try, ↓ws_asg, ↓ws_nxo, ↓ws_sub, ↓ws_for, ↓wi_range1, ↓wi_range2, ↓wi_range3, ↓wi_seq, ↓wi_enum, wpo_ok, wpo_err, wpo_bind, ws_nx, ws_rt, ws_bk, ws_ct, ws_er, sq_nx, sq_rt, sq_bk, sq_ct, sq_er, lq_nx, lq_ct, lq_bk, lq_rt, lq_er, fq_nx, fq_rt, fq_er, tq_nx, tq_rt, tq_bk, tq_ct, tq_er, asV_ok, asB_ok, asI_ok, asK_int, asK_str, asP_ok, asP3_ok, asM_ok, asS_tup, asS_fz, asE_tup, asE_fz, add_ok, sub_ok, eq_ok, ne_ok, lt_ok, le_ok, gt_ok, ge_ok, neg_ok, isn_ok, notn_ok, int_ok, bind_ok, List.map_cons, List.map_nil, List.replicate, List.cons_append, List.nil_append, List.getElem?_cons_zero, List.getElem?_cons_succ, List.set_cons_zero, List.set_cons_succ, if_true, if_false, Bool.not_true, Bool.not_false, gc_same, Bool.false_eq_true, decide_true, decide_false, tName, tTup, tsCons, tsNil, List.length_cons, List.length_nil, ite_true, ite_false, reduceIte, reduceCtorEq, Nat.zero_add, Nat.reduceAdd, Nat.reduceEqDiff, Nat.reduceLeDiff, isNon, Int.zero_add, and_self, eq_self, ix0, ix1, ix2, ix3, ix4, ix5, isi_int, isi_nbl, isi_tup, isi_str, eqs_ok, nes_ok, len_tup, ph_sure, hs, hbm, e2, e3, z4, false_and, or_true, and_self]
        · have : ¬ ((b : Int) = (m : Int)) := by omega
          simp only [↓wpo, ↓wps, ↓w_var, ↓w_k, ↓w_aNil, ↓w_aCons, ↓w_tup, ↓w_lst, ↓w_2, ↓w_1, ↓w_call, ↓w_if, ↓w_and, ↓w_or, ↓w_not, ↓w_bE, ↓w_bAnd, ↓w_bOr, ↓w_bNot, ↓w_bTrue, ↓w_chain, ↓w_oNone, ↓w_oSome, ↓w_slice, ↓w_kNil, ↓w_kCons, ↓w_dct, ↓w_dct0, ↓w_lst1, ↓w_fs, ↓w_get1, ↓w_get2, ↓ws_pass, ↓ws_break, ↓ws_cont, ↓ws_retN, ↓ws_seq, ↓ws_set, ↓ws_par, ↓ws_par3, ↓ws_expr, ↓ws_ret, ↓ws_if, ↓ws_raise, ↓ws_try, ↓ws_asg, ↓ws_nxo, ↓ws_sub, ↓ws_for, ↓wi_range1, ↓wi_range2, ↓wi_range3, ↓wi_seq, ↓wi_enum, wpo_ok, wpo_err, wpo_bind, ws_nx, ws_rt, ws_bk, ws_ct, ws_er, sq_nx, sq_rt, sq_bk, sq_ct, sq_er, lq_nx, lq_ct, lq_bk, lq_rt, lq_er, fq_nx, fq_rt, fq_er, tq_nx, tq_rt, tq_bk, tq_ct, tq_er, asV_ok, asB_ok, asI_ok, asK_int, asK_str, asP_ok, asP3_ok, asM_ok, asS_tup, asS_fz, asE_tup, asE_fz, add_ok, sub_ok, eq_ok, ne_ok, lt_ok, le_ok, gt_ok, ge_ok, neg_ok, isn_ok, notn_ok, int_ok, bind_ok, List.map_cons, List.map_nil, List.replicate, List.cons_append, List.nil_append, List.getElem?_cons_zero, List.getElem?_cons_succ, List.set_cons_zero, List.set_cons_succ, if_true, if_false, Bool.not_true, Bool.not_false, gc_same, Bool.false_eq_true, decide_true, decide_false, tName, tTup, tsCons, tsNil, List.length_cons, List.length_nil, ite_true, ite_false, reduceIte, reduceCtorEq, Nat.zero_add, Nat.reduceAdd, Nat.reduceEqDiff, Nat.reduceLeDiff, isNon, Int.zero_add, and_self, eq_self, ix0, ix1, ix2, ix3, ix4, ix5, isi_int, isi_nbl, isi_tup, isi_str, eqs_ok, nes_ok, len_tup, ph_sure, hs, hbm, this, e2, e3, z4, false_and, or_self, and_self]
end LawT
end PV

set_option Elab.async false
set_option linter.all false
set_option maxRecDepth 10000
set_option pp.maxSteps 700

namespace PV
namespace LawT
open PySem
theorem wk_links_sent : decide ((Sum.inr "links" : Sum Int Str) = .inr "sent") = false := by decide +kernel
theorem wk_links_sure : decide ((Sum.inr "links" : Sum Int Str) = .inr "sure") = false := by decide +kernel
theorem wk_links_goings : decide ((Sum.inr "links" : Sum Int Str) = .inr "goings") = false := by decide +kernel
theorem wk_links_clock : decide ((Sum.inr "links" : Sum Int Str) = .inr "clock") = false := by decide +kernel
theorem wk_links_since : decide ((Sum.inr "links" : Sum Int Str) = .inr "since") = false := by decide +kernel
theorem wk_links_taken : decide ((Sum.inr "links" : Sum Int Str) = .inr "taken") = false := by decide +kernel
theorem wk_sent_links : decide ((Sum.inr "sent" : Sum Int Str) = .inr "links") = false := by decide +kernel
theorem wk_sent_sure : decide ((Sum.inr "sent" : Sum Int Str) = .inr "sure") = false := by decide +kernel
theorem wk_sent_goings : decide ((Sum.inr "sent" : Sum Int Str) = .inr "goings") = false := by decide +kernel
theorem wk_sent_clock : decide ((Sum.inr "sent" : Sum Int Str) = .inr "clock") = false := by decide +kernel
theorem wk_sent_since : decide ((Sum.inr "sent" : Sum Int Str) = .inr "since") = false := by decide +kernel
theorem wk_sent_taken : decide ((Sum.inr "sent" : Sum Int Str) = .inr "taken") = false := by decide +kernel
theorem wk_sure_links : decide ((Sum.inr "sure" : Sum Int Str) = .inr "links") = false := by decide +kernel
theorem wk_sure_sent : decide ((Sum.inr "sure" : Sum Int Str) = .inr "sent") = false := by decide +kernel
theorem wk_sure_goings : decide ((Sum.inr "sure" : Sum Int Str) = .inr "goings") = false := by decide +kernel
theorem wk_sure_clock : decide ((Sum.inr "sure" : Sum Int Str) = .inr "clock") = false := by decide +kernel
theorem wk_sure_since : decide ((Sum.inr "sure" : Sum Int Str) = .inr "since") = false := by decide +kernel
theorem wk_sure_taken : decide ((Sum.inr "sure" : Sum Int Str) = .inr "taken") = false := by decide +kernel
theorem wk_goings_links : decide ((Sum.inr "goings" : Sum Int Str) = .inr "links") = false := by decide +kernel
theorem wk_goings_sent : decide ((Sum.inr "goings" : Sum Int Str) = .inr "sent") = false := by decide +kernel
theorem wk_goings_sure : decide ((Sum.inr "goings" : Sum Int Str) = .inr "sure") = false := by decide +kernel
theorem wk_goings_clock : decide ((Sum.inr "goings" : Sum Int Str) = .inr "clock") = false := by decide +kernel
theorem wk_goings_since : decide ((Sum.inr "goings" : Sum Int Str) = .inr "since") = false := by decide +kernel
theorem wk_goings_taken : decide ((Sum.inr "goings" : Sum Int Str) = .inr "taken") = false := by decide +kernel
theorem wk_clock_links : decide ((Sum.inr "clock" : Sum Int Str) = .inr "links") = false := by decide +kernel
theorem wk_clock_sent : decide ((Sum.inr "clock" : Sum Int Str) = .inr "sent") = false := by decide +kernel
theorem wk_clock_sure : decide ((Sum.inr "clock" : Sum Int Str) = .inr "sure") = false := by decide +kernel
theorem wk_clock_goings : decide ((Sum.inr "clock" : Sum Int Str) = .inr "goings") = false := by decide +kernel
theorem wk_clock_since : decide ((Sum.inr "clock" : Sum Int Str) = .inr "since") = false := by decide +kernel
theorem wk_clock_taken : decide ((Sum.inr "clock" : Sum Int Str) = .inr "taken") = false := by decide +kernel
theorem wk_since_links : decide ((Sum.inr "since" : Sum Int Str) = .inr "links") = false := by decide +kernel
theorem wk_since_sent : decide ((Sum.inr "since" : Sum Int Str) = .inr "sent") = false := by decide +kernel
theorem wk_since_sure : decide ((Sum.inr "since" : Sum Int Str) = .inr "sure") = false := by decide +kernel
theorem wk_since_goings : decide ((Sum.inr "since" : Sum Int Str) = .inr "goings") = false := by decide +kernel
theorem wk_since_clock : decide ((Sum.inr "since" : Sum Int Str) = .inr "clock") = false := by decide +kernel
theorem wk_since_taken : decide ((Sum.inr "since" : Sum Int Str) = .inr "taken") = false := by decide +kernel
theorem wk_taken_links : decide ((Sum.inr "taken" : Sum Int Str) = .inr "links") = false := by decide +kernel
theorem wk_taken_sent : decide ((Sum.inr "taken" : Sum Int Str) = .inr "sent") = false := by decide +kernel
theorem wk_taken_sure : decide ((Sum.inr "taken" : Sum Int Str) = .inr "sure") = false := by decide +kernel
theorem wk_taken_goings : decide ((Sum.inr "taken" : Sum Int Str) = .inr "goings") = false := by decide +kernel
theorem wk_taken_clock : decide ((Sum.inr "taken" : Sum Int Str) = .inr "clock") = false := by decide +kernel
theorem wk_taken_since : decide ((Sum.inr "taken" : Sum Int Str) = .inr "since") = false := by decide +kernel
theorem wk_nd : (["links", "sent", "sure", "goings", "clock", "since", "taken"].map (fun s : String => (Sum.inr (Str.ofString s) : Sum Int Str))).Nodup := by decide +kernel
def Dw (b : Nat) (c : Nat) : List (Sum Int Str × D) := [(.inr "links", .loc b), (.inr "sent", .loc (b + 3)), (.inr "sure", .loc (b + 4)), (.inr "goings", .loc (b + 7)), (.inr "clock", .int (c : Nat)), (.inr "since", .loc (b + 8)), (.inr "taken", .loc (b + 9))]
theorem dw_links (b c : Nat) : kvAt (Dw b c) (.inr "links") = some (.loc b) := by
  unfold kvAt Dw
  simp only [List.find?_cons,  decide_true, Option.map_some]
theorem dw_sent (b c : Nat) : kvAt (Dw b c) (.inr "sent") = some (.loc (b + 3)) := by
  unfold kvAt Dw
  simp only [List.find?_cons, wk_links_sent,  decide_true, Option.map_some]
theorem dw_sure (b c : Nat) : kvAt (Dw b c) (.inr "sure") = some (.loc (b + 4)) := by
  unfold kvAt Dw
  simp only [List.find?_cons, wk_links_sure, wk_sent_sure,  decide_true, Option.map_some]
theorem dw_goings (b c : Nat) : kvAt (Dw b c) (.inr "goings") = some (.loc (b + 7)) := by
  unfold kvAt Dw
  simp only [List.find?_cons, wk_links_goings, wk_sent_goings, wk_sure_goings,  decide_true, Option.map_some]
theorem dw_clock (b c : Nat) : kvAt (Dw b c) (.inr "clock") = some (.int (c : Nat)) := by
  unfold kvAt Dw
  simp only [List.find?_cons, wk_links_clock, wk_sent_clock, wk_sure_clock, wk_goings_clock,  decide_true, Option.map_some]
theorem dw_since (b c : Nat) : kvAt (Dw b c) (.inr "since") = some (.loc (b + 8)) := by
  unfold kvAt Dw
  simp only [List.find?_cons, wk_links_since, wk_sent_since, wk_sure_since, wk_goings_since, wk_clock_since,  decide_true, Option.map_some]
theorem dw_taken (b c : Nat) : kvAt (Dw b c) (.inr "taken") = some (.loc (b + 9)) := by
  unfold kvAt Dw
  simp only [List.find?_cons, wk_links_taken, wk_sent_taken, wk_sure_taken, wk_goings_taken, wk_clock_taken, wk_since_taken,  decide_true, Option.map_some]
theorem we_links : ((Sum.inr "links" : Sum Int Str) = .inr "clock") = False := eq_false (of_decide_eq_false wk_links_clock)
theorem we_sent : ((Sum.inr "sent" : Sum Int Str) = .inr "clock") = False := eq_false (of_decide_eq_false wk_sent_clock)
theorem we_sure : ((Sum.inr "sure" : Sum Int Str) = .inr "clock") = False := eq_false (of_decide_eq_false wk_sure_clock)
theorem we_goings : ((Sum.inr "goings" : Sum Int Str) = .inr "clock") = False := eq_false (of_decide_eq_false wk_goings_clock)
theorem we_since : ((Sum.inr "since" : Sum Int Str) = .inr "clock") = False := eq_false (of_decide_eq_false wk_since_clock)
theorem we_taken : ((Sum.inr "taken" : Sum Int Str) = .inr "clock") = False := eq_false (of_decide_eq_false wk_taken_clock)
theorem dw_tick (b c d : Nat) : kvPut (Dw b c) (.inr "clock") (.int (d : Nat)) = Dw b d := by
  unfold kvPut Dw
  simp only [List.any_cons, List.any_nil, wk_links_clock, wk_sent_clock, wk_sure_clock, wk_goings_clock, wk_since_clock, wk_taken_clock,  decide_true, Bool.true_or, Bool.or_true, Bool.false_or, if_true, List.map_cons, List.map_nil, we_links, we_sent, we_sure, we_goings, we_since, we_taken,  if_false]
structure Hd where
  life : Nat
  far : Nat
  num : Bool
  clk : Nat
  sr : Bool
def dh (h : Hd) : D := .tup [.int h.life, .int h.far, .bl h.num, .int h.clk, .bl h.sr]
def dg (g : Nat × Nat × Nat) : D := .tup [.int (g.1 : Nat), .int (g.2.1 : Nat), .int (g.2.2 : Nat)]
def dt (t : Nat × Hd) : D := .tup [.int (t.1 : Nat), dh t.2]
def ds (p : Nat × Nat) : Sum Int Str × D := (.inl (p.1 : Nat), .int (p.2 : Nat))
structure Wd where
  l : Nat → Lk
  s : Nat → List Hd
  sure : List (Nat × Nat)
  g : Nat → List (Nat × Nat × Nat)
  clk : Nat
  since : List (Nat × Nat)
  taken : List (Nat × Hd)
def upd1 {α : Type} (f : Nat → α) (i : Nat) (x : α) : Nat → α := fun j => if j = i then x else f j
theorem upd1_same {α : Type} (f : Nat → α) (i : Nat) (x : α) : upd1 f i x i = x := if_pos rfl
theorem upd1_ne {α : Type} (f : Nat → α) {i j : Nat} (x : α) (h : j ≠ i) : upd1 f i x j = f j := if_neg h
def Wd.tick (w : Wd) : Wd := { w with clk := w.clk + 1 }
def Wd.put (w : Wd) (s : Nat) (x : Lk) : Wd := { w with
  since := if x.mine ∈ w.since.map (·.1) then w.since else w.since ++ [(x.mine, w.clk)]
  l := upd1 w.l s x
  sure := if x.ph = .sure ∧ (x.mine, x.peer) ∉ w.sure then w.sure ++ [(x.mine, x.peer)] else w.sure }
def Wd.send (w : Wd) (s : Nat) (n : Bool) : Wd := { w with s := upd1 w.s s (w.s s ++ [⟨(w.l s).mine, (w.l s).peer, n && decide ((w.l s).ph = .sure), w.clk, decide (((w.l s).mine, (w.l s).peer) ∈ w.sure)⟩]) }
def Wd.crash (w : Wd) (s : Nat) : Wd := w.put s ⟨s, (w.l s).mine + 2, 0, .new⟩
def Wd.hear (w : Wd) (s : Nat) (h : Hd) : Wd :=
  if (heard (w.l s) h.life h.far).ph = .gone then ({ w with g := upd1 w.g s (w.g s ++ [((w.l s).mine, (w.l s).peer, h.life)]) } : Wd).put s ⟨s, (w.l s).mine + 2, h.life, .new⟩
  else (if (heard (w.l s) h.life h.far).ph = .sure ∧ (heard (w.l s) h.life h.far).peer = h.life ∧ (heard (w.l s) h.life h.far).mine = h.far then { w with taken := w.taken ++ [((heard (w.l s) h.life h.far).mine, h)] } else w : Wd).put s (heard (w.l s) h.life h.far)
inductive Deed (c : Bool) (w : Wd) : Wd → Prop
  | crash (s : Nat) : s ≤ 1 → c = true → Deed c w (w.tick.crash s)
  | send (s : Nat) (n : Bool) : s ≤ 1 → Deed c w (w.tick.send s n)
  | hear (s : Nat) (h : Hd) : s ≤ 1 → h ∈ w.s (1 - s) → Deed c w (w.tick.hear s h)
structure Ok (w : Wd) : Prop where
  side : ∀ s, s ≤ 1 → (w.l s).side = s
  l : ∀ s, s ≤ 1 → okL (w.l s)
  ng : ∀ s, s ≤ 1 → (w.l s).ph ≠ .gone
  m : ∀ s, s ≤ 1 → (w.l s).mine ≤ 2 * w.clk + 2
  h : ∀ s, s ≤ 1 → ∀ x ∈ w.s s, kind x.life s ∧ (x.far = 0 ∨ kind x.far (1 - s)) ∧ x.clk ≤ w.clk
  n1 : ∀ s, s ≤ 1 → (w.s s).length ≤ w.clk
  n2 : ∀ s, s ≤ 1 → (w.g s).length ≤ w.clk
  n3 : w.sure.length ≤ w.clk
  n4 : w.since.length ≤ w.clk + 2
  n5 : w.taken.length ≤ w.clk
  c : w.clk ≤ 1000
theorem heard_side (l : Lk) (a b : Nat) : (heard l a b).side = l.side ∧ (heard l a b).mine = l.mine := by
  unfold heard
  split
  · exact ⟨rfl, rfl⟩
  · split <;> exact ⟨rfl, rfl⟩
theorem heard_okL {l : Lk} {a b : Nat} (h : okL l) (ha : kind a (1 - l.side)) : okL (heard l a b) := by
  have hz : a ≠ 0 := by
    have := ha.1
    omega
  unfold heard
  split
  · exact h
  · rename_i h0
    split
    · rename_i h1
      refine ⟨h.s, h.m, h.p, fun z => ?_⟩
      have := h.z z
      rw [h1.1] at this
      cases this
    · exact ⟨h.s, h.m, .inr ha, fun z => absurd z hz⟩
theorem sides {s : Nat} (h : s ≤ 1) : s = 0 ∨ s = 1 := by omega
theorem Ok.put {w : Wd} {c : Nat} {s : Nat} {x : Lk} (ok : Ok w) (hs : s ≤ 1) (h1 : x.side = s) (h2 : okL x) (h3 : x.ph ≠ .gone) (h4 : x.mine ≤ 2 * (w.clk + 1) + 2) (hc : w.clk + 1 ≤ 1000) (w' : Wd) (e1 : w'.clk = w.clk + 1) (e2 : w'.s = w.s) (e3 : w'.l = w.l) (e4 : w'.sure = w.sure) (e5 : w'.since = w.since)
    (e6 : ∀ s, s ≤ 1 → (w'.g s).length ≤ w.clk + 1) (e7 : w'.taken.length ≤ w.clk + 1) : Ok (w'.put s x) := by
  have ul : ∀ t, t ≤ 1 → (w'.put s x).l t = if t = s then x else w.l t := fun t _ => by
    unfold Wd.put upd1
    rw [e3]
  refine ⟨fun t ht => ?_, fun t ht => ?_, fun t ht => ?_, fun t ht => ?_, fun t ht y hy => ?_, fun t ht => ?_, fun t ht => ?_, ?_, ?_, ?_, ?_⟩
  · rw [ul t ht]
    split
    · rename_i e
      rw [e]
      exact h1
    · exact ok.side t ht
  · rw [ul t ht]
    split
    · exact h2
    · exact ok.l t ht
  · rw [ul t ht]
    split
    · exact h3
    · exact ok.ng t ht
  · rw [ul t ht]
    show _ ≤ 2 * w'.clk + 2
    rw [e1]
    split
    · exact h4
    · have := ok.m t ht
      omega
  · have hy' : y ∈ w.s t := by
      rw [← e2]
      exact hy
    obtain ⟨a, b, c⟩ := ok.h t ht y hy'
    refine ⟨a, b, ?_⟩
    show y.clk ≤ w'.clk
    omega
  · show (w'.s t).length ≤ w'.clk
    have := ok.n1 t ht
    rw [e2, e1]
    omega
  · show (w'.g t).length ≤ w'.clk
    rw [e1]
    exact e6 t ht
  · show (if x.ph = .sure ∧ (x.mine, x.peer) ∉ w'.sure then w'.sure ++ [(x.mine, x.peer)] else w'.sure).length ≤ w'.clk
    have := ok.n3
    rw [e4, e1]
    split
    · rw [List.length_append, List.length_singleton]
      omega
    · omega
  · show (if x.mine ∈ w'.since.map (·.1) then w'.since else w'.since ++ [(x.mine, w'.clk)]).length ≤ w'.clk + 2
    have := ok.n4
    rw [e5, e1]
    split
    · omega
    · rw [List.length_append, List.length_singleton]
      omega
  · show w'.taken.length ≤ w'.clk
    rw [e1]
    exact e7
  · show w'.clk ≤ 1000
    omega
theorem kind_up {v s : Nat} (h : kind v s) (hv : v ≤ 2002) : kind (v + 2) s := by
  obtain ⟨a, b, c⟩ := h
  exact ⟨by omega, by omega, by omega⟩
theorem Ok.deed {c : Bool} {w w' : Wd} (ok : Ok w) (d : Deed c w w') (hc : w.clk + 1 ≤ 1000) : Ok w' := by
  cases d with
  | crash s hs _ =>
    have m := ok.m s hs
    refine ok.put (c := 0) hs rfl ⟨hs, ?_, .inl rfl, fun _ => rfl⟩ (fun z => by cases z) ?_ hc w.tick rfl rfl rfl rfl rfl (fun t ht => ?_) ?_
    · have := (ok.l s hs).m
      rw [ok.side s hs] at this
      exact kind_up this (by show (w.l s).mine ≤ _; omega)
    · show (w.l s).mine + 2 ≤ _
      omega
    · have := ok.n2 t ht
      show (w.g t).length ≤ _
      omega
    · have := ok.n5
      show w.taken.length ≤ _
      omega
  | send s n hs =>
    refine ⟨ok.side, ok.l, ok.ng, fun t ht => ?_, fun t ht y hy => ?_, fun t ht => ?_, fun t ht => ?_, ?_, ?_, ?_, ?_⟩
    · have := ok.m t ht
      show (w.l t).mine ≤ 2 * (w.clk + 1) + 2
      omega
    · have hy' : y ∈ upd1 w.s s (w.s s ++ [⟨(w.l s).mine, (w.l s).peer, n && decide ((w.l s).ph = .sure), w.clk + 1, decide (((w.l s).mine, (w.l s).peer) ∈ w.sure)⟩]) t := hy
      by_cases e : t = s
      · subst e
        rw [upd1_same, List.mem_append, List.mem_singleton] at hy'
        rcases hy' with hy' | rfl
        · obtain ⟨a, b, c⟩ := ok.h t ht y hy'
          exact ⟨a, b, by show y.clk ≤ w.clk + 1; omega⟩
        · have h1 := (ok.l t ht).m
          have h2 := (ok.l t ht).p
          rw [ok.side t ht] at h1 h2
          exact ⟨h1, h2, Nat.le_refl _⟩
      · rw [upd1_ne _ _ e] at hy'
        obtain ⟨a, b, c⟩ := ok.h t ht y hy'
        exact ⟨a, b, by show y.clk ≤ w.clk + 1; omega⟩
    · show (upd1 w.s s _ t).length ≤ w.clk + 1
      have := ok.n1 t ht
      by_cases e : t = s
      · subst e
        rw [upd1_same, List.length_append]
        show _ + 1 ≤ _
        have : (w.tick.s t).length ≤ w.clk := ok.n1 t ht
        omega
      · rw [upd1_ne _ _ e]
        show (w.s t).length ≤ _
        omega
    · have := ok.n2 t ht
      show (w.g t).length ≤ w.clk + 1
      omega
    · have := ok.n3
      show w.sure.length ≤ w.clk + 1
      omega
    · have := ok.n4
      show w.since.length ≤ w.clk + 1 + 2
      omega
    · have := ok.n5
      show w.taken.length ≤ w.clk + 1
      omega
    · exact hc
  | hear s h hs hh =>
    have m := ok.m s hs
    obtain ⟨a, b, _⟩ := ok.h (1 - s) (by omega) h hh
    have sd := ok.side s hs
    have hl := ok.l s hs
    have hk : kind h.life (1 - (w.l s).side) := by rw [sd]; exact a
    have hm := heard_side (w.l s) h.life h.far
    unfold Wd.hear
    split
    · refine ok.put (c := 0) hs rfl ⟨hs, ?_, .inr a, fun _ => rfl⟩ (fun z => by cases z) ?_ hc _ rfl rfl rfl rfl rfl (fun t ht => ?_) ?_
      · have := hl.m
        rw [sd] at this
        exact kind_up this (by show (w.l s).mine ≤ _; omega)
      · show (w.l s).mine + 2 ≤ _
        omega
      · have := ok.n2 t ht
        show (upd1 w.g s _ t).length ≤ w.clk + 1
        by_cases e : t = s
        · subst e
          rw [upd1_same, List.length_append]
          show _ + 1 ≤ _
          have : (w.tick.g t).length ≤ w.clk := ok.n2 t ht
          omega
        · rw [upd1_ne _ _ e]
          show (w.g t).length ≤ _
          omega
      · have := ok.n5
        show w.taken.length ≤ _
        omega
    · rename_i hg
      refine ok.put (c := 0) hs (hm.1.trans sd) (heard_okL hl hk) hg ?_ hc _ ?_ ?_ ?_ ?_ ?_ (fun t ht => ?_) ?_
      · show (heard (w.l s) h.life h.far).mine ≤ _
        rw [hm.2]
        omega
      · split <;> rfl
      · split <;> rfl
      · split <;> rfl
      · split <;> rfl
      · split <;> rfl
      · have := ok.n2 t ht
        split
        · show (w.g t).length ≤ _
          omega
        · show (w.g t).length ≤ _
          omega
      · have := ok.n5
        split
        · show (w.taken ++ [_]).length ≤ _
          rw [List.length_append, List.length_singleton]
          omega
        · show w.taken.length ≤ _
          omega

def objs (b : Nat) (w : Wd) : List MO := [.lst [dl (w.l 0), dl (w.l 1)], .lst ((w.s 0).map dh), .lst ((w.s 1).map dh), .lst [.loc (b + 1), .loc (b + 2)], .lst (w.sure.map dp), .lst ((w.g 0).map dg), .lst ((w.g 1).map dg), .lst [.loc (b + 5), .loc (b + 6)],
  .dct (w.since.map ds), .lst (w.taken.map dt), .dct (Dw b w.clk)]
def WM (k : Nat) (P : Mem) (b : Nat) (w : Wd) (T M : Mem) : Prop := b = P.length + 4 ∧ St k (P ++ (objs b w ++ T)) M
section
variable {k k' : Nat} {P T M M1 : Mem} {b : Nat} {w w' : Wd}
theorem WM.get (h : WM k P b w T M) (i : Nat) {o : MO} (e : (objs b w)[i]? = some o) : M[b + i]? = some o := by
  obtain ⟨hb, h⟩ := h
  have hi := (List.getElem?_eq_some_iff.mp e).1
  rw [h.at' (show b + i = (P.length + i) + 4 by omega), List.getElem?_append_right (by omega), Nat.add_sub_cancel_left, List.getElem?_append_left hi, e]
theorem WM.len (h : WM k P b w T M) : M.length = b + 11 + T.length := by
  obtain ⟨hb, h⟩ := h
  rw [h.len, List.length_append, List.length_append]
  show P.length + (11 + T.length) + 4 = _
  omega
theorem WM.put (h : WM k P b w T M) (i : Nat) (o : MO) (hi : i < 11) (e : (objs b w).set i o = objs b w') : WM k P b w' T (M.set (b + i) o) := by
  obtain ⟨hb, h⟩ := h
  refine ⟨hb, ?_⟩
  have := h.set' (i := P.length + i) (j := b + i) o (by omega)
  rw [List.set_append_right _ _ (by omega), Nat.add_sub_cancel_left, List.set_append_left _ _ hi, e] at this
  exact this
theorem WM.app (h : WM k P b w T M) (X : Mem) : WM k P b w (T ++ X) (M ++ X) := by
  obtain ⟨hb, h⟩ := h
  refine ⟨hb, ?_⟩
  have := h.app X
  rwa [List.append_assoc, List.append_assoc] at this
theorem WM.mono (h : WM k P b w T M) (hk : k ≤ k') : WM k' P b w T M := ⟨h.1, h.2.mono hk⟩
theorem below_maps {α : Type} {f : α → D} (n : Nat) (hf : ∀ x, below n (f x) = true) : ∀ xs : List α, belowAll n (xs.map f) = true
  | [] => by simp
  | x :: r => by
    rw [List.map_cons, belowAll_cons, hf x, below_maps n hf r]
    rfl
theorem below_dl (n : Nat) (l : Lk) : below n (dl l) = true := by simp [dl]
theorem below_dh (n : Nat) (l : Hd) : below n (dh l) = true := by simp [dh]
theorem objs_below {n : Nat} (hn : b + 11 ≤ n) : ∀ (i : Nat) (o : MO), (objs b w)[i]? = some o → belowO n o = true := by
  intro i o e
  have m := List.mem_of_getElem? e
  simp only [objs, List.mem_cons, List.not_mem_nil, or_false] at m
  rcases m with rfl | rfl | rfl | rfl | rfl | rfl | rfl | rfl | rfl | rfl | rfl
  · simp [belowO, below_dl]
  · exact below_maps _ (below_dh n) _
  · exact below_maps _ (below_dh n) _
  · simp [belowO]; omega
  · exact below_maps _ (fun p => by simp [dp]) _
  · exact below_maps _ (fun p => by simp [dg]) _
  · exact below_maps _ (fun p => by simp [dg]) _
  · simp [belowO]; omega
  · simp only [belowO, List.map_map]
    exact below_maps _ (fun p => by simp [ds]) _
  · exact below_maps _ (fun p => by simp [dt, below_dh]) _
  · simp [belowO, Dw]; omega
theorem WM.ret (h : WM k P b w T M) {X : Mem} (h1 : WM k' P b w' (T ++ X) M1) {ds : List D} (hd : belowAll M.length ds = true) : WM k' P b w' T (gc M ds M1) := by
  have hl := h.len
  obtain ⟨hb, h⟩ := h
  obtain ⟨_, h1⟩ := h1
  refine ⟨hb, ?_⟩
  have h1' : St k' ((P ++ (objs b w' ++ T)) ++ X) M1 := by
    rwa [List.append_assoc, List.append_assoc]
  refine h.gc h1' (by simp [objs]) (by rw [← h.len]; exact hd) fun i o e => ?_
  by_cases c1 : i < P.length
  · rw [List.getElem?_append_left c1] at e ⊢
    exact .inl e
  · rw [List.getElem?_append_right (by omega)] at e ⊢
    by_cases c2 : i - P.length < 11
    · rw [List.getElem?_append_left (by exact c2)] at e
      refine .inr (objs_below ?_ _ o e)
      rw [← h.len, hl]
      omega
    · rw [List.getElem?_append_right (by show 11 ≤ _; omega)] at e ⊢
      exact .inl e
theorem WM.ret0 (h : WM k P b w T M) (h1 : WM k' P b w' T M1) {ds : List D} (hd : belowAll M.length ds = true) : WM k' P b w' T (gc M ds M1) := h.ret (X := []) (by rw [List.append_nil]; exact h1) hd
end
section
variable {k : Nat} {P T M : Mem} {b : Nat} {w : Wd} {K : D → Mem → Prop} {E : EK}
theorem wd_links (h : WM k P b w T M) : oIxD (.loc (b + 10)) (.str "links") M = .ok (.loc b) M := ixD_kv (h.get 10 rfl) (dw_links _ _)
theorem wd_sent (h : WM k P b w T M) : oIxD (.loc (b + 10)) (.str "sent") M = .ok (.loc (b + 3)) M := ixD_kv (h.get 10 rfl) (dw_sent _ _)
theorem wd_sure (h : WM k P b w T M) : oIxD (.loc (b + 10)) (.str "sure") M = .ok (.loc (b + 4)) M := ixD_kv (h.get 10 rfl) (dw_sure _ _)
theorem wd_goings (h : WM k P b w T M) : oIxD (.loc (b + 10)) (.str "goings") M = .ok (.loc (b + 7)) M := ixD_kv (h.get 10 rfl) (dw_goings _ _)
theorem wd_clock (h : WM k P b w T M) : oIxD (.loc (b + 10)) (.str "clock") M = .ok (.int (w.clk : Nat)) M := ixD_kv (h.get 10 rfl) (dw_clock _ _)
theorem wd_since (h : WM k P b w T M) : oIxD (.loc (b + 10)) (.str "since") M = .ok (.loc (b + 8)) M := ixD_kv (h.get 10 rfl) (dw_since _ _)
theorem wd_taken (h : WM k P b w T M) : oIxD (.loc (b + 10)) (.str "taken") M = .ok (.loc (b + 9)) M := ixD_kv (h.get 10 rfl) (dw_taken _ _)
theorem wd_link {s : Nat} (h : WM k P b w T M) (hs : s ≤ 1) : oIxU (.loc b) (.int (s : Nat)) M = .ok (dl (w.l s)) M := by
  refine ixU_at (h.get 0 rfl) ?_
  rcases sides hs with rfl | rfl <;> rfl
theorem wd_row {s : Nat} (h : WM k P b w T M) (hs : s ≤ 1) : oIxU (.loc (b + 3)) (.int (s : Nat)) M = .ok (.loc (b + 1 + s)) M := by
  refine ixU_at (h.get 3 rfl) ?_
  rcases sides hs with rfl | rfl <;> rfl
theorem wd_going {s : Nat} (h : WM k P b w T M) (hs : s ≤ 1) : oIxU (.loc (b + 7)) (.int (s : Nat)) M = .ok (.loc (b + 5 + s)) M := by
  refine ixU_at (h.get 7 rfl) ?_
  rcases sides hs with rfl | rfl <;> rfl
theorem wd_sentl {s : Nat} (h : WM k P b w T M) (hs : s ≤ 1) : M[b + 1 + s]? = some (.lst ((w.s s).map dh)) := by
  rcases sides hs with rfl | rfl
  · exact h.get 1 rfl
  · exact h.get 2 rfl
theorem wd_goingl {s : Nat} (h : WM k P b w T M) (hs : s ≤ 1) : M[b + 5 + s]? = some (.lst ((w.g s).map dg)) := by
  rcases sides hs with rfl | rfl
  · exact h.get 5 rfl
  · exact h.get 6 rfl
theorem kv_none {ks : List (Nat × Nat)} {v : Nat} : (kvAt (ks.map ds) (.inl (v : Nat))).isSome = decide (v ∈ ks.map (·.1)) := by
  induction ks with
  | nil => simp [kvAt]
  | cons p r ih =>
    obtain ⟨a, c⟩ := p
    by_cases e : a = v
    · subst e
      simp [kvAt, ds]
    · have e1 : ¬ ((Sum.inl ((a : Nat) : Int) : Sum Int Str) = .inl ((v : Nat) : Int)) := fun z => by
        injection z with z
        omega
      have e2 : kvAt (ds (a, c) :: r.map ds) (.inl (v : Nat)) = kvAt (r.map ds) (.inl (v : Nat)) := by
        unfold kvAt
        rw [List.find?_cons_of_neg (by simpa [ds] using e1)]
      rw [List.map_cons, e2, ih]
      have e3 : ¬ v = a := fun z => e z.symm
      simp [e3]
theorem put_new {ks : List (Nat × Nat)} {v c : Nat} (h : v ∉ ks.map (·.1)) : kvPut (ks.map ds) (.inl (v : Nat)) (.int (c : Nat)) = (ks ++ [(v, c)]).map ds := by
  unfold kvPut
  have e : ((ks.map ds).any fun p => decide (p.1 = .inl ((v : Nat) : Int))) = false := by
    rw [List.any_eq_false]
    intro p hp
    obtain ⟨q, hq, rfl⟩ := List.mem_map.mp hp
    simp only [ds, decide_eq_true_eq]
    intro z
    have z := of_decide_eq_true z
    injection z with z
    exact h (List.mem_map.mpr ⟨q, hq, by omega⟩)
  rw [e, if_neg Bool.false_ne_true, List.map_append]
  rfl
theorem objs_link (s : Nat) (hs : s ≤ 1) (x : Lk) : (objs b w).set 0 (.lst ([dl (w.l 0), dl (w.l 1)].set s (dl x))) = objs b { w with l := upd1 w.l s x } := by
  rcases sides hs with rfl | rfl <;> rfl
theorem objs_sent (s : Nat) (hs : s ≤ 1) (xs : List Hd) : (objs b w).set (1 + s) (.lst (xs.map dh)) = objs b { w with s := upd1 w.s s xs } := by
  rcases sides hs with rfl | rfl <;> rfl
theorem objs_going (s : Nat) (hs : s ≤ 1) (xs : List (Nat × Nat × Nat)) : (objs b w).set (5 + s) (.lst (xs.map dg)) = objs b { w with g := upd1 w.g s xs } := by
  rcases sides hs with rfl | rfl <;> rfl
theorem wd_setl {s : Nat} {x : Lk} (h : WM k P b w T M) (hs : s ≤ 1) : setU (.loc b) (.int (s : Nat)) (dl x) M = some (M.set b (.lst ([dl (w.l 0), dl (w.l 1)].set s (dl x)))) := setU_at (h.get 0 rfl) (show s < 2 by omega)
theorem dl1 {x : Lk} {M : Mem} : oIx (dl x) (.int 1) M = .ok (.int (x.mine : Nat)) M := by
  unfold dl
  exact ix1
theorem dl2 {x : Lk} {M : Mem} : oIx (dl x) (.int 2) M = .ok (.int (x.peer : Nat)) M := by
  unfold dl
  exact ix2
theorem dl3 {x : Lk} {M : Mem} : oIx (dl x) (.int 3) M = .ok (.str (phS x.ph)) M := by
  unfold dl
  exact ix3
theorem put_w {s : Nat} {x : Lk} (h : WM k P b w T M) (hs : s ≤ 1) (n3 : w.sure.length ≤ 1000) (n4 : w.since.length ≤ 1002) (hK : ∀ M', WM k P b (w.put s x) T M' → K .non M') : wpo (f__law_four_put [.loc (b + 10), .int (s : Nat), dl x] M) K E := by
  unfold f__law_four_put
  rw [wp_def (by rfl)]
  have z2 : 2 ≤ 16777216 := by decide
  have fin : ∀ (w1 : Wd) M1, WM k P b w1 T M1 → w1.sure = w.sure → wps (sSeq (sAsg (tSub setU (x2 oIxD (xVar 0) (xK (.str "links"))) (xVar 1)) (xVar 2)) (sIf (bAnd (bE (x2 oEq (x2 oIx (xVar 2) (xK (.int 3))) (xK (.str "sure")))) (bE (x2 (oInU true) (xTup (aCons (x2 oIx (xVar 2) (xK (.int 1))) (aCons (x2 oIx (xVar 2) (xK (.int 2))) (aNil)))) (x2 oIxD (xVar 0) (xK (.str "sure")))))) (sExpr (xLst1 mAppend (x2 oIxD (xVar 0) (xK (.str "sure"))) (xTup (aCons (x2 oIx (xVar 2) (xK (.int 1))) (aCons (x2 oIx (xVar 2) (xK (.int 2))) (aNil)))))) (sPass)) [some (.loc (b + 10)), some (.int (s : Nat)), some (dl x)] M1)
      (fun o => ∃ r M2, o = .nx r M2 ∧ WM k P b { w1 with l := upd1 w1.l s x, sure := if x.ph = .sure ∧ (x.mine, x.peer) ∉ w1.sure then w1.sure ++ [(x.mine, x.peer)] else w1.sure } T M2) := by
    intro w1 M1 h1 es
    simp only [↓wpo, ↓wps, ↓w_var, ↓w_k, ↓w_aNil, ↓w_aCons, ↓w_tup, ↓w_lst, ↓w_2, ↓w_1, ↓w_call, ↓w_if, ↓w_and, ↓w_or, ↓w_not, ↓w_bE, ↓w_bAnd, ↓w_bOr, ↓w_bNot, ↓w_bTrue, ↓w_chain, ↓w_oNone, ↓w_oSome, ↓w_slice, ↓w_kNil, ↓w_kCons, ↓w_dct, ↓w_dct0, ↓w_lst1, ↓w_fs, ↓w_get1, ↓w_get2, ↓ws_pass, ↓ws_break, ↓ws_cont, ↓ws_retN, ↓ws_seq, ↓ws_set, ↓ws_par, ↓ws_par3, ↓ws_expr, ↓ws_ret, ↓ws_if, ↓ws_raise, ↓ws_try, ↓ws_asg, ↓ws_nxo, ↓ws_sub, ↓ws_for, ↓wi_range1, ↓wi_range2, ↓wi_range3, ↓wi_seq, ↓wi_enum, wpo_ok, wpo_err, wpo_bind, ws_nx, ws_rt, ws_bk, ws_ct, ws_er, sq_nx, sq_rt, sq_bk, sq_ct, sq_er, lq_nx, lq_ct, lq_bk, lq_rt, lq_er, fq_nx, fq_rt, fq_er, tq_nx, tq_rt, tq_bk, tq_ct, tq_er, asV_ok, asB_ok, asI_ok, asK_int, asK_str, asP_ok, asP3_ok, asM_ok, asS_tup, asS_fz, asE_tup, asE_fz, add_ok, sub_ok, eq_ok, ne_ok, lt_ok, le_ok, gt_ok, ge_ok, neg_ok, isn_ok, notn_ok, int_ok, bind_ok, List.map_cons, List.map_nil, List.replicate, List.cons_append, List.nil_append, List.getElem?_cons_zero, List.getElem?_cons_succ, List.set_cons_zero, List.set_cons_succ, if_true, if_false, Bool.not_true, Bool.not_false, gc_same, Bool.false_eq_true, decide_true, decide_false, tName, tTup, tsCons, tsNil, List.length_cons, List.length_nil, ite_true, ite_false, reduceIte, reduceCtorEq, Nat.zero_add, Nat.reduceAdd, Nat.reduceEqDiff, Nat.reduceLeDiff, isNon, Int.zero_add, and_self, eq_self, ix0, ix1, ix2, ix3, ix4, ix5, isi_int, isi_nbl, isi_tup, isi_str, eqs_ok, nes_ok, len_tup, wd_links h1, wd_setl h1 hs]
    have h2 := h1.put 0 _ (by omega) (objs_link (b := b) (w := w1) s hs x)
    rw [Nat.add_zero] at h2
    generalize M1.set b _ = M2 at h2 ⊢
    simp only [↓wpo, ↓wps, ↓w_var, ↓w_k, ↓w_aNil, ↓w_aCons, ↓w_tup, ↓w_lst, ↓w_2, ↓w_1, ↓w_call, ↓w_if, ↓w_and, ↓w_or, ↓w_not, ↓w_bE, ↓w_bAnd, ↓w_bOr, ↓w_bNot, ↓w_bTrue, ↓w_chain, ↓w_oNone, ↓w_oSome, ↓w_slice, ↓w_kNil, ↓w_kCons, ↓w_dct, ↓w_dct0, ↓w_lst1, ↓w_fs, ↓w_get1, ↓w_get2, ↓ws_pass, ↓ws_break, ↓ws_cont, ↓ws_retN, ↓ws_seq, ↓ws_set, ↓ws_par, ↓ws_par3, ↓ws_expr, ↓ws_ret, ↓ws_if, ↓ws_raise, ↓ws_try, ↓ws_asg, ↓ws_nxo, ↓ws_sub, ↓ws_for, ↓wi_range1, ↓wi_range2, ↓wi_range3, ↓wi_seq, ↓wi_enum, wpo_ok, wpo_err, wpo_bind, ws_nx, ws_rt, ws_bk, ws_ct, ws_er, sq_nx, sq_rt, sq_bk, sq_ct, sq_er, lq_nx, lq_ct, lq_bk, lq_rt, lq_er, fq_nx, fq_rt, fq_er, tq_nx, tq_rt, tq_bk, tq_ct, tq_er, asV_ok, asB_ok, asI_ok, asK_int, asK_str, asP_ok, asP3_ok, asM_ok, asS_tup, asS_fz, asE_tup, asE_fz, add_ok, sub_ok, eq_ok, ne_ok, lt_ok, le_ok, gt_ok, ge_ok, neg_ok, isn_ok, notn_ok, int_ok, bind_ok, List.map_cons, List.map_nil, List.replicate, List.cons_append, List.nil_append, List.getElem?_cons_zero, List.getElem?_cons_succ, List.set_cons_zero, List.set_cons_succ, if_true, if_false, Bool.not_true, Bool.not_false, gc_same, Bool.false_eq_true, decide_true, decide_false, tName, tTup, tsCons, tsNil, List.length_cons, List.length_nil, ite_true, ite_false, reduceIte, reduceCtorEq, Nat.zero_add, Nat.reduceAdd, Nat.reduceEqDiff, Nat.reduceLeDiff, isNon, Int.zero_add, and_self, eq_self, ix0, ix1, ix2, ix3, ix4, ix5, isi_int, isi_nbl, isi_tup, isi_str, eqs_ok, nes_ok, len_tup, dl3, ph_sure]
    by_cases hp : x.ph = .sure
    · simp only [↓wpo, ↓wps, ↓w_var, ↓w_k, ↓w_aNil, ↓w_aCons, ↓w_tup, ↓w_lst, ↓w_2, ↓w_1, ↓w_call, ↓w_if, ↓w_and, ↓w_or, ↓w_not, ↓w_bE, ↓w_bAnd, ↓w_bOr, ↓w_bNot, ↓w_bTrue, ↓w_chain, ↓w_oNone, ↓w_oSome, ↓w_slice, ↓w_kNil, ↓w_kCons, ↓w_dct, ↓w_dct0, ↓w_lst1, ↓w_fs, ↓w_get1, ↓w_get2, ↓ws_pass, ↓ws_break, ↓ws_cont, ↓ws_retN, ↓ws_seq, ↓ws_set, ↓ws_par, ↓ws_par3, ↓ws_expr, ↓ws_ret, ↓ws_if, ↓ws_raise, ↓ws_try, ↓ws_asg, ↓ws_nxo, ↓ws_sub, ↓ws_for, ↓wi_range1, ↓wi_range2, ↓wi_range3, ↓wi_seq, ↓wi_enum, wpo_ok, wpo_err, wpo_bind, ws_nx, ws_rt, ws_bk, ws_ct, ws_er, sq_nx, sq_rt, sq_bk, sq_ct, sq_er, lq_nx, lq_ct, lq_bk, lq_rt, lq_er, fq_nx, fq_rt, fq_er, tq_nx, tq_rt, tq_bk, tq_ct, tq_er, asV_ok, asB_ok, asI_ok, asK_int, asK_str, asP_ok, asP3_ok, asM_ok, asS_tup, asS_fz, asE_tup, asE_fz, add_ok, sub_ok, eq_ok, ne_ok, lt_ok, le_ok, gt_ok, ge_ok, neg_ok, isn_ok, notn_ok, int_ok, bind_ok, List.map_cons, List.map_nil, List.replicate, List.cons_append, List.nil_append, List.getElem?_cons_zero, List.getElem?_cons_succ, List.set_cons_zero, List.set_cons_succ, if_true, if_false, Bool.not_true, Bool.not_false, gc_same, Bool.false_eq_true, decide_true, decide_false, tName, tTup, tsCons, tsNil, List.length_cons, List.length_nil, ite_true, ite_false, reduceIte, reduceCtorEq, Nat.zero_add, Nat.reduceAdd, Nat.reduceEqDiff, Nat.reduceLeDiff, isNon, Int.zero_add, and_self, eq_self, ix0, ix1, ix2, ix3, ix4, ix5, isi_int, isi_nbl, isi_tup, isi_str, eqs_ok, nes_ok, len_tup, decide_eq_true hp, z2, dl1, dl2, wd_sure h2, inU_pp x.mine x.peer (h2.get 4 rfl)]
      by_cases hq : (x.mine, x.peer) ∈ w1.sure
      · simp only [↓wpo, ↓wps, ↓w_var, ↓w_k, ↓w_aNil, ↓w_aCons, ↓w_tup, ↓w_lst, ↓w_2, ↓w_1, ↓w_call, ↓w_if, ↓w_and, ↓w_or, ↓w_not, ↓w_bE, ↓w_bAnd, ↓w_bOr, ↓w_bNot, ↓w_bTrue, ↓w_chain, ↓w_oNone, ↓w_oSome, ↓w_slice, ↓w_kNil, ↓w_kCons, ↓w_dct, ↓w_dct0, ↓w_lst1, ↓w_fs, ↓w_get1, ↓w_get2, ↓ws_pass, ↓ws_break, ↓ws_cont, ↓ws_retN, ↓ws_seq, ↓ws_set, ↓ws_par, ↓ws_par3, ↓ws_expr, ↓ws_ret, ↓ws_if, ↓ws_raise, ↓ws_try, ↓ws_asg, ↓ws_nxo, ↓ws_sub, ↓ws_for, ↓wi_range1, ↓wi_range2, ↓wi_range3, ↓wi_seq, ↓wi_enum, wpo_ok, wpo_err, wpo_bind, ws_nx, ws_rt, ws_bk, ws_ct, ws_er, sq_nx, sq_rt, sq_bk, sq_ct, sq_er, lq_nx, lq_ct, lq_bk, lq_rt, lq_er, fq_nx, fq_rt, fq_er, tq_nx, tq_rt, tq_bk, tq_ct, tq_er, asV_ok, asB_ok, asI_ok, asK_int, asK_str, asP_ok, asP3_ok, asM_ok, asS_tup, asS_fz, asE_tup, asE_fz, add_ok, sub_ok, eq_ok, ne_ok, lt_ok, le_ok, gt_ok, ge_ok, neg_ok, isn_ok, notn_ok, int_ok, bind_ok, List.map_cons, List.map_nil, List.replicate, List.cons_append, List.nil_append, List.getElem?_cons_zero, List.getElem?_cons_succ, List.set_cons_zero, List.set_cons_succ, if_true, if_false, Bool.not_true, Bool.not_false, gc_same, Bool.false_eq_true, decide_true, decide_false, tName, tTup, tsCons, tsNil, List.length_cons, List.length_nil, ite_true, ite_false, reduceIte, reduceCtorEq, Nat.zero_add, Nat.reduceAdd, Nat.reduceEqDiff, Nat.reduceLeDiff, isNon, Int.zero_add, and_self, eq_self, ix0, ix1, ix2, ix3, ix4, ix5, isi_int, isi_nbl, isi_tup, isi_str, eqs_ok, nes_ok, len_tup, decide_eq_true hq]
        refine ⟨_, M2, rfl, ?_⟩
        rw [if_neg fun z => z.2 hq]
        exact h2
      · simp only [↓wpo, ↓wps, ↓w_var, ↓w_k, ↓w_aNil, ↓w_aCons, ↓w_tup, ↓w_lst, ↓w_2, ↓w_1, ↓w_call, ↓w_if, ↓w_and, ↓w_or, ↓w_not, ↓w_bE, ↓w_bAnd, ↓w_bOr, ↓w_bNot, ↓w_bTrue, ↓w_chain, ↓w_oNone, ↓w_oSome, ↓w_slice, ↓w_kNil, ↓w_kCons, ↓w_dct, ↓w_dct0, ↓w_lst1, ↓w_fs, ↓w_get1, ↓w_get2, ↓ws_pass, ↓ws_break, ↓ws_cont, ↓ws_retN, ↓ws_seq, ↓ws_set, ↓ws_par, ↓ws_par3, ↓ws_expr, ↓ws_ret, ↓ws_if, ↓ws_raise, ↓ws_try, ↓ws_asg, ↓ws_nxo, ↓ws_sub, ↓ws_for, ↓wi_range1, ↓wi_range2, ↓wi_range3, ↓wi_seq, ↓wi_enum, wpo_ok, wpo_err, wpo_bind, ws_nx, ws_rt, ws_bk, ws_ct, ws_er, sq_nx, sq_rt, sq_bk, sq_ct, sq_er, lq_nx, lq_ct, lq_bk, lq_rt, lq_er, fq_nx, fq_rt, fq_er, tq_nx, tq_rt, tq_bk, tq_ct, tq_er, asV_ok, asB_ok, asI_ok, asK_int, asK_str, asP_ok, asP3_ok, asM_ok, asS_tup, asS_fz, asE_tup, asE_fz, add_ok, sub_ok, eq_ok, ne_ok, lt_ok, le_ok, gt_ok, ge_ok, neg_ok, isn_ok, notn_ok, int_ok, bind_ok, List.map_cons, List.map_nil, List.replicate, List.cons_append, List.nil_append, List.getElem?_cons_zero, List.getElem?_cons_succ, List.set_cons_zero, List.set_cons_succ, if_true, if_false, Bool.not_true, Bool.not_false, gc_same, Bool.false_eq_true, decide_true, decide_false, tName, tTup, tsCons, tsNil, List.length_cons, List.length_nil, ite_true, ite_false, reduceIte, reduceCtorEq, Nat.zero_add, Nat.reduceAdd, Nat.reduceEqDiff, Nat.reduceLeDiff, isNon, Int.zero_add, and_self, eq_self, ix0, ix1, ix2, ix3, ix4, ix5, isi_int, isi_nbl, isi_tup, isi_str, eqs_ok, nes_ok, len_tup, decide_eq_false hq, dl1, dl2, wd_sure h2, isLst_at (h2.get 4 rfl), z2]
        rw [app_ok (h2.get 4 rfl) (by rw [List.length_map]; show w1.sure.length < _; rw [es]; omega)]
        simp only [↓wpo, ↓wps, ↓w_var, ↓w_k, ↓w_aNil, ↓w_aCons, ↓w_tup, ↓w_lst, ↓w_2, ↓w_1, ↓w_call, ↓w_if, ↓w_and, ↓w_or, ↓w_not, ↓w_bE, ↓w_bAnd, ↓w_bOr, ↓w_bNot, ↓w_bTrue, ↓w_chain, ↓w_oNone, ↓w_oSome, ↓w_slice, ↓w_kNil, ↓w_kCons, ↓w_dct, ↓w_dct0, ↓w_lst1, ↓w_fs, ↓w_get1, ↓w_get2, ↓ws_pass, ↓ws_break, ↓ws_cont, ↓ws_retN, ↓ws_seq, ↓ws_set, ↓ws_par, ↓ws_par3, ↓ws_expr, ↓ws_ret, ↓ws_if, ↓ws_raise, ↓ws_try, ↓ws_asg, ↓ws_nxo, ↓ws_sub, ↓ws_for, ↓wi_range1, ↓wi_range2, ↓wi_range3, ↓wi_seq, ↓wi_enum, wpo_ok, wpo_err, wpo_bind, ws_nx, ws_rt, ws_bk, ws_ct, ws_er, sq_nx, sq_rt, sq_bk, sq_ct, sq_er, lq_nx, lq_ct, lq_bk, lq_rt, lq_er, fq_nx, fq_rt, fq_er, tq_nx, tq_rt, tq_bk, tq_ct, tq_er, asV_ok, asB_ok, asI_ok, asK_int, asK_str, asP_ok, asP3_ok, asM_ok, asS_tup, asS_fz, asE_tup, asE_fz, add_ok, sub_ok, eq_ok, ne_ok, lt_ok, le_ok, gt_ok, ge_ok, neg_ok, isn_ok, notn_ok, int_ok, bind_ok, List.map_cons, List.map_nil, List.replicate, List.cons_append, List.nil_append, List.getElem?_cons_zero, List.getElem?_cons_succ, List.set_cons_zero, List.set_cons_succ, if_true, if_false, Bool.not_true, Bool.not_false, gc_same, Bool.false_eq_true, decide_true, decide_false, tName, tTup, tsCons, tsNil, List.length_cons, List.length_nil, ite_true, ite_false, reduceIte, reduceCtorEq, Nat.zero_add, Nat.reduceAdd, Nat.reduceEqDiff, Nat.reduceLeDiff, isNon, Int.zero_add, and_self, eq_self, ix0, ix1, ix2, ix3, ix4, ix5, isi_int, isi_nbl, isi_tup, isi_str, eqs_ok, nes_ok, len_tup]
        refine ⟨_, _, rfl, ?_⟩
        rw [if_pos ⟨hp, hq⟩]
        exact h2.put 4 _ (by omega) (by show _ = objs b _; simp only [objs, List.set_cons_succ, List.set_cons_zero, List.map_append]; rfl)
    · simp only [↓wpo, ↓wps, ↓w_var, ↓w_k, ↓w_aNil, ↓w_aCons, ↓w_tup, ↓w_lst, ↓w_2, ↓w_1, ↓w_call, ↓w_if, ↓w_and, ↓w_or, ↓w_not, ↓w_bE, ↓w_bAnd, ↓w_bOr, ↓w_bNot, ↓w_bTrue, ↓w_chain, ↓w_oNone, ↓w_oSome, ↓w_slice, ↓w_kNil, ↓w_kCons, ↓w_dct, ↓w_dct0, ↓w_lst1, ↓w_fs, ↓w_get1, ↓w_get2, ↓ws_pass, ↓ws_break, ↓ws_cont, ↓ws_retN, ↓ws_seq, ↓ws_set, ↓ws_par, ↓ws_par3, ↓ws_expr, ↓ws_ret, ↓ws_if, ↓ws_raise, ↓ws_try, ↓ws_asg, ↓ws_nxo, ↓ws_sub, ↓ws_for, ↓wi_range1, ↓wi_range2, ↓wi_range3, ↓wi_seq, ↓wi_enum, wpo_ok, wpo_err, wpo_bind, ws_nx, ws_rt, ws_bk, ws_ct, ws_er, sq_nx, sq_rt, sq_bk, sq_ct, sq_er, lq_nx, lq_ct, lq_bk, lq_rt, lq_er, fq_nx, fq_rt, fq_er, tq_nx, tq_rt, tq_bk, tq_ct, tq_er, asV_ok, asB_ok, asI_ok, asK_int, asK_str, asP_ok, asP3_ok, asM_ok, asS_tup, asS_fz, asE_tup, asE_fz, add_ok, sub_ok, eq_ok, ne_ok, lt_ok, le_ok, gt_ok, ge_ok, neg_ok, isn_ok, notn_ok, int_ok, bind_ok, List.map_cons, List.map_nil, List.replicate, List.cons_append, List.nil_append, List.getElem?_cons_zero, List.getElem?_cons_succ, List.set_cons_zero, List.set_cons_succ, if_true, if_false, Bool.not_true, Bool.not_false, gc_same, Bool.false_eq_true, decide_true, decide_false, tName, tTup, tsCons, tsNil, List.length_cons, List.length_nil, ite_true, ite_false, reduceIte, reduceCtorEq, Nat.zero_add, Nat.reduceAdd, Nat.reduceEqDiff, Nat.reduceLeDiff, isNon, Int.zero_add, and_self, eq_self, ix0, ix1, ix2, ix3, ix4, ix5, isi_int, isi_nbl, isi_tup, isi_str, eqs_ok, nes_ok, len_tup, decide_eq_false hp]
      refine ⟨_, M2, rfl, ?_⟩
      rw [if_neg fun z => hp z.1]
      exact h2
  have done : ∀ (w1 : Wd) M1, WM k P b w1 T M1 → w1.sure = w.sure → w.put s x = { w1 with l := upd1 w1.l s x, sure := if x.ph = .sure ∧ (x.mine, x.peer) ∉ w1.sure then w1.sure ++ [(x.mine, x.peer)] else w1.sure } → wps (sSeq (sAsg (tSub setU (x2 oIxD (xVar 0) (xK (.str "links"))) (xVar 1)) (xVar 2)) (sIf (bAnd (bE (x2 oEq (x2 oIx (xVar 2) (xK (.int 3))) (xK (.str "sure")))) (bE (x2 (oInU true) (xTup (aCons (x2 oIx (xVar 2) (xK (.int 1))) (aCons (x2 oIx (xVar 2) (xK (.int 2))) (aNil)))) (x2 oIxD (xVar 0) (xK (.str "sure")))))) (sExpr (xLst1 mAppend (x2 oIxD (xVar 0) (xK (.str "sure"))) (xTup (aCons (x2 oIx (xVar 2) (xK (.int 1))) (aCons (x2 oIx (xVar 2) (xK (.int 2))) (aNil)))))) (sPass)) [some (.loc (b + 10)), some (.int (s : Nat)), some (dl x)] M1) (fq M K E) := by
    intro w1 M1 h1 es ew
    refine wps_mono (fin w1 M1 h1 es) fun o ⟨r, M2, eo, h2⟩ => ?_
    subst eo
    simp only [fq_nx]
    refine hK _ ?_
    rw [ew]
    exact h.ret0 h2 (belowAll_nil _)
  rw [ws_seq]
  generalize hQ : sq _ (fq M K E) = Q
  simp only [↓wpo, ↓wps, ↓w_var, ↓w_k, ↓w_aNil, ↓w_aCons, ↓w_tup, ↓w_lst, ↓w_2, ↓w_1, ↓w_call, ↓w_if, ↓w_and, ↓w_or, ↓w_not, ↓w_bE, ↓w_bAnd, ↓w_bOr, ↓w_bNot, ↓w_bTrue, ↓w_chain, ↓w_oNone, ↓w_oSome, ↓w_slice, ↓w_kNil, ↓w_kCons, ↓w_dct, ↓w_dct0, ↓w_lst1, ↓w_fs, ↓w_get1, ↓w_get2, ↓ws_pass, ↓ws_break, ↓ws_cont, ↓ws_retN, ↓ws_seq, ↓ws_set, ↓ws_par, ↓ws_par3, ↓ws_expr, ↓ws_ret, ↓ws_if, ↓ws_raise, ↓ws_try, ↓ws_asg, ↓ws_nxo, ↓ws_sub, ↓ws_for, ↓wi_range1, ↓wi_range2, ↓wi_range3, ↓wi_seq, ↓wi_enum, wpo_ok, wpo_err, wpo_bind, ws_nx, ws_rt, ws_bk, ws_ct, ws_er, sq_nx, sq_rt, sq_bk, sq_ct, sq_er, lq_nx, lq_ct, lq_bk, lq_rt, lq_er, fq_nx, fq_rt, fq_er, tq_nx, tq_rt, tq_bk, tq_ct, tq_er, asV_ok, asB_ok, asI_ok, asK_int, asK_str, asP_ok, asP3_ok, asM_ok, asS_tup, asS_fz, asE_tup, asE_fz, add_ok, sub_ok, eq_ok, ne_ok, lt_ok, le_ok, gt_ok, ge_ok, neg_ok, isn_ok, notn_ok, int_ok, bind_ok, List.map_cons, List.map_nil, List.replicate, List.cons_append, List.nil_append, List.getElem?_cons_zero, List.getElem?_cons_succ, List.set_cons_zero, List.set_cons_succ, if_true, if_false, Bool.not_true, Bool.not_false, gc_same, Bool.false_eq_true, decide_true, decide_false, tName, tTup, tsCons, tsNil, List.length_cons, List.length_nil, ite_true, ite_false, reduceIte, reduceCtorEq, Nat.zero_add, Nat.reduceAdd, Nat.reduceEqDiff, Nat.reduceLeDiff, isNon, Int.zero_add, and_self, eq_self, ix0, ix1, ix2, ix3, ix4, ix5, isi_int, isi_nbl, isi_tup, isi_str, eqs_ok, nes_ok, len_tup, dl1, wd_since h, inU_dct (h.get 8 rfl), kv_none]
  by_cases hm : x.mine ∈ w.since.map (·.1)
  · simp only [↓wpo, ↓wps, ↓w_var, ↓w_k, ↓w_aNil, ↓w_aCons, ↓w_tup, ↓w_lst, ↓w_2, ↓w_1, ↓w_call, ↓w_if, ↓w_and, ↓w_or, ↓w_not, ↓w_bE, ↓w_bAnd, ↓w_bOr, ↓w_bNot, ↓w_bTrue, ↓w_chain, ↓w_oNone, ↓w_oSome, ↓w_slice, ↓w_kNil, ↓w_kCons, ↓w_dct, ↓w_dct0, ↓w_lst1, ↓w_fs, ↓w_get1, ↓w_get2, ↓ws_pass, ↓ws_break, ↓ws_cont, ↓ws_retN, ↓ws_seq, ↓ws_set, ↓ws_par, ↓ws_par3, ↓ws_expr, ↓ws_ret, ↓ws_if, ↓ws_raise, ↓ws_try, ↓ws_asg, ↓ws_nxo, ↓ws_sub, ↓ws_for, ↓wi_range1, ↓wi_range2, ↓wi_range3, ↓wi_seq, ↓wi_enum, wpo_ok, wpo_err, wpo_bind, ws_nx, ws_rt, ws_bk, ws_ct, ws_er, sq_nx, sq_rt, sq_bk, sq_ct, sq_er, lq_nx, lq_ct, lq_bk, lq_rt, lq_er, fq_nx, fq_rt, fq_er, tq_nx, tq_rt, tq_bk, tq_ct, tq_er, asV_ok, asB_ok, asI_ok, asK_int, asK_str, asP_ok, asP3_ok, asM_ok, asS_tup, asS_fz, asE_tup, asE_fz, add_ok, sub_ok, eq_ok, ne_ok, lt_ok, le_ok, gt_ok, ge_ok, neg_ok, isn_ok, notn_ok, int_ok, bind_ok, List.map_cons, List.map_nil, List.replicate, List.cons_append, List.nil_append, List.getElem?_cons_zero, List.getElem?_cons_succ, List.set_cons_zero, List.set_cons_succ, if_true, if_false, Bool.not_true, Bool.not_false, gc_same, Bool.false_eq_true, decide_true, decide_false, tName, tTup, tsCons, tsNil, List.length_cons, List.length_nil, ite_true, ite_false, reduceIte, reduceCtorEq, Nat.zero_add, Nat.reduceAdd, Nat.reduceEqDiff, Nat.reduceLeDiff, isNon, Int.zero_add, and_self, eq_self, ix0, ix1, ix2, ix3, ix4, ix5, isi_int, isi_nbl, isi_tup, isi_str, eqs_ok, nes_ok, len_tup, hm]
    rw [← hQ, sq_nx]
    refine done w M h rfl ?_
    unfold Wd.put
    rw [if_pos hm]
  · simp only [↓wpo, ↓wps, ↓w_var, ↓w_k, ↓w_aNil, ↓w_aCons, ↓w_tup, ↓w_lst, ↓w_2, ↓w_1, ↓w_call, ↓w_if, ↓w_and, ↓w_or, ↓w_not, ↓w_bE, ↓w_bAnd, ↓w_bOr, ↓w_bNot, ↓w_bTrue, ↓w_chain, ↓w_oNone, ↓w_oSome, ↓w_slice, ↓w_kNil, ↓w_kCons, ↓w_dct, ↓w_dct0, ↓w_lst1, ↓w_fs, ↓w_get1, ↓w_get2, ↓ws_pass, ↓ws_break, ↓ws_cont, ↓ws_retN, ↓ws_seq, ↓ws_set, ↓ws_par, ↓ws_par3, ↓ws_expr, ↓ws_ret, ↓ws_if, ↓ws_raise, ↓ws_try, ↓ws_asg, ↓ws_nxo, ↓ws_sub, ↓ws_for, ↓wi_range1, ↓wi_range2, ↓wi_range3, ↓wi_seq, ↓wi_enum, wpo_ok, wpo_err, wpo_bind, ws_nx, ws_rt, ws_bk, ws_ct, ws_er, sq_nx, sq_rt, sq_bk, sq_ct, sq_er, lq_nx, lq_ct, lq_bk, lq_rt, lq_er, fq_nx, fq_rt, fq_er, tq_nx, tq_rt, tq_bk, tq_ct, tq_er, asV_ok, asB_ok, asI_ok, asK_int, asK_str, asP_ok, asP3_ok, asM_ok, asS_tup, asS_fz, asE_tup, asE_fz, add_ok, sub_ok, eq_ok, ne_ok, lt_ok, le_ok, gt_ok, ge_ok, neg_ok, isn_ok, notn_ok, int_ok, bind_ok, List.map_cons, List.map_nil, List.replicate, List.cons_append, List.nil_append, List.getElem?_cons_zero, List.getElem?_cons_succ, List.set_cons_zero, List.set_cons_succ, if_true, if_false, Bool.not_true, Bool.not_false, gc_same, Bool.false_eq_true, decide_true, decide_false, tName, tTup, tsCons, tsNil, List.length_cons, List.length_nil, ite_true, ite_false, reduceIte, reduceCtorEq, Nat.zero_add, Nat.reduceAdd, Nat.reduceEqDiff, Nat.reduceLeDiff, isNon, Int.zero_add, and_self, eq_self, ix0, ix1, ix2, ix3, ix4, ix5, isi_int, isi_nbl, isi_tup, isi_str, eqs_ok, nes_ok, len_tup, hm, wd_clock h, wd_since h, dl1, setU_kv (h.get 8 rfl) (show (w.since.map ds).length < 16777216 by rw [List.length_map]; omega), put_new hm]
    rw [← hQ, sq_nx]
    refine done { w with since := w.since ++ [(x.mine, w.clk)] } _ (h.put 8 _ (by omega) rfl) rfl ?_
    unfold Wd.put
    rw [if_neg hm]
end
end LawT
end PV

set_option Elab.async false
set_option linter.all false
set_option maxRecDepth 10000
set_option pp.maxSteps 700

namespace PV
namespace LawT
open PySem
def pl (l : Lk) : PyData := .tuple [.int l.side, .int l.mine, .int l.peer, .str (phS l.ph)]
theorem rp (p : Ph) : (reprText (phS p)).length ≤ 10 := by cases p <;> decide +kernel
theorem lp (p : Ph) : PyData.canLay0 (.str (phS p)) = true := by cases p <;> decide +kernel
theorem pd_dl {M : Mem} {l : Lk} (h1 : l.side < 2 ^ 1000) (h2 : l.mine < 2 ^ 1000) (h3 : l.peer < 2 ^ 1000) : Pd M (dl l) (pl l) 2 5000 :=
  (Pd.tup (.cons (.nat _ h1) (.cons (.nat _ h2) (.cons (.nat _ h3) (.cons (.str _ (rp _) (lp _)) .nil))))).up (by decide) (by decide)
theorem okL.lt {l : Lk} (h : okL l) : l.side < 2 ^ 1000 ∧ l.mine < 2 ^ 1000 ∧ l.peer < 2 ^ 1000 := by
  have a := h.s
  have b := h.m.2.1
  have c : l.peer ≤ 1152921504606846976 := by
    rcases h.p with z | z
    · omega
    · exact z.2.1
  have big : 1152921504606846977 ≤ 2 ^ 1000 := by decide
  exact ⟨by omega, by omega, by omega⟩
section
variable {k : Nat} {P T M : Mem} {b : Nat} {w : Wd} {K : D → Mem → Prop} {E : EK}
theorem send_w {s : Nat} {n : Bool} (h : WM k P b w T M) (hs : s ≤ 1) (n1 : (w.s s).length ≤ 1000) (hK : ∀ M', WM k P b (w.send s n) T M' → K .non M') : wpo (f__law_four_send [.loc (b + 10), .int (s : Nat), .bl n] M) K E := by
  have z2 : 2 ≤ 16777216 := by decide
  have z5 : 5 ≤ 16777216 := by decide
  have hr := wd_sentl h hs
  unfold f__law_four_send
  rw [wp_def (by rfl)]
  have fin : ∀ (v : Bool), v = (n && decide ((w.l s).ph = .sure)) → K .non (gc M [] (M.set (b + 1 + s) (.lst ((w.s s).map dh ++ [.tup [.int (w.l s).mine, .int (w.l s).peer, .bl v, .int (w.clk : Nat), .bl (decide (((w.l s).mine, (w.l s).peer) ∈ w.sure))]])))) := by
    intro v hv
    refine hK _ (h.ret0 ?_ (belowAll_nil _))
    have := h.put (1 + s) (.lst ((w.s s ++ [(⟨(w.l s).mine, (w.l s).peer, v, w.clk, decide (((w.l s).mine, (w.l s).peer) ∈ w.sure)⟩ : Hd)]).map dh)) (by omega) (objs_sent (b := b) (w := w) s hs _)
    rw [show b + (1 + s) = b + 1 + s by omega, List.map_append] at this
    unfold Wd.send
    rw [← hv]
    exact this
  cases n with
  | false =>
    simp only [↓wpo, ↓wps, ↓w_var, ↓w_k, ↓w_aNil, ↓w_aCons, ↓w_tup, ↓w_lst, ↓w_2, ↓w_1, ↓w_call, ↓w_if, ↓w_and, ↓w_or, ↓w_not, ↓w_bE, ↓w_bAnd, ↓w_bOr, ↓w_bNot, ↓w_bTrue, ↓w_chain, ↓w_oNone, ↓w_oSome, ↓w_slice, ↓w_kNil, ↓w_kCons, ↓w_dct, ↓w_dct0, ↓w_lst1, ↓w_fs, ↓w_get1, ↓w_get2, ↓ws_pass, ↓ws_break, ↓ws_cont, ↓ws_retN, ↓ws_seq, ↓ws_set, ↓ws_par, ↓ws_par3, ↓ws_expr, ↓ws_ret, ↓ws_if, ↓ws_raise, ↓ws_try, ↓ws_asg, ↓ws_nxo, ↓ws_sub, ↓ws_for, ↓wi_range1, ↓wi_range2, ↓wi_range3, ↓wi_seq, ↓wi_enum, wpo_ok, wpo_err, wpo_bind, ws_nx, ws_rt, ws_bk, ws_ct, ws_er, sq_nx, sq_rt, sq_bk, sq_ct, sq_er, lq_nx, lq_ct, lq_bk, lq_rt, lq_er, fq_nx, fq_rt, fq_er, tq_nx, tq_rt, tq_bk, tq_ct, tq_er, asV_ok, asB_ok, asI_ok, asK_int, asK_str, asP_ok, asP3_ok, asM_ok, asS_tup, asS_fz, asE_tup, asE_fz, add_ok, sub_ok, eq_ok, ne_ok, lt_ok, le_ok, gt_ok, ge_ok, neg_ok, isn_ok, notn_ok, int_ok, bind_ok, List.map_cons, List.map_nil, List.replicate, List.cons_append, List.nil_append, List.getElem?_cons_zero, List.getElem?_cons_succ, List.set_cons_zero, List.set_cons_succ, if_true, if_false, Bool.not_true, Bool.not_false, gc_same, Bool.false_eq_true, decide_true, decide_false, tName, tTup, tsCons, tsNil, List.length_cons, List.length_nil, ite_true, ite_false, reduceIte, reduceCtorEq, Nat.zero_add, Nat.reduceAdd, Nat.reduceEqDiff, Nat.reduceLeDiff, isNon, Int.zero_add, and_self, eq_self, ix0, ix1, ix2, ix3, ix4, ix5, isi_int, isi_nbl, isi_tup, isi_str, eqs_ok, nes_ok, len_tup, wd_links h, wd_link h hs, wd_sent h, wd_row h hs, isLst_at hr, dl1, dl2, wd_clock h, wd_sure h, z2, z5, inU_pp (w.l s).mine (w.l s).peer (h.get 4 rfl)]
    rw [app_ok hr (by rw [List.length_map]; omega)]
    simp only [↓wpo, ↓wps, ↓w_var, ↓w_k, ↓w_aNil, ↓w_aCons, ↓w_tup, ↓w_lst, ↓w_2, ↓w_1, ↓w_call, ↓w_if, ↓w_and, ↓w_or, ↓w_not, ↓w_bE, ↓w_bAnd, ↓w_bOr, ↓w_bNot, ↓w_bTrue, ↓w_chain, ↓w_oNone, ↓w_oSome, ↓w_slice, ↓w_kNil, ↓w_kCons, ↓w_dct, ↓w_dct0, ↓w_lst1, ↓w_fs, ↓w_get1, ↓w_get2, ↓ws_pass, ↓ws_break, ↓ws_cont, ↓ws_retN, ↓ws_seq, ↓ws_set, ↓ws_par, ↓ws_par3, ↓ws_expr, ↓ws_ret, ↓ws_if, ↓ws_raise, ↓ws_try, ↓ws_asg, ↓ws_nxo, ↓ws_sub, ↓ws_for, ↓wi_range1, ↓wi_range2, ↓wi_range3, ↓wi_seq, ↓wi_enum, wpo_ok, wpo_err, wpo_bind, ws_nx, ws_rt, ws_bk, ws_ct, ws_er, sq_nx, sq_rt, sq_bk, sq_ct, sq_er, lq_nx, lq_ct, lq_bk, lq_rt, lq_er, fq_nx, fq_rt, fq_er, tq_nx, tq_rt, tq_bk, tq_ct, tq_er, asV_ok, asB_ok, asI_ok, asK_int, asK_str, asP_ok, asP3_ok, asM_ok, asS_tup, asS_fz, asE_tup, asE_fz, add_ok, sub_ok, eq_ok, ne_ok, lt_ok, le_ok, gt_ok, ge_ok, neg_ok, isn_ok, notn_ok, int_ok, bind_ok, List.map_cons, List.map_nil, List.replicate, List.cons_append, List.nil_append, List.getElem?_cons_zero, List.getElem?_cons_succ, List.set_cons_zero, List.set_cons_succ, if_true, if_false, Bool.not_true, Bool.not_false, gc_same, Bool.false_eq_true, decide_true, decide_false, tName, tTup, tsCons, tsNil, List.length_cons, List.length_nil, ite_true, ite_false, reduceIte, reduceCtorEq, Nat.zero_add, Nat.reduceAdd, Nat.reduceEqDiff, Nat.reduceLeDiff, isNon, Int.zero_add, and_self, eq_self, ix0, ix1, ix2, ix3, ix4, ix5, isi_int, isi_nbl, isi_tup, isi_str, eqs_ok, nes_ok, len_tup]
    exact fin _ rfl
  | true =>
    simp only [↓wpo, ↓wps, ↓w_var, ↓w_k, ↓w_aNil, ↓w_aCons, ↓w_tup, ↓w_lst, ↓w_2, ↓w_1, ↓w_call, ↓w_if, ↓w_and, ↓w_or, ↓w_not, ↓w_bE, ↓w_bAnd, ↓w_bOr, ↓w_bNot, ↓w_bTrue, ↓w_chain, ↓w_oNone, ↓w_oSome, ↓w_slice, ↓w_kNil, ↓w_kCons, ↓w_dct, ↓w_dct0, ↓w_lst1, ↓w_fs, ↓w_get1, ↓w_get2, ↓ws_pass, ↓ws_break, ↓ws_cont, ↓ws_retN, ↓ws_seq, ↓ws_set, ↓ws_par, ↓ws_par3, ↓ws_expr, ↓ws_ret, ↓ws_if, ↓ws_raise, ↓ws_try, ↓ws_asg, ↓ws_nxo, ↓ws_sub, ↓ws_for, ↓wi_range1, ↓wi_range2, ↓wi_range3, ↓wi_seq, ↓wi_enum, wpo_ok, wpo_err, wpo_bind, ws_nx, ws_rt, ws_bk, ws_ct, ws_er, sq_nx, sq_rt, sq_bk, sq_ct, sq_er, lq_nx, lq_ct, lq_bk, lq_rt, lq_er, fq_nx, fq_rt, fq_er, tq_nx, tq_rt, tq_bk, tq_ct, tq_er, asV_ok, asB_ok, asI_ok, asK_int, asK_str, asP_ok, asP3_ok, asM_ok, asS_tup, asS_fz, asE_tup, asE_fz, add_ok, sub_ok, eq_ok, ne_ok, lt_ok, le_ok, gt_ok, ge_ok, neg_ok, isn_ok, notn_ok, int_ok, bind_ok, List.map_cons, List.map_nil, List.replicate, List.cons_append, List.nil_append, List.getElem?_cons_zero, List.getElem?_cons_succ, List.set_cons_zero, List.set_cons_succ, if_true, if_false, Bool.not_true, Bool.not_false, gc_same, Bool.false_eq_true, decide_true, decide_false, tName, tTup, tsCons, tsNil, List.length_cons, List.length_nil, ite_true, ite_false, reduceIte, reduceCtorEq, Nat.zero_add, Nat.reduceAdd, Nat.reduceEqDiff, Nat.reduceLeDiff, isNon, Int.zero_add, and_self, eq_self, ix0, ix1, ix2, ix3, ix4, ix5, isi_int, isi_nbl, isi_tup, isi_str, eqs_ok, nes_ok, len_tup, wd_links h, wd_link h hs, dl3, ph_sure, wd_sent h, wd_row h hs, isLst_at hr, dl1, dl2, wd_clock h, wd_sure h, z2, z5, inU_pp (w.l s).mine (w.l s).peer (h.get 4 rfl)]
    rw [app_ok hr (by rw [List.length_map]; omega)]
    simp only [↓wpo, ↓wps, ↓w_var, ↓w_k, ↓w_aNil, ↓w_aCons, ↓w_tup, ↓w_lst, ↓w_2, ↓w_1, ↓w_call, ↓w_if, ↓w_and, ↓w_or, ↓w_not, ↓w_bE, ↓w_bAnd, ↓w_bOr, ↓w_bNot, ↓w_bTrue, ↓w_chain, ↓w_oNone, ↓w_oSome, ↓w_slice, ↓w_kNil, ↓w_kCons, ↓w_dct, ↓w_dct0, ↓w_lst1, ↓w_fs, ↓w_get1, ↓w_get2, ↓ws_pass, ↓ws_break, ↓ws_cont, ↓ws_retN, ↓ws_seq, ↓ws_set, ↓ws_par, ↓ws_par3, ↓ws_expr, ↓ws_ret, ↓ws_if, ↓ws_raise, ↓ws_try, ↓ws_asg, ↓ws_nxo, ↓ws_sub, ↓ws_for, ↓wi_range1, ↓wi_range2, ↓wi_range3, ↓wi_seq, ↓wi_enum, wpo_ok, wpo_err, wpo_bind, ws_nx, ws_rt, ws_bk, ws_ct, ws_er, sq_nx, sq_rt, sq_bk, sq_ct, sq_er, lq_nx, lq_ct, lq_bk, lq_rt, lq_er, fq_nx, fq_rt, fq_er, tq_nx, tq_rt, tq_bk, tq_ct, tq_er, asV_ok, asB_ok, asI_ok, asK_int, asK_str, asP_ok, asP3_ok, asM_ok, asS_tup, asS_fz, asE_tup, asE_fz, add_ok, sub_ok, eq_ok, ne_ok, lt_ok, le_ok, gt_ok, ge_ok, neg_ok, isn_ok, notn_ok, int_ok, bind_ok, List.map_cons, List.map_nil, List.replicate, List.cons_append, List.nil_append, List.getElem?_cons_zero, List.getElem?_cons_succ, List.set_cons_zero, List.set_cons_succ, if_true, if_false, Bool.not_true, Bool.not_false, gc_same, Bool.false_eq_true, decide_true, decide_false, tName, tTup, tsCons, tsNil, List.length_cons, List.length_nil, ite_true, ite_false, reduceIte, reduceCtorEq, Nat.zero_add, Nat.reduceAdd, Nat.reduceEqDiff, Nat.reduceLeDiff, isNon, Int.zero_add, and_self, eq_self, ix0, ix1, ix2, ix3, ix4, ix5, isi_int, isi_nbl, isi_tup, isi_str, eqs_ok, nes_ok, len_tup]
    exact fin _ (by simp)
theorem crash_w {s : Nat} (h : WM k P b w T M) (hs : s ≤ 1) (n3 : w.sure.length ≤ 1000) (n4 : w.since.length ≤ 1002) (hK : ∀ M', WM k P b (w.crash s) T M' → K .non M') : wpo (f__law_four_crash [.loc (b + 10), .int (s : Nat)] M) K E := by
  have z4 : 4 ≤ 16777216 := by decide
  unfold f__law_four_crash
  rw [wp_def (by rfl)]
  simp only [↓wpo, ↓wps, ↓w_var, ↓w_k, ↓w_aNil, ↓w_aCons, ↓w_tup, ↓w_lst, ↓w_2, ↓w_1, ↓w_call, ↓w_if, ↓w_and, ↓w_or, ↓w_not, ↓w_bE, ↓w_bAnd, ↓w_bOr, ↓w_bNot, ↓w_bTrue, ↓w_chain, ↓w_oNone, ↓w_oSome, ↓w_slice, ↓w_kNil, ↓w_kCons, ↓w_dct, ↓w_dct0, ↓w_lst1, ↓w_fs, ↓w_get1, ↓w_get2, ↓ws_pass, ↓ws_break, ↓ws_cont, ↓ws_retN, ↓ws_seq, ↓ws_set, ↓ws_par, ↓ws_par3, ↓ws_expr, ↓ws_ret, ↓ws_if, ↓ws_raise, ↓ws_try, ↓ws_asg, ↓ws_nxo, ↓ws_sub, ↓ws_for, ↓wi_range1, ↓wi_range2, ↓wi_range3, ↓wi_seq, ↓wi_enum, wpo_ok, wpo_err, wpo_bind, ws_nx, ws_rt, ws_bk, ws_ct, ws_er, sq_nx, sq_rt, sq_bk, sq_ct, sq_er, lq_nx, lq_ct, lq_bk, lq_rt, lq_er, fq_nx, fq_rt, fq_er, tq_nx, tq_rt, tq_bk, tq_ct, tq_er, asV_ok, asB_ok, asI_ok, asK_int, asK_str, asP_ok, asP3_ok, asM_ok, asS_tup, asS_fz, asE_tup, asE_fz, add_ok, sub_ok, eq_ok, ne_ok, lt_ok, le_ok, gt_ok, ge_ok, neg_ok, isn_ok, notn_ok, int_ok, bind_ok, List.map_cons, List.map_nil, List.replicate, List.cons_append, List.nil_append, List.getElem?_cons_zero, List.getElem?_cons_succ, List.set_cons_zero, List.set_cons_succ, if_true, if_false, Bool.not_true, Bool.not_false, gc_same, Bool.false_eq_true, decide_true, decide_false, tName, tTup, tsCons, tsNil, List.length_cons, List.length_nil, ite_true, ite_false, reduceIte, reduceCtorEq, Nat.zero_add, Nat.reduceAdd, Nat.reduceEqDiff, Nat.reduceLeDiff, isNon, Int.zero_add, and_self, eq_self, ix0, ix1, ix2, ix3, ix4, ix5, isi_int, isi_nbl, isi_tup, isi_str, eqs_ok, nes_ok, len_tup, wd_links h, wd_link h hs, dl1, z4]
  have e : (D.tup [.int (s : Nat), .int (((w.l s).mine : Nat) + 2), .int 0, .str "new"]) = dl ⟨s, (w.l s).mine + 2, 0, .new⟩ := rfl
  rw [e]
  refine put_w h hs n3 n4 fun M' h' => ?_
  simp only [↓wpo, ↓wps, ↓w_var, ↓w_k, ↓w_aNil, ↓w_aCons, ↓w_tup, ↓w_lst, ↓w_2, ↓w_1, ↓w_call, ↓w_if, ↓w_and, ↓w_or, ↓w_not, ↓w_bE, ↓w_bAnd, ↓w_bOr, ↓w_bNot, ↓w_bTrue, ↓w_chain, ↓w_oNone, ↓w_oSome, ↓w_slice, ↓w_kNil, ↓w_kCons, ↓w_dct, ↓w_dct0, ↓w_lst1, ↓w_fs, ↓w_get1, ↓w_get2, ↓ws_pass, ↓ws_break, ↓ws_cont, ↓ws_retN, ↓ws_seq, ↓ws_set, ↓ws_par, ↓ws_par3, ↓ws_expr, ↓ws_ret, ↓ws_if, ↓ws_raise, ↓ws_try, ↓ws_asg, ↓ws_nxo, ↓ws_sub, ↓ws_for, ↓wi_range1, ↓wi_range2, ↓wi_range3, ↓wi_seq, ↓wi_enum, wpo_ok, wpo_err, wpo_bind, ws_nx, ws_rt, ws_bk, ws_ct, ws_er, sq_nx, sq_rt, sq_bk, sq_ct, sq_er, lq_nx, lq_ct, lq_bk, lq_rt, lq_er, fq_nx, fq_rt, fq_er, tq_nx, tq_rt, tq_bk, tq_ct, tq_er, asV_ok, asB_ok, asI_ok, asK_int, asK_str, asP_ok, asP3_ok, asM_ok, asS_tup, asS_fz, asE_tup, asE_fz, add_ok, sub_ok, eq_ok, ne_ok, lt_ok, le_ok, gt_ok, ge_ok, neg_ok, isn_ok, notn_ok, int_ok, bind_ok, List.map_cons, List.map_nil, List.replicate, List.cons_append, List.nil_append, List.getElem?_cons_zero, List.getElem?_cons_succ, List.set_cons_zero, List.set_cons_succ, if_true, if_false, Bool.not_true, Bool.not_false, gc_same, Bool.false_eq_true, decide_true, decide_false, tName, tTup, tsCons, tsNil, List.length_cons, List.length_nil, ite_true, ite_false, reduceIte, reduceCtorEq, Nat.zero_add, Nat.reduceAdd, Nat.reduceEqDiff, Nat.reduceLeDiff, isNon, Int.zero_add, and_self, eq_self, ix0, ix1, ix2, ix3, ix4, ix5, isi_int, isi_nbl, isi_tup, isi_str, eqs_ok, nes_ok, len_tup]
  exact hK _ (h.ret0 h' (belowAll_nil _))
theorem hear_w {s : Nat} {x : Hd} (h : WM k P b w T M) (hs : s ≤ 1) (ok : Ok w) (hx : x ∈ w.s (1 - s)) (hK : ∀ M', WM k P b (w.hear s x) T M' → K (.bl true) M') : wpo (f__law_four_hear [.loc (b + 10), .int (s : Nat), dh x] M) K E := by
  have z4 : 4 ≤ 16777216 := by decide
  have z3 : 3 ≤ 16777216 := by decide
  have z2 : 2 ≤ 16777216 := by decide
  have hl := ok.l s hs
  have hsd := ok.side s hs
  obtain ⟨hx1, hx2, _⟩ := ok.h (1 - s) (by omega) x hx
  have ha : kind x.life (1 - (w.l s).side) := by rw [hsd]; exact hx1
  have hb : x.far = 0 ∨ kind x.far (w.l s).side := by
    rw [hsd]
    rwa [show 1 - (1 - s) = s by omega] at hx2
  have hh0 : oIx (dh x) (.int 0) M = .ok (.int (x.life : Nat)) M := by unfold dh; exact ix0
  have hh1 : oIx (dh x) (.int 1) M = .ok (.int (x.far : Nat)) M := by unfold dh; exact ix1
  have ok2 := heard_okL (b := x.far) hl ha
  obtain ⟨q1, q2, q3⟩ := ok2.lt
  have lk := like_pd (pd_dl (M := M) q1 q2 q3) (pd_dl (M := M) q1 q2 q3)
  have mm := (heard_side (w.l s) x.life x.far).2
  have m1 := ok.m s hs
  have c1 := ok.c
  unfold f__law_four_hear
  rw [wp_def (by rfl)]
  simp only [↓wpo, ↓wps, ↓w_var, ↓w_k, ↓w_aNil, ↓w_aCons, ↓w_tup, ↓w_lst, ↓w_2, ↓w_1, ↓w_call, ↓w_if, ↓w_and, ↓w_or, ↓w_not, ↓w_bE, ↓w_bAnd, ↓w_bOr, ↓w_bNot, ↓w_bTrue, ↓w_chain, ↓w_oNone, ↓w_oSome, ↓w_slice, ↓w_kNil, ↓w_kCons, ↓w_dct, ↓w_dct0, ↓w_lst1, ↓w_fs, ↓w_get1, ↓w_get2, ↓ws_pass, ↓ws_break, ↓ws_cont, ↓ws_retN, ↓ws_seq, ↓ws_set, ↓ws_par, ↓ws_par3, ↓ws_expr, ↓ws_ret, ↓ws_if, ↓ws_raise, ↓ws_try, ↓ws_asg, ↓ws_nxo, ↓ws_sub, ↓ws_for, ↓wi_range1, ↓wi_range2, ↓wi_range3, ↓wi_seq, ↓wi_enum, wpo_ok, wpo_err, wpo_bind, ws_nx, ws_rt, ws_bk, ws_ct, ws_er, sq_nx, sq_rt, sq_bk, sq_ct, sq_er, lq_nx, lq_ct, lq_bk, lq_rt, lq_er, fq_nx, fq_rt, fq_er, tq_nx, tq_rt, tq_bk, tq_ct, tq_er, asV_ok, asB_ok, asI_ok, asK_int, asK_str, asP_ok, asP3_ok, asM_ok, asS_tup, asS_fz, asE_tup, asE_fz, add_ok, sub_ok, eq_ok, ne_ok, lt_ok, le_ok, gt_ok, ge_ok, neg_ok, isn_ok, notn_ok, int_ok, bind_ok, List.map_cons, List.map_nil, List.replicate, List.cons_append, List.nil_append, List.getElem?_cons_zero, List.getElem?_cons_succ, List.set_cons_zero, List.set_cons_succ, if_true, if_false, Bool.not_true, Bool.not_false, gc_same, Bool.false_eq_true, decide_true, decide_false, tName, tTup, tsCons, tsNil, List.length_cons, List.length_nil, ite_true, ite_false, reduceIte, reduceCtorEq, Nat.zero_add, Nat.reduceAdd, Nat.reduceEqDiff, Nat.reduceLeDiff, isNon, Int.zero_add, and_self, eq_self, ix0, ix1, ix2, ix3, ix4, ix5, isi_int, isi_nbl, isi_tup, isi_str, eqs_ok, nes_ok, len_tup, wd_links h, wd_link h hs, hh0, hh1, law_heard_ok, link_heard_ok M hl ha hb, lk, dl3, ph_gone]
  by_cases hg : (heard (w.l s) x.life x.far).ph = .gone
  · have kk : kind ((w.l s).mine + 2) s := by
      have := hl.m
      rw [hsd] at this
      exact kind_up this (by omega)
    have kk' : kind ((w.l s).mine + 2) (w.l s).side := by rw [hsd]; exact kk
    have hr := wd_goingl h hs
    simp only [↓wpo, ↓wps, ↓w_var, ↓w_k, ↓w_aNil, ↓w_aCons, ↓w_tup, ↓w_lst, ↓w_2, ↓w_1, ↓w_call, ↓w_if, ↓w_and, ↓w_or, ↓w_not, ↓w_bE, ↓w_bAnd, ↓w_bOr, ↓w_bNot, ↓w_bTrue, ↓w_chain, ↓w_oNone, ↓w_oSome, ↓w_slice, ↓w_kNil, ↓w_kCons, ↓w_dct, ↓w_dct0, ↓w_lst1, ↓w_fs, ↓w_get1, ↓w_get2, ↓ws_pass, ↓ws_break, ↓ws_cont, ↓ws_retN, ↓ws_seq, ↓ws_set, ↓ws_par, ↓ws_par3, ↓ws_expr, ↓ws_ret, ↓ws_if, ↓ws_raise, ↓ws_try, ↓ws_asg, ↓ws_nxo, ↓ws_sub, ↓ws_for, ↓wi_range1, ↓wi_range2, ↓wi_range3, ↓wi_seq, ↓wi_enum, wpo_ok, wpo_err, wpo_bind, ws_nx, ws_rt, ws_bk, ws_ct, ws_er, sq_nx, sq_rt, sq_bk, sq_ct, sq_er, lq_nx, lq_ct, lq_bk, lq_rt, lq_er, fq_nx, fq_rt, fq_er, tq_nx, tq_rt, tq_bk, tq_ct, tq_er, asV_ok, asB_ok, asI_ok, asK_int, asK_str, asP_ok, asP3_ok, asM_ok, asS_tup, asS_fz, asE_tup, asE_fz, add_ok, sub_ok, eq_ok, ne_ok, lt_ok, le_ok, gt_ok, ge_ok, neg_ok, isn_ok, notn_ok, int_ok, bind_ok, List.map_cons, List.map_nil, List.replicate, List.cons_append, List.nil_append, List.getElem?_cons_zero, List.getElem?_cons_succ, List.set_cons_zero, List.set_cons_succ, if_true, if_false, Bool.not_true, Bool.not_false, gc_same, Bool.false_eq_true, decide_true, decide_false, tName, tTup, tsCons, tsNil, List.length_cons, List.length_nil, ite_true, ite_false, reduceIte, reduceCtorEq, Nat.zero_add, Nat.reduceAdd, Nat.reduceEqDiff, Nat.reduceLeDiff, isNon, Int.zero_add, and_self, eq_self, ix0, ix1, ix2, ix3, ix4, ix5, isi_int, isi_nbl, isi_tup, isi_str, eqs_ok, nes_ok, len_tup, hg, wd_goings h, wd_going h hs, isLst_at hr, dl1, dl2, hh0, z3]
    rw [app_ok hr (by rw [List.length_map]; have := ok.n2 s hs; omega)]
    have h1 := h.put (5 + s) (.lst ((w.g s ++ [((w.l s).mine, (w.l s).peer, x.life)]).map dg)) (by omega) (objs_going (b := b) (w := w) s hs _)
    rw [show b + (5 + s) = b + 5 + s by omega, List.map_append] at h1
    have hl2 := h.len
    simp only [↓wpo, ↓wps, ↓w_var, ↓w_k, ↓w_aNil, ↓w_aCons, ↓w_tup, ↓w_lst, ↓w_2, ↓w_1, ↓w_call, ↓w_if, ↓w_and, ↓w_or, ↓w_not, ↓w_bE, ↓w_bAnd, ↓w_bOr, ↓w_bNot, ↓w_bTrue, ↓w_chain, ↓w_oNone, ↓w_oSome, ↓w_slice, ↓w_kNil, ↓w_kCons, ↓w_dct, ↓w_dct0, ↓w_lst1, ↓w_fs, ↓w_get1, ↓w_get2, ↓ws_pass, ↓ws_break, ↓ws_cont, ↓ws_retN, ↓ws_seq, ↓ws_set, ↓ws_par, ↓ws_par3, ↓ws_expr, ↓ws_ret, ↓ws_if, ↓ws_raise, ↓ws_try, ↓ws_asg, ↓ws_nxo, ↓ws_sub, ↓ws_for, ↓wi_range1, ↓wi_range2, ↓wi_range3, ↓wi_seq, ↓wi_enum, wpo_ok, wpo_err, wpo_bind, ws_nx, ws_rt, ws_bk, ws_ct, ws_er, sq_nx, sq_rt, sq_bk, sq_ct, sq_er, lq_nx, lq_ct, lq_bk, lq_rt, lq_er, fq_nx, fq_rt, fq_er, tq_nx, tq_rt, tq_bk, tq_ct, tq_er, asV_ok, asB_ok, asI_ok, asK_int, asK_str, asP_ok, asP3_ok, asM_ok, asS_tup, asS_fz, asE_tup, asE_fz, add_ok, sub_ok, eq_ok, ne_ok, lt_ok, le_ok, gt_ok, ge_ok, neg_ok, isn_ok, notn_ok, int_ok, bind_ok, List.map_cons, List.map_nil, List.replicate, List.cons_append, List.nil_append, List.getElem?_cons_zero, List.getElem?_cons_succ, List.set_cons_zero, List.set_cons_succ, if_true, if_false, Bool.not_true, Bool.not_false, gc_same, Bool.false_eq_true, decide_true, decide_false, tName, tTup, tsCons, tsNil, List.length_cons, List.length_nil, ite_true, ite_false, reduceIte, reduceCtorEq, Nat.zero_add, Nat.reduceAdd, Nat.reduceEqDiff, Nat.reduceLeDiff, isNon, Int.zero_add, and_self, eq_self, ix0, ix1, ix2, ix3, ix4, ix5, isi_int, isi_nbl, isi_tup, isi_str, eqs_ok, nes_ok, len_tup]
    generalize hM1 : M.set (b + 5 + s) (.lst ((w.g s).map dg ++ [.tup [.int (w.l s).mine, .int (w.l s).peer, .int x.life]])) = M1
    have h1' : WM k P b { w with g := upd1 w.g s (w.g s ++ [((w.l s).mine, (w.l s).peer, x.life)]) } T M1 := by
      rw [← hM1]
      exact h1
    have hh0 : oIx (dh x) (.int 0) M1 = .ok (.int (x.life : Nat)) M1 := by unfold dh; exact ix0
    have e : (((w.l s).mine : Nat) : Int) + 2 = (((w.l s).mine + 2 : Nat) : Int) := by omega
    have e2 : (D.tup [.int (s : Nat), .int (((w.l s).mine + 2 : Nat) : Int), .int (x.life : Nat), .str "new"]) = dl ⟨s, (w.l s).mine + 2, x.life, .new⟩ := rfl
    have la := link_again_ok (v := (w.l s).mine + 2) (a := x.life) M1 hl kk' (by omega) ha
    rw [hsd] at la
    have big : 1152921504606846977 ≤ 2 ^ 1000 := by decide
    have xl := hx1.2.1
    have lk1 := like_pd (pd_dl (M := M1) (l := ⟨s, (w.l s).mine + 2, x.life, .new⟩) (by show s < _; omega) (by show (w.l s).mine + 2 < _; omega) (by show x.life < _; omega)) (pd_dl (M := M1) (l := ⟨s, (w.l s).mine + 2, x.life, .new⟩) (by show s < _; omega) (by show (w.l s).mine + 2 < _; omega) (by show x.life < _; omega))
    have nx := next_life_ok (s := s) (v := (w.l s).mine) M1 hs (by have := hl.m; rwa [hsd] at this) (by omega)
    have lk2 := like_pd (Pd.nat (M := M1) ((w.l s).mine + 2) (by omega)) (Pd.nat (M := M1) ((w.l s).mine + 2) (by omega))
    simp only [↓wpo, ↓wps, ↓w_var, ↓w_k, ↓w_aNil, ↓w_aCons, ↓w_tup, ↓w_lst, ↓w_2, ↓w_1, ↓w_call, ↓w_if, ↓w_and, ↓w_or, ↓w_not, ↓w_bE, ↓w_bAnd, ↓w_bOr, ↓w_bNot, ↓w_bTrue, ↓w_chain, ↓w_oNone, ↓w_oSome, ↓w_slice, ↓w_kNil, ↓w_kCons, ↓w_dct, ↓w_dct0, ↓w_lst1, ↓w_fs, ↓w_get1, ↓w_get2, ↓ws_pass, ↓ws_break, ↓ws_cont, ↓ws_retN, ↓ws_seq, ↓ws_set, ↓ws_par, ↓ws_par3, ↓ws_expr, ↓ws_ret, ↓ws_if, ↓ws_raise, ↓ws_try, ↓ws_asg, ↓ws_nxo, ↓ws_sub, ↓ws_for, ↓wi_range1, ↓wi_range2, ↓wi_range3, ↓wi_seq, ↓wi_enum, wpo_ok, wpo_err, wpo_bind, ws_nx, ws_rt, ws_bk, ws_ct, ws_er, sq_nx, sq_rt, sq_bk, sq_ct, sq_er, lq_nx, lq_ct, lq_bk, lq_rt, lq_er, fq_nx, fq_rt, fq_er, tq_nx, tq_rt, tq_bk, tq_ct, tq_er, asV_ok, asB_ok, asI_ok, asK_int, asK_str, asP_ok, asP3_ok, asM_ok, asS_tup, asS_fz, asE_tup, asE_fz, add_ok, sub_ok, eq_ok, ne_ok, lt_ok, le_ok, gt_ok, ge_ok, neg_ok, isn_ok, notn_ok, int_ok, bind_ok, List.map_cons, List.map_nil, List.replicate, List.cons_append, List.nil_append, List.getElem?_cons_zero, List.getElem?_cons_succ, List.set_cons_zero, List.set_cons_succ, if_true, if_false, Bool.not_true, Bool.not_false, gc_same, Bool.false_eq_true, decide_true, decide_false, tName, tTup, tsCons, tsNil, List.length_cons, List.length_nil, ite_true, ite_false, reduceIte, reduceCtorEq, Nat.zero_add, Nat.reduceAdd, Nat.reduceEqDiff, Nat.reduceLeDiff, isNon, Int.zero_add, and_self, eq_self, ix0, ix1, ix2, ix3, ix4, ix5, isi_int, isi_nbl, isi_tup, isi_str, eqs_ok, nes_ok, len_tup, hh0, dl1, e, z4, e2, la, lk1, nx, lk2]
    refine put_w h1' hs (by have := ok.n3; exact Nat.le_trans this (by omega)) (by have := ok.n4; exact Nat.le_trans this (by omega)) fun M' h' => ?_
    simp only [↓wpo, ↓wps, ↓w_var, ↓w_k, ↓w_aNil, ↓w_aCons, ↓w_tup, ↓w_lst, ↓w_2, ↓w_1, ↓w_call, ↓w_if, ↓w_and, ↓w_or, ↓w_not, ↓w_bE, ↓w_bAnd, ↓w_bOr, ↓w_bNot, ↓w_bTrue, ↓w_chain, ↓w_oNone, ↓w_oSome, ↓w_slice, ↓w_kNil, ↓w_kCons, ↓w_dct, ↓w_dct0, ↓w_lst1, ↓w_fs, ↓w_get1, ↓w_get2, ↓ws_pass, ↓ws_break, ↓ws_cont, ↓ws_retN, ↓ws_seq, ↓ws_set, ↓ws_par, ↓ws_par3, ↓ws_expr, ↓ws_ret, ↓ws_if, ↓ws_raise, ↓ws_try, ↓ws_asg, ↓ws_nxo, ↓ws_sub, ↓ws_for, ↓wi_range1, ↓wi_range2, ↓wi_range3, ↓wi_seq, ↓wi_enum, wpo_ok, wpo_err, wpo_bind, ws_nx, ws_rt, ws_bk, ws_ct, ws_er, sq_nx, sq_rt, sq_bk, sq_ct, sq_er, lq_nx, lq_ct, lq_bk, lq_rt, lq_er, fq_nx, fq_rt, fq_er, tq_nx, tq_rt, tq_bk, tq_ct, tq_er, asV_ok, asB_ok, asI_ok, asK_int, asK_str, asP_ok, asP3_ok, asM_ok, asS_tup, asS_fz, asE_tup, asE_fz, add_ok, sub_ok, eq_ok, ne_ok, lt_ok, le_ok, gt_ok, ge_ok, neg_ok, isn_ok, notn_ok, int_ok, bind_ok, List.map_cons, List.map_nil, List.replicate, List.cons_append, List.nil_append, List.getElem?_cons_zero, List.getElem?_cons_succ, List.set_cons_zero, List.set_cons_succ, if_true, if_false, Bool.not_true, Bool.not_false, gc_same, Bool.false_eq_true, decide_true, decide_false, tName, tTup, tsCons, tsNil, List.length_cons, List.length_nil, ite_true, ite_false, reduceIte, reduceCtorEq, Nat.zero_add, Nat.reduceAdd, Nat.reduceEqDiff, Nat.reduceLeDiff, isNon, Int.zero_add, and_self, eq_self, ix0, ix1, ix2, ix3, ix4, ix5, isi_int, isi_nbl, isi_tup, isi_str, eqs_ok, nes_ok, len_tup]
    refine hK _ (h.ret0 ?_ (by simp))
    unfold Wd.hear
    rw [if_pos hg]
    exact h'
  · have hd : ∀ (w1 : Wd) M1, WM k P b w1 T M1 → w1.sure = w.sure → w1.since = w.since → w1.put s (heard (w.l s) x.life x.far) = w.hear s x →
        wps (sSeq (sExpr (xCall f__law_four_put (aCons (xVar 0) (aCons (xVar 1) (aCons (xVar 4) (aNil)))))) (sRet (xK (.bl true))) [some (.loc (b + 10)), some (.int (s : Nat)), some (dh x), some (dl (w.l s)), some (dl (heard (w.l s) x.life x.far)), none] M1) (fq M K E) := by
      intro w1 M1 h1 e3 e4 e5
      simp only [↓wpo, ↓wps, ↓w_var, ↓w_k, ↓w_aNil, ↓w_aCons, ↓w_tup, ↓w_lst, ↓w_2, ↓w_1, ↓w_call, ↓w_if, ↓w_and, ↓w_or, ↓w_not, ↓w_bE, ↓w_bAnd, ↓w_bOr, ↓w_bNot, ↓w_bTrue, ↓w_chain, ↓w_oNone, ↓w_oSome, ↓w_slice, ↓w_kNil, ↓w_kCons, ↓w_dct, ↓w_dct0, ↓w_lst1, ↓w_fs, ↓w_get1, ↓w_get2, ↓ws_pass, ↓ws_break, ↓ws_cont, ↓ws_retN, ↓ws_seq, ↓ws_set, ↓ws_par, ↓ws_par3, ↓ws_expr, ↓ws_ret, ↓ws_if, ↓ws_raise, ↓ws_try, ↓ws_asg, ↓ws_nxo, ↓ws_sub, ↓ws_for, ↓wi_range1, ↓wi_range2, ↓wi_range3, ↓wi_seq, ↓wi_enum, wpo_ok, wpo_err, wpo_bind, ws_nx, ws_rt, ws_bk, ws_ct, ws_er, sq_nx, sq_rt, sq_bk, sq_ct, sq_er, lq_nx, lq_ct, lq_bk, lq_rt, lq_er, fq_nx, fq_rt, fq_er, tq_nx, tq_rt, tq_bk, tq_ct, tq_er, asV_ok, asB_ok, asI_ok, asK_int, asK_str, asP_ok, asP3_ok, asM_ok, asS_tup, asS_fz, asE_tup, asE_fz, add_ok, sub_ok, eq_ok, ne_ok, lt_ok, le_ok, gt_ok, ge_ok, neg_ok, isn_ok, notn_ok, int_ok, bind_ok, List.map_cons, List.map_nil, List.replicate, List.cons_append, List.nil_append, List.getElem?_cons_zero, List.getElem?_cons_succ, List.set_cons_zero, List.set_cons_succ, if_true, if_false, Bool.not_true, Bool.not_false, gc_same, Bool.false_eq_true, decide_true, decide_false, tName, tTup, tsCons, tsNil, List.length_cons, List.length_nil, ite_true, ite_false, reduceIte, reduceCtorEq, Nat.zero_add, Nat.reduceAdd, Nat.reduceEqDiff, Nat.reduceLeDiff, isNon, Int.zero_add, and_self, eq_self, ix0, ix1, ix2, ix3, ix4, ix5, isi_int, isi_nbl, isi_tup, isi_str, eqs_ok, nes_ok, len_tup]
      refine put_w h1 hs (by have := ok.n3; rw [e3]; exact Nat.le_trans this (by omega)) (by have := ok.n4; rw [e4]; exact Nat.le_trans this (by omega)) fun M' h' => ?_
      simp only [↓wpo, ↓wps, ↓w_var, ↓w_k, ↓w_aNil, ↓w_aCons, ↓w_tup, ↓w_lst, ↓w_2, ↓w_1, ↓w_call, ↓w_if, ↓w_and, ↓w_or, ↓w_not, ↓w_bE, ↓w_bAnd, ↓w_bOr, ↓w_bNot, ↓w_bTrue, ↓w_chain, ↓w_oNone, ↓w_oSome, ↓w_slice, ↓w_kNil, ↓w_kCons, ↓w_dct, ↓w_dct0, ↓w_lst1, ↓w_fs, ↓w_get1, ↓w_get2, ↓ws_pass, ↓ws_break, ↓ws_cont, ↓ws_retN, ↓ws_seq, ↓ws_set, ↓ws_par, ↓ws_par3, ↓ws_expr, ↓ws_ret, ↓ws_if, ↓ws_raise, ↓ws_try, ↓ws_asg, ↓ws_nxo, ↓ws_sub, ↓ws_for, ↓wi_range1, ↓wi_range2, ↓wi_range3, ↓wi_seq, ↓wi_enum, wpo_ok, wpo_err, wpo_bind, ws_nx, ws_rt, ws_bk, ws_ct, ws_er, sq_nx, sq_rt, sq_bk, sq_ct, sq_er, lq_nx, lq_ct, lq_bk, lq_rt, lq_er, fq_nx, fq_rt, fq_er, tq_nx, tq_rt, tq_bk, tq_ct, tq_er, asV_ok, asB_ok, asI_ok, asK_int, asK_str, asP_ok, asP3_ok, asM_ok, asS_tup, asS_fz, asE_tup, asE_fz, add_ok, sub_ok, eq_ok, ne_ok, lt_ok, le_ok, gt_ok, ge_ok, neg_ok, isn_ok, notn_ok, int_ok, bind_ok, List.map_cons, List.map_nil, List.replicate, List.cons_append, List.nil_append, List.getElem?_cons_zero, List.getElem?_cons_succ, List.set_cons_zero, List.set_cons_succ, if_true, if_false, Bool.not_true, Bool.not_false, gc_same, Bool.false_eq_true, decide_true, decide_false, tName, tTup, tsCons, tsNil, List.length_cons, List.length_nil, ite_true, ite_false, reduceIte, reduceCtorEq, Nat.zero_add, Nat.reduceAdd, Nat.reduceEqDiff, Nat.reduceLeDiff, isNon, Int.zero_add, and_self, eq_self, ix0, ix1, ix2, ix3, ix4, ix5, isi_int, isi_nbl, isi_tup, isi_str, eqs_ok, nes_ok, len_tup]
      rw [e5] at h'
      exact hK _ (h.ret0 h' (by simp))
    have hq : ∀ M1, (if (heard (w.l s) x.life x.far).ph = .sure ∧ (heard (w.l s) x.life x.far).peer = x.life ∧ (heard (w.l s) x.life x.far).mine = x.far then WM k P b { w with taken := w.taken ++ [((heard (w.l s) x.life x.far).mine, x)] } T M1 else WM k P b w T M1) →
        wps (sSeq (sExpr (xCall f__law_four_put (aCons (xVar 0) (aCons (xVar 1) (aCons (xVar 4) (aNil)))))) (sRet (xK (.bl true))) [some (.loc (b + 10)), some (.int (s : Nat)), some (dh x), some (dl (w.l s)), some (dl (heard (w.l s) x.life x.far)), none] M1) (fq M K E) := by
      intro M1 h1
      unfold Wd.hear at hd
      rw [if_neg hg] at hd
      split at h1
      · rename_i hc
        rw [if_pos hc] at hd
        exact hd _ _ h1 rfl rfl rfl
      · rename_i hc
        rw [if_neg hc] at hd
        exact hd _ _ h1 rfl rfl rfl
    generalize hR : (sSeq (sExpr (xCall f__law_four_put (aCons (xVar 0) (aCons (xVar 1) (aCons (xVar 4) (aNil)))))) (sRet (xK (.bl true)))) = Rest at hq ⊢
    simp only [↓wpo, ↓wps, ↓w_var, ↓w_k, ↓w_aNil, ↓w_aCons, ↓w_tup, ↓w_lst, ↓w_2, ↓w_1, ↓w_call, ↓w_if, ↓w_and, ↓w_or, ↓w_not, ↓w_bE, ↓w_bAnd, ↓w_bOr, ↓w_bNot, ↓w_bTrue, ↓w_chain, ↓w_oNone, ↓w_oSome, ↓w_slice, ↓w_kNil, ↓w_kCons, ↓w_dct, ↓w_dct0, ↓w_lst1, ↓w_fs, ↓w_get1, ↓w_get2, ↓ws_pass, ↓ws_break, ↓ws_cont, ↓ws_retN, ↓ws_seq, ↓ws_set, ↓ws_par, ↓ws_par3, ↓ws_expr, ↓ws_ret, ↓ws_if, ↓ws_raise, ↓ws_try, ↓ws_asg, ↓ws_nxo, ↓ws_sub, ↓ws_for, ↓wi_range1, ↓wi_range2, ↓wi_range3, ↓wi_seq, ↓wi_enum, wpo_ok, wpo_err, wpo_bind, ws_nx, ws_rt, ws_bk, ws_ct, ws_er, sq_nx, sq_rt, sq_bk, sq_ct, sq_er, lq_nx, lq_ct, lq_bk, lq_rt, lq_er, fq_nx, fq_rt, fq_er, tq_nx, tq_rt, tq_bk, tq_ct, tq_er, asV_ok, asB_ok, asI_ok, asK_int, asK_str, asP_ok, asP3_ok, asM_ok, asS_tup, asS_fz, asE_tup, asE_fz, add_ok, sub_ok, eq_ok, ne_ok, lt_ok, le_ok, gt_ok, ge_ok, neg_ok, isn_ok, notn_ok, int_ok, bind_ok, List.map_cons, List.map_nil, List.replicate, List.cons_append, List.nil_append, List.getElem?_cons_zero, List.getElem?_cons_succ, List.set_cons_zero, List.set_cons_succ, if_true, if_false, Bool.not_true, Bool.not_false, gc_same, Bool.false_eq_true, decide_true, decide_false, tName, tTup, tsCons, tsNil, List.length_cons, List.length_nil, ite_true, ite_false, reduceIte, reduceCtorEq, Nat.zero_add, Nat.reduceAdd, Nat.reduceEqDiff, Nat.reduceLeDiff, isNon, Int.zero_add, and_self, eq_self, ix0, ix1, ix2, ix3, ix4, ix5, isi_int, isi_nbl, isi_tup, isi_str, eqs_ok, nes_ok, len_tup, hg, dl3, ph_sure]
    by_cases c1 : (heard (w.l s) x.life x.far).ph = .sure
    · by_cases c2 : (heard (w.l s) x.life x.far).peer = x.life
      · have c2' : (((heard (w.l s) x.life x.far).peer : Nat) : Int) = (x.life : Nat) := by rw [c2]
        by_cases c3 : (heard (w.l s) x.life x.far).mine = x.far
        · have c3' : (((heard (w.l s) x.life x.far).mine : Nat) : Int) = (x.far : Nat) := by rw [c3]
          simp only [↓wpo, ↓wps, ↓w_var, ↓w_k, ↓w_aNil, ↓w_aCons, ↓w_tup, ↓w_lst, ↓w_2, ↓w_1, ↓w_call, ↓w_if, ↓w_and, ↓w_or, ↓w_not, ↓w_bE, ↓w_bAnd, ↓w_bOr, ↓w_bNot, ↓w_bTrue, ↓w_chain, ↓w_oNone, ↓w_oSome, ↓w_slice, ↓w_kNil, ↓w_kCons, ↓w_dct, ↓w_dct0, ↓w_lst1, ↓w_fs, ↓w_get1, ↓w_get2, ↓ws_pass, ↓ws_break, ↓ws_cont, ↓ws_retN, ↓ws_seq, ↓ws_set, ↓ws_par, ↓ws_par3, ↓ws_expr, ↓ws_ret, ↓ws_if, ↓ws_raise, ↓ws_try, ↓ws_asg, ↓ws_nxo, ↓ws_sub, ↓ws_for, ↓wi_range1, ↓wi_range2, ↓wi_range3, ↓wi_seq, ↓wi_enum, wpo_ok, wpo_err, wpo_bind, ws_nx, ws_rt, ws_bk, ws_ct, ws_er, sq_nx, sq_rt, sq_bk, sq_ct, sq_er, lq_nx, lq_ct, lq_bk, lq_rt, lq_er, fq_nx, fq_rt, fq_er, tq_nx, tq_rt, tq_bk, tq_ct, tq_er, asV_ok, asB_ok, asI_ok, asK_int, asK_str, asP_ok, asP3_ok, asM_ok, asS_tup, asS_fz, asE_tup, asE_fz, add_ok, sub_ok, eq_ok, ne_ok, lt_ok, le_ok, gt_ok, ge_ok, neg_ok, isn_ok, notn_ok, int_ok, bind_ok, List.map_cons, List.map_nil, List.replicate, List.cons_append, List.nil_append, List.getElem?_cons_zero, List.getElem?_cons_succ, List.set_cons_zero, List.set_cons_succ, if_true, if_false, Bool.not_true, Bool.not_false, gc_same, Bool.false_eq_true, decide_true, decide_false, tName, tTup, tsCons, tsNil, List.length_cons, List.length_nil, ite_true, ite_false, reduceIte, reduceCtorEq, Nat.zero_add, Nat.reduceAdd, Nat.reduceEqDiff, Nat.reduceLeDiff, isNon, Int.zero_add, and_self, eq_self, ix0, ix1, ix2, ix3, ix4, ix5, isi_int, isi_nbl, isi_tup, isi_str, eqs_ok, nes_ok, len_tup, c1, dl1, dl2, hh0, hh1, c2', c3', wd_taken h, isLst_at (h.get 9 rfl), z2]
          rw [app_ok (h.get 9 rfl) (by rw [List.length_map]; have := ok.n5; omega)]
          simp only [↓wpo, ↓wps, ↓w_var, ↓w_k, ↓w_aNil, ↓w_aCons, ↓w_tup, ↓w_lst, ↓w_2, ↓w_1, ↓w_call, ↓w_if, ↓w_and, ↓w_or, ↓w_not, ↓w_bE, ↓w_bAnd, ↓w_bOr, ↓w_bNot, ↓w_bTrue, ↓w_chain, ↓w_oNone, ↓w_oSome, ↓w_slice, ↓w_kNil, ↓w_kCons, ↓w_dct, ↓w_dct0, ↓w_lst1, ↓w_fs, ↓w_get1, ↓w_get2, ↓ws_pass, ↓ws_break, ↓ws_cont, ↓ws_retN, ↓ws_seq, ↓ws_set, ↓ws_par, ↓ws_par3, ↓ws_expr, ↓ws_ret, ↓ws_if, ↓ws_raise, ↓ws_try, ↓ws_asg, ↓ws_nxo, ↓ws_sub, ↓ws_for, ↓wi_range1, ↓wi_range2, ↓wi_range3, ↓wi_seq, ↓wi_enum, wpo_ok, wpo_err, wpo_bind, ws_nx, ws_rt, ws_bk, ws_ct, ws_er, sq_nx, sq_rt, sq_bk, sq_ct, sq_er, lq_nx, lq_ct, lq_bk, lq_rt, lq_er, fq_nx, fq_rt, fq_er, tq_nx, tq_rt, tq_bk, tq_ct, tq_er, asV_ok, asB_ok, asI_ok, asK_int, asK_str, asP_ok, asP3_ok, asM_ok, asS_tup, asS_fz, asE_tup, asE_fz, add_ok, sub_ok, eq_ok, ne_ok, lt_ok, le_ok, gt_ok, ge_ok, neg_ok, isn_ok, notn_ok, int_ok, bind_ok, List.map_cons, List.map_nil, List.replicate, List.cons_append, List.nil_append, List.getElem?_cons_zero, List.getElem?_cons_succ, List.set_cons_zero, List.set_cons_succ, if_true, if_false, Bool.not_true, Bool.not_false, gc_same, Bool.false_eq_true, decide_true, decide_false, tName, tTup, tsCons, tsNil, List.length_cons, List.length_nil, ite_true, ite_false, reduceIte, reduceCtorEq, Nat.zero_add, Nat.reduceAdd, Nat.reduceEqDiff, Nat.reduceLeDiff, isNon, Int.zero_add, and_self, eq_self, ix0, ix1, ix2, ix3, ix4, ix5, isi_int, isi_nbl, isi_tup, isi_str, eqs_ok, nes_ok, len_tup]
          refine hq _ ?_
          rw [if_pos ⟨c1, c2, c3⟩]
          refine h.put 9 _ (by omega) ?_
          simp only [objs, List.set_cons_succ, List.set_cons_zero, List.map_append, List.map_cons, List.map_nil, dt, c3]
        · have c3' : ¬ (((heard (w.l s) x.life x.far).mine : Nat) : Int) = (x.far : Nat) := by omega
          simp only [↓wpo, ↓wps, ↓w_var, ↓w_k, ↓w_aNil, ↓w_aCons, ↓w_tup, ↓w_lst, ↓w_2, ↓w_1, ↓w_call, ↓w_if, ↓w_and, ↓w_or, ↓w_not, ↓w_bE, ↓w_bAnd, ↓w_bOr, ↓w_bNot, ↓w_bTrue, ↓w_chain, ↓w_oNone, ↓w_oSome, ↓w_slice, ↓w_kNil, ↓w_kCons, ↓w_dct, ↓w_dct0, ↓w_lst1, ↓w_fs, ↓w_get1, ↓w_get2, ↓ws_pass, ↓ws_break, ↓ws_cont, ↓ws_retN, ↓ws_seq, ↓ws_set, ↓ws_par, ↓ws_par3, ↓ws_expr, ↓ws_ret, ↓ws_if, ↓ws_raise, ↓ws_try, ↓ws_asg, ↓ws_nxo, ↓ws_sub, ↓ws_for, ↓wi_range1, ↓wi_range2, ↓wi_range3, ↓wi_seq, ↓wi_enum, wpo_ok, wpo_err, wpo_bind, ws_nx, ws_rt, ws_bk, ws_ct, ws_er, sq_nx, sq_rt, sq_bk, sq_ct, sq_er, lq_nx, lq_ct, lq_bk, lq_rt, lq_er, fq_nx, fq_rt, fq_er, tq_nx, tq_rt, tq_bk, tq_ct, tq_er, asV_ok, asB_ok, asI_ok, asK_int, asK_str, asP_ok, asP3_ok, asM_ok, asS_tup, asS_fz, asE_tup, asE_fz, add_ok, sub_ok, eq_ok, ne_ok, lt_ok, le_ok, gt_ok, ge_ok, neg_ok, isn_ok, notn_ok, int_ok, bind_ok, List.map_cons, List.map_nil, List.replicate, List.cons_append, List.nil_append, List.getElem?_cons_zero, List.getElem?_cons_succ, List.set_cons_zero, List.set_cons_succ, if_true, if_false, Bool.not_true, Bool.not_false, gc_same, Bool.false_eq_true, decide_true, decide_false, tName, tTup, tsCons, tsNil, List.length_cons, List.length_nil, ite_true, ite_false, reduceIte, reduceCtorEq, Nat.zero_add, Nat.reduceAdd, Nat.reduceEqDiff, Nat.reduceLeDiff, isNon, Int.zero_add, and_self, eq_self, ix0, ix1, ix2, ix3, ix4, ix5, isi_int, isi_nbl, isi_tup, isi_str, eqs_ok, nes_ok, len_tup, c1, dl1, dl2, hh0, hh1, c2', c3']
          refine hq _ ?_
          rw [if_neg fun z => c3 z.2.2]
          exact h
      · have c2' : ¬ (((heard (w.l s) x.life x.far).peer : Nat) : Int) = (x.life : Nat) := by omega
        simp only [↓wpo, ↓wps, ↓w_var, ↓w_k, ↓w_aNil, ↓w_aCons, ↓w_tup, ↓w_lst, ↓w_2, ↓w_1, ↓w_call, ↓w_if, ↓w_and, ↓w_or, ↓w_not, ↓w_bE, ↓w_bAnd, ↓w_bOr, ↓w_bNot, ↓w_bTrue, ↓w_chain, ↓w_oNone, ↓w_oSome, ↓w_slice, ↓w_kNil, ↓w_kCons, ↓w_dct, ↓w_dct0, ↓w_lst1, ↓w_fs, ↓w_get1, ↓w_get2, ↓ws_pass, ↓ws_break, ↓ws_cont, ↓ws_retN, ↓ws_seq, ↓ws_set, ↓ws_par, ↓ws_par3, ↓ws_expr, ↓ws_ret, ↓ws_if, ↓ws_raise, ↓ws_try, ↓ws_asg, ↓ws_nxo, ↓ws_sub, ↓ws_for, ↓wi_range1, ↓wi_range2, ↓wi_range3, ↓wi_seq, ↓wi_enum, wpo_ok, wpo_err, wpo_bind, ws_nx, ws_rt, ws_bk, ws_ct, ws_er, sq_nx, sq_rt, sq_bk, sq_ct, sq_er, lq_nx, lq_ct, lq_bk, lq_rt, lq_er, fq_nx, fq_rt, fq_er, tq_nx, tq_rt, tq_bk, tq_ct, tq_er, asV_ok, asB_ok, asI_ok, asK_int, asK_str, asP_ok, asP3_ok, asM_ok, asS_tup, asS_fz, asE_tup, asE_fz, add_ok, sub_ok, eq_ok, ne_ok, lt_ok, le_ok, gt_ok, ge_ok, neg_ok, isn_ok, notn_ok, int_ok, bind_ok, List.map_cons, List.map_nil, List.replicate, List.cons_append, List.nil_append, List.getElem?_cons_zero, List.getElem?_cons_succ, List.set_cons_zero, List.set_cons_succ, if_true, if_false, Bool.not_true, Bool.not_false, gc_same, Bool.false_eq_true, decide_true, decide_false, tName, tTup, tsCons, tsNil, List.length_cons, List.length_nil, ite_true, ite_false, reduceIte, reduceCtorEq, Nat.zero_add, Nat.reduceAdd, Nat.reduceEqDiff, Nat.reduceLeDiff, isNon, Int.zero_add, and_self, eq_self, ix0, ix1, ix2, ix3, ix4, ix5, isi_int, isi_nbl, isi_tup, isi_str, eqs_ok, nes_ok, len_tup, c1, dl2, hh0, c2']
        refine hq _ ?_
        rw [if_neg fun z => c2 z.2.1]
        exact h
    · simp only [↓wpo, ↓wps, ↓w_var, ↓w_k, ↓w_aNil, ↓w_aCons, ↓w_tup, ↓w_lst, ↓w_2, ↓w_1, ↓w_call, ↓w_if, ↓w_and, ↓w_or, ↓w_not, ↓w_bE, ↓w_bAnd, ↓w_bOr, ↓w_bNot, ↓w_bTrue, ↓w_chain, ↓w_oNone, ↓w_oSome, ↓w_slice, ↓w_kNil, ↓w_kCons, ↓w_dct, ↓w_dct0, ↓w_lst1, ↓w_fs, ↓w_get1, ↓w_get2, ↓ws_pass, ↓ws_break, ↓ws_cont, ↓ws_retN, ↓ws_seq, ↓ws_set, ↓ws_par, ↓ws_par3, ↓ws_expr, ↓ws_ret, ↓ws_if, ↓ws_raise, ↓ws_try, ↓ws_asg, ↓ws_nxo, ↓ws_sub, ↓ws_for, ↓wi_range1, ↓wi_range2, ↓wi_range3, ↓wi_seq, ↓wi_enum, wpo_ok, wpo_err, wpo_bind, ws_nx, ws_rt, ws_bk, ws_ct, ws_er, sq_nx, sq_rt, sq_bk, sq_ct, sq_er, lq_nx, lq_ct, lq_bk, lq_rt, lq_er, fq_nx, fq_rt, fq_er, tq_nx, tq_rt, tq_bk, tq_ct, tq_er, asV_ok, asB_ok, asI_ok, asK_int, asK_str, asP_ok, asP3_ok, asM_ok, asS_tup, asS_fz, asE_tup, asE_fz, add_ok, sub_ok, eq_ok, ne_ok, lt_ok, le_ok, gt_ok, ge_ok, neg_ok, isn_ok, notn_ok, int_ok, bind_ok, List.map_cons, List.map_nil, List.replicate, List.cons_append, List.nil_append, List.getElem?_cons_zero, List.getElem?_cons_succ, List.set_cons_zero, List.set_cons_succ, if_true, if_false, Bool.not_true, Bool.not_false, gc_same, Bool.false_eq_true, decide_true, decide_false, tName, tTup, tsCons, tsNil, List.length_cons, List.length_nil, ite_true, ite_false, reduceIte, reduceCtorEq, Nat.zero_add, Nat.reduceAdd, Nat.reduceEqDiff, Nat.reduceLeDiff, isNon, Int.zero_add, and_self, eq_self, ix0, ix1, ix2, ix3, ix4, ix5, isi_int, isi_nbl, isi_tup, isi_str, eqs_ok, nes_ok, len_tup, c1]
      refine hq _ ?_
      rw [if_neg fun z => c1 z.1]
      exact h
end
end LawT
end PV

set_option Elab.async false
set_option linter.all false
set_option maxRecDepth 10000
set_option pp.maxSteps 700

namespace PV
namespace LawT
open PySem
section
variable {k : Nat} {P T M : Mem} {b : Nat} {w : Wd} {K : D → Mem → Prop} {E : EK}
def ph_ (h : Hd) : PyData := .tuple [.int h.life, .int h.far, .bool h.num, .int h.clk, .bool h.sr]
theorem pd_dh {M : Mem} {h : Hd} (h1 : h.life < 2 ^ 1000) (h2 : h.far < 2 ^ 1000) (h3 : h.clk < 2 ^ 1000) : Pd M (dh h) (ph_ h) 2 6000 :=
  (Pd.tup (.cons (.nat _ h1) (.cons (.nat _ h2) (.cons (.bl _) (.cons (.nat _ h3) (.cons (.bl _) .nil)))))).up (by decide) (by decide)
theorem pd_hs {M : Mem} {s : Nat} (ok : Ok w) (hs : s ≤ 1) : PdA M ((w.s s).map dh) ((w.s s).map ph_) 2 (6002 * (w.s s).length) :=
  PdA.map (n := 6000) (fun x hx => by
    obtain ⟨a, b, c⟩ := ok.h s hs x hx
    have a2 := a.2.1
    have b2 : x.far ≤ 1152921504606846976 := by
      rcases b with z | z
      · omega
      · exact z.2.1
    have c2 := ok.c
    have big : 1152921504606846977 ≤ 2 ^ 1000 := by decide
    exact pd_dh (by omega) (by omega) (by omega)) (by decide)
theorem WM.tail (h : WM k P b w T M) : St k (P ++ (objs b w ++ T)) M := h.2
theorem WM.of (h : WM k P b w T M) {M' : Mem} {k' : Nat} (h' : St k' (P ++ (objs b w ++ T)) M') : WM k' P b w T M' := ⟨h.1, h'⟩
theorem deed_w {c : Bool} (h : WM k P b w T M) (ok : Ok w) (hc : w.clk + 1 ≤ 1000) (hk : k + 10 < 2 ^ 200) (hK : ∀ w' M', Deed c w w' → WM (k + 5) P b w' T M' → K (.bl true) M') : wpo (f__law_four_deed [.loc 2, .loc (b + 10), .bl c] M) K E := by
  have e1 : ((w.clk : Nat) : Int) + 1 = ((w.clk + 1 : Nat) : Int) := by omega
  have n1 := ok.n1
  have n3 := ok.n3
  have n4 := ok.n4
  unfold f__law_four_deed
  rw [wp_def (by rfl)]
  simp only [↓wpo, ↓wps, ↓w_var, ↓w_k, ↓w_aNil, ↓w_aCons, ↓w_tup, ↓w_lst, ↓w_2, ↓w_1, ↓w_call, ↓w_if, ↓w_and, ↓w_or, ↓w_not, ↓w_bE, ↓w_bAnd, ↓w_bOr, ↓w_bNot, ↓w_bTrue, ↓w_chain, ↓w_oNone, ↓w_oSome, ↓w_slice, ↓w_kNil, ↓w_kCons, ↓w_dct, ↓w_dct0, ↓w_lst1, ↓w_fs, ↓w_get1, ↓w_get2, ↓ws_pass, ↓ws_break, ↓ws_cont, ↓ws_retN, ↓ws_seq, ↓ws_set, ↓ws_par, ↓ws_par3, ↓ws_expr, ↓ws_ret, ↓ws_if, ↓ws_raise, ↓ws_try, ↓ws_asg, ↓ws_nxo, ↓ws_sub, ↓ws_for, ↓wi_range1, ↓wi_range2, ↓wi_range3, ↓wi_seq, ↓wi_enum, wpo_ok, wpo_err, wpo_bind, ws_nx, ws_rt, ws_bk, ws_ct, ws_er, sq_nx, sq_rt, sq_bk, sq_ct, sq_er, lq_nx, lq_ct, lq_bk, lq_rt, lq_er, fq_nx, fq_rt, fq_er, tq_nx, tq_rt, tq_bk, tq_ct, tq_er, asV_ok, asB_ok, asI_ok, asK_int, asK_str, asP_ok, asP3_ok, asM_ok, asS_tup, asS_fz, asE_tup, asE_fz, add_ok, sub_ok, eq_ok, ne_ok, lt_ok, le_ok, gt_ok, ge_ok, neg_ok, isn_ok, notn_ok, int_ok, bind_ok, List.map_cons, List.map_nil, List.replicate, List.cons_append, List.nil_append, List.getElem?_cons_zero, List.getElem?_cons_succ, List.set_cons_zero, List.set_cons_succ, if_true, if_false, Bool.not_true, Bool.not_false, gc_same, Bool.false_eq_true, decide_true, decide_false, tName, tTup, tsCons, tsNil, List.length_cons, List.length_nil, ite_true, ite_false, reduceIte, reduceCtorEq, Nat.zero_add, Nat.reduceAdd, Nat.reduceEqDiff, Nat.reduceLeDiff, isNon, Int.zero_add, and_self, eq_self, ix0, ix1, ix2, ix3, ix4, ix5, isi_int, isi_nbl, isi_tup, isi_str, eqs_ok, nes_ok, len_tup, wd_clock h, e1, setKv_s (h.get 10 rfl) (show (Dw b w.clk).length < 16777216 from (by decide : 7 < 16777216)), dw_tick]
  have h1 : WM k P b w.tick T (M.set (b + 10) (.dct (Dw b (w.clk + 1)))) := h.put 10 _ (by omega) rfl
  generalize M.set (b + 10) (.dct (Dw b (w.clk + 1))) = M1 at h1 ⊢
  refine draw_w (L := 12) h1.tail (by decide) (by decide) (by omega) fun pick M2 hp s2 => ?_
  simp only [↓wpo, ↓wps, ↓w_var, ↓w_k, ↓w_aNil, ↓w_aCons, ↓w_tup, ↓w_lst, ↓w_2, ↓w_1, ↓w_call, ↓w_if, ↓w_and, ↓w_or, ↓w_not, ↓w_bE, ↓w_bAnd, ↓w_bOr, ↓w_bNot, ↓w_bTrue, ↓w_chain, ↓w_oNone, ↓w_oSome, ↓w_slice, ↓w_kNil, ↓w_kCons, ↓w_dct, ↓w_dct0, ↓w_lst1, ↓w_fs, ↓w_get1, ↓w_get2, ↓ws_pass, ↓ws_break, ↓ws_cont, ↓ws_retN, ↓ws_seq, ↓ws_set, ↓ws_par, ↓ws_par3, ↓ws_expr, ↓ws_ret, ↓ws_if, ↓ws_raise, ↓ws_try, ↓ws_asg, ↓ws_nxo, ↓ws_sub, ↓ws_for, ↓wi_range1, ↓wi_range2, ↓wi_range3, ↓wi_seq, ↓wi_enum, wpo_ok, wpo_err, wpo_bind, ws_nx, ws_rt, ws_bk, ws_ct, ws_er, sq_nx, sq_rt, sq_bk, sq_ct, sq_er, lq_nx, lq_ct, lq_bk, lq_rt, lq_er, fq_nx, fq_rt, fq_er, tq_nx, tq_rt, tq_bk, tq_ct, tq_er, asV_ok, asB_ok, asI_ok, asK_int, asK_str, asP_ok, asP3_ok, asM_ok, asS_tup, asS_fz, asE_tup, asE_fz, add_ok, sub_ok, eq_ok, ne_ok, lt_ok, le_ok, gt_ok, ge_ok, neg_ok, isn_ok, notn_ok, int_ok, bind_ok, List.map_cons, List.map_nil, List.replicate, List.cons_append, List.nil_append, List.getElem?_cons_zero, List.getElem?_cons_succ, List.set_cons_zero, List.set_cons_succ, if_true, if_false, Bool.not_true, Bool.not_false, gc_same, Bool.false_eq_true, decide_true, decide_false, tName, tTup, tsCons, tsNil, List.length_cons, List.length_nil, ite_true, ite_false, reduceIte, reduceCtorEq, Nat.zero_add, Nat.reduceAdd, Nat.reduceEqDiff, Nat.reduceLeDiff, isNon, Int.zero_add, and_self, eq_self, ix0, ix1, ix2, ix3, ix4, ix5, isi_int, isi_nbl, isi_tup, isi_str, eqs_ok, nes_ok, len_tup]
  refine draw_w (L := 2) s2 (by decide) (by decide) (by omega) fun s M3 hs s3 => ?_
  have h3 := h1.of s3
  have hs1 : s ≤ 1 := by omega
  have hs2 : 1 - s ≤ 1 := by omega
  have e2 : (1 : Int) - (s : Nat) = ((1 - s : Nat) : Int) := by omega
  have fin : ∀ w' M', Deed c w w' → WM (k + 5) P b w' T M' → K (.bl true) (gc M [.bl true] M') := fun w' M' d h' => hK _ _ d (h.ret0 h' (by simp))
  have ht : Ok w.tick := ⟨ok.side, ok.l, ok.ng, fun t q => by have := ok.m t q; show (w.l t).mine ≤ 2 * (w.clk + 1) + 2; omega, fun t q x hx => by
    obtain ⟨a, b, d⟩ := ok.h t q x hx
    exact ⟨a, b, by show x.clk ≤ w.clk + 1; omega⟩, fun t q => by have := n1 t q; show (w.s t).length ≤ w.clk + 1; omega, fun t q => by have := ok.n2 t q; show (w.g t).length ≤ w.clk + 1; omega, by show w.sure.length ≤ w.clk + 1; omega, by show w.since.length ≤ w.clk + 1 + 2; omega, by have := ok.n5; show w.taken.length ≤ w.clk + 1; omega, hc⟩
  simp only [↓wpo, ↓wps, ↓w_var, ↓w_k, ↓w_aNil, ↓w_aCons, ↓w_tup, ↓w_lst, ↓w_2, ↓w_1, ↓w_call, ↓w_if, ↓w_and, ↓w_or, ↓w_not, ↓w_bE, ↓w_bAnd, ↓w_bOr, ↓w_bNot, ↓w_bTrue, ↓w_chain, ↓w_oNone, ↓w_oSome, ↓w_slice, ↓w_kNil, ↓w_kCons, ↓w_dct, ↓w_dct0, ↓w_lst1, ↓w_fs, ↓w_get1, ↓w_get2, ↓ws_pass, ↓ws_break, ↓ws_cont, ↓ws_retN, ↓ws_seq, ↓ws_set, ↓ws_par, ↓ws_par3, ↓ws_expr, ↓ws_ret, ↓ws_if, ↓ws_raise, ↓ws_try, ↓ws_asg, ↓ws_nxo, ↓ws_sub, ↓ws_for, ↓wi_range1, ↓wi_range2, ↓wi_range3, ↓wi_seq, ↓wi_enum, wpo_ok, wpo_err, wpo_bind, ws_nx, ws_rt, ws_bk, ws_ct, ws_er, sq_nx, sq_rt, sq_bk, sq_ct, sq_er, lq_nx, lq_ct, lq_bk, lq_rt, lq_er, fq_nx, fq_rt, fq_er, tq_nx, tq_rt, tq_bk, tq_ct, tq_er, asV_ok, asB_ok, asI_ok, asK_int, asK_str, asP_ok, asP3_ok, asM_ok, asS_tup, asS_fz, asE_tup, asE_fz, add_ok, sub_ok, eq_ok, ne_ok, lt_ok, le_ok, gt_ok, ge_ok, neg_ok, isn_ok, notn_ok, int_ok, bind_ok, List.map_cons, List.map_nil, List.replicate, List.cons_append, List.nil_append, List.getElem?_cons_zero, List.getElem?_cons_succ, List.set_cons_zero, List.set_cons_succ, if_true, if_false, Bool.not_true, Bool.not_false, gc_same, Bool.false_eq_true, decide_true, decide_false, tName, tTup, tsCons, tsNil, List.length_cons, List.length_nil, ite_true, ite_false, reduceIte, reduceCtorEq, Nat.zero_add, Nat.reduceAdd, Nat.reduceEqDiff, Nat.reduceLeDiff, isNon, Int.zero_add, and_self, eq_self, ix0, ix1, ix2, ix3, ix4, ix5, isi_int, isi_nbl, isi_tup, isi_str, eqs_ok, nes_ok, len_tup, wd_sent h3, e2, wd_row h3 hs2]
  by_cases c0 : (pick : Int) = 0
  · cases c with
    | true =>
      simp only [↓wpo, ↓wps, ↓w_var, ↓w_k, ↓w_aNil, ↓w_aCons, ↓w_tup, ↓w_lst, ↓w_2, ↓w_1, ↓w_call, ↓w_if, ↓w_and, ↓w_or, ↓w_not, ↓w_bE, ↓w_bAnd, ↓w_bOr, ↓w_bNot, ↓w_bTrue, ↓w_chain, ↓w_oNone, ↓w_oSome, ↓w_slice, ↓w_kNil, ↓w_kCons, ↓w_dct, ↓w_dct0, ↓w_lst1, ↓w_fs, ↓w_get1, ↓w_get2, ↓ws_pass, ↓ws_break, ↓ws_cont, ↓ws_retN, ↓ws_seq, ↓ws_set, ↓ws_par, ↓ws_par3, ↓ws_expr, ↓ws_ret, ↓ws_if, ↓ws_raise, ↓ws_try, ↓ws_asg, ↓ws_nxo, ↓ws_sub, ↓ws_for, ↓wi_range1, ↓wi_range2, ↓wi_range3, ↓wi_seq, ↓wi_enum, wpo_ok, wpo_err, wpo_bind, ws_nx, ws_rt, ws_bk, ws_ct, ws_er, sq_nx, sq_rt, sq_bk, sq_ct, sq_er, lq_nx, lq_ct, lq_bk, lq_rt, lq_er, fq_nx, fq_rt, fq_er, tq_nx, tq_rt, tq_bk, tq_ct, tq_er, asV_ok, asB_ok, asI_ok, asK_int, asK_str, asP_ok, asP3_ok, asM_ok, asS_tup, asS_fz, asE_tup, asE_fz, add_ok, sub_ok, eq_ok, ne_ok, lt_ok, le_ok, gt_ok, ge_ok, neg_ok, isn_ok, notn_ok, int_ok, bind_ok, List.map_cons, List.map_nil, List.replicate, List.cons_append, List.nil_append, List.getElem?_cons_zero, List.getElem?_cons_succ, List.set_cons_zero, List.set_cons_succ, if_true, if_false, Bool.not_true, Bool.not_false, gc_same, Bool.false_eq_true, decide_true, decide_false, tName, tTup, tsCons, tsNil, List.length_cons, List.length_nil, ite_true, ite_false, reduceIte, reduceCtorEq, Nat.zero_add, Nat.reduceAdd, Nat.reduceEqDiff, Nat.reduceLeDiff, isNon, Int.zero_add, and_self, eq_self, ix0, ix1, ix2, ix3, ix4, ix5, isi_int, isi_nbl, isi_tup, isi_str, eqs_ok, nes_ok, len_tup, c0]
      refine crash_w h3 hs1 (by show w.sure.length ≤ _; omega) (by show w.since.length ≤ _; omega) fun M' h' => ?_
      simp only [↓wpo, ↓wps, ↓w_var, ↓w_k, ↓w_aNil, ↓w_aCons, ↓w_tup, ↓w_lst, ↓w_2, ↓w_1, ↓w_call, ↓w_if, ↓w_and, ↓w_or, ↓w_not, ↓w_bE, ↓w_bAnd, ↓w_bOr, ↓w_bNot, ↓w_bTrue, ↓w_chain, ↓w_oNone, ↓w_oSome, ↓w_slice, ↓w_kNil, ↓w_kCons, ↓w_dct, ↓w_dct0, ↓w_lst1, ↓w_fs, ↓w_get1, ↓w_get2, ↓ws_pass, ↓ws_break, ↓ws_cont, ↓ws_retN, ↓ws_seq, ↓ws_set, ↓ws_par, ↓ws_par3, ↓ws_expr, ↓ws_ret, ↓ws_if, ↓ws_raise, ↓ws_try, ↓ws_asg, ↓ws_nxo, ↓ws_sub, ↓ws_for, ↓wi_range1, ↓wi_range2, ↓wi_range3, ↓wi_seq, ↓wi_enum, wpo_ok, wpo_err, wpo_bind, ws_nx, ws_rt, ws_bk, ws_ct, ws_er, sq_nx, sq_rt, sq_bk, sq_ct, sq_er, lq_nx, lq_ct, lq_bk, lq_rt, lq_er, fq_nx, fq_rt, fq_er, tq_nx, tq_rt, tq_bk, tq_ct, tq_er, asV_ok, asB_ok, asI_ok, asK_int, asK_str, asP_ok, asP3_ok, asM_ok, asS_tup, asS_fz, asE_tup, asE_fz, add_ok, sub_ok, eq_ok, ne_ok, lt_ok, le_ok, gt_ok, ge_ok, neg_ok, isn_ok, notn_ok, int_ok, bind_ok, List.map_cons, List.map_nil, List.replicate, List.cons_append, List.nil_append, List.getElem?_cons_zero, List.getElem?_cons_succ, List.set_cons_zero, List.set_cons_succ, if_true, if_false, Bool.not_true, Bool.not_false, gc_same, Bool.false_eq_true, decide_true, decide_false, tName, tTup, tsCons, tsNil, List.length_cons, List.length_nil, ite_true, ite_false, reduceIte, reduceCtorEq, Nat.zero_add, Nat.reduceAdd, Nat.reduceEqDiff, Nat.reduceLeDiff, isNon, Int.zero_add, and_self, eq_self, ix0, ix1, ix2, ix3, ix4, ix5, isi_int, isi_nbl, isi_tup, isi_str, eqs_ok, nes_ok, len_tup]
      exact fin _ _ (.crash s hs1 rfl) (h'.mono (by omega))
    | false =>
      have c1 : (0 : Int) < 5 := by decide
      simp only [↓wpo, ↓wps, ↓w_var, ↓w_k, ↓w_aNil, ↓w_aCons, ↓w_tup, ↓w_lst, ↓w_2, ↓w_1, ↓w_call, ↓w_if, ↓w_and, ↓w_or, ↓w_not, ↓w_bE, ↓w_bAnd, ↓w_bOr, ↓w_bNot, ↓w_bTrue, ↓w_chain, ↓w_oNone, ↓w_oSome, ↓w_slice, ↓w_kNil, ↓w_kCons, ↓w_dct, ↓w_dct0, ↓w_lst1, ↓w_fs, ↓w_get1, ↓w_get2, ↓ws_pass, ↓ws_break, ↓ws_cont, ↓ws_retN, ↓ws_seq, ↓ws_set, ↓ws_par, ↓ws_par3, ↓ws_expr, ↓ws_ret, ↓ws_if, ↓ws_raise, ↓ws_try, ↓ws_asg, ↓ws_nxo, ↓ws_sub, ↓ws_for, ↓wi_range1, ↓wi_range2, ↓wi_range3, ↓wi_seq, ↓wi_enum, wpo_ok, wpo_err, wpo_bind, ws_nx, ws_rt, ws_bk, ws_ct, ws_er, sq_nx, sq_rt, sq_bk, sq_ct, sq_er, lq_nx, lq_ct, lq_bk, lq_rt, lq_er, fq_nx, fq_rt, fq_er, tq_nx, tq_rt, tq_bk, tq_ct, tq_er, asV_ok, asB_ok, asI_ok, asK_int, asK_str, asP_ok, asP3_ok, asM_ok, asS_tup, asS_fz, asE_tup, asE_fz, add_ok, sub_ok, eq_ok, ne_ok, lt_ok, le_ok, gt_ok, ge_ok, neg_ok, isn_ok, notn_ok, int_ok, bind_ok, List.map_cons, List.map_nil, List.replicate, List.cons_append, List.nil_append, List.getElem?_cons_zero, List.getElem?_cons_succ, List.set_cons_zero, List.set_cons_succ, if_true, if_false, Bool.not_true, Bool.not_false, gc_same, Bool.false_eq_true, decide_true, decide_false, tName, tTup, tsCons, tsNil, List.length_cons, List.length_nil, ite_true, ite_false, reduceIte, reduceCtorEq, Nat.zero_add, Nat.reduceAdd, Nat.reduceEqDiff, Nat.reduceLeDiff, isNon, Int.zero_add, and_self, eq_self, ix0, ix1, ix2, ix3, ix4, ix5, isi_int, isi_nbl, isi_tup, isi_str, eqs_ok, nes_ok, len_tup, c0, c1]
      have h4 := h3.app []
      rw [List.append_nil (as := M3)] at h4
      refine draw_w (L := 2) h4.tail (by decide) (by decide) (by omega) fun v M5 hv s5 => ?_
      simp only [↓wpo, ↓wps, ↓w_var, ↓w_k, ↓w_aNil, ↓w_aCons, ↓w_tup, ↓w_lst, ↓w_2, ↓w_1, ↓w_call, ↓w_if, ↓w_and, ↓w_or, ↓w_not, ↓w_bE, ↓w_bAnd, ↓w_bOr, ↓w_bNot, ↓w_bTrue, ↓w_chain, ↓w_oNone, ↓w_oSome, ↓w_slice, ↓w_kNil, ↓w_kCons, ↓w_dct, ↓w_dct0, ↓w_lst1, ↓w_fs, ↓w_get1, ↓w_get2, ↓ws_pass, ↓ws_break, ↓ws_cont, ↓ws_retN, ↓ws_seq, ↓ws_set, ↓ws_par, ↓ws_par3, ↓ws_expr, ↓ws_ret, ↓ws_if, ↓ws_raise, ↓ws_try, ↓ws_asg, ↓ws_nxo, ↓ws_sub, ↓ws_for, ↓wi_range1, ↓wi_range2, ↓wi_range3, ↓wi_seq, ↓wi_enum, wpo_ok, wpo_err, wpo_bind, ws_nx, ws_rt, ws_bk, ws_ct, ws_er, sq_nx, sq_rt, sq_bk, sq_ct, sq_er, lq_nx, lq_ct, lq_bk, lq_rt, lq_er, fq_nx, fq_rt, fq_er, tq_nx, tq_rt, tq_bk, tq_ct, tq_er, asV_ok, asB_ok, asI_ok, asK_int, asK_str, asP_ok, asP3_ok, asM_ok, asS_tup, asS_fz, asE_tup, asE_fz, add_ok, sub_ok, eq_ok, ne_ok, lt_ok, le_ok, gt_ok, ge_ok, neg_ok, isn_ok, notn_ok, int_ok, bind_ok, List.map_cons, List.map_nil, List.replicate, List.cons_append, List.nil_append, List.getElem?_cons_zero, List.getElem?_cons_succ, List.set_cons_zero, List.set_cons_succ, if_true, if_false, Bool.not_true, Bool.not_false, gc_same, Bool.false_eq_true, decide_true, decide_false, tName, tTup, tsCons, tsNil, List.length_cons, List.length_nil, ite_true, ite_false, reduceIte, reduceCtorEq, Nat.zero_add, Nat.reduceAdd, Nat.reduceEqDiff, Nat.reduceLeDiff, isNon, Int.zero_add, and_self, eq_self, ix0, ix1, ix2, ix3, ix4, ix5, isi_int, isi_nbl, isi_tup, isi_str, eqs_ok, nes_ok, len_tup]
      have h5 := (h4.of s5).mono (k' := k + 5) (by omega)
      refine send_w h5 hs1 (by have := n1 s hs1; show (w.s s).length ≤ _; omega) fun M' h' => ?_
      simp only [↓wpo, ↓wps, ↓w_var, ↓w_k, ↓w_aNil, ↓w_aCons, ↓w_tup, ↓w_lst, ↓w_2, ↓w_1, ↓w_call, ↓w_if, ↓w_and, ↓w_or, ↓w_not, ↓w_bE, ↓w_bAnd, ↓w_bOr, ↓w_bNot, ↓w_bTrue, ↓w_chain, ↓w_oNone, ↓w_oSome, ↓w_slice, ↓w_kNil, ↓w_kCons, ↓w_dct, ↓w_dct0, ↓w_lst1, ↓w_fs, ↓w_get1, ↓w_get2, ↓ws_pass, ↓ws_break, ↓ws_cont, ↓ws_retN, ↓ws_seq, ↓ws_set, ↓ws_par, ↓ws_par3, ↓ws_expr, ↓ws_ret, ↓ws_if, ↓ws_raise, ↓ws_try, ↓ws_asg, ↓ws_nxo, ↓ws_sub, ↓ws_for, ↓wi_range1, ↓wi_range2, ↓wi_range3, ↓wi_seq, ↓wi_enum, wpo_ok, wpo_err, wpo_bind, ws_nx, ws_rt, ws_bk, ws_ct, ws_er, sq_nx, sq_rt, sq_bk, sq_ct, sq_er, lq_nx, lq_ct, lq_bk, lq_rt, lq_er, fq_nx, fq_rt, fq_er, tq_nx, tq_rt, tq_bk, tq_ct, tq_er, asV_ok, asB_ok, asI_ok, asK_int, asK_str, asP_ok, asP3_ok, asM_ok, asS_tup, asS_fz, asE_tup, asE_fz, add_ok, sub_ok, eq_ok, ne_ok, lt_ok, le_ok, gt_ok, ge_ok, neg_ok, isn_ok, notn_ok, int_ok, bind_ok, List.map_cons, List.map_nil, List.replicate, List.cons_append, List.nil_append, List.getElem?_cons_zero, List.getElem?_cons_succ, List.set_cons_zero, List.set_cons_succ, if_true, if_false, Bool.not_true, Bool.not_false, gc_same, Bool.false_eq_true, decide_true, decide_false, tName, tTup, tsCons, tsNil, List.length_cons, List.length_nil, ite_true, ite_false, reduceIte, reduceCtorEq, Nat.zero_add, Nat.reduceAdd, Nat.reduceEqDiff, Nat.reduceLeDiff, isNon, Int.zero_add, and_self, eq_self, ix0, ix1, ix2, ix3, ix4, ix5, isi_int, isi_nbl, isi_tup, isi_str, eqs_ok, nes_ok, len_tup]
      exact hK _ _ (.send s _ hs1) (h.ret (X := []) h' (by simp))
  · by_cases c1 : (pick : Int) < 5
    · simp only [↓wpo, ↓wps, ↓w_var, ↓w_k, ↓w_aNil, ↓w_aCons, ↓w_tup, ↓w_lst, ↓w_2, ↓w_1, ↓w_call, ↓w_if, ↓w_and, ↓w_or, ↓w_not, ↓w_bE, ↓w_bAnd, ↓w_bOr, ↓w_bNot, ↓w_bTrue, ↓w_chain, ↓w_oNone, ↓w_oSome, ↓w_slice, ↓w_kNil, ↓w_kCons, ↓w_dct, ↓w_dct0, ↓w_lst1, ↓w_fs, ↓w_get1, ↓w_get2, ↓ws_pass, ↓ws_break, ↓ws_cont, ↓ws_retN, ↓ws_seq, ↓ws_set, ↓ws_par, ↓ws_par3, ↓ws_expr, ↓ws_ret, ↓ws_if, ↓ws_raise, ↓ws_try, ↓ws_asg, ↓ws_nxo, ↓ws_sub, ↓ws_for, ↓wi_range1, ↓wi_range2, ↓wi_range3, ↓wi_seq, ↓wi_enum, wpo_ok, wpo_err, wpo_bind, ws_nx, ws_rt, ws_bk, ws_ct, ws_er, sq_nx, sq_rt, sq_bk, sq_ct, sq_er, lq_nx, lq_ct, lq_bk, lq_rt, lq_er, fq_nx, fq_rt, fq_er, tq_nx, tq_rt, tq_bk, tq_ct, tq_er, asV_ok, asB_ok, asI_ok, asK_int, asK_str, asP_ok, asP3_ok, asM_ok, asS_tup, asS_fz, asE_tup, asE_fz, add_ok, sub_ok, eq_ok, ne_ok, lt_ok, le_ok, gt_ok, ge_ok, neg_ok, isn_ok, notn_ok, int_ok, bind_ok, List.map_cons, List.map_nil, List.replicate, List.cons_append, List.nil_append, List.getElem?_cons_zero, List.getElem?_cons_succ, List.set_cons_zero, List.set_cons_succ, if_true, if_false, Bool.not_true, Bool.not_false, gc_same, Bool.false_eq_true, decide_true, decide_false, tName, tTup, tsCons, tsNil, List.length_cons, List.length_nil, ite_true, ite_false, reduceIte, reduceCtorEq, Nat.zero_add, Nat.reduceAdd, Nat.reduceEqDiff, Nat.reduceLeDiff, isNon, Int.zero_add, and_self, eq_self, ix0, ix1, ix2, ix3, ix4, ix5, isi_int, isi_nbl, isi_tup, isi_str, eqs_ok, nes_ok, len_tup, c0, c1]
      have h4 := h3.app []
      rw [List.append_nil (as := M3)] at h4
      refine draw_w (L := 2) h4.tail (by decide) (by decide) (by omega) fun v M5 hv s5 => ?_
      simp only [↓wpo, ↓wps, ↓w_var, ↓w_k, ↓w_aNil, ↓w_aCons, ↓w_tup, ↓w_lst, ↓w_2, ↓w_1, ↓w_call, ↓w_if, ↓w_and, ↓w_or, ↓w_not, ↓w_bE, ↓w_bAnd, ↓w_bOr, ↓w_bNot, ↓w_bTrue, ↓w_chain, ↓w_oNone, ↓w_oSome, ↓w_slice, ↓w_kNil, ↓w_kCons, ↓w_dct, ↓w_dct0, ↓w_lst1, ↓w_fs, ↓w_get1, ↓w_get2, ↓ws_pass, ↓ws_break, ↓ws_cont, ↓ws_retN, ↓ws_seq, ↓ws_set, ↓ws_par, ↓ws_par3, ↓ws_expr, ↓ws_ret, ↓ws_if, ↓ws_raise, ↓ws_try, ↓ws_asg, ↓ws_nxo, ↓ws_sub, ↓ws_for, ↓wi_range1, ↓wi_range2, ↓wi_range3, ↓wi_seq, ↓wi_enum, wpo_ok, wpo_err, wpo_bind, ws_nx, ws_rt, ws_bk, ws_ct, ws_er, sq_nx, sq_rt, sq_bk, sq_ct, sq_er, lq_nx, lq_ct, lq_bk, lq_rt, lq_er, fq_nx, fq_rt, fq_er, tq_nx, tq_rt, tq_bk, tq_ct, tq_er, asV_ok, asB_ok, asI_ok, asK_int, asK_str, asP_ok, asP3_ok, asM_ok, asS_tup, asS_fz, asE_tup, asE_fz, add_ok, sub_ok, eq_ok, ne_ok, lt_ok, le_ok, gt_ok, ge_ok, neg_ok, isn_ok, notn_ok, int_ok, bind_ok, List.map_cons, List.map_nil, List.replicate, List.cons_append, List.nil_append, List.getElem?_cons_zero, List.getElem?_cons_succ, List.set_cons_zero, List.set_cons_succ, if_true, if_false, Bool.not_true, Bool.not_false, gc_same, Bool.false_eq_true, decide_true, decide_false, tName, tTup, tsCons, tsNil, List.length_cons, List.length_nil, ite_true, ite_false, reduceIte, reduceCtorEq, Nat.zero_add, Nat.reduceAdd, Nat.reduceEqDiff, Nat.reduceLeDiff, isNon, Int.zero_add, and_self, eq_self, ix0, ix1, ix2, ix3, ix4, ix5, isi_int, isi_nbl, isi_tup, isi_str, eqs_ok, nes_ok, len_tup]
      have h5 := (h4.of s5).mono (k' := k + 5) (by omega)
      refine send_w h5 hs1 (by have := n1 s hs1; show (w.s s).length ≤ _; omega) fun M' h' => ?_
      simp only [↓wpo, ↓wps, ↓w_var, ↓w_k, ↓w_aNil, ↓w_aCons, ↓w_tup, ↓w_lst, ↓w_2, ↓w_1, ↓w_call, ↓w_if, ↓w_and, ↓w_or, ↓w_not, ↓w_bE, ↓w_bAnd, ↓w_bOr, ↓w_bNot, ↓w_bTrue, ↓w_chain, ↓w_oNone, ↓w_oSome, ↓w_slice, ↓w_kNil, ↓w_kCons, ↓w_dct, ↓w_dct0, ↓w_lst1, ↓w_fs, ↓w_get1, ↓w_get2, ↓ws_pass, ↓ws_break, ↓ws_cont, ↓ws_retN, ↓ws_seq, ↓ws_set, ↓ws_par, ↓ws_par3, ↓ws_expr, ↓ws_ret, ↓ws_if, ↓ws_raise, ↓ws_try, ↓ws_asg, ↓ws_nxo, ↓ws_sub, ↓ws_for, ↓wi_range1, ↓wi_range2, ↓wi_range3, ↓wi_seq, ↓wi_enum, wpo_ok, wpo_err, wpo_bind, ws_nx, ws_rt, ws_bk, ws_ct, ws_er, sq_nx, sq_rt, sq_bk, sq_ct, sq_er, lq_nx, lq_ct, lq_bk, lq_rt, lq_er, fq_nx, fq_rt, fq_er, tq_nx, tq_rt, tq_bk, tq_ct, tq_er, asV_ok, asB_ok, asI_ok, asK_int, asK_str, asP_ok, asP3_ok, asM_ok, asS_tup, asS_fz, asE_tup, asE_fz, add_ok, sub_ok, eq_ok, ne_ok, lt_ok, le_ok, gt_ok, ge_ok, neg_ok, isn_ok, notn_ok, int_ok, bind_ok, List.map_cons, List.map_nil, List.replicate, List.cons_append, List.nil_append, List.getElem?_cons_zero, List.getElem?_cons_succ, List.set_cons_zero, List.set_cons_succ, if_true, if_false, Bool.not_true, Bool.not_false, gc_same, Bool.false_eq_true, decide_true, decide_false, tName, tTup, tsCons, tsNil, List.length_cons, List.length_nil, ite_true, ite_false, reduceIte, reduceCtorEq, Nat.zero_add, Nat.reduceAdd, Nat.reduceEqDiff, Nat.reduceLeDiff, isNon, Int.zero_add, and_self, eq_self, ix0, ix1, ix2, ix3, ix4, ix5, isi_int, isi_nbl, isi_tup, isi_str, eqs_ok, nes_ok, len_tup]
      exact hK _ _ (.send s _ hs1) (h.ret (X := []) h' (by simp))
    · have rowl := wd_sentl h3 hs2
      have rowl' : (M3 ++ [MO.lst []])[b + 1 + (1 - s)]? = some (.lst ((w.s (1 - s)).map dh)) := wd_sentl (w := w.tick) (h3.app [.lst []]) hs2
      have eqn : oEq (.loc (b + 1 + (1 - s))) (.loc M3.length) (M3 ++ [MO.lst []]) = .ok (.bl ((w.s (1 - s)).isEmpty)) (M3 ++ [MO.lst []]) := by
        rw [eq_of (Pd.lst rowl' (pd_hs (w := w) ok hs2)) (Pd.lst (get_last M3 (.lst [])) .nil), eqv_nil, List.isEmpty_map]
      have z0 : 0 ≤ 16777216 := by decide
      simp only [↓wpo, ↓wps, ↓w_var, ↓w_k, ↓w_aNil, ↓w_aCons, ↓w_tup, ↓w_lst, ↓w_2, ↓w_1, ↓w_call, ↓w_if, ↓w_and, ↓w_or, ↓w_not, ↓w_bE, ↓w_bAnd, ↓w_bOr, ↓w_bNot, ↓w_bTrue, ↓w_chain, ↓w_oNone, ↓w_oSome, ↓w_slice, ↓w_kNil, ↓w_kCons, ↓w_dct, ↓w_dct0, ↓w_lst1, ↓w_fs, ↓w_get1, ↓w_get2, ↓ws_pass, ↓ws_break, ↓ws_cont, ↓ws_retN, ↓ws_seq, ↓ws_set, ↓ws_par, ↓ws_par3, ↓ws_expr, ↓ws_ret, ↓ws_if, ↓ws_raise, ↓ws_try, ↓ws_asg, ↓ws_nxo, ↓ws_sub, ↓ws_for, ↓wi_range1, ↓wi_range2, ↓wi_range3, ↓wi_seq, ↓wi_enum, wpo_ok, wpo_err, wpo_bind, ws_nx, ws_rt, ws_bk, ws_ct, ws_er, sq_nx, sq_rt, sq_bk, sq_ct, sq_er, lq_nx, lq_ct, lq_bk, lq_rt, lq_er, fq_nx, fq_rt, fq_er, tq_nx, tq_rt, tq_bk, tq_ct, tq_er, asV_ok, asB_ok, asI_ok, asK_int, asK_str, asP_ok, asP3_ok, asM_ok, asS_tup, asS_fz, asE_tup, asE_fz, add_ok, sub_ok, eq_ok, ne_ok, lt_ok, le_ok, gt_ok, ge_ok, neg_ok, isn_ok, notn_ok, int_ok, bind_ok, List.map_cons, List.map_nil, List.replicate, List.cons_append, List.nil_append, List.getElem?_cons_zero, List.getElem?_cons_succ, List.set_cons_zero, List.set_cons_succ, if_true, if_false, Bool.not_true, Bool.not_false, gc_same, Bool.false_eq_true, decide_true, decide_false, tName, tTup, tsCons, tsNil, List.length_cons, List.length_nil, ite_true, ite_false, reduceIte, reduceCtorEq, Nat.zero_add, Nat.reduceAdd, Nat.reduceEqDiff, Nat.reduceLeDiff, isNon, Int.zero_add, and_self, eq_self, ix0, ix1, ix2, ix3, ix4, ix5, isi_int, isi_nbl, isi_tup, isi_str, eqs_ok, nes_ok, len_tup, c0, c1, z0, eqn]
      cases hr : w.s (1 - s) with
      | nil =>
        simp only [↓wpo, ↓wps, ↓w_var, ↓w_k, ↓w_aNil, ↓w_aCons, ↓w_tup, ↓w_lst, ↓w_2, ↓w_1, ↓w_call, ↓w_if, ↓w_and, ↓w_or, ↓w_not, ↓w_bE, ↓w_bAnd, ↓w_bOr, ↓w_bNot, ↓w_bTrue, ↓w_chain, ↓w_oNone, ↓w_oSome, ↓w_slice, ↓w_kNil, ↓w_kCons, ↓w_dct, ↓w_dct0, ↓w_lst1, ↓w_fs, ↓w_get1, ↓w_get2, ↓ws_pass, ↓ws_break, ↓ws_cont, ↓ws_retN, ↓ws_seq, ↓ws_set, ↓ws_par, ↓ws_par3, ↓ws_expr, ↓ws_ret, ↓ws_if, ↓ws_raise, ↓ws_try, ↓ws_asg, ↓ws_nxo, ↓ws_sub, ↓ws_for, ↓wi_range1, ↓wi_range2, ↓wi_range3, ↓wi_seq, ↓wi_enum, wpo_ok, wpo_err, wpo_bind, ws_nx, ws_rt, ws_bk, ws_ct, ws_er, sq_nx, sq_rt, sq_bk, sq_ct, sq_er, lq_nx, lq_ct, lq_bk, lq_rt, lq_er, fq_nx, fq_rt, fq_er, tq_nx, tq_rt, tq_bk, tq_ct, tq_er, asV_ok, asB_ok, asI_ok, asK_int, asK_str, asP_ok, asP3_ok, asM_ok, asS_tup, asS_fz, asE_tup, asE_fz, add_ok, sub_ok, eq_ok, ne_ok, lt_ok, le_ok, gt_ok, ge_ok, neg_ok, isn_ok, notn_ok, int_ok, bind_ok, List.map_cons, List.map_nil, List.replicate, List.cons_append, List.nil_append, List.getElem?_cons_zero, List.getElem?_cons_succ, List.set_cons_zero, List.set_cons_succ, if_true, if_false, Bool.not_true, Bool.not_false, gc_same, Bool.false_eq_true, decide_true, decide_false, tName, tTup, tsCons, tsNil, List.length_cons, List.length_nil, ite_true, ite_false, reduceIte, reduceCtorEq, Nat.zero_add, Nat.reduceAdd, Nat.reduceEqDiff, Nat.reduceLeDiff, isNon, Int.zero_add, and_self, eq_self, ix0, ix1, ix2, ix3, ix4, ix5, isi_int, isi_nbl, isi_tup, isi_str, eqs_ok, nes_ok, len_tup, List.isEmpty_nil]
        have h4 := h3.app [.lst []]
        refine draw_w (L := 2) h4.tail (by decide) (by decide) (by omega) fun v M5 hv s5 => ?_
        simp only [↓wpo, ↓wps, ↓w_var, ↓w_k, ↓w_aNil, ↓w_aCons, ↓w_tup, ↓w_lst, ↓w_2, ↓w_1, ↓w_call, ↓w_if, ↓w_and, ↓w_or, ↓w_not, ↓w_bE, ↓w_bAnd, ↓w_bOr, ↓w_bNot, ↓w_bTrue, ↓w_chain, ↓w_oNone, ↓w_oSome, ↓w_slice, ↓w_kNil, ↓w_kCons, ↓w_dct, ↓w_dct0, ↓w_lst1, ↓w_fs, ↓w_get1, ↓w_get2, ↓ws_pass, ↓ws_break, ↓ws_cont, ↓ws_retN, ↓ws_seq, ↓ws_set, ↓ws_par, ↓ws_par3, ↓ws_expr, ↓ws_ret, ↓ws_if, ↓ws_raise, ↓ws_try, ↓ws_asg, ↓ws_nxo, ↓ws_sub, ↓ws_for, ↓wi_range1, ↓wi_range2, ↓wi_range3, ↓wi_seq, ↓wi_enum, wpo_ok, wpo_err, wpo_bind, ws_nx, ws_rt, ws_bk, ws_ct, ws_er, sq_nx, sq_rt, sq_bk, sq_ct, sq_er, lq_nx, lq_ct, lq_bk, lq_rt, lq_er, fq_nx, fq_rt, fq_er, tq_nx, tq_rt, tq_bk, tq_ct, tq_er, asV_ok, asB_ok, asI_ok, asK_int, asK_str, asP_ok, asP3_ok, asM_ok, asS_tup, asS_fz, asE_tup, asE_fz, add_ok, sub_ok, eq_ok, ne_ok, lt_ok, le_ok, gt_ok, ge_ok, neg_ok, isn_ok, notn_ok, int_ok, bind_ok, List.map_cons, List.map_nil, List.replicate, List.cons_append, List.nil_append, List.getElem?_cons_zero, List.getElem?_cons_succ, List.set_cons_zero, List.set_cons_succ, if_true, if_false, Bool.not_true, Bool.not_false, gc_same, Bool.false_eq_true, decide_true, decide_false, tName, tTup, tsCons, tsNil, List.length_cons, List.length_nil, ite_true, ite_false, reduceIte, reduceCtorEq, Nat.zero_add, Nat.reduceAdd, Nat.reduceEqDiff, Nat.reduceLeDiff, isNon, Int.zero_add, and_self, eq_self, ix0, ix1, ix2, ix3, ix4, ix5, isi_int, isi_nbl, isi_tup, isi_str, eqs_ok, nes_ok, len_tup]
        have h5 := (h4.of s5).mono (k' := k + 5) (by omega)
        refine send_w h5 hs1 (by have := n1 s hs1; show (w.s s).length ≤ _; omega) fun M' h' => ?_
        simp only [↓wpo, ↓wps, ↓w_var, ↓w_k, ↓w_aNil, ↓w_aCons, ↓w_tup, ↓w_lst, ↓w_2, ↓w_1, ↓w_call, ↓w_if, ↓w_and, ↓w_or, ↓w_not, ↓w_bE, ↓w_bAnd, ↓w_bOr, ↓w_bNot, ↓w_bTrue, ↓w_chain, ↓w_oNone, ↓w_oSome, ↓w_slice, ↓w_kNil, ↓w_kCons, ↓w_dct, ↓w_dct0, ↓w_lst1, ↓w_fs, ↓w_get1, ↓w_get2, ↓ws_pass, ↓ws_break, ↓ws_cont, ↓ws_retN, ↓ws_seq, ↓ws_set, ↓ws_par, ↓ws_par3, ↓ws_expr, ↓ws_ret, ↓ws_if, ↓ws_raise, ↓ws_try, ↓ws_asg, ↓ws_nxo, ↓ws_sub, ↓ws_for, ↓wi_range1, ↓wi_range2, ↓wi_range3, ↓wi_seq, ↓wi_enum, wpo_ok, wpo_err, wpo_bind, ws_nx, ws_rt, ws_bk, ws_ct, ws_er, sq_nx, sq_rt, sq_bk, sq_ct, sq_er, lq_nx, lq_ct, lq_bk, lq_rt, lq_er, fq_nx, fq_rt, fq_er, tq_nx, tq_rt, tq_bk, tq_ct, tq_er, asV_ok, asB_ok, asI_ok, asK_int, asK_str, asP_ok, asP3_ok, asM_ok, asS_tup, asS_fz, asE_tup, asE_fz, add_ok, sub_ok, eq_ok, ne_ok, lt_ok, le_ok, gt_ok, ge_ok, neg_ok, isn_ok, notn_ok, int_ok, bind_ok, List.map_cons, List.map_nil, List.replicate, List.cons_append, List.nil_append, List.getElem?_cons_zero, List.getElem?_cons_succ, List.set_cons_zero, List.set_cons_succ, if_true, if_false, Bool.not_true, Bool.not_false, gc_same, Bool.false_eq_true, decide_true, decide_false, tName, tTup, tsCons, tsNil, List.length_cons, List.length_nil, ite_true, ite_false, reduceIte, reduceCtorEq, Nat.zero_add, Nat.reduceAdd, Nat.reduceEqDiff, Nat.reduceLeDiff, isNon, Int.zero_add, and_self, eq_self, ix0, ix1, ix2, ix3, ix4, ix5, isi_int, isi_nbl, isi_tup, isi_str, eqs_ok, nes_ok, len_tup]
        exact hK _ _ (.send s _ hs1) (h.ret (X := [.lst []]) h' (by simp))
      | cons x0 r0 =>
        have z4 : 4 ≤ 16777216 := by decide
        have hlen : (w.s (1 - s)).length = r0.length + 1 := by rw [hr]; rfl
        simp only [↓wpo, ↓wps, ↓w_var, ↓w_k, ↓w_aNil, ↓w_aCons, ↓w_tup, ↓w_lst, ↓w_2, ↓w_1, ↓w_call, ↓w_if, ↓w_and, ↓w_or, ↓w_not, ↓w_bE, ↓w_bAnd, ↓w_bOr, ↓w_bNot, ↓w_bTrue, ↓w_chain, ↓w_oNone, ↓w_oSome, ↓w_slice, ↓w_kNil, ↓w_kCons, ↓w_dct, ↓w_dct0, ↓w_lst1, ↓w_fs, ↓w_get1, ↓w_get2, ↓ws_pass, ↓ws_break, ↓ws_cont, ↓ws_retN, ↓ws_seq, ↓ws_set, ↓ws_par, ↓ws_par3, ↓ws_expr, ↓ws_ret, ↓ws_if, ↓ws_raise, ↓ws_try, ↓ws_asg, ↓ws_nxo, ↓ws_sub, ↓ws_for, ↓wi_range1, ↓wi_range2, ↓wi_range3, ↓wi_seq, ↓wi_enum, wpo_ok, wpo_err, wpo_bind, ws_nx, ws_rt, ws_bk, ws_ct, ws_er, sq_nx, sq_rt, sq_bk, sq_ct, sq_er, lq_nx, lq_ct, lq_bk, lq_rt, lq_er, fq_nx, fq_rt, fq_er, tq_nx, tq_rt, tq_bk, tq_ct, tq_er, asV_ok, asB_ok, asI_ok, asK_int, asK_str, asP_ok, asP3_ok, asM_ok, asS_tup, asS_fz, asE_tup, asE_fz, add_ok, sub_ok, eq_ok, ne_ok, lt_ok, le_ok, gt_ok, ge_ok, neg_ok, isn_ok, notn_ok, int_ok, bind_ok, List.map_cons, List.map_nil, List.replicate, List.cons_append, List.nil_append, List.getElem?_cons_zero, List.getElem?_cons_succ, List.set_cons_zero, List.set_cons_succ, if_true, if_false, Bool.not_true, Bool.not_false, gc_same, Bool.false_eq_true, decide_true, decide_false, tName, tTup, tsCons, tsNil, List.length_cons, List.length_nil, ite_true, ite_false, reduceIte, reduceCtorEq, Nat.zero_add, Nat.reduceAdd, Nat.reduceEqDiff, Nat.reduceLeDiff, isNon, Int.zero_add, and_self, eq_self, ix0, ix1, ix2, ix3, ix4, ix5, isi_int, isi_nbl, isi_tup, isi_str, eqs_ok, nes_ok, len_tup, List.isEmpty_cons, len_lst rowl', List.length_map, z4]
        have h4 := h3.app [.lst [], .lst [.int 1, .int 1, .int 3, .int 50]]
        have h4' : St (k + 2) ((P ++ (objs b w.tick ++ (T ++ [.lst []]))) ++ [.lst [.int 1, .int 1, .int 3, .int 50]]) (M3 ++ [.lst []] ++ [.lst [.int 1, .int 1, .int 3, .int 50]]) := (h3.app [.lst []]).tail.app _
        refine of_d h4' (by rw [(h3.app [.lst []]).tail.len]) (by decide) (by decide) (by omega) (by simp) fun x M5 hx s5 => ?_
        have hx' : ∃ L : Nat, x = .int (L : Nat) ∧ 1 ≤ L := by
          simp only [List.mem_cons, List.not_mem_nil, or_false] at hx
          rcases hx with rfl | rfl | rfl | rfl
          · exact ⟨1, rfl, by omega⟩
          · exact ⟨1, rfl, by omega⟩
          · exact ⟨3, rfl, by omega⟩
          · exact ⟨50, rfl, by omega⟩
        obtain ⟨L, rfl, hL⟩ := hx'
        have h5 : WM (k + 2 + 1) P b w.tick (T ++ [.lst [], .lst [.int 1, .int 1, .int 3, .int 50]]) M5 := ⟨h.1, by
          rw [List.append_assoc, List.append_assoc, List.append_assoc] at s5
          exact s5⟩
        have mp : 0 < min (w.s (1 - s)).length L := by omega
        have ml : min (w.s (1 - s)).length L ≤ (w.s (1 - s)).length := Nat.min_le_left _ _
        have nn := n1 (1 - s) hs2
        simp only [↓wpo, ↓wps, ↓w_var, ↓w_k, ↓w_aNil, ↓w_aCons, ↓w_tup, ↓w_lst, ↓w_2, ↓w_1, ↓w_call, ↓w_if, ↓w_and, ↓w_or, ↓w_not, ↓w_bE, ↓w_bAnd, ↓w_bOr, ↓w_bNot, ↓w_bTrue, ↓w_chain, ↓w_oNone, ↓w_oSome, ↓w_slice, ↓w_kNil, ↓w_kCons, ↓w_dct, ↓w_dct0, ↓w_lst1, ↓w_fs, ↓w_get1, ↓w_get2, ↓ws_pass, ↓ws_break, ↓ws_cont, ↓ws_retN, ↓ws_seq, ↓ws_set, ↓ws_par, ↓ws_par3, ↓ws_expr, ↓ws_ret, ↓ws_if, ↓ws_raise, ↓ws_try, ↓ws_asg, ↓ws_nxo, ↓ws_sub, ↓ws_for, ↓wi_range1, ↓wi_range2, ↓wi_range3, ↓wi_seq, ↓wi_enum, wpo_ok, wpo_err, wpo_bind, ws_nx, ws_rt, ws_bk, ws_ct, ws_er, sq_nx, sq_rt, sq_bk, sq_ct, sq_er, lq_nx, lq_ct, lq_bk, lq_rt, lq_er, fq_nx, fq_rt, fq_er, tq_nx, tq_rt, tq_bk, tq_ct, tq_er, asV_ok, asB_ok, asI_ok, asK_int, asK_str, asP_ok, asP3_ok, asM_ok, asS_tup, asS_fz, asE_tup, asE_fz, add_ok, sub_ok, eq_ok, ne_ok, lt_ok, le_ok, gt_ok, ge_ok, neg_ok, isn_ok, notn_ok, int_ok, bind_ok, List.map_cons, List.map_nil, List.replicate, List.cons_append, List.nil_append, List.getElem?_cons_zero, List.getElem?_cons_succ, List.set_cons_zero, List.set_cons_succ, if_true, if_false, Bool.not_true, Bool.not_false, gc_same, Bool.false_eq_true, decide_true, decide_false, tName, tTup, tsCons, tsNil, List.length_cons, List.length_nil, ite_true, ite_false, reduceIte, reduceCtorEq, Nat.zero_add, Nat.reduceAdd, Nat.reduceEqDiff, Nat.reduceLeDiff, isNon, Int.zero_add, and_self, eq_self, ix0, ix1, ix2, ix3, ix4, ix5, isi_int, isi_nbl, isi_tup, isi_str, eqs_ok, nes_ok, len_tup, min_nat]
        generalize min (w.s (1 - s)).length L = m at mp ml ⊢
        refine draw_w h5.tail mp (Nat.lt_of_le_of_lt (Nat.le_trans ml (by omega : _ ≤ 1000)) (by decide)) (by omega) fun back M6 hb s6 => ?_
        have h6 := h5.of s6
        have row6 := wd_sentl h6 hs2
        have e5 : (((w.s (1 - s)).length : Nat) : Int) - 1 - (back : Nat) = (((w.s (1 - s)).length - 1 - back : Nat) : Int) := by omega
        have hj : (w.s (1 - s)).length - 1 - back < (w.s (1 - s)).length := by omega
        have gx : ((w.s (1 - s)).map dh)[(w.s (1 - s)).length - 1 - back]? = some (dh (w.s (1 - s))[(w.s (1 - s)).length - 1 - back]) := by
          rw [List.getElem?_map, List.getElem?_eq_getElem hj]
          rfl
        simp only [↓wpo, ↓wps, ↓w_var, ↓w_k, ↓w_aNil, ↓w_aCons, ↓w_tup, ↓w_lst, ↓w_2, ↓w_1, ↓w_call, ↓w_if, ↓w_and, ↓w_or, ↓w_not, ↓w_bE, ↓w_bAnd, ↓w_bOr, ↓w_bNot, ↓w_bTrue, ↓w_chain, ↓w_oNone, ↓w_oSome, ↓w_slice, ↓w_kNil, ↓w_kCons, ↓w_dct, ↓w_dct0, ↓w_lst1, ↓w_fs, ↓w_get1, ↓w_get2, ↓ws_pass, ↓ws_break, ↓ws_cont, ↓ws_retN, ↓ws_seq, ↓ws_set, ↓ws_par, ↓ws_par3, ↓ws_expr, ↓ws_ret, ↓ws_if, ↓ws_raise, ↓ws_try, ↓ws_asg, ↓ws_nxo, ↓ws_sub, ↓ws_for, ↓wi_range1, ↓wi_range2, ↓wi_range3, ↓wi_seq, ↓wi_enum, wpo_ok, wpo_err, wpo_bind, ws_nx, ws_rt, ws_bk, ws_ct, ws_er, sq_nx, sq_rt, sq_bk, sq_ct, sq_er, lq_nx, lq_ct, lq_bk, lq_rt, lq_er, fq_nx, fq_rt, fq_er, tq_nx, tq_rt, tq_bk, tq_ct, tq_er, asV_ok, asB_ok, asI_ok, asK_int, asK_str, asP_ok, asP3_ok, asM_ok, asS_tup, asS_fz, asE_tup, asE_fz, add_ok, sub_ok, eq_ok, ne_ok, lt_ok, le_ok, gt_ok, ge_ok, neg_ok, isn_ok, notn_ok, int_ok, bind_ok, List.map_cons, List.map_nil, List.replicate, List.cons_append, List.nil_append, List.getElem?_cons_zero, List.getElem?_cons_succ, List.set_cons_zero, List.set_cons_succ, if_true, if_false, Bool.not_true, Bool.not_false, gc_same, Bool.false_eq_true, decide_true, decide_false, tName, tTup, tsCons, tsNil, List.length_cons, List.length_nil, ite_true, ite_false, reduceIte, reduceCtorEq, Nat.zero_add, Nat.reduceAdd, Nat.reduceEqDiff, Nat.reduceLeDiff, isNon, Int.zero_add, and_self, eq_self, ix0, ix1, ix2, ix3, ix4, ix5, isi_int, isi_nbl, isi_tup, isi_str, eqs_ok, nes_ok, len_tup, len_lst row6, List.length_map]
        have ln : (w.tick.s (1 - s)).length = (w.s (1 - s)).length := rfl
        simp only [↓wpo, ↓wps, ↓w_var, ↓w_k, ↓w_aNil, ↓w_aCons, ↓w_tup, ↓w_lst, ↓w_2, ↓w_1, ↓w_call, ↓w_if, ↓w_and, ↓w_or, ↓w_not, ↓w_bE, ↓w_bAnd, ↓w_bOr, ↓w_bNot, ↓w_bTrue, ↓w_chain, ↓w_oNone, ↓w_oSome, ↓w_slice, ↓w_kNil, ↓w_kCons, ↓w_dct, ↓w_dct0, ↓w_lst1, ↓w_fs, ↓w_get1, ↓w_get2, ↓ws_pass, ↓ws_break, ↓ws_cont, ↓ws_retN, ↓ws_seq, ↓ws_set, ↓ws_par, ↓ws_par3, ↓ws_expr, ↓ws_ret, ↓ws_if, ↓ws_raise, ↓ws_try, ↓ws_asg, ↓ws_nxo, ↓ws_sub, ↓ws_for, ↓wi_range1, ↓wi_range2, ↓wi_range3, ↓wi_seq, ↓wi_enum, wpo_ok, wpo_err, wpo_bind, ws_nx, ws_rt, ws_bk, ws_ct, ws_er, sq_nx, sq_rt, sq_bk, sq_ct, sq_er, lq_nx, lq_ct, lq_bk, lq_rt, lq_er, fq_nx, fq_rt, fq_er, tq_nx, tq_rt, tq_bk, tq_ct, tq_er, asV_ok, asB_ok, asI_ok, asK_int, asK_str, asP_ok, asP3_ok, asM_ok, asS_tup, asS_fz, asE_tup, asE_fz, add_ok, sub_ok, eq_ok, ne_ok, lt_ok, le_ok, gt_ok, ge_ok, neg_ok, isn_ok, notn_ok, int_ok, bind_ok, List.map_cons, List.map_nil, List.replicate, List.cons_append, List.nil_append, List.getElem?_cons_zero, List.getElem?_cons_succ, List.set_cons_zero, List.set_cons_succ, if_true, if_false, Bool.not_true, Bool.not_false, gc_same, Bool.false_eq_true, decide_true, decide_false, tName, tTup, tsCons, tsNil, List.length_cons, List.length_nil, ite_true, ite_false, reduceIte, reduceCtorEq, Nat.zero_add, Nat.reduceAdd, Nat.reduceEqDiff, Nat.reduceLeDiff, isNon, Int.zero_add, and_self, eq_self, ix0, ix1, ix2, ix3, ix4, ix5, isi_int, isi_nbl, isi_tup, isi_str, eqs_ok, nes_ok, len_tup, ln, e5]
        rw [ix_lst row6 gx]
        simp only [↓wpo, ↓wps, ↓w_var, ↓w_k, ↓w_aNil, ↓w_aCons, ↓w_tup, ↓w_lst, ↓w_2, ↓w_1, ↓w_call, ↓w_if, ↓w_and, ↓w_or, ↓w_not, ↓w_bE, ↓w_bAnd, ↓w_bOr, ↓w_bNot, ↓w_bTrue, ↓w_chain, ↓w_oNone, ↓w_oSome, ↓w_slice, ↓w_kNil, ↓w_kCons, ↓w_dct, ↓w_dct0, ↓w_lst1, ↓w_fs, ↓w_get1, ↓w_get2, ↓ws_pass, ↓ws_break, ↓ws_cont, ↓ws_retN, ↓ws_seq, ↓ws_set, ↓ws_par, ↓ws_par3, ↓ws_expr, ↓ws_ret, ↓ws_if, ↓ws_raise, ↓ws_try, ↓ws_asg, ↓ws_nxo, ↓ws_sub, ↓ws_for, ↓wi_range1, ↓wi_range2, ↓wi_range3, ↓wi_seq, ↓wi_enum, wpo_ok, wpo_err, wpo_bind, ws_nx, ws_rt, ws_bk, ws_ct, ws_er, sq_nx, sq_rt, sq_bk, sq_ct, sq_er, lq_nx, lq_ct, lq_bk, lq_rt, lq_er, fq_nx, fq_rt, fq_er, tq_nx, tq_rt, tq_bk, tq_ct, tq_er, asV_ok, asB_ok, asI_ok, asK_int, asK_str, asP_ok, asP3_ok, asM_ok, asS_tup, asS_fz, asE_tup, asE_fz, add_ok, sub_ok, eq_ok, ne_ok, lt_ok, le_ok, gt_ok, ge_ok, neg_ok, isn_ok, notn_ok, int_ok, bind_ok, List.map_cons, List.map_nil, List.replicate, List.cons_append, List.nil_append, List.getElem?_cons_zero, List.getElem?_cons_succ, List.set_cons_zero, List.set_cons_succ, if_true, if_false, Bool.not_true, Bool.not_false, gc_same, Bool.false_eq_true, decide_true, decide_false, tName, tTup, tsCons, tsNil, List.length_cons, List.length_nil, ite_true, ite_false, reduceIte, reduceCtorEq, Nat.zero_add, Nat.reduceAdd, Nat.reduceEqDiff, Nat.reduceLeDiff, isNon, Int.zero_add, and_self, eq_self, ix0, ix1, ix2, ix3, ix4, ix5, isi_int, isi_nbl, isi_tup, isi_str, eqs_ok, nes_ok, len_tup]
        refine hear_w h6 hs1 ht (List.getElem_mem hj) fun M' h' => ?_
        simp only [↓wpo, ↓wps, ↓w_var, ↓w_k, ↓w_aNil, ↓w_aCons, ↓w_tup, ↓w_lst, ↓w_2, ↓w_1, ↓w_call, ↓w_if, ↓w_and, ↓w_or, ↓w_not, ↓w_bE, ↓w_bAnd, ↓w_bOr, ↓w_bNot, ↓w_bTrue, ↓w_chain, ↓w_oNone, ↓w_oSome, ↓w_slice, ↓w_kNil, ↓w_kCons, ↓w_dct, ↓w_dct0, ↓w_lst1, ↓w_fs, ↓w_get1, ↓w_get2, ↓ws_pass, ↓ws_break, ↓ws_cont, ↓ws_retN, ↓ws_seq, ↓ws_set, ↓ws_par, ↓ws_par3, ↓ws_expr, ↓ws_ret, ↓ws_if, ↓ws_raise, ↓ws_try, ↓ws_asg, ↓ws_nxo, ↓ws_sub, ↓ws_for, ↓wi_range1, ↓wi_range2, ↓wi_range3, ↓wi_seq, ↓wi_enum, wpo_ok, wpo_err, wpo_bind, ws_nx, ws_rt, ws_bk, ws_ct, ws_er, sq_nx, sq_rt, sq_bk, sq_ct, sq_er, lq_nx, lq_ct, lq_bk, lq_rt, lq_er, fq_nx, fq_rt, fq_er, tq_nx, tq_rt, tq_bk, tq_ct, tq_er, asV_ok, asB_ok, asI_ok, asK_int, asK_str, asP_ok, asP3_ok, asM_ok, asS_tup, asS_fz, asE_tup, asE_fz, add_ok, sub_ok, eq_ok, ne_ok, lt_ok, le_ok, gt_ok, ge_ok, neg_ok, isn_ok, notn_ok, int_ok, bind_ok, List.map_cons, List.map_nil, List.replicate, List.cons_append, List.nil_append, List.getElem?_cons_zero, List.getElem?_cons_succ, List.set_cons_zero, List.set_cons_succ, if_true, if_false, Bool.not_true, Bool.not_false, gc_same, Bool.false_eq_true, decide_true, decide_false, tName, tTup, tsCons, tsNil, List.length_cons, List.length_nil, ite_true, ite_false, reduceIte, reduceCtorEq, Nat.zero_add, Nat.reduceAdd, Nat.reduceEqDiff, Nat.reduceLeDiff, isNon, Int.zero_add, and_self, eq_self, ix0, ix1, ix2, ix3, ix4, ix5, isi_int, isi_nbl, isi_tup, isi_str, eqs_ok, nes_ok, len_tup]
        exact hK _ _ (.hear s _ hs1 (List.getElem_mem hj)) (h.ret (h'.mono (by omega)) (by simp))
end
end LawT
end PV

set_option Elab.async false
set_option linter.all false
set_option maxRecDepth 10000
set_option pp.maxSteps 700

namespace PV
namespace LawT
open PySem
theorem wnd : ([.inr "links", .inr "sent", .inr "sure", .inr "goings", .inr "clock", .inr "since", .inr "taken"] : List (Sum Int Str)).Nodup := wk_nd
theorem wnd2 : ([.inl 1, .inl 2] : List (Sum Int Str)).Nodup := by decide
def w0 : Wd := ⟨fun s => ⟨s, s + 1, 0, .new⟩, fun _ => [], [], fun _ => [], 0, [(1, 0), (2, 0)], []⟩
theorem w0_ok : Ok w0 := by
  refine ⟨fun s _ => rfl, fun s hs => ⟨hs, ?_, .inl rfl, fun _ => rfl⟩, fun s _ z => (by cases z), fun s hs => ?_, fun s _ x hx => (by cases hx), fun s _ => Nat.le_refl 0, fun s _ => Nat.le_refl 0, Nat.le_refl 0, Nat.le_refl 2, Nat.le_refl 0, Nat.zero_le _⟩
  · show kind (s + 1) s
    exact ⟨by omega, by omega, by omega⟩
  · show s + 1 ≤ 2 * 0 + 2
    omega
section
variable {k : Nat} {P T M : Mem} {b : Nat} {w : Wd} {K : D → Mem → Prop} {E : EK}
theorem begun4_w (h : St k P M) (hK : ∀ M', WM k P (P.length + 4) w0 [] M' → K (.loc (P.length + 4 + 10)) M') : wpo (f__law_four_begun [.loc 2] M) K E := by
  have hl := h.len
  have z4 : 4 ≤ 16777216 := by decide
  have z2 : 2 ≤ 16777216 := by decide
  have z0 : 0 ≤ 16777216 := by decide
  have z7 : 7 ≤ 15 := by decide
  have z215 : 2 ≤ 15 := by decide
  unfold f__law_four_begun
  rw [wp_def (by rfl)]
  simp only [↓wpo, ↓wps, ↓w_var, ↓w_k, ↓w_aNil, ↓w_aCons, ↓w_tup, ↓w_lst, ↓w_2, ↓w_1, ↓w_call, ↓w_if, ↓w_and, ↓w_or, ↓w_not, ↓w_bE, ↓w_bAnd, ↓w_bOr, ↓w_bNot, ↓w_bTrue, ↓w_chain, ↓w_oNone, ↓w_oSome, ↓w_slice, ↓w_kNil, ↓w_kCons, ↓w_dct, ↓w_dct0, ↓w_lst1, ↓w_fs, ↓w_get1, ↓w_get2, ↓ws_pass, ↓ws_break, ↓ws_cont, ↓ws_retN, ↓ws_seq, ↓ws_set, ↓ws_par, ↓ws_par3, ↓ws_expr, ↓ws_ret, ↓ws_if, ↓ws_raise, ↓ws_try, ↓ws_asg, ↓ws_nxo, ↓ws_sub, ↓ws_for, ↓wi_range1, ↓wi_range2, ↓wi_range3, ↓wi_seq, ↓wi_enum, wpo_ok, wpo_err, wpo_bind, ws_nx, ws_rt, ws_bk, ws_ct, ws_er, sq_nx, sq_rt, sq_bk, sq_ct, sq_er, lq_nx, lq_ct, lq_bk, lq_rt, lq_er, fq_nx, fq_rt, fq_er, tq_nx, tq_rt, tq_bk, tq_ct, tq_er, asV_ok, asB_ok, asI_ok, asK_int, asK_str, asP_ok, asP3_ok, asM_ok, asS_tup, asS_fz, asE_tup, asE_fz, add_ok, sub_ok, eq_ok, ne_ok, lt_ok, le_ok, gt_ok, ge_ok, neg_ok, isn_ok, notn_ok, int_ok, bind_ok, List.map_cons, List.map_nil, List.replicate, List.cons_append, List.nil_append, List.getElem?_cons_zero, List.getElem?_cons_succ, List.set_cons_zero, List.set_cons_succ, if_true, if_false, Bool.not_true, Bool.not_false, gc_same, Bool.false_eq_true, decide_true, decide_false, tName, tTup, tsCons, tsNil, List.length_cons, List.length_nil, ite_true, ite_false, reduceIte, reduceCtorEq, Nat.zero_add, Nat.reduceAdd, Nat.reduceEqDiff, Nat.reduceLeDiff, isNon, Int.zero_add, and_self, eq_self, ix0, ix1, ix2, ix3, ix4, ix5, isi_int, isi_nbl, isi_tup, isi_str, eqs_ok, nes_ok, len_tup, z4, z2, z0, wnd, wnd2, z7, z215, List.length_append, List.append_assoc, Nat.add_assoc, hl]
  have nb : belowAll M.length [D.loc (P.length + (4 + 10))] = false := by
    rw [hl]
    simp
  rw [gc_keep nb]
  refine hK _ ⟨rfl, ?_⟩
  exact h.app (objs (P.length + 4) w0)
end
end LawT
end PV

set_option Elab.async false
set_option linter.all false
set_option maxRecDepth 10000
set_option pp.maxSteps 700
namespace PV
namespace LawT
open PySem

structure Gen (w : Wd) : Prop where
  A : ∀ s, s ≤ 1 → ∀ h ∈ w.s s, h.life ≤ (w.l s).mine
  B : ∀ s, s ≤ 1 → ∀ h ∈ w.s s, h.far ≤ (w.l (1 - s)).mine
  B2 : ∀ s, s ≤ 1 → (w.l s).peer ≤ (w.l (1 - s)).mine
  C : ∀ s, s ≤ 1 → ∀ h ∈ w.s s, h.life = (w.l s).mine → h.far ≤ (w.l s).peer
  E : ∀ s, s ≤ 1 → (w.l s).ph = .sure → ∃ h ∈ w.s (1 - s), h.life = (w.l s).peer ∧ h.far = (w.l s).mine
theorem heard_gone {l : Lk} {a b : Nat} (h0 : l.ph ≠ .gone) (h : (heard l a b).ph = .gone) : l.ph = .sure ∧ l.peer < a := by
  unfold heard at h
  split at h
  · exact absurd h h0
  · rename_i h1
    split at h
    · rename_i h2
      exact ⟨h2.1, by omega⟩
    · dsimp only at h
      split at h <;> cases h
theorem heard_alive {l : Lk} {a b : Nat} (h : (heard l a b).ph ≠ .gone) : l.peer ≤ (heard l a b).peer ∧ ((heard l a b).peer = l.peer ∨ (heard l a b).peer = a) ∧ ((heard l a b).ph = .sure → (l.ph = .sure ∧ (heard l a b).peer = l.peer) ∨ ((heard l a b).peer = a ∧ b = l.mine)) := by
  unfold heard at h ⊢
  split at h
  · rename_i h1
    rw [if_pos h1]
    exact ⟨Nat.le_refl _, .inl rfl, fun z => .inl ⟨z, rfl⟩⟩
  · rename_i h1
    rw [if_neg h1]
    split at h
    · exact absurd rfl h
    · rename_i h2
      rw [if_neg h2]
      refine ⟨?_, .inr rfl, fun z => ?_⟩
      · show l.peer ≤ a
        omega
      · dsimp only at z
        split at z
        · rename_i h3
          rcases h3 with h3 | h3
          · refine .inl ⟨h3, ?_⟩
            show a = l.peer
            by_cases e : a = l.peer
            · exact e
            · exact absurd ⟨h3, e⟩ h2
          · exact .inr ⟨rfl, h3⟩
        · cases z
theorem Gen.up {w w' : Wd} (g : Gen w) {s : Nat} (hs : s ≤ 1) (x : Lk) (e1 : w'.s = w.s) (e2 : w'.l = upd1 w.l s x) (h1 : (w.l s).mine ≤ x.mine) (h2 : x.peer ≤ (w.l (1 - s)).mine) (h3 : x.mine = (w.l s).mine → (w.l s).peer ≤ x.peer)
    (h4 : x.ph = .sure → ∃ h ∈ w.s (1 - s), h.life = x.peer ∧ h.far = x.mine) : Gen w' := by
  have ls : w'.l s = x := by rw [e2, upd1_same]
  have lo : ∀ t, t ≤ 1 → t ≠ s → w'.l t = w.l t := fun t _ ht => by rw [e2, upd1_ne _ _ ht]
  have up : ∀ t, t ≤ 1 → (w.l t).mine ≤ (w'.l t).mine := fun t ht => by
    by_cases e : t = s
    · subst e
      rw [ls]
      exact h1
    · rw [lo t ht e]
      exact Nat.le_refl _
  refine ⟨fun t ht h hh => ?_, fun t ht h hh => ?_, fun t ht => ?_, fun t ht h hh => ?_, fun t ht hp => ?_⟩
  · rw [e1] at hh
    exact Nat.le_trans (g.A t ht h hh) (up t ht)
  · rw [e1] at hh
    exact Nat.le_trans (g.B t ht h hh) (up (1 - t) (by omega))
  · by_cases e : t = s
    · subst e
      rw [ls]
      exact Nat.le_trans h2 (up (1 - t) (by omega))
    · rw [lo t ht e]
      exact Nat.le_trans (g.B2 t ht) (up (1 - t) (by omega))
  · rw [e1] at hh
    by_cases e : t = s
    · subst e
      rw [ls]
      intro hl
      have a := g.A t ht h hh
      exact Nat.le_trans (g.C t ht h hh (by omega)) (h3 (by omega))
    · rw [lo t ht e]
      exact g.C t ht h hh
  · rw [e1]
    by_cases e : t = s
    · subst e
      rw [ls] at hp ⊢
      exact h4 hp
    · rw [lo t ht e] at hp ⊢
      exact g.E t ht hp
theorem Gen.deed {c : Bool} {w w' : Wd} (g : Gen w) (ok : Ok w) (d : Deed c w w') : Gen w' := by
  cases d with
  | crash s hs _ => exact g.up (w' := w.tick.crash s) hs ⟨s, (w.l s).mine + 2, 0, .new⟩ rfl rfl (Nat.le_add_right _ _) (Nat.zero_le _) (fun z => absurd z (by show ¬ (w.l s).mine + 2 = _; omega)) (fun z => by cases z)
  | send s n hs =>
    have ms : ∀ t h, h ∈ (w.tick.send s n).s t → h ∈ w.s t ∨ (t = s ∧ h.life = (w.l s).mine ∧ h.far = (w.l s).peer) := by
      intro t h hh
      have hh' : h ∈ upd1 w.s s (w.s s ++ [⟨(w.l s).mine, (w.l s).peer, n && decide ((w.l s).ph = .sure), w.clk + 1, decide (((w.l s).mine, (w.l s).peer) ∈ w.sure)⟩]) t := hh
      by_cases e : t = s
      · subst e
        rw [upd1_same, List.mem_append, List.mem_singleton] at hh'
        rcases hh' with z | rfl
        · exact .inl z
        · exact .inr ⟨rfl, rfl, rfl⟩
      · rw [upd1_ne _ _ e] at hh'
        exact .inl hh'
    have um : ∀ t h, h ∈ w.s t → h ∈ (w.tick.send s n).s t := by
      intro t h hh
      show h ∈ upd1 w.s s _ t
      by_cases e : t = s
      · subst e
        rw [upd1_same]
        exact List.mem_append_left _ hh
      · rw [upd1_ne _ _ e]
        exact hh
    refine ⟨fun t ht h hh => ?_, fun t ht h hh => ?_, g.B2, fun t ht h hh hl => ?_, fun t ht hp => ?_⟩
    · show h.life ≤ (w.l t).mine
      rcases ms t h hh with z | ⟨rfl, z, _⟩
      · exact g.A t ht h z
      · omega
    · show h.far ≤ (w.l (1 - t)).mine
      rcases ms t h hh with z | ⟨rfl, _, z⟩
      · exact g.B t ht h z
      · rw [z]
        exact g.B2 t ht
    · show h.far ≤ (w.l t).peer
      rcases ms t h hh with z | ⟨rfl, _, z⟩
      · exact g.C t ht h z hl
      · omega
    · obtain ⟨h, h1, h2⟩ := g.E t ht hp
      exact ⟨h, um _ _ h1, h2⟩
  | hear s h hs hh =>
    have a := g.A (1 - s) (by omega) h hh
    unfold Wd.hear
    split
    · exact g.up (w' := Wd.put _ s _) hs ⟨s, (w.l s).mine + 2, h.life, .new⟩ rfl rfl (Nat.le_add_right _ _) a (fun z => absurd z (by show ¬ (w.l s).mine + 2 = _; omega)) (fun z => by cases z)
    · rename_i hg
      obtain ⟨h1, h2, h3⟩ := heard_alive (l := w.l s) hg
      have hm := heard_side (w.l s) h.life h.far
      refine g.up (w' := Wd.put _ s _) hs (heard (w.l s) h.life h.far) ?_ ?_ (by rw [hm.2]; exact Nat.le_refl _) ?_ (fun _ => h1) (fun z => ?_)
      · unfold Wd.put
        split <;> rfl
      · unfold Wd.put
        split <;> rfl
      · rcases h2 with z | z
        · rw [z]
          exact g.B2 s hs
        · rw [z]
          exact a
      · rw [hm.2]
        rcases h3 z with ⟨q1, q2⟩ | ⟨q1, q2⟩
        · obtain ⟨h', p1, p2, p3⟩ := g.E s hs q1
          exact ⟨h', p1, by rw [q2]; exact p2, p3⟩
        · exact ⟨h, hh, q1.symm, q2⟩
theorem w0_gen : Gen w0 := ⟨fun s _ h hh => (by cases hh), fun s _ h hh => (by cases hh), fun s _ => Nat.zero_le _, fun s _ h hh => (by cases hh), fun s _ z => (by cases z)⟩

structure Hs (w : Wd) : Prop where
  p1 : ∀ s, s ≤ 1 → (w.l s).peer = 0 ∨ ∃ h ∈ w.s (1 - s), h.life = (w.l s).peer
  f1 : ∀ s, s ≤ 1 → ∀ h ∈ w.s s, h.far = 0 ∨ ∃ h' ∈ w.s (1 - s), h'.life = h.far
  k1 : ∀ s, s ≤ 1 → (w.l s).mine ∈ w.since.map (·.1)
  k2 : ∀ s, s ≤ 1 → ∀ h ∈ w.s s, h.life ∈ w.since.map (·.1)
  k4 : ∀ p ∈ w.since, p.2 ≤ w.clk
  k3 : ∀ s, s ≤ 1 → ∀ h ∈ w.s s, ∀ p ∈ w.since, p.1 = h.far → p.2 ≤ h.clk
  s2 : ∀ p ∈ w.sure, ∀ t, t ≤ 1 → ∀ h ∈ w.s t, h.life = p.1 → h.far ≤ p.2
  s3 : ∀ p ∈ w.sure, ∀ t, t ≤ 1 → (w.l t).mine = p.1 → (w.l t).ph = .sure ∧ (w.l t).peer = p.2
  s4 : ∀ p ∈ w.sure, ∃ t, t ≤ 1 ∧ kind p.1 t ∧ p.1 ≤ (w.l t).mine
  s5 : ∀ p ∈ w.sure, ∃ t, t ≤ 1 ∧ ∃ h ∈ w.s t, h.life = p.2 ∧ h.far = p.1
  s6 : ∀ s, s ≤ 1 → (w.l s).ph = .sure → ((w.l s).mine, (w.l s).peer) ∈ w.sure
  nd : (w.sure.map (·.1)).Nodup
  t0 : ∀ q ∈ w.taken, ∃ t, t ≤ 1 ∧ q.2 ∈ w.s t ∧ q.2.far = q.1
  t3 : ∀ s, s ≤ 1 → ∀ h ∈ w.s s, h.num = true → h.sr = true
  t4 : ∀ s, s ≤ 1 → ∀ h ∈ w.s s, h.sr = true → (h.life, h.far) ∈ w.sure
theorem kind_side {v s t : Nat} (h : kind v s) (h' : kind v t) (hs : s ≤ 1) (ht : t ≤ 1) : s = t := by
  obtain ⟨_, _, a⟩ := h
  obtain ⟨_, _, b⟩ := h'
  omega
theorem Hs.put {w w1 : Wd} (H : Hs w) (g : Gen w) (ok : Ok w) {s : Nat} (hs : s ≤ 1) (x : Lk) (e1 : w1.s = w.s) (e2 : w1.l = w.l) (e3 : w1.sure = w.sure) (e4 : w1.since = w.since) (e5 : w1.clk = w.clk + 1)
    (e6 : ∀ q ∈ w1.taken, ∃ t, t ≤ 1 ∧ q.2 ∈ w.s t ∧ q.2.far = q.1) (hx : kind x.mine s)
    (h1 : (x.mine = (w.l s).mine ∧ ((w.l s).ph = .sure → x.ph = .sure ∧ x.peer = (w.l s).peer)) ∨ (x.mine = (w.l s).mine + 2 ∧ x.ph = .new)) (h2 : x.peer = 0 ∨ ∃ h ∈ w.s (1 - s), h.life = x.peer)
    (h3 : x.ph = .sure → ∃ h ∈ w.s (1 - s), h.life = x.peer ∧ h.far = x.mine) (h4 : x.ph = .sure → ∀ h ∈ w.s s, h.life = x.mine → h.far ≤ x.peer) : Hs (w1.put s x) := by
  have ls : (w1.put s x).l s = x := by
    show upd1 w1.l s x s = x
    exact upd1_same _ _ _
  have lo : ∀ t, t ≠ s → (w1.put s x).l t = w.l t := fun t ht => by
    show upd1 w1.l s x t = _
    rw [upd1_ne _ _ ht, e2]
  have es : (w1.put s x).s = w.s := e1
  have eu : (w1.put s x).sure = if x.ph = .sure ∧ (x.mine, x.peer) ∉ w.sure then w.sure ++ [(x.mine, x.peer)] else w.sure := by
    show (if x.ph = .sure ∧ (x.mine, x.peer) ∉ w1.sure then w1.sure ++ [(x.mine, x.peer)] else w1.sure) = _
    rw [e3]
  have en : (w1.put s x).since = if x.mine ∈ w.since.map (·.1) then w.since else w.since ++ [(x.mine, w.clk + 1)] := by
    show (if x.mine ∈ w1.since.map (·.1) then w1.since else w1.since ++ [(x.mine, w1.clk)]) = _
    rw [e4, e5]
  have ec : (w1.put s x).clk = w.clk + 1 := e5
  have et : (w1.put s x).taken = w1.taken := rfl
  have keysU : ∀ v, v ∈ w.since.map (·.1) → v ∈ (w1.put s x).since.map (·.1) := fun v hv => by
    rw [en]
    split
    · exact hv
    · rw [List.map_append]
      exact List.mem_append_left _ hv
  have sureU : ∀ p, p ∈ w.sure → p ∈ (w1.put s x).sure := fun p hp => by
    rw [eu]
    split
    · exact List.mem_append_left _ hp
    · exact hp
  have sureD : ∀ p, p ∈ (w1.put s x).sure → p ∈ w.sure ∨ (x.ph = .sure ∧ p = (x.mine, x.peer)) := fun p hp => by
    rw [eu] at hp
    split at hp
    · rename_i hc
      rcases List.mem_append.mp hp with q | q
      · exact .inl q
      · exact .inr ⟨hc.1, List.mem_singleton.mp q⟩
    · exact .inl hp
  have old3 : ∀ p ∈ w.sure, x.mine = p.1 → x.ph = .sure ∧ x.peer = p.2 := fun p hp e => by
    rcases h1 with ⟨q1, q2⟩ | ⟨q1, _⟩
    · obtain ⟨a, b⟩ := H.s3 p hp s hs (by omega)
      obtain ⟨c, d⟩ := q2 a
      exact ⟨c, by omega⟩
    · exfalso
      obtain ⟨t, ht, kt, le⟩ := H.s4 p hp
      have := kind_side (e ▸ hx) kt hs ht
      subst this
      omega
  have upm : ∀ t, t ≤ 1 → (w.l t).mine ≤ ((w1.put s x).l t).mine := fun t ht => by
    by_cases e : t = s
    · subst e
      rw [ls]
      rcases h1 with ⟨q, _⟩ | ⟨q, _⟩ <;> omega
    · rw [lo t e]
      exact Nat.le_refl _
  refine ⟨fun t ht => ?_, fun t ht h hh => ?_, fun t ht => ?_, fun t ht h hh => ?_, fun p hp => ?_, fun t ht h hh p hp e => ?_, fun p hp t ht h hh e => ?_, fun p hp t ht e => ?_, fun p hp => ?_, fun p hp => ?_, fun t ht hp => ?_, ?_, fun q hq => ?_, fun t ht h hh => ?_, fun t ht h hh hr => ?_⟩
  · rw [es]
    by_cases e : t = s
    · subst e
      rw [ls]
      exact h2
    · rw [lo t e]
      exact H.p1 t ht
  · rw [es] at hh ⊢
    exact H.f1 t ht h hh
  · by_cases e : t = s
    · subst e
      rw [ls, en]
      split
      · rename_i hm
        exact hm
      · rw [List.map_append]
        exact List.mem_append_right _ (by simp)
    · rw [lo t e]
      exact keysU _ (H.k1 t ht)
  · rw [es] at hh
    exact keysU _ (H.k2 t ht h hh)
  · rw [ec]
    rw [en] at hp
    split at hp
    · have := H.k4 p hp
      omega
    · rcases List.mem_append.mp hp with q | q
      · have := H.k4 p q
        omega
      · rw [List.mem_singleton.mp q]
        exact Nat.le_refl _
  · rw [es] at hh
    rw [en] at hp
    split at hp
    · exact H.k3 t ht h hh p hp e
    · rename_i hm
      rcases List.mem_append.mp hp with q | q
      · exact H.k3 t ht h hh p q e
      · exfalso
        rw [List.mem_singleton.mp q] at e
        have e : x.mine = h.far := e
        rcases H.f1 t ht h hh with z | ⟨h', a, b⟩
        · have := hx.1
          omega
        · exact hm (by rw [e, ← b]; exact H.k2 (1 - t) (by omega) h' a)
  · rw [es] at hh
    rcases sureD p hp with q | ⟨q1, q2⟩
    · exact H.s2 p q t ht h hh e
    · subst q2
      have e : h.life = x.mine := e
      have hk := (ok.h t ht h hh).1
      have := kind_side (e ▸ hk) hx ht hs
      subst this
      exact h4 q1 h hh e
  · rcases sureD p hp with q | ⟨q1, q2⟩
    · by_cases e' : t = s
      · subst e'
        rw [ls] at e ⊢
        exact old3 p q e
      · rw [lo t e'] at e ⊢
        exact H.s3 p q t ht e
    · subst q2
      by_cases e' : t = s
      · subst e'
        rw [ls]
        exact ⟨q1, rfl⟩
      · exfalso
        rw [lo t e'] at e
        have e : (w.l t).mine = x.mine := e
        have hk := (ok.l t ht).m
        rw [ok.side t ht] at hk
        exact e' (kind_side (e ▸ hk) hx ht hs)
  · rcases sureD p hp with q | ⟨q1, q2⟩
    · obtain ⟨t, ht, a, b⟩ := H.s4 p q
      exact ⟨t, ht, a, Nat.le_trans b (upm t ht)⟩
    · subst q2
      exact ⟨s, hs, hx, by rw [ls]; exact Nat.le_refl _⟩
  · rw [es]
    rcases sureD p hp with q | ⟨q1, q2⟩
    · exact H.s5 p q
    · subst q2
      obtain ⟨h, a, b⟩ := h3 q1
      exact ⟨1 - s, by omega, h, a, b⟩
  · by_cases e : t = s
    · subst e
      rw [ls] at hp ⊢
      rw [eu]
      split
      · exact List.mem_append_right _ (by simp)
      · rename_i hc
        by_cases z : (x.mine, x.peer) ∈ w.sure
        · exact z
        · exact absurd ⟨hp, z⟩ hc
    · rw [lo t e] at hp ⊢
      exact sureU _ (H.s6 t ht hp)
  · rw [eu]
    split
    · rename_i hc
      rw [List.map_append, List.nodup_append]
      refine ⟨H.nd, by simp, fun a ha b hb => ?_⟩
      simp only [List.map_cons, List.map_nil, List.mem_singleton] at hb
      subst hb
      intro e
      obtain ⟨p, hp, e'⟩ := List.mem_map.mp ha
      obtain ⟨_, z⟩ := old3 p hp (by rw [e', e])
      apply hc.2
      have : p = (x.mine, x.peer) := by
        obtain ⟨p1, p2⟩ := p
        simp only at e' z
        rw [e', e, z]
      rw [← this]
      exact hp
    · exact H.nd
  · rw [et] at hq
    rw [es]
    exact e6 q hq
  · rw [es] at hh
    exact H.t3 t ht h hh
  · rw [es] at hh
    exact sureU _ (H.t4 t ht h hh hr)
theorem Hs.deed {c : Bool} {w w' : Wd} (H : Hs w) (g : Gen w) (ok : Ok w) (d : Deed c w w') (hc : w.clk + 1 ≤ 1000) : Hs w' := by
  have up2 : ∀ s, s ≤ 1 → kind ((w.l s).mine + 2) s := fun s hs => by
    have := (ok.l s hs).m
    rw [ok.side s hs] at this
    exact kind_up this (by have := ok.m s hs; omega)
  cases d with
  | crash s hs _ => exact H.put (w1 := w.tick) g ok hs ⟨s, (w.l s).mine + 2, 0, .new⟩ rfl rfl rfl rfl rfl H.t0 (up2 s hs) (.inr ⟨rfl, rfl⟩) (.inl rfl) (fun z => by cases z) (fun z => by cases z)
  | send s n hs =>
    generalize hN : (⟨(w.l s).mine, (w.l s).peer, n && decide ((w.l s).ph = .sure), w.clk + 1, decide (((w.l s).mine, (w.l s).peer) ∈ w.sure)⟩ : Hd) = N
    have es : (w.tick.send s n).s = upd1 w.s s (w.s s ++ [N]) := by rw [← hN]; rfl
    have ms : ∀ t h, h ∈ (w.tick.send s n).s t → h ∈ w.s t ∨ (t = s ∧ h = N) := by
      intro t h hh
      rw [es] at hh
      by_cases e : t = s
      · subst e
        rw [upd1_same, List.mem_append, List.mem_singleton] at hh
        rcases hh with z | rfl
        · exact .inl z
        · exact .inr ⟨rfl, rfl⟩
      · rw [upd1_ne _ _ e] at hh
        exact .inl hh
    have um : ∀ t h, h ∈ w.s t → h ∈ (w.tick.send s n).s t := by
      intro t h hh
      rw [es]
      by_cases e : t = s
      · subst e
        rw [upd1_same]
        exact List.mem_append_left _ hh
      · rw [upd1_ne _ _ e]
        exact hh
    have N1 : N.life = (w.l s).mine := by rw [← hN]
    have N2 : N.far = (w.l s).peer := by rw [← hN]
    have N3 : N.clk = w.clk + 1 := by rw [← hN]
    have N4 : N.num = (n && decide ((w.l s).ph = .sure)) := by rw [← hN]
    have N5 : N.sr = decide (((w.l s).mine, (w.l s).peer) ∈ w.sure) := by rw [← hN]
    have up : ∀ {v : Nat} {t : Nat}, (v = 0 ∨ ∃ h ∈ w.s t, h.life = v) → v = 0 ∨ ∃ h ∈ (w.tick.send s n).s t, h.life = v := fun {v t} z => z.elim .inl fun ⟨h, a, b⟩ => .inr ⟨h, um _ _ a, b⟩
    refine ⟨fun t ht => up (H.p1 t ht), fun t ht h hh => ?_, H.k1, fun t ht h hh => ?_, fun p hp => ?_, fun t ht h hh p hp e => ?_, fun p hp t ht h hh e => ?_, H.s3, H.s4, fun p hp => ?_, H.s6, H.nd, fun q hq => ?_, fun t ht h hh hn => ?_, fun t ht h hh hr => ?_⟩
    · rcases ms t h hh with z | ⟨rfl, rfl⟩
      · exact up (H.f1 t ht h z)
      · rw [N2]
        exact up (H.p1 t ht)
    · rcases ms t h hh with z | ⟨rfl, rfl⟩
      · exact H.k2 t ht h z
      · rw [N1]
        exact H.k1 t ht
    · have := H.k4 p hp
      show p.2 ≤ w.clk + 1
      omega
    · rcases ms t h hh with z | ⟨rfl, rfl⟩
      · exact H.k3 t ht h z p hp e
      · have := H.k4 p hp
        rw [N3]
        omega
    · rcases ms t h hh with z | ⟨rfl, rfl⟩
      · exact H.s2 p hp t ht h z e
      · obtain ⟨_, b⟩ := H.s3 p hp t ht (by rw [← N1]; exact e)
        rw [N2, b]
        exact Nat.le_refl _
    · obtain ⟨t, ht, h, a, b⟩ := H.s5 p hp
      exact ⟨t, ht, h, um _ _ a, b⟩
    · obtain ⟨t, ht, a, b⟩ := H.t0 q hq
      exact ⟨t, ht, um _ _ a, b⟩
    · rcases ms t h hh with z | ⟨rfl, rfl⟩
      · exact H.t3 t ht h z hn
      · rw [N4] at hn
        rw [N5]
        have hp := (Bool.and_eq_true_iff.mp hn).2
        exact decide_eq_true (H.s6 t ht (of_decide_eq_true hp))
    · rcases ms t h hh with z | ⟨rfl, rfl⟩
      · exact H.t4 t ht h z hr
      · rw [N5] at hr
        rw [N1, N2]
        exact of_decide_eq_true hr
  | hear s h hs hh =>
    have hm := heard_side (w.l s) h.life h.far
    have e0 : ∀ q ∈ w.taken, ∃ t, t ≤ 1 ∧ q.2 ∈ w.s t ∧ q.2.far = q.1 := H.t0
    unfold Wd.hear
    split
    · exact H.put g ok hs ⟨s, (w.l s).mine + 2, h.life, .new⟩ rfl rfl rfl rfl rfl e0 (up2 s hs) (.inr ⟨rfl, rfl⟩) (.inr ⟨h, hh, rfl⟩) (fun z => by cases z) (fun z => by cases z)
    · rename_i hg
      obtain ⟨h1, h2, h3⟩ := heard_alive (l := w.l s) hg
      have keep : (w.l s).ph = .sure → (heard (w.l s) h.life h.far).ph = .sure ∧ (heard (w.l s) h.life h.far).peer = (w.l s).peer := fun hp => by
        have hg' : ¬ (heard (w.l s) h.life h.far).ph = .gone := hg
        unfold heard at hg' ⊢
        split
        · exact ⟨hp, rfl⟩
        · rename_i c1
          rw [if_neg c1] at hg'
          split
          · rename_i c2
            rw [if_pos c2] at hg'
            exact absurd rfl hg'
          · rename_i c2
            refine ⟨by rw [hp]; simp, ?_⟩
            show h.life = (w.l s).peer
            by_cases e : h.life = (w.l s).peer
            · exact e
            · exact absurd ⟨hp, e⟩ c2
      refine H.put g ok hs (heard (w.l s) h.life h.far) ?_ ?_ ?_ ?_ ?_ (fun q hq => ?_) ?_ (.inl ⟨hm.2, keep⟩) ?_ (fun z => ?_) (fun z y hy e => ?_)
      · split <;> rfl
      · split <;> rfl
      · split <;> rfl
      · split <;> rfl
      · split <;> rfl
      · split at hq
        · rename_i hcc
          have hq' : q ∈ w.taken ++ [((heard (w.l s) h.life h.far).mine, h)] := hq
          rcases List.mem_append.mp hq' with z | z
          · exact e0 q z
          · rw [List.mem_singleton.mp z]
            exact ⟨1 - s, by omega, hh, hcc.2.2.symm⟩
        · exact e0 q hq
      · rw [hm.2]
        have := (ok.l s hs).m
        rwa [ok.side s hs] at this
      · rcases h2 with z | z
        · rw [z]
          exact H.p1 s hs
        · exact .inr ⟨h, hh, z.symm⟩
      · rw [hm.2]
        rcases h3 z with ⟨q1, q2⟩ | ⟨q1, q2⟩
        · obtain ⟨h', p1, p2, p3⟩ := g.E s hs q1
          exact ⟨h', p1, by rw [q2]; exact p2, p3⟩
        · exact ⟨h, hh, q1.symm, q2⟩
      · rw [hm.2] at e
        exact Nat.le_trans (g.C s hs y hy e) h1
theorem w0_hs : Hs w0 := ⟨fun s _ => .inl rfl, fun s _ h hh => (by cases hh), fun s hs => (by show s + 1 ∈ [1, 2]; rcases sides hs with rfl | rfl <;> simp), fun s _ h hh => (by cases hh), fun p hp => (by
    have hp : p ∈ [(1, 0), (2, 0)] := hp
    simp only [List.mem_cons, List.not_mem_nil, or_false] at hp
    rcases hp with rfl | rfl <;> exact Nat.le_refl _), fun s _ h hh => (by cases hh), fun p hp => (by cases hp), fun p hp => (by cases hp), fun p hp => (by cases hp), fun p hp => (by cases hp), fun s _ z => (by cases z), List.nodup_nil, fun q hq => (by cases hq), fun s _ h hh => (by cases hh), fun s _ h hh => (by cases hh)⟩
end LawT
end PV

set_option Elab.async false
set_option linter.all false
set_option maxRecDepth 10000
set_option pp.maxSteps 700
set_option pp.maxSteps 200
set_option maxHeartbeats 1000000

namespace PV
namespace LawT
open PySem
theorem Deed.clk {c : Bool} {w w' : Wd} (d : Deed c w w') : w'.clk = w.clk + 1 := by
  cases d with
  | crash s _ _ => rfl
  | send s n _ => rfl
  | hear s h _ _ =>
    unfold Wd.hear Wd.put
    split
    · rfl
    · dsimp only
      split <;> rfl
theorem lcLS_none {S : Mem → Prop} {t : Tg} {c : Xb} {f : Xp} {r : Ev} {M : Mem} (hS : S M) : ∀ xs : List D, (∀ x ∈ xs, ∃ r1, t x r M = .nx r1 M ∧ c r1 M = .ok false M) → lcLS S t c f r xs M = .ok [] M
  | [], _ => by
    unfold lcLS
    rw [if_pos hS]
  | x :: xs, h => by
    obtain ⟨r1, h1, h2⟩ := h x List.mem_cons_self
    unfold lcLS
    rw [if_pos hS]
    simp only [h1, h2]
    rw [if_neg Bool.false_ne_true]
    exact lcLS_none hS xs fun y hy => h y (List.mem_cons_of_mem _ hy)
theorem ixU_lk {M : Mem} {n : Nat} {kvs : List (Sum Int Str × D)} {od : Obj} {kws : List (L2.Key × L2.V)} {d : D} {k : Int} (h : M[n]? = some (.lck kvs od kws)) (hk : kvAt kvs (.inl k) = some d) : oIxU (.loc n) (.int k) M = .ok d M := by
  unfold oIxU isDct oIxD
  simp only [h, if_true, keyOf, hk]
theorem inU_lk {M : Mem} {n : Nat} {kvs : List (Sum Int Str × D)} {od : Obj} {kws : List (L2.Key × L2.V)} {k : Int} (h : M[n]? = some (.lck kvs od kws)) : oInU false (.int k) (.loc n) M = .ok (.bl (kvAt kvs (.inl k)).isSome) M := by
  unfold oInU isDct oInK kvsOf
  simp only [h, if_true, keyOf]
  rfl
def kp (ps : List (Nat × Nat)) : List (Sum Int Str × D) := ps.map fun p => (Sum.inl ((p.1 : Nat) : Int), D.int (p.2 : Nat))
theorem kp_none {ps : List (Nat × Nat)} {v : Nat} (h : v ∉ ps.map (·.1)) : kvAt (kp ps) (.inl ((v : Nat) : Int)) = none := by
  unfold kvAt kp
  rw [List.find?_eq_none.mpr]
  · rfl
  · intro q hq
    obtain ⟨p, hp, rfl⟩ := List.mem_map.mp hq
    simp only [decide_eq_true_eq]
    intro z
    have := Sum.inl.inj z
    exact h (List.mem_map.mpr ⟨p, hp, by omega⟩)
theorem kp_some : ∀ {ps : List (Nat × Nat)} {p : Nat × Nat}, (ps.map (·.1)).Nodup → p ∈ ps → kvAt (kp ps) (.inl ((p.1 : Nat) : Int)) = some (.int (p.2 : Nat))
  | q :: t, p, hn, hp => by
    unfold kvAt kp
    rw [List.map_cons, List.find?_cons]
    rw [List.map_cons] at hn
    obtain ⟨n1, n2⟩ := List.nodup_cons.mp hn
    rcases List.mem_cons.mp hp with e | e
    · subst e
      simp
    · have ne : q.1 ≠ p.1 := fun z => n1 (by rw [z]; exact List.mem_map.mpr ⟨p, e, rfl⟩)
      have d : decide ((Sum.inl ((q.1 : Nat) : Int) : Sum Int Str) = .inl ((p.1 : Nat) : Int)) = false := decide_eq_false fun z => by
        have := Sum.inl.inj z
        omega
      simp only [d]
      exact kp_some n2 e
theorem kp_put {ps : List (Nat × Nat)} {p : Nat × Nat} (h : p.1 ∉ ps.map (·.1)) : kvPut (kp ps) (.inl ((p.1 : Nat) : Int)) (.int (p.2 : Nat)) = kp (ps ++ [p]) := by
  have an : ((kp ps).any fun q => decide (q.1 = .inl ((p.1 : Nat) : Int))) = false := by
    unfold kp
    rw [List.any_map]
    refine List.any_eq_false.mpr fun q hq => ?_
    simp only [Function.comp, decide_eq_true_eq]
    intro z
    have := Sum.inl.inj z
    exact h (List.mem_map.mpr ⟨q, hq, by omega⟩)
  unfold kvPut
  rw [an, if_neg Bool.false_ne_true]
  unfold kp
  rw [List.map_append]
  rfl
theorem getA5 {M X : Mem} {i : Nat} {o : MO} (h : M[i]? = some o) : (M ++ X)[i]? = some o := by
  rw [List.getElem?_append_left (List.getElem?_eq_some_iff.mp h).1]
  exact h
section
variable {k : Nat} {P T M : Mem} {b : Nat} {w : Wd}
theorem pairs_right (h : WM k P b w T M) (ok : Ok w) (H : Hs w) : f__law_pairs_right [.loc (b + 10)] M = .ok (.bl true) M := by
  have sl : M[b + 4]? = some (.lst (w.sure.map dp)) := h.get 4 rfl
  have n3 := ok.n3
  have cc := ok.c
  refine wpo_eq ?_
  unfold f__law_pairs_right
  rw [wp_def (by rfl)]
  simp only [List.map_cons, List.map_nil, List.replicate, List.cons_append, List.nil_append]
  rw [ws_seq]
  generalize hQ1 : sq _ _ = Q1
  simp only [↓wpo, ↓wps, ↓w_var, ↓w_k, ↓w_aNil, ↓w_aCons, ↓w_tupN0, ↓w_tupN1, ↓w_tupN2, ↓w_tupN3, ↓w_tupN4, ↓w_tupN5, ↓w_tupN6, ↓w_tupN7, ↓w_tupN8, ↓w_lstN0, ↓w_lstN1, ↓w_lstN2, ↓w_lstN3, ↓w_lstN4, ↓w_lstN5, ↓w_lstN6, ↓w_lstN7, ↓w_lstN8, ↓w_2, ↓w_1, ↓w_call, ↓w_if, ↓w_and, ↓w_or, ↓w_not, ↓w_bE, ↓w_bAnd, ↓w_bOr, ↓w_bNot, ↓w_bTrue, ↓w_chain, ↓w_oNone, ↓w_oSome, ↓w_slice, ↓w_kNil, ↓w_kCons, ↓w_dct, ↓w_dct0, ↓w_lst1, ↓w_fs, ↓w_get1, ↓w_get2, ↓ws_pass, ↓ws_break, ↓ws_cont, ↓ws_retN, ↓ws_seq, ↓ws_set, ↓ws_par, ↓ws_par3, ↓ws_expr, ↓ws_ret, ↓ws_if, ↓ws_raise, ↓ws_try, ↓ws_ag2, ↓ws_ag3, ↓ws_ag4, ↓ws_ag5, ↓ws_ag6, ↓ws_ag7, ↓ws_ag8, ↓ws_agS, ↓ws_augS, ↓ws_aug, ↓w_popN, ↓ws_nxo, ↓ws_sub, ↓ws_for, ↓wi_range1, ↓wi_range2, ↓wi_range3, ↓wi_seq, ↓wi_enum, wpo_ok, wpo_err, wpo_bind, ws_nx, ws_rt, ws_bk, ws_ct, ws_er, sq_nx, sq_rt, sq_bk, sq_ct, sq_er, lq_nx, lq_ct, lq_bk, lq_rt, lq_er, fq_nx, fq_rt, fq_er, tq_nx, tq_rt, tq_bk, tq_ct, tq_er, asV_ok, asB_ok, asI_ok, asK_int, asK_str, asP_ok, asP3_ok, asM_ok, asS_tup, asS_fz, asE_tup, asE_fz, add_ok, sub_ok, eq_ok, ne_ok, lt_ok, le_ok, gt_ok, ge_ok, neg_ok, isn_ok, notn_ok, int_ok, bind_ok, List.map_cons, List.map_nil, List.replicate, List.cons_append, List.nil_append, List.getElem?_cons_zero, List.getElem?_cons_succ, List.set_cons_zero, List.set_cons_succ, if_true, if_false, Bool.not_true, Bool.not_false, gc_same, Bool.false_eq_true, decide_true, decide_false, tName, tTup, tsCons, tsNil, List.length_cons, List.length_nil, ite_true, ite_false, reduceIte, reduceCtorEq, Nat.zero_add, Nat.reduceAdd, Nat.reduceEqDiff, Nat.reduceLeDiff, isNon, Int.zero_add, and_self, eq_self, ix0, ix1, ix2, ix3, ix4, ix5, isi_int, isi_nbl, isi_tup, isi_str, eqs_ok, nes_ok, len_tup, ag2_ok, ag3_ok, ag4_ok, ag5_ok, ag6_ok, ag7_ok, ag8_ok, asN_ok, addI_ok]
  rw [← hQ1, sq_nx, ws_seq]
  generalize hQ2 : sq _ _ = Q2
  have h1 := h.app [.dct []]
  have sl1 : (M ++ [MO.dct []])[b + 4]? = some (.lst (w.sure.map dp)) := h1.get 4 rfl
  simp only [↓wpo, ↓wps, ↓w_var, ↓w_k, ↓w_aNil, ↓w_aCons, ↓w_tupN0, ↓w_tupN1, ↓w_tupN2, ↓w_tupN3, ↓w_tupN4, ↓w_tupN5, ↓w_tupN6, ↓w_tupN7, ↓w_tupN8, ↓w_lstN0, ↓w_lstN1, ↓w_lstN2, ↓w_lstN3, ↓w_lstN4, ↓w_lstN5, ↓w_lstN6, ↓w_lstN7, ↓w_lstN8, ↓w_2, ↓w_1, ↓w_call, ↓w_if, ↓w_and, ↓w_or, ↓w_not, ↓w_bE, ↓w_bAnd, ↓w_bOr, ↓w_bNot, ↓w_bTrue, ↓w_chain, ↓w_oNone, ↓w_oSome, ↓w_slice, ↓w_kNil, ↓w_kCons, ↓w_dct, ↓w_dct0, ↓w_lst1, ↓w_fs, ↓w_get1, ↓w_get2, ↓ws_pass, ↓ws_break, ↓ws_cont, ↓ws_retN, ↓ws_seq, ↓ws_set, ↓ws_par, ↓ws_par3, ↓ws_expr, ↓ws_ret, ↓ws_if, ↓ws_raise, ↓ws_try, ↓ws_ag2, ↓ws_ag3, ↓ws_ag4, ↓ws_ag5, ↓ws_ag6, ↓ws_ag7, ↓ws_ag8, ↓ws_agS, ↓ws_augS, ↓ws_aug, ↓w_popN, ↓ws_nxo, ↓ws_sub, ↓ws_for, ↓wi_range1, ↓wi_range2, ↓wi_range3, ↓wi_seq, ↓wi_enum, wpo_ok, wpo_err, wpo_bind, ws_nx, ws_rt, ws_bk, ws_ct, ws_er, sq_nx, sq_rt, sq_bk, sq_ct, sq_er, lq_nx, lq_ct, lq_bk, lq_rt, lq_er, fq_nx, fq_rt, fq_er, tq_nx, tq_rt, tq_bk, tq_ct, tq_er, asV_ok, asB_ok, asI_ok, asK_int, asK_str, asP_ok, asP3_ok, asM_ok, asS_tup, asS_fz, asE_tup, asE_fz, add_ok, sub_ok, eq_ok, ne_ok, lt_ok, le_ok, gt_ok, ge_ok, neg_ok, isn_ok, notn_ok, int_ok, bind_ok, List.map_cons, List.map_nil, List.replicate, List.cons_append, List.nil_append, List.getElem?_cons_zero, List.getElem?_cons_succ, List.set_cons_zero, List.set_cons_succ, if_true, if_false, Bool.not_true, Bool.not_false, gc_same, Bool.false_eq_true, decide_true, decide_false, tName, tTup, tsCons, tsNil, List.length_cons, List.length_nil, ite_true, ite_false, reduceIte, reduceCtorEq, Nat.zero_add, Nat.reduceAdd, Nat.reduceEqDiff, Nat.reduceLeDiff, isNon, Int.zero_add, and_self, eq_self, ix0, ix1, ix2, ix3, ix4, ix5, isi_int, isi_nbl, isi_tup, isi_str, eqs_ok, nes_ok, len_tup, ag2_ok, ag3_ok, ag4_ok, ag5_ok, ag6_ok, ag7_ok, ag8_ok, asN_ok, addI_ok, wd_sure h1, asS_lst sl1]
  refine for_inv (fun i r N => ∃ a2 a3, r = [some (.loc (b + 10)), some (.loc M.length), a2, a3] ∧ N = M ++ [.dct (kp (w.sure.take i))]) _ 0 ⟨_, _, rfl, rfl⟩ ?_ ?_ ?_
  · rintro i r N ⟨a2, a3, rfl, rfl⟩
    exact (h.app [.dct (kp (w.sure.take i))]).get 4 rfl
  · rintro i x r N hx ⟨a2, a3, rfl, rfl⟩
    rw [Nat.zero_add]
    have hi := (List.getElem?_eq_some_iff.mp hx).1
    rw [List.length_map] at hi
    rw [List.getElem?_map, List.getElem?_eq_getElem hi] at hx
    have hx : dp w.sure[i] = x := by simpa using hx
    subst hx
    have tk : w.sure.take (i + 1) = w.sure.take i ++ [w.sure[i]] := by rw [List.take_succ, List.getElem?_eq_getElem hi]; rfl
    have nd := H.nd
    have nin : w.sure[i].1 ∉ (w.sure.take i).map (·.1) := by
      intro z
      have e1 : w.sure = w.sure.take i ++ w.sure[i] :: w.sure.drop (i + 1) := by
        rw [← List.drop_eq_getElem_cons hi, List.take_append_drop]
      rw [e1, List.map_append, List.map_cons] at nd
      have := (List.nodup_append.mp nd).2.2 _ z w.sure[i].1 (by simp)
      exact this rfl
    rw [tk]
    have ln : (w.sure.take i).length ≤ w.sure.length := by
      rw [List.length_take]
      omega
    generalize w.sure.take i = done at nin ln ⊢
    generalize w.sure[i] = p at nin ⊢
    have gd := get_last M (MO.dct (kp done))
    have sp := setU_kv (k := ((p.1 : Nat) : Int)) (v := .int (p.2 : Nat)) gd (by unfold kp; rw [List.length_map]; omega)
    rw [kp_put nin, set_last] at sp
    have tg : ∀ (r : Ev) N, tTup 2 (tsCons (tName 2) (tsCons (tName 3) tsNil)) (dp p) r N = .nx ((r.set 2 (some (.int (p.1 : Nat)))).set 3 (some (.int (p.2 : Nat)))) N := fun _ _ => rfl
    rw [tg, ws_nx]
    simp only [List.set_cons_succ, List.set_cons_zero]
    simp only [↓wpo, ↓wps, ↓w_var, ↓w_k, ↓w_aNil, ↓w_aCons, ↓w_tupN0, ↓w_tupN1, ↓w_tupN2, ↓w_tupN3, ↓w_tupN4, ↓w_tupN5, ↓w_tupN6, ↓w_tupN7, ↓w_tupN8, ↓w_lstN0, ↓w_lstN1, ↓w_lstN2, ↓w_lstN3, ↓w_lstN4, ↓w_lstN5, ↓w_lstN6, ↓w_lstN7, ↓w_lstN8, ↓w_2, ↓w_1, ↓w_call, ↓w_if, ↓w_and, ↓w_or, ↓w_not, ↓w_bE, ↓w_bAnd, ↓w_bOr, ↓w_bNot, ↓w_bTrue, ↓w_chain, ↓w_oNone, ↓w_oSome, ↓w_slice, ↓w_kNil, ↓w_kCons, ↓w_dct, ↓w_dct0, ↓w_lst1, ↓w_fs, ↓w_get1, ↓w_get2, ↓ws_pass, ↓ws_break, ↓ws_cont, ↓ws_retN, ↓ws_seq, ↓ws_set, ↓ws_par, ↓ws_par3, ↓ws_expr, ↓ws_ret, ↓ws_if, ↓ws_raise, ↓ws_try, ↓ws_ag2, ↓ws_ag3, ↓ws_ag4, ↓ws_ag5, ↓ws_ag6, ↓ws_ag7, ↓ws_ag8, ↓ws_agS, ↓ws_augS, ↓ws_aug, ↓w_popN, ↓ws_nxo, ↓ws_sub, ↓ws_for, ↓wi_range1, ↓wi_range2, ↓wi_range3, ↓wi_seq, ↓wi_enum, wpo_ok, wpo_err, wpo_bind, ws_nx, ws_rt, ws_bk, ws_ct, ws_er, sq_nx, sq_rt, sq_bk, sq_ct, sq_er, lq_nx, lq_ct, lq_bk, lq_rt, lq_er, fq_nx, fq_rt, fq_er, tq_nx, tq_rt, tq_bk, tq_ct, tq_er, asV_ok, asB_ok, asI_ok, asK_int, asK_str, asP_ok, asP3_ok, asM_ok, asS_tup, asS_fz, asE_tup, asE_fz, add_ok, sub_ok, eq_ok, ne_ok, lt_ok, le_ok, gt_ok, ge_ok, neg_ok, isn_ok, notn_ok, int_ok, bind_ok, List.map_cons, List.map_nil, List.replicate, List.cons_append, List.nil_append, List.getElem?_cons_zero, List.getElem?_cons_succ, List.set_cons_zero, List.set_cons_succ, if_true, if_false, Bool.not_true, Bool.not_false, gc_same, Bool.false_eq_true, decide_true, decide_false, tName, tTup, tsCons, tsNil, List.length_cons, List.length_nil, ite_true, ite_false, reduceIte, reduceCtorEq, Nat.zero_add, Nat.reduceAdd, Nat.reduceEqDiff, Nat.reduceLeDiff, isNon, Int.zero_add, and_self, eq_self, ix0, ix1, ix2, ix3, ix4, ix5, isi_int, isi_nbl, isi_tup, isi_str, eqs_ok, nes_ok, len_tup, ag2_ok, ag3_ok, ag4_ok, ag5_ok, ag6_ok, ag7_ok, ag8_ok, asN_ok, addI_ok, sp]
    exact ⟨_, _, rfl, trivial⟩
  · rintro r N ⟨a2, a3, rfl, rfl⟩
    rw [Nat.zero_add, List.length_map, List.take_length]
    rw [← hQ2, sq_nx]
    have gd := get_last M (MO.dct (kp w.sure))
    have hn : M.length < (M ++ [MO.dct (kp w.sure)]).length := by rw [List.length_append, List.length_singleton]; omega
    have lk : LcK (xVar 1) (tName 2) (bAnd (bE (x2 (oInU false) (x2 oIxU (xVar 1) (xVar 2)) (xVar 1))) (bE (x2 oLt (x2 oIxU (xVar 1) (x2 oIxU (xVar 1) (xVar 2))) (xVar 2)))) (xVar 2) [2] [some (.loc (b + 10)), some (.loc M.length), a2, a3] (M ++ [MO.dct (kp w.sure)]) M.length (kp w.sure) [] (M ++ [MO.dct (kp w.sure)]) := by
      refine ⟨gd, Nat.zero_le _, fun od kws => ⟨rfl, ?_⟩⟩
      have gl : ((M ++ [MO.dct (kp w.sure)]).set M.length (.lck (kp w.sure) od kws))[M.length]? = some (.lck (kp w.sure) od kws) := List.getElem?_set_self hn
      generalize (M ++ [MO.dct (kp w.sure)]).set M.length (.lck (kp w.sure) od kws) = N at gl ⊢
      refine lcLS_none gl _ fun x hx => ?_
      obtain ⟨p, hp, rfl⟩ : ∃ p ∈ w.sure, x = .int (p.1 : Nat) := by
        unfold keysD kp at hx
        rw [List.map_map] at hx
        obtain ⟨p, hp, rfl⟩ := List.mem_map.mp hx
        exact ⟨p, hp, rfl⟩
      refine ⟨[some (.loc (b + 10)), some (.loc M.length), some (.int (p.1 : Nat)), a3], rfl, ?_⟩
      have i1 := ixU_lk gl (kp_some H.nd hp)
      refine wpo_eq ?_
      by_cases c : p.2 ∈ w.sure.map (·.1)
      · obtain ⟨q, hq, eq⟩ := List.mem_map.mp c
        have k2 := kp_some H.nd hq
        rw [eq] at k2
        have i2 := ixU_lk gl k2
        have n2 := inU_lk (k := ((p.2 : Nat) : Int)) gl
        rw [k2] at n2
        have n2 : oInU false (.int ((p.2 : Nat) : Int)) (.loc M.length) N = .ok (.bl true) N := n2
        obtain ⟨t, ht, h', hh, h1', h2'⟩ := H.s5 p hp
        have := H.s2 q hq t ht h' hh (by rw [h1', ← eq])
        have lt : ¬ ((q.2 : Nat) : Int) < ((p.1 : Nat) : Int) := by omega
        simp only [↓wpo, ↓wps, ↓w_var, ↓w_k, ↓w_aNil, ↓w_aCons, ↓w_tupN0, ↓w_tupN1, ↓w_tupN2, ↓w_tupN3, ↓w_tupN4, ↓w_tupN5, ↓w_tupN6, ↓w_tupN7, ↓w_tupN8, ↓w_lstN0, ↓w_lstN1, ↓w_lstN2, ↓w_lstN3, ↓w_lstN4, ↓w_lstN5, ↓w_lstN6, ↓w_lstN7, ↓w_lstN8, ↓w_2, ↓w_1, ↓w_call, ↓w_if, ↓w_and, ↓w_or, ↓w_not, ↓w_bE, ↓w_bAnd, ↓w_bOr, ↓w_bNot, ↓w_bTrue, ↓w_chain, ↓w_oNone, ↓w_oSome, ↓w_slice, ↓w_kNil, ↓w_kCons, ↓w_dct, ↓w_dct0, ↓w_lst1, ↓w_fs, ↓w_get1, ↓w_get2, ↓ws_pass, ↓ws_break, ↓ws_cont, ↓ws_retN, ↓ws_seq, ↓ws_set, ↓ws_par, ↓ws_par3, ↓ws_expr, ↓ws_ret, ↓ws_if, ↓ws_raise, ↓ws_try, ↓ws_ag2, ↓ws_ag3, ↓ws_ag4, ↓ws_ag5, ↓ws_ag6, ↓ws_ag7, ↓ws_ag8, ↓ws_agS, ↓ws_augS, ↓ws_aug, ↓w_popN, ↓ws_nxo, ↓ws_sub, ↓ws_for, ↓wi_range1, ↓wi_range2, ↓wi_range3, ↓wi_seq, ↓wi_enum, wpo_ok, wpo_err, wpo_bind, ws_nx, ws_rt, ws_bk, ws_ct, ws_er, sq_nx, sq_rt, sq_bk, sq_ct, sq_er, lq_nx, lq_ct, lq_bk, lq_rt, lq_er, fq_nx, fq_rt, fq_er, tq_nx, tq_rt, tq_bk, tq_ct, tq_er, asV_ok, asB_ok, asI_ok, asK_int, asK_str, asP_ok, asP3_ok, asM_ok, asS_tup, asS_fz, asE_tup, asE_fz, add_ok, sub_ok, eq_ok, ne_ok, lt_ok, le_ok, gt_ok, ge_ok, neg_ok, isn_ok, notn_ok, int_ok, bind_ok, List.map_cons, List.map_nil, List.replicate, List.cons_append, List.nil_append, List.getElem?_cons_zero, List.getElem?_cons_succ, List.set_cons_zero, List.set_cons_succ, if_true, if_false, Bool.not_true, Bool.not_false, gc_same, Bool.false_eq_true, decide_true, decide_false, tName, tTup, tsCons, tsNil, List.length_cons, List.length_nil, ite_true, ite_false, reduceIte, reduceCtorEq, Nat.zero_add, Nat.reduceAdd, Nat.reduceEqDiff, Nat.reduceLeDiff, isNon, Int.zero_add, and_self, eq_self, ix0, ix1, ix2, ix3, ix4, ix5, isi_int, isi_nbl, isi_tup, isi_str, eqs_ok, nes_ok, len_tup, ag2_ok, ag3_ok, ag4_ok, ag5_ok, ag6_ok, ag7_ok, ag8_ok, asN_ok, addI_ok, i1, n2, i2, decide_eq_false lt]
      · have n2 := inU_lk (k := ((p.2 : Nat) : Int)) gl
        rw [kp_none c] at n2
        have n2 : oInU false (.int ((p.2 : Nat) : Int)) (.loc M.length) N = .ok (.bl false) N := n2
        simp only [↓wpo, ↓wps, ↓w_var, ↓w_k, ↓w_aNil, ↓w_aCons, ↓w_tupN0, ↓w_tupN1, ↓w_tupN2, ↓w_tupN3, ↓w_tupN4, ↓w_tupN5, ↓w_tupN6, ↓w_tupN7, ↓w_tupN8, ↓w_lstN0, ↓w_lstN1, ↓w_lstN2, ↓w_lstN3, ↓w_lstN4, ↓w_lstN5, ↓w_lstN6, ↓w_lstN7, ↓w_lstN8, ↓w_2, ↓w_1, ↓w_call, ↓w_if, ↓w_and, ↓w_or, ↓w_not, ↓w_bE, ↓w_bAnd, ↓w_bOr, ↓w_bNot, ↓w_bTrue, ↓w_chain, ↓w_oNone, ↓w_oSome, ↓w_slice, ↓w_kNil, ↓w_kCons, ↓w_dct, ↓w_dct0, ↓w_lst1, ↓w_fs, ↓w_get1, ↓w_get2, ↓ws_pass, ↓ws_break, ↓ws_cont, ↓ws_retN, ↓ws_seq, ↓ws_set, ↓ws_par, ↓ws_par3, ↓ws_expr, ↓ws_ret, ↓ws_if, ↓ws_raise, ↓ws_try, ↓ws_ag2, ↓ws_ag3, ↓ws_ag4, ↓ws_ag5, ↓ws_ag6, ↓ws_ag7, ↓ws_ag8, ↓ws_agS, ↓ws_augS, ↓ws_aug, ↓w_popN, ↓ws_nxo, ↓ws_sub, ↓ws_for, ↓wi_range1, ↓wi_range2, ↓wi_range3, ↓wi_seq, ↓wi_enum, wpo_ok, wpo_err, wpo_bind, ws_nx, ws_rt, ws_bk, ws_ct, ws_er, sq_nx, sq_rt, sq_bk, sq_ct, sq_er, lq_nx, lq_ct, lq_bk, lq_rt, lq_er, fq_nx, fq_rt, fq_er, tq_nx, tq_rt, tq_bk, tq_ct, tq_er, asV_ok, asB_ok, asI_ok, asK_int, asK_str, asP_ok, asP3_ok, asM_ok, asS_tup, asS_fz, asE_tup, asE_fz, add_ok, sub_ok, eq_ok, ne_ok, lt_ok, le_ok, gt_ok, ge_ok, neg_ok, isn_ok, notn_ok, int_ok, bind_ok, List.map_cons, List.map_nil, List.replicate, List.cons_append, List.nil_append, List.getElem?_cons_zero, List.getElem?_cons_succ, List.set_cons_zero, List.set_cons_succ, if_true, if_false, Bool.not_true, Bool.not_false, gc_same, Bool.false_eq_true, decide_true, decide_false, tName, tTup, tsCons, tsNil, List.length_cons, List.length_nil, ite_true, ite_false, reduceIte, reduceCtorEq, Nat.zero_add, Nat.reduceAdd, Nat.reduceEqDiff, Nat.reduceLeDiff, isNon, Int.zero_add, and_self, eq_self, ix0, ix1, ix2, ix3, ix4, ix5, isi_int, isi_nbl, isi_tup, isi_str, eqs_ok, nes_ok, len_tup, ag2_ok, ag3_ok, ag4_ok, ag5_ok, ag6_ok, ag7_ok, ag8_ok, asN_ok, addI_ok, i1, n2]
    have e := lcK_eq (M1 := M ++ [MO.dct (kp w.sure)]) (n := M.length) rfl gd lk
    have eqn : oEq (.loc (M ++ [MO.dct (kp w.sure)]).length) (.loc (M ++ [MO.dct (kp w.sure)] ++ [MO.lst []]).length) (M ++ [MO.dct (kp w.sure)] ++ [MO.lst []] ++ [MO.lst []]) = .ok (.bl true) (M ++ [MO.dct (kp w.sure)] ++ [MO.lst []] ++ [MO.lst []]) := by
      rw [eq_of (Pd.lst (getA5 (get_last (M ++ [MO.dct (kp w.sure)]) (MO.lst []))) .nil) (Pd.lst (get_last (M ++ [MO.dct (kp w.sure)] ++ [MO.lst []]) (MO.lst [])) .nil), eqv_nil]
      rfl
    rw [ws_ret, w_2, e, wpo_ok]
    simp only [↓wpo, ↓wps, ↓w_var, ↓w_k, ↓w_aNil, ↓w_aCons, ↓w_tupN0, ↓w_tupN1, ↓w_tupN2, ↓w_tupN3, ↓w_tupN4, ↓w_tupN5, ↓w_tupN6, ↓w_tupN7, ↓w_tupN8, ↓w_lstN0, ↓w_lstN1, ↓w_lstN2, ↓w_lstN3, ↓w_lstN4, ↓w_lstN5, ↓w_lstN6, ↓w_lstN7, ↓w_lstN8, ↓w_2, ↓w_1, ↓w_call, ↓w_if, ↓w_and, ↓w_or, ↓w_not, ↓w_bE, ↓w_bAnd, ↓w_bOr, ↓w_bNot, ↓w_bTrue, ↓w_chain, ↓w_oNone, ↓w_oSome, ↓w_slice, ↓w_kNil, ↓w_kCons, ↓w_dct, ↓w_dct0, ↓w_lst1, ↓w_fs, ↓w_get1, ↓w_get2, ↓ws_pass, ↓ws_break, ↓ws_cont, ↓ws_retN, ↓ws_seq, ↓ws_set, ↓ws_par, ↓ws_par3, ↓ws_expr, ↓ws_ret, ↓ws_if, ↓ws_raise, ↓ws_try, ↓ws_ag2, ↓ws_ag3, ↓ws_ag4, ↓ws_ag5, ↓ws_ag6, ↓ws_ag7, ↓ws_ag8, ↓ws_agS, ↓ws_augS, ↓ws_aug, ↓w_popN, ↓ws_nxo, ↓ws_sub, ↓ws_for, ↓wi_range1, ↓wi_range2, ↓wi_range3, ↓wi_seq, ↓wi_enum, wpo_ok, wpo_err, wpo_bind, ws_nx, ws_rt, ws_bk, ws_ct, ws_er, sq_nx, sq_rt, sq_bk, sq_ct, sq_er, lq_nx, lq_ct, lq_bk, lq_rt, lq_er, fq_nx, fq_rt, fq_er, tq_nx, tq_rt, tq_bk, tq_ct, tq_er, asV_ok, asB_ok, asI_ok, asK_int, asK_str, asP_ok, asP3_ok, asM_ok, asS_tup, asS_fz, asE_tup, asE_fz, add_ok, sub_ok, eq_ok, ne_ok, lt_ok, le_ok, gt_ok, ge_ok, neg_ok, isn_ok, notn_ok, int_ok, bind_ok, List.map_cons, List.map_nil, List.replicate, List.cons_append, List.nil_append, List.getElem?_cons_zero, List.getElem?_cons_succ, List.set_cons_zero, List.set_cons_succ, if_true, if_false, Bool.not_true, Bool.not_false, gc_same, Bool.false_eq_true, decide_true, decide_false, tName, tTup, tsCons, tsNil, List.length_cons, List.length_nil, ite_true, ite_false, reduceIte, reduceCtorEq, Nat.zero_add, Nat.reduceAdd, Nat.reduceEqDiff, Nat.reduceLeDiff, isNon, Int.zero_add, and_self, eq_self, ix0, ix1, ix2, ix3, ix4, ix5, isi_int, isi_nbl, isi_tup, isi_str, eqs_ok, nes_ok, len_tup, ag2_ok, ag3_ok, ag4_ok, ag5_ok, ag6_ok, ag7_ok, ag8_ok, asN_ok, addI_ok, eqn]
    refine ⟨trivial, ?_⟩
    rw [List.append_assoc, List.append_assoc]
    exact gc_app _ _ _ (by simp [belowAll, below])
end
theorem law_true (ns : List Int) (hl : ns.length ≤ 63) (_h2 : ∀ z ∈ ns, Builtin.Int.intBits z ≤ 1048576) : ∃ M, f_law [.fz (ns.map .int)] [] = .ok (.bl true) M := by
  have goal : wpo (f_law [.fz (ns.map .int)] []) (fun d _ => d = .bl true) noE := by
    unfold f_law
    rw [wp_def (by rfl)]
    simp only [List.map_cons, List.map_nil, List.replicate, List.cons_append, List.nil_append]
    rw [ws_seq]
    generalize hQ1 : sq _ _ = Q1
    simp only [↓wpo, ↓wps, ↓w_var, ↓w_k, ↓w_aNil, ↓w_aCons, ↓w_tupN0, ↓w_tupN1, ↓w_tupN2, ↓w_tupN3, ↓w_tupN4, ↓w_tupN5, ↓w_tupN6, ↓w_tupN7, ↓w_tupN8, ↓w_lstN0, ↓w_lstN1, ↓w_lstN2, ↓w_lstN3, ↓w_lstN4, ↓w_lstN5, ↓w_lstN6, ↓w_lstN7, ↓w_lstN8, ↓w_2, ↓w_1, ↓w_call, ↓w_if, ↓w_and, ↓w_or, ↓w_not, ↓w_bE, ↓w_bAnd, ↓w_bOr, ↓w_bNot, ↓w_bTrue, ↓w_chain, ↓w_oNone, ↓w_oSome, ↓w_slice, ↓w_kNil, ↓w_kCons, ↓w_dct, ↓w_dct0, ↓w_lst1, ↓w_fs, ↓w_get1, ↓w_get2, ↓ws_pass, ↓ws_break, ↓ws_cont, ↓ws_retN, ↓ws_seq, ↓ws_set, ↓ws_par, ↓ws_par3, ↓ws_expr, ↓ws_ret, ↓ws_if, ↓ws_raise, ↓ws_try, ↓ws_ag2, ↓ws_ag3, ↓ws_ag4, ↓ws_ag5, ↓ws_ag6, ↓ws_ag7, ↓ws_ag8, ↓ws_agS, ↓ws_augS, ↓ws_aug, ↓w_popN, ↓ws_nxo, ↓ws_sub, ↓ws_for, ↓wi_range1, ↓wi_range2, ↓wi_range3, ↓wi_seq, ↓wi_enum, wpo_ok, wpo_err, wpo_bind, ws_nx, ws_rt, ws_bk, ws_ct, ws_er, sq_nx, sq_rt, sq_bk, sq_ct, sq_er, lq_nx, lq_ct, lq_bk, lq_rt, lq_er, fq_nx, fq_rt, fq_er, tq_nx, tq_rt, tq_bk, tq_ct, tq_er, asV_ok, asB_ok, asI_ok, asK_int, asK_str, asP_ok, asP3_ok, asM_ok, asS_tup, asS_fz, asE_tup, asE_fz, add_ok, sub_ok, eq_ok, ne_ok, lt_ok, le_ok, gt_ok, ge_ok, neg_ok, isn_ok, notn_ok, int_ok, bind_ok, List.map_cons, List.map_nil, List.replicate, List.cons_append, List.nil_append, List.getElem?_cons_zero, List.getElem?_cons_succ, List.set_cons_zero, List.set_cons_succ, if_true, if_false, Bool.not_true, Bool.not_false, gc_same, Bool.false_eq_true, decide_true, decide_false, tName, tTup, tsCons, tsNil, List.length_cons, List.length_nil, ite_true, ite_false, reduceIte, reduceCtorEq, Nat.zero_add, Nat.reduceAdd, Nat.reduceEqDiff, Nat.reduceLeDiff, isNon, Int.zero_add, and_self, eq_self, ix0, ix1, ix2, ix3, ix4, ix5, isi_int, isi_nbl, isi_tup, isi_str, eqs_ok, nes_ok, len_tup, ag2_ok, ag3_ok, ag4_ok, ag5_ok, ag6_ok, ag7_ok, ag8_ok, asN_ok, addI_ok]
    refine begun_w hl fun M0 s0 => ?_
    rw [← hQ1, sq_nx, ws_seq]
    generalize hQ2 : sq _ _ = Q2
    simp only [↓wpo, ↓wps, ↓w_var, ↓w_k, ↓w_aNil, ↓w_aCons, ↓w_tupN0, ↓w_tupN1, ↓w_tupN2, ↓w_tupN3, ↓w_tupN4, ↓w_tupN5, ↓w_tupN6, ↓w_tupN7, ↓w_tupN8, ↓w_lstN0, ↓w_lstN1, ↓w_lstN2, ↓w_lstN3, ↓w_lstN4, ↓w_lstN5, ↓w_lstN6, ↓w_lstN7, ↓w_lstN8, ↓w_2, ↓w_1, ↓w_call, ↓w_if, ↓w_and, ↓w_or, ↓w_not, ↓w_bE, ↓w_bAnd, ↓w_bOr, ↓w_bNot, ↓w_bTrue, ↓w_chain, ↓w_oNone, ↓w_oSome, ↓w_slice, ↓w_kNil, ↓w_kCons, ↓w_dct, ↓w_dct0, ↓w_lst1, ↓w_fs, ↓w_get1, ↓w_get2, ↓ws_pass, ↓ws_break, ↓ws_cont, ↓ws_retN, ↓ws_seq, ↓ws_set, ↓ws_par, ↓ws_par3, ↓ws_expr, ↓ws_ret, ↓ws_if, ↓ws_raise, ↓ws_try, ↓ws_ag2, ↓ws_ag3, ↓ws_ag4, ↓ws_ag5, ↓ws_ag6, ↓ws_ag7, ↓ws_ag8, ↓ws_agS, ↓ws_augS, ↓ws_aug, ↓w_popN, ↓ws_nxo, ↓ws_sub, ↓ws_for, ↓wi_range1, ↓wi_range2, ↓wi_range3, ↓wi_seq, ↓wi_enum, wpo_ok, wpo_err, wpo_bind, ws_nx, ws_rt, ws_bk, ws_ct, ws_er, sq_nx, sq_rt, sq_bk, sq_ct, sq_er, lq_nx, lq_ct, lq_bk, lq_rt, lq_er, fq_nx, fq_rt, fq_er, tq_nx, tq_rt, tq_bk, tq_ct, tq_er, asV_ok, asB_ok, asI_ok, asK_int, asK_str, asP_ok, asP3_ok, asM_ok, asS_tup, asS_fz, asE_tup, asE_fz, add_ok, sub_ok, eq_ok, ne_ok, lt_ok, le_ok, gt_ok, ge_ok, neg_ok, isn_ok, notn_ok, int_ok, bind_ok, List.map_cons, List.map_nil, List.replicate, List.cons_append, List.nil_append, List.getElem?_cons_zero, List.getElem?_cons_succ, List.set_cons_zero, List.set_cons_succ, if_true, if_false, Bool.not_true, Bool.not_false, gc_same, Bool.false_eq_true, decide_true, decide_false, tName, tTup, tsCons, tsNil, List.length_cons, List.length_nil, ite_true, ite_false, reduceIte, reduceCtorEq, Nat.zero_add, Nat.reduceAdd, Nat.reduceEqDiff, Nat.reduceLeDiff, isNon, Int.zero_add, and_self, eq_self, ix0, ix1, ix2, ix3, ix4, ix5, isi_int, isi_nbl, isi_tup, isi_str, eqs_ok, nes_ok, len_tup, ag2_ok, ag3_ok, ag4_ok, ag5_ok, ag6_ok, ag7_ok, ag8_ok, asN_ok, addI_ok]
    refine begun4_w s0 fun M1 h1 => ?_
    generalize hb : ([] : Mem).length + 4 = b at h1 ⊢
    rw [← hQ2, sq_nx, ws_seq]
    generalize hQ3 : sq _ _ = Q3
    have ln : ∀ M, fLen [.fz (ns.map .int)] M = .ok (.int ((ns.length : Nat) : Int)) M := fun M => by
      show Out.ok (D.int (((ns.map D.int).length : Nat) : Int)) M = _
      rw [List.length_map]
    have mn : ∀ M, fMin2 [.int (ns.length : Nat), .int 5] M = .ok (.int ((min ns.length 5 : Nat) : Int)) M := fun M => min_nat (a := ns.length) (b := 5)
    have mu : ∀ (n : Nat) M, oMul (.int 20) (.int (n : Nat)) M = .ok (.int ((20 * n : Nat) : Int)) M := fun n M => by
      rw [mul_l (by decide) (by decide)]
      rfl
    have e60 : ∀ n : Nat, (60 : Int) + (n : Int) = ((60 + n : Nat) : Int) := fun n => by omega
    simp only [↓wpo, ↓wps, ↓w_var, ↓w_k, ↓w_aNil, ↓w_aCons, ↓w_tupN0, ↓w_tupN1, ↓w_tupN2, ↓w_tupN3, ↓w_tupN4, ↓w_tupN5, ↓w_tupN6, ↓w_tupN7, ↓w_tupN8, ↓w_lstN0, ↓w_lstN1, ↓w_lstN2, ↓w_lstN3, ↓w_lstN4, ↓w_lstN5, ↓w_lstN6, ↓w_lstN7, ↓w_lstN8, ↓w_2, ↓w_1, ↓w_call, ↓w_if, ↓w_and, ↓w_or, ↓w_not, ↓w_bE, ↓w_bAnd, ↓w_bOr, ↓w_bNot, ↓w_bTrue, ↓w_chain, ↓w_oNone, ↓w_oSome, ↓w_slice, ↓w_kNil, ↓w_kCons, ↓w_dct, ↓w_dct0, ↓w_lst1, ↓w_fs, ↓w_get1, ↓w_get2, ↓ws_pass, ↓ws_break, ↓ws_cont, ↓ws_retN, ↓ws_seq, ↓ws_set, ↓ws_par, ↓ws_par3, ↓ws_expr, ↓ws_ret, ↓ws_if, ↓ws_raise, ↓ws_try, ↓ws_ag2, ↓ws_ag3, ↓ws_ag4, ↓ws_ag5, ↓ws_ag6, ↓ws_ag7, ↓ws_ag8, ↓ws_agS, ↓ws_augS, ↓ws_aug, ↓w_popN, ↓ws_nxo, ↓ws_sub, ↓ws_for, ↓wi_range1, ↓wi_range2, ↓wi_range3, ↓wi_seq, ↓wi_enum, wpo_ok, wpo_err, wpo_bind, ws_nx, ws_rt, ws_bk, ws_ct, ws_er, sq_nx, sq_rt, sq_bk, sq_ct, sq_er, lq_nx, lq_ct, lq_bk, lq_rt, lq_er, fq_nx, fq_rt, fq_er, tq_nx, tq_rt, tq_bk, tq_ct, tq_er, asV_ok, asB_ok, asI_ok, asK_int, asK_str, asP_ok, asP3_ok, asM_ok, asS_tup, asS_fz, asE_tup, asE_fz, add_ok, sub_ok, eq_ok, ne_ok, lt_ok, le_ok, gt_ok, ge_ok, neg_ok, isn_ok, notn_ok, int_ok, bind_ok, List.map_cons, List.map_nil, List.replicate, List.cons_append, List.nil_append, List.getElem?_cons_zero, List.getElem?_cons_succ, List.set_cons_zero, List.set_cons_succ, if_true, if_false, Bool.not_true, Bool.not_false, gc_same, Bool.false_eq_true, decide_true, decide_false, tName, tTup, tsCons, tsNil, List.length_cons, List.length_nil, ite_true, ite_false, reduceIte, reduceCtorEq, Nat.zero_add, Nat.reduceAdd, Nat.reduceEqDiff, Nat.reduceLeDiff, isNon, Int.zero_add, and_self, eq_self, ix0, ix1, ix2, ix3, ix4, ix5, isi_int, isi_nbl, isi_tup, isi_str, eqs_ok, nes_ok, len_tup, ag2_ok, ag3_ok, ag4_ok, ag5_ok, ag6_ok, ag7_ok, ag8_ok, asN_ok, addI_ok, ln, mn, mu, e60, asR1_nat (j := 60 + 20 * min ns.length 5) (by omega)]
    generalize hm : 60 + 20 * min ns.length 5 = m
    have hm4 : m ≤ 160 := by omega
    refine for_up (m := m) (fun i r M => ∃ a3 a4 a5 a6 w, r = [some (.fz (ns.map .int)), some (.loc 2), some (.loc (b + 10)), a3, a4, a5, a6] ∧ WM (5 * i) [] b w [] M ∧ Ok w ∧ Gen w ∧ Hs w ∧ w.clk ≤ i) ⟨_, _, _, _, w0, rfl, h1, w0_ok, w0_gen, w0_hs, Nat.le_refl _⟩ ?_ ?_
    · rintro i r M hi ⟨a3, a4, a5, a6, w, rfl, h, ok, g, H, hc⟩
      simp only [List.set_cons_succ, List.set_cons_zero, Int.zero_add]
      rw [ws_seq]
      generalize hP1 : sq _ _ = P1
      simp only [↓wpo, ↓wps, ↓w_var, ↓w_k, ↓w_aNil, ↓w_aCons, ↓w_tupN0, ↓w_tupN1, ↓w_tupN2, ↓w_tupN3, ↓w_tupN4, ↓w_tupN5, ↓w_tupN6, ↓w_tupN7, ↓w_tupN8, ↓w_lstN0, ↓w_lstN1, ↓w_lstN2, ↓w_lstN3, ↓w_lstN4, ↓w_lstN5, ↓w_lstN6, ↓w_lstN7, ↓w_lstN8, ↓w_2, ↓w_1, ↓w_call, ↓w_if, ↓w_and, ↓w_or, ↓w_not, ↓w_bE, ↓w_bAnd, ↓w_bOr, ↓w_bNot, ↓w_bTrue, ↓w_chain, ↓w_oNone, ↓w_oSome, ↓w_slice, ↓w_kNil, ↓w_kCons, ↓w_dct, ↓w_dct0, ↓w_lst1, ↓w_fs, ↓w_get1, ↓w_get2, ↓ws_pass, ↓ws_break, ↓ws_cont, ↓ws_retN, ↓ws_seq, ↓ws_set, ↓ws_par, ↓ws_par3, ↓ws_expr, ↓ws_ret, ↓ws_if, ↓ws_raise, ↓ws_try, ↓ws_ag2, ↓ws_ag3, ↓ws_ag4, ↓ws_ag5, ↓ws_ag6, ↓ws_ag7, ↓ws_ag8, ↓ws_agS, ↓ws_augS, ↓ws_aug, ↓w_popN, ↓ws_nxo, ↓ws_sub, ↓ws_for, ↓wi_range1, ↓wi_range2, ↓wi_range3, ↓wi_seq, ↓wi_enum, wpo_ok, wpo_err, wpo_bind, ws_nx, ws_rt, ws_bk, ws_ct, ws_er, sq_nx, sq_rt, sq_bk, sq_ct, sq_er, lq_nx, lq_ct, lq_bk, lq_rt, lq_er, fq_nx, fq_rt, fq_er, tq_nx, tq_rt, tq_bk, tq_ct, tq_er, asV_ok, asB_ok, asI_ok, asK_int, asK_str, asP_ok, asP3_ok, asM_ok, asS_tup, asS_fz, asE_tup, asE_fz, add_ok, sub_ok, eq_ok, ne_ok, lt_ok, le_ok, gt_ok, ge_ok, neg_ok, isn_ok, notn_ok, int_ok, bind_ok, List.map_cons, List.map_nil, List.replicate, List.cons_append, List.nil_append, List.getElem?_cons_zero, List.getElem?_cons_succ, List.set_cons_zero, List.set_cons_succ, if_true, if_false, Bool.not_true, Bool.not_false, gc_same, Bool.false_eq_true, decide_true, decide_false, tName, tTup, tsCons, tsNil, List.length_cons, List.length_nil, ite_true, ite_false, reduceIte, reduceCtorEq, Nat.zero_add, Nat.reduceAdd, Nat.reduceEqDiff, Nat.reduceLeDiff, isNon, Int.zero_add, and_self, eq_self, ix0, ix1, ix2, ix3, ix4, ix5, isi_int, isi_nbl, isi_tup, isi_str, eqs_ok, nes_ok, len_tup, ag2_ok, ag3_ok, ag4_ok, ag5_ok, ag6_ok, ag7_ok, ag8_ok, asN_ok, addI_ok]
      refine deed_w h ok (by omega) (by omega) fun w' M' d h' => ?_
      have ok' := ok.deed d (by omega)
      have g' := g.deed ok d
      have H' := H.deed g ok d (by omega)
      have hc' := d.clk
      clear ok g H h d
      simp only [↓wpo, ↓wps, ↓w_var, ↓w_k, ↓w_aNil, ↓w_aCons, ↓w_tupN0, ↓w_tupN1, ↓w_tupN2, ↓w_tupN3, ↓w_tupN4, ↓w_tupN5, ↓w_tupN6, ↓w_tupN7, ↓w_tupN8, ↓w_lstN0, ↓w_lstN1, ↓w_lstN2, ↓w_lstN3, ↓w_lstN4, ↓w_lstN5, ↓w_lstN6, ↓w_lstN7, ↓w_lstN8, ↓w_2, ↓w_1, ↓w_call, ↓w_if, ↓w_and, ↓w_or, ↓w_not, ↓w_bE, ↓w_bAnd, ↓w_bOr, ↓w_bNot, ↓w_bTrue, ↓w_chain, ↓w_oNone, ↓w_oSome, ↓w_slice, ↓w_kNil, ↓w_kCons, ↓w_dct, ↓w_dct0, ↓w_lst1, ↓w_fs, ↓w_get1, ↓w_get2, ↓ws_pass, ↓ws_break, ↓ws_cont, ↓ws_retN, ↓ws_seq, ↓ws_set, ↓ws_par, ↓ws_par3, ↓ws_expr, ↓ws_ret, ↓ws_if, ↓ws_raise, ↓ws_try, ↓ws_ag2, ↓ws_ag3, ↓ws_ag4, ↓ws_ag5, ↓ws_ag6, ↓ws_ag7, ↓ws_ag8, ↓ws_agS, ↓ws_augS, ↓ws_aug, ↓w_popN, ↓ws_nxo, ↓ws_sub, ↓ws_for, ↓wi_range1, ↓wi_range2, ↓wi_range3, ↓wi_seq, ↓wi_enum, wpo_ok, wpo_err, wpo_bind, ws_nx, ws_rt, ws_bk, ws_ct, ws_er, sq_nx, sq_rt, sq_bk, sq_ct, sq_er, lq_nx, lq_ct, lq_bk, lq_rt, lq_er, fq_nx, fq_rt, fq_er, tq_nx, tq_rt, tq_bk, tq_ct, tq_er, asV_ok, asB_ok, asI_ok, asK_int, asK_str, asP_ok, asP3_ok, asM_ok, asS_tup, asS_fz, asE_tup, asE_fz, add_ok, sub_ok, eq_ok, ne_ok, lt_ok, le_ok, gt_ok, ge_ok, neg_ok, isn_ok, notn_ok, int_ok, bind_ok, List.map_cons, List.map_nil, List.replicate, List.cons_append, List.nil_append, List.getElem?_cons_zero, List.getElem?_cons_succ, List.set_cons_zero, List.set_cons_succ, if_true, if_false, Bool.not_true, Bool.not_false, gc_same, Bool.false_eq_true, decide_true, decide_false, tName, tTup, tsCons, tsNil, List.length_cons, List.length_nil, ite_true, ite_false, reduceIte, reduceCtorEq, Nat.zero_add, Nat.reduceAdd, Nat.reduceEqDiff, Nat.reduceLeDiff, isNon, Int.zero_add, and_self, eq_self, ix0, ix1, ix2, ix3, ix4, ix5, isi_int, isi_nbl, isi_tup, isi_str, eqs_ok, nes_ok, len_tup, ag2_ok, ag3_ok, ag4_ok, ag5_ok, ag6_ok, ag7_ok, ag8_ok, asN_ok, addI_ok]
      rw [← hP1, sq_nx, ws_seq]
      generalize hP2 : sq _ _ = P2
      have lk : M'[b]? = some (.lst [dl (w'.l 0), dl (w'.l 1)]) := h'.get 0 rfl
      have un : ∀ r : Ev, tUnl 2 (tsCons (tName 4) (tsCons (tName 5) tsNil)) (.loc b) r M' = .nx ((r.set 4 (some (dl (w'.l 0)))).set 5 (some (dl (w'.l 1)))) M' := fun r => by
        unfold tUnl lstOf
        simp only [lk]
        rfl
      rw [ws_asg]
      simp only [↓wpo, ↓wps, ↓w_var, ↓w_k, ↓w_aNil, ↓w_aCons, ↓w_tupN0, ↓w_tupN1, ↓w_tupN2, ↓w_tupN3, ↓w_tupN4, ↓w_tupN5, ↓w_tupN6, ↓w_tupN7, ↓w_tupN8, ↓w_lstN0, ↓w_lstN1, ↓w_lstN2, ↓w_lstN3, ↓w_lstN4, ↓w_lstN5, ↓w_lstN6, ↓w_lstN7, ↓w_lstN8, ↓w_2, ↓w_1, ↓w_call, ↓w_if, ↓w_and, ↓w_or, ↓w_not, ↓w_bE, ↓w_bAnd, ↓w_bOr, ↓w_bNot, ↓w_bTrue, ↓w_chain, ↓w_oNone, ↓w_oSome, ↓w_slice, ↓w_kNil, ↓w_kCons, ↓w_dct, ↓w_dct0, ↓w_lst1, ↓w_fs, ↓w_get1, ↓w_get2, ↓ws_pass, ↓ws_break, ↓ws_cont, ↓ws_retN, ↓ws_seq, ↓ws_set, ↓ws_par, ↓ws_par3, ↓ws_expr, ↓ws_ret, ↓ws_if, ↓ws_raise, ↓ws_try, ↓ws_ag2, ↓ws_ag3, ↓ws_ag4, ↓ws_ag5, ↓ws_ag6, ↓ws_ag7, ↓ws_ag8, ↓ws_agS, ↓ws_augS, ↓ws_aug, ↓w_popN, ↓ws_nxo, ↓ws_sub, ↓ws_for, ↓wi_range1, ↓wi_range2, ↓wi_range3, ↓wi_seq, ↓wi_enum, wpo_ok, wpo_err, wpo_bind, ws_nx, ws_rt, ws_bk, ws_ct, ws_er, sq_nx, sq_rt, sq_bk, sq_ct, sq_er, lq_nx, lq_ct, lq_bk, lq_rt, lq_er, fq_nx, fq_rt, fq_er, tq_nx, tq_rt, tq_bk, tq_ct, tq_er, asV_ok, asB_ok, asI_ok, asK_int, asK_str, asP_ok, asP3_ok, asM_ok, asS_tup, asS_fz, asE_tup, asE_fz, add_ok, sub_ok, eq_ok, ne_ok, lt_ok, le_ok, gt_ok, ge_ok, neg_ok, isn_ok, notn_ok, int_ok, bind_ok, List.map_cons, List.map_nil, List.replicate, List.cons_append, List.nil_append, List.getElem?_cons_zero, List.getElem?_cons_succ, List.set_cons_zero, List.set_cons_succ, if_true, if_false, Bool.not_true, Bool.not_false, gc_same, Bool.false_eq_true, decide_true, decide_false, tName, tTup, tsCons, tsNil, List.length_cons, List.length_nil, ite_true, ite_false, reduceIte, reduceCtorEq, Nat.zero_add, Nat.reduceAdd, Nat.reduceEqDiff, Nat.reduceLeDiff, isNon, Int.zero_add, and_self, eq_self, ix0, ix1, ix2, ix3, ix4, ix5, isi_int, isi_nbl, isi_tup, isi_str, eqs_ok, nes_ok, len_tup, ag2_ok, ag3_ok, ag4_ok, ag5_ok, ag6_ok, ag7_ok, ag8_ok, asN_ok, addI_ok, wd_links h', un, nxo]
      rw [← hP2, sq_nx, ws_seq]
      generalize hP3 : sq _ _ = P3
      have fin : ∀ a6, P3 (.nx [some (.fz (ns.map .int)), some (.loc 2), some (.loc (b + 10)), some (.int (i : Nat)), some (dl (w'.l 0)), some (dl (w'.l 1)), a6] M') := by
        intro a6
        rw [← hP3, sq_nx]
        simp only [↓wpo, ↓wps, ↓w_var, ↓w_k, ↓w_aNil, ↓w_aCons, ↓w_tupN0, ↓w_tupN1, ↓w_tupN2, ↓w_tupN3, ↓w_tupN4, ↓w_tupN5, ↓w_tupN6, ↓w_tupN7, ↓w_tupN8, ↓w_lstN0, ↓w_lstN1, ↓w_lstN2, ↓w_lstN3, ↓w_lstN4, ↓w_lstN5, ↓w_lstN6, ↓w_lstN7, ↓w_lstN8, ↓w_2, ↓w_1, ↓w_call, ↓w_if, ↓w_and, ↓w_or, ↓w_not, ↓w_bE, ↓w_bAnd, ↓w_bOr, ↓w_bNot, ↓w_bTrue, ↓w_chain, ↓w_oNone, ↓w_oSome, ↓w_slice, ↓w_kNil, ↓w_kCons, ↓w_dct, ↓w_dct0, ↓w_lst1, ↓w_fs, ↓w_get1, ↓w_get2, ↓ws_pass, ↓ws_break, ↓ws_cont, ↓ws_retN, ↓ws_seq, ↓ws_set, ↓ws_par, ↓ws_par3, ↓ws_expr, ↓ws_ret, ↓ws_if, ↓ws_raise, ↓ws_try, ↓ws_ag2, ↓ws_ag3, ↓ws_ag4, ↓ws_ag5, ↓ws_ag6, ↓ws_ag7, ↓ws_ag8, ↓ws_agS, ↓ws_augS, ↓ws_aug, ↓w_popN, ↓ws_nxo, ↓ws_sub, ↓ws_for, ↓wi_range1, ↓wi_range2, ↓wi_range3, ↓wi_seq, ↓wi_enum, wpo_ok, wpo_err, wpo_bind, ws_nx, ws_rt, ws_bk, ws_ct, ws_er, sq_nx, sq_rt, sq_bk, sq_ct, sq_er, lq_nx, lq_ct, lq_bk, lq_rt, lq_er, fq_nx, fq_rt, fq_er, tq_nx, tq_rt, tq_bk, tq_ct, tq_er, asV_ok, asB_ok, asI_ok, asK_int, asK_str, asP_ok, asP3_ok, asM_ok, asS_tup, asS_fz, asE_tup, asE_fz, add_ok, sub_ok, eq_ok, ne_ok, lt_ok, le_ok, gt_ok, ge_ok, neg_ok, isn_ok, notn_ok, int_ok, bind_ok, List.map_cons, List.map_nil, List.replicate, List.cons_append, List.nil_append, List.getElem?_cons_zero, List.getElem?_cons_succ, List.set_cons_zero, List.set_cons_succ, if_true, if_false, Bool.not_true, Bool.not_false, gc_same, Bool.false_eq_true, decide_true, decide_false, tName, tTup, tsCons, tsNil, List.length_cons, List.length_nil, ite_true, ite_false, reduceIte, reduceCtorEq, Nat.zero_add, Nat.reduceAdd, Nat.reduceEqDiff, Nat.reduceLeDiff, isNon, Int.zero_add, and_self, eq_self, ix0, ix1, ix2, ix3, ix4, ix5, isi_int, isi_nbl, isi_tup, isi_str, eqs_ok, nes_ok, len_tup, ag2_ok, ag3_ok, ag4_ok, ag5_ok, ag6_ok, ag7_ok, ag8_ok, asN_ok, addI_ok, pairs_right h' ok' H']
        exact ⟨_, _, _, _, w', rfl, h'.mono (by omega), ok', g', H', by omega⟩
      have b0 := g'.B2 0 (Nat.zero_le 1)
      have b1 := g'.B2 1 (Nat.le_refl 1)
      have b0 : (w'.l 0).peer ≤ (w'.l 1).mine := b0
      have b1 : (w'.l 1).peer ≤ (w'.l 0).mine := b1
      by_cases c1 : (w'.l 0).ph = .sure
      · have d1 := ph_sure (w'.l 0).ph
        rw [decide_eq_true c1] at d1
        by_cases c2 : (w'.l 1).ph = .sure
        · have d2 := ph_sure (w'.l 1).ph
          rw [decide_eq_true c2] at d2
          by_cases e1 : (w'.l 0).peer = (w'.l 1).mine
          · have e1' : (((w'.l 0).peer : Nat) : Int) = (((w'.l 1).mine : Nat) : Int) := by omega
            by_cases e2 : (w'.l 1).peer = (w'.l 0).mine
            · have e2' : (((w'.l 1).peer : Nat) : Int) = (((w'.l 0).mine : Nat) : Int) := by omega
              simp only [↓wpo, ↓wps, ↓w_var, ↓w_k, ↓w_aNil, ↓w_aCons, ↓w_tupN0, ↓w_tupN1, ↓w_tupN2, ↓w_tupN3, ↓w_tupN4, ↓w_tupN5, ↓w_tupN6, ↓w_tupN7, ↓w_tupN8, ↓w_lstN0, ↓w_lstN1, ↓w_lstN2, ↓w_lstN3, ↓w_lstN4, ↓w_lstN5, ↓w_lstN6, ↓w_lstN7, ↓w_lstN8, ↓w_2, ↓w_1, ↓w_call, ↓w_if, ↓w_and, ↓w_or, ↓w_not, ↓w_bE, ↓w_bAnd, ↓w_bOr, ↓w_bNot, ↓w_bTrue, ↓w_chain, ↓w_oNone, ↓w_oSome, ↓w_slice, ↓w_kNil, ↓w_kCons, ↓w_dct, ↓w_dct0, ↓w_lst1, ↓w_fs, ↓w_get1, ↓w_get2, ↓ws_pass, ↓ws_break, ↓ws_cont, ↓ws_retN, ↓ws_seq, ↓ws_set, ↓ws_par, ↓ws_par3, ↓ws_expr, ↓ws_ret, ↓ws_if, ↓ws_raise, ↓ws_try, ↓ws_ag2, ↓ws_ag3, ↓ws_ag4, ↓ws_ag5, ↓ws_ag6, ↓ws_ag7, ↓ws_ag8, ↓ws_agS, ↓ws_augS, ↓ws_aug, ↓w_popN, ↓ws_nxo, ↓ws_sub, ↓ws_for, ↓wi_range1, ↓wi_range2, ↓wi_range3, ↓wi_seq, ↓wi_enum, wpo_ok, wpo_err, wpo_bind, ws_nx, ws_rt, ws_bk, ws_ct, ws_er, sq_nx, sq_rt, sq_bk, sq_ct, sq_er, lq_nx, lq_ct, lq_bk, lq_rt, lq_er, fq_nx, fq_rt, fq_er, tq_nx, tq_rt, tq_bk, tq_ct, tq_er, asV_ok, asB_ok, asI_ok, asK_int, asK_str, asP_ok, asP3_ok, asM_ok, asS_tup, asS_fz, asE_tup, asE_fz, add_ok, sub_ok, eq_ok, ne_ok, lt_ok, le_ok, gt_ok, ge_ok, neg_ok, isn_ok, notn_ok, int_ok, bind_ok, List.map_cons, List.map_nil, List.replicate, List.cons_append, List.nil_append, List.getElem?_cons_zero, List.getElem?_cons_succ, List.set_cons_zero, List.set_cons_succ, if_true, if_false, Bool.not_true, Bool.not_false, gc_same, Bool.false_eq_true, decide_true, decide_false, tName, tTup, tsCons, tsNil, List.length_cons, List.length_nil, ite_true, ite_false, reduceIte, reduceCtorEq, Nat.zero_add, Nat.reduceAdd, Nat.reduceEqDiff, Nat.reduceLeDiff, isNon, Int.zero_add, and_self, eq_self, ix0, ix1, ix2, ix3, ix4, ix5, isi_int, isi_nbl, isi_tup, isi_str, eqs_ok, nes_ok, len_tup, ag2_ok, ag3_ok, ag4_ok, ag5_ok, ag6_ok, ag7_ok, ag8_ok, asN_ok, addI_ok, dl1, dl2, dl3, d1, d2, decide_eq_true e1', decide_eq_true e2']
              exact fin _
            · have e2' : ¬ (((w'.l 1).peer : Nat) : Int) = (((w'.l 0).mine : Nat) : Int) := by omega
              have g1 : (((w'.l 0).peer : Nat) : Int) ≥ (((w'.l 1).mine : Nat) : Int) := by omega
              have g2 : ¬ (((w'.l 1).peer : Nat) : Int) ≥ (((w'.l 0).mine : Nat) : Int) := by omega
              simp only [↓wpo, ↓wps, ↓w_var, ↓w_k, ↓w_aNil, ↓w_aCons, ↓w_tupN0, ↓w_tupN1, ↓w_tupN2, ↓w_tupN3, ↓w_tupN4, ↓w_tupN5, ↓w_tupN6, ↓w_tupN7, ↓w_tupN8, ↓w_lstN0, ↓w_lstN1, ↓w_lstN2, ↓w_lstN3, ↓w_lstN4, ↓w_lstN5, ↓w_lstN6, ↓w_lstN7, ↓w_lstN8, ↓w_2, ↓w_1, ↓w_call, ↓w_if, ↓w_and, ↓w_or, ↓w_not, ↓w_bE, ↓w_bAnd, ↓w_bOr, ↓w_bNot, ↓w_bTrue, ↓w_chain, ↓w_oNone, ↓w_oSome, ↓w_slice, ↓w_kNil, ↓w_kCons, ↓w_dct, ↓w_dct0, ↓w_lst1, ↓w_fs, ↓w_get1, ↓w_get2, ↓ws_pass, ↓ws_break, ↓ws_cont, ↓ws_retN, ↓ws_seq, ↓ws_set, ↓ws_par, ↓ws_par3, ↓ws_expr, ↓ws_ret, ↓ws_if, ↓ws_raise, ↓ws_try, ↓ws_ag2, ↓ws_ag3, ↓ws_ag4, ↓ws_ag5, ↓ws_ag6, ↓ws_ag7, ↓ws_ag8, ↓ws_agS, ↓ws_augS, ↓ws_aug, ↓w_popN, ↓ws_nxo, ↓ws_sub, ↓ws_for, ↓wi_range1, ↓wi_range2, ↓wi_range3, ↓wi_seq, ↓wi_enum, wpo_ok, wpo_err, wpo_bind, ws_nx, ws_rt, ws_bk, ws_ct, ws_er, sq_nx, sq_rt, sq_bk, sq_ct, sq_er, lq_nx, lq_ct, lq_bk, lq_rt, lq_er, fq_nx, fq_rt, fq_er, tq_nx, tq_rt, tq_bk, tq_ct, tq_er, asV_ok, asB_ok, asI_ok, asK_int, asK_str, asP_ok, asP3_ok, asM_ok, asS_tup, asS_fz, asE_tup, asE_fz, add_ok, sub_ok, eq_ok, ne_ok, lt_ok, le_ok, gt_ok, ge_ok, neg_ok, isn_ok, notn_ok, int_ok, bind_ok, List.map_cons, List.map_nil, List.replicate, List.cons_append, List.nil_append, List.getElem?_cons_zero, List.getElem?_cons_succ, List.set_cons_zero, List.set_cons_succ, if_true, if_false, Bool.not_true, Bool.not_false, gc_same, Bool.false_eq_true, decide_true, decide_false, tName, tTup, tsCons, tsNil, List.length_cons, List.length_nil, ite_true, ite_false, reduceIte, reduceCtorEq, Nat.zero_add, Nat.reduceAdd, Nat.reduceEqDiff, Nat.reduceLeDiff, isNon, Int.zero_add, and_self, eq_self, ix0, ix1, ix2, ix3, ix4, ix5, isi_int, isi_nbl, isi_tup, isi_str, eqs_ok, nes_ok, len_tup, ag2_ok, ag3_ok, ag4_ok, ag5_ok, ag6_ok, ag7_ok, ag8_ok, asN_ok, addI_ok, dl1, dl2, dl3, d1, d2, decide_eq_true e1', decide_eq_false e2', decide_eq_true g1, decide_eq_false g2]
              exact fin _
          · have e1' : ¬ (((w'.l 0).peer : Nat) : Int) = (((w'.l 1).mine : Nat) : Int) := by omega
            have g1 : ¬ (((w'.l 0).peer : Nat) : Int) ≥ (((w'.l 1).mine : Nat) : Int) := by omega
            simp only [↓wpo, ↓wps, ↓w_var, ↓w_k, ↓w_aNil, ↓w_aCons, ↓w_tupN0, ↓w_tupN1, ↓w_tupN2, ↓w_tupN3, ↓w_tupN4, ↓w_tupN5, ↓w_tupN6, ↓w_tupN7, ↓w_tupN8, ↓w_lstN0, ↓w_lstN1, ↓w_lstN2, ↓w_lstN3, ↓w_lstN4, ↓w_lstN5, ↓w_lstN6, ↓w_lstN7, ↓w_lstN8, ↓w_2, ↓w_1, ↓w_call, ↓w_if, ↓w_and, ↓w_or, ↓w_not, ↓w_bE, ↓w_bAnd, ↓w_bOr, ↓w_bNot, ↓w_bTrue, ↓w_chain, ↓w_oNone, ↓w_oSome, ↓w_slice, ↓w_kNil, ↓w_kCons, ↓w_dct, ↓w_dct0, ↓w_lst1, ↓w_fs, ↓w_get1, ↓w_get2, ↓ws_pass, ↓ws_break, ↓ws_cont, ↓ws_retN, ↓ws_seq, ↓ws_set, ↓ws_par, ↓ws_par3, ↓ws_expr, ↓ws_ret, ↓ws_if, ↓ws_raise, ↓ws_try, ↓ws_ag2, ↓ws_ag3, ↓ws_ag4, ↓ws_ag5, ↓ws_ag6, ↓ws_ag7, ↓ws_ag8, ↓ws_agS, ↓ws_augS, ↓ws_aug, ↓w_popN, ↓ws_nxo, ↓ws_sub, ↓ws_for, ↓wi_range1, ↓wi_range2, ↓wi_range3, ↓wi_seq, ↓wi_enum, wpo_ok, wpo_err, wpo_bind, ws_nx, ws_rt, ws_bk, ws_ct, ws_er, sq_nx, sq_rt, sq_bk, sq_ct, sq_er, lq_nx, lq_ct, lq_bk, lq_rt, lq_er, fq_nx, fq_rt, fq_er, tq_nx, tq_rt, tq_bk, tq_ct, tq_er, asV_ok, asB_ok, asI_ok, asK_int, asK_str, asP_ok, asP3_ok, asM_ok, asS_tup, asS_fz, asE_tup, asE_fz, add_ok, sub_ok, eq_ok, ne_ok, lt_ok, le_ok, gt_ok, ge_ok, neg_ok, isn_ok, notn_ok, int_ok, bind_ok, List.map_cons, List.map_nil, List.replicate, List.cons_append, List.nil_append, List.getElem?_cons_zero, List.getElem?_cons_succ, List.set_cons_zero, List.set_cons_succ, if_true, if_false, Bool.not_true, Bool.not_false, gc_same, Bool.false_eq_true, decide_true, decide_false, tName, tTup, tsCons, tsNil, List.length_cons, List.length_nil, ite_true, ite_false, reduceIte, reduceCtorEq, Nat.zero_add, Nat.reduceAdd, Nat.reduceEqDiff, Nat.reduceLeDiff, isNon, Int.zero_add, and_self, eq_self, ix0, ix1, ix2, ix3, ix4, ix5, isi_int, isi_nbl, isi_tup, isi_str, eqs_ok, nes_ok, len_tup, ag2_ok, ag3_ok, ag4_ok, ag5_ok, ag6_ok, ag7_ok, ag8_ok, asN_ok, addI_ok, dl1, dl2, dl3, d1, d2, decide_eq_false e1', decide_eq_false g1]
            exact fin _
        · have d2 := ph_sure (w'.l 1).ph
          rw [decide_eq_false c2] at d2
          simp only [↓wpo, ↓wps, ↓w_var, ↓w_k, ↓w_aNil, ↓w_aCons, ↓w_tupN0, ↓w_tupN1, ↓w_tupN2, ↓w_tupN3, ↓w_tupN4, ↓w_tupN5, ↓w_tupN6, ↓w_tupN7, ↓w_tupN8, ↓w_lstN0, ↓w_lstN1, ↓w_lstN2, ↓w_lstN3, ↓w_lstN4, ↓w_lstN5, ↓w_lstN6, ↓w_lstN7, ↓w_lstN8, ↓w_2, ↓w_1, ↓w_call, ↓w_if, ↓w_and, ↓w_or, ↓w_not, ↓w_bE, ↓w_bAnd, ↓w_bOr, ↓w_bNot, ↓w_bTrue, ↓w_chain, ↓w_oNone, ↓w_oSome, ↓w_slice, ↓w_kNil, ↓w_kCons, ↓w_dct, ↓w_dct0, ↓w_lst1, ↓w_fs, ↓w_get1, ↓w_get2, ↓ws_pass, ↓ws_break, ↓ws_cont, ↓ws_retN, ↓ws_seq, ↓ws_set, ↓ws_par, ↓ws_par3, ↓ws_expr, ↓ws_ret, ↓ws_if, ↓ws_raise, ↓ws_try, ↓ws_ag2, ↓ws_ag3, ↓ws_ag4, ↓ws_ag5, ↓ws_ag6, ↓ws_ag7, ↓ws_ag8, ↓ws_agS, ↓ws_augS, ↓ws_aug, ↓w_popN, ↓ws_nxo, ↓ws_sub, ↓ws_for, ↓wi_range1, ↓wi_range2, ↓wi_range3, ↓wi_seq, ↓wi_enum, wpo_ok, wpo_err, wpo_bind, ws_nx, ws_rt, ws_bk, ws_ct, ws_er, sq_nx, sq_rt, sq_bk, sq_ct, sq_er, lq_nx, lq_ct, lq_bk, lq_rt, lq_er, fq_nx, fq_rt, fq_er, tq_nx, tq_rt, tq_bk, tq_ct, tq_er, asV_ok, asB_ok, asI_ok, asK_int, asK_str, asP_ok, asP3_ok, asM_ok, asS_tup, asS_fz, asE_tup, asE_fz, add_ok, sub_ok, eq_ok, ne_ok, lt_ok, le_ok, gt_ok, ge_ok, neg_ok, isn_ok, notn_ok, int_ok, bind_ok, List.map_cons, List.map_nil, List.replicate, List.cons_append, List.nil_append, List.getElem?_cons_zero, List.getElem?_cons_succ, List.set_cons_zero, List.set_cons_succ, if_true, if_false, Bool.not_true, Bool.not_false, gc_same, Bool.false_eq_true, decide_true, decide_false, tName, tTup, tsCons, tsNil, List.length_cons, List.length_nil, ite_true, ite_false, reduceIte, reduceCtorEq, Nat.zero_add, Nat.reduceAdd, Nat.reduceEqDiff, Nat.reduceLeDiff, isNon, Int.zero_add, and_self, eq_self, ix0, ix1, ix2, ix3, ix4, ix5, isi_int, isi_nbl, isi_tup, isi_str, eqs_ok, nes_ok, len_tup, ag2_ok, ag3_ok, ag4_ok, ag5_ok, ag6_ok, ag7_ok, ag8_ok, asN_ok, addI_ok, dl3, d1, d2]
          exact fin _
      · have d1 := ph_sure (w'.l 0).ph
        rw [decide_eq_false c1] at d1
        simp only [↓wpo, ↓wps, ↓w_var, ↓w_k, ↓w_aNil, ↓w_aCons, ↓w_tupN0, ↓w_tupN1, ↓w_tupN2, ↓w_tupN3, ↓w_tupN4, ↓w_tupN5, ↓w_tupN6, ↓w_tupN7, ↓w_tupN8, ↓w_lstN0, ↓w_lstN1, ↓w_lstN2, ↓w_lstN3, ↓w_lstN4, ↓w_lstN5, ↓w_lstN6, ↓w_lstN7, ↓w_lstN8, ↓w_2, ↓w_1, ↓w_call, ↓w_if, ↓w_and, ↓w_or, ↓w_not, ↓w_bE, ↓w_bAnd, ↓w_bOr, ↓w_bNot, ↓w_bTrue, ↓w_chain, ↓w_oNone, ↓w_oSome, ↓w_slice, ↓w_kNil, ↓w_kCons, ↓w_dct, ↓w_dct0, ↓w_lst1, ↓w_fs, ↓w_get1, ↓w_get2, ↓ws_pass, ↓ws_break, ↓ws_cont, ↓ws_retN, ↓ws_seq, ↓ws_set, ↓ws_par, ↓ws_par3, ↓ws_expr, ↓ws_ret, ↓ws_if, ↓ws_raise, ↓ws_try, ↓ws_ag2, ↓ws_ag3, ↓ws_ag4, ↓ws_ag5, ↓ws_ag6, ↓ws_ag7, ↓ws_ag8, ↓ws_agS, ↓ws_augS, ↓ws_aug, ↓w_popN, ↓ws_nxo, ↓ws_sub, ↓ws_for, ↓wi_range1, ↓wi_range2, ↓wi_range3, ↓wi_seq, ↓wi_enum, wpo_ok, wpo_err, wpo_bind, ws_nx, ws_rt, ws_bk, ws_ct, ws_er, sq_nx, sq_rt, sq_bk, sq_ct, sq_er, lq_nx, lq_ct, lq_bk, lq_rt, lq_er, fq_nx, fq_rt, fq_er, tq_nx, tq_rt, tq_bk, tq_ct, tq_er, asV_ok, asB_ok, asI_ok, asK_int, asK_str, asP_ok, asP3_ok, asM_ok, asS_tup, asS_fz, asE_tup, asE_fz, add_ok, sub_ok, eq_ok, ne_ok, lt_ok, le_ok, gt_ok, ge_ok, neg_ok, isn_ok, notn_ok, int_ok, bind_ok, List.map_cons, List.map_nil, List.replicate, List.cons_append, List.nil_append, List.getElem?_cons_zero, List.getElem?_cons_succ, List.set_cons_zero, List.set_cons_succ, if_true, if_false, Bool.not_true, Bool.not_false, gc_same, Bool.false_eq_true, decide_true, decide_false, tName, tTup, tsCons, tsNil, List.length_cons, List.length_nil, ite_true, ite_false, reduceIte, reduceCtorEq, Nat.zero_add, Nat.reduceAdd, Nat.reduceEqDiff, Nat.reduceLeDiff, isNon, Int.zero_add, and_self, eq_self, ix0, ix1, ix2, ix3, ix4, ix5, isi_int, isi_nbl, isi_tup, isi_str, eqs_ok, nes_ok, len_tup, ag2_ok, ag3_ok, ag4_ok, ag5_ok, ag6_ok, ag7_ok, ag8_ok, asN_ok, addI_ok, dl3, d1]
        exact fin _
    · rintro r M ⟨a3, a4, a5, a6, w, rfl, h, ok, g, H, hc⟩
      rw [← hQ3, sq_nx]
      simp only [↓wpo, ↓wps, ↓w_var, ↓w_k, ↓w_aNil, ↓w_aCons, ↓w_tupN0, ↓w_tupN1, ↓w_tupN2, ↓w_tupN3, ↓w_tupN4, ↓w_tupN5, ↓w_tupN6, ↓w_tupN7, ↓w_tupN8, ↓w_lstN0, ↓w_lstN1, ↓w_lstN2, ↓w_lstN3, ↓w_lstN4, ↓w_lstN5, ↓w_lstN6, ↓w_lstN7, ↓w_lstN8, ↓w_2, ↓w_1, ↓w_call, ↓w_if, ↓w_and, ↓w_or, ↓w_not, ↓w_bE, ↓w_bAnd, ↓w_bOr, ↓w_bNot, ↓w_bTrue, ↓w_chain, ↓w_oNone, ↓w_oSome, ↓w_slice, ↓w_kNil, ↓w_kCons, ↓w_dct, ↓w_dct0, ↓w_lst1, ↓w_fs, ↓w_get1, ↓w_get2, ↓ws_pass, ↓ws_break, ↓ws_cont, ↓ws_retN, ↓ws_seq, ↓ws_set, ↓ws_par, ↓ws_par3, ↓ws_expr, ↓ws_ret, ↓ws_if, ↓ws_raise, ↓ws_try, ↓ws_ag2, ↓ws_ag3, ↓ws_ag4, ↓ws_ag5, ↓ws_ag6, ↓ws_ag7, ↓ws_ag8, ↓ws_agS, ↓ws_augS, ↓ws_aug, ↓w_popN, ↓ws_nxo, ↓ws_sub, ↓ws_for, ↓wi_range1, ↓wi_range2, ↓wi_range3, ↓wi_seq, ↓wi_enum, wpo_ok, wpo_err, wpo_bind, ws_nx, ws_rt, ws_bk, ws_ct, ws_er, sq_nx, sq_rt, sq_bk, sq_ct, sq_er, lq_nx, lq_ct, lq_bk, lq_rt, lq_er, fq_nx, fq_rt, fq_er, tq_nx, tq_rt, tq_bk, tq_ct, tq_er, asV_ok, asB_ok, asI_ok, asK_int, asK_str, asP_ok, asP3_ok, asM_ok, asS_tup, asS_fz, asE_tup, asE_fz, add_ok, sub_ok, eq_ok, ne_ok, lt_ok, le_ok, gt_ok, ge_ok, neg_ok, isn_ok, notn_ok, int_ok, bind_ok, List.map_cons, List.map_nil, List.replicate, List.cons_append, List.nil_append, List.getElem?_cons_zero, List.getElem?_cons_succ, List.set_cons_zero, List.set_cons_succ, if_true, if_false, Bool.not_true, Bool.not_false, gc_same, Bool.false_eq_true, decide_true, decide_false, tName, tTup, tsCons, tsNil, List.length_cons, List.length_nil, ite_true, ite_false, reduceIte, reduceCtorEq, Nat.zero_add, Nat.reduceAdd, Nat.reduceEqDiff, Nat.reduceLeDiff, isNon, Int.zero_add, and_self, eq_self, ix0, ix1, ix2, ix3, ix4, ix5, isi_int, isi_nbl, isi_tup, isi_str, eqs_ok, nes_ok, len_tup, ag2_ok, ag3_ok, ag4_ok, ag5_ok, ag6_ok, ag7_ok, ag8_ok, asN_ok, addI_ok]
  obtain ⟨d, M, e, rfl⟩ := wpo_ex goal
  exact ⟨M, e⟩
end LawT
end PV

set_option Elab.async false
set_option linter.all false
set_option maxRecDepth 100000
set_option maxHeartbeats 8000000
namespace PV
namespace LawT
open PySem PySem.Spec PyProof.Rows L2
theorem go {w : World} {K : PySem.W.Frag} {mg : Str → Option Value} {h : Heap} {fa : Addr} (KX : K.In h) (G : h.Ns mainGlobals mg) (hmg : mg "law" = some (.ref fa))
     {C0 : Addr} {n0 q0 : Str} {N0 W0 : Addr} {bs0 : List Value} {sn0 : List Str} {su0 : List Value} {ab0 : Bool} {co0 : Option Bool} {dd0 : Option Addr} {m0a m0b m0c m0d m0e : Option Value} {I0 cc0 cd0 : Addr} {oc0 : Value} {od0 : Option Addr} {qf0 : Str} {dc0 pm0 : Value} {an0 : Option Addr} {ct0 : Value} {ol0 : Array (Option Value)} {ka0 : Value} {kb0 : Option Addr} {kv0 : Array Value} {ks0 : Array (Option Value)} {la0 : Value} {lb0 : Option Addr} {ls0 : Array (Option Value)} {tf0 : Tok} {C1 : Addr} {n1 q1 : Str} {N1 W1 : Addr} {bs1 : List Value} {sn1 : List Str} {su1 : List Value} {ab1 : Bool} {co1 : Option Bool} {dd1 : Option Addr} {m1a m1b m1c m1d m1e : Option Value} {I1 cc1 cd1 : Addr} {oc1 : Value} {od1 : Option Addr} {qf1 : Str} {dc1 pm1 : Value} {an1 : Option Addr} {ct1 : Value} {ol1 : Array (Option Value)} {ka1 : Value} {kb1 : Option Addr} {kv1 : Array Value} {ks1 : Array (Option Value)} {la1 : Value} {lb1 : Option Addr} {ls1 : Array (Option Value)} {tf1 : Tok} {C2 : Addr} {n2 q2 : Str} {N2 W2 : Addr} {bs2 : List Value} {sn2 : List Str} {su2 : List Value} {ab2 : Bool} {co2 : Option Bool} {dd2 : Option Addr} {m2a m2b m2c m2d m2e : Option Value} {I2 cc2 cd2 : Addr} {oc2 : Value} {od2 : Option Addr} {qf2 : Str} {dc2 pm2 : Value} {an2 : Option Addr} {ct2 : Value} {ol2 : Array (Option Value)} {ka2 : Value} {kb2 : Option Addr} {kv2 : Array Value} {ks2 : Array (Option Value)} {la2 : Value} {lb2 : Option Addr} {ls2 : Array (Option Value)} {tf2 : Tok} {C3 : Addr} {n3 q3 : Str} {N3 W3 : Addr} {bs3 : List Value} {sn3 : List Str} {su3 : List Value} {ab3 : Bool} {co3 : Option Bool} {dd3 : Option Addr} {m3a m3b m3c m3d m3e : Option Value} {I3 cc3 cd3 : Addr} {oc3 : Value} {od3 : Option Addr} {qf3 : Str} {dc3 pm3 : Value} {an3 : Option Addr} {ct3 : Value} {ol3 : Array (Option Value)} {ka3 : Value} {kb3 : Option Addr} {kv3 : Array Value} {ks3 : Array (Option Value)} {la3 : Value} {lb3 : Option Addr} {ls3 : Array (Option Value)} {tf3 : Tok} {C4 : Addr} {n4 q4 : Str} {N4 W4 : Addr} {bs4 : List Value} {sn4 : List Str} {su4 : List Value} {ab4 : Bool} {co4 : Option Bool} {dd4 : Option Addr} {m4a m4b m4c m4d m4e : Option Value} {I4 cc4 cd4 : Addr} {oc4 : Value} {od4 : Option Addr} {qf4 : Str} {dc4 pm4 : Value} {an4 : Option Addr} {ct4 : Value} {ol4 : Array (Option Value)} {ka4 : Value} {kb4 : Option Addr} {kv4 : Array Value} {ks4 : Array (Option Value)} {la4 : Value} {lb4 : Option Addr} {ls4 : Array (Option Value)} {tf4 : Tok} {F0 : Addr} {xa0 : Value} {xb0 xc0 : Option Addr} {xd0 : Array (Option Value)} {xe0 xf0 xg0 xh0 xi0 : Value} {F1 : Addr} {xa1 : Value} {xb1 xc1 : Option Addr} {xd1 : Array (Option Value)} {xe1 xf1 xg1 xh1 xi1 : Value} {F2 : Addr} {xa2 : Value} {xb2 xc2 : Option Addr} {xd2 : Array (Option Value)} {xe2 xf2 xg2 xh2 xi2 : Value} {F3 : Addr} {xa3 : Value} {xb3 xc3 : Option Addr} {xd3 : Array (Option Value)} {xe3 xf3 xg3 xh3 xi3 : Value} {F4 : Addr} {xa4 : Value} {xb4 xc4 : Option Addr} {xd4 : Array (Option Value)} {xe4 xf4 xg4 xh4 xi4 : Value} {F5 : Addr} {xa5 : Value} {xb5 xc5 : Option Addr} {xd5 : Array (Option Value)} {xe5 xf5 xg5 xh5 xi5 : Value} {F6 : Addr} {xa6 : Value} {xb6 xc6 : Option Addr} {xd6 : Array (Option Value)} {xe6 xf6 xg6 xh6 xi6 : Value} {F7 : Addr} {xa7 : Value} {xb7 xc7 : Option Addr} {xd7 : Array (Option Value)} {xe7 xf7 xg7 xh7 xi7 : Value} {F8 : Addr} {xa8 : Value} {xb8 xc8 : Option Addr} {xd8 : Array (Option Value)} {xe8 xf8 xg8 xh8 xi8 : Value} {F9 : Addr} {xa9 : Value} {xb9 xc9 : Option Addr} {xd9 : Array (Option Value)} {xe9 xf9 xg9 xh9 xi9 : Value} {F10 : Addr} {xa10 : Value} {xb10 xc10 : Option Addr} {xd10 : Array (Option Value)} {xe10 xf10 xg10 xh10 xi10 : Value} {F11 : Addr} {xa11 : Value} {xb11 xc11 : Option Addr} {xd11 : Array (Option Value)} {xe11 xf11 xg11 xh11 xi11 : Value} {F12 : Addr} {xa12 : Value} {xb12 xc12 : Option Addr} {xd12 : Array (Option Value)} {xe12 xf12 xg12 xh12 xi12 : Value} {F13 : Addr} {xa13 : Value} {xb13 xc13 : Option Addr} {xd13 : Array (Option Value)} {xe13 xf13 xg13 xh13 xi13 : Value} {F14 : Addr} {xa14 : Value} {xb14 xc14 : Option Addr} {xd14 : Array (Option Value)} {xe14 xf14 xg14 xh14 xi14 : Value} {F15 : Addr} {xa15 : Value} {xb15 xc15 : Option Addr} {xd15 : Array (Option Value)} {xe15 xf15 xg15 xh15 xi15 : Value} {F16 : Addr} {xa16 : Value} {xb16 xc16 : Option Addr} {xd16 : Array (Option Value)} {xe16 xf16 xg16 xh16 xi16 : Value} {F17 : Addr} {xa17 : Value} {xb17 xc17 : Option Addr} {xd17 : Array (Option Value)} {xe17 xf17 xg17 xh17 xi17 : Value} {F18 : Addr} {xa18 : Value} {xb18 xc18 : Option Addr} {xd18 : Array (Option Value)} {xe18 xf18 xg18 xh18 xi18 : Value} {F19 : Addr} {xa19 : Value} {xb19 xc19 : Option Addr} {xd19 : Array (Option Value)} {xe19 xf19 xg19 xh19 xi19 : Value} {F20 : Addr} {xa20 : Value} {xb20 xc20 : Option Addr} {xd20 : Array (Option Value)} {xe20 xf20 xg20 xh20 xi20 : Value} {F21 : Addr} {xa21 : Value} {xb21 xc21 : Option Addr} {xd21 : Array (Option Value)} {xe21 xf21 xg21 xh21 xi21 : Value} {F22 : Addr} {xa22 : Value} {xb22 xc22 : Option Addr} {xd22 : Array (Option Value)} {xe22 xf22 xg22 xh22 xi22 : Value} {F23 : Addr} {xa23 : Value} {xb23 xc23 : Option Addr} {xd23 : Array (Option Value)} {xe23 xf23 xg23 xh23 xi23 : Value} {F24 : Addr} {xa24 : Value} {xb24 xc24 : Option Addr} {xd24 : Array (Option Value)} {xe24 xf24 xg24 xh24 xi24 : Value} {F25 : Addr} {xa25 : Value} {xb25 xc25 : Option Addr} {xd25 : Array (Option Value)} {xe25 xf25 xg25 xh25 xi25 : Value} {F26 : Addr} {xa26 : Value} {xb26 xc26 : Option Addr} {xd26 : Array (Option Value)} {xe26 xf26 xg26 xh26 xi26 : Value} {F27 : Addr} {xa27 : Value} {xb27 xc27 : Option Addr} {xd27 : Array (Option Value)} {xe27 xf27 xg27 xh27 xi27 : Value} {F28 : Addr} {xa28 : Value} {xb28 xc28 : Option Addr} {xd28 : Array (Option Value)} {xe28 xf28 xg28 xh28 xi28 : Value} {F29 : Addr} {xa29 : Value} {xb29 xc29 : Option Addr} {xd29 : Array (Option Value)} {xe29 xf29 xg29 xh29 xi29 : Value} {gA_PHASES_0 : Addr} {gD_PHASES_0 : Option Addr} {gW_PHASES_0 : Array Value} {gK_PHASES_0 : Nat} {gS_PHASES_0 : Array (Option Value)} {gt_PHASES_1 : Tok} {gt_PHASES_2 : Tok} {gt_PHASES_3 : Tok}
    (opq : PySem.W.nsIn K cStatics "thirdparty.any" = some none)
    (noS : PySem.W.nsIn K mainGlobals "super" = some none)
    (aC0 : PySem.W.nsIn K mainGlobals "BadNumber" = some (some (.ref C0)))
    (xC0 : K.lookup C0 = some (excClassObj n0 q0 C0 N0 bs0 (.ref W0 :: PySem.HandSPX.veTail) true sn0 su0 ab0 co0 dd0 m0a m0b m0c m0d m0e "ValueError.__new__"))
    (sa0 : PySem.W.findIn K (.ref C0) "__setattr__" = some (some (.builtin "object.__setattr__")))
    (ga0 : PySem.W.findIn K (.ref C0) "__getattribute__" = some (some (.builtin "BaseException.__getattribute__")))
    (gg0 : PySem.W.findIn K (.ref C0) "__getattr__" = some none)
    (eC0 : PySem.W.subIn K (.ref C0) (.type "BaseException") = some true)
    (hC0 : PySem.W.hasDictIn K C0 = true)
    (kC0 : PySem.W.keepIn K (.ref C0) = true)
    (tC0 : PySem.W.typeIn K (.ref C0) = some (.type "type"))
    (sC0 : PySem.W.ks_superIn K C0 C0 "__init__" = some (some (.builtin "ValueError.__init__")))
    (iC0 : PySem.W.findIn K (.ref C0) "__init__" = some (some (.ref I0)))
    (tI0 : PySem.W.typeIn K (.ref I0) = some (.type "function"))
    (lI0 : K.lookup I0 = some ⟨oc0, od0, .func (PySem.W.ksFn "__init__" qf0 (defArgs (Er.initOf (top 2))) (defBody (Er.initOf (top 2))) (defScope (Er.initOf (top 2))) .none .none dc0 pm0 an0 (.ref cd0) ct0 cc0), ol0⟩)
    (cI0 : PySem.W.codeIn K (.ref cd0) qf0 = true)
    (ld0 : K.lookup cd0 = some ⟨ka0, kb0, .fields kv0, ks0⟩)
    (lc0 : K.lookup cc0 = some ⟨la0, lb0, .cell (some (.ref C0)), ls0⟩)
    (f0_0 : PySem.W.findIn K (.ref C0) "value" = some none)
    (fv0 : kv0[2]? = some (.str pwL.main.file tf0))
    (aC1 : PySem.W.nsIn K mainGlobals "BadLife" = some (some (.ref C1)))
    (xC1 : K.lookup C1 = some (excClassObj n1 q1 C1 N1 bs1 (.ref W1 :: PySem.HandSPX.veTail) true sn1 su1 ab1 co1 dd1 m1a m1b m1c m1d m1e "ValueError.__new__"))
    (sa1 : PySem.W.findIn K (.ref C1) "__setattr__" = some (some (.builtin "object.__setattr__")))
    (ga1 : PySem.W.findIn K (.ref C1) "__getattribute__" = some (some (.builtin "BaseException.__getattribute__")))
    (gg1 : PySem.W.findIn K (.ref C1) "__getattr__" = some none)
    (eC1 : PySem.W.subIn K (.ref C1) (.type "BaseException") = some true)
    (hC1 : PySem.W.hasDictIn K C1 = true)
    (kC1 : PySem.W.keepIn K (.ref C1) = true)
    (tC1 : PySem.W.typeIn K (.ref C1) = some (.type "type"))
    (sC1 : PySem.W.ks_superIn K C1 C1 "__init__" = some (some (.builtin "ValueError.__init__")))
    (iC1 : PySem.W.findIn K (.ref C1) "__init__" = some (some (.ref I1)))
    (tI1 : PySem.W.typeIn K (.ref I1) = some (.type "function"))
    (lI1 : K.lookup I1 = some ⟨oc1, od1, .func (PySem.W.ksFn "__init__" qf1 (defArgs (Er.initOf (top 3))) (defBody (Er.initOf (top 3))) (defScope (Er.initOf (top 3))) .none .none dc1 pm1 an1 (.ref cd1) ct1 cc1), ol1⟩)
    (cI1 : PySem.W.codeIn K (.ref cd1) qf1 = true)
    (ld1 : K.lookup cd1 = some ⟨ka1, kb1, .fields kv1, ks1⟩)
    (lc1 : K.lookup cc1 = some ⟨la1, lb1, .cell (some (.ref C1)), ls1⟩)
    (f1_0 : PySem.W.findIn K (.ref C1) "value" = some none)
    (fv1 : kv1[2]? = some (.str pwL.main.file tf1))
    (aC2 : PySem.W.nsIn K mainGlobals "BadSide" = some (some (.ref C2)))
    (xC2 : K.lookup C2 = some (excClassObj n2 q2 C2 N2 bs2 (.ref W2 :: PySem.HandSPX.veTail) true sn2 su2 ab2 co2 dd2 m2a m2b m2c m2d m2e "ValueError.__new__"))
    (sa2 : PySem.W.findIn K (.ref C2) "__setattr__" = some (some (.builtin "object.__setattr__")))
    (ga2 : PySem.W.findIn K (.ref C2) "__getattribute__" = some (some (.builtin "BaseException.__getattribute__")))
    (gg2 : PySem.W.findIn K (.ref C2) "__getattr__" = some none)
    (eC2 : PySem.W.subIn K (.ref C2) (.type "BaseException") = some true)
    (hC2 : PySem.W.hasDictIn K C2 = true)
    (kC2 : PySem.W.keepIn K (.ref C2) = true)
    (tC2 : PySem.W.typeIn K (.ref C2) = some (.type "type"))
    (sC2 : PySem.W.ks_superIn K C2 C2 "__init__" = some (some (.builtin "ValueError.__init__")))
    (iC2 : PySem.W.findIn K (.ref C2) "__init__" = some (some (.ref I2)))
    (tI2 : PySem.W.typeIn K (.ref I2) = some (.type "function"))
    (lI2 : K.lookup I2 = some ⟨oc2, od2, .func (PySem.W.ksFn "__init__" qf2 (defArgs (Er.initOf (top 4))) (defBody (Er.initOf (top 4))) (defScope (Er.initOf (top 4))) .none .none dc2 pm2 an2 (.ref cd2) ct2 cc2), ol2⟩)
    (cI2 : PySem.W.codeIn K (.ref cd2) qf2 = true)
    (ld2 : K.lookup cd2 = some ⟨ka2, kb2, .fields kv2, ks2⟩)
    (lc2 : K.lookup cc2 = some ⟨la2, lb2, .cell (some (.ref C2)), ls2⟩)
    (f2_0 : PySem.W.findIn K (.ref C2) "value" = some none)
    (fv2 : kv2[2]? = some (.str pwL.main.file tf2))
    (aC3 : PySem.W.nsIn K mainGlobals "BadLink" = some (some (.ref C3)))
    (xC3 : K.lookup C3 = some (excClassObj n3 q3 C3 N3 bs3 (.ref W3 :: PySem.HandSPX.veTail) true sn3 su3 ab3 co3 dd3 m3a m3b m3c m3d m3e "ValueError.__new__"))
    (sa3 : PySem.W.findIn K (.ref C3) "__setattr__" = some (some (.builtin "object.__setattr__")))
    (ga3 : PySem.W.findIn K (.ref C3) "__getattribute__" = some (some (.builtin "BaseException.__getattribute__")))
    (gg3 : PySem.W.findIn K (.ref C3) "__getattr__" = some none)
    (eC3 : PySem.W.subIn K (.ref C3) (.type "BaseException") = some true)
    (hC3 : PySem.W.hasDictIn K C3 = true)
    (kC3 : PySem.W.keepIn K (.ref C3) = true)
    (tC3 : PySem.W.typeIn K (.ref C3) = some (.type "type"))
    (sC3 : PySem.W.ks_superIn K C3 C3 "__init__" = some (some (.builtin "ValueError.__init__")))
    (iC3 : PySem.W.findIn K (.ref C3) "__init__" = some (some (.ref I3)))
    (tI3 : PySem.W.typeIn K (.ref I3) = some (.type "function"))
    (lI3 : K.lookup I3 = some ⟨oc3, od3, .func (PySem.W.ksFn "__init__" qf3 (defArgs (Er.initOf (top 5))) (defBody (Er.initOf (top 5))) (defScope (Er.initOf (top 5))) .none .none dc3 pm3 an3 (.ref cd3) ct3 cc3), ol3⟩)
    (cI3 : PySem.W.codeIn K (.ref cd3) qf3 = true)
    (ld3 : K.lookup cd3 = some ⟨ka3, kb3, .fields kv3, ks3⟩)
    (lc3 : K.lookup cc3 = some ⟨la3, lb3, .cell (some (.ref C3)), ls3⟩)
    (f3_0 : PySem.W.findIn K (.ref C3) "word" = some none)
    (fv3 : kv3[2]? = some (.str pwL.main.file tf3))
    (aC4 : PySem.W.nsIn K mainGlobals "TooGreat" = some (some (.ref C4)))
    (xC4 : K.lookup C4 = some (excClassObj n4 q4 C4 N4 bs4 (.ref W4 :: PySem.HandSPX.veTail) true sn4 su4 ab4 co4 dd4 m4a m4b m4c m4d m4e "ValueError.__new__"))
    (sa4 : PySem.W.findIn K (.ref C4) "__setattr__" = some (some (.builtin "object.__setattr__")))
    (ga4 : PySem.W.findIn K (.ref C4) "__getattribute__" = some (some (.builtin "BaseException.__getattribute__")))
    (gg4 : PySem.W.findIn K (.ref C4) "__getattr__" = some none)
    (eC4 : PySem.W.subIn K (.ref C4) (.type "BaseException") = some true)
    (hC4 : PySem.W.hasDictIn K C4 = true)
    (kC4 : PySem.W.keepIn K (.ref C4) = true)
    (tC4 : PySem.W.typeIn K (.ref C4) = some (.type "type"))
    (sC4 : PySem.W.ks_superIn K C4 C4 "__init__" = some (some (.builtin "ValueError.__init__")))
    (iC4 : PySem.W.findIn K (.ref C4) "__init__" = some (some (.ref I4)))
    (tI4 : PySem.W.typeIn K (.ref I4) = some (.type "function"))
    (lI4 : K.lookup I4 = some ⟨oc4, od4, .func (PySem.W.ksFn "__init__" qf4 (defArgs (Er.initOf (top 6))) (defBody (Er.initOf (top 6))) (defScope (Er.initOf (top 6))) .none .none dc4 pm4 an4 (.ref cd4) ct4 cc4), ol4⟩)
    (cI4 : PySem.W.codeIn K (.ref cd4) qf4 = true)
    (ld4 : K.lookup cd4 = some ⟨ka4, kb4, .fields kv4, ks4⟩)
    (lc4 : K.lookup cc4 = some ⟨la4, lb4, .cell (some (.ref C4)), ls4⟩)
    (f4_0 : PySem.W.findIn K (.ref C4) "most" = some none)
    (fv4 : kv4[2]? = some (.str pwL.main.file tf4))
    (aF0 : PySem.W.nsIn K mainGlobals "is_whole" = some (some (.ref F0)))
    (lF0 : K.lookup F0 = some ⟨xa0, xb0, .func (PySem.W.fnOf "is_whole" "is_whole" (defArgs (top 8)) (defBody (top 8)) (defScope (top 8)) .none xe0 xf0 xg0 xc0 xh0 xi0), xd0⟩)
    (cF0 : PySem.W.codeIn K xh0 "is_whole" = true)
    (kF0 : PySem.W.keepIn K (.ref F0) = true)
    (aF1 : PySem.W.nsIn K mainGlobals "is_within" = some (some (.ref F1)))
    (lF1 : K.lookup F1 = some ⟨xa1, xb1, .func (PySem.W.fnOf "is_within" "is_within" (defArgs (top 9)) (defBody (top 9)) (defScope (top 9)) .none xe1 xf1 xg1 xc1 xh1 xi1), xd1⟩)
    (cF1 : PySem.W.codeIn K xh1 "is_within" = true)
    (kF1 : PySem.W.keepIn K (.ref F1) = true)
    (aF2 : PySem.W.nsIn K mainGlobals "is_tuple_of" = some (some (.ref F2)))
    (lF2 : K.lookup F2 = some ⟨xa2, xb2, .func (PySem.W.fnOf "is_tuple_of" "is_tuple_of" (defArgs (top 10)) (defBody (top 10)) (defScope (top 10)) .none xe2 xf2 xg2 xc2 xh2 xi2), xd2⟩)
    (cF2 : PySem.W.codeIn K xh2 "is_tuple_of" = true)
    (kF2 : PySem.W.keepIn K (.ref F2) = true)
    (aF3 : PySem.W.nsIn K mainGlobals "need_side" = some (some (.ref F3)))
    (lF3 : K.lookup F3 = some ⟨xa3, xb3, .func (PySem.W.fnOf "need_side" "need_side" (defArgs (top 13)) (defBody (top 13)) (defScope (top 13)) .none xe3 xf3 xg3 xc3 xh3 xi3), xd3⟩)
    (cF3 : PySem.W.codeIn K xh3 "need_side" = true)
    (kF3 : PySem.W.keepIn K (.ref F3) = true)
    (aF4 : PySem.W.nsIn K mainGlobals "is_kind" = some (some (.ref F4)))
    (lF4 : K.lookup F4 = some ⟨xa4, xb4, .func (PySem.W.fnOf "is_kind" "is_kind" (defArgs (top 14)) (defBody (top 14)) (defScope (top 14)) .none xe4 xf4 xg4 xc4 xh4 xi4), xd4⟩)
    (cF4 : PySem.W.codeIn K xh4 "is_kind" = true)
    (kF4 : PySem.W.keepIn K (.ref F4) = true)
    (aF5 : PySem.W.nsIn K mainGlobals "is_life" = some (some (.ref F5)))
    (lF5 : K.lookup F5 = some ⟨xa5, xb5, .func (PySem.W.fnOf "is_life" "is_life" (defArgs (top 15)) (defBody (top 15)) (defScope (top 15)) .none xe5 xf5 xg5 xc5 xh5 xi5), xd5⟩)
    (cF5 : PySem.W.codeIn K xh5 "is_life" = true)
    (kF5 : PySem.W.keepIn K (.ref F5) = true)
    (aF6 : PySem.W.nsIn K mainGlobals "need_life" = some (some (.ref F6)))
    (lF6 : K.lookup F6 = some ⟨xa6, xb6, .func (PySem.W.fnOf "need_life" "need_life" (defArgs (top 16)) (defBody (top 16)) (defScope (top 16)) .none xe6 xf6 xg6 xc6 xh6 xi6), xd6⟩)
    (cF6 : PySem.W.codeIn K xh6 "need_life" = true)
    (kF6 : PySem.W.keepIn K (.ref F6) = true)
    (aF7 : PySem.W.nsIn K mainGlobals "next_life" = some (some (.ref F7)))
    (lF7 : K.lookup F7 = some ⟨xa7, xb7, .func (PySem.W.fnOf "next_life" "next_life" (defArgs (top 17)) (defBody (top 17)) (defScope (top 17)) .none xe7 xf7 xg7 xc7 xh7 xi7), xd7⟩)
    (cF7 : PySem.W.codeIn K xh7 "next_life" = true)
    (kF7 : PySem.W.keepIn K (.ref F7) = true)
    (aF8 : PySem.W.nsIn K mainGlobals "is_peer" = some (some (.ref F8)))
    (lF8 : K.lookup F8 = some ⟨xa8, xb8, .func (PySem.W.fnOf "is_peer" "is_peer" (defArgs (top 20)) (defBody (top 20)) (defScope (top 20)) .none xe8 xf8 xg8 xc8 xh8 xi8), xd8⟩)
    (cF8 : PySem.W.codeIn K xh8 "is_peer" = true)
    (kF8 : PySem.W.keepIn K (.ref F8) = true)
    (aF9 : PySem.W.nsIn K mainGlobals "link_fault" = some (some (.ref F9)))
    (lF9 : K.lookup F9 = some ⟨xa9, xb9, .func (PySem.W.fnOf "link_fault" "link_fault" (defArgs (top 21)) (defBody (top 21)) (defScope (top 21)) .none xe9 xf9 xg9 xc9 xh9 xi9), xd9⟩)
    (cF9 : PySem.W.codeIn K xh9 "link_fault" = true)
    (kF9 : PySem.W.keepIn K (.ref F9) = true)
    (aF10 : PySem.W.nsIn K mainGlobals "need_link" = some (some (.ref F10)))
    (lF10 : K.lookup F10 = some ⟨xa10, xb10, .func (PySem.W.fnOf "need_link" "need_link" (defArgs (top 22)) (defBody (top 22)) (defScope (top 22)) .none xe10 xf10 xg10 xc10 xh10 xi10), xd10⟩)
    (cF10 : PySem.W.codeIn K xh10 "need_link" = true)
    (kF10 : PySem.W.keepIn K (.ref F10) = true)
    (aF11 : PySem.W.nsIn K mainGlobals "need_header" = some (some (.ref F11)))
    (lF11 : K.lookup F11 = some ⟨xa11, xb11, .func (PySem.W.fnOf "need_header" "need_header" (defArgs (top 23)) (defBody (top 23)) (defScope (top 23)) .none xe11 xf11 xg11 xc11 xh11 xi11), xd11⟩)
    (cF11 : PySem.W.codeIn K xh11 "need_header" = true)
    (kF11 : PySem.W.keepIn K (.ref F11) = true)
    (aF12 : PySem.W.nsIn K mainGlobals "heard_by" = some (some (.ref F12)))
    (lF12 : K.lookup F12 = some ⟨xa12, xb12, .func (PySem.W.fnOf "heard_by" "heard_by" (defArgs (top 24)) (defBody (top 24)) (defScope (top 24)) .none xe12 xf12 xg12 xc12 xh12 xi12), xd12⟩)
    (cF12 : PySem.W.codeIn K xh12 "heard_by" = true)
    (kF12 : PySem.W.keepIn K (.ref F12) = true)
    (aF13 : PySem.W.nsIn K mainGlobals "link_heard" = some (some (.ref F13)))
    (lF13 : K.lookup F13 = some ⟨xa13, xb13, .func (PySem.W.fnOf "link_heard" "link_heard" (defArgs (top 25)) (defBody (top 25)) (defScope (top 25)) .none xe13 xf13 xg13 xc13 xh13 xi13), xd13⟩)
    (cF13 : PySem.W.codeIn K xh13 "link_heard" = true)
    (kF13 : PySem.W.keepIn K (.ref F13) = true)
    (aF14 : PySem.W.nsIn K mainGlobals "link_again" = some (some (.ref F14)))
    (lF14 : K.lookup F14 = some ⟨xa14, xb14, .func (PySem.W.fnOf "link_again" "link_again" (defArgs (top 26)) (defBody (top 26)) (defScope (top 26)) .none xe14 xf14 xg14 xc14 xh14 xi14), xd14⟩)
    (cF14 : PySem.W.codeIn K xh14 "link_again" = true)
    (kF14 : PySem.W.keepIn K (.ref F14) = true)
    (aF15 : PySem.W.nsIn K mainGlobals "_law_mixed" = some (some (.ref F15)))
    (lF15 : K.lookup F15 = some ⟨xa15, xb15, .func (PySem.W.fnOf "_law_mixed" "_law_mixed" (defArgs (top 28)) (defBody (top 28)) (defScope (top 28)) .none xe15 xf15 xg15 xc15 xh15 xi15), xd15⟩)
    (cF15 : PySem.W.codeIn K xh15 "_law_mixed" = true)
    (kF15 : PySem.W.keepIn K (.ref F15) = true)
    (aF16 : PySem.W.nsIn K mainGlobals "_law_folded" = some (some (.ref F16)))
    (lF16 : K.lookup F16 = some ⟨xa16, xb16, .func (PySem.W.fnOf "_law_folded" "_law_folded" (defArgs (top 29)) (defBody (top 29)) (defScope (top 29)) .none xe16 xf16 xg16 xc16 xh16 xi16), xd16⟩)
    (cF16 : PySem.W.codeIn K xh16 "_law_folded" = true)
    (kF16 : PySem.W.keepIn K (.ref F16) = true)
    (aF17 : PySem.W.nsIn K mainGlobals "_law_draw" = some (some (.ref F17)))
    (lF17 : K.lookup F17 = some ⟨xa17, xb17, .func (PySem.W.fnOf "_law_draw" "_law_draw" (defArgs (top 30)) (defBody (top 30)) (defScope (top 30)) .none xe17 xf17 xg17 xc17 xh17 xi17), xd17⟩)
    (cF17 : PySem.W.codeIn K xh17 "_law_draw" = true)
    (kF17 : PySem.W.keepIn K (.ref F17) = true)
    (aF18 : PySem.W.nsIn K mainGlobals "_law_begun" = some (some (.ref F18)))
    (lF18 : K.lookup F18 = some ⟨xa18, xb18, .func (PySem.W.fnOf "_law_begun" "_law_begun" (defArgs (top 31)) (defBody (top 31)) (defScope (top 31)) .none xe18 xf18 xg18 xc18 xh18 xi18), xd18⟩)
    (cF18 : PySem.W.codeIn K xh18 "_law_begun" = true)
    (kF18 : PySem.W.keepIn K (.ref F18) = true)
    (aF19 : PySem.W.nsIn K mainGlobals "_law_like" = some (some (.ref F19)))
    (lF19 : K.lookup F19 = some ⟨xa19, xb19, .func (PySem.W.fnOf "_law_like" "_law_like" (defArgs (top 32)) (defBody (top 32)) (defScope (top 32)) .none xe19 xf19 xg19 xc19 xh19 xi19), xd19⟩)
    (cF19 : PySem.W.codeIn K xh19 "_law_like" = true)
    (kF19 : PySem.W.keepIn K (.ref F19) = true)
    (aF20 : PySem.W.nsIn K mainGlobals "_law_of" = some (some (.ref F20)))
    (lF20 : K.lookup F20 = some ⟨xa20, xb20, .func (PySem.W.fnOf "_law_of" "_law_of" (defArgs (top 33)) (defBody (top 33)) (defScope (top 33)) .none xe20 xf20 xg20 xc20 xh20 xi20), xd20⟩)
    (cF20 : PySem.W.codeIn K xh20 "_law_of" = true)
    (kF20 : PySem.W.keepIn K (.ref F20) = true)
    (aF21 : PySem.W.nsIn K mainGlobals "_law_four_heard" = some (some (.ref F21)))
    (lF21 : K.lookup F21 = some ⟨xa21, xb21, .func (PySem.W.fnOf "_law_four_heard" "_law_four_heard" (defArgs (top 34)) (defBody (top 34)) (defScope (top 34)) .none xe21 xf21 xg21 xc21 xh21 xi21), xd21⟩)
    (cF21 : PySem.W.codeIn K xh21 "_law_four_heard" = true)
    (kF21 : PySem.W.keepIn K (.ref F21) = true)
    (aF22 : PySem.W.nsIn K mainGlobals "_law_four_begun" = some (some (.ref F22)))
    (lF22 : K.lookup F22 = some ⟨xa22, xb22, .func (PySem.W.fnOf "_law_four_begun" "_law_four_begun" (defArgs (top 35)) (defBody (top 35)) (defScope (top 35)) .none xe22 xf22 xg22 xc22 xh22 xi22), xd22⟩)
    (cF22 : PySem.W.codeIn K xh22 "_law_four_begun" = true)
    (kF22 : PySem.W.keepIn K (.ref F22) = true)
    (aF23 : PySem.W.nsIn K mainGlobals "_law_four_put" = some (some (.ref F23)))
    (lF23 : K.lookup F23 = some ⟨xa23, xb23, .func (PySem.W.fnOf "_law_four_put" "_law_four_put" (defArgs (top 36)) (defBody (top 36)) (defScope (top 36)) .none xe23 xf23 xg23 xc23 xh23 xi23), xd23⟩)
    (cF23 : PySem.W.codeIn K xh23 "_law_four_put" = true)
    (kF23 : PySem.W.keepIn K (.ref F23) = true)
    (aF24 : PySem.W.nsIn K mainGlobals "_law_four_send" = some (some (.ref F24)))
    (lF24 : K.lookup F24 = some ⟨xa24, xb24, .func (PySem.W.fnOf "_law_four_send" "_law_four_send" (defArgs (top 37)) (defBody (top 37)) (defScope (top 37)) .none xe24 xf24 xg24 xc24 xh24 xi24), xd24⟩)
    (cF24 : PySem.W.codeIn K xh24 "_law_four_send" = true)
    (kF24 : PySem.W.keepIn K (.ref F24) = true)
    (aF25 : PySem.W.nsIn K mainGlobals "_law_four_hear" = some (some (.ref F25)))
    (lF25 : K.lookup F25 = some ⟨xa25, xb25, .func (PySem.W.fnOf "_law_four_hear" "_law_four_hear" (defArgs (top 38)) (defBody (top 38)) (defScope (top 38)) .none xe25 xf25 xg25 xc25 xh25 xi25), xd25⟩)
    (cF25 : PySem.W.codeIn K xh25 "_law_four_hear" = true)
    (kF25 : PySem.W.keepIn K (.ref F25) = true)
    (aF26 : PySem.W.nsIn K mainGlobals "_law_four_crash" = some (some (.ref F26)))
    (lF26 : K.lookup F26 = some ⟨xa26, xb26, .func (PySem.W.fnOf "_law_four_crash" "_law_four_crash" (defArgs (top 39)) (defBody (top 39)) (defScope (top 39)) .none xe26 xf26 xg26 xc26 xh26 xi26), xd26⟩)
    (cF26 : PySem.W.codeIn K xh26 "_law_four_crash" = true)
    (kF26 : PySem.W.keepIn K (.ref F26) = true)
    (aF27 : PySem.W.nsIn K mainGlobals "_law_four_deed" = some (some (.ref F27)))
    (lF27 : K.lookup F27 = some ⟨xa27, xb27, .func (PySem.W.fnOf "_law_four_deed" "_law_four_deed" (defArgs (top 40)) (defBody (top 40)) (defScope (top 40)) .none xe27 xf27 xg27 xc27 xh27 xi27), xd27⟩)
    (cF27 : PySem.W.codeIn K xh27 "_law_four_deed" = true)
    (kF27 : PySem.W.keepIn K (.ref F27) = true)
    (aF28 : PySem.W.nsIn K mainGlobals "_law_pairs_right" = some (some (.ref F28)))
    (lF28 : K.lookup F28 = some ⟨xa28, xb28, .func (PySem.W.fnOf "_law_pairs_right" "_law_pairs_right" (defArgs (top 41)) (defBody (top 41)) (defScope (top 41)) .none xe28 xf28 xg28 xc28 xh28 xi28), xd28⟩)
    (cF28 : PySem.W.codeIn K xh28 "_law_pairs_right" = true)
    (kF28 : PySem.W.keepIn K (.ref F28) = true)
    (aF29 : PySem.W.nsIn K mainGlobals "law" = some (some (.ref F29)))
    (lF29 : K.lookup F29 = some ⟨xa29, xb29, .func (PySem.W.fnOf "law" "law" (defArgs (top 42)) (defBody (top 42)) (defScope (top 42)) .none xe29 xf29 xg29 xc29 xh29 xi29), xd29⟩)
    (cF29 : PySem.W.codeIn K xh29 "law" = true)
    (kF29 : PySem.W.keepIn K (.ref F29) = true)
    (b_bool : PySem.W.nsIn K mainGlobals "bool" = some none)
    (b_enumerate : PySem.W.nsIn K mainGlobals "enumerate" = some none)
    (b_int : PySem.W.nsIn K mainGlobals "int" = some none)
    (b_isinstance : PySem.W.nsIn K mainGlobals "isinstance" = some none)
    (b_len : PySem.W.nsIn K mainGlobals "len" = some none)
    (b_min : PySem.W.nsIn K mainGlobals "min" = some none)
    (b_range : PySem.W.nsIn K mainGlobals "range" = some none)
    (b_repr : PySem.W.nsIn K mainGlobals "repr" = some none)
    (b_str : PySem.W.nsIn K mainGlobals "str" = some none)
    (b_tuple : PySem.W.nsIn K mainGlobals "tuple" = some none)
    (g_MOST_LIFE : ∃ t, mg "MOST_LIFE" = some (.int (1152921504606846976) t))
    (aG_PHASES : PySem.W.nsIn K mainGlobals "PHASES" = some (some (.ref gA_PHASES_0)))
    (lG_PHASES_0 : K.lookup gA_PHASES_0 = some ⟨.type "tuple", gD_PHASES_0, .seq gW_PHASES_0 gK_PHASES_0, gS_PHASES_0⟩)
    (vG_PHASES_0 : gW_PHASES_0 = #[.str "new" gt_PHASES_1, .str "sure" gt_PHASES_2, .str "gone" gt_PHASES_3]) :
    LawF pwL w K mg fa 11 63 "_law_script" := by
  have T := tx_of KX G opq noS aC0 xC0 sa0 ga0 gg0 eC0 hC0 kC0 tC0 sC0 iC0 tI0 lI0 cI0 ld0 lc0 f0_0 fv0 aC1 xC1 sa1 ga1 gg1 eC1 hC1 kC1 tC1 sC1 iC1 tI1 lI1 cI1 ld1 lc1 f1_0 fv1 aC2 xC2 sa2 ga2 gg2 eC2 hC2 kC2 tC2 sC2 iC2 tI2 lI2 cI2 ld2 lc2 f2_0 fv2 aC3 xC3 sa3 ga3 gg3 eC3 hC3 kC3 tC3 sC3 iC3 tI3 lI3 cI3 ld3 lc3 f3_0 fv3 aC4 xC4 sa4 ga4 gg4 eC4 hC4 kC4 tC4 sC4 iC4 tI4 lI4 cI4 ld4 lc4 f4_0 fv4 aF0 lF0 cF0 kF0 aF1 lF1 cF1 kF1 aF2 lF2 cF2 kF2 aF3 lF3 cF3 kF3 aF4 lF4 cF4 kF4 aF5 lF5 cF5 kF5 aF6 lF6 cF6 kF6 aF7 lF7 cF7 kF7 aF8 lF8 cF8 kF8 aF9 lF9 cF9 kF9 aF10 lF10 cF10 kF10 aF11 lF11 cF11 kF11 aF12 lF12 cF12 kF12 aF13 lF13 cF13 kF13 aF14 lF14 cF14 kF14 aF15 lF15 cF15 kF15 aF16 lF16 cF16 kF16 aF17 lF17 cF17 kF17 aF18 lF18 cF18 kF18 aF19 lF19 cF19 kF19 aF20 lF20 cF20 kF20 aF21 lF21 cF21 kF21 aF22 lF22 cF22 kF22 aF23 lF23 cF23 kF23 aF24 lF24 cF24 kF24 aF25 lF25 cF25 kF25 aF26 lF26 cF26 kF26 aF27 lF27 cF27 kF27 aF28 lF28 cF28 kF28 aF29 lF29 cF29 kF29 b_bool b_enumerate b_int b_isinstance b_len b_min b_range b_repr b_str b_tuple g_MOST_LIFE aG_PHASES lG_PHASES_0 vG_PHASES_0
  have e := T.m_law.symm.trans hmg
  injection e with e
  injection e with e
  subst e
  refine ⟨_, GG K _, f_law, rfl, fun s u => ?_, fun base _ _ => d_law T, law_true⟩
  exact .of_eq rfl
end LawT
end PV
open PySem PySem.W PyProof.Rows
theorem PySem.Challenge.cw_prefixwire_k23_whole_lives_that_stand_holds : PySem.Challenge.rw_prefixwire_k23_whole_lives_that_stand.Holds := by
  w_on; o_law; k_head; (case hw => w_witness2)
  k_fill
  refine PV.walk_pv (l := PySem.Challenge.rw_prefixwire_k23_whole_lives_that_stand) (n := 63) (k := 11) (x := "_law_script") rfl (by decide +kernel) rfl ⟨rfl, by decide, by decide⟩ (fun w h Y => PySem.W.kIn_of Y) ?F
  case F =>
    intro w mg fa h hX KX G hmg
    refine' PV.LawT.go KX G hmg ?opq ?noS ?aC0 ?xC0 ?sa0 ?ga0 ?gg0 ?eC0 ?hC0 ?kC0 ?tC0 ?sC0 ?iC0 ?tI0 ?lI0 ?cI0 ?ld0 ?lc0 ?f0_0 ?fv0 ?aC1 ?xC1 ?sa1 ?ga1 ?gg1 ?eC1 ?hC1 ?kC1 ?tC1 ?sC1 ?iC1 ?tI1 ?lI1 ?cI1 ?ld1 ?lc1 ?f1_0 ?fv1 ?aC2 ?xC2 ?sa2 ?ga2 ?gg2 ?eC2 ?hC2 ?kC2 ?tC2 ?sC2 ?iC2 ?tI2 ?lI2 ?cI2 ?ld2 ?lc2 ?f2_0 ?fv2 ?aC3 ?xC3 ?sa3 ?ga3 ?gg3 ?eC3 ?hC3 ?kC3 ?tC3 ?sC3 ?iC3 ?tI3 ?lI3 ?cI3 ?ld3 ?lc3 ?f3_0 ?fv3 ?aC4 ?xC4 ?sa4 ?ga4 ?gg4 ?eC4 ?hC4 ?kC4 ?tC4 ?sC4 ?iC4 ?tI4 ?lI4 ?cI4 ?ld4 ?lc4 ?f4_0 ?fv4 ?aF0 ?lF0 ?cF0 ?kF0 ?aF1 ?lF1 ?cF1 ?kF1 ?aF2 ?lF2 ?cF2 ?kF2 ?aF3 ?lF3 ?cF3 ?kF3 ?aF4 ?lF4 ?cF4 ?kF4 ?aF5 ?lF5 ?cF5 ?kF5 ?aF6 ?lF6 ?cF6 ?kF6 ?aF7 ?lF7 ?cF7 ?kF7 ?aF8 ?lF8 ?cF8 ?kF8 ?aF9 ?lF9 ?cF9 ?kF9 ?aF10 ?lF10 ?cF10 ?kF10 ?aF11 ?lF11 ?cF11 ?kF11 ?aF12 ?lF12 ?cF12 ?kF12 ?aF13 ?lF13 ?cF13 ?kF13 ?aF14 ?lF14 ?cF14 ?kF14 ?aF15 ?lF15 ?cF15 ?kF15 ?aF16 ?lF16 ?cF16 ?kF16 ?aF17 ?lF17 ?cF17 ?kF17 ?aF18 ?lF18 ?cF18 ?kF18 ?aF19 ?lF19 ?cF19 ?kF19 ?aF20 ?lF20 ?cF20 ?kF20 ?aF21 ?lF21 ?cF21 ?kF21 ?aF22 ?lF22 ?cF22 ?kF22 ?aF23 ?lF23 ?cF23 ?kF23 ?aF24 ?lF24 ?cF24 ?kF24 ?aF25 ?lF25 ?cF25 ?kF25 ?aF26 ?lF26 ?cF26 ?kF26 ?aF27 ?lF27 ?cF27 ?kF27 ?aF28 ?lF28 ?cF28 ?kF28 ?aF29 ?lF29 ?cF29 ?kF29 ?b_bool ?b_enumerate ?b_int ?b_isinstance ?b_len ?b_min ?b_range ?b_repr ?b_str ?b_tuple ?g_MOST_LIFE ?aG_PHASES ?lG_PHASES_0 ?vG_PHASES_0
    (case opq => k_is)
    (case noS => k_is)
    (case aC0 => k_is)
    (case xC0 => k_is)
    (case sa0 => k_is)
    (case ga0 => k_is)
    (case gg0 => k_is)
    (case eC0 => k_is)
    (case hC0 => k_is)
    (case kC0 => k_is)
    (case tC0 => k_is)
    (case sC0 => ks_is)
    (case iC0 => k_is)
    (case tI0 => k_is)
    (case lI0 => k_is)
    (case cI0 => k_is)
    (case ld0 => k_is)
    (case lc0 => k_is)
    (case f0_0 => k_is)
    (case fv0 => exact rfl)
    (case aC1 => k_is)
    (case xC1 => k_is)
    (case sa1 => k_is)
    (case ga1 => k_is)
    (case gg1 => k_is)
    (case eC1 => k_is)
    (case hC1 => k_is)
    (case kC1 => k_is)
    (case tC1 => k_is)
    (case sC1 => ks_is)
    (case iC1 => k_is)
    (case tI1 => k_is)
    (case lI1 => k_is)
    (case cI1 => k_is)
    (case ld1 => k_is)
    (case lc1 => k_is)
    (case f1_0 => k_is)
    (case fv1 => exact rfl)
    (case aC2 => k_is)
    (case xC2 => k_is)
    (case sa2 => k_is)
    (case ga2 => k_is)
    (case gg2 => k_is)
    (case eC2 => k_is)
    (case hC2 => k_is)
    (case kC2 => k_is)
    (case tC2 => k_is)
    (case sC2 => ks_is)
    (case iC2 => k_is)
    (case tI2 => k_is)
    (case lI2 => k_is)
    (case cI2 => k_is)
    (case ld2 => k_is)
    (case lc2 => k_is)
    (case f2_0 => k_is)
    (case fv2 => exact rfl)
    (case aC3 => k_is)
    (case xC3 => k_is)
    (case sa3 => k_is)
    (case ga3 => k_is)
    (case gg3 => k_is)
    (case eC3 => k_is)
    (case hC3 => k_is)
    (case kC3 => k_is)
    (case tC3 => k_is)
    (case sC3 => ks_is)
    (case iC3 => k_is)
    (case tI3 => k_is)
    (case lI3 => k_is)
    (case cI3 => k_is)
    (case ld3 => k_is)
    (case lc3 => k_is)
    (case f3_0 => k_is)
    (case fv3 => exact rfl)
    (case aC4 => k_is)
    (case xC4 => k_is)
    (case sa4 => k_is)
    (case ga4 => k_is)
    (case gg4 => k_is)
    (case eC4 => k_is)
    (case hC4 => k_is)
    (case kC4 => k_is)
    (case tC4 => k_is)
    (case sC4 => ks_is)
    (case iC4 => k_is)
    (case tI4 => k_is)
    (case lI4 => k_is)
    (case cI4 => k_is)
    (case ld4 => k_is)
    (case lc4 => k_is)
    (case f4_0 => k_is)
    (case fv4 => exact rfl)
    (case aF0 => k_is)
    (case lF0 => k_is)
    (case cF0 => k_is)
    (case kF0 => k_is)
    (case aF1 => k_is)
    (case lF1 => k_is)
    (case cF1 => k_is)
    (case kF1 => k_is)
    (case aF2 => k_is)
    (case lF2 => k_is)
    (case cF2 => k_is)
    (case kF2 => k_is)
    (case aF3 => k_is)
    (case lF3 => k_is)
    (case cF3 => k_is)
    (case kF3 => k_is)
    (case aF4 => k_is)
    (case lF4 => k_is)
    (case cF4 => k_is)
    (case kF4 => k_is)
    (case aF5 => k_is)
    (case lF5 => k_is)
    (case cF5 => k_is)
    (case kF5 => k_is)
    (case aF6 => k_is)
    (case lF6 => k_is)
    (case cF6 => k_is)
    (case kF6 => k_is)
    (case aF7 => k_is)
    (case lF7 => k_is)
    (case cF7 => k_is)
    (case kF7 => k_is)
    (case aF8 => k_is)
    (case lF8 => k_is)
    (case cF8 => k_is)
    (case kF8 => k_is)
    (case aF9 => k_is)
    (case lF9 => k_is)
    (case cF9 => k_is)
    (case kF9 => k_is)
    (case aF10 => k_is)
    (case lF10 => k_is)
    (case cF10 => k_is)
    (case kF10 => k_is)
    (case aF11 => k_is)
    (case lF11 => k_is)
    (case cF11 => k_is)
    (case kF11 => k_is)
    (case aF12 => k_is)
    (case lF12 => k_is)
    (case cF12 => k_is)
    (case kF12 => k_is)
    (case aF13 => k_is)
    (case lF13 => k_is)
    (case cF13 => k_is)
    (case kF13 => k_is)
    (case aF14 => k_is)
    (case lF14 => k_is)
    (case cF14 => k_is)
    (case kF14 => k_is)
    (case aF15 => k_is)
    (case lF15 => k_is)
    (case cF15 => k_is)
    (case kF15 => k_is)
    (case aF16 => k_is)
    (case lF16 => k_is)
    (case cF16 => k_is)
    (case kF16 => k_is)
    (case aF17 => k_is)
    (case lF17 => k_is)
    (case cF17 => k_is)
    (case kF17 => k_is)
    (case aF18 => k_is)
    (case lF18 => k_is)
    (case cF18 => k_is)
    (case kF18 => k_is)
    (case aF19 => k_is)
    (case lF19 => k_is)
    (case cF19 => k_is)
    (case kF19 => k_is)
    (case aF20 => k_is)
    (case lF20 => k_is)
    (case cF20 => k_is)
    (case kF20 => k_is)
    (case aF21 => k_is)
    (case lF21 => k_is)
    (case cF21 => k_is)
    (case kF21 => k_is)
    (case aF22 => k_is)
    (case lF22 => k_is)
    (case cF22 => k_is)
    (case kF22 => k_is)
    (case aF23 => k_is)
    (case lF23 => k_is)
    (case cF23 => k_is)
    (case kF23 => k_is)
    (case aF24 => k_is)
    (case lF24 => k_is)
    (case cF24 => k_is)
    (case kF24 => k_is)
    (case aF25 => k_is)
    (case lF25 => k_is)
    (case cF25 => k_is)
    (case kF25 => k_is)
    (case aF26 => k_is)
    (case lF26 => k_is)
    (case cF26 => k_is)
    (case kF26 => k_is)
    (case aF27 => k_is)
    (case lF27 => k_is)
    (case cF27 => k_is)
    (case kF27 => k_is)
    (case aF28 => k_is)
    (case lF28 => k_is)
    (case cF28 => k_is)
    (case kF28 => k_is)
    (case aF29 => k_is)
    (case lF29 => k_is)
    (case cF29 => k_is)
    (case kF29 => k_is)
    (case b_bool => k_is)
    (case b_enumerate => k_is)
    (case b_int => k_is)
    (case b_isinstance => k_is)
    (case b_len => k_is)
    (case b_min => k_is)
    (case b_range => k_is)
    (case b_repr => k_is)
    (case b_str => k_is)
    (case b_tuple => k_is)
    (case g_MOST_LIFE => first | exact ⟨_, PySem.W.mg_of KX G (by k_is)⟩ | exact PV.Er.loose_int hX (by decide))
    (case aG_PHASES => k_is)
    (case lG_PHASES_0 => k_is)
    (case vG_PHASES_0 => exact rfl)
