import PyProof.Rows.All
import PyProof.ReprReads
import PyProof.P3Statements
import KE.SortData
import Wide.All
import OpenK.AllK
import Wide.FinOn
import HandS.ForMost
import HandS.ForExc
import HandS.Flow
import HandS.Wide
import HandS.IsInst
import HandS.Conv
import KE.DataEq
import HandS.Style
import HandS.RaiseMore
import KE.GoesMore
import KE.GoesEnum
import HandS.TryOnly
import HandS.ExcOwn
import HandS.Defaults
import HandS.ExcInit
import HandS.ExcField
import KE.KExcSuper
import HandS.HeadHook2
import HandS.Head2
import HandS.Ends
import HandS.Star
import HandS.SortInts
import PySem.Challenge.RW_bitloom_k61_fabrics
section
set_option autoImplicit false
set_option maxRecDepth 10000
/-! A small evaluator of Python over plain data. -/
namespace Ev
open PySem

abbrev Key := Sum Int Str

/-- plain data that nobody changes -/
inductive D where
  | non | bl (b : Bool) | int (i : Int) | str (x : Str)
  | tup (xs : List D) | lst (xs : List D) | dct (kvs : List (Key × D)) | scr (ns : List Int)

/-- a value: data, a place of the store, a caught error -/
inductive Val where
  | d (x : D) | loc (n : Nat) | exn (c : Nat) (fs : List (Str × D))

/-- what stands at a place of the store -/
inductive Obj where
  | lst (xs : List D) | lv (xs : List Val) | dct (kvs : List (Key × Val)) | ins (c : Nat) (fs : List (Str × Val)) | dead

abbrev Store := List Obj
abbrev Env := List (Option Val)

inductive Res (A : Type) where
  | ok (a : A) (s : Store) | exc (c : Nat) (fs : List (Str × D)) (s : Store) | fail

namespace Res
variable {A B : Type}
def bind (r : Res A) (f : A → Store → Res B) : Res B :=
  match r with
  | .ok a s => f a s
  | .exc c fs s => .exc c fs s
  | .fail => .fail
@[simp] theorem bind_ok (a : A) (s : Store) (f : A → Store → Res B) : (Res.ok a s).bind f = f a s := rfl
@[simp] theorem bind_exc (c : Nat) (fs : List (Str × D)) (s : Store) (f : A → Store → Res B) : (Res.exc c fs s : Res A).bind f = .exc c fs s := rfl
@[simp] theorem bind_fail (f : A → Store → Res B) : (Res.fail : Res A).bind f = .fail := rfl
/-- errors are not let out (a comprehension) -/
def shut (r : Res A) : Res A := match r with | .exc _ _ _ => .fail | r => r
@[simp] theorem shut_ok (a : A) (s : Store) : (Res.ok a s).shut = .ok a s := rfl
@[simp] theorem shut_fail : (Res.fail : Res A).shut = .fail := rfl
@[simp] theorem shut_exc (c : Nat) (fs : List (Str × D)) (s : Store) : (Res.exc c fs s : Res A).shut = .fail := rfl
end Res

abbrev EC := Env → Store → Res Val
abbrev BC := Env → Store → Res Bool
abbrev AC := Env → Store → Res (List Val)
abbrev TC := Val → Env → Store → Option (Env × Store)

/-- the longest list -/
abbrev line : Nat := 16777216

/-! ### data -/
def allD : List Val → Option (List D)
  | [] => some []
  | .d x :: r => (allD r).map (x :: ·)
  | _ :: _ => none
@[simp] theorem allD_nil : allD [] = some [] := rfl
@[simp] theorem allD_cons (x : D) (r : List Val) : allD (.d x :: r) = (allD r).map (x :: ·) := rfl
@[simp] theorem allD_map (xs : List D) : allD (xs.map .d) = some xs := by
  induction xs with
  | nil => rfl
  | cons x xs ih => simp [ih]

mutual
def toPy : D → PyData
  | .non => .none
  | .bl b => .bool b
  | .int i => .int i
  | .str x => .str x
  | .tup xs => .tuple (toPys xs)
  | .lst xs => .list (toPys xs)
  | .dct kvs => .dict (toPyKv kvs)
  | .scr ns => .list (ns.map .int)
def toPys : List D → List PyData
  | [] => []
  | x :: xs => toPy x :: toPys xs
def toPyKv : List (Key × D) → List (PyData × PyData)
  | [] => []
  | (k, x) :: r => ((match k with | .inl i => .int i | .inr z => .str z), toPy x) :: toPyKv r
end

mutual
/-- no dict within -/
def D.plain : D → Bool
  | .non | .bl _ | .int _ | .str _ => true
  | .tup xs | .lst xs => D.plains xs
  | .dct _ | .scr _ => false
def D.plains : List D → Bool
  | [] => true
  | x :: xs => D.plain x && D.plains xs
end

mutual
/-- the script is not within -/
def D.noscr : D → Bool
  | .non | .bl _ | .int _ | .str _ => true
  | .tup xs | .lst xs => D.noscrs xs
  | .dct kvs => D.noscrk kvs
  | .scr _ => false
def D.noscrs : List D → Bool
  | [] => true
  | x :: xs => D.noscr x && D.noscrs xs
def D.noscrk : List (Key × D) → Bool
  | [] => true
  | (_, x) :: xs => D.noscr x && D.noscrk xs
end

/-- a value as data, looked up in the store (one deep) -/
def peek (v : Val) (s : Store) : Option D :=
  match v with
  | .d x => some x
  | .loc n => match s[n]? with | some (.lst xs) => some (.lst xs) | _ => none
  | _ => none
@[simp] theorem peek_d (x : D) (s : Store) : peek (.d x) s = some x := rfl

/-- the items of an object that is walked -/
def obItems : Obj → Option (List Val)
  | .lst ds => some (ds.map .d) | .lv vs => some vs | _ => none
@[simp] theorem obItems_lst (ds : List D) : obItems (.lst ds) = some (ds.map .d) := rfl
@[simp] theorem obItems_lv (vs : List Val) : obItems (.lv vs) = some vs := rfl
def peeks (s : Store) : List Val → Option (List D)
  | [] => some []
  | v :: vs => match peek v s, peeks s vs with | some d, some ds => some (d :: ds) | _, _ => none
/-- a value as data, looked up in the store (two deep) -/
def deepV (v : Val) (s : Store) : Option D :=
  match v with
  | .d x => some x
  | .loc n => match s[n]? with | some (.lst xs) => some (.lst xs) | some (.lv vs) => (peeks s vs).map .lst | _ => none
  | _ => none
@[simp] theorem deepV_d (x : D) (s : Store) : deepV (.d x) s = some x := rfl
def allKd : List (Key × Val) → Option (List (Key × D))
  | [] => some []
  | (q, .d x) :: r => (allKd r).map ((q, x) :: ·)
  | _ :: _ => none

/-- the items of a sequence -/
def items (v : Val) (s : Store) : Option (List Val) :=
  match v with
  | .d (.tup xs) => some (xs.map .d)
  | .d (.lst xs) => some (xs.map .d)
  | .loc n => match s[n]? with | some (.lst xs) => some (xs.map .d) | some (.lv xs) => some xs | _ => none
  | _ => none
@[simp] theorem items_tup (xs : List D) (s : Store) : items (.d (.tup xs)) s = some (xs.map .d) := rfl
@[simp] theorem items_lst (xs : List D) (s : Store) : items (.d (.lst xs)) s = some (xs.map .d) := rfl

def truth (v : Val) (s : Store) : Option Bool :=
  match v with
  | .d .non => some false
  | .d (.bl b) => some b
  | .d (.int i) => some (i != 0)
  | .d (.tup xs) => some (!xs.isEmpty)
  | .d (.lst xs) => some (!xs.isEmpty)
  | .loc n => match s[n]? with | some (.lst xs) => some (!xs.isEmpty) | some (.lv xs) => some (!xs.isEmpty) | some (.dct k) => some (!k.isEmpty) | _ => none
  | _ => none

/-! ### expressions -/
def k (x : D) : EC := fun _ s => .ok (.d x) s
def v (i : Nat) : EC := fun E s => match E[i]? with | some (some x) => .ok x s | _ => .fail
def e1 (p : Val → Store → Res Val) (a : EC) : EC := fun E s => (a E s).bind p
def e2 (p : Val → Val → Store → Res Val) (a b : EC) : EC := fun E s => (a E s).bind fun x s => (b E s).bind fun y s => p x y s
def a0 : AC := fun _ s => .ok [] s
def ac (a : EC) (r : AC) : AC := fun E s => (a E s).bind fun x s => (r E s).bind fun xs s => .ok (x :: xs) s
/-- *a in a display -/
def acStar (a : EC) (r : AC) : AC := fun E s => (a E s).bind fun x s => match peek x s with
  | some (.tup ds) => (r E s).bind fun xs s => .ok (ds.map .d ++ xs) s
  | some (.lst ds) => (r E s).bind fun xs s => .ok (ds.map .d ++ xs) s
  | _ => .fail
def ea (p : List Val → Store → Res Val) (r : AC) : EC := fun E s => (r E s).bind p
def mkT (xs : List Val) (s : Store) : Res Val := match allD xs with | some ds => if ds.length ≤ line then .ok (.d (.tup ds)) s else .fail | none => .fail
def mkL (xs : List Val) (s : Store) : Res Val := match allD xs with | some ds => if ds.length ≤ line then .ok (.d (.lst ds)) s else .fail | none => .fail
def tup (r : AC) : EC := ea mkT r
def lst (r : AC) : EC := ea mkL r
/-- a new list that may be changed -/
def lstA (r : AC) : EC := fun E s => (r E s).bind fun xs s => match allD xs with
  | some ds => if ds.length ≤ line then .ok (.loc s.length) (s ++ [.lst ds]) else .fail
  | none => if xs.length ≤ line then .ok (.loc s.length) (s ++ [.lv xs]) else .fail
/-- a fresh list or dict may be changed from now on -/
def alloc (x : Val) (s : Store) : Res Val := match x with
  | .d (.lst ds) => .ok (.loc s.length) (s ++ [.lst ds])
  | _ => .fail
/-- what may be changed is changed no more -/
def frz1 (x : Val) (s : Store) : Res Val := match x with
  | .d z => .ok (.d z) s
  | .loc n => match s[n]? with | some (.lst ds) => .ok (.d (.lst ds)) (s.set n .dead) | some (.dct kvs) => (match allKd kvs with | some ks => .ok (.d (.dct ks)) (s.set n .dead) | none => .fail) | _ => .fail
  | _ => .fail
def frz (a : EC) : EC := e1 frz1 a
def bv (a : EC) : BC := fun E s => (a E s).bind fun x s => match truth x s with | some b => .ok b s | none => .fail
def band (a b : BC) : BC := fun E s => (a E s).bind fun x s => if x then b E s else .ok false s
def bor (a b : BC) : BC := fun E s => (a E s).bind fun x s => if x then .ok true s else b E s
def bnot (a : BC) : BC := fun E s => (a E s).bind fun x s => .ok (!x) s
def eif (c : BC) (a b : EC) : EC := fun E s => (c E s).bind fun x s => if x then a E s else b E s
def eand (a b : EC) : EC := fun E s => (a E s).bind fun x s => match truth x s with | some true => b E s | some false => .ok x s | none => .fail
def eor (a b : EC) : EC := fun E s => (a E s).bind fun x s => match truth x s with | some true => .ok x s | some false => b E s | none => .fail
def enot (a : EC) : EC := fun E s => (a E s).bind fun x s => match truth x s with | some t => .ok (.d (.bl (!t))) s | none => .fail
/-- a p b q c -/
def chain (p q : Val → Val → Store → Res Val) (a b c : EC) : EC := fun E s => (a E s).bind fun x s => (b E s).bind fun y s => (p x y s).bind fun r s =>
  match r with | .d (.bl true) => (c E s).bind fun z s => q y z s | .d (.bl false) => .ok (.d (.bl false)) s | _ => .fail

/-! ### operations -/
def pI (f : Int → Int → D) (x y : Val) (s : Store) : Res Val := match x, y with | .d (.int i), .d (.int j) => .ok (.d (f i j)) s | _, _ => .fail
def pIc (c : Int → Int → Bool) (f : Int → Int → D) (x y : Val) (s : Store) : Res Val := match x, y with
  | .d (.int i), .d (.int j) => if c i j then .ok (.d (f i j)) s else .fail
  | _, _ => .fail
def pAdd (x y : Val) (s : Store) : Res Val := match x, y with
  | .d (.int i), .d (.int j) => .ok (.d (.int (i + j))) s
  | .d (.bl b), .d (.int j) => .ok (.d (.int ((if b = true then 1 else 0) + j))) s
  | .d (.tup a), .d (.tup b) => if a.length + b.length ≤ line then .ok (.d (.tup (a ++ b))) s else .fail
  | .d (.str a), .d (.str b) => if a.length + b.length ≤ line then .ok (.d (.str (a ++ b))) s else .fail
  | x, y => match peek x s, peek y s with
    | some (.lst a), some (.lst b) => if a.length + b.length ≤ line then .ok (.d (.lst (a ++ b))) s else .fail
    | _, _ => .fail
def pSub := pI fun i j => .int (i - j)
def pMul := pIc (fun i j => (decide (-(2 ^ 64) < i) && decide (i < 2 ^ 64)) || (decide (-(2 ^ 64) < j) && decide (j < 2 ^ 64))) fun i j => .int (i * j)
def pDiv := pIc (fun _ j => decide (0 < j) && decide (j < 2 ^ 1000)) fun i j => .int (i / j)
def pMod := pIc (fun _ j => decide (0 < j)) fun i j => .int (i % j)
def pPow := pIc (fun i j => decide (0 ≤ j) && decide (j ≤ 1000000) && decide (i.natAbs < 2 ^ 64)) fun i j => .int (i ^ j.toNat)
def pShl := pIc (fun i j => decide (0 ≤ j) && decide (j ≤ 1000000) && decide (i.natAbs < 2 ^ 64)) fun i j => .int (i * 2 ^ j.toNat)
def pShr := pIc (fun _ j => decide (0 ≤ j)) fun i j => .int (i / 2 ^ j.toNat)
def pNeg (x : Val) (s : Store) : Res Val := match x with | .d (.int i) => .ok (.d (.int (-i))) s | _ => .fail
def pLt := pI fun i j => .bl (decide (i < j))
def pLe := pI fun i j => .bl (decide (i ≤ j))
def pGt := pI fun i j => .bl (decide (j < i))
def pGe := pI fun i j => .bl (decide (j ≤ i))
/-- what == tells of data -/
def eqD (x y : D) : Bool := (toPy x).eqv (toPy y)
def low (x : D) : Bool := decide ((toPy x).depth ≤ 60)
def eqLen (neg : Bool) (a b : D) (s : Store) : Res Val := match a, b with
  | .tup xs, .tup ys => if xs.isEmpty || ys.isEmpty then .ok (.d (.bl (neg ^^ (xs.isEmpty && ys.isEmpty)))) s else .fail
  | .lst xs, .lst ys => if xs.length = ys.length then .fail else .ok (.d (.bl (neg ^^ false))) s
  | _, _ => .fail
def pEqB (neg : Bool) (x y : Val) (s : Store) : Res Val := match deepV x s, deepV y s with
  | some a, some b => if a.plain && b.plain && (low a || low b) then .ok (.d (.bl (neg ^^ eqD a b))) s else eqLen neg a b s
  | _, _ => .fail
def pEq := pEqB false
def pNe := pEqB true
def inD (x : D) (ys : List D) : Bool := ys.any fun y => eqD y x
def pInB (neg : Bool) (x y : Val) (s : Store) : Res Val := match deepV x s, deepV y s with
  | some a, some (.tup ys) => if a.plain && D.plains ys && low a then .ok (.d (.bl (neg ^^ inD a ys))) s else .fail
  | some a, some (.lst ys) => if a.plain && D.plains ys && low a then .ok (.d (.bl (neg ^^ inD a ys))) s else .fail
  | _, _ => .fail
def pIn := pInB false
def pNotIn := pInB true
def pIsN (x : Val) (s : Store) : Res Val := match x with | .d .non => .ok (.d (.bl true)) s | _ => .ok (.d (.bl false)) s
def pNotN (x : Val) (s : Store) : Res Val := match x with | .d .non => .ok (.d (.bl false)) s | _ => .ok (.d (.bl true)) s
/-- the built-in type of a value -/
inductive Ty where | int | bool | str | tuple | list | dict | none deriving DecidableEq
def tyD : D → Ty
  | .non => .none | .bl _ => .bool | .int _ => .int | .str _ => .str | .tup _ => .tuple | .lst _ => .list | .dct _ => .dict | .scr _ => .list
def tyOf (x : Val) (s : Store) : Option Ty := match x with
  | .d z => some (tyD z)
  | .loc n => match s[n]? with | some (.lst _) => some .list | some (.lv _) => some .list | some (.dct _) => some .dict | _ => none
  | _ => none
/-- isinstance by built-in types -/
def isT (ts : List Ty) (t : Ty) : Bool := ts.contains t || (t == .bool && ts.contains .int)
def pIsi (ts : List Ty) (x : Val) (s : Store) : Res Val := match tyOf x s with | some t => .ok (.d (.bl (isT ts t))) s | none => .fail
def pLen (x : Val) (s : Store) : Res Val := match x with
  | .d (.tup xs) => .ok (.d (.int xs.length)) s
  | .d (.lst xs) => .ok (.d (.int xs.length)) s
  | .loc n => match s[n]? with | some (.lst xs) => .ok (.d (.int xs.length)) s | some (.lv xs) => .ok (.d (.int xs.length)) s | some (.dct k) => .ok (.d (.int k.length)) s | _ => .fail
  | _ => .fail
def pInt (x : Val) (s : Store) : Res Val := match x with | .d (.int i) => .ok (.d (.int i)) s | _ => .fail
def pAbs (x : Val) (s : Store) : Res Val := match x with | .d (.int i) => .ok (.d (.int (i.natAbs : Int))) s | _ => .fail
def pMax := pI fun i j => .int (max i j)
def pMin := pI fun i j => .int (min i j)
def pTuple (x : Val) (s : Store) : Res Val := match peek x s with
  | some (.tup xs) => .ok (.d (.tup xs)) s
  | some (.lst xs) => .ok (.d (.tup xs)) s
  | _ => .fail
def pList (x : Val) (s : Store) : Res Val := match peek x s with
  | some (.tup xs) => .ok (.d (.lst xs)) s
  | some (.lst xs) => .ok (.d (.lst xs)) s
  | _ => .fail
def pRepr (x : Val) (s : Store) : Res Val := match deepV x s with
  | some a => if (toPy a).showable && low a && a.noscr && decide ((toPy a).shown.length ≤ line) then .ok (.d (.str (toPy a).shown)) s else .fail
  | _ => .fail
/-! ### more built-ins of lists -/
def pAnd := pI fun i j => .int (Builtin.bitAnd i j)
def pOr := pI fun i j => .int (Builtin.bitOr i j)
def pXor := pI fun i j => .int (Builtin.bitXor i j)
def allBl : List D → Option (List Bool)
  | [] => some []
  | .bl b :: r => (allBl r).map (b :: ·)
  | _ => none
def allInt : List D → Option (List Int)
  | [] => some []
  | .int b :: r => (allInt r).map (b :: ·)
  | _ => none
def pBls (f : List Bool → Bool) (x : Val) (s : Store) : Res Val := match peek x s with
  | some (.lst ds) => (match allBl ds with | some bs => .ok (.d (.bl (f bs))) s | none => .fail)
  | _ => .fail
def pAll := pBls fun bs => bs.all id
def pAny := pBls fun bs => bs.any id
def pInts (f : List Int → Option Int) (x : Val) (s : Store) : Res Val := match peek x s with
  | some (.lst ds) => (match (allInt ds).bind f with | some i => .ok (.d (.int i)) s | none => .fail)
  | _ => .fail
def maxO : List Int → Option Int | [] => none | x :: r => some (r.foldl max x)
def minO : List Int → Option Int | [] => none | x :: r => some (r.foldl min x)
def pSum := pInts fun ns => some ns.sum
def pMaxL := pInts maxO
def pMinL := pInts minO
/-- the order of data -/
def leD (x y : D) : Bool := PySem.W.dataLe false toPy x y
def sortD (ds : List D) : List D := ds.mergeSort leD
def isT1 : D → Bool | .tup (_ :: _) => true | _ => false
def isO1 : D → Bool | .non => false | .tup _ => false | _ => true
def sortable (ds : List D) : Bool := (ds.all isT1 || ds.all isO1) && (ds.all low && ds.all fun x => ds.all fun y => PySem.W.alike (toPy x) (toPy y))
def pSorted (x : Val) (s : Store) : Res Val := match peek x s with
  | some (.lst ds) => if sortable ds then .ok (.d (.lst (sortD ds))) s else .fail
  | _ => .fail
def pSortedA (x : Val) (s : Store) : Res Val := (pSorted x s).bind alloc
def ixN (n : Nat) (i : Int) : Option Nat := if 0 ≤ i then (if i < n then some i.toNat else none) else if -(n : Int) ≤ i then some (i + n).toNat else none
def lookK (kvs : List (Key × Val)) (q : Key) : Option Val := (kvs.find? fun p => decide (p.1 = q)).map (·.2)
def putK (kvs : List (Key × Val)) (q : Key) (x : Val) : List (Key × Val) :=
  if (kvs.any fun p => decide (p.1 = q)) = true then kvs.map (fun p => if p.1 = q then (p.1, x) else p) else kvs ++ [(q, x)]
def keyOf : Val → Option Key | .d (.int i) => some (.inl i) | .d (.str z) => some (.inr z) | _ => none
def pIx (x y : Val) (s : Store) : Res Val :=
  match x, y with
  | .d (.tup xs), .d (.int i) => (match (ixN xs.length i).bind (xs[·]?) with | some z => .ok (.d z) s | none => .fail)
  | .d (.lst xs), .d (.int i) => (match (ixN xs.length i).bind (xs[·]?) with | some z => .ok (.d z) s | none => .fail)
  | .loc n, y => match s[n]? with
    | some (.lst xs) => (match y with | .d (.int i) => (match (ixN xs.length i).bind (xs[·]?) with | some z => .ok (.d z) s | none => .fail) | _ => .fail)
    | some (.lv xs) => (match y with | .d (.int i) => (match (ixN xs.length i).bind (xs[·]?) with | some z => .ok z s | none => .fail) | _ => .fail)
    | some (.dct kvs) => match (keyOf y).bind (lookK kvs) with | some z => .ok z s | none => .fail
    | _ => .fail
  | _, _ => .fail
def sIx (n dflt : Nat) : Option Int → Nat
  | none => dflt
  | some i => if i < 0 then (i + (n : Int)).toNat else min i.toNat n
def cut {A : Type} (xs : List A) (lo hi : Option Int) : List A := (xs.drop (sIx xs.length 0 lo)).take (sIx xs.length xs.length hi - sIx xs.length 0 lo)
def pSl (x : Val) (lo hi : Option Int) (s : Store) : Res Val := match peek x s with
  | some (.tup xs) => .ok (.d (.tup (cut xs lo hi))) s
  | some (.lst xs) => .ok (.d (.lst (cut xs lo hi))) s
  | _ => .fail
/-- an optional part of a slice -/
abbrev PC := Env → Store → Res (Option Int)
def pn : PC := fun _ s => .ok none s
def ps (a : EC) : PC := fun E s => (a E s).bind fun x s => match x with | .d (.int i) => .ok (some i) s | _ => .fail
def sl (a : EC) (lo hi : PC) : EC := fun E s => (a E s).bind fun x s => (lo E s).bind fun l s => (hi E s).bind fun h s => pSl x l h s
def pRev (x : Val) (s : Store) : Res Val := match peek x s with
  | some (.lst xs) => .ok (.d (.lst xs.reverse)) s
  | _ => .fail
def isL (x : Val) (s : Store) : Bool := match x with
  | .loc n => match s[n]? with | some (.lst _) => true | some (.lv _) => true | _ => false
  | _ => false
/-- xs.append(y) -/
def pApp (x y : Val) (s : Store) : Res Val := match x with
  | .loc n => match s[n]? with
    | some (.lst xs) => match y with | .d z => if xs.length < line then .ok (.d .non) (s.set n (.lst (xs ++ [z]))) else .fail | _ => .fail
    | _ => .fail
  | _ => .fail
/-- x.m(y) of a list -/
def m1 (p : Val → Val → Store → Res Val) (a b : EC) : EC := fun E s => (a E s).bind fun x s => if isL x s then (b E s).bind fun y s => p x y s else .fail
/-- xs.pop() -/
def pPop (x : Val) (s : Store) : Res Val := match x with
  | .loc n => match s[n]? with
    | some (.lst xs) => match xs.getLast? with | some z => .ok (.d z) (s.set n (.lst xs.dropLast)) | none => .fail
    | _ => .fail
  | _ => .fail
/-- xs.pop(i) -/
def pPopAt (x y : Val) (s : Store) : Res Val := match x, y with
  | .loc n, .d (.int i) => match s[n]? with
    | some (.lst xs) => match ixN xs.length i with
      | some j => match xs[j]? with | some z => .ok (.d z) (s.set n (.lst (xs.eraseIdx j))) | none => .fail
      | none => .fail
    | _ => .fail
  | _, _ => .fail
/-- o[i] = x -/
def pPut (o i x : Val) (s : Store) : Option Store := match o with
  | .loc n => match s[n]? with
    | some (.dct kvs) => match keyOf i with | some q => if kvs.length < line then some (s.set n (.dct (putK kvs q x))) else none | none => none
    | some (.lst xs) => match i, x with
      | .d (.int j), .d z => match ixN xs.length j with | some m => some (s.set n (.lst (xs.set m z))) | none => none
      | _, _ => none
    | _ => none
  | _ => none

/-! ### comprehensions, loops -/
/-- what a loop walks -/
inductive Src where | vals (xs : List Val) | live (n : Nat)
abbrev IC := Env → Store → Res Src
def iSeq (a : EC) : IC := fun E s => (a E s).bind fun x s => match x with
  | .d (.tup xs) => .ok (.vals (xs.map .d)) s
  | .d (.lst xs) => .ok (.vals (xs.map .d)) s
  | .d (.scr ns) => .ok (.vals (ns.map fun i => .d (.int i))) s
  | .loc n => match (s[n]?).bind obItems with | some _ => .ok (.live n) s | _ => .fail
  | _ => .fail
def small (i : Int) : Bool := decide (-(2 ^ 62) ≤ i) && decide (i < 2 ^ 62)
def rng (lo hi : Int) : List D := (List.range (hi - lo).toNat).map fun (j : Nat) => .int (lo + (j : Int))
def iRng1 (a : EC) : IC := fun E s => (a E s).bind fun x s => match x with | .d (.int i) => if small i then .ok (.vals ((rng 0 i).map .d)) s else .fail | _ => .fail
def iRng2 (a b : EC) : IC := fun E s => (a E s).bind fun x s => (b E s).bind fun y s => match x, y with
  | .d (.int i), .d (.int j) => if small i && small j then .ok (.vals ((rng i j).map .d)) s else .fail
  | _, _ => .fail
/-- list(range(..)) -/
def pLRng1 (x : Val) (s : Store) : Res Val := match x with | .d (.int j) => if small j && decide (j.toNat ≤ line) then .ok (.d (.lst (rng 0 j))) s else .fail | _ => .fail
def pLRng2 (x y : Val) (s : Store) : Res Val := match x, y with
  | .d (.int i), .d (.int j) => if small i && small j && decide ((j - i).toNat ≤ line) then .ok (.d (.lst (rng i j))) s else .fail
  | _, _ => .fail
def enumD (i : Nat) : List D → List D
  | [] => []
  | x :: r => .tup [.int (i : Int), x] :: enumD (i + 1) r
def enumS (x : Val) (s : Store) : Res Src := match x with
  | .d (.tup xs) => .ok (.vals ((enumD 0 xs).map .d)) s
  | .d (.lst xs) => .ok (.vals ((enumD 0 xs).map .d)) s
  | _ => .fail
/-- enumerate over data -/
def iEnum (a : EC) : IC := fun E s => (a E s).bind enumS

def tn (i : Nat) : TC := fun x E s => some (E.set i (some x), s)
def ts (ts : List TC) : List Val → Env → Store → Option (Env × Store) := fun xs E s =>
  match ts, xs with
  | [], [] => some (E, s)
  | t :: ts', x :: xs' => match t x E s with | some (E1, s1) => Ev.ts ts' xs' E1 s1 | none => none
  | _, _ => none
def tt (l : List TC) : TC := fun x E s => match items x s with | some xs => ts l xs E s | none => none
/-- o[i] = .. (o, i: no errors) -/
def ti (o i : EC) : TC := fun x E s => match o E s with
  | .ok ov s1 => match i E s1 with
    | .ok iv s2 => (pPut ov iv x s2).map fun s3 => (E, s3)
    | _ => none
  | _ => none

def wipe (E : Env) : List Nat → Env
  | [] => E
  | i :: r => (wipe E r).set i none
/-- a turn of a comprehension -/
def lcT (ws : List Nat) (t : TC) (c : BC) (e : EC) (E : Env) (x : Val) (s : Store) (nxt : Store → Res (List Val)) : Res (List Val) :=
  match t x (wipe E ws) s with
  | some p => (c p.1 p.2).bind fun b s2 => if b then (e p.1 s2).bind fun y s3 => (nxt s3).bind fun ys s4 => .ok (y :: ys) s4 else nxt s2
  | none => .fail
/-- .. over values -/
def lcV (ws : List Nat) (t : TC) (c : BC) (e : EC) (E : Env) : List Val → Store → Res (List Val)
  | [], s => .ok [] s
  | x :: xs, s => lcT ws t c e E x s fun s' => lcV ws t c e E xs s'
/-- .. over a list that may be changed -/
def lcN (ws : List Nat) (t : TC) (c : BC) (e : EC) (E : Env) (n : Nat) : Nat → Nat → Store → Res (List Val)
  | 0, _, _ => .fail
  | f + 1, i, s => match (s[n]?).bind obItems with
    | some xs => match xs[i]? with
      | none => .ok [] s
      | some x => if i < line then lcT ws t c e E x s fun s' => lcN ws t c e E n f (i + 1) s' else .fail
    | none => .fail
def lcS (ws : List Nat) (t : TC) (c : BC) (e : EC) (E : Env) (sr : Src) (s : Store) : Res (List Val) := match sr with
  | .vals xs => if xs.length ≤ line then (lcV ws t c e E xs s).shut else .fail
  | .live n => (lcN ws t c e E n (line + 2) 0 s).shut
def lcG (mk : List Val → Store → Res Val) (ws : List Nat) (t : TC) (i : IC) (c : BC) (e : EC) : EC := fun E s => (i E s).bind fun sr s1 => (lcS ws t c e E sr s1).bind mk
def lc := lcG mkL
/-- [e for t in i if c for t1 in i1 if c1] -/
def lc2V (ws : List Nat) (t : TC) (c : BC) (ws1 : List Nat) (t1 : TC) (i1 : IC) (c1 : BC) (e : EC) (E : Env) : List Val → Store → Res (List Val)
  | [], s => .ok [] s
  | x :: xs, s => match t x (wipe E ws) s with
    | some p => (c p.1 p.2).bind fun b s2 => if b then (i1 p.1 s2).bind fun sr1 s3 => (match sr1 with
        | .vals ys => (lcV ws1 t1 c1 e p.1 ys s3).bind fun zs s4 => (lc2V ws t c ws1 t1 i1 c1 e E xs s4).bind fun r s5 => .ok (zs ++ r) s5
        | .live _ => .fail) else lc2V ws t c ws1 t1 i1 c1 e E xs s2
    | none => .fail
def lc2S (ws : List Nat) (t : TC) (c : BC) (ws1 : List Nat) (t1 : TC) (i1 : IC) (c1 : BC) (e : EC) (E : Env) (sr : Src) (s : Store) : Res (List Val) := match sr with
  | .vals xs => ((lc2V ws t c ws1 t1 i1 c1 e E xs s).bind fun zs s' => if zs.length < line then .ok zs s' else .fail).shut
  | .live _ => .fail
def lc2G (mk : List Val → Store → Res Val) (ws : List Nat) (t : TC) (i : IC) (c : BC) (ws1 : List Nat) (t1 : TC) (i1 : IC) (c1 : BC) (e : EC) : EC := fun E s => (i E s).bind fun sr s1 => (lc2S ws t c ws1 t1 i1 c1 e E sr s1).bind mk
def lc2 := lc2G mkL
/-- .. a list that may be changed -/
def mkLA (xs : List Val) (s : Store) : Res Val := match allD xs with
  | some ds => .ok (.loc s.length) (s ++ [.lst ds])
  | none => .ok (.loc s.length) (s ++ [.lv xs])
def lcA := lcG mkLA
def lc2A := lc2G mkLA
def yes : BC := fun _ s => .ok true s

/-! ### statements -/
inductive SRes where
  | nx (E : Env) (s : Store) | rt (x : Val) (s : Store) | bk (E : Env) (s : Store) | ct (E : Env) (s : Store) | exc (c : Nat) (fs : List (Str × D)) (E : Env) (s : Store) | fail
abbrev SC := Env → Store → SRes
def SRes.next (r : SRes) (f : Env → Store → SRes) : SRes := match r with | .nx E s => f E s | r => r
@[simp] theorem SRes.next_nx (E : Env) (s : Store) (f : Env → Store → SRes) : (SRes.nx E s).next f = f E s := rfl
@[simp] theorem SRes.next_rt (x : Val) (s : Store) (f : Env → Store → SRes) : (SRes.rt x s).next f = .rt x s := rfl
@[simp] theorem SRes.next_bk (E : Env) (s : Store) (f : Env → Store → SRes) : (SRes.bk E s).next f = .bk E s := rfl
@[simp] theorem SRes.next_ct (E : Env) (s : Store) (f : Env → Store → SRes) : (SRes.ct E s).next f = .ct E s := rfl
@[simp] theorem SRes.next_exc (c : Nat) (fs : List (Str × D)) (E : Env) (s : Store) (f : Env → Store → SRes) : (SRes.exc c fs E s).next f = .exc c fs E s := rfl
@[simp] theorem SRes.next_fail (f : Env → Store → SRes) : SRes.fail.next f = .fail := rfl
/-- from an expression's end -/
def ofRes {A : Type} (r : Res A) (E : Env) (f : A → Store → SRes) : SRes := match r with | .ok a s => f a s | .exc c fs s => .exc c fs E s | .fail => .fail
@[simp] theorem ofRes_ok {A : Type} (a : A) (s : Store) (E : Env) (f : A → Store → SRes) : ofRes (.ok a s) E f = f a s := rfl
@[simp] theorem ofRes_exc {A : Type} (c : Nat) (fs : List (Str × D)) (s : Store) (E : Env) (f : A → Store → SRes) : ofRes (.exc c fs s) E f = .exc c fs E s := rfl
@[simp] theorem ofRes_fail {A : Type} (E : Env) (f : A → Store → SRes) : ofRes (.fail) E f = .fail := rfl

def sNil : SC := fun E s => .nx E s
def sBk : SC := fun E s => .bk E s
def sCt : SC := fun E s => .ct E s
def sq (a b : SC) : SC := fun E s => (a E s).next b
def sSet (t : TC) (e : EC) : SC := fun E s => ofRes (e E s) E fun x s1 => match t x E s1 with | some (E2, s2) => .nx E2 s2 | none => .fail
def sExp (e : EC) : SC := fun E s => ofRes (e E s) E fun _ s1 => .nx E s1
def sRet (e : EC) : SC := fun E s => ofRes (e E s) E fun x s1 => .rt x s1
def sRetN : SC := fun _ s => .rt (.d .non) s
def sIf (c : BC) (a b : SC) : SC := fun E s => ofRes (c E s) E fun x s1 => if x then a E s1 else b E s1
/-- x op= e at a name -/
def sAug (i : Nat) (p : Val → Val → Store → Res Val) (e : EC) : SC := fun E s => match E[i]? with
  | some (some x) => ofRes (e E s) E fun y s1 => ofRes (p x y s1) E fun z s2 => .nx (E.set i (some z)) s2
  | _ => .fail
/-- a, b = x, y with plain names -/
def sPar (i j : Nat) (a b : EC) : SC := fun E s => ofRes (a E s) E fun x s1 => ofRes (b E s1) E fun y s2 => .nx ((E.set i (some x)).set j (some y)) s2
def forV (t : TC) (b : SC) : List Val → SC
  | [], E, s => .nx E s
  | x :: xs, E, s => match t x E s with
    | none => .fail
    | some (E1, s1) => match b E1 s1 with
      | .nx E2 s2 => forV t b xs E2 s2
      | .ct E2 s2 => forV t b xs E2 s2
      | .bk E2 s2 => .nx E2 s2
      | r => r
def forN (t : TC) (b : SC) (n : Nat) : Nat → Nat → SC
  | 0, _, _, _ => .fail
  | f + 1, i, E, s => match (s[n]?).bind obItems with
    | some xs => match xs[i]? with
      | none => .nx E s
      | some x => match t x E s with
        | none => .fail
        | some (E1, s1) => match b E1 s1 with
          | .nx E2 s2 => forN t b n f (i + 1) E2 s2
          | .ct E2 s2 => forN t b n f (i + 1) E2 s2
          | .bk E2 s2 => .nx E2 s2
          | r => r
    | _ => .fail
/-- the most turns of a while -/
def most : Nat := 1000000000
def sFor (t : TC) (i : IC) (b : SC) : SC := fun E s => ofRes (i E s) E fun sr s1 => match sr with
  | .vals xs => forV t b xs E s1
  | .live n => forN t b n most 0 E s1
def whl (c : BC) (b : SC) : Nat → SC
  | 0, _, _ => .fail
  | n + 1, E, s => ofRes (c E s) E fun x s1 => if x then match b E s1 with
      | .nx E2 s2 => whl c b n E2 s2
      | .ct E2 s2 => whl c b n E2 s2
      | .bk E2 s2 => .nx E2 s2
      | r => r
    else .nx E s1
def sWhl (c : BC) (b : SC) : SC := whl c b most
/-- how an own error keeps its argument: as it is, or as a tuple -/
inductive How where | plain | tuple
def keepAs (h : How) (f : Str) (x : Val) (s : Store) : Option (List (Str × D)) := match h, x with
  | .plain, .d z => some [(f, z)]
  | .tuple, .d (.tup xs) => some [(f, .tup xs)]
  | .tuple, .d (.lst xs) => some [(f, .tup xs)]
  | _, _ => none
/-- raise C(e) -/
def sRaise (c : Nat) (h : How) (f : Str) (e : EC) : SC := fun E s => ofRes (e E s) E fun x s1 => match keepAs h f x s1 with | some fs => .exc c fs E s1 | none => .fail
def noExV : Val → Bool | .exn _ _ => false | _ => true
def noExn : Option Val → Bool | some x => noExV x | none => true
def noExO : Obj → Bool
  | .lv xs => xs.all noExV | .dct kvs => kvs.all fun p => noExV p.2 | .ins _ fs => fs.all fun p => noExV p.2 | _ => true
noncomputable instance noExDec (s s1 : Store) : Decidable (s.all noExO = true ∨ s = s1) :=
  if h : s.all noExO = true then .isTrue (.inl h) else Classical.propDecidable _
/-- try: b except C as n: u (n in slot i); others: classes that pass -/
noncomputable def sTry (b : SC) (c : Nat) (others : List Nat) (i : Nat) (u : SC) : SC := fun E s => match b E s with
  | .exc c' fs E1 s1 => if c' = c then (if i < E1.length then match u (E1.set i (some (.exn c fs))) s1 with
      | .nx E2 s2 => if (E2.set i none).all noExn = true then (if s2.all noExO = true ∨ s2 = s1 then .nx (E2.set i none) s2 else .fail) else .fail
      | .rt (.d x) s2 => if s2.all noExO = true ∨ s2 = s1 then .rt (.d x) s2 else .fail
      | _ => .fail
    else .fail) else if c' ∈ others then .exc c' fs E1 s1 else .fail
  | r => r
/-- n.f of a caught error of the class c -/
def exF (c : Nat) (f : Str) (x : Val) (s : Store) : Res Val := match x with
  | .exn c' fs => if c' = c then (match fs.lookup f with | some z => .ok (.d z) s | none => .fail) else .fail
  | _ => .fail

/-! ### calls -/
abbrev Calls := Nat → List Val → Store → Res Val
def call (P : Calls) (f : Nat) (r : AC) : EC := fun E s => (r E s).bind fun xs s1 => P f xs s1
def cloV (n : Nat) : Val → Bool | .loc m => decide (m < n) | _ => true
def cloO (n : Nat) : Obj → Bool
  | .lst _ => true | .lv xs => xs.all (cloV n) | .dct kvs => kvs.all fun p => cloV n p.2 | .ins _ fs => fs.all fun p => cloV n p.2 | .dead => true
def clo (n : Nat) (s : Store) : Bool := s.all (cloO n)
noncomputable instance cloDec (n : Nat) (s s0 : Store) : Decidable (clo n s = true ∨ s = s0) :=
  if h : clo n s = true then .isTrue (.inl h) else Classical.propDecidable _
/-- a call's end: what was made within and is told is frozen (or kept), all else made within is forgotten -/
noncomputable def fin (keep : Bool) (s0 : Store) (x : Val) (s : Store) : Val × Store :=
  if s.length = s0.length then (x, s)
  else if clo s0.length (s.take s0.length) = true ∨ s.take s0.length = s0 then
    match x with
    | .d z => (.d z, s.take s0.length)
    | .loc n => if n < s0.length then (.loc n, s.take s0.length) else match s[n]? with
      | some (.lst ds) => if keep then (.loc s0.length, s.take s0.length ++ [.lst ds]) else (.d (.lst ds), s.take s0.length)
      | some (.dct kvs) => (match allKd kvs with
        | some ks => if keep then (.loc s0.length, s.take s0.length ++ [.dct kvs]) else (.d (.dct ks), s.take s0.length)
        | none => (.loc n, s))
      | _ => (.loc n, s)
    | .exn c fs => (.exn c fs, s)
  else (x, s)
structure Fn where
  pars : Nat
  slots : Nat
  keep : Bool
  body : SC
noncomputable def runFn (f : Fn) (xs : List Val) (s : Store) : Res Val :=
  if xs.length = f.pars then
    match f.body (xs.map some ++ List.replicate (f.slots - f.pars) none) s with
    | .nx _ s1 => let r := fin f.keep s (.d .non) s1; .ok r.1 r.2
    | .rt x s1 => let r := fin f.keep s x s1; .ok r.1 r.2
    | .exc c fs _ s1 => .exc c fs (fin f.keep s (.d .non) s1).2
    | _ => .fail
  else .fail
/-- a program: its defs by their numbers, each over the calls one level lower -/
noncomputable def runP (prog : Calls → Nat → Option Fn) : Nat → Calls
  | 0, _, _, _ => .fail
  | n + 1, f, xs, s => match prog (runP prog n) f with | some g => runFn g xs s | none => .fail
end Ev
end
section
set_option Elab.async false
set_option linter.all false
set_option autoImplicit false
set_option maxRecDepth 100000
set_option maxHeartbeats 4000000
/-! The evaluator's states and the abstract heaps that they stand for. -/
namespace Ev
open PySem L2

theorem line_eq : sizeLine = line := sizeLine_eq

/-- what the text says: its written part, its classes by their numbers, the errors that are being handled -/
structure Gd where
  K : PySem.W.Frag
  ca : Nat → Addr
  ex : Addr → Option Addr → Nat → Prop

mutual
def RepD (K : PySem.W.Frag) (M : Addr → Prop) (H : Hp) : D → V → Prop
  | .non, x => x = .non
  | .bl b, x => x = .bl b
  | .int i, x => x = .int i
  | .str z, x => x = .str z
  | .tup ds, x => ∃ a xs, x = .ref a ∧ SqT K H a xs ∧ ds.length ≤ sizeLine ∧ RepDs K M H ds xs
  | .lst ds, x => ∃ a xs, x = .ref a ∧ ¬ M a ∧ H a = some (.lst xs) ∧ ds.length ≤ sizeLine ∧ RepDs K M H ds xs
  | .dct kvs, x => ∃ a ks, x = .ref a ∧ ¬ M a ∧ H a = some (.dK ks) ∧ kvs.length ≤ sizeLine ∧ RepKs K M H kvs ks
  | .scr ns, x => ∃ a, x = .ref a ∧ ((∃ o, H a = some (.frz o (.lst (ns.map V.int)))) ∨ SqL K (fun _ => none) a (ns.map V.int)) ∧ ns.length ≤ sizeLine
def RepDs (K : PySem.W.Frag) (M : Addr → Prop) (H : Hp) : List D → List V → Prop
  | [], [] => True
  | d :: ds, x :: xs => RepD K M H d x ∧ RepDs K M H ds xs
  | [], _ :: _ => False
  | _ :: _, [] => False
def RepKs (K : PySem.W.Frag) (M : Addr → Prop) (H : Hp) : List (Key × D) → List (Key × V) → Prop
  | [], [] => True
  | (q, d) :: ds, p :: xs => (q = p.1 ∧ RepD K M H d p.2) ∧ RepKs K M H ds xs
  | [], _ :: _ => False
  | _ :: _, [] => False
end

/-- M: what may be changed; ρ: the addresses of the store's places -/
def RepV (G : Gd) (ρ : List Addr) (M : Addr → Prop) (H : Hp) : Val → V → Prop
  | .d d, x => RepD G.K M H d x
  | .loc n, x => ∃ a, ρ[n]? = some a ∧ x = .ref a
  | .exn c fs, x => ∃ a d xs, x = .ref a ∧ G.ex a (some d) c ∧ H d = some (.xd xs) ∧ ∀ f z, fs.lookup f = some z → ∃ y, xs.lookup f = some y ∧ RepD G.K M H z y
def RepVs (G : Gd) (ρ : List Addr) (M : Addr → Prop) (H : Hp) : List Val → List V → Prop
  | [], [] => True
  | d :: ds, x :: xs => RepV G ρ M H d x ∧ RepVs G ρ M H ds xs
  | [], _ :: _ => False
  | _ :: _, [] => False
def RepF {κ : Type} (G : Gd) (ρ : List Addr) (M : Addr → Prop) (H : Hp) : List (κ × Val) → List (κ × V) → Prop
  | [], [] => True
  | p :: ds, q :: xs => (p.1 = q.1 ∧ RepV G ρ M H p.2 q.2) ∧ RepF G ρ M H ds xs
  | [], _ :: _ => False
  | _ :: _, [] => False
def RepO (G : Gd) (ρ : List Addr) (M : Addr → Prop) (H : Hp) (a : Addr) : Obj → Prop
  | .lst ds => ∃ xs, H a = some (.lst xs) ∧ ds.length ≤ sizeLine ∧ RepDs G.K M H ds xs
  | .lv vs => ∃ xs, H a = some (.lst xs) ∧ vs.length ≤ sizeLine ∧ RepVs G ρ M H vs xs
  | .dct kvs => ∃ ks, H a = some (.dK ks) ∧ kvs.length ≤ sizeLine ∧ RepF G ρ M H kvs ks
  | .ins c fs => ∃ dx xs, H a = some (.ins (G.ca c) dx xs) ∧ RepF G ρ M H fs xs
  | .dead => True

def live (s : Store) (n : Nat) : Prop := ∃ o, s[n]? = some o ∧ o ≠ .dead
/-- what may be changed -/
def Mu (ρ : List Addr) (s : Store) (F : Addr → Prop) (a : Addr) : Prop := F a ∨ ∃ n : Nat, ρ[n]? = some a ∧ live s n

structure Rel (G : Gd) (F : Addr → Prop) (ρ : List Addr) (s : Store) (H : Hp) : Prop where
  len : ρ.length = s.length
  nd : ρ.Nodup
  nf : ∀ (n : Nat) a, ρ[n]? = some a → live s n → ¬ F a
  tr : ∀ (n : Nat) a, ρ[n]? = some a → ∃ o, H a = some o
  ft : ∀ a, F a → ∃ o, H a = some o
  ob : ∀ (n : Nat) o a, s[n]? = some o → ρ[n]? = some a → RepO G ρ (Mu ρ s F) H a o

/-- from one state to a later one: only what stands in the store was changed -/
structure Go (ρ : List Addr) (s : Store) (H : Hp) (ρ' : List Addr) (s' : Store) (H' : Hp) : Prop where
  pre : ∃ m, ρ' = ρ ++ m ∧ ∀ a ∈ m, H a = none
  liv : ∀ n : Nat, n < ρ.length → live s' n → live s n
  keep : ∀ a o, H a = some o → (∀ n : Nat, ρ[n]? = some a → ¬ live s n) → H' a = some o
  there : ∀ a o, H a = some o → ∃ o', H' a = some o'

theorem Go.refl {ρ : List Addr} {s : Store} {H : Hp} : Go ρ s H ρ s H :=
  ⟨⟨[], by simp, by simp⟩, fun _ _ h => h, fun _ _ h _ => h, fun _ o h => ⟨o, h⟩⟩
theorem Go.get {ρ ρ' : List Addr} {s s' : Store} {H H' : Hp} (g : Go ρ s H ρ' s' H') {n : Nat} {a : Addr} (h : ρ[n]? = some a) : ρ'[n]? = some a := by
  obtain ⟨m, rfl, _⟩ := g.pre
  rw [List.getElem?_append_left (List.getElem?_eq_some_iff.mp h).1]; exact h
theorem Go.back {ρ ρ' : List Addr} {s s' : Store} {H H' : Hp} (g : Go ρ s H ρ' s' H') {n : Nat} {a : Addr} (h : ρ'[n]? = some a) : ρ[n]? = some a ∨ (ρ.length ≤ n ∧ H a = none) := by
  obtain ⟨m, rfl, hm⟩ := g.pre
  by_cases hn : n < ρ.length
  · rw [List.getElem?_append_left hn] at h; exact .inl h
  · rw [List.getElem?_append_right (by omega)] at h
    exact .inr ⟨by omega, hm a (List.mem_of_getElem? h)⟩
theorem Go.trans {ρ ρ1 ρ2 : List Addr} {s s1 s2 : Store} {H H1 H2 : Hp} (g : Go ρ s H ρ1 s1 H1) (g' : Go ρ1 s1 H1 ρ2 s2 H2) : Go ρ s H ρ2 s2 H2 := by
  obtain ⟨m, e, hm⟩ := id g.pre
  obtain ⟨m', e', hm'⟩ := id g'.pre
  refine ⟨⟨m ++ m', by rw [e', e, List.append_assoc], fun a ha => ?_⟩, fun n hn h => ?_, fun a o h hl => ?_, fun a o h => ?_⟩
  · rcases List.mem_append.mp ha with h | h
    · exact hm a h
    · cases q : H a with
      | none => rfl
      | some o =>
        obtain ⟨o', e2⟩ := g.there a o q
        rw [hm' a h] at e2; cases e2
  · exact g.liv n hn (g'.liv n (by rw [e, List.length_append]; omega) h)
  · refine g'.keep a o (g.keep a o h hl) fun n hn hv => ?_
    rcases g.back hn with q | ⟨_, q⟩
    · exact hl n q (g.liv n (List.getElem?_eq_some_iff.mp q).1 hv)
    · rw [h] at q; cases q
  · obtain ⟨o1, h1⟩ := g.there a o h
    exact g'.there a o1 h1

/-- what is tracked and not changed stays so -/
theorem Go.mu {F : Addr → Prop} {ρ ρ' : List Addr} {s s' : Store} {H H' : Hp} (g : Go ρ s H ρ' s' H') {a : Addr} {o : HO} (h : H a = some o) (n : ¬ Mu ρ s F a) : H' a = some o ∧ ¬ Mu ρ' s' F a := by
  refine ⟨g.keep a o h fun m hm hl => n (.inr ⟨m, hm, hl⟩), fun q => ?_⟩
  rcases q with q | ⟨m, hm, hl⟩
  · exact n (.inl q)
  · rcases g.back hm with e | ⟨_, e⟩
    · exact n (.inr ⟨m, e, g.liv m (List.getElem?_eq_some_iff.mp e).1 hl⟩)
    · rw [h] at e; cases e

/-- from (M, H) to (M', H'): what is frozen stays -/
structure Still (M : Addr → Prop) (H : Hp) (M' : Addr → Prop) (H' : Hp) : Prop where
  fz : ∀ a o, H a = some o → ¬ M a → H' a = some o ∧ ¬ M' a
  tp : ∀ a xs, H a = some (.tup xs) → H' a = some (.tup xs)
  lk : ∀ a o u, H a = some (.frz o u) → H' a = some (.frz o u)
  xd : ∀ a xs, H a = some (.xd xs) → H' a = some (.xd xs)
theorem Still.sqT {K : PySem.W.Frag} {M M' : Addr → Prop} {H H' : Hp} (t : Still M H M' H') {a : Addr} {xs : List V} (h : SqT K H a xs) : SqT K H' a xs := by
  rcases h with (h | ⟨o, h⟩) | h
  · exact .inl (.inl (t.tp _ _ h))
  · exact .inl (.inr ⟨o, t.lk _ _ _ h⟩)
  · exact .inr h

section
variable {K : PySem.W.Frag} {M M' : Addr → Prop} {H H' : Hp}
mutual
theorem RepD.still (t : Still M H M' H') : ∀ (d : D) (x : V), RepD K M H d x → RepD K M' H' d x
  | .non, _, h => h
  | .bl _, _, h => h
  | .int _, _, h => h
  | .str _, _, h => h
  | .tup ds, x, h => by
    simp only [RepD] at h ⊢
    obtain ⟨a, xs, e, q, l, r⟩ := h
    exact ⟨a, xs, e, t.sqT q, l, RepDs.still t ds xs r⟩
  | .lst ds, x, h => by
    simp only [RepD] at h ⊢
    obtain ⟨a, xs, e, n, q, l, r⟩ := h
    obtain ⟨q', n'⟩ := t.fz a _ q n
    exact ⟨a, xs, e, n', q', l, RepDs.still t ds xs r⟩
  | .dct ds, x, h => by
    simp only [RepD] at h ⊢
    obtain ⟨a, xs, e, n, q, l, r⟩ := h
    obtain ⟨q', n'⟩ := t.fz a _ q n
    exact ⟨a, xs, e, n', q', l, RepKs.still t ds xs r⟩
  | .scr ns, x, h => by
    simp only [RepD] at h ⊢
    obtain ⟨a, e, q, l⟩ := h
    refine ⟨a, e, ?_, l⟩
    rcases q with ⟨o, q⟩ | q
    · exact .inl ⟨o, t.lk _ _ _ q⟩
    · exact .inr q
theorem RepDs.still (t : Still M H M' H') : ∀ (ds : List D) (xs : List V), RepDs K M H ds xs → RepDs K M' H' ds xs
  | [], [], _ => trivial
  | d :: ds, x :: xs, h => by
    simp only [RepDs] at h ⊢
    exact ⟨RepD.still t d x h.1, RepDs.still t ds xs h.2⟩
  | [], _ :: _, h => by simp [RepDs] at h
  | _ :: _, [], h => by simp [RepDs] at h
theorem RepKs.still (t : Still M H M' H') : ∀ (ds : List (Key × D)) (xs : List (Key × V)), RepKs K M H ds xs → RepKs K M' H' ds xs
  | [], [], _ => trivial
  | (q, d) :: ds, p :: xs, h => by
    simp only [RepKs] at h ⊢
    exact ⟨⟨h.1.1, RepD.still t d p.2 h.1.2⟩, RepKs.still t ds xs h.2⟩
  | [], _ :: _, h => by simp [RepKs] at h
  | _ :: _, [], h => by simp [RepKs] at h
end
end

theorem RepV.still {G : Gd} {ρ ρ' : List Addr} {M M' : Addr → Prop} {H H' : Hp} (t : Still M H M' H') (p : ∀ (n : Nat) a, ρ[n]? = some a → ρ'[n]? = some a) :
    ∀ (v : Val) (y : V), RepV G ρ M H v y → RepV G ρ' M' H' v y
  | .d d, y, h => RepD.still t d y h
  | .loc n, y, ⟨a, h, e⟩ => ⟨a, p n a h, e⟩
  | .exn c fs, y, ⟨a, d, xs, e, g, h, r⟩ => ⟨a, d, xs, e, g, t.xd d xs h, fun f z hz => let ⟨w, hw, rw'⟩ := r f z hz; ⟨w, hw, RepD.still t z w rw'⟩⟩
theorem RepVs.still {G : Gd} {ρ ρ' : List Addr} {M M' : Addr → Prop} {H H' : Hp} (t : Still M H M' H') (p : ∀ (n : Nat) a, ρ[n]? = some a → ρ'[n]? = some a) :
    ∀ (vs : List Val) (ys : List V), RepVs G ρ M H vs ys → RepVs G ρ' M' H' vs ys
  | [], [], _ => trivial
  | v :: vs, y :: ys, h => ⟨RepV.still t p v y h.1, RepVs.still t p vs ys h.2⟩
  | [], _ :: _, h => h
  | _ :: _, [], h => h
theorem RepF.still {κ : Type} {G : Gd} {ρ ρ' : List Addr} {M M' : Addr → Prop} {H H' : Hp} (t : Still M H M' H') (p : ∀ (n : Nat) a, ρ[n]? = some a → ρ'[n]? = some a) :
    ∀ (vs : List (κ × Val)) (ys : List (κ × V)), RepF G ρ M H vs ys → RepF G ρ' M' H' vs ys
  | [], [], _ => trivial
  | v :: vs, y :: ys, h => ⟨⟨h.1.1, RepV.still t p v.2 y.2 h.1.2⟩, RepF.still t p vs ys h.2⟩
  | [], _ :: _, h => h
  | _ :: _, [], h => h

/-- what stands at a live place is a list, a dict, an instance -/
theorem Rel.kind {G : Gd} {F : Addr → Prop} {ρ : List Addr} {s : Store} {H : Hp} (r : Rel G F ρ s H) {n : Nat} {a : Addr} (h : ρ[n]? = some a) (l : live s n) :
    (∃ xs, H a = some (.lst xs)) ∨ (∃ ks, H a = some (.dK ks)) ∨ ∃ C dx xs, H a = some (.ins C dx xs) := by
  obtain ⟨o, ho, hd⟩ := l
  have q := r.ob n o a ho h
  cases o with
  | lst ds => obtain ⟨xs, e, _⟩ := q; exact .inl ⟨xs, e⟩
  | lv ds => obtain ⟨xs, e, _⟩ := q; exact .inl ⟨xs, e⟩
  | dct ds => obtain ⟨xs, e, _⟩ := q; exact .inr (.inl ⟨xs, e⟩)
  | ins c fs => obtain ⟨dx, xs, e, _⟩ := q; exact .inr (.inr ⟨_, dx, xs, e⟩)
  | dead => exact absurd rfl hd
theorem Rel.still {G : Gd} {F : Addr → Prop} {ρ ρ' : List Addr} {s s' : Store} {H H' : Hp} (r : Rel G F ρ s H) (g : Go ρ s H ρ' s' H') : Still (Mu ρ s F) H (Mu ρ' s' F) H' := by
  have nl : ∀ {a : Addr} {o : HO}, H a = some o → (∀ xs, o ≠ .lst xs) → (∀ xs, o ≠ .dK xs) → (∀ C dx xs, o ≠ .ins C dx xs) → H' a = some o := fun {a o} h h1 h2 h3 => by
    refine g.keep a o h fun n hn hl => ?_
    rcases r.kind hn hl with ⟨xs, e⟩ | ⟨xs, e⟩ | ⟨C, dx, xs, e⟩
    · rw [h] at e; exact h1 _ (Option.some.inj e)
    · rw [h] at e; exact h2 _ (Option.some.inj e)
    · rw [h] at e; exact h3 _ _ _ (Option.some.inj e)
  refine ⟨fun a o h n => g.mu h n, fun a xs h => nl h ?_ ?_ ?_, fun a o u h => nl h ?_ ?_ ?_, fun a xs h => nl h ?_ ?_ ?_⟩
  all_goals intros; intro z; cases z

/-- the slots -/
structure RepE (G : Gd) (ρ : List Addr) (M : Addr → Prop) (H : Hp) (E : Env) (σ : St) : Prop where
  len : E.length = σ.length
  get : ∀ (i : Nat) v, E[i]? = some (some v) → ∃ x, σ[i]? = some (some x) ∧ RepV G ρ M H v x
theorem RepE.still {G : Gd} {ρ ρ' : List Addr} {M M' : Addr → Prop} {H H' : Hp} {E : Env} {σ : St} (h : RepE G ρ M H E σ) (t : Still M H M' H') (p : ∀ (n : Nat) a, ρ[n]? = some a → ρ'[n]? = some a) : RepE G ρ' M' H' E σ :=
  ⟨h.len, fun i v e => let ⟨x, e', r⟩ := h.get i v e; ⟨x, e', RepV.still t p v x r⟩⟩
theorem RepE.set {G : Gd} {ρ : List Addr} {M : Addr → Prop} {H : Hp} {E : Env} {σ : St} (h : RepE G ρ M H E σ) {v : Val} {x : V} (r : RepV G ρ M H v x) (i : Nat) : RepE G ρ M H (E.set i (some v)) (σ.set i (some x)) := by
  refine ⟨by simp [h.len], fun j w e => ?_⟩
  by_cases hj : i = j
  · subst hj
    by_cases hi : i < E.length
    · rw [List.getElem?_set_self hi] at e; cases e
      exact ⟨x, List.getElem?_set_self (by rw [← h.len]; exact hi), r⟩
    · rw [List.getElem?_eq_none (by simp; omega)] at e; cases e
  · rw [List.getElem?_set_ne hj] at e
    rw [List.getElem?_set_ne hj]; exact h.get j w e
theorem RepE.unset {G : Gd} {ρ : List Addr} {M : Addr → Prop} {H : Hp} {E : Env} {σ : St} (h : RepE G ρ M H E σ) (i : Nat) : RepE G ρ M H (E.set i none) (σ.set i none) := by
  refine ⟨by simp [h.len], fun j w e => ?_⟩
  by_cases hj : i = j
  · subst hj
    by_cases hi : i < E.length
    · rw [List.getElem?_set_self hi] at e; cases e
    · rw [List.getElem?_eq_none (by simp; omega)] at e; cases e
  · rw [List.getElem?_set_ne hj] at e
    rw [List.getElem?_set_ne hj]; exact h.get j w e
theorem RepE.wipe {G : Gd} {ρ : List Addr} {M : Addr → Prop} {H : Hp} {E : Env} {σ : St} (h : RepE G ρ M H E σ) : ∀ ws : List Nat, RepE G ρ M H (Ev.wipe E ws) (L2.wipe σ ws)
  | [] => h
  | i :: ws => (RepE.wipe h ws).unset i

/-- a state, its slots -/
structure At (G : Gd) (F : Addr → Prop) (ρ : List Addr) (s : Store) (H : Hp) (E : Env) (σ : St) : Prop where
  rel : Rel G F ρ s H
  env : RepE G ρ (Mu ρ s F) H E σ
theorem At.go {G : Gd} {F : Addr → Prop} {ρ ρ' : List Addr} {s s' : Store} {H H' : Hp} {E : Env} {σ : St} (a : At G F ρ s H E σ) (g : Go ρ s H ρ' s' H') (r : Rel G F ρ' s' H') : At G F ρ' s' H' E σ :=
  ⟨r, a.env.still (a.rel.still g) fun _ _ h => g.get h⟩
theorem Rel.val {G : Gd} {F : Addr → Prop} {ρ ρ' : List Addr} {s s' : Store} {H H' : Hp} (r : Rel G F ρ s H) (g : Go ρ s H ρ' s' H') {v : Val} {x : V} (h : RepV G ρ (Mu ρ s F) H v x) : RepV G ρ' (Mu ρ' s' F) H' v x :=
  RepV.still (r.still g) (fun _ _ h => g.get h) v x h
theorem Rel.vals {G : Gd} {F : Addr → Prop} {ρ ρ' : List Addr} {s s' : Store} {H H' : Hp} (r : Rel G F ρ s H) (g : Go ρ s H ρ' s' H') {v : List Val} {x : List V} (h : RepVs G ρ (Mu ρ s F) H v x) : RepVs G ρ' (Mu ρ' s' F) H' v x :=
  RepVs.still (r.still g) (fun _ _ h => g.get h) v x h

/-- what stands for a result -/
abbrev RR (A B : Type) := List Addr → (Addr → Prop) → Hp → A → B → Prop
def rB : RR Bool Bool := fun _ _ _ a b => a = b
def ErrOk (G : Gd) (F : Addr → Prop) (ρ : List Addr) (s : Store) (H : Hp) (c : Nat) (fs : List (Str × D)) (s' : Store) (Z : Value → Option Addr → Hp → Prop) : Prop :=
  ∀ ρ' H' d xs, Go ρ s H ρ' s' H' → Rel G F ρ' s' H' → H' d = some (.xd xs) → (∀ f z, fs.lookup f = some z → ∃ y, xs.lookup f = some y ∧ RepD G.K (Mu ρ' s' F) H' z y) → Z (.ref (G.ca c)) (some d) H'
def Out {A B : Type} (G : Gd) (F : Addr → Prop) (ρ : List Addr) (s : Store) (H : Hp) (Z : Value → Option Addr → Hp → Prop) (R : RR A B) (r : Res A) (Q : B → Hp → Prop) : Prop :=
  match r with
  | .ok a s' => ∀ b ρ' H', Go ρ s H ρ' s' H' → Rel G F ρ' s' H' → R ρ' (Mu ρ' s' F) H' a b → Q b H'
  | .exc c fs s' => ErrOk G F ρ s H c fs s' Z
  | .fail => False
section
variable {A B C E : Type} {G : Gd} {F : Addr → Prop} {ρ ρ1 : List Addr} {s s1 : Store} {H H1 : Hp} {Z : Value → Option Addr → Hp → Prop} {R : RR A B} {R' : RR C E} {r : Res A}
theorem Out.mono {Q Q' : B → Hp → Prop} (h : Out G F ρ s H Z R r Q) (q : ∀ b H, Q b H → Q' b H) : Out G F ρ s H Z R r Q' := by
  cases r with
  | ok a s' => exact fun b ρ' H' g l x => q _ _ (h b ρ' H' g l x)
  | exc c fs s' => exact h
  | fail => exact h
theorem Out.shift {Q : B → Hp → Prop} (g : Go ρ s H ρ1 s1 H1) (h : Out G F ρ s H Z R r Q) : Out G F ρ1 s1 H1 Z R r Q := by
  cases r with
  | ok a s' => exact fun b ρ' H' g' l x => h b ρ' H' (g.trans g') l x
  | exc c fs s' => exact fun ρ' H' d xs g' => h ρ' H' d xs (g.trans g')
  | fail => exact h
theorem Out.bind {f : A → Store → Res C} {Q : E → Hp → Prop} (h : Out G F ρ s H Z R' (r.bind f) Q) :
    Out G F ρ s H Z R r fun b H1 => ∃ ρ1 s1 a, Go ρ s H ρ1 s1 H1 ∧ Rel G F ρ1 s1 H1 ∧ R ρ1 (Mu ρ1 s1 F) H1 a b ∧ Out G F ρ1 s1 H1 Z R' (f a s1) Q := by
  cases r with
  | ok a s' => exact fun b ρ' H' g l x => ⟨ρ', s', a, g, l, x, Out.shift g h⟩
  | exc c fs s' => exact h
  | fail => exact h
theorem Out.ret {Q : B → Hp → Prop} {a : A} (h : Out G F ρ s H Z R (.ok a s) Q) (l : Rel G F ρ s H) {b : B} (x : R ρ (Mu ρ s F) H a b) : Q b H := h b ρ H .refl l x
end

/-- the readings -/
def tE (G : Gd) (W : WX) (c : EC) : TE := fun σ H Q => ∃ F ρ s E, At G F ρ s H E σ ∧ Out G F ρ s H (fun C d H' => W C d σ H') (RepV G) (c E s) Q
def tT (G : Gd) (W : WX) (c : BC) : TT := fun σ H Q => ∃ F ρ s E, At G F ρ s H E σ ∧ Out G F ρ s H (fun C d H' => W C d σ H') rB (c E s) Q
def tA (G : Gd) (W : WX) (c : AC) : TA := fun σ H Q => ∃ F ρ s E, At G F ρ s H E σ ∧ Out G F ρ s H (fun C d H' => W C d σ H') (RepVs G) (c E s) Q
abbrev SE (G : Gd) (W : WX) (X : Cx) (c : EC) (e : Expr) : Prop := PE X e (tE G W c)
abbrev ST (G : Gd) (W : WX) (X : Cx) (c : BC) (e : Expr) : Prop := PT X e (tT G W c)
abbrev SW (G : Gd) (W : WX) (X : Cx) (c : BC) (e : Expr) : Prop := PW X e (tT G W c)
abbrev SA (G : Gd) (W : WX) (X : Cx) (c : AC) (es : List Expr) : Prop := PA X es (tA G W c)

theorem PE.imp {X : Cx} {e : Expr} {t t' : TE} (h : PE X e t) (i : ∀ σ H Q, t' σ H Q → t σ H Q) : PE X e t' := ⟨fun pins s σ H Q I q => h.run pins s σ H Q I (i σ H Q q)⟩
theorem PT.imp {X : Cx} {e : Expr} {t t' : TT} (h : PT X e t) (i : ∀ σ H Q, t' σ H Q → t σ H Q) : PT X e t' := ⟨fun pins s σ H Q I q => h.run pins s σ H Q I (i σ H Q q)⟩
theorem PW.imp {X : Cx} {e : Expr} {t t' : TT} (h : PW X e t) (i : ∀ σ H Q, t' σ H Q → t σ H Q) : PW X e t' := ⟨fun wh pins s σ H Q I q => h.run wh pins s σ H Q I (i σ H Q q)⟩
theorem PA.imp {X : Cx} {e : List Expr} {t t' : TA} (h : PA X e t) (i : ∀ σ H Q, t' σ H Q → t σ H Q) : PA X e t' := ⟨fun pos pins s σ H Q I q => h.run pos pins s σ H Q I (i σ H Q q)⟩
theorem PS.imp {X : Cx} {e : Stmt} {t t' : TS} (h : PS X e t) (i : ∀ D σ H, t' D σ H → t D σ H) : PS X e t' := ⟨fun pins s σ H D I q => h.run pins s σ H D I (i D σ H q)⟩
theorem PSs.imp {X : Cx} {e : List Stmt} {t t' : TS} (h : PSs X e t) (i : ∀ D σ H, t' D σ H → t D σ H) : PSs X e t' := ⟨fun pins s σ H D I q => h.run pins s σ H D I (i D σ H q)⟩

section
variable {G : Gd} {W : WX} {X : Cx} {a b c : Expr} {ca cb cc : EC} {ba bb : BC} {pos : Pos}
theorem tE.one {c : EC} {σ : St} {H : Hp} {Q : VK} {Q' : VK} (h : tE G W c σ H Q) (q : ∀ b H, Q b H → Q' b H) : tE G W c σ H Q' := by
  obtain ⟨F, ρ, s, E, a, o⟩ := h
  exact ⟨F, ρ, s, E, a, o.mono q⟩

/-! ### names, constants -/
theorem se_v {i : Nat} {x : Str} (hN : X.N[i]? = some x := by rfl) (hv : Vis X.env.scope x := by first | exact .inl rfl | exact .inr (.inl rfl) | exact .inr (.inr rfl))
    (hd : (x == ("__debug__" : Str)) = false := by decide +kernel) (hcd : (x == ("__classdict__" : Str)) = false := by decide +kernel) : SE G W X (v i) (.Name x pos) :=
  PE.imp (pe_var (i := i) hN hv hd hcd) fun σ H Q ⟨F, ρ, s, E, at_, o⟩ => by
    unfold v at o
    cases e : E[i]? with
    | none => rw [e] at o; exact o.elim
    | some w =>
      cases w with
      | none => rw [e] at o; exact o.elim
      | some y =>
        rw [e] at o
        obtain ⟨x, hx, r⟩ := at_.env.get i y e
        exact ⟨x, hx, Out.ret o at_.rel r⟩
theorem se_int {i : Int} {j : Nat} : SE G W X (k (.int i)) (.Constant (.int i) j pos) := PE.imp pe_int fun σ H Q ⟨F, ρ, s, E, at_, o⟩ => Out.ret (R := RepV G) (b := .int i) o at_.rel (by simp [RepV, RepD])
theorem se_bl {i : Bool} {j : Nat} : SE G W X (k (.bl i)) (.Constant (.bool i) j pos) := PE.imp pe_bl fun σ H Q ⟨F, ρ, s, E, at_, o⟩ => Out.ret (R := RepV G) (b := .bl i) o at_.rel (by simp [RepV, RepD])
theorem se_non {j : Nat} : SE G W X (k .non) (.Constant .none j pos) := PE.imp pe_non fun σ H Q ⟨F, ρ, s, E, at_, o⟩ => Out.ret (R := RepV G) (b := .non) o at_.rel (by simp [RepV, RepD])
theorem se_str {x : Str} {j : Nat} : SE G W X (k (.str x)) (.Constant (.str x) j pos) := PE.imp pe_str fun σ H Q ⟨F, ρ, s, E, at_, o⟩ => Out.ret (R := RepV G) (b := .str x) o at_.rel (by simp [RepV, RepD])

/-! ### operators by values -/
/-- a two-place operation does what p says -/
def rP (G : Gd) (p : Val → Val → Store → Res Val) : R2 := fun x y H Q => ∃ F ρ s Z v1 v2, Rel G F ρ s H ∧ RepV G ρ (Mu ρ s F) H v1 x ∧ RepV G ρ (Mu ρ s F) H v2 y ∧ Out G F ρ s H Z (RepV G) (p v1 v2 s) Q
abbrev OpP (G : Gd) (X : Cx) (f : Value → Value → Sem Value) (p : Val → Val → Store → Res Val) : Prop := OpR X f (rP G p)
theorem op_to {f : Value → Value → Sem Value} {p : Val → Val → Store → Res Val} {σ : St} {H : Hp} {Q : VK} (h : tE G W (e2 p ca cb) σ H Q) : tOp (rP G p) (tE G W ca) (tE G W cb) σ H Q := by
  obtain ⟨F, ρ, s, E, at_, o⟩ := h
  refine ⟨F, ρ, s, E, at_, (Out.bind (R := RepV G) o).mono ?_⟩
  rintro x H1 ⟨ρ1, s1, v1, g1, l1, x1, o1⟩
  refine ⟨F, ρ1, s1, E, at_.go g1 l1, (Out.bind (R := RepV G) o1).mono ?_⟩
  rintro y H2 ⟨ρ2, s2, v2, g2, l2, x2, o2⟩
  exact ⟨F, ρ2, s2, _, v1, v2, l2, l1.val g2 x1, x2, o2⟩
theorem se_bin {op : Operator} {p : Val → Val → Store → Res Val} (ho : OpP G X (binaryOp op) p) (ha : SE G W X ca a) (hb : SE G W X cb b) : SE G W X (e2 p ca cb) (.BinOp a op b pos) :=
  PE.imp (pe_op ho ha hb) fun σ H Q h => op_to (f := binaryOp op) h
theorem se_cmp {op : CmpOp} {p : Val → Val → Store → Res Val} (ho : OpP G X (compareOp op) p) (ha : SE G W X ca a) (hb : SE G W X cb b) (hm : behindInMarks op b = false := by first | exact nomark _ | rfl | with_unfolding_all rfl) : SE G W X (e2 p ca cb) (.Compare a [op] [b] pos) :=
  PE.imp (pe_cmpR ho ha hb hm) fun σ H Q h => op_to (f := compareOp op) h
end
end Ev
end
section
set_option Elab.async false
set_option linter.all false
set_option autoImplicit false
set_option maxRecDepth 100000
set_option maxHeartbeats 4000000
/-! States that change; tests, arguments, displays. -/
namespace Ev
open PySem L2

section
variable {G : Gd} {F : Addr → Prop} {ρ ρ' : List Addr} {s s' : Store} {H H' : Hp}
theorem RepO.still {M M' : Addr → Prop} {a : Addr} (t : Still M H M' H') (p : ∀ (n : Nat) a, ρ[n]? = some a → ρ'[n]? = some a) (e : ∀ o, H a = some o → H' a = some o) : ∀ o : Obj, RepO G ρ M H a o → RepO G ρ' M' H' a o
  | .lst ds, ⟨xs, h, l, r⟩ => ⟨xs, e _ h, l, RepDs.still t ds xs r⟩
  | .lv vs, ⟨xs, h, l, r⟩ => ⟨xs, e _ h, l, RepVs.still t p vs xs r⟩
  | .dct vs, ⟨xs, h, l, r⟩ => ⟨xs, e _ h, l, RepF.still t p vs xs r⟩
  | .ins c fs, ⟨dx, xs, h, r⟩ => ⟨dx, xs, e _ h, RepF.still t p fs xs r⟩
  | .dead, _ => trivial
/-- a new address is nobody's -/
theorem Rel.free (r : Rel G F ρ s H) {p : Addr} (n : H p = none) : ¬ Mu ρ s F p := fun q => by
  rcases q with q | ⟨m, hm, _⟩
  · obtain ⟨o, e⟩ := r.ft p q; rw [n] at e; cases e
  · obtain ⟨o, e⟩ := r.tr m p hm; rw [n] at e; cases e
theorem Rel.nin (r : Rel G F ρ s H) {p : Addr} (n : H p = none) : p ∉ ρ := fun q => by
  obtain ⟨m, hm, e⟩ := List.getElem_of_mem q
  obtain ⟨o, e⟩ := r.tr m p (by rw [List.getElem?_eq_getElem hm, e]); rw [n] at e; cases e

theorem go_new {p : Addr} {o : HO} (n : H p = none) : Go ρ s H ρ s (upd H p o) :=
  ⟨⟨[], by simp, by simp⟩, fun _ _ h => h, fun a u h _ => by rw [upd_ne (ne_of_none h n)]; exact h, fun a u h => ⟨u, by rw [upd_ne (ne_of_none h n)]; exact h⟩⟩
/-- something new stands at p -/
theorem Rel.new (r : Rel G F ρ s H) {p : Addr} {o : HO} (n : H p = none) : Rel G F ρ s (upd H p o) := by
  have g : Go ρ s H ρ s (upd H p o) := go_new n
  have t := r.still g
  refine ⟨r.len, r.nd, r.nf, fun m a h => ?_, fun a h => ?_, fun m u a h1 h2 => ?_⟩
  · obtain ⟨u, e⟩ := r.tr m a h; exact ⟨u, by rw [upd_ne (ne_of_none e n)]; exact e⟩
  · obtain ⟨u, e⟩ := r.ft a h; exact ⟨u, by rw [upd_ne (ne_of_none e n)]; exact e⟩
  · exact RepO.still t (fun _ _ h => h) (fun u e => by rw [upd_ne (ne_of_none e n)]; exact e) u (r.ob m u a h1 h2)
theorem live_push {o : Obj} {n : Nat} (h : n < s.length) : live (s ++ [o]) n ↔ live s n := by
  unfold live; rw [List.getElem?_append_left h]
theorem go_push {p : Addr} {u : HO} {o : Obj} (l : ρ.length = s.length) (n : H p = none) : Go ρ s H (ρ ++ [p]) (s ++ [o]) (upd H p u) :=
  ⟨⟨[p], rfl, fun a h => by rw [List.mem_singleton.mp h]; exact n⟩, fun m hm h => (live_push (by omega)).mp h, fun a u h _ => by rw [upd_ne (ne_of_none h n)]; exact h, fun a u h => ⟨u, by rw [upd_ne (ne_of_none h n)]; exact h⟩⟩
/-- a new place of the store -/
theorem Rel.push (r : Rel G F ρ s H) {p : Addr} {u : HO} {o : Obj} (n : H p = none) (ho : ∀ M', Still (Mu ρ s F) H M' (upd H p u) → RepO G (ρ ++ [p]) M' (upd H p u) p o) : Rel G F (ρ ++ [p]) (s ++ [o]) (upd H p u) := by
  have g : Go ρ s H (ρ ++ [p]) (s ++ [o]) (upd H p u) := go_push r.len n
  have t := r.still g
  refine ⟨by simp [r.len], ?_, fun m a h l => ?_, fun m a h => ?_, fun a h => ?_, fun m v a h1 h2 => ?_⟩
  · rw [List.nodup_append]
    exact ⟨r.nd, by simp, fun a ha b hb => by rw [List.mem_singleton.mp hb]; intro e; subst e; exact r.nin n ha⟩
  · by_cases hm : m < ρ.length
    · rw [List.getElem?_append_left hm] at h
      exact r.nf m a h ((live_push (by rw [← r.len]; exact hm)).mp l)
    · rw [List.getElem?_append_right (by omega)] at h
      have := List.mem_of_getElem? h
      rw [List.mem_singleton] at this; subst this
      intro hf
      obtain ⟨o, e⟩ := r.ft _ hf; rw [n] at e; cases e
  · by_cases hm : m < ρ.length
    · rw [List.getElem?_append_left hm] at h
      obtain ⟨u, e⟩ := r.tr m a h; exact ⟨u, by rw [upd_ne (ne_of_none e n)]; exact e⟩
    · rw [List.getElem?_append_right (by omega)] at h
      have := List.mem_of_getElem? h
      rw [List.mem_singleton] at this; subst this
      exact ⟨_, upd_same⟩
  · obtain ⟨u, e⟩ := r.ft a h; exact ⟨u, by rw [upd_ne (ne_of_none e n)]; exact e⟩
  · by_cases hm : m < ρ.length
    · rw [List.getElem?_append_left hm] at h2
      rw [List.getElem?_append_left (by rw [← r.len]; exact hm)] at h1
      exact RepO.still t (fun k b h => by rw [List.getElem?_append_left (List.getElem?_eq_some_iff.mp h).1]; exact h) (fun u e => by rw [upd_ne (ne_of_none e n)]; exact e) v (r.ob m v a h1 h2)
    · have hl := r.len
      have e : m = ρ.length := by have := (List.getElem?_eq_some_iff.mp h2).1; simp at this; omega
      subst e
      rw [List.getElem?_append_right (by omega)] at h2
      rw [List.getElem?_append_right (by omega)] at h1
      have q := List.mem_of_getElem? h2
      rw [List.mem_singleton] at q; subst q
      have q := List.mem_of_getElem? h1
      rw [List.mem_singleton] at q; subst q
      exact ho _ t
theorem live_set {o : Obj} {n m : Nat} (h : live s n) (h' : live (s.set n o) m) : live s m := by
  obtain ⟨u, e, d⟩ := h'
  by_cases q : n = m
  · subst q; exact h
  · rw [List.getElem?_set_ne q] at e; exact ⟨u, e, d⟩
theorem go_set {n : Nat} {a : Addr} {o : Obj} {u : HO} (ha : ρ[n]? = some a) (l : live s n) (ht : ∃ w, H a = some w) : Go ρ s H ρ (s.set n o) (upd H a u) :=
  ⟨⟨[], by simp, by simp⟩, fun m _ h => live_set l h, fun b v h hl => by
    rw [upd_ne (fun e => hl n (by rw [e]; exact ha) l)]; exact h, fun b v h => by
    by_cases e : b = a
    · subst e; exact ⟨_, upd_same⟩
    · exact ⟨v, by rw [upd_ne e]; exact h⟩⟩
/-- a place of the store is changed -/
theorem Rel.set (r : Rel G F ρ s H) {n : Nat} {a : Addr} {o : Obj} {u : HO} (ha : ρ[n]? = some a) (l : live s n)
    (ho : ∀ M', Still (Mu ρ s F) H M' (upd H a u) → RepO G ρ M' (upd H a u) a o) : Rel G F ρ (s.set n o) (upd H a u) := by
  have g : Go ρ s H ρ (s.set n o) (upd H a u) := go_set ha l (r.tr n a ha)
  have t := r.still g
  refine ⟨by simp [r.len], r.nd, fun m b h l' => r.nf m b h (live_set l l'), fun m b h => ?_, fun b h => ?_, fun m v b h1 h2 => ?_⟩
  · obtain ⟨w, e⟩ := r.tr m b h; exact g.there b w e
  · obtain ⟨w, e⟩ := r.ft b h; exact g.there b w e
  · by_cases q : n = m
    · subst q
      rw [ha] at h2; cases h2
      rw [List.getElem?_set_self (by rw [← r.len]; exact (List.getElem?_eq_some_iff.mp ha).1)] at h1
      cases h1
      exact ho _ t
    · rw [List.getElem?_set_ne q] at h1
      have ne : b ≠ a := fun e => q (by
        obtain ⟨h3, e3⟩ := List.getElem?_eq_some_iff.mp ha
        obtain ⟨h4, e4⟩ := List.getElem?_eq_some_iff.mp h2
        exact (List.getElem_inj r.nd).mp (by rw [e3, e4, e]))
      exact RepO.still t (fun _ _ h => h) (fun u e => by rw [upd_ne ne]; exact e) v (r.ob m v b h1 h2)
theorem go_kill {n : Nat} (l : live s n) : Go ρ s H ρ (s.set n .dead) H :=
  ⟨⟨[], by simp, by simp⟩, fun m _ h => live_set l h, fun b v h hl => h, fun b v h => ⟨v, h⟩⟩
theorem not_live_kill {n : Nat} : ¬ live (s.set n .dead) n := fun ⟨o, e, d⟩ => by
  by_cases q : n < s.length
  · rw [List.getElem?_set_self q] at e; cases e; exact d rfl
  · rw [List.getElem?_eq_none (by simp; omega)] at e; cases e
theorem Rel.kill (r : Rel G F ρ s H) {n : Nat} (l : live s n) : Rel G F ρ (s.set n .dead) H := by
  have g : Go ρ s H ρ (s.set n .dead) H := go_kill l
  have t := r.still g
  refine ⟨by simp [r.len], r.nd, fun m b h l' => r.nf m b h (live_set l l'), r.tr, r.ft, fun m v b h1 h2 => ?_⟩
  by_cases q : n = m
  · subst q
    by_cases q : n < s.length
    · rw [List.getElem?_set_self q] at h1; cases h1; trivial
    · rw [List.getElem?_eq_none (by simp; omega)] at h1; cases h1
  · rw [List.getElem?_set_ne q] at h1
    exact RepO.still t (fun _ _ h => h) (fun u e => e) v (r.ob m v b h1 h2)
theorem Rel.of_live (r : Rel G F ρ s H) {n : Nat} {o : Obj} (h : s[n]? = some o) : ∃ a, ρ[n]? = some a := by
  have := (List.getElem?_eq_some_iff.mp h).1
  exact ⟨ρ[n]'(by rw [r.len]; exact this), List.getElem?_eq_getElem _⟩

/-! ### data -/
theorem RepDs.len {K : PySem.W.Frag} {M : Addr → Prop} : ∀ {ds : List D} {xs : List V}, RepDs K M H ds xs → ds.length = xs.length
  | [], [], _ => rfl
  | _ :: _, _ :: _, h => by simp only [RepDs] at h; simp [RepDs.len h.2]
  | [], _ :: _, h => by simp [RepDs] at h
  | _ :: _, [], h => by simp [RepDs] at h
theorem RepDs.append {K : PySem.W.Frag} {M : Addr → Prop} : ∀ {ds es : List D} {xs ys : List V}, RepDs K M H ds xs → RepDs K M H es ys → RepDs K M H (ds ++ es) (xs ++ ys)
  | [], _, [], _, _, h => h
  | _ :: _, _, _ :: _, _, h, h' => by simp only [RepDs, List.cons_append] at h ⊢; exact ⟨h.1, RepDs.append h.2 h'⟩
  | [], _, _ :: _, _, h, _ => by simp [RepDs] at h
  | _ :: _, _, [], _, h, _ => by simp [RepDs] at h
theorem RepDs.get {K : PySem.W.Frag} {M : Addr → Prop} : ∀ {ds : List D} {xs : List V} {i : Nat} {d : D}, RepDs K M H ds xs → ds[i]? = some d → ∃ x, xs[i]? = some x ∧ RepD K M H d x
  | d :: ds, x :: xs, 0, _, h, e => by simp only [RepDs] at h; simp at e; subst e; exact ⟨x, by simp, h.1⟩
  | d :: ds, x :: xs, i + 1, _, h, e => by simp only [RepDs] at h; simp at e; obtain ⟨y, hy, r⟩ := RepDs.get h.2 e; exact ⟨y, by simpa using hy, r⟩
  | [], _, _, _, _, e => by simp at e
  | _ :: _, [], _, _, h, _ => by simp [RepDs] at h
theorem RepDs.take {K : PySem.W.Frag} {M : Addr → Prop} : ∀ {ds : List D} {xs : List V} (n : Nat), RepDs K M H ds xs → RepDs K M H (ds.take n) (xs.take n)
  | _, _, 0, _ => by simp [RepDs]
  | [], [], _ + 1, _ => by simp [RepDs]
  | _ :: _, _ :: _, n + 1, h => by simp only [RepDs, List.take_succ_cons] at h ⊢; exact ⟨h.1, RepDs.take n h.2⟩
  | [], _ :: _, _ + 1, h => by simp [RepDs] at h
  | _ :: _, [], _ + 1, h => by simp [RepDs] at h
theorem RepDs.drop {K : PySem.W.Frag} {M : Addr → Prop} : ∀ {ds : List D} {xs : List V} (n : Nat), RepDs K M H ds xs → RepDs K M H (ds.drop n) (xs.drop n)
  | _, _, 0, h => by simpa using h
  | [], [], _ + 1, _ => by simp [RepDs]
  | _ :: _, _ :: _, n + 1, h => by simp only [RepDs, List.drop_succ_cons] at h ⊢; exact RepDs.drop n h.2
  | [], _ :: _, _ + 1, h => by simp [RepDs] at h
  | _ :: _, [], _ + 1, h => by simp [RepDs] at h
theorem RepDs.set {K : PySem.W.Frag} {M : Addr → Prop} {d : D} {x : V} (r : RepD K M H d x) : ∀ {ds : List D} {xs : List V} (n : Nat), RepDs K M H ds xs → RepDs K M H (ds.set n d) (xs.set n x)
  | [], [], _, h => by simp [RepDs]
  | _ :: _, _ :: _, 0, h => by simp only [RepDs, List.set_cons_zero] at h ⊢; exact ⟨r, h.2⟩
  | _ :: _, _ :: _, n + 1, h => by simp only [RepDs, List.set_cons_succ] at h ⊢; exact ⟨h.1, RepDs.set r n h.2⟩
  | [], _ :: _, _, h => by simp [RepDs] at h
  | _ :: _, [], _, h => by simp [RepDs] at h
theorem RepDs.eraseIdx {K : PySem.W.Frag} {M : Addr → Prop} : ∀ {ds : List D} {xs : List V} (n : Nat), RepDs K M H ds xs → RepDs K M H (ds.eraseIdx n) (xs.eraseIdx n)
  | [], [], _, h => by simp [RepDs]
  | _ :: _, _ :: _, 0, h => by simp only [RepDs, List.eraseIdx_cons_zero] at h ⊢; exact h.2
  | _ :: _, _ :: _, n + 1, h => by simp only [RepDs, List.eraseIdx_cons_succ] at h ⊢; exact ⟨h.1, RepDs.eraseIdx n h.2⟩
  | [], _ :: _, _, h => by simp [RepDs] at h
  | _ :: _, [], _, h => by simp [RepDs] at h
theorem RepDs.reverse {K : PySem.W.Frag} {M : Addr → Prop} : ∀ {ds : List D} {xs : List V}, RepDs K M H ds xs → RepDs K M H ds.reverse xs.reverse
  | [], [], _ => by simp [RepDs]
  | d :: ds, x :: xs, h => by
    simp only [RepDs, List.reverse_cons] at h ⊢
    exact RepDs.append (RepDs.reverse h.2) (by simp only [RepDs]; exact ⟨h.1, trivial⟩)
  | [], _ :: _, h => by simp [RepDs] at h
  | _ :: _, [], h => by simp [RepDs] at h
theorem RepDs.dropLast {K : PySem.W.Frag} {M : Addr → Prop} {ds : List D} {xs : List V} (h : RepDs K M H ds xs) : RepDs K M H ds.dropLast xs.dropLast := by
  rw [List.dropLast_eq_take, List.dropLast_eq_take, ← h.len]
  exact h.take _
theorem RepVs.len {M : Addr → Prop} : ∀ {ds : List Val} {xs : List V}, RepVs G ρ M H ds xs → ds.length = xs.length
  | [], [], _ => rfl
  | _ :: _, _ :: _, h => by simp [RepVs.len h.2]
  | [], _ :: _, h => h.elim
  | _ :: _, [], h => h.elim
theorem RepVs.get {M : Addr → Prop} : ∀ {ds : List Val} {xs : List V} {i : Nat} {d : Val}, RepVs G ρ M H ds xs → ds[i]? = some d → ∃ x, xs[i]? = some x ∧ RepV G ρ M H d x
  | d :: ds, x :: xs, 0, _, h, e => by simp at e; subst e; exact ⟨x, by simp, h.1⟩
  | d :: ds, x :: xs, i + 1, _, h, e => by simp at e; obtain ⟨y, hy, r⟩ := RepVs.get h.2 e; exact ⟨y, by simpa using hy, r⟩
  | [], _, _, _, _, e => by simp at e
  | _ :: _, [], _, _, h, _ => h.elim
theorem RepVs.ds {M : Addr → Prop} : ∀ {vs : List Val} {xs : List V} {ds : List D}, RepVs G ρ M H vs xs → allD vs = some ds → RepDs G.K M H ds xs
  | [], [], ds, _, e => by simp at e; subst e; simp [RepDs]
  | .d x :: vs, y :: ys, ds, h, e => by
    simp only [allD_cons, Option.map_eq_some_iff] at e
    obtain ⟨es, e1, rfl⟩ := e
    simp only [RepDs]
    exact ⟨h.1, RepVs.ds h.2 e1⟩
  | .loc _ :: _, _ :: _, _, _, e => by simp [allD] at e
  | .exn _ _ :: _, _ :: _, _, _, e => by simp [allD] at e
  | [], _ :: _, _, h, _ => h.elim
  | _ :: _, [], _, h, _ => h.elim
theorem RepDs.vs {M : Addr → Prop} : ∀ {ds : List D} {xs : List V}, RepDs G.K M H ds xs → RepVs G ρ M H (ds.map .d) xs
  | [], [], _ => trivial
  | _ :: _, _ :: _, h => by simp only [RepDs] at h; exact ⟨h.1, RepDs.vs h.2⟩
  | [], _ :: _, h => by simp [RepDs] at h
  | _ :: _, [], h => by simp [RepDs] at h
/-- a new frozen list, a new tuple -/
theorem Rel.newL (r : Rel G F ρ s H) {p : Addr} (n : H p = none) {ds : List D} {xs : List V} (l : ds.length ≤ sizeLine) (h : RepDs G.K (Mu ρ s F) H ds xs) : RepV G ρ (Mu ρ s F) (upd H p (.lst xs)) (.d (.lst ds)) (.ref p) := by
  simp only [RepV, RepD]
  exact ⟨p, xs, rfl, r.free n, upd_same, l, RepDs.still (r.still (go_new n)) ds xs h⟩
theorem Rel.newT (r : Rel G F ρ s H) {p : Addr} (n : H p = none) {ds : List D} {xs : List V} (l : ds.length ≤ sizeLine) (h : RepDs G.K (Mu ρ s F) H ds xs) : RepV G ρ (Mu ρ s F) (upd H p (.tup xs)) (.d (.tup ds)) (.ref p) := by
  simp only [RepV, RepD]
  exact ⟨p, xs, rfl, .inl (.inl upd_same), l, RepDs.still (r.still (go_new n)) ds xs h⟩
/-- an end with a new frozen list -/
theorem Out.newL {Z : Value → Option Addr → Hp → Prop} {Q : VK} {ds : List D} {xs : List V} (o : Out G F ρ s H Z (RepV G) (.ok (.d (.lst ds)) s) Q) (r : Rel G F ρ s H) (l : ds.length ≤ sizeLine) (h : RepDs G.K (Mu ρ s F) H ds xs) :
    ∀ p, H p = none → Q (.ref p) (upd H p (.lst xs)) := fun p n => o _ _ _ (go_new n) (r.new n) (r.newL n l h)
theorem Out.newT {Z : Value → Option Addr → Hp → Prop} {Q : VK} {ds : List D} {xs : List V} (o : Out G F ρ s H Z (RepV G) (.ok (.d (.tup ds)) s) Q) (r : Rel G F ρ s H) (l : ds.length ≤ sizeLine) (h : RepDs G.K (Mu ρ s F) H ds xs) :
    ∀ p, H p = none → Q (.ref p) (upd H p (.tup xs)) := fun p n => o _ _ _ (go_new n) (r.new n) (r.newT n l h)
end

section
variable {G : Gd} {W : WX} {X : Cx} {a b c : Expr} {ca cb cc : EC} {ba bb' : BC} {pos : Pos} {rest es : List Expr} {cr : AC}

/-! ### tests -/
/-- the test of an expression whose value is a bool -/
def bb (a : EC) : BC := fun E s => (a E s).bind fun x s => match x with | .d (.bl b) => .ok b s | _ => .fail
theorem bb_to {ca : EC} {σ : St} {H : Hp} {Q : Bool → Hp → Prop} (h : tT G W (bb ca) σ H Q) : tE G W ca σ H fun x H1 => ∃ k, x = .bl k ∧ Q k H1 := by
  obtain ⟨F, ρ, s, E, at_, o⟩ := h
  refine ⟨F, ρ, s, E, at_, (Out.bind (R := RepV G) o).mono ?_⟩
  rintro x H1 ⟨ρ1, s1, v1, g1, l1, x1, o1⟩
  cases v1 with
  | d z =>
    cases z with
    | bl t => simp only [RepV, RepD] at x1; exact ⟨t, x1, Out.ret (R := rB) o1 l1 rfl⟩
    | _ => exact o1.elim
  | _ => exact o1.elim
theorem st_cmp {op : CmpOp} {p : Val → Val → Store → Res Val} (ho : OpP G X (compareOp op) p) (ha : SE G W X ca a) (hb : SE G W X cb b) (hm : behindInMarks op b = false := by first | exact nomark _ | rfl | with_unfolding_all rfl) : ST G W X (bb (e2 p ca cb)) (.Compare a [op] [b] pos) :=
  PT.imp (pt_cmpR ho ha hb hm) fun σ H Q h => op_to (f := compareOp op) (bb_to h)
/-- the value of a call, a name .. is a bool -/
theorem st_bool (ha : SE G W X ca a) (he : ∀ whole, isTrue a X.env whole = (do let v ← whole; standAt a.pos; holding [v] (truthy v)) := by intro _; rfl) : ST G W X (bb ca) a :=
  PT.imp (pt_val ha he) fun σ H Q h => bb_to h

/-! ### truth -/
theorem tru {F : Addr → Prop} {ρ : List Addr} {s : Store} {H : Hp} {v : Val} {x : V} {t : Bool} (r : Rel G F ρ s H) (h : RepV G ρ (Mu ρ s F) H v x) (e : truth v s = some t) : TruV G.K x H t := by
  have emp : ∀ {ds : List D} {xs : List V}, RepDs G.K (Mu ρ s F) H ds xs → ds.isEmpty = xs.isEmpty := fun {ds xs} q => by
    have := q.len
    cases ds <;> cases xs <;> simp_all
  cases v with
  | d z =>
    cases z with
    | non => simp only [RepV, RepD] at h; subst h; simp [truth] at e; exact e
    | bl b => simp only [RepV, RepD] at h; subst h; simp [truth] at e; exact e.symm
    | int i => simp only [RepV, RepD] at h; subst h; simp only [truth, Option.some.injEq] at e; exact e.symm
    | str z => simp [truth] at e
    | tup ds =>
      simp only [RepV, RepD] at h
      obtain ⟨a, xs, rfl, q, _, rr⟩ := h
      simp only [truth, Option.some.injEq] at e
      exact .inr (.inl ⟨xs, q, by rw [← e, emp rr]⟩)
    | lst ds =>
      simp only [RepV, RepD] at h
      obtain ⟨a, xs, rfl, _, q, _, rr⟩ := h
      simp only [truth, Option.some.injEq] at e
      exact .inl ⟨xs, .inl (.inl q), by rw [← e, emp rr]⟩
    | dct _ => simp [truth] at e
    | scr _ => simp [truth] at e
  | loc n =>
    obtain ⟨a, ha, rfl⟩ := h
    simp only [truth] at e
    cases ho : s[n]? with
    | none => rw [ho] at e; cases e
    | some o =>
      rw [ho] at e
      have q := r.ob n o a ho ha
      cases o with
      | lst ds =>
        obtain ⟨xs, hx, _, rr⟩ := q
        simp only [Option.some.injEq] at e
        exact .inl ⟨xs, .inl (.inl hx), by rw [← e, emp rr]⟩
      | lv ds =>
        obtain ⟨xs, hx, _, rr⟩ := q
        simp only [Option.some.injEq] at e
        have := rr.len
        exact .inl ⟨xs, .inl (.inl hx), by rw [← e]; cases ds <;> cases xs <;> simp_all⟩
      | dct ds =>
        obtain ⟨xs, hx, _, rr⟩ := q
        simp only [Option.some.injEq] at e
        refine .inr (.inr ⟨xs, hx, ?_⟩)
        rw [← e]
        cases ds <;> cases xs <;> first | rfl | exact rr.elim
      | ins _ _ => cases e
      | dead => cases e
  | exn _ _ => simp [truth] at e
theorem bv_to {ca : EC} {σ : St} {H : Hp} {Q : Bool → Hp → Prop} (h : tT G W (bv ca) σ H Q) : tE G W ca σ H fun x H1 => ∃ k, TruV G.K x H1 k ∧ Q k H1 := by
  obtain ⟨F, ρ, s, E, at_, o⟩ := h
  refine ⟨F, ρ, s, E, at_, (Out.bind (R := RepV G) o).mono ?_⟩
  rintro x H1 ⟨ρ1, s1, v1, g1, l1, x1, o1⟩
  cases e : truth v1 s1 with
  | none => simp only [e] at o1; exact o1.elim
  | some t => simp only [e] at o1; exact ⟨t, tru l1 x1 e, Out.ret (R := rB) o1 l1 rfl⟩
theorem st_val (hK : X.K = G.K) (ha : SE G W X ca a) (he : ∀ whole, isTrue a X.env whole = (do let v ← whole; standAt a.pos; holding [v] (truthy v)) := by intro _; rfl) : ST G W X (bv ca) a := by
  refine PT.imp (pt_truth ha he) fun σ H Q h => ?_
  rw [hK]; exact bv_to h

theorem sw_and1 (ha : ST G W X ba a) : SW G W X ba (.BoolOp .And [a] pos) := pw_and1 ha
theorem sw_or1 (ha : ST G W X ba a) : SW G W X ba (.BoolOp .Or [a] pos) := pw_or1 ha
theorem sw_and (ha : ST G W X ba a) (hb : SW G W X bb' (.BoolOp .And (b :: rest) pos)) : SW G W X (band ba bb') (.BoolOp .And (a :: b :: rest) pos) :=
  PW.imp (pw_and ha hb) fun σ H Q ⟨F, ρ, s, E, at_, o⟩ => by
    refine ⟨F, ρ, s, E, at_, (Out.bind (R := rB) o).mono ?_⟩
    rintro x H1 ⟨ρ1, s1, v1, g1, l1, rfl, o1⟩
    cases v1 with
    | true => exact ⟨F, ρ1, s1, E, at_.go g1 l1, o1⟩
    | false => exact Out.ret (R := rB) o1 l1 rfl
theorem sw_or (ha : ST G W X ba a) (hb : SW G W X bb' (.BoolOp .Or (b :: rest) pos)) : SW G W X (bor ba bb') (.BoolOp .Or (a :: b :: rest) pos) :=
  PW.imp (pw_or ha hb) fun σ H Q ⟨F, ρ, s, E, at_, o⟩ => by
    refine ⟨F, ρ, s, E, at_, (Out.bind (R := rB) o).mono ?_⟩
    rintro x H1 ⟨ρ1, s1, v1, g1, l1, rfl, o1⟩
    cases v1 with
    | false => exact ⟨F, ρ1, s1, E, at_.go g1 l1, o1⟩
    | true => exact Out.ret (R := rB) o1 l1 rfl
theorem st_w (h : SW G W X ba a) : ST G W X ba a := PW.pt h
theorem st_not (ha : ST G W X ba a) : ST G W X (bnot ba) (.UnaryOp .Not a pos) :=
  PT.imp (pt_not ha) fun σ H Q ⟨F, ρ, s, E, at_, o⟩ => by
    refine ⟨F, ρ, s, E, at_, (Out.bind (R := rB) o).mono ?_⟩
    rintro x H1 ⟨ρ1, s1, v1, g1, l1, rfl, o1⟩
    exact Out.ret (R := rB) o1 l1 rfl
theorem se_if (hc : ST G W X ba c) (ha : SE G W X ca a) (hb : SE G W X cb b) : SE G W X (eif ba ca cb) (.IfExp c a b pos) :=
  PE.imp (pe_ifExp hc ha hb) fun σ H Q ⟨F, ρ, s, E, at_, o⟩ => by
    refine ⟨F, ρ, s, E, at_, (Out.bind (R := rB) o).mono ?_⟩
    rintro x H1 ⟨ρ1, s1, v1, g1, l1, rfl, o1⟩
    cases v1 with
    | true => exact ⟨F, ρ1, s1, E, at_.go g1 l1, o1⟩
    | false => exact ⟨F, ρ1, s1, E, at_.go g1 l1, o1⟩
/-! ### and, or, not by value -/
theorem se_one {op} (h : SE G W X ca a) : SE G W X ca (.BoolOp op [a] pos) := pe_one h
theorem se_and (hK : X.K = G.K) (ha : SE G W X ca a) (hb : SE G W X cb (.BoolOp .And (b :: rest) pos)) : SE G W X (eand ca cb) (.BoolOp .And (a :: b :: rest) pos) :=
  PE.imp (pe_andT ha hb) fun σ H Q ⟨F, ρ, s, E, at_, o⟩ => by
    refine ⟨F, ρ, s, E, at_, (Out.bind (R := RepV G) o).mono ?_⟩
    rintro x H1 ⟨ρ1, s1, v1, g1, l1, x1, o1⟩
    cases e : truth v1 s1 with
    | none => simp only [e] at o1; exact o1.elim
    | some t =>
      simp only [e] at o1
      refine ⟨t, by rw [hK]; exact tru l1 x1 e, ?_⟩
      cases t with
      | true => exact ⟨F, ρ1, s1, E, at_.go g1 l1, o1⟩
      | false => exact Out.ret (R := RepV G) o1 l1 x1
theorem se_or (hK : X.K = G.K) (ha : SE G W X ca a) (hb : SE G W X cb (.BoolOp .Or (b :: rest) pos)) : SE G W X (eor ca cb) (.BoolOp .Or (a :: b :: rest) pos) :=
  PE.imp (pe_orT ha hb) fun σ H Q ⟨F, ρ, s, E, at_, o⟩ => by
    refine ⟨F, ρ, s, E, at_, (Out.bind (R := RepV G) o).mono ?_⟩
    rintro x H1 ⟨ρ1, s1, v1, g1, l1, x1, o1⟩
    cases e : truth v1 s1 with
    | none => simp only [e] at o1; exact o1.elim
    | some t =>
      simp only [e] at o1
      refine ⟨t, by rw [hK]; exact tru l1 x1 e, ?_⟩
      cases t with
      | false => exact ⟨F, ρ1, s1, E, at_.go g1 l1, o1⟩
      | true => exact Out.ret (R := RepV G) o1 l1 x1
theorem se_not (hK : X.K = G.K) (ha : SE G W X ca a) : SE G W X (enot ca) (.UnaryOp .Not a pos) :=
  PE.imp (pe_notT ha) fun σ H Q ⟨F, ρ, s, E, at_, o⟩ => by
    refine ⟨F, ρ, s, E, at_, (Out.bind (R := RepV G) o).mono ?_⟩
    rintro x H1 ⟨ρ1, s1, v1, g1, l1, x1, o1⟩
    cases e : truth v1 s1 with
    | none => simp only [e] at o1; exact o1.elim
    | some t =>
      simp only [e] at o1
      exact ⟨t, by rw [hK]; exact tru l1 x1 e, Out.ret (R := RepV G) o1 l1 (b := .bl (!t)) (by simp [RepV, RepD])⟩
/-! ### a p b q c -/
theorem chain_to {p q : Val → Val → Store → Res Val} {σ : St} {H : Hp} {Q : VK} (h : tE G W (chain p q ca cb cc) σ H Q) : tChain (rP G p) (rP G q) (tE G W ca) (tE G W cb) (tE G W cc) σ H Q := by
  obtain ⟨F, ρ, s, E, at_, o⟩ := h
  refine ⟨F, ρ, s, E, at_, (Out.bind (R := RepV G) o).mono ?_⟩
  rintro x H1 ⟨ρ1, s1, v1, g1, l1, x1, o1⟩
  refine ⟨F, ρ1, s1, E, at_.go g1 l1, (Out.bind (R := RepV G) o1).mono ?_⟩
  rintro y H2 ⟨ρ2, s2, v2, g2, l2, x2, o2⟩
  refine ⟨F, ρ2, s2, _, v1, v2, l2, l1.val g2 x1, x2, (Out.bind (R := RepV G) o2).mono ?_⟩
  rintro z H3 ⟨ρ3, s3, v3, g3, l3, x3, o3⟩
  cases v3 with
  | d w =>
    cases w with
    | bl t =>
      simp only [RepV, RepD] at x3
      refine ⟨t, x3, ?_⟩
      cases t with
      | false => exact Out.ret (R := RepV G) (b := .bl false) o3 l3 (by simp [RepV, RepD])
      | true =>
        refine ⟨F, ρ3, s3, E, ((at_.go g1 l1).go g2 l2).go g3 l3, (Out.bind (R := RepV G) o3).mono ?_⟩
        rintro w H4 ⟨ρ4, s4, v4, g4, l4, x4, o4⟩
        exact ⟨F, ρ4, s4, _, v2, v4, l4, l3.val g4 (l2.val g3 x2), x4, o4⟩
    | _ => exact o3.elim
  | _ => exact o3.elim
theorem se_chain {op op' : CmpOp} {p q : Val → Val → Store → Res Val} (ho : OpP G X (compareOp op) p) (ho' : OpP G X (compareOp op') q) (ha : SE G W X ca a) (hb : SE G W X cb b) (hc : SE G W X cc c)
    (hm : lastMarks [op, op'] [b, c] = false := by with_unfolding_all rfl) : SE G W X (chain p q ca cb cc) (.Compare a [op, op'] [b, c] pos) :=
  PE.imp (pe_chain ho ho' ha hb hc hm) fun σ H Q h => chain_to h
theorem st_chain {op op' : CmpOp} {p q : Val → Val → Store → Res Val} (ho : OpP G X (compareOp op) p) (ho' : OpP G X (compareOp op') q) (ha : SE G W X ca a) (hb : SE G W X cb b) (hc : SE G W X cc c)
    (hm : lastMarks [op, op'] [b, c] = false := by with_unfolding_all rfl) : ST G W X (bb (chain p q ca cb cc)) (.Compare a [op, op'] [b, c] pos) :=
  PT.imp (pt_chain ho ho' ha hb hc hm) fun σ H Q h => chain_to (bb_to h)

/-! ### arguments, displays -/
theorem sa_nil : SA G W X a0 [] := PA.imp pa_nil fun σ H Q ⟨F, ρ, s, E, at_, o⟩ => Out.ret (R := RepVs G) (b := []) o at_.rel trivial
theorem sa_cons (ha : SE G W X ca a) (hr : SA G W X cr es) (hs : starEach (a :: es) X.env = (false, eval a X.env) :: starEach es X.env := by rfl) : SA G W X (ac ca cr) (a :: es) :=
  PA.imp (pa_cons ha hr hs) fun σ H Q ⟨F, ρ, s, E, at_, o⟩ => by
    refine ⟨F, ρ, s, E, at_, (Out.bind (R := RepV G) o).mono ?_⟩
    rintro x H1 ⟨ρ1, s1, v1, g1, l1, x1, o1⟩
    refine ⟨F, ρ1, s1, E, at_.go g1 l1, (Out.bind (R := RepVs G) o1).mono ?_⟩
    rintro y H2 ⟨ρ2, s2, v2, g2, l2, x2, o2⟩
    exact Out.ret (R := RepVs G) (b := x :: y) o2 l2 ⟨l1.val g2 x1, x2⟩
theorem se_tup {x1} (h : SA G W X cr es) : SE G W X (tup cr) (.Tuple es x1 pos) :=
  PE.imp (pe_tup h) fun σ H Q ⟨F, ρ, s, E, at_, o⟩ => by
    refine ⟨F, ρ, s, E, at_, (Out.bind (R := RepVs G) o).mono ?_⟩
    rintro xs H1 ⟨ρ1, s1, vs, g1, l1, x1, o1⟩
    unfold mkT at o1
    cases e : allD vs with
    | none => rw [e] at o1; exact o1.elim
    | some ds =>
      rw [e] at o1
      by_cases hl : ds.length ≤ line
      · simp only [if_pos hl] at o1
        have r := x1.ds e
        refine ⟨by rw [← r.len, line_eq]; exact hl, Out.newT o1 l1 (by rw [line_eq]; exact hl) r⟩
      · simp only [if_neg hl] at o1; exact o1.elim
theorem se_lst (h : SA G W X cr es) : SE G W X (lst cr) (.List es pos) :=
  PE.imp (pe_lst h) fun σ H Q ⟨F, ρ, s, E, at_, o⟩ => by
    refine ⟨F, ρ, s, E, at_, (Out.bind (R := RepVs G) o).mono ?_⟩
    rintro xs H1 ⟨ρ1, s1, vs, g1, l1, x1, o1⟩
    unfold mkL at o1
    cases e : allD vs with
    | none => rw [e] at o1; exact o1.elim
    | some ds =>
      rw [e] at o1
      by_cases hl : ds.length ≤ line
      · simp only [if_pos hl] at o1
        have r := x1.ds e
        refine ⟨by rw [← r.len, line_eq]; exact hl, Out.newL o1 l1 (by rw [line_eq]; exact hl) r⟩
      · simp only [if_neg hl] at o1; exact o1.elim
theorem se_lstA (h : SA G W X cr es) : SE G W X (lstA cr) (.List es pos) :=
  PE.imp (pe_lst h) fun σ H Q ⟨F, ρ, s, E, at_, o⟩ => by
    refine ⟨F, ρ, s, E, at_, (Out.bind (R := RepVs G) o).mono ?_⟩
    rintro xs H1 ⟨ρ1, s1, vs, g1, l1, x1, o1⟩
    have hp : ∀ {p : Addr}, H1 p = none → (ρ1 ++ [p])[s1.length]? = some p := fun {p} n => by
      rw [List.getElem?_append_right (by rw [l1.len]; exact Nat.le_refl _), l1.len]; simp
    cases e : allD vs with
    | none =>
      simp only [e] at o1
      by_cases hl : vs.length ≤ line
      · simp only [if_pos hl] at o1
        refine ⟨by rw [← x1.len, line_eq]; exact hl, fun p n => o1 _ _ _ (go_push l1.len n) (l1.push n fun M' t => ⟨xs, upd_same, by rw [line_eq]; exact hl, RepVs.still t (fun k b h => ?_) _ _ x1⟩) ⟨p, hp n, rfl⟩⟩
        rw [List.getElem?_append_left (List.getElem?_eq_some_iff.mp h).1]; exact h
      · simp only [if_neg hl] at o1; exact o1.elim
    | some ds =>
      simp only [e] at o1
      have r := x1.ds e
      by_cases hl : ds.length ≤ line
      · simp only [if_pos hl] at o1
        exact ⟨by rw [← r.len, line_eq]; exact hl, fun p n => o1 _ _ _ (go_push l1.len n) (l1.push n fun M' t => ⟨xs, upd_same, by rw [line_eq]; exact hl, RepDs.still t _ _ r⟩) ⟨p, hp n, rfl⟩⟩
      · simp only [if_neg hl] at o1; exact o1.elim
end
end Ev
end
section
set_option Elab.async false
set_option linter.all false
set_option autoImplicit false
set_option maxRecDepth 100000
set_option maxHeartbeats 4000000
/-! Operations. -/
namespace Ev
open PySem L2

section
variable {G : Gd} {X : Cx}
/-- a one-place operation, a call of one value -/
def rP1 (G : Gd) (p : Val → Store → Res Val) : V → Hp → VK → Prop := fun x H Q => ∃ F ρ s Z v1, Rel G F ρ s H ∧ RepV G ρ (Mu ρ s F) H v1 x ∧ Out G F ρ s H Z (RepV G) (p v1 s) Q

/-! ### ints -/
theorem int_of {F : Addr → Prop} {ρ : List Addr} {H : Hp} {s : Store} {i : Int} {x : V} (h : RepV G ρ (Mu ρ s F) H (.d (.int i)) x) : x = .int i := by simpa [RepV, RepD] using h
theorem opp_I {f : Value → Value → Sem Value} {g : Int → Int → D} {gv : Int → Int → V} (h : OpR X f (rI0 gv)) (hg : ∀ i j K M H, RepD K M H (g i j) (gv i j)) : OpP G X f (pI g) := by
  intro pins s σ H x y v u Q I rx ry ⟨F, ρ, st, Z, v1, v2, l, x1, x2, o⟩
  unfold pI at o
  split at o
  · rename_i i j
    obtain rfl := int_of x1
    obtain rfl := int_of x2
    exact h pins s σ H _ _ v u Q I rx ry ⟨i, j, rfl, rfl, Out.ret (R := RepV G) o l (hg i j _ _ _)⟩
  · exact o.elim
theorem opp_Ic {f : Value → Value → Sem Value} {c : Int → Int → Bool} {g : Int → Int → D} {C : Int → Int → Prop} {gv : Int → Int → V} (h : OpR X f (rI C gv)) (hc : ∀ i j, c i j = true → C i j) (hg : ∀ i j K M H, RepD K M H (g i j) (gv i j)) : OpP G X f (pIc c g) := by
  intro pins s σ H x y v u Q I rx ry ⟨F, ρ, st, Z, v1, v2, l, x1, x2, o⟩
  unfold pIc at o
  split at o
  · rename_i i j
    obtain rfl := int_of x1
    obtain rfl := int_of x2
    by_cases e : c i j = true
    · rw [if_pos e] at o
      exact h pins s σ H _ _ v u Q I rx ry ⟨i, j, rfl, rfl, hc i j e, Out.ret (R := RepV G) o l (hg i j _ _ _)⟩
    · rw [if_neg e] at o; exact o.elim
  · exact o.elim
theorem rdi {K : PySem.W.Frag} {M : Addr → Prop} {H : Hp} (i : Int) : RepD K M H (.int i) (.int i) := by simp [RepD]
theorem rdb {K : PySem.W.Frag} {M : Addr → Prop} {H : Hp} (i : Bool) : RepD K M H (.bl i) (.bl i) := by simp [RepD]
theorem opp_sub : OpP G X (binaryOp .Sub) pSub := opp_I op_sub fun _ _ _ _ _ => rdi _
theorem opp_lt : OpP G X (compareOp .Lt) pLt := opp_I op_lt fun _ _ _ _ _ => rdb _
theorem opp_le : OpP G X (compareOp .LtE) pLe := opp_I op_le fun _ _ _ _ _ => rdb _
theorem opp_gt : OpP G X (compareOp .Gt) pGt := opp_I op_gt fun _ _ _ _ _ => rdb _
theorem opp_ge : OpP G X (compareOp .GtE) pGe := opp_I op_ge fun _ _ _ _ _ => rdb _
theorem opp_mul : OpP G X (binaryOp .Mult) pMul := opp_Ic op_mul (fun i j h => by
  simp only [Bool.or_eq_true, Bool.and_eq_true, decide_eq_true_eq] at h; exact h) fun _ _ _ _ _ => rdi _
theorem opp_div : OpP G X (binaryOp .FloorDiv) pDiv := opp_Ic op_fdivW (fun i j h => by
  simp only [Bool.and_eq_true, decide_eq_true_eq] at h
  exact wide_div (b := 1000) h.1 (by omega) (by decide) (by decide)) fun _ _ _ _ _ => rdi _
theorem opp_mod : OpP G X (binaryOp .Mod) pMod := opp_Ic op_mod (fun i j h => by simpa using h) fun _ _ _ _ _ => rdi _
theorem opp_pow : OpP G X (binaryOp .Pow) pPow := opp_Ic op_pow (fun i j h => by
  simp only [Bool.and_eq_true, decide_eq_true_eq] at h; exact ⟨h.1.1, h.1.2, h.2⟩) fun _ _ _ _ _ => rdi _
theorem opp_shl : OpP G X (binaryOp .LShift) pShl := opp_Ic op_shl (fun i j h => by
  simp only [Bool.and_eq_true, decide_eq_true_eq] at h; exact ⟨h.1.1, h.1.2, h.2⟩) fun _ _ _ _ _ => rdi _
theorem opp_shr : OpP G X (binaryOp .RShift) pShr := opp_Ic op_shr (fun i j h => by simpa using h) fun _ _ _ _ _ => rdi _
theorem opp_bitand : OpP G X (binaryOp .BitAnd) pAnd := opp_I op_and fun _ _ _ _ _ => rdi _
theorem opp_bitor : OpP G X (binaryOp .BitOr) pOr := opp_I op_or fun _ _ _ _ _ => rdi _
theorem opp_bitxor : OpP G X (binaryOp .BitXor) pXor := opp_I op_xor fun _ _ _ _ _ => rdi _
theorem se_neg {W : WX} {ca : EC} {a : Expr} {pos : Pos} (ha : SE G W X ca a) : SE G W X (e1 pNeg ca) (.UnaryOp .USub a pos) :=
  PE.imp (pe_un un_neg ha) fun σ H Q ⟨F, ρ, s, E, at_, o⟩ => by
    refine ⟨F, ρ, s, E, at_, (Out.bind (R := RepV G) o).mono ?_⟩
    rintro x H1 ⟨ρ1, s1, v1, g1, l1, x1, o1⟩
    unfold pNeg at o1
    split at o1
    · rename_i i
      exact ⟨i, int_of x1, Out.ret (R := RepV G) (b := .int (-i)) o1 l1 (by simp [RepV, RepD])⟩
    · exact o1.elim

/-! ### sequences by values -/
theorem peek_L {F : Addr → Prop} {ρ : List Addr} {H : Hp} {s : Store} {v : Val} {x : V} {ds : List D} (l : Rel G F ρ s H) (h : RepV G ρ (Mu ρ s F) H v x) (e : peek v s = some (.lst ds)) : ∃ a xs, x = .ref a ∧ H a = some (.lst xs) ∧ ds.length ≤ sizeLine ∧ RepDs G.K (Mu ρ s F) H ds xs := by
  cases v with
  | d z => simp at e; subst e; simp only [RepV, RepD] at h; obtain ⟨a, xs, e, _, q, z, r⟩ := h; exact ⟨a, xs, e, q, z, r⟩
  | loc n =>
    obtain ⟨a, ha, rfl⟩ := h
    simp only [peek] at e
    cases ho : s[n]? with
    | none => rw [ho] at e; cases e
    | some o =>
      rw [ho] at e
      cases o with
      | lst es => simp at e; subst e; obtain ⟨xs, hx, z, r⟩ := l.ob n _ a ho ha; exact ⟨a, xs, rfl, hx, z, r⟩
      | _ => cases e
  | exn _ _ => cases e
theorem peek_T {F : Addr → Prop} {ρ : List Addr} {H : Hp} {s : Store} {v : Val} {x : V} {ds : List D} (h : RepV G ρ (Mu ρ s F) H v x) (e : peek v s = some (.tup ds)) : ∃ a xs, x = .ref a ∧ SqT G.K H a xs ∧ ds.length ≤ sizeLine ∧ RepDs G.K (Mu ρ s F) H ds xs := by
  cases v with
  | d z => simp at e; subst e; simp only [RepV, RepD] at h; obtain ⟨a, xs, e, q, z, r⟩ := h; exact ⟨a, xs, e, q, z, r⟩
  | loc n =>
    simp only [peek] at e
    cases ho : s[n]? with
    | none => rw [ho] at e; cases e
    | some o => rw [ho] at e; cases o <;> simp at e
  | exn _ _ => cases e
/-- a peeked value as data -/
theorem peek_D {F : Addr → Prop} {ρ : List Addr} {H : Hp} {s : Store} {v : Val} {x : V} {z : D} (l : Rel G F ρ s H) (h : RepV G ρ (Mu ρ s F) H v x) (e : peek v s = some z) : ∃ M, RepD G.K M H z x ∧ ∀ a, M a → False := by
  have sub : ∀ {M : Addr → Prop}, Still M H (fun _ => False) H := fun {M} => ⟨fun a o h _ => ⟨h, fun z => z⟩, fun _ _ h => h, fun _ _ _ h => h, fun _ _ h => h⟩
  refine ⟨fun _ => False, ?_, fun _ z => z⟩
  cases v with
  | d w => simp at e; subst e; exact RepD.still sub _ _ h
  | loc n =>
    obtain ⟨a, ha, rfl⟩ := h
    simp only [peek] at e
    cases ho : s[n]? with
    | none => rw [ho] at e; cases e
    | some o =>
      rw [ho] at e
      cases o with
      | lst es =>
        simp at e; subst e
        obtain ⟨xs, hx, z, r⟩ := l.ob n _ a ho ha
        simp only [RepD]
        exact ⟨a, xs, rfl, fun z => z, hx, z, RepDs.still sub _ _ r⟩
      | _ => cases e
  | exn _ _ => cases e

theorem peeks_D {F : Addr → Prop} {ρ : List Addr} {H : Hp} {s : Store} (l : Rel G F ρ s H) : ∀ {vs : List Val} {xs : List V} {ds : List D}, RepVs G ρ (Mu ρ s F) H vs xs → peeks s vs = some ds → RepDs G.K (fun _ => False) H ds xs
  | [], [], ds, _, e => by simp only [peeks, Option.some.injEq] at e; subst e; trivial
  | v :: vs, x :: xs, ds, h, e => by
    simp only [peeks] at e
    split at e
    · rename_i d es e1 e2
      cases e
      obtain ⟨M, r, n⟩ := peek_D l h.1 e1
      exact ⟨RepD.still ⟨fun a o h _ => ⟨h, fun z => z⟩, fun _ _ h => h, fun _ _ _ h => h, fun _ _ h => h⟩ _ _ r, peeks_D l h.2 e2⟩
    · cases e
  | [], _ :: _, _, h, _ => h.elim
  | _ :: _, [], _, h, _ => h.elim
/-- a value looked up two deep -/
theorem deep_D {F : Addr → Prop} {ρ : List Addr} {H : Hp} {s : Store} {v : Val} {x : V} {z : D} (l : Rel G F ρ s H) (h : RepV G ρ (Mu ρ s F) H v x) (e : deepV v s = some z) : ∃ M, RepD G.K M H z x ∧ ∀ a, M a → False := by
  cases v with
  | d w => exact peek_D l h e
  | loc n =>
    simp only [deepV] at e
    cases ho : s[n]? with
    | none => rw [ho] at e; cases e
    | some o =>
      rw [ho] at e
      cases o with
      | lst es => exact peek_D l h (by simp only [peek, ho]; exact e)
      | lv vs =>
        simp only [Option.map_eq_some_iff] at e
        obtain ⟨ds, e1, rfl⟩ := e
        obtain ⟨a, ha, rfl⟩ := h
        obtain ⟨xs, hx, z, r⟩ := l.ob n _ a ho ha
        have q := peeks_D l r e1
        refine ⟨fun _ => False, ?_, fun _ z => z⟩
        simp only [RepD]
        exact ⟨a, xs, rfl, fun z => z, hx, by rw [show ds.length = vs.length by rw [q.len, r.len]]; exact z, q⟩
      | _ => cases e
  | exn _ _ => cases e

/-- t + u where t is empty -/
theorem cat_nil {prog : Program} {w : World} {A : Around} {E : Value → Shared → Prop} {s : Shared} {t b : Addr} {vs ws : List Value} {Q : Value → Shared → Prop} (ht : PyProof.Rows.IsTup s.heap t vs.toArray) (hb : PyProof.Rows.IsTup s.heap b ws.toArray) (hv : vs = [])
    (h1 : Q (.ref b) s) : wpAny (model prog w) A (binaryOp .Add (.ref t) (.ref b)) Q E s := by
  obtain ⟨⟨cls, dd, data, sl⟩, ho, hc, n, hd⟩ := id ht
  obtain ⟨⟨cls2, dd2, data2, sl2⟩, ho2, hc2, n2, hd2⟩ := id hb
  simp only at hc hd hc2 hd2
  subst hc hd hc2 hd2
  exact concat_meets ⟨_, ho, rfl⟩ ⟨_, ho2, rfl⟩ noFill_tuple_add seq_tuple_add PySem.F.slot_tuple_add PySem.F.entry_tuple_add (PySem.F.args_tuple_add_2 _ _)
      (PyProof.Rows.tuple_addW0 t b vs.toArray ws.toArray n n2 dd dd2 sl sl2 (by simp [hv])) ⟨ho, ho2, h1⟩
theorem opp_add (hK : X.K = G.K) : OpP G X (binaryOp .Add) pAdd := by
  intro pins s σ H x y v u Q I rx ry ⟨F, ρ, st, Z, v1, v2, l, x1, x2, o⟩
  have lists : ∀ {a b : List D}, peek v1 st = some (.lst a) → peek v2 st = some (.lst b) → a.length + b.length ≤ line → Out G F ρ st H Z (RepV G) (.ok (.d (.lst (a ++ b))) st) Q → wpAny (model X.prog X.w) X.A (binaryOp .Add v u) (EP X pins σ Q) X.xe s := by
    intro a b e1 e2 hl o
    obtain ⟨p, xs, rfl, hp, _, r1⟩ := peek_L l x1 e1
    obtain ⟨q, ys, rfl, hq, _, r2⟩ := peek_L l x2 e2
    refine op_cat pins s σ H _ _ v u Q I rx ry ⟨p, q, xs, ys, rfl, rfl, hp, hq, by rw [← r1.len, ← r2.len, line_eq]; exact hl, ?_⟩
    exact Out.newL o l (by rw [List.length_append, line_eq]; exact hl) (r1.append r2)
  unfold pAdd at o
  split at o
  · rename_i i j
    obtain rfl := int_of x1
    obtain rfl := int_of x2
    exact op_add pins s σ H _ _ v u Q I rx ry ⟨i, j, rfl, rfl, Out.ret (R := RepV G) (b := .int (i + j)) o l (by simp [RepV, RepD])⟩
  · rename_i b j
    obtain rfl : x = .bl b := by simpa [RepV, RepD] using x1
    obtain rfl := int_of x2
    obtain ⟨t, rfl⟩ := ry
    obtain rfl : v = .bool b := rx
    exact PySem.IntBool.add_bool_int ⟨.int ((if b = true then 1 else 0) + j), H, I.tok _, ⟨_, rfl⟩, Out.ret (R := RepV G) o l (by simp [RepV, RepD])⟩
  · rename_i a b
    by_cases hl : a.length + b.length ≤ line
    · rw [if_pos hl] at o
      obtain ⟨p, xs, rfl, hp, _, r1⟩ := peek_T x1 (ds := a) rfl
      obtain ⟨q, ys, rfl, hq, lb, r2⟩ := peek_T x2 (ds := b) rfl
      have e1 := r1.len
      have e2 := r2.len
      by_cases hx : xs = []
      · subst hx
        obtain rfl : a = [] := by cases a; rfl; simp at e1
        obtain ⟨its, q1, p1, _⟩ := I.tuple (by rw [hK]; exact hp)
        obtain ⟨its2, q2, p2, _⟩ := I.tuple (by rw [hK]; exact hq)
        cases rx; cases ry; cases q1
        exact cat_nil p1 p2 rfl ⟨.ref q, H, I, rfl, Out.ret (R := RepV G) o l x2⟩
      · refine op_catT pins s σ H _ _ v u Q I rx ry ⟨p, q, xs, ys, rfl, rfl, by rw [hK]; exact hp, by rw [hK]; exact hq, hx, by rw [← e1, ← e2, line_eq]; exact hl, fun hy => ?_, fun _ => ?_⟩
        · subst hy
          obtain rfl : b = [] := by cases b; rfl; simp at e2
          rw [List.append_nil] at o
          exact Out.ret (R := RepV G) o l x1
        · exact Out.newT o l (by rw [List.length_append, line_eq]; exact hl) (r1.append r2)
    · rw [if_neg hl] at o; exact o.elim
  · rename_i a b
    by_cases hl : a.length + b.length ≤ line
    · rw [if_pos hl] at o
      simp only [RepV, RepD] at x1 x2
      subst x1 x2
      exact op_add_str pins s σ H _ _ v u Q I rx ry ⟨a, b, rfl, rfl, by rw [line_eq]; exact hl, Out.ret (R := RepV G) o l (b := .str (a ++ b)) (by simp [RepV, RepD])⟩
    · rw [if_neg hl] at o; exact o.elim
  · split at o
    · rename_i a b e1 e2
      by_cases hl : a.length + b.length ≤ line
      · rw [if_pos hl] at o
        exact lists e1 e2 hl o
      · rw [if_neg hl] at o; exact o.elim
    · exact o.elim

/-! ### data as the library reads it -/
theorem KVx.pairs {P : Program} {w : World} : ∀ {ks : List (Key × V)} {vs : List (Key × Value)}, L2.KV ks vs → ks.map (·.1) = vs.map (·.1)
  | [], [], _ => rfl
  | _ :: _, _ :: _, .cons r t => by simp [r.1, KVx.pairs (P := P) (w := w) t]
section
variable {pins : List (Addr × PySem.Obj)} {σ : St} {H : Hp} {s : Shared} {M : Addr → Prop}
theorem reads_ints : ∀ {ns : List Int} {us : List Value}, Vals (ns.map V.int) us → ∃ as, ReadsAll s.heap us (ns.map PyData.int) as
  | [], _, .nil => ⟨_, .nil⟩
  | n :: ns, _, .cons r t => by
    obtain ⟨u, rfl⟩ := r
    obtain ⟨as, h⟩ := reads_ints t
    exact ⟨_, .cons (.int n u) h⟩
mutual
theorem reads_of (I : L2.Inv X pins σ H s) : ∀ (d : D) (x : V) (u : Value), RepD X.K M H d x → RelV x u → ∃ as, Reads s.heap u (toPy d) as
  | .non, x, u, h, r => by simp only [RepD] at h; subst h; cases r; exact ⟨_, .none⟩
  | .bl b, x, u, h, r => by simp only [RepD] at h; subst h; cases r; exact ⟨_, .bool b⟩
  | .int i, x, u, h, r => by simp only [RepD] at h; subst h; obtain ⟨t, rfl⟩ := r; exact ⟨_, .int i t⟩
  | .str z, x, u, h, r => by simp only [RepD] at h; subst h; obtain ⟨t, rfl⟩ := r; exact ⟨_, .str z t⟩
  | .tup ds, x, u, h, r => by
    simp only [RepD] at h
    obtain ⟨a, xs, rfl, q, _, rr⟩ := h
    cases r
    obtain ⟨its, rv, ⟨o, h1, h2, n, h3⟩, _⟩ := I.tuple q
    obtain ⟨as, ra⟩ := reads_all I ds xs its rr rv
    exact ⟨_, .tuple h1 h2 h3 ra⟩
  | .lst ds, x, u, h, r => by
    simp only [RepD] at h
    obtain ⟨a, xs, rfl, _, q, _, rr⟩ := h
    cases r
    obtain ⟨its, rv, pl, _⟩ := I.list (.inl (.inl q))
    obtain ⟨o, h1, h2, n, h3⟩ := pl.isList
    obtain ⟨as, ra⟩ := reads_all I ds xs its rr rv
    exact ⟨_, .list h1 h2 h3 ra⟩
  | .scr ns, x, u, h, r => by
    simp only [RepD] at h
    obtain ⟨a, rfl, q, _⟩ := h
    cases r
    have q' : SqL X.K H a (ns.map V.int) := by
      rcases q with ⟨o, q⟩ | q
      · exact .inl (.inr ⟨o, q⟩)
      · rcases q with (q | ⟨_, q⟩) | q
        · cases q
        · cases q
        · exact .inr q
    obtain ⟨its, rv, pl, _⟩ := I.list q'
    obtain ⟨o, h1, h2, n, h3⟩ := pl.isList
    obtain ⟨as, ra⟩ := reads_ints (s := s) rv
    exact ⟨_, .list h1 h2 h3 (by simpa using ra)⟩
  | .dct kvs, x, u, h, r => by
    simp only [RepD] at h
    obtain ⟨a, ks, rfl, _, q, _, rr⟩ := h
    cases r
    obtain ⟨_, _, vs, kv, o, es, ep, h1, h2, h3, h4, hp, h5⟩ := I.hok a _ q
    have ⟨as, bs, ra, rb⟩ := reads_kv I kvs ks vs es.toList rr kv hp
    exact ⟨_, .dict h1 h2.1 h3 ra rb⟩
theorem reads_all (I : L2.Inv X pins σ H s) : ∀ (ds : List D) (xs : List V) (us : List Value), RepDs X.K M H ds xs → Vals xs us → ∃ as, ReadsAll s.heap us (toPys ds) as
  | [], [], _, _, .nil => ⟨_, .nil⟩
  | d :: ds, x :: xs, _, h, .cons r t => by
    simp only [RepDs] at h
    obtain ⟨as, ra⟩ := reads_of I d x _ h.1 r
    obtain ⟨bs, rb⟩ := reads_all I ds xs _ h.2 t
    exact ⟨_, .cons ra rb⟩
  | [], _ :: _, _, h, _ => by simp [RepDs] at h
  | _ :: _, [], _, h, _ => by simp [RepDs] at h
theorem reads_kv (I : L2.Inv X pins σ H s) : ∀ (ds : List (Key × D)) (xs : List (Key × V)) (us : List (Key × Value)) (es : List DictEntry), RepKs X.K M H ds xs → L2.KV xs us → Pairs (mixKind X.prog X.w) es us →
    ∃ as bs, ReadsAll s.heap (es.map (·.key)) ((toPyKv ds).map (·.1)) as ∧ ReadsAll s.heap (es.map (·.val)) ((toPyKv ds).map (·.2)) bs
  | [], [], _, _, _, .nil, .nil => ⟨_, _, .nil, .nil⟩
  | (k, d) :: ds, x :: xs, _, _, h, .cons r t, .cons h1 h2 h3 => by
    simp only [RepKs] at h
    obtain ⟨⟨e, hd⟩, hh⟩ := h
    obtain ⟨as, ra⟩ := reads_of I d x.2 _ hd r.2
    obtain ⟨bs, cs, rb, rc⟩ := reads_kv I ds xs _ _ hh t h3
    have hk := h1
    rw [mixKind_is, ← r.1, ← e] at hk
    refine ⟨[] ++ bs, as ++ cs, ?_, ?_⟩
    · simp only [toPyKv, List.map_cons]
      refine .cons ?_ rb
      cases k with
      | inl i => obtain ⟨i', t', e1, e2⟩ | ⟨_, _, e1, _⟩ := keyIs_shape hk
                 · cases e1; rw [e2]; exact .int _ _
                 · cases e1
      | inr z => obtain ⟨_, _, e1, _⟩ | ⟨i', t', e1, e2⟩ := keyIs_shape hk
                 · cases e1
                 · cases e1; rw [e2]; exact .str _ _
    · simp only [toPyKv, List.map_cons]
      rw [h2]
      exact .cons ra rc
  | [], _ :: _, _, _, h, _, _ => by simp [RepKs] at h
  | _ :: _, [], _, _, h, _, _ => by simp [RepKs] at h
end
end

mutual
theorem plain_toPy : ∀ d : D, d.plain = true → (toPy d).plain = true
  | .non, _ => rfl
  | .bl _, _ => rfl
  | .int _, _ => rfl
  | .str _, _ => rfl
  | .tup xs, h => by simp only [toPy, PyData.plain]; exact plains_toPy xs (by simpa [D.plain] using h)
  | .lst xs, h => by simp only [toPy, PyData.plain]; exact plains_toPy xs (by simpa [D.plain] using h)
  | .dct _, h => by simp [D.plain] at h
  | .scr _, h => by simp [D.plain] at h
theorem plains_toPy : ∀ ds : List D, D.plains ds = true → PyData.plainAll (toPys ds) = true
  | [], _ => rfl
  | d :: ds, h => by
    simp only [D.plains, Bool.and_eq_true] at h
    simp only [toPys, PyData.plainAll, plain_toPy d h.1, plains_toPy ds h.2, Bool.and_self]
end
theorem low_le {d : D} (h : low d = true) : (toPy d).depth ≤ 60 := by simpa [low] using h
theorem opp_eqB (hK : X.K = G.K) (hu : X.A.units + 64 < cLine) (neg : Bool) : OpP G X (compareOp (if neg then .NotEq else .Eq)) (pEqB neg) := by
  intro pins s σ H x y v u Q I rx ry ⟨F, ρ, st, Z, v1, v2, l, x1, x2, o⟩
  unfold pEqB at o
  split at o
  · rename_i a b e1 e2
    by_cases c : (a.plain && b.plain && (low a || low b)) = true
    · rw [if_pos c] at o
      simp only [Bool.and_eq_true, Bool.or_eq_true] at c
      obtain ⟨M1, r1, _⟩ := deep_D l x1 e1
      obtain ⟨M2, r2, _⟩ := deep_D l x2 e2
      rw [← hK] at r1 r2
      obtain ⟨as, q1⟩ := reads_of I a x v r1 rx
      obtain ⟨bs, q2⟩ := reads_of I b y u r2 ry
      have hm : X.A.units + min (toPy a).depth (toPy b).depth < cLine := by
        rcases c.2 with h | h
        · have := low_le h; omega
        · have := low_le h; omega
      have fin : ∀ r, Out G F ρ st H Z (RepV G) (.ok (.d (.bl r)) st) Q → EP X pins σ Q (.bool r) s := fun r o => ⟨.bl r, H, I, rfl, Out.ret (R := RepV G) (b := .bl r) o l (by simp [RepV, RepD])⟩
      cases neg with
      | false =>
        have o' : Out G F ρ st H Z (RepV G) (.ok (.d (.bl (PyData.eqv (toPy a) (toPy b)))) st) Q := by simpa [eqD] using o
        exact SeqAt.eq_plain q1 q2 (plain_toPy a c.1.1) (plain_toPy b c.1.2) hm (fin _ o')
      | true =>
        have o' : Out G F ρ st H Z (RepV G) (.ok (.d (.bl (!PyData.eqv (toPy a) (toPy b)))) st) Q := by simpa [eqD] using o
        exact SeqAt.ne_plain q1 q2 (plain_toPy a c.1.1) (plain_toPy b c.1.2) hm (fin _ o')
    · rw [if_neg c] at o
      have fin : ∀ r, Out G F ρ st H Z (RepV G) (.ok (.d (.bl r)) st) Q → EP X pins σ Q (.bool r) s := fun r o => ⟨.bl r, H, I, rfl, Out.ret (R := RepV G) (b := .bl r) o l (by simp [RepV, RepD])⟩
      unfold eqLen at o
      split at o
      · rename_i as bs
        split at o
        · rename_i he
          obtain ⟨M1, z1, _⟩ := deep_D l x1 e1
          obtain ⟨M2, z2, _⟩ := deep_D l x2 e2
          simp only [RepD] at z1 z2
          obtain ⟨p, xs, rfl, hp, _, r1⟩ := z1
          obtain ⟨q, ys, rfl, hq, _, r2⟩ := z2
          obtain ⟨its, q1, p1, _⟩ := I.tuple (by rw [hK]; exact hp)
          obtain ⟨its2, q2, p2, _⟩ := I.tuple (by rw [hK]; exact hq)
          cases rx; cases ry
          have l1 : as.length = its.length := by rw [r1.len, q1.length]
          have l2 : bs.length = its2.length := by rw [r2.len, q2.length]
          have hz : min its.length its2.length = 0 := by
            simp only [Bool.or_eq_true, List.isEmpty_iff] at he
            rcases he with he | he
            · rw [he] at l1; simp at l1; omega
            · rw [he] at l2; simp at l2; omega
          have ev : ((List.range (min its.toArray.size its2.toArray.size)).all (fun _ => true) && its.toArray.size == its2.toArray.size) = (as.isEmpty && bs.isEmpty) := by
            simp only [List.size_toArray]
            rw [hz]
            simp only [List.range_zero, List.all_nil, Bool.true_and]
            rw [Bool.eq_iff_iff]
            simp only [beq_iff_eq, Bool.and_eq_true, List.isEmpty_iff, ← List.length_eq_zero_iff, l1, l2]
            omega
          have items : ∀ j (h1 : j < its.toArray.size) (h2 : j < its2.toArray.size), SeqAt.EqAt X.A.in1 s its.toArray[j] its2.toArray[j] true := fun j h1 h2 => by
            simp only [List.size_toArray] at h1 h2; omega
          cases neg with
          | false =>
            have z := SeqAt.RcAt.tuples (e := fun _ => true) p1 p2 (by omega) items
            rw [ev] at z
            exact z X.prog X.w X.xe _ (fin _ (by simpa using o))
          | true =>
            have z := SeqAt.RcNeAt.tuples (e := fun _ => true) p1 p2 (by omega) items
            rw [ev] at z
            exact z X.prog X.w X.xe _ (fin _ (by simpa using o))
        · exact o.elim
      · rename_i as bs
        split at o
        · exact o.elim
        · rename_i he
          obtain ⟨M1, z1, _⟩ := deep_D l x1 e1
          obtain ⟨M2, z2, _⟩ := deep_D l x2 e2
          simp only [RepD] at z1 z2
          obtain ⟨p, xs, rfl, _, hp, _, r1⟩ := z1
          obtain ⟨q, ys, rfl, _, hq, _, r2⟩ := z2
          obtain ⟨its, q1, p1, _⟩ := I.list (.inl (.inl hp))
          obtain ⟨its2, q2, p2, _⟩ := I.list (.inl (.inl hq))
          cases rx; cases ry
          have l1 : as.length = its.length := by rw [r1.len, q1.length]
          have l2 : bs.length = its2.length := by rw [r2.len, q2.length]
          have hs : (its.toArray.size != its2.toArray.size) = true := by simp only [List.size_toArray, bne_iff_ne]; omega
          cases neg with
          | false => exact SeqAt.RcAt.lists_lengths p1.isList p2.isList hs (by omega) X.prog X.w X.xe _ (fin _ (by simpa using o))
          | true => exact SeqAt.RcNeAt.lists_lengths p1.isList p2.isList hs (by omega) X.prog X.w X.xe _ (fin _ (by simpa using o))
      · exact o.elim
  · exact o.elim
theorem opp_eq (hK : X.K = G.K) (hu : X.A.units + 64 < cLine) : OpP G X (compareOp .Eq) pEq := opp_eqB hK hu false
theorem opp_ne (hK : X.K = G.K) (hu : X.A.units + 64 < cLine) : OpP G X (compareOp .NotEq) pNe := opp_eqB hK hu true
theorem any_inD (a : D) : ∀ ys : List D, ((toPys ys).any fun y => PyData.eqv y (toPy a)) = inD a ys
  | [] => rfl
  | y :: ys => by simp only [toPys, List.any_cons, inD, eqD]; rw [any_inD a ys]; rfl
theorem opp_inB (hK : X.K = G.K) (hu : X.A.units + 64 < cLine) (neg : Bool) : OpP G X (compareOp (if neg then .NotIn else .In)) (pInB neg) := by
  intro pins s σ H x y v u Q I rx ry ⟨F, ρ, st, Z, v1, v2, l, x1, x2, o⟩
  have fin : ∀ r, Out G F ρ st H Z (RepV G) (.ok (.d (.bl r)) st) Q → EP X pins σ Q (.bool r) s := fun r o => ⟨.bl r, H, I, rfl, Out.ret (R := RepV G) (b := .bl r) o l (by simp [RepV, RepD])⟩
  unfold pInB at o
  split at o
  · rename_i a ys e1 e2
    by_cases c : (a.plain && D.plains ys && low a) = true
    · rw [if_pos c] at o
      simp only [Bool.and_eq_true] at c
      obtain ⟨M1, r1, _⟩ := deep_D l x1 e1
      obtain ⟨M2, r2, _⟩ := deep_D l x2 e2
      rw [← hK] at r1 r2
      obtain ⟨as, q1⟩ := reads_of I a x v r1 rx
      obtain ⟨bs, q2⟩ := reads_of I (.tup ys) y u r2 ry
      have hm : X.A.units + 1 + min (PyData.depthAll (toPys ys)) (toPy a).depth < cLine := by have := low_le c.2; omega
      cases neg with
      | false => exact SeqAt.in_tuple_data (by simpa [toPy] using q2) q1 (plains_toPy ys c.1.2) (plain_toPy a c.1.1) hm (fin _ (by rw [any_inD]; simpa using o))
      | true => exact SeqAt.notIn_tuple_data (by simpa [toPy] using q2) q1 (plains_toPy ys c.1.2) (plain_toPy a c.1.1) hm (fin _ (by rw [any_inD]; simpa using o))
    · rw [if_neg c] at o; exact o.elim
  · rename_i a ys e1 e2
    by_cases c : (a.plain && D.plains ys && low a) = true
    · rw [if_pos c] at o
      simp only [Bool.and_eq_true] at c
      obtain ⟨M1, r1, _⟩ := deep_D l x1 e1
      obtain ⟨M2, r2, _⟩ := deep_D l x2 e2
      rw [← hK] at r1 r2
      obtain ⟨as, q1⟩ := reads_of I a x v r1 rx
      obtain ⟨bs, q2⟩ := reads_of I (.lst ys) y u r2 ry
      have hm : X.A.units + 1 + min (PyData.depthAll (toPys ys)) (toPy a).depth < cLine := by have := low_le c.2; omega
      cases neg with
      | false => exact SeqAt.in_list_data (by simpa [toPy] using q2) q1 (plains_toPy ys c.1.2) (plain_toPy a c.1.1) hm (fin _ (by rw [any_inD]; simpa using o))
      | true => exact SeqAt.notIn_list_data (by simpa [toPy] using q2) q1 (plains_toPy ys c.1.2) (plain_toPy a c.1.1) hm (fin _ (by rw [any_inD]; simpa using o))
    · rw [if_neg c] at o; exact o.elim
  · exact o.elim
theorem opp_in (hK : X.K = G.K) (hu : X.A.units + 64 < cLine) : OpP G X (compareOp .In) pIn := opp_inB hK hu false
theorem opp_notin (hK : X.K = G.K) (hu : X.A.units + 64 < cLine) : OpP G X (compareOp .NotIn) pNotIn := opp_inB hK hu true
end
end Ev
end
section
set_option Elab.async false
set_option linter.all false
set_option autoImplicit false
set_option maxRecDepth 100000
set_option maxHeartbeats 4000000
/-! Calls of built-ins, subscripts, slices. -/
namespace Ev
open PySem L2

section
variable {G : Gd} {X : Cx} {W : WX} {a b c : Expr} {ca cb cc : EC} {pos pp : Pos}

/-! ### built-ins of one and two values -/
abbrev CallP1 (G : Gd) (X : Cx) (f : Value) (p : Val → Store → Res Val) : Prop := CallR X f (fun xs H Q => ∃ x, xs = [x] ∧ rP1 G p x H Q)
abbrev CallP2 (G : Gd) (X : Cx) (f : Value) (p : Val → Val → Store → Res Val) : Prop := CallR X f (fun xs H Q => ∃ x y, xs = [x, y] ∧ rP G p x y H Q)
theorem c1_to {p : Val → Store → Res Val} {σ : St} {H : Hp} {Q : VK} (h : tE G W (e1 p ca) σ H Q) : tCB (fun xs H Q => ∃ x, xs = [x] ∧ rP1 G p x H Q) (tCons (tE G W ca) tNil) σ H Q := by
  obtain ⟨F, ρ, s, E, at_, o⟩ := h
  refine ⟨F, ρ, s, E, at_, (Out.bind (R := RepV G) o).mono ?_⟩
  rintro x H1 ⟨ρ1, s1, v1, g1, l1, x1, o1⟩
  exact ⟨x, rfl, F, ρ1, s1, _, v1, l1, x1, o1⟩
theorem c2_to {p : Val → Val → Store → Res Val} {σ : St} {H : Hp} {Q : VK} (h : tE G W (e2 p ca cb) σ H Q) : tCB (fun xs H Q => ∃ x y, xs = [x, y] ∧ rP G p x y H Q) (tCons (tE G W ca) (tCons (tE G W cb) tNil)) σ H Q := by
  obtain ⟨F, ρ, s, E, at_, o⟩ := h
  refine ⟨F, ρ, s, E, at_, (Out.bind (R := RepV G) o).mono ?_⟩
  rintro x H1 ⟨ρ1, s1, v1, g1, l1, x1, o1⟩
  refine ⟨F, ρ1, s1, E, at_.go g1 l1, (Out.bind (R := RepV G) o1).mono ?_⟩
  rintro y H2 ⟨ρ2, s2, v2, g2, l2, x2, o2⟩
  exact ⟨x, y, rfl, F, ρ2, s2, _, v1, v2, l2, l1.val g2 x1, x2, o2⟩
theorem se_cb1 {x : Str} {id : String} {p : Val → Store → Res Val} (hc : CallP1 G X (.builtin id) p) (hm : X.mg x = none) (hv : bootBuiltins x = some (.builtin id)) (ha : SE G W X ca a) (hg : Gl X x := by rfl)
    (hn : x ≠ "__name__" := by decide +kernel) (hdb : (x == ("__debug__" : Str)) = false := by decide +kernel) (hs : starEach [a] X.env = (false, eval a X.env) :: starEach [] X.env := by rfl) : SE G W X (e1 p ca) (.Call (.Name x pp) [a] [] pos) :=
  PE.imp (pe_callB hc hg hm hv (pa_cons ha pa_nil hs) hn hdb hs rfl) fun σ H Q h => c1_to h
theorem se_ct1 {x : Str} {T : String} {p : Val → Store → Res Val} (hc : CallP1 G X (.type T) p) (hm : X.mg x = none) (hv : bootBuiltins x = some (.type T)) (ha : SE G W X ca a) (hg : Gl X x := by rfl)
    (hn : x ≠ "__name__" := by decide +kernel) (hdb : (x == ("__debug__" : Str)) = false := by decide +kernel) (hs : starEach [a] X.env = (false, eval a X.env) :: starEach [] X.env := by rfl) : SE G W X (e1 p ca) (.Call (.Name x pp) [a] [] pos) :=
  PE.imp (pe_callTy hc hg hm hv (pa_cons ha pa_nil hs) hn hdb hs rfl) fun σ H Q h => c1_to h
theorem se_cb2 {x : Str} {id : String} {p : Val → Val → Store → Res Val} (hc : CallP2 G X (.builtin id) p) (hm : X.mg x = none) (hv : bootBuiltins x = some (.builtin id)) (ha : SE G W X ca a) (hb : SE G W X cb b) (hg : Gl X x := by rfl)
    (hn : x ≠ "__name__" := by decide +kernel) (hdb : (x == ("__debug__" : Str)) = false := by decide +kernel) (hs : starEach (a :: [b]) X.env = (false, eval a X.env) :: starEach [b] X.env := by rfl) (hs2 : starEach [b] X.env = (false, eval b X.env) :: starEach [] X.env := by rfl)
    (hpl : (backTo pos (starEach [b] X.env)).any (·.1) = false := by rfl) : SE G W X (e2 p ca cb) (.Call (.Name x pp) [a, b] [] pos) :=
  PE.imp (pe_callB hc hg hm hv (pa_cons ha (pa_cons hb pa_nil hs2) hs) hn hdb hs hpl) fun σ H Q h => c2_to h

/-- the sequence of a value -/
theorem seq_of {F : Addr → Prop} {ρ : List Addr} {H : Hp} {s : Store} {v : Val} {x : V} {n : Nat} (hK : X.K = G.K) (l : Rel G F ρ s H) (h : RepV G ρ (Mu ρ s F) H v x) (e : (items v s).map List.length = some n) :
    ∃ a xs, x = .ref a ∧ (SqL X.K H a xs ∨ SqT X.K H a xs) ∧ xs.length = n := by
  cases v with
  | d z =>
    cases z with
    | tup ds => simp at e; simp only [RepV, RepD] at h; obtain ⟨a, xs, rfl, q, z, r⟩ := h; exact ⟨a, xs, rfl, .inr (by rw [hK]; exact q), by rw [← r.len, e]⟩
    | lst ds => simp at e; simp only [RepV, RepD] at h; obtain ⟨a, xs, rfl, _, q, z, r⟩ := h; exact ⟨a, xs, rfl, .inl (.inl (.inl q)), by rw [← r.len, e]⟩
    | _ => simp [items] at e
  | loc m =>
    obtain ⟨a, ha, rfl⟩ := h
    simp only [items] at e
    cases ho : s[m]? with
    | none => simp [ho] at e
    | some o =>
      have q := l.ob m o a ho ha
      cases o with
      | lst ds => simp [ho] at e; obtain ⟨xs, hx, z, r⟩ := q; exact ⟨a, xs, rfl, .inl (.inl (.inl hx)), by rw [← r.len, e]⟩
      | lv ds => simp [ho] at e; obtain ⟨xs, hx, z, r⟩ := q; exact ⟨a, xs, rfl, .inl (.inl (.inl hx)), by rw [← r.len, e]⟩
      | _ => simp [ho] at e
  | exn _ _ => simp [items] at e
theorem RepF_len {κ : Type} {ρ : List Addr} {M : Addr → Prop} {H : Hp} : ∀ {ds : List (κ × Val)} {xs : List (κ × V)}, RepF G ρ M H ds xs → ds.length = xs.length
  | [], [], _ => rfl
  | _ :: _, _ :: _, h => by simp [RepF_len h.2]
  | [], _ :: _, h => h.elim
  | _ :: _, [], h => h.elim
theorem cp_len (hK : X.K = G.K) : CallP1 G X (.builtin "len") pLen := by
  intro pins s σ H xs us Q I r ⟨x, e, F, ρ, st, Z, v1, l, x1, o⟩
  subst e
  have go : ∀ n : Nat, (items v1 st).map List.length = some n → Out G F ρ st H Z (RepV G) (.ok (.d (.int n)) st) Q → wpAny (model X.prog X.w) X.A (PySem.call (.builtin "len") us) (EP X pins σ Q) X.xe s := fun n e o => by
    obtain ⟨a, ys, rfl, q, hn⟩ := seq_of hK l x1 e
    exact call_len_seq pins s σ H _ us Q I r ⟨a, ys, rfl, q, Out.ret (R := RepV G) o l (by simp [RepV, RepD, hn])⟩
  unfold pLen at o
  cases v1 with
  | d z =>
    cases z with
    | tup ds => exact go _ (by simp) o
    | lst ds => exact go _ (by simp) o
    | _ => exact o.elim
  | loc m =>
    simp only at o
    cases ho : st[m]? with
    | none => rw [ho] at o; exact o.elim
    | some ob =>
      rw [ho] at o
      cases ob with
      | lst ds => exact go _ (by simp [items, ho]) o
      | lv ds => exact go _ (by simp [items, ho]) o
      | dct ds =>
        obtain ⟨a, ha, rfl⟩ := x1
        obtain ⟨ks, hk, z, rr⟩ := l.ob m _ a ho ha
        exact call_lenD pins s σ H _ us Q I r ⟨a, ks, rfl, hk, Out.ret (R := RepV G) o l (by simp [RepV, RepD, RepF_len rr])⟩
      | _ => exact o.elim
  | exn _ _ => exact o.elim
theorem cp_abs : CallP1 G X (.builtin "abs") pAbs := by
  intro pins s σ H xs us Q I r ⟨x, e, F, ρ, st, Z, v1, l, x1, o⟩
  subst e
  unfold pAbs at o
  split at o
  · rename_i i
    obtain rfl := int_of x1
    refine call_abs pins s σ H _ us Q I r ⟨i, rfl, ?_⟩
    have e : (if i < 0 then -i else i) = (i.natAbs : Int) := by split <;> omega
    rw [e]
    exact Out.ret (R := RepV G) o l (by simp [RepV, RepD])
  · exact o.elim
theorem cp_int : CallP1 G X (.type "int") pInt := by
  intro pins s σ H xs us Q I r ⟨x, e, F, ρ, st, Z, v1, l, x1, o⟩
  subst e
  unfold pInt at o
  split at o
  · rename_i i
    obtain rfl := int_of x1
    exact call_int1 pins s σ H _ us Q I r (.inl ⟨i, rfl, Out.ret (R := RepV G) o l (by simp [RepV, RepD])⟩)
  · exact o.elim
theorem cp_max (hc : X.calm = true) : CallP2 G X (.builtin "max") pMax := by
  intro pins s σ H xs us Q I r ⟨x, y, e, F, ρ, st, Z, v1, v2, l, x1, x2, o⟩
  subst e
  unfold pMax pI at o
  split at o
  · rename_i i j
    obtain rfl := int_of x1
    obtain rfl := int_of x2
    refine call_max2 hc pins s σ H _ us Q I r ⟨i, j, rfl, ?_⟩
    have e : (if j > i then j else i) = max i j := by split <;> omega
    rw [e]
    exact Out.ret (R := RepV G) o l (by simp [RepV, RepD])
  · exact o.elim
theorem cp_min (hc : X.calm = true) : CallP2 G X (.builtin "min") pMin := by
  intro pins s σ H xs us Q I r ⟨x, y, e, F, ρ, st, Z, v1, v2, l, x1, x2, o⟩
  subst e
  unfold pMin pI at o
  split at o
  · rename_i i j
    obtain rfl := int_of x1
    obtain rfl := int_of x2
    refine call_min2 hc pins s σ H _ us Q I r ⟨i, j, rfl, ?_⟩
    have e : (if j < i then j else i) = min i j := by split <;> omega
    rw [e]
    exact Out.ret (R := RepV G) o l (by simp [RepV, RepD])
  · exact o.elim
theorem cp_tuple (hK : X.K = G.K) : CallP1 G X (.type "tuple") pTuple := by
  intro pins s σ H xs us Q I r ⟨x, e, F, ρ, st, Z, v1, l, x1, o⟩
  subst e
  unfold pTuple at o
  split at o
  · rename_i ds e1
    obtain ⟨a, ys, rfl, q, z, rr⟩ := peek_T x1 e1
    exact call_tuple_of pins s σ H _ us Q I r ⟨a, ys, rfl, .inr ⟨by rw [hK]; exact q, Out.ret (R := RepV G) o l (by simp only [RepV, RepD]; exact ⟨a, ys, rfl, q, z, rr⟩)⟩⟩
  · rename_i ds e1
    obtain ⟨a, ys, rfl, q, z, rr⟩ := peek_L l x1 e1
    exact call_tuple_of pins s σ H _ us Q I r ⟨a, ys, rfl, .inl ⟨.inl (.inl q), Out.newT o l z rr⟩⟩
  · exact o.elim
theorem cp_list (hK : X.K = G.K) : CallP1 G X (.type "list") pList := by
  intro pins s σ H xs us Q I r ⟨x, e, F, ρ, st, Z, v1, l, x1, o⟩
  subst e
  unfold pList at o
  split at o
  · rename_i ds e1
    obtain ⟨a, ys, rfl, q, z, rr⟩ := peek_T x1 e1
    exact call_list_of pins s σ H _ us Q I r ⟨a, ys, rfl, .inr (by rw [hK]; exact q), Out.newL o l z rr⟩
  · rename_i ds e1
    obtain ⟨a, ys, rfl, q, z, rr⟩ := peek_L l x1 e1
    exact call_list_of pins s σ H _ us Q I r ⟨a, ys, rfl, .inl (.inl (.inl q)), Out.newL o l z rr⟩
  · exact o.elim
/-- x = list(..), the list changed afterwards -/
def pListA (x : Val) (s : Store) : Res Val := (pList x s).bind alloc
theorem Out.newA {F : Addr → Prop} {ρ : List Addr} {s : Store} {H : Hp} {Z : Value → Option Addr → Hp → Prop} {Q : VK} {ds : List D} {xs : List V} (o : Out G F ρ s H Z (RepV G) (.ok (.loc s.length) (s ++ [.lst ds])) Q) (l1 : Rel G F ρ s H) (hl : ds.length ≤ sizeLine) (r : RepDs G.K (Mu ρ s F) H ds xs) :
    ∀ p, H p = none → Q (.ref p) (upd H p (.lst xs)) := fun p n =>
  o _ _ _ (go_push l1.len n) (l1.push n fun M' t => ⟨xs, upd_same, hl, RepDs.still t _ _ r⟩) ⟨p, by rw [List.getElem?_append_right (by rw [l1.len]; exact Nat.le_refl _), l1.len]; simp, rfl⟩
theorem cp_listA (hK : X.K = G.K) : CallP1 G X (.type "list") pListA := by
  intro pins s σ H xs us Q I r ⟨x, e, F, ρ, st, Z, v1, l, x1, o⟩
  subst e
  unfold pListA pList at o
  split at o
  · rename_i ds e1
    obtain ⟨a, ys, rfl, q, z, rr⟩ := peek_T x1 e1
    exact call_list_of pins s σ H _ us Q I r ⟨a, ys, rfl, .inr (by rw [hK]; exact q), Out.newA o l z rr⟩
  · rename_i ds e1
    obtain ⟨a, ys, rfl, q, z, rr⟩ := peek_L l x1 e1
    exact call_list_of pins s σ H _ us Q I r ⟨a, ys, rfl, .inl (.inl (.inl q)), Out.newA o l z rr⟩
  · exact o.elim
theorem allBl_rep {K : PySem.W.Frag} {M : Addr → Prop} {H : Hp} : ∀ {ds : List D} {xs : List V} {bs : List Bool}, RepDs K M H ds xs → allBl ds = some bs → xs = bs.map V.bl
  | [], [], bs, _, e => by simp only [allBl, Option.some.injEq] at e; subst e; rfl
  | d :: ds, x :: xs, bs, h, e => by
    cases d with
    | bl b =>
      simp only [allBl, Option.map_eq_some_iff] at e
      obtain ⟨cs, e1, rfl⟩ := e
      have h1 := h.1
      simp only [RepD] at h1
      subst h1
      rw [allBl_rep h.2 e1]; rfl
    | _ => simp [allBl] at e
  | [], _ :: _, _, h, _ => h.elim
  | _ :: _, [], _, h, _ => h.elim
theorem allInt_rep {K : PySem.W.Frag} {M : Addr → Prop} {H : Hp} : ∀ {ds : List D} {xs : List V} {bs : List Int}, RepDs K M H ds xs → allInt ds = some bs → xs = bs.map V.int
  | [], [], bs, _, e => by simp only [allInt, Option.some.injEq] at e; subst e; rfl
  | d :: ds, x :: xs, bs, h, e => by
    cases d with
    | int b =>
      simp only [allInt, Option.map_eq_some_iff] at e
      obtain ⟨cs, e1, rfl⟩ := e
      have h1 := h.1
      simp only [RepD] at h1
      subst h1
      rw [allInt_rep h.2 e1]; rfl
    | _ => simp [allInt] at e
  | [], _ :: _, _, h, _ => h.elim
  | _ :: _, [], _, h, _ => h.elim
theorem cp_bls {id : String} {f : List Bool → Bool} (hr : CallR X (.builtin id) (fun vs H Q => ∃ (a : Addr) (bs : List Bool), vs = [V.ref a] ∧ SqL X.K H a (bs.map V.bl) ∧ Q (.bl (f bs)) H)) : CallP1 G X (.builtin id) (pBls f) := by
  intro pins s σ H xs us Q I r ⟨x, e, F, ρ, st, Z, v1, l, x1, o⟩
  subst e
  unfold pBls at o
  split at o
  · rename_i ds e1
    obtain ⟨a, ys, rfl, q, z, rr⟩ := peek_L l x1 e1
    split at o
    · rename_i bs e2
      have e3 := allBl_rep rr e2
      subst e3
      exact hr pins s σ H _ us Q I r ⟨a, bs, rfl, .inl (.inl q), Out.ret (R := RepV G) o l (by simp [RepV, RepD])⟩
    · exact o.elim
  · exact o.elim
theorem cp_all (hc : X.calm = true) : CallP1 G X (.builtin "all") pAll := cp_bls (cr_all hc)
theorem cp_any (hc : X.calm = true) : CallP1 G X (.builtin "any") pAny := cp_bls (cr_any hc)
theorem cp_ints {id : String} {f : List Int → Option Int} (hr : CallR X (.builtin id) (fun vs H Q => ∃ (a : Addr) (ns : List Int) (i : Int), vs = [V.ref a] ∧ SqL X.K H a (ns.map V.int) ∧ f ns = some i ∧ Q (.int i) H)) : CallP1 G X (.builtin id) (pInts f) := by
  intro pins s σ H xs us Q I r ⟨x, e, F, ρ, st, Z, v1, l, x1, o⟩
  subst e
  unfold pInts at o
  split at o
  · rename_i ds e1
    obtain ⟨a, ys, rfl, q, z, rr⟩ := peek_L l x1 e1
    split at o
    · rename_i i e2
      cases e3 : allInt ds with
      | none => rw [e3] at e2; cases e2
      | some ns =>
        rw [e3] at e2
        have e4 := allInt_rep rr e3
        subst e4
        exact hr pins s σ H _ us Q I r ⟨a, ns, i, rfl, .inl (.inl q), e2, Out.ret (R := RepV G) o l (by simp [RepV, RepD])⟩
    · exact o.elim
  · exact o.elim
theorem cp_sum (hc : X.calm = true) : CallP1 G X (.builtin "sum") pSum := cp_ints fun pins s σ H vs us Q I r ⟨a, ns, i, e1, e2, e3, q⟩ => by
  cases e3
  exact cr_sum hc pins s σ H vs us Q I r ⟨a, ns, e1, e2, q⟩
theorem foldl_max : ∀ (r : List Int) (x : Int), (r.foldl max x = x ∨ r.foldl max x ∈ r) ∧ x ≤ r.foldl max x ∧ ∀ y ∈ r, y ≤ r.foldl max x
  | [], x => ⟨.inl rfl, Int.le_refl _, fun y h => by cases h⟩
  | z :: r, x => by
    obtain ⟨h1, h2, h3⟩ := foldl_max r (max x z)
    simp only [List.foldl_cons]
    refine ⟨?_, by omega, fun y hy => ?_⟩
    · rcases h1 with h | h
      · rw [h]
        by_cases c : x ≤ z
        · right; rw [Int.max_eq_right c]; exact List.mem_cons_self
        · left; omega
      · right; exact List.mem_cons_of_mem _ h
    · rcases List.mem_cons.mp hy with rfl | hy
      · omega
      · exact h3 y hy
theorem foldl_min : ∀ (r : List Int) (x : Int), (r.foldl min x = x ∨ r.foldl min x ∈ r) ∧ r.foldl min x ≤ x ∧ ∀ y ∈ r, r.foldl min x ≤ y
  | [], x => ⟨.inl rfl, Int.le_refl _, fun y h => by cases h⟩
  | z :: r, x => by
    obtain ⟨h1, h2, h3⟩ := foldl_min r (min x z)
    simp only [List.foldl_cons]
    refine ⟨?_, by omega, fun y hy => ?_⟩
    · rcases h1 with h | h
      · rw [h]
        by_cases c : x ≤ z
        · left; omega
        · right; rw [Int.min_eq_right (by omega)]; exact List.mem_cons_self
      · right; exact List.mem_cons_of_mem _ h
    · rcases List.mem_cons.mp hy with rfl | hy
      · omega
      · exact h3 y hy
theorem cp_maxL (hc : X.calm = true) : CallP1 G X (.builtin "max") pMaxL := cp_ints fun pins s σ H vs us Q I r ⟨a, ns, i, e1, e2, e3, q⟩ => by
  cases ns with
  | nil => cases e3
  | cons n r' =>
    cases e3
    refine cr_max hc pins s σ H vs us Q I r ⟨a, n :: r', e1, e2, by simp, fun m hm hy => ?_⟩
    obtain ⟨h1, h2, h3⟩ := foldl_max r' n
    have e : m = r'.foldl max n := by
      have a1 : r'.foldl max n ≤ m := hy _ (h1.elim (fun h => by rw [h]; exact List.mem_cons_self) fun h => List.mem_cons_of_mem _ h)
      have a2 : m ≤ r'.foldl max n := by
        rcases List.mem_cons.mp hm with rfl | h
        · exact h2
        · exact h3 _ h
      omega
    rw [e]; exact q
theorem cp_minL (hc : X.calm = true) : CallP1 G X (.builtin "min") pMinL := cp_ints fun pins s σ H vs us Q I r ⟨a, ns, i, e1, e2, e3, q⟩ => by
  cases ns with
  | nil => cases e3
  | cons n r' =>
    cases e3
    refine cr_min hc pins s σ H vs us Q I r ⟨a, n :: r', e1, e2, by simp, fun m hm hy => ?_⟩
    obtain ⟨h1, h2, h3⟩ := foldl_min r' n
    have e : m = r'.foldl min n := by
      have a1 : m ≤ r'.foldl min n := hy _ (h1.elim (fun h => by rw [h]; exact List.mem_cons_self) fun h => List.mem_cons_of_mem _ h)
      have a2 : r'.foldl min n ≤ m := by
        rcases List.mem_cons.mp hm with rfl | h
        · exact h2
        · exact h3 _ h
      omega
    rw [e]; exact q
/-! ### repr -/
theorem reads_int_nil {h : Heap} {v : Value} {i : Int} {as : List Addr} (q : Reads h v (.int i) as) : as = [] := by cases q; rfl
theorem reads_str_nil {h : Heap} {v : Value} {i : Str} {as : List Addr} (q : Reads h v (.str i) as) : as = [] := by cases q; rfl
mutual
theorem dict_sys {pins : List (Addr × PySem.Obj)} {σ : St} {H : Hp} {s : Shared} {M : Addr → Prop} (I : L2.Inv X pins σ H s) (hsys : H sysModules = none) : ∀ (d : D) (x : V) (u : Value) (as : List Addr), d.noscr = true → RepD X.K M H d x → RelV x u → Reads s.heap u (toPy d) as → sysModules ∉ as
  | .non, x, u, as, _, h, r, q => by simp only [toPy] at q; cases q; simp
  | .bl b, x, u, as, _, h, r, q => by simp only [toPy] at q; cases q; simp
  | .int i, x, u, as, _, h, r, q => by simp only [toPy] at q; cases q; simp
  | .str z, x, u, as, _, h, r, q => by simp only [toPy] at q; cases q; simp
  | .scr ns, x, u, as, c, _, _, _ => by simp [D.noscr] at c
  | .tup ds, x, u, as, c, h, r, q => by
    simp only [RepD] at h
    obtain ⟨a, xs, rfl, k, _, rr⟩ := h
    cases r
    obtain ⟨its, rv, ⟨o, h1, h2, n, h3⟩, _⟩ := I.tuple k
    simp only [toPy] at q
    cases q with
    | tuple k1 k2 k3 k4 =>
      rw [h1] at k1; cases k1
      rw [h3] at k3; cases k3
      exact dict_syss I hsys ds xs its _ (by simpa [D.noscr] using c) rr rv (by simpa using k4)
  | .lst ds, x, u, as, c, h, r, q => by
    simp only [RepD] at h
    obtain ⟨a, xs, rfl, _, k, _, rr⟩ := h
    cases r
    obtain ⟨its, rv, pl, _⟩ := I.list (.inl (.inl k))
    obtain ⟨o, h1, h2, n, h3⟩ := pl.isList
    simp only [toPy] at q
    cases q with
    | list k1 k2 k3 k4 =>
      rw [h1] at k1; cases k1
      rw [h3] at k3; cases k3
      have z := dict_syss I hsys ds xs its _ (by simpa [D.noscr] using c) rr rv (by simpa using k4)
      intro hm
      rcases List.mem_cons.mp hm with e | e
      · rw [← e, hsys] at k; cases k
      · exact z e
  | .dct kvs, x, u, as, c, h, r, q => by
    simp only [RepD] at h
    obtain ⟨a, ks, rfl, _, k, _, rr⟩ := h
    cases r
    obtain ⟨_, _, vs, kv, o, es, ep, h1, h2, h3, h4, hp, h5⟩ := I.hok a _ k
    simp only [toPy] at q
    cases q with
    | dict k1 k2 k3 k4 k5 =>
      rw [h1] at k1; cases k1
      rw [h3] at k3; cases k3
      have z := dict_sysk I hsys kvs ks vs _ _ _ (by simpa [D.noscr] using c) rr kv hp k4 k5
      intro hm
      rcases List.mem_append.mp hm with hm | hm
      · rcases List.mem_cons.mp hm with e | e
        · rw [← e, hsys] at k; cases k
        · exact z.1 e
      · exact z.2 hm
theorem dict_syss {pins : List (Addr × PySem.Obj)} {σ : St} {H : Hp} {s : Shared} {M : Addr → Prop} (I : L2.Inv X pins σ H s) (hsys : H sysModules = none) : ∀ (ds : List D) (xs : List V) (us : List Value) (as : List Addr), D.noscrs ds = true → RepDs X.K M H ds xs → Vals xs us → ReadsAll s.heap us (toPys ds) as → sysModules ∉ as
  | [], [], _, as, _, _, .nil, q => by simp only [toPys] at q; cases q; simp
  | d :: ds, x :: xs, _, as, c, h, .cons r t, q => by
    simp only [RepDs] at h
    simp only [D.noscrs, Bool.and_eq_true] at c
    simp only [toPys] at q
    cases q with
    | cons q1 q2 =>
      intro hm
      rcases List.mem_append.mp hm with e | e
      · exact dict_sys I hsys d x _ _ c.1 h.1 r q1 e
      · exact dict_syss I hsys ds xs _ _ c.2 h.2 t q2 e
  | [], _ :: _, _, _, _, h, _, _ => by simp [RepDs] at h
  | _ :: _, [], _, _, _, h, _, _ => by simp [RepDs] at h
theorem dict_sysk {pins : List (Addr × PySem.Obj)} {σ : St} {H : Hp} {s : Shared} {M : Addr → Prop} (I : L2.Inv X pins σ H s) (hsys : H sysModules = none) : ∀ (ds : List (Key × D)) (xs : List (Key × V)) (us : List (Key × Value)) (es : List DictEntry) (as bs : List Addr),
    D.noscrk ds = true → RepKs X.K M H ds xs → L2.KV xs us → Pairs (mixKind X.prog X.w) es us → ReadsAll s.heap (es.map (·.key)) ((toPyKv ds).map (·.1)) as → ReadsAll s.heap (es.map (·.val)) ((toPyKv ds).map (·.2)) bs → sysModules ∉ as ∧ sysModules ∉ bs
  | [], [], _, _, as, bs, _, _, .nil, .nil, q, q' => by simp only [toPyKv, List.map_nil] at q q'; cases q; cases q'; simp
  | (k, d) :: ds, x :: xs, _, _, as, bs, c, h, .cons r t, .cons h1 h2 h3, q, q' => by
    simp only [RepKs] at h
    simp only [D.noscrk, Bool.and_eq_true] at c
    simp only [toPyKv, List.map_cons] at q q'
    cases q with
    | cons q1 q2 =>
      cases q' with
      | cons q3 q4 =>
        have z := dict_sysk I hsys ds xs _ _ _ _ c.2 h.2 t h3 q2 q4
        rw [h2] at q3
        have z2 := dict_sys I hsys d x.2 _ _ c.1 h.1.2 r.2 q3
        refine ⟨fun hm => ?_, fun hm => ?_⟩
        · rcases List.mem_append.mp hm with e | e
          · cases k with
            | inl i => rw [reads_int_nil q1] at e; simp at e
            | inr i => rw [reads_str_nil q1] at e; simp at e
          · exact z.1 e
        · rcases List.mem_append.mp hm with e | e
          · exact z2 e
          · exact z.2 e
  | [], _ :: _, _, _, _, _, _, h, _, _, _, _ => by simp [RepKs] at h
  | _ :: _, [], _, _, _, _, _, h, _, _, _, _ => by simp [RepKs] at h
end
theorem cp_repr (hK : X.K = G.K) (hu : X.A.units + 64 < cLine) (hg : X.A.guards = some []) (hsys : ∀ (pins : List (Addr × PySem.Obj)) (σ : St) (H : Hp) (s : Shared), L2.Inv X pins σ H s → H sysModules = none) : CallP1 G X (.builtin "repr") pRepr := by
  intro pins s σ H xs us Q I r ⟨x, e, F, ρ, st, Z, v1, l, x1, o⟩
  subst e
  unfold pRepr at o
  split at o
  · rename_i a e1
    by_cases c : ((toPy a).showable && low a && a.noscr && decide ((toPy a).shown.length ≤ line)) = true
    · rw [if_pos c] at o
      simp only [Bool.and_eq_true, decide_eq_true_eq] at c
      obtain ⟨⟨⟨c1, c2⟩, c3⟩, c4⟩ := c
      obtain ⟨u, rfl, ru⟩ := vals1 r
      obtain ⟨M0, hr0, _⟩ := deep_D l x1 e1
      have hr : RepD X.K M0 H a x := by rw [hK]; exact hr0
      have hq : Q (.str (toPy a).shown) H := Out.ret (R := RepV G) (b := .str _) o l (by simp [RepV, RepD])
      obtain ⟨as, q⟩ := reads_of I a x u hr ru
      have hsz : (toPy a).shown.length ≤ sizeLine := by rw [line_eq]; exact c4
      have hlo := low_le c2
      cases x with
      | ref p =>
        cases ru
        refine repr_of_reads' (h₀ := s.heap) q c1 (fun _ => dict_sys I (hsys _ _ _ _ I) a _ _ as c3 hr rfl q) hg (by omega) (fun _ _ e => e) (fun h' u tk hk => ?_) hsz
        exact ⟨.str _, H, I.kept (t' := tk) hk, ⟨_, rfl⟩, hq⟩
      | non =>
        cases ru
        cases a <;> simp [RepD] at hr
        exact PySem.P.repr_of_none ⟨.str _, H, I.tok _, ⟨_, rfl⟩, by simpa [toPy, PyData.shown] using hq⟩
      | bl b =>
        cases ru
        cases a <;> simp [RepD] at hr
        subst hr
        exact PySem.P.repr_of_bool ⟨.str _, H, I.tok _, ⟨_, rfl⟩, by simpa [toPy, PyData.shown] using hq⟩
      | int i =>
        obtain ⟨t, rfl⟩ := ru
        cases a <;> simp [RepD] at hr
        subst hr
        exact PySem.P.repr_of_int (by simpa [toPy, PyData.showable] using c1) ⟨.str _, H, I.tok _, ⟨_, rfl⟩, by simpa [toPy, PyData.shown] using hq⟩
      | str z =>
        obtain ⟨t, rfl⟩ := ru
        cases a <;> simp [RepD] at hr
        subst hr
        exact PySem.P.repr_of_str ⟨.str _, H, I.tok _, ⟨_, rfl⟩, by simpa [toPy, PyData.shown] using hq⟩ (by simpa [toPy, PyData.shown] using hsz)
      | byt z => cases a <;> simp [RepD] at hr
      | flt z => cases a <;> simp [RepD] at hr
      | ty z => cases a <;> simp [RepD] at hr
    · rw [if_neg c] at o; exact o.elim
  · exact o.elim
/-! ### is None -/
theorem non_iff {F : Addr → Prop} {ρ : List Addr} {H : Hp} {s : Store} {v : Val} {x : V} (h : RepV G ρ (Mu ρ s F) H v x) : pIsN v s = .ok (.d (.bl (decide (x = .non)))) s ∧ pNotN v s = .ok (.d (.bl (!decide (x = .non)))) s := by
  cases v with
  | d z =>
    cases z with
    | non => simp only [RepV, RepD] at h; subst h; exact ⟨rfl, rfl⟩
    | bl b => simp only [RepV, RepD] at h; subst h; exact ⟨rfl, rfl⟩
    | int b => simp only [RepV, RepD] at h; subst h; exact ⟨rfl, rfl⟩
    | str b => simp only [RepV, RepD] at h; subst h; exact ⟨rfl, rfl⟩
    | tup b => simp only [RepV, RepD] at h; obtain ⟨a, xs, rfl, _⟩ := h; exact ⟨rfl, rfl⟩
    | lst b => simp only [RepV, RepD] at h; obtain ⟨a, xs, rfl, _⟩ := h; exact ⟨rfl, rfl⟩
    | dct b => simp only [RepV, RepD] at h; obtain ⟨a, xs, rfl, _⟩ := h; exact ⟨rfl, rfl⟩
    | scr b => simp only [RepV, RepD] at h; obtain ⟨a, rfl, _⟩ := h; exact ⟨rfl, rfl⟩
  | loc n => obtain ⟨a, _, rfl⟩ := h; exact ⟨rfl, rfl⟩
  | exn c fs => obtain ⟨a, _, _, rfl, _⟩ := h; exact ⟨rfl, rfl⟩
theorem isN_to {σ : St} {H : Hp} {Q : VK} (h : tE G W (e1 pIsN ca) σ H Q) : tIsN (tE G W ca) σ H Q := by
  obtain ⟨F, ρ, s, E, at_, o⟩ := h
  refine ⟨F, ρ, s, E, at_, (Out.bind (R := RepV G) o).mono ?_⟩
  rintro x H1 ⟨ρ1, s1, v1, g1, l1, x1, o1⟩
  rw [(non_iff x1).1] at o1
  exact Out.ret (R := RepV G) (b := .bl (decide (x = .non))) o1 l1 (by simp [RepV, RepD])
theorem notN_to {σ : St} {H : Hp} {Q : VK} (h : tE G W (e1 pNotN ca) σ H Q) : tNotN (tE G W ca) σ H Q := by
  obtain ⟨F, ρ, s, E, at_, o⟩ := h
  refine ⟨F, ρ, s, E, at_, (Out.bind (R := RepV G) o).mono ?_⟩
  rintro x H1 ⟨ρ1, s1, v1, g1, l1, x1, o1⟩
  rw [(non_iff x1).2] at o1
  exact Out.ret (R := RepV G) (b := .bl (!decide (x = .non))) o1 l1 (by simp [RepV, RepD])
theorem se_isN {j : Nat} {p' : Pos} (ha : SE G W X ca a) : SE G W X (e1 pIsN ca) (.Compare a [.Is] [.Constant .none j p'] pos) := PE.imp (pe_cmp (pc_isN ha)) fun σ H Q h => isN_to h
theorem se_notN {j : Nat} {p' : Pos} (ha : SE G W X ca a) : SE G W X (e1 pNotN ca) (.Compare a [.IsNot] [.Constant .none j p'] pos) := PE.imp (pe_cmp (pc_notN ha)) fun σ H Q h => notN_to h
theorem st_isN {j : Nat} {p' : Pos} (ha : SE G W X ca a) : ST G W X (bb (e1 pIsN ca)) (.Compare a [.Is] [.Constant .none j p'] pos) := PT.imp (pt_cmp (pc_isN ha)) fun σ H Q h => isN_to (bb_to h)
theorem st_notN {j : Nat} {p' : Pos} (ha : SE G W X ca a) : ST G W X (bb (e1 pNotN ca)) (.Compare a [.IsNot] [.Constant .none j p'] pos) := PT.imp (pt_cmp (pc_notN ha)) fun σ H Q h => notN_to (bb_to h)

/-! ### isinstance -/
def tyN : Ty → String | .int => "int" | .bool => "bool" | .str => "str" | .tuple => "tuple" | .list => "list" | .dict => "dict" | .none => "NoneType"
theorem kitT (t : Ty) : ∀ b : Ty, b ≠ .none → kitB (tyN t) (tyN b) = some (isT [b] t) := by
  cases t <;> intro b hb <;> cases b <;> first | (exact absurd rfl hb) | decide +kernel
theorem ty_of {F : Addr → Prop} {ρ : List Addr} {H : Hp} {s : Store} {v : Val} {x : V} {t : Ty} (hK : X.K = G.K) (l : Rel G F ρ s H) (h : RepV G ρ (Mu ρ s F) H v x) (e : tyOf v s = some t) : TyX X.K H x (.type (tyN t)) := by
  cases v with
  | d z =>
    simp only [tyOf, Option.some.injEq] at e
    subst e
    cases z with
    | non => simp only [RepV, RepD] at h; subst h; exact .base .non
    | bl b => simp only [RepV, RepD] at h; subst h; exact .base (.bl _)
    | int b => simp only [RepV, RepD] at h; subst h; exact .base (.int _)
    | str b => simp only [RepV, RepD] at h; subst h; exact .base (.str _)
    | tup b =>
      simp only [RepV, RepD] at h; obtain ⟨a, xs, rfl, q, _⟩ := h
      rcases q with (q | ⟨o, q⟩) | ⟨o, its, n, q, c, _⟩
      · exact .base (.tup q)
      · exact .fTuple q
      · rw [hK]; exact .kTuple q c
    | lst b => simp only [RepV, RepD] at h; obtain ⟨a, xs, rfl, _, q, _⟩ := h; exact .base (.lst q)
    | dct b => simp only [RepV, RepD] at h; obtain ⟨a, xs, rfl, _, q, _⟩ := h; exact .base (.dK q)
    | scr b =>
      simp only [RepV, RepD] at h; obtain ⟨a, rfl, q, _⟩ := h
      rcases q with ⟨o, q⟩ | ((q | ⟨_, q⟩) | ⟨o, its, n, q, c, _⟩)
      · exact .base (.frz q)
      · cases q
      · cases q
      · rw [hK]; exact .kList q c
  | loc n =>
    obtain ⟨a, ha, rfl⟩ := h
    simp only [tyOf] at e
    cases ho : s[n]? with
    | none => rw [ho] at e; cases e
    | some o =>
      rw [ho] at e
      have q := l.ob n o a ho ha
      cases o with
      | lst ds => cases e; obtain ⟨xs, hx, _⟩ := q; exact .base (.lst hx)
      | lv ds => cases e; obtain ⟨xs, hx, _⟩ := q; exact .base (.lst hx)
      | dct ds => cases e; obtain ⟨xs, hx, _⟩ := q; exact .base (.dK hx)
      | _ => cases e
  | exn _ _ => simp [tyOf] at e
theorem se_isi1 {t : Ty} {nm : Str} {p2 : Pos} (hK : X.K = G.K) (hm : X.mg "isinstance" = none) (hmt : X.mg nm = none) (hv : bootBuiltins nm = some (.type (tyN t))) (hne : t ≠ .none) (ha : SE G W X ca a) (hg : Gl X "isinstance" := by rfl) (hgt : Gl X nm := by rfl)
    (hn : nm ≠ "__name__" := by decide +kernel) (hdb : (nm == ("__debug__" : Str)) = false := by decide +kernel)
    (hs : starEach [a, .Name nm p2] X.env = (false, eval a X.env) :: starEach [.Name nm p2] X.env := by rfl) (hs2 : starEach [.Name nm p2] X.env = (false, eval (.Name nm p2) X.env) :: starEach [] X.env := by rfl)
    (hpl : (backTo pos (starEach [.Name nm p2] X.env)).any (·.1) = false := by rfl) : SE G W X (e1 (pIsi [t]) ca) (.Call (.Name "isinstance" pp) [a, .Name nm p2] [] pos) :=
  PE.imp (pe_callB call_isi hg hm (by decide +kernel) (pa_cons ha (pa_cons (pe_bltn (v := .ty (tyN t)) hgt hmt hv rfl hn hdb) pa_nil hs2) hs) (by decide +kernel) (by decide +kernel) hs hpl) fun σ H Q ⟨F, ρ, s, E, at_, o⟩ => by
    refine ⟨F, ρ, s, E, at_, (Out.bind (R := RepV G) o).mono ?_⟩
    rintro x H1 ⟨ρ1, s1, v1, g1, l1, x1, o1⟩
    unfold pIsi at o1
    cases e : tyOf v1 s1 with
    | none => rw [e] at o1; exact o1.elim
    | some t' =>
      rw [e] at o1
      exact ⟨x, .ty (tyN t), _, _, _, rfl, .ty _, ty_of hK l1 x1 e, kit_ty (kitT t' t hne), Out.ret (R := RepV G) o1 l1 (by simp [RepV, RepD])⟩
theorem se_isi2 {t t2 : Ty} {nm nm2 : Str} {p2 p3 p4 : Pos} {kt} (hK : X.K = G.K) (hm : X.mg "isinstance" = none) (hmt : X.mg nm = none) (hmt2 : X.mg nm2 = none) (hv : bootBuiltins nm = some (.type (tyN t))) (hv2 : bootBuiltins nm2 = some (.type (tyN t2))) (hne : t ≠ .none) (hne2 : t2 ≠ .none) (ha : SE G W X ca a)
    (hg : Gl X "isinstance" := by rfl) (hgt : Gl X nm := by rfl) (hgt2 : Gl X nm2 := by rfl) (hn : nm ≠ "__name__" := by decide +kernel) (hdb : (nm == ("__debug__" : Str)) = false := by decide +kernel) (hn2 : nm2 ≠ "__name__" := by decide +kernel) (hdb2 : (nm2 == ("__debug__" : Str)) = false := by decide +kernel)
    (hs : starEach [a, .Tuple [.Name nm p2, .Name nm2 p3] kt p4] X.env = (false, eval a X.env) :: starEach [.Tuple [.Name nm p2, .Name nm2 p3] kt p4] X.env := by rfl) (hs2 : starEach [.Tuple [.Name nm p2, .Name nm2 p3] kt p4] X.env = (false, eval (.Tuple [.Name nm p2, .Name nm2 p3] kt p4) X.env) :: starEach [] X.env := by rfl)
    (hpl : (backTo pos (starEach [.Tuple [.Name nm p2, .Name nm2 p3] kt p4] X.env)).any (·.1) = false := by rfl)
    (hs3 : starEach [.Name nm p2, .Name nm2 p3] X.env = (false, eval (.Name nm p2) X.env) :: starEach [.Name nm2 p3] X.env := by rfl) (hs4 : starEach [.Name nm2 p3] X.env = (false, eval (.Name nm2 p3) X.env) :: starEach [] X.env := by rfl) :
    SE G W X (e1 (pIsi [t, t2]) ca) (.Call (.Name "isinstance" pp) [a, .Tuple [.Name nm p2, .Name nm2 p3] kt p4] [] pos) :=
  PE.imp (pe_callB call_isiT hg hm (by decide +kernel) (pa_cons ha (pa_cons (pe_tup (pa_cons (pe_bltn (v := .ty (tyN t)) hgt hmt hv rfl hn hdb) (pa_cons (pe_bltn (v := .ty (tyN t2)) hgt2 hmt2 hv2 rfl hn2 hdb2) pa_nil hs4) hs3)) pa_nil hs2) hs) (by decide +kernel) (by decide +kernel) hs hpl) fun σ H Q ⟨F, ρ, s, E, at_, o⟩ => by
    refine ⟨F, ρ, s, E, at_, (Out.bind (R := RepV G) o).mono ?_⟩
    rintro x H1 ⟨ρ1, s1, v1, g1, l1, x1, o1⟩
    refine ⟨by show 2 ≤ sizeLine; rw [sizeLine_eq]; decide, fun p n => ?_⟩
    unfold pIsi at o1
    have g : Go ρ1 s1 H1 ρ1 s1 (upd H1 p (.tup [.ty (tyN t), .ty (tyN t2)])) := go_new n
    have l2 := l1.new (o := .tup [.ty (tyN t), .ty (tyN t2)]) n
    cases e : tyOf v1 s1 with
    | none => rw [e] at o1; exact o1.elim
    | some t' =>
      rw [e] at o1
      refine ⟨x, p, _, .type (tyN t'), [.type (tyN t), .type (tyN t2)], isT [t, t2] t', rfl, upd_same, .cons (.ty _) (.cons (.ty _) .nil), ty_of hK l2 (l1.val g x1) e, ?_, o1 _ _ _ g l2 (by simp [RepV, RepD])⟩
      have f : ∀ b : Bool, (if b then some true else some false) = some b := fun b => by cases b <;> rfl
      refine kitAny_cons (kit_ty (kitT t' t hne)) (fun h => kitAny_cons (kit_ty (kitT t' t2 hne2)) (fun h2 => ?_) (fun h2 => ?_)) (fun h => ?_)
      · have : isT [t, t2] t' = false := by
          simp only [isT, List.contains_cons, List.contains_nil, Bool.or_false] at h h2 ⊢
          revert h h2
          cases (t' == t) <;> cases (t' == t2) <;> cases (t' == Ty.bool) <;> cases (Ty.int == t) <;> cases (Ty.int == t2) <;> simp
        rw [this]; rfl
      · simp only [isT, List.contains_cons, List.contains_nil, Bool.or_false] at h2 ⊢
        revert h2
        cases (t' == t) <;> cases (t' == t2) <;> cases (t' == Ty.bool) <;> cases (Ty.int == t) <;> cases (Ty.int == t2) <;> simp
      · simp only [isT, List.contains_cons, List.contains_nil, Bool.or_false] at h ⊢
        revert h
        cases (t' == t) <;> cases (t' == t2) <;> cases (t' == Ty.bool) <;> cases (Ty.int == t) <;> cases (Ty.int == t2) <;> simp
end
end Ev
end
section
set_option Elab.async false
set_option linter.all false
set_option autoImplicit false
set_option maxRecDepth 100000
set_option maxHeartbeats 4000000
/-! Subscripts, slices, methods of lists, ranges as lists. -/
namespace Ev
open PySem L2

section
variable {G : Gd} {X : Cx} {W : WX} {a b c : Expr} {ca cb cc : EC} {pos pp : Pos}

theorem RepF.look {κ : Type} [DecidableEq κ] {ρ : List Addr} {M : Addr → Prop} {H : Hp} (q : κ) : ∀ {ds : List (κ × Val)} {xs : List (κ × V)} {z : Val}, RepF G ρ M H ds xs → (ds.find? fun p => decide (p.1 = q)).map (·.2) = some z → ∃ y, valV xs q = some y ∧ RepV G ρ M H z y
  | [], [], _, _, e => by simp at e
  | p :: ds, p' :: xs, z, h, e => by
    by_cases c : p.1 = q
    · rw [List.find?_cons, decide_eq_true c] at e
      simp at e
      subst e
      exact ⟨p'.2, valV_pos (by rw [← h.1.1, c]), h.1.2⟩
    · rw [List.find?_cons, decide_eq_false c] at e
      obtain ⟨y, h1, h2⟩ := RepF.look q h.2 e
      exact ⟨y, by rw [valV_neg (by rw [← h.1.1]; exact c)]; exact h1, h2⟩
  | [], _ :: _, _, h, _ => h.elim
  | _ :: _, [], _, h, _ => h.elim
theorem RepF.any {κ : Type} [DecidableEq κ] {ρ : List Addr} {M : Addr → Prop} {H : Hp} (q : κ) : ∀ {ds : List (κ × Val)} {xs : List (κ × V)}, RepF G ρ M H ds xs → (ds.any fun p => decide (p.1 = q)) = xs.any fun p => decide (p.1 = q)
  | [], [], _ => rfl
  | p :: ds, p' :: xs, h => by rw [List.any_cons, List.any_cons, RepF.any q h.2, h.1.1]
  | [], _ :: _, h => h.elim
  | _ :: _, [], h => h.elim
theorem RepF.append {κ : Type} {ρ : List Addr} {M : Addr → Prop} {H : Hp} : ∀ {ds es : List (κ × Val)} {xs ys : List (κ × V)}, RepF G ρ M H ds xs → RepF G ρ M H es ys → RepF G ρ M H (ds ++ es) (xs ++ ys)
  | [], _, [], _, _, h => h
  | _ :: _, _, _ :: _, _, h, h' => ⟨h.1, RepF.append h.2 h'⟩
  | [], _, _ :: _, _, h, _ => h.elim
  | _ :: _, _, [], _, h, _ => h.elim
theorem RepF.map {κ : Type} [DecidableEq κ] {ρ : List Addr} {M : Addr → Prop} {H : Hp} (q : κ) {z : Val} {y : V} (r : RepV G ρ M H z y) : ∀ {ds : List (κ × Val)} {xs : List (κ × V)}, RepF G ρ M H ds xs →
    RepF G ρ M H (ds.map fun p => if p.1 = q then (p.1, z) else p) (xs.map fun p => if p.1 = q then (p.1, y) else p)
  | [], [], _ => trivial
  | p :: ds, p' :: xs, h => by
    refine ⟨?_, RepF.map q r h.2⟩
    by_cases c : p.1 = q
    · simp only [if_pos c, if_pos (show p'.1 = q by rw [← h.1.1]; exact c)]; exact ⟨h.1.1, r⟩
    · simp only [if_neg c, if_neg (show ¬ p'.1 = q by rw [← h.1.1]; exact c)]; exact h.1
  | [], _ :: _, h => h.elim
  | _ :: _, [], h => h.elim
theorem RepF.put {ρ : List Addr} {M : Addr → Prop} {H : Hp} (q : Key) {z : Val} {y : V} (r : RepV G ρ M H z y) {ds : List (Key × Val)} {xs : List (Key × V)} (h : RepF G ρ M H ds xs) : RepF G ρ M H (putK ds q z) (L2.putK xs q y) := by
  unfold putK L2.putK
  rw [RepF.any q h]
  split
  · exact RepF.map q r h
  · exact RepF.append h ⟨⟨rfl, r⟩, trivial⟩
theorem key_of' {F : Addr → Prop} {ρ : List Addr} {H : Hp} {s : Store} {v : Val} {x : V} {q : Key} (h : RepV G ρ (Mu ρ s F) H v x) (e : keyOf v = some q) : x = kV q := by
  unfold keyOf at e
  split at e
  · cases e; simpa [RepV, RepD, kV] using h
  · cases e; simpa [RepV, RepD, kV] using h
  · cases e

/-! ### o[i] -/
theorem ixp (hK : X.K = G.K) (hu : X.A.units + 64 < cLine) : IxR X (rP G pIx) := by
  intro value slice pins s σ H x y v u Q I rx ry ⟨F, ρ, st, Z, v1, v2, l, x1, x2, o⟩ hs
  have onL : ∀ {p : Addr} {xs : List V} {ds : List D} {i : Int} {z : D}, x = .ref p → y = .int i → (SqL X.K H p xs ∨ SqT X.K H p xs) → RepDs G.K (Mu ρ st F) H ds xs → (ixN ds.length i).bind (ds[·]?) = some z → Out G F ρ st H Z (RepV G) (.ok (.d z) st) Q →
      wpAny (model X.prog X.w) X.A (PyProof.Rows.subscriptTail value slice v u) (EP X pins σ Q) X.xe s := fun {p xs ds i z} ex ey hq rr e o => by
    cases hj : ixN ds.length i with
    | none => rw [hj] at e; cases e
    | some j =>
      rw [hj] at e
      obtain ⟨w, hw, rw'⟩ := rr.get (show ds[j]? = some z from e)
      have ha : atI xs i = some w := by
        show (L2.ixN xs.length i).bind (fun j => xs[j]?) = some w
        have : L2.ixN xs.length i = some j := by rw [← rr.len]; exact hj
        rw [this]; exact hw
      rcases hq with hq | hq
      · exact ix_list value slice pins s σ H x y v u Q I rx ry ⟨p, xs, i, w, ex, ey, hq, ha, Out.ret (R := RepV G) o l rw'⟩ hs
      · exact ix_tup value slice pins s σ H x y v u Q I rx ry ⟨p, xs, i, w, ex, ey, hq, ha, Out.ret (R := RepV G) o l rw'⟩ hs
  unfold pIx at o
  split at o
  · rename_i ds i
    split at o
    · rename_i z e
      obtain ⟨p, xs, ex, hq, _, rr⟩ := peek_T x1 (ds := ds) rfl
      exact onL ex (int_of x2) (.inr (by rw [hK]; exact hq)) rr e o
    · exact o.elim
  · rename_i ds i
    split at o
    · rename_i z e
      obtain ⟨p, xs, ex, hq, _, rr⟩ := peek_L l x1 (ds := ds) rfl
      exact onL ex (int_of x2) (.inl (.inl (.inl hq))) rr e o
    · exact o.elim
  · rename_i n
    obtain ⟨p, hp, ex⟩ := x1
    split at o
    · rename_i ds ho
      obtain ⟨xs, hx, _, rr⟩ := l.ob n _ p ho hp
      split at o
      · rename_i i
        split at o
        · rename_i z e
          exact onL ex (int_of x2) (.inl (.inl (.inl hx))) rr e o
        · exact o.elim
      · exact o.elim
    · rename_i ds ho
      obtain ⟨xs, hx, _, rr⟩ := l.ob n _ p ho hp
      split at o
      · rename_i i
        split at o
        · rename_i z e
          cases hj : ixN ds.length i with
          | none => rw [hj] at e; cases e
          | some j =>
            rw [hj] at e
            obtain ⟨w, hw, rw'⟩ := rr.get (show ds[j]? = some z from e)
            have ha : atI xs i = some w := by
              show (L2.ixN xs.length i).bind (fun j => xs[j]?) = some w
              have : L2.ixN xs.length i = some j := by rw [← rr.len]; exact hj
              rw [this]; exact hw
            exact ix_list value slice pins s σ H x y v u Q I rx ry ⟨p, xs, i, w, ex, int_of x2, .inl (.inl hx), ha, Out.ret (R := RepV G) o l rw'⟩ hs
        · exact o.elim
      · exact o.elim
    · rename_i kvs ho
      obtain ⟨ks, hk, _, rr⟩ := l.ob n _ p ho hp
      split at o
      · rename_i z e
        cases hq : keyOf v2 with
        | none => rw [hq] at e; cases e
        | some q =>
          rw [hq] at e
          obtain ⟨w, hw, rw'⟩ := RepF.look q rr (show (kvs.find? fun p => decide (p.1 = q)).map (·.2) = some z from e)
          have ey := key_of' x2 hq
          subst ex ey
          cases rx
          have g : DGet H p (kV q) (some w) := by rw [← hw]; exact DGet.k hk
          refine PyProof.Rows.tail_any (dict_typeIs I g) PySem.F.slot_dict_getitem.lookup (d_getItem (by omega) I g ry fun w' s3 I3 r3 => ?_) hs
          exact ⟨w, H, I3, r3, Out.ret (R := RepV G) o l rw'⟩
      · exact o.elim
    · exact o.elim
  · exact o.elim
theorem se_ix (hK : X.K = G.K) (hu : X.A.units + 64 < cLine) (ha : SE G W X ca a) (hb : SE G W X cb b) (hs : PlainIx b := by exact fun _ _ => rfl) : SE G W X (e2 pIx ca cb) (.Subscript a b pos) :=
  PE.imp (pe_ix (ixp hK hu) ha hb hs) fun σ H Q h => op_to (f := fun _ _ => pure .none) h

/-! ### slices -/
abbrev rI : RR (Option Int) (Option Int) := fun _ _ _ a b => a = b
def tO (G : Gd) (W : WX) (c : PC) : TO := fun σ H Q => ∃ F ρ s E, At G F ρ s H E σ ∧ Out G F ρ s H (fun C d H' => W C d σ H') rI (c E s) Q
abbrev SO (G : Gd) (W : WX) (X : Cx) (c : PC) (e : Option Expr) : Prop := PO X e (tO G W c)
theorem so_n : SO G W X pn none := ⟨fun pins s σ H Q I ⟨F, ρ, st, E, at_, o⟩ => po_none.run pins s σ H Q I (Out.ret (R := rI) (b := none) o at_.rel rfl)⟩
theorem so_s (ha : SE G W X ca a) : SO G W X (ps ca) (some a) := ⟨fun pins s σ H Q I ⟨F, ρ, st, E, at_, o⟩ => (po_some ha).run pins s σ H Q I (by
  refine ⟨F, ρ, st, E, at_, (Out.bind (R := RepV G) o).mono ?_⟩
  rintro x H1 ⟨ρ1, s1, v1, g1, l1, x1, o1⟩
  split at o1
  · rename_i i
    exact ⟨i, int_of x1, Out.ret (R := rI) o1 l1 rfl⟩
  · exact o1.elim)⟩
theorem whole_tup {prog : Program} {w : World} {A : Around} {E : Value → Shared → Prop} {s : Shared} {t sl : Addr} {items : Array Value} {vl vu : Value} {lo hi : Option Int} {Q : Value → Shared → Prop} (ht : PyProof.Rows.IsTup s.heap t items) (hs : s.heap.IsSliceOf sl vl vu .none) (pl : IsPart vl lo) (pu : IsPart vu hi)
    (hw : HT.sIx items.size 0 lo = 0 ∧ HT.sIx items.size items.size hi = items.size)
    (h : Q (.ref t) s) : wpAny (model prog w) A (getItem (.ref t) (.ref sl)) Q E s := by
  obtain ⟨os, hos, hcs, hds⟩ := id hs
  have hTs : s.TypeIs (.ref sl) "slice" := ⟨os, hos, hcs⟩
  unfold getItem
  try with_reducible refine wpAny_holding ?_
  first | refine wpAny_bind (wpAny_pure ?_) | skip
  refine wpAny_bind (wpAny_sequenceKey ht.typeIs (by decide) ?_)
  refine wpAny_bind (wpAny_callSpecial?_slot (name := Str.ofString "__getitem__") ht.typeIs PyProof.Rows.slot_tuple_getitem
    (wpAny_call_entry PyProof.Rows.slot_tuple_getitem ht.typeIs PyProof.Rows.entry_tuple_getitem ?_ (PyProof.Rows.args_tuple_getitem _ _)))
  show wpAny _ _ (Builtin.Tuple.tupleItemsOf (.ref t) >>= _) _ _ s
  refine wpAny_bind (PyProof.Rows.tupleItemsOf_ ht ?_)
  refine wpAny_bind (wpAny_typeOf hTs ?_)
  rw [if_pos (by decide)]
  refine wpAny_bind (HT.sliceApplied_gen hs pl pu ?_)
  have hyes : (((HT.sIx items.size 0 lo : Nat) : Int) == 0 && (1 : Int) == 1 && (HT.sIx items.size items.size hi - HT.sIx items.size 0 lo) == items.size) = true := by
    rw [hw.1, hw.2]; simp
  show wpAny _ _ (if (((HT.sIx items.size 0 lo : Nat) : Int) == 0 && (1 : Int) == 1 && (HT.sIx items.size items.size hi - HT.sIx items.size 0 lo) == items.size) = true then _ else _) _ _ s
  rw [if_pos hyes]
  refine wpAny_bind (m := Builtin.Tuple.tupleIsExact _) ?_
  unfold Builtin.Tuple.tupleIsExact
  refine wpAny_bind (wpAny_typeOf ht.typeIs (wpAny_pure ?_))
  rw [if_pos (by decide)]
  exact wpAny_bind (wpAny_rule (wpAny_pure ⟨_, rfl, wpAny_pure h⟩))
theorem cut_whole {A : Type} {xs : List A} {lo hi : Option Int} (h : sIx xs.length 0 lo = 0 ∧ sIx xs.length xs.length hi = xs.length) : cut xs lo hi = xs := by
  unfold cut; rw [h.1, h.2]; simp
theorem RepDs.cut {H : Hp} {K : PySem.W.Frag} {M : Addr → Prop} {ds : List D} {xs : List V} (r : RepDs K M H ds xs) (lo hi : Option Int) : RepDs K M H (Ev.cut ds lo hi) (cutV xs lo hi) := by
  show RepDs K M H ((ds.drop (sIx ds.length 0 lo)).take _) ((xs.drop (sIx xs.length 0 lo)).take (sIx xs.length xs.length hi - sIx xs.length 0 lo))
  rw [r.len]
  exact (r.drop _).take _
theorem cut_len {A : Type} (xs : List A) (lo hi : Option Int) : (cut xs lo hi).length ≤ xs.length := by
  unfold cut; rw [List.length_take, List.length_drop]; omega
def rPS (G : Gd) : V → Option Int → Option Int → Hp → VK → Prop := fun x lo hi H Q => ∃ F ρ s Z v1, Rel G F ρ s H ∧ RepV G ρ (Mu ρ s F) H v1 x ∧ Out G F ρ s H Z (RepV G) (pSl v1 lo hi s) Q
theorem slp (hK : X.K = G.K) : SlR X (rPS G) := by
  intro pins s σ H x v vl vu lo hi sl Q I rx hs pl pu ⟨F, ρ, st, Z, v1, l, x1, o⟩
  unfold pSl at o
  split at o
  · rename_i ds e
    obtain ⟨p, xs, rfl, hq, z, rr⟩ := peek_T x1 e
    by_cases hw : sIx xs.length 0 lo = 0 ∧ sIx xs.length xs.length hi = xs.length
    · cases rx
      obtain ⟨its, r, ht, hz⟩ := I.tuple (by rw [hK]; exact hq)
      refine ⟨"tuple", _, PyProof.Rows.slot_tuple_getitem.lookup, ht.typeIs, whole_tup ht hs pl pu ?_ ?_⟩
      · rw [List.size_toArray, ← r.length]; exact hw
      · rw [cut_whole (by rw [rr.len]; exact hw)] at o
        exact ⟨.ref p, H, I, rfl, Out.ret (R := RepV G) o l (by simp only [RepV, RepD]; exact ⟨p, xs, rfl, hq, z, rr⟩)⟩
    · exact sl_tup pins s σ H _ v vl vu lo hi sl Q I rx hs pl pu ⟨p, xs, rfl, by rw [hK]; exact hq, hw, Out.newT o l (Nat.le_trans (cut_len _ _ _) z) (rr.cut lo hi)⟩
  · rename_i ds e
    obtain ⟨p, xs, rfl, hq, z, rr⟩ := peek_L l x1 e
    exact sl_list pins s σ H _ v vl vu lo hi sl Q I rx hs pl pu ⟨p, xs, rfl, .inl (.inl hq), Out.newL o l (Nat.le_trans (cut_len _ _ _) z) (rr.cut lo hi)⟩
  · exact o.elim
theorem se_sl {lo hi : Option Expr} {cl ch : PC} {p2 : Pos} (hK : X.K = G.K) (ha : SE G W X ca a) (hl : SO G W X cl lo) (hh : SO G W X ch hi) : SE G W X (sl ca cl ch) (.Subscript a (.Slice lo hi none p2) pos) :=
  PE.imp (pe_slice (slp hK) ha hl hh) fun σ H Q ⟨F, ρ, s, E, at_, o⟩ => by
    refine ⟨F, ρ, s, E, at_, (Out.bind (R := RepV G) o).mono ?_⟩
    rintro x H1 ⟨ρ1, s1, v1, g1, l1, x1, o1⟩
    refine ⟨F, ρ1, s1, E, at_.go g1 l1, (Out.bind (R := rI) o1).mono ?_⟩
    rintro y H2 ⟨ρ2, s2, v2, g2, l2, rfl, o2⟩
    refine ⟨F, ρ2, s2, E, (at_.go g1 l1).go g2 l2, (Out.bind (R := rI) o2).mono ?_⟩
    rintro y H3 ⟨ρ3, s3, v3, g3, l3, rfl, o3⟩
    exact ⟨F, ρ3, s3, _, v1, l3, l2.val g3 (l1.val g2 x1), o3⟩
/-- xs[::-1] -/
theorem se_rev {kk : Nat} {p1 p2 p3 : Pos} (ha : SE G W X ca a) : SE G W X (e1 pRev ca) (.Subscript a (.Slice none none (some (.UnaryOp .USub (.Constant (.int 1) kk p1) p2)) p3) pos) :=
  PE.imp (pe_revL ha) fun σ H Q ⟨F, ρ, s, E, at_, o⟩ => by
    refine ⟨F, ρ, s, E, at_, (Out.bind (R := RepV G) o).mono ?_⟩
    rintro x H1 ⟨ρ1, s1, v1, g1, l1, x1, o1⟩
    unfold pRev at o1
    split at o1
    · rename_i ds e
      obtain ⟨p, xs, rfl, hq, z, rr⟩ := peek_L l1 x1 e
      exact ⟨p, xs, rfl, .inl (.inl hq), Out.newL o1 l1 (by rw [List.length_reverse]; exact z) rr.reverse⟩
    · exact o1.elim
def pRevA (x : Val) (s : Store) : Res Val := (pRev x s).bind alloc
theorem se_revA {kk : Nat} {p1 p2 p3 : Pos} (ha : SE G W X ca a) : SE G W X (e1 pRevA ca) (.Subscript a (.Slice none none (some (.UnaryOp .USub (.Constant (.int 1) kk p1) p2)) p3) pos) :=
  PE.imp (pe_revL ha) fun σ H Q ⟨F, ρ, s, E, at_, o⟩ => by
    refine ⟨F, ρ, s, E, at_, (Out.bind (R := RepV G) o).mono ?_⟩
    rintro x H1 ⟨ρ1, s1, v1, g1, l1, x1, o1⟩
    unfold pRevA pRev at o1
    split at o1
    · rename_i ds e
      obtain ⟨p, xs, rfl, hq, z, rr⟩ := peek_L l1 x1 e
      exact ⟨p, xs, rfl, .inl (.inl hq), Out.newA o1 l1 (by rw [List.length_reverse]; exact z) rr.reverse⟩
    · exact o1.elim

/-! ### methods of lists -/
theorem isL_ty {F : Addr → Prop} {ρ : List Addr} {H : Hp} {s : Store} {v : Val} {x : V} {K : PySem.W.Frag} (l : Rel G F ρ s H) (h : RepV G ρ (Mu ρ s F) H v x) (e : isL v s = true) : tyV K "list" x H := by
  cases v with
  | d z => simp [isL] at e
  | exn _ _ => simp [isL] at e
  | loc n =>
    obtain ⟨a, ha, rfl⟩ := h
    simp only [isL] at e
    cases ho : s[n]? with
    | none => rw [ho] at e; cases e
    | some o =>
      rw [ho] at e
      have q := l.ob n o a ho ha
      cases o with
      | lst ds => obtain ⟨xs, hx, _⟩ := q; exact .inl ⟨rfl, xs, .inl (.inl hx)⟩
      | lv ds => obtain ⟨xs, hx, _⟩ := q; exact .inl ⟨rfl, xs, .inl (.inl hx)⟩
      | _ => cases e
abbrev MtP2 (G : Gd) (X : Cx) (id : String) (p : Val → Val → Store → Res Val) : Prop := MtR X id (fun x xs H Q => ∃ y, xs = [y] ∧ rP G p x y H Q)
abbrev MtP1 (G : Gd) (X : Cx) (id : String) (p : Val → Store → Res Val) : Prop := MtR X id (fun x xs H Q => xs = [] ∧ rP1 G p x H Q)
theorem live_of {s : Store} {n : Nat} {o : Obj} (h : s[n]? = some o) (d : o ≠ .dead) : live s n := ⟨o, h, d⟩
theorem mp_app : MtP2 G X "list.append" pApp := by
  intro pins s σ H x xs v us Q I rx rs ⟨y, e, F, ρ, st, Z, v1, v2, l, x1, x2, o⟩
  subst e
  unfold pApp at o
  cases v1 with
  | loc n =>
    obtain ⟨p, hp, rfl⟩ := x1
    simp only at o
    split at o
    · rename_i ds ho
      obtain ⟨xs, hx, z, rr⟩ := l.ob n _ p ho hp
      split at o
      · rename_i w
        by_cases hl : ds.length < line
        · rw [if_pos hl] at o
          have lv := live_of ho (by simp)
          refine mt_append pins s σ H _ _ v us Q I rx rs ⟨p, xs, y, rfl, rfl, hx, by rw [← rr.len, line_eq]; exact hl, ?_⟩
          refine o _ _ _ (go_set hp lv ⟨_, hx⟩) (l.set hp lv fun M' t => ⟨_, upd_same, by rw [List.length_append, List.length_singleton, line_eq]; exact hl, ?_⟩) (by simp [RepV, RepD])
          exact (RepDs.still t _ _ rr).append (by simp only [RepDs]; exact ⟨RepD.still t _ _ x2, trivial⟩)
        · rw [if_neg hl] at o; exact o.elim
      · exact o.elim
    · exact o.elim
  | _ => exact o.elim
theorem mp_pop : MtP1 G X "list.pop" pPop := by
  intro pins s σ H x xs v us Q I rx rs ⟨e, F, ρ, st, Z, v1, l, x1, o⟩
  subst e
  unfold pPop at o
  cases v1 with
  | loc n =>
    obtain ⟨p, hp, rfl⟩ := x1
    simp only at o
    split at o
    · rename_i ds ho
      obtain ⟨xs, hx, z, rr⟩ := l.ob n _ p ho hp
      split at o
      · rename_i w hw
        have lv := live_of ho (by simp)
        rw [List.getLast?_eq_getElem?] at hw
        obtain ⟨y, hy, ry⟩ := rr.get hw
        refine mt_pop pins s σ H _ _ v us Q I rx rs ⟨p, xs, y, rfl, rfl, hx, by rw [← rr.len]; exact hy, ?_⟩
        have g := go_set (s := st) (o := .lst ds.dropLast) (u := .lst xs.dropLast) hp lv ⟨_, hx⟩
        exact o _ _ _ g (l.set hp lv fun M' t => ⟨_, upd_same, by rw [List.length_dropLast]; omega, (RepDs.still t _ _ rr).dropLast⟩) (l.val g (show RepV G ρ (Mu ρ st F) H (.d w) y from ry))
      · exact o.elim
    · exact o.elim
  | _ => exact o.elim
theorem ixN_seq' {n : Nat} {i : Int} {j : Nat} (h : ixN n i = some j) : seqIndex? i n = some j ∧ j < n ∧ -(n : Int) ≤ i ∧ i < n := ixN_seq h
theorem mp_popAt : MtP2 G X "list.pop" pPopAt := by
  intro pins s σ H x xs v us Q I rx rs ⟨y, e, F, ρ, st, Z, v1, v2, l, x1, x2, o⟩
  subst e
  unfold pPopAt at o
  split at o
  · rename_i n i
    obtain ⟨p, hp, rfl⟩ := x1
    obtain rfl := int_of x2
    split at o
    · rename_i ds ho
      obtain ⟨xs, hx, z, rr⟩ := l.ob n _ p ho hp
      split at o
      · rename_i j hj
        split at o
        · rename_i w hw
          have lv := live_of ho (by simp)
          obtain ⟨y, hy, ry⟩ := rr.get hw
          obtain ⟨h1, h2, h3, h4⟩ := ixN_seq' hj
          have hz : ds.length ≤ 16777216 := by rw [sizeLine_eq] at z; exact z
          refine mt_popAt pins s σ H _ _ v us Q I rx rs ⟨p, xs, i, j, y, rfl, rfl, hx, by omega, by omega, by rw [← rr.len]; exact h1, hy, ?_⟩
          have g := go_set (s := st) (o := .lst (ds.eraseIdx j)) (u := .lst (xs.eraseIdx j)) hp lv ⟨_, hx⟩
          exact o _ _ _ g (l.set hp lv fun M' t => ⟨_, upd_same, by rw [List.length_eraseIdx]; split <;> omega, (RepDs.still t _ _ rr).eraseIdx j⟩) (l.val g (show RepV G ρ (Mu ρ st F) H (.d w) y from ry))
        · exact o.elim
      · exact o.elim
    · exact o.elim
  · exact o.elim
/-- x.m(y) -/
theorem se_m1 {name : Str} {id : String} {p : Val → Val → Store → Res Val} {apos : Pos} (slot : PySem.Slot "list" name id) (hty : typeOf (.builtin id) = pure (.type "method_descriptor")) (hm : MtP2 G X id p) (ha : SE G W X ca a) (hb : SE G W X cb b)
    (hbase : attributeBase a name X.env (eval a X.env) = eval a X.env := by rfl)
    (hfew : ((backTo pos (starEach [b] X.env)).all (fun x => !x.1) && (backToKw pos (keywordEach [] X.env)).all (fun x => x.1.isSome)
      && decide (([b] : List Expr).length + ([] : List Keyword).length + (if ([] : List Keyword).isEmpty then 0 else 1) < 30)) = true := by rfl)
    (hline : (apos.endLine == pos.line) = true := by rfl) (hs : starEach [b] X.env = (false, eval b X.env) :: starEach [] X.env := by rfl) :
    SE G W X (m1 p ca cb) (.Call (.Attribute a name apos) [b] [] pos) :=
  PE.imp (pe_bm PySem.F.plainAttrs_list slot hty hm ha (pa_cons hb pa_nil hs) hbase hfew hline hs rfl) fun σ H Q ⟨F, ρ, s, E, at_, o⟩ => by
    refine ⟨F, ρ, s, E, at_, (Out.bind (R := RepV G) o).mono ?_⟩
    rintro x H1 ⟨ρ1, s1, v1, g1, l1, x1, o1⟩
    by_cases c : isL v1 s1 = true
    · simp only [if_pos c] at o1
      refine ⟨isL_ty l1 x1 c, F, ρ1, s1, E, at_.go g1 l1, (Out.bind (R := RepV G) o1).mono ?_⟩
      rintro y H2 ⟨ρ2, s2, v2, g2, l2, x2, o2⟩
      exact ⟨y, rfl, F, ρ2, s2, _, v1, v2, l2, l1.val g2 x1, x2, o2⟩
    · simp only [if_neg c] at o1; exact o1.elim
/-- x.m() -/
def m0 (p : Val → Store → Res Val) (a : EC) : EC := fun E s => (a E s).bind fun x s => if isL x s then p x s else .fail
theorem se_m0 {name : Str} {id : String} {p : Val → Store → Res Val} {apos : Pos} (slot : PySem.Slot "list" name id) (hty : typeOf (.builtin id) = pure (.type "method_descriptor")) (hm : MtP1 G X id p) (ha : SE G W X ca a)
    (hbase : attributeBase a name X.env (eval a X.env) = eval a X.env := by rfl) (hline : (apos.endLine == pos.line) = true := by rfl) : SE G W X (m0 p ca) (.Call (.Attribute a name apos) [] [] pos) :=
  PE.imp (pe_bm0 PySem.F.plainAttrs_list slot hty hm ha hbase hline) fun σ H Q ⟨F, ρ, s, E, at_, o⟩ => by
    refine ⟨F, ρ, s, E, at_, (Out.bind (R := RepV G) o).mono ?_⟩
    rintro x H1 ⟨ρ1, s1, v1, g1, l1, x1, o1⟩
    by_cases c : isL v1 s1 = true
    · simp only [if_pos c] at o1
      exact ⟨isL_ty l1 x1 c, rfl, F, ρ1, s1, _, v1, l1, x1, o1⟩
    · simp only [if_neg c] at o1; exact o1.elim

/-! ### list(range(..)) -/
theorem reps_rng {K : PySem.W.Frag} {M : Addr → Prop} {H : Hp} (lo hi : Int) : RepDs K M H (rng lo hi) (rgV lo hi) := by
  unfold rng rgV
  generalize List.range (hi - lo).toNat = l
  induction l with
  | nil => simp [RepDs]
  | cons x l ih => simp only [List.map_cons, RepDs, RepD]; exact ⟨trivial, ih⟩
theorem rng_len (lo hi : Int) : (rng lo hi).length = (hi - lo).toNat := by simp [rng]
theorem small_iff {i : Int} : small i = true ↔ -(2 ^ 62) ≤ i ∧ i < 2 ^ 62 := by simp [small]
theorem se_lrng1 {p1 p2 : Pos} (hc : X.calm = true) (hm : X.mg "list" = none) (hm2 : X.mg "range" = none) (ha : SE G W X ca a) (hg : Gl X "list" := by rfl) (hg2 : Gl X "range" := by rfl)
    (hs : starEach [a] X.env = (false, eval a X.env) :: starEach [] X.env := by rfl) (hs2 : starEach [.Call (.Name "range" p1) [a] [] p2] X.env = (false, eval (.Call (.Name "range" p1) [a] [] p2) X.env) :: starEach [] X.env := by rfl) :
    SE G W X (e1 pLRng1 ca) (.Call (.Name "list" pp) [.Call (.Name "range" p1) [a] [] p2] [] pos) :=
  PE.imp (pe_listRg hc hg hm (prg_1 hg2 hm2 ha hs) hs2) fun σ H Q ⟨F, ρ, s, E, at_, o⟩ => by
    refine ⟨F, ρ, s, E, at_, (Out.bind (R := RepV G) o).mono ?_⟩
    rintro x H1 ⟨ρ1, s1, v1, g1, l1, x1, o1⟩
    unfold pLRng1 at o1
    split at o1
    · rename_i j
      by_cases c : (small j && decide (j.toNat ≤ line)) = true
      · rw [if_pos c] at o1
        simp only [Bool.and_eq_true, small_iff, decide_eq_true_eq] at c
        refine ⟨j, int_of x1, ⟨by omega, by omega, c.1.1, c.1.2, by simp only [line] at c; omega⟩, Out.newL o1 l1 (by rw [rng_len, line_eq]; simp only [line] at c ⊢; omega) (reps_rng _ _)⟩
      · rw [if_neg c] at o1; exact o1.elim
    · exact o1.elim
theorem se_lrng2 {p1 p2 : Pos} (hc : X.calm = true) (hm : X.mg "list" = none) (hm2 : X.mg "range" = none) (ha : SE G W X ca a) (hb : SE G W X cb b) (hg : Gl X "list" := by rfl) (hg2 : Gl X "range" := by rfl)
    (hs : starEach [a, b] X.env = (false, eval a X.env) :: starEach [b] X.env := by rfl) (hs3 : starEach [b] X.env = (false, eval b X.env) :: starEach [] X.env := by rfl) (hpl : (backTo p2 (starEach [b] X.env)).any (·.1) = false := by rfl)
    (hs2 : starEach [.Call (.Name "range" p1) [a, b] [] p2] X.env = (false, eval (.Call (.Name "range" p1) [a, b] [] p2) X.env) :: starEach [] X.env := by rfl) :
    SE G W X (e2 pLRng2 ca cb) (.Call (.Name "list" pp) [.Call (.Name "range" p1) [a, b] [] p2] [] pos) :=
  PE.imp (pe_listRg hc hg hm (prg_2 hg2 hm2 ha hb hs hs3 hpl) hs2) fun σ H Q ⟨F, ρ, s, E, at_, o⟩ => by
    refine ⟨F, ρ, s, E, at_, (Out.bind (R := RepV G) o).mono ?_⟩
    rintro x H1 ⟨ρ1, s1, v1, g1, l1, x1, o1⟩
    refine ⟨F, ρ1, s1, E, at_.go g1 l1, (Out.bind (R := RepV G) o1).mono ?_⟩
    rintro y H2 ⟨ρ2, s2, v2, g2, l2, x2, o2⟩
    unfold pLRng2 at o2
    split at o2
    · rename_i i j
      by_cases c : (small i && small j && decide ((j - i).toNat ≤ line)) = true
      · rw [if_pos c] at o2
        simp only [Bool.and_eq_true, small_iff, decide_eq_true_eq] at c
        exact ⟨i, j, int_of x1, int_of x2, ⟨c.1.1.1, c.1.1.2, c.1.2.1, c.1.2.2, by simp only [line] at c; omega⟩, Out.newL o2 l2 (by rw [rng_len, line_eq]; exact c.2) (reps_rng _ _)⟩
      · rw [if_neg c] at o2; exact o2.elim
    · exact o2.elim
end
end Ev
end
section
set_option Elab.async false
set_option linter.all false
set_option autoImplicit false
set_option maxRecDepth 100000
set_option maxHeartbeats 4000000
/-! What is walked, comprehensions, dict displays, statements, loops. -/
namespace Ev
open PySem L2

section
variable {G : Gd} {F F' : Addr → Prop} {ρ ρ' : List Addr} {s s' : Store} {H H' : Hp}
/-! ### what may not be changed, for a while -/
theorem still_sub {M M' : Addr → Prop} (h : ∀ a, M' a → M a) : Still M H M' H := ⟨fun a o e n => ⟨e, fun z => n (h a z)⟩, fun _ _ e => e, fun _ _ _ e => e, fun _ _ e => e⟩
theorem mu_sub (h : ∀ a, F a → F' a) : ∀ a, Mu ρ s F a → Mu ρ s F' a := fun a q => q.elim (fun z => .inl (h a z)) .inr
theorem Rel.sub (r : Rel G F' ρ s H) (h : ∀ a, F a → F' a) : Rel G F ρ s H :=
  ⟨r.len, r.nd, fun n a e l q => r.nf n a e l (h a q), r.tr, fun a q => r.ft a (h a q), fun n o a h1 h2 => RepO.still (still_sub (mu_sub h)) (fun _ _ e => e) (fun _ e => e) o (r.ob n o a h1 h2)⟩
abbrev FP (F : Addr → Prop) (p : Addr) : Addr → Prop := fun a => F a ∨ a = p
theorem Rel.guard (r : Rel G F ρ s H) {p : Addr} {o : HO} (n : H p = none) : Rel G (FP F p) ρ s (upd H p o) := by
  have r' := r.new (o := o) n
  have t : Still (Mu ρ s F) H (Mu ρ s (FP F p)) (upd H p o) := ⟨fun a u e z => ⟨by rw [upd_ne (ne_of_none e n)]; exact e, fun q => by
      rcases q with (q | q) | q
      · exact z (.inl q)
      · rw [q, n] at e; cases e
      · exact z (.inr q)⟩,
    fun a xs e => by rw [upd_ne (ne_of_none e n)]; exact e, fun a xs u e => by rw [upd_ne (ne_of_none e n)]; exact e, fun a xs e => by rw [upd_ne (ne_of_none e n)]; exact e⟩
  refine ⟨r'.len, r'.nd, fun m a e l q => ?_, r'.tr, fun a q => ?_, fun m u a h1 h2 => ?_⟩
  · rcases q with q | q
    · exact r'.nf m a e l q
    · subst q
      obtain ⟨w, hw⟩ := r.tr m _ e; rw [n] at hw; cases hw
  · rcases q with q | q
    · exact r'.ft a q
    · exact ⟨o, by rw [q]; exact upd_same⟩
  · refine RepO.still t (fun _ _ e => e) (fun w e => ?_) u (r.ob m u a h1 h2)
    rw [upd_ne (ne_of_none e n)]; exact e
theorem guard_still (r : Rel G F ρ s H) {p : Addr} {o : HO} (n : H p = none) : Still (Mu ρ s F) H (Mu ρ s (FP F p)) (upd H p o) :=
  ⟨fun a u e z => ⟨by rw [upd_ne (ne_of_none e n)]; exact e, fun q => by
      rcases q with (q | q) | q
      · exact z (.inl q)
      · rw [q, n] at e; cases e
      · exact z (.inr q)⟩,
    fun a xs e => by rw [upd_ne (ne_of_none e n)]; exact e, fun a xs u e => by rw [upd_ne (ne_of_none e n)]; exact e, fun a xs e => by rw [upd_ne (ne_of_none e n)]; exact e⟩
theorem At.guard {E : Env} {σ : St} (a : At G F ρ s H E σ) {p : Addr} {o : HO} (n : H p = none) : At G (FP F p) ρ s (upd H p o) E σ := by
  have t : Still (Mu ρ s F) H (Mu ρ s (FP F p)) (upd H p o) := ⟨fun a u e z => ⟨by rw [upd_ne (ne_of_none e n)]; exact e, fun q => by
      rcases q with (q | q) | q
      · exact z (.inl q)
      · rw [q, n] at e; cases e
      · exact z (.inr q)⟩,
    fun a xs e => by rw [upd_ne (ne_of_none e n)]; exact e, fun a xs u e => by rw [upd_ne (ne_of_none e n)]; exact e, fun a xs e => by rw [upd_ne (ne_of_none e n)]; exact e⟩
  exact ⟨a.rel.guard n, a.env.still t fun _ _ e => e⟩
theorem RepV.sub {M M' : Addr → Prop} (h : ∀ a, M' a → M a) {v : Val} {x : V} (r : RepV G ρ M H v x) : RepV G ρ M' H v x := RepV.still (still_sub h) (fun _ _ e => e) v x r
theorem RepVs.sub {M M' : Addr → Prop} (h : ∀ a, M' a → M a) {v : List Val} {x : List V} (r : RepVs G ρ M H v x) : RepVs G ρ M' H v x := RepVs.still (still_sub h) (fun _ _ e => e) v x r
theorem ErrOk.sub {Z : Value → Option Addr → Hp → Prop} {c : Nat} {fs : List (Str × D)} (h : ∀ a, F a → F' a) (o : ErrOk G F ρ s H c fs s' Z) : ErrOk G F' ρ s H c fs s' Z :=
  fun ρ' H' d xs g r e q => o ρ' H' d xs g (r.sub h) e fun f z hz => let ⟨y, h1, h2⟩ := q f z hz; ⟨y, h1, RepD.still (still_sub (mu_sub h)) z y h2⟩
theorem Out.subV {Z : Value → Option Addr → Hp → Prop} {r : Res Val} {Q : VK} (h : ∀ a, F a → F' a) (o : Out G F ρ s H Z (RepV G) r Q) : Out G F' ρ s H Z (RepV G) r Q := by
  cases r with
  | ok a s' => exact fun b ρ' H' g l x => o b ρ' H' g (l.sub h) (x.sub (mu_sub h))
  | exc c fs s' => exact ErrOk.sub h o
  | fail => exact o
theorem Out.subB {Z : Value → Option Addr → Hp → Prop} {r : Res Bool} {Q : Bool → Hp → Prop} (h : ∀ a, F a → F' a) (o : Out G F ρ s H Z rB r Q) : Out G F' ρ s H Z rB r Q := by
  cases r with
  | ok a s' => exact fun b ρ' H' g l x => o b ρ' H' g (l.sub h) x
  | exc c fs s' => exact ErrOk.sub h o
  | fail => exact o
/-- what p holds goes into the store -/
theorem go_adopt {H0 : Hp} {p : Addr} {u u0 : HO} {o : Obj} {ρ0 : List Addr} {s0 : Store} (n : H0 p = none) (l0 : ρ0.length = s0.length) (l : ρ.length = s.length) (g : Go ρ0 s0 (upd H0 p u0) ρ s H) : Go ρ0 s0 H0 (ρ ++ [p]) (s ++ [o]) (upd H p u) := by
  obtain ⟨m, e, hm⟩ := g.pre
  refine ⟨⟨m ++ [p], by rw [e, List.append_assoc], fun a ha => ?_⟩, fun k hk h => ?_, fun a w h hl => ?_, fun a w h => ?_⟩
  · rcases List.mem_append.mp ha with h | h
    · have q := hm a h
      by_cases c : a = p
      · rw [c] at q; rw [upd_same] at q; cases q
      · rwa [upd_ne c] at q
    · rw [List.mem_singleton.mp h]; exact n
  · refine g.liv k hk ((live_push ?_).mp h)
    have : ρ0.length ≤ ρ.length := by rw [e, List.length_append]; omega
    omega
  · have ne := ne_of_none h n
    rw [upd_ne ne]
    exact g.keep a w (by rw [upd_ne ne]; exact h) hl
  · have ne := ne_of_none h n
    obtain ⟨w', h'⟩ := g.there a w (by rw [upd_ne ne]; exact h)
    exact ⟨w', by rw [upd_ne ne]; exact h'⟩
theorem go_under {H0 : Hp} {p : Addr} {u u0 : HO} {ρ0 : List Addr} {s0 : Store} (n : H0 p = none) (g : Go ρ0 s0 (upd H0 p u0) ρ s H) : Go ρ0 s0 H0 ρ s (upd H p u) := by
  obtain ⟨m, e, hm⟩ := g.pre
  refine ⟨⟨m, e, fun a ha => ?_⟩, g.liv, fun a w h hl => ?_, fun a w h => ?_⟩
  · have q := hm a ha
    by_cases c : a = p
    · rw [c] at q; rw [upd_same] at q; cases q
    · rwa [upd_ne c] at q
  · have ne := ne_of_none h n
    rw [upd_ne ne]
    exact g.keep a w (by rw [upd_ne ne]; exact h) hl
  · have ne := ne_of_none h n
    obtain ⟨w', h'⟩ := g.there a w (by rw [upd_ne ne]; exact h)
    exact ⟨w', by rw [upd_ne ne]; exact h'⟩
theorem go_hold {H0 : Hp} {p : Addr} {u0 : HO} {ρ0 : List Addr} {s0 : Store} (n : H0 p = none) (g : Go ρ0 s0 (upd H0 p u0) ρ s H) : Go ρ0 s0 H0 ρ s H := by
  obtain ⟨m, e, hm⟩ := g.pre
  refine ⟨⟨m, e, fun a ha => ?_⟩, g.liv, fun a w h hl => ?_, fun a w h => ?_⟩
  · have q := hm a ha
    by_cases c : a = p
    · rw [c] at q; rw [upd_same] at q; cases q
    · rwa [upd_ne c] at q
  · exact g.keep a w (by rw [upd_ne (ne_of_none h n)]; exact h) hl
  · exact g.there a w (by rw [upd_ne (ne_of_none h n)]; exact h)
/-- .. its content does not matter to anybody -/
theorem still_pen {p : Addr} {u : HO} (nt : ∀ xs, H p ≠ some (.tup xs)) (nf : ∀ o v, H p ≠ some (.frz o v)) (nx : ∀ xs, H p ≠ some (.xd xs)) : Still (Mu ρ s (FP F p)) H (Mu ρ s (FP F p)) (upd H p u) :=
  ⟨fun a o e n => ⟨by rw [upd_ne (fun q => n (.inl (.inr q)))]; exact e, n⟩,
   fun a xs e => by rw [upd_ne (show a ≠ p from fun q => nt xs (by rw [← q]; exact e))]; exact e, fun a o v e => by rw [upd_ne (show a ≠ p from fun q => nf o v (by rw [← q]; exact e))]; exact e, fun a xs e => by rw [upd_ne (show a ≠ p from fun q => nx xs (by rw [← q]; exact e))]; exact e⟩
theorem rel_pen {p : Addr} {u : HO} (r : Rel G (FP F p) ρ s H) (nt : ∀ xs, H p ≠ some (.tup xs)) (nf : ∀ o v, H p ≠ some (.frz o v)) (nx : ∀ xs, H p ≠ some (.xd xs)) : Rel G (FP F p) ρ s (upd H p u) := by
  have t := still_pen (ρ := ρ) (s := s) (F := F) (u := u) nt nf nx
  have th : ∀ a w, H a = some w → ∃ w', upd H p u a = some w' := fun a w e => by
    by_cases c : a = p
    · exact ⟨u, by rw [c, upd_same]⟩
    · exact ⟨w, by rw [upd_ne c]; exact e⟩
  refine ⟨r.len, r.nd, r.nf, fun n a e => ?_, fun a q => ?_, fun n o a h1 h2 => ?_⟩
  · obtain ⟨w, hw⟩ := r.tr n a e; exact th a w hw
  · obtain ⟨w, hw⟩ := r.ft a q; exact th a w hw
  · by_cases d : o = .dead
    · subst d; trivial
    · have lv : live s n := ⟨o, h1, d⟩
      refine RepO.still t (fun _ _ e => e) (fun w e => ?_) o (r.ob n o a h1 h2)
      rw [upd_ne (fun q => r.nf n a h2 lv (.inr q))]; exact e
theorem At.pen {E : Env} {σ : St} {p : Addr} {u : HO} (a : At G (FP F p) ρ s H E σ) (nt : ∀ xs, H p ≠ some (.tup xs)) (nf : ∀ o v, H p ≠ some (.frz o v)) (nx : ∀ xs, H p ≠ some (.xd xs)) : At G (FP F p) ρ s (upd H p u) E σ :=
  ⟨rel_pen a.rel nt nf nx, a.env.still (still_pen nt nf nx) fun _ _ e => e⟩
/-- the guarded thing becomes a place of the store -/
theorem Rel.adopt {p : Addr} {u : HO} {o : Obj} (r : Rel G (FP F p) ρ s H) (hp : p ∉ ρ) (nF : ¬ F p) (nt : ∀ xs, H p ≠ some (.tup xs)) (nf : ∀ o v, H p ≠ some (.frz o v)) (nx : ∀ xs, H p ≠ some (.xd xs))
    (ho : ∀ M', Still (Mu ρ s (FP F p)) H M' (upd H p u) → RepO G (ρ ++ [p]) M' (upd H p u) p o) : Rel G F (ρ ++ [p]) (s ++ [o]) (upd H p u) := by
  have r1 := rel_pen (u := u) r nt nf nx
  have pre : ∀ (n : Nat) a, ρ[n]? = some a → (ρ ++ [p])[n]? = some a := fun n a h => by rw [List.getElem?_append_left (List.getElem?_eq_some_iff.mp h).1]; exact h
  have sub : ∀ a, Mu (ρ ++ [p]) (s ++ [o]) F a → Mu ρ s (FP F p) a := fun a q => by
    rcases q with q | ⟨n, hn, hl⟩
    · exact .inl (.inl q)
    · by_cases c : n < ρ.length
      · rw [List.getElem?_append_left c] at hn
        exact .inr ⟨n, hn, (live_push (by rw [← r.len]; exact c)).mp hl⟩
      · rw [List.getElem?_append_right (by omega)] at hn
        have := List.mem_of_getElem? hn
        rw [List.mem_singleton] at this
        exact .inl (.inr this)
  refine ⟨by simp [r.len], ?_, fun n a h l q => ?_, fun n a h => ?_, fun a q => r1.ft a (.inl q), fun n v a h1 h2 => ?_⟩
  · rw [List.nodup_append]
    exact ⟨r.nd, by simp, fun a ha b hb => by rw [List.mem_singleton.mp hb]; intro e; subst e; exact hp ha⟩
  · by_cases c : n < ρ.length
    · rw [List.getElem?_append_left c] at h
      exact r.nf n a h ((live_push (by rw [← r.len]; exact c)).mp l) (.inl q)
    · rw [List.getElem?_append_right (by omega)] at h
      have := List.mem_of_getElem? h
      rw [List.mem_singleton] at this; subst this
      exact nF q
  · by_cases c : n < ρ.length
    · rw [List.getElem?_append_left c] at h
      exact r1.tr n a h
    · rw [List.getElem?_append_right (by omega)] at h
      have := List.mem_of_getElem? h
      rw [List.mem_singleton] at this; subst this
      exact ⟨u, upd_same⟩
  · by_cases c : n < ρ.length
    · rw [List.getElem?_append_left c] at h2
      rw [List.getElem?_append_left (by rw [← r.len]; exact c)] at h1
      exact RepO.still (still_sub sub) pre (fun _ e => e) v (r1.ob n v a h1 h2)
    · have hl := r.len
      have e : n = ρ.length := by have := (List.getElem?_eq_some_iff.mp h2).1; simp at this; omega
      subst e
      rw [List.getElem?_append_right (by omega)] at h2
      rw [List.getElem?_append_right (by omega)] at h1
      have q := List.mem_of_getElem? h2
      rw [List.mem_singleton] at q; subst q
      have q := List.mem_of_getElem? h1
      rw [List.mem_singleton] at q; subst q
      refine ho _ ?_
      have t := still_pen (ρ := ρ) (s := s) (F := F) (u := u) nt nf nx
      exact ⟨fun a w e n => let ⟨e', n'⟩ := t.fz a w e n; ⟨e', fun z => n' (sub a z)⟩, t.tp, t.lk, t.xd⟩
end

section
variable {G : Gd} {X : Cx} {W : WX} {a b c : Expr} {ca cb cc : EC} {pos pp : Pos}
/-! ### {k: v, ..}, to be changed: keys are texts -/
def mergeV : List (Key × Val) → List (Key × Val) → List (Key × Val)
  | kvs, [] => kvs
  | kvs, p :: r => mergeV (putK kvs p.1 p.2) r
def dctA (keys : List Str) (r : AC) : EC := fun E s => (r E s).bind fun xs s => if xs.length = keys.length ∧ keys.length ≤ 15 then .ok (.loc s.length) (s ++ [.dct (mergeV [] ((keys.map Sum.inr).zip xs))]) else .fail
theorem RepF.merge {ρ : List Addr} {M : Addr → Prop} {H : Hp} : ∀ {ps : List (Key × Val)} {qs : List (Key × V)} {ds : List (Key × Val)} {xs : List (Key × V)}, RepF G ρ M H ps qs → RepF G ρ M H ds xs → RepF G ρ M H (mergeV ds ps) (mergeK xs qs)
  | [], [], _, _, _, h => h
  | p :: ps, q :: qs, _, _, h, h' => by
    show RepF G ρ M H (mergeV (putK _ p.1 p.2) ps) (mergeK (L2.putK _ q.1 q.2) qs)
    refine RepF.merge h.2 ?_
    rw [← h.1.1]
    exact RepF.put p.1 h.1.2 h'
  | [], _ :: _, _, _, h, _ => h.elim
  | _ :: _, [], _, _, h, _ => h.elim
theorem RepF.zip {ρ : List Addr} {M : Addr → Prop} {H : Hp} : ∀ {ks : List Key} {vs : List Val} {xs : List V}, RepVs G ρ M H vs xs → RepF G ρ M H (ks.zip vs) (ks.zip xs)
  | [], _, _, _ => by simp [RepF]
  | _ :: _, [], [], _ => by simp [RepF]
  | _ :: _, _ :: _, _ :: _, h => ⟨⟨rfl, h.1⟩, RepF.zip h.2⟩
  | _ :: _, [], _ :: _, h => h.elim
  | _ :: _, _ :: _, [], h => h.elim
theorem mergeV_len : ∀ (ps ds : List (Key × Val)), (mergeV ds ps).length ≤ ds.length + ps.length
  | [], _ => by simp [mergeV]
  | p :: ps, ds => by
    have h := mergeV_len ps (putK ds p.1 p.2)
    have : (putK ds p.1 p.2).length ≤ ds.length + 1 := by unfold putK; split <;> simp
    simp only [mergeV, List.length_cons]; omega
/-- the trees of a display's pairs: constants, values -/
def trsOf (G : Gd) (W : WX) : List Str → List EC → List (TE × TE)
  | k :: ks, c :: cs => (tC (.str k), tE G W c) :: trsOf G W ks cs
  | _, _ => []
def acs : List EC → AC
  | [] => a0
  | c :: cs => ac c (acs cs)
theorem pairs_to {F : Addr → Prop} {σ : St} {E : Env} : ∀ (ks : List Str) (cs : List EC) {ρ : List Addr} {s : Store} {H : Hp} {Q : List (V × V) → Hp → Prop}, ks.length = cs.length → At G F ρ s H E σ →
    Out G F ρ s H (fun C d H' => W C d σ H') (RepVs G) (acs cs E s) (fun xs H' => Q ((ks.map V.str).zip xs) H') → tPairs (trsOf G W ks cs) σ H Q
  | [], [], ρ, s, H, Q, _, at_, o => Out.ret (R := RepVs G) (b := []) o at_.rel trivial
  | k :: ks, c :: cs, ρ, s, H, Q, hl, at_, o => by
    refine ⟨F, ρ, s, E, at_, (Out.bind (R := RepV G) o).mono ?_⟩
    rintro x H1 ⟨ρ1, s1, v1, g1, l1, x1, o1⟩
    refine pairs_to ks cs (by simpa using hl) (at_.go g1 l1) ((Out.bind (R := RepVs G) o1).mono ?_)
    rintro y H2 ⟨ρ2, s2, v2, g2, l2, x2, o2⟩
    exact Out.ret (R := RepVs G) (b := x :: y) o2 l2 ⟨l1.val g2 x1, x2⟩
  | [], _ :: _, _, _, _, _, h, _, _ => by simp at h
  | _ :: _, [], _, _, _, _, h, _, _ => by simp at h
theorem zipstr : ∀ (ks : List Str) (xs : List V), xs.length = ks.length → (ks.map V.str).zip xs = ((ks.map (Sum.inr : Str → Key)).zip xs).map fun kv => (kV kv.1, kv.2)
  | [], _, _ => by simp
  | _ :: _, [], h => by simp at h
  | k :: ks, x :: xs, h => by simp only [List.map_cons, List.zip_cons_cons]; rw [zipstr ks xs (by simpa using h)]; rfl
theorem se_dctA {ks : List Str} {cs : List EC} {keys : List (Option Expr)} {values : List Expr} (h : PPs X pos keys values (trsOf G W ks cs)) (hk : ks.length = cs.length) (hall : keys.all (·.isSome) = true := by rfl) (hl : keys.length = values.length := by rfl) (h0 : keys ≠ [] := by simp)
    (h15 : keys.length ≤ 15 := by decide) : SE G W X (dctA ks (acs cs)) (.Dict keys values pos) :=
  PE.imp (pe_disp h hall hl h0 h15) fun σ H Q ⟨F, ρ, s, E, at_, o⟩ => by
    intro p n
    have atG := at_.guard (p := p) (o := .dK []) n
    refine pairs_to (F := FP F p) ks cs hk atG ?_
    -- the values
    cases hr : acs cs E s with
    | fail => simp only [dctA, hr, Res.bind_fail] at o; exact o.elim
    | exc c fs s' =>
      simp only [dctA, hr, Res.bind_exc] at o
      intro ρ' H' d xs g l e q
      exact o ρ' H' d xs (go_hold n g) (l.sub fun _ z => .inl z) e fun f z hz => let ⟨y, h1, h2⟩ := q f z hz; ⟨y, h1, RepD.still (still_sub (mu_sub fun _ z => .inl z)) z y h2⟩
    | ok vs s' =>
      simp only [dctA, hr, Res.bind_ok] at o
      intro xs ρ' H' g l x
      split at o
      · rename_i c
        obtain ⟨c1, c2⟩ := c
        have hpn : p ∉ ρ' := fun hm => by
          obtain ⟨m, e, hm'⟩ := g.pre
          rw [e] at hm
          rcases List.mem_append.mp hm with q | q
          · exact at_.rel.nin n q
          · have := hm' p q; rw [upd_same] at this; cases this
        have hpd : H' p = some (.dK []) := g.keep p _ upd_same fun m hm _ => by
          have := List.mem_of_getElem? hm
          exact at_.rel.nin n this
        have el : xs.length = ks.length := by rw [← x.len, c1]
        refine ⟨hpd, (ks.map Sum.inr).zip xs, ?_, by rw [List.length_zip, List.length_map]; omega, ?_⟩
        · exact zipstr _ _ el
        · have nF : ¬ F p := fun q => by obtain ⟨w, hw⟩ := at_.rel.ft p q; rw [n] at hw; cases hw
          have l' : Rel G F (ρ' ++ [p]) (s' ++ [.dct (mergeV [] ((ks.map Sum.inr).zip vs))]) (upd H' p (.dK (mergeK [] ((ks.map Sum.inr).zip xs)))) :=
            l.adopt hpn nF (by rw [hpd]; simp) (by rw [hpd]; simp) (by rw [hpd]; simp) fun M' t => by
              refine ⟨_, upd_same, ?_, ?_⟩
              · have q := mergeV_len ((ks.map Sum.inr).zip vs) []
                have q2 : ((ks.map (Sum.inr : Str → Key)).zip vs).length ≤ ks.length := by rw [List.length_zip, List.length_map]; omega
                rw [sizeLine_eq]; simp only [List.length_nil] at q; omega
              · refine RepF.merge (RepF.zip (RepVs.still t (fun k b h => ?_) _ _ x)) trivial
                rw [List.getElem?_append_left (List.getElem?_eq_some_iff.mp h).1]; exact h
          refine o _ _ _ (go_adopt n at_.rel.len l.len g) l' ⟨p, ?_, rfl⟩
          rw [List.getElem?_append_right (by rw [l.len]; exact Nat.le_refl _), l.len]; simp
      · exact o.elim
theorem pp_nil : PPs X pos [] [] (trsOf G W [] []) := pps_nil
theorem pp_cons {kx : Str} {j : Nat} {p1 : Pos} {v : Expr} {ks : List (Option Expr)} {vs : List Expr} {cv : EC} {kk : List Str} {cs : List EC} (hv : SE G W X cv v) (hr : PPs X pos ks vs (trsOf G W kk cs)) :
    PPs X pos (some (.Constant (.str kx) j p1) :: ks) (v :: vs) (trsOf G W (kx :: kk) (cv :: cs)) := pps_cons pe_str hv hr
/-- {} as data, {} to be changed -/
theorem se_dct0 : SE G W X (k (.dct [])) (.Dict [] [] pos) := PE.imp pe_dnewK fun σ H Q ⟨F, ρ, s, E, at_, o⟩ => by
  intro p n
  exact o _ _ _ (go_new n) (at_.rel.new n) (by simp only [RepV, RepD]; exact ⟨p, [], rfl, at_.rel.free n, upd_same, Nat.zero_le _, by simp [RepKs]⟩)
def dctA0 : EC := fun _ s => .ok (.loc s.length) (s ++ [.dct []])
theorem se_dctA0 : SE G W X dctA0 (.Dict [] [] pos) := PE.imp pe_dnewK fun σ H Q ⟨F, ρ, s, E, at_, o⟩ => by
  intro p n
  refine o _ _ _ (go_push at_.rel.len n) (at_.rel.push n fun M' t => ⟨[], upd_same, Nat.zero_le _, trivial⟩) ⟨p, ?_, rfl⟩
  rw [List.getElem?_append_right (by rw [at_.rel.len]; exact Nat.le_refl _), at_.rel.len]; simp
end
end Ev
end
section
set_option Elab.async false
set_option linter.all false
set_option autoImplicit false
set_option maxRecDepth 100000
set_option maxHeartbeats 4000000
/-! What is walked. -/
namespace PySem
open Sem (wp)
open AutoSeq1 (wpAny_loadPart')
set_option maxHeartbeats 4000000 in
/-- enumerate(v), v anything that begins -/
theorem meets_enum_new1 {v : Value} {o : Obj} {H : Heap → Prop} (B : Begins v o H) :
    Meets (Builtin.«enumerate.__new__» ⟨[.type "enumerate", v], []⟩) (fun _ R s => H s.heap ∧
      R (.ok (.ret (.ref (s.heap.push o).objs.size))) { s with heap := (s.heap.push o).push { cls := .type "enumerate", data := .fields #[.none, .bool false, .ref s.heap.objs.size, rawInt 0, .none, .none] } }) :=
  .of_wp fun prog w A R s h => by
    obtain ⟨hp, g, d, tk, os⟩ := s; obtain ⟨h1, h⟩ := h
    have hsub := sub_enumerate
    have q1 : ∀ {A' : Around} {E : Value → Shared → Prop} {Q : Value → Shared → Prop}, Q (.ref hp.objs.size) ⟨hp.push o, g, d, tk, os⟩ → wpAny (model prog w) A' (pyIter v) Q E ⟨hp, g, d, tk, os⟩ :=
      fun q => B.iter prog w _ _ ⟨hp, g, d, tk, os⟩ _ h1 q
    wp_walk using q1
    refine wpAny_stack_any fun st => wpAny_pure ?_
    split
    · rename_i c _ _ _ _ _
      cases (c == Value.type "enumerate")
      · wp_walk using q1
        exact ⟨_, rfl, h⟩
      · wp_walk using q1
        exact ⟨_, rfl, h⟩
    · wp_walk using q1
      exact ⟨_, rfl, h⟩
theorem enum_begin1 {prog : Program} {w : World} {A : Around} {E : Value → Shared → Prop} {s : Shared} {v : Value} {o : Obj} {H : Heap → Prop} {Q : Value → Shared → Prop} (B : Begins v o H) (h1 : H s.heap)
    (h : ∀ h', IsEnum h' (s.heap.objs.size + 1) s.heap.objs.size 0 .none → h'.get? s.heap.objs.size = some o → h'.objs.size = s.heap.objs.size + 2 →
      (∀ b o, s.heap.get? b = some o → h'.get? b = some o) → Q (.ref (s.heap.objs.size + 1)) { s with heap := h' }) :
    wpAny (model prog w) A (call (.type "enumerate") [v]) Q E s := by
  refine callType_new F.called_enumerate (by decide) (F.typeCall_enumerate_1 _) (F.newCall_enumerate_1 _) (fun obj => F.args_object_init_2 obj _) F.entry_enumerate_new
    (meets_enum_new1 B) ⟨h1, ?_⟩
  have hz : (s.heap.push o).objs.size = s.heap.objs.size + 1 := Heap.size_push ..
  show _ ∧ _
  rw [hz]
  have he : IsEnum ((s.heap.push o).push { cls := .type "enumerate", data := .fields #[.none, .bool false, .ref s.heap.objs.size, rawInt 0, .none, .none] }) (s.heap.objs.size + 1) s.heap.objs.size 0 .none := by
    have := Heap.get?_push_size (s.heap.push o) (o := { cls := .type "enumerate", data := .fields #[.none, .bool false, .ref s.heap.objs.size, rawInt 0, .none, .none] }) rfl
    rw [hz] at this; exact this
  refine ⟨⟨_, he, rfl⟩, h _ he (Heap.get?_push_of_some _ (Heap.get?_push_size _ B.free)) (by rw [Heap.size_push, hz]) fun b o x => Heap.get?_push_of_some _ (Heap.get?_push_of_some _ x)⟩
theorem enumT_end {prog : Program} {w : World} {A : Around} {E : Value → Shared → Prop} {s : Shared} {e it t : Addr} {i : Nat} {items : Array Value} {old : Value} {Q : Option Value → Shared → Prop} (hh : A.handled = none)
    (he : IsEnum s.heap e it i old) (hit : s.heap.IsTupleIter it t i) (hl : s.heap.IsTuple t items) (hx : items[i]? = none)
    (hQ : ∀ h', Heap.ExtBut it s.heap h' → Q none { s with heap := h' }) : wpAny (model prog w) A (pyNext (.ref e)) Q E s := by
  have hT : s.TypeIs (.ref e) "enumerate" := ⟨_, he, rfl⟩
  unfold pyNext
  refine wpAny_bind (wpAny_attempt (wpAny_callSpecial?_slot (name := Str.ofString "__next__") hT F.slot_enumerate_next
    (wpAny_call_entry F.slot_enumerate_next hT F.entry_enumerate_next ?_ (F.args_enumerate_next_1 _))))
  show wpAny _ _ (field (.ref e) 2 >>= _) _ _ _
  refine wpAny_bind (wpAny_field he rfl (x := .ref it) rfl ?_)
  refine wpAny_bind (wpAny_nextOf_tuple_end hh hit hl hx fun h' x he' hx' => ?_)
  obtain ⟨o, ho, hc⟩ := hx'
  refine wpAny_bind (wpAny_isInstance (T := "StopIteration") (b := true) ⟨o, ho, hc⟩ isSubtype_stop ?_)
  exact wpAny_pure (hQ _ he')
end PySem
namespace L2
open PySem PySem.Spec PyProof.Rows
/-- enumerate over a tuple -/
def Iet (K : PySem.W.Frag) (a : Addr) : It :=
  ⟨fun i H => ∃ (xs : List V) (x : V), SqT K H a xs ∧ xs[i]? = some x, fun i H v H' => ∃ T x, v = .ref T ∧ H T = none ∧ H' = upd H T (.tup [.int (i : Nat), x]) ∧ ∀ xs, SqT K H a xs → xs[i]? = some x, fun i H => ∃ xs : List V, SqT K H a xs ∧ xs.length ≤ i⟩
theorem turn_enumT {P : Program} {w : World} {K : PySem.W.Frag} {elts : List Expr} {kk : Nat} {tpos : Pos} (a e it : Addr) :
    Turn P w K (.Tuple elts kk tpos) (Iet K a) [e, it] e (fun i h => (∃ old, IsEnum h e it ((i : Nat) : Int) old) ∧ h.IsTupleIter it a i ∧ e ≠ it ∧ a ≠ it ∧ a ≠ e) where
  mem := by simp
  obj := fun i h st b hb => by
    obtain ⟨⟨old, he⟩, ⟨o, ho, hc, hd⟩, _⟩ := st
    have e' : b = e ∨ b = it := by simpa using hb
    rcases e' with z | z
    · rw [z]; exact ⟨_, he, fun v q => nomatch q⟩
    · rw [z]; exact ⟨o, ho, fun v q => by rw [hd] at q; cases q⟩
  keep := fun i h h' st k => let ⟨⟨old, he⟩, hi, hr⟩ := st; ⟨⟨old, k e (by simp) _ he⟩, hi.at fun o q => k it (by simp) o q, hr⟩
  item := by
    intro X hP hw hK hc i pins s σ H E I hf st hg
    subst hP hw hK
    obtain ⟨⟨old, he⟩, hit, hne, hai, hae⟩ := st
    obtain ⟨xs, x, hq, hx⟩ := hg
    obtain ⟨its, rv, p, hz⟩ := I.tuple hq
    obtain ⟨u, hu, ru⟩ := rv.get hx
    have hel : e < s.heap.objs.size := Heap.lt_size he
    have hil : it < s.heap.objs.size := by obtain ⟨_, q, _⟩ := hit; exact Heap.lt_size q
    have hp : s.heap.IsTuple a its.toArray := p
    have hlt : i < its.toArray.size := by rw [List.size_toArray]; exact (List.getElem?_eq_some_iff.mp hu).1
    refine wpAny_pyNext_enum_itemC (P := fun i v => its.toArray[i]? = some v) (St := fun i h => h.IsTupleIter it a i ∧ h.IsTuple a its.toArray) (fp := [it, a]) (Draws.tuple (A := X.A.in1) (I.ok.hd hc) it a hai its.toArray) he ⟨hit, hp⟩ hlt hne (by simp [hne, Ne.symm hae]) fun x' h' tk hP ho hit' hT hsz hk => ?_
    have ex' : x' = u := by
      rw [List.getElem?_toArray, hu] at hP
      exact (Option.some.inj hP).symm
    subst ex'
    refine ⟨_, rfl, wpAny_letOwnedTupleGo_enum (s := { s with heap := h', toks := tk + 1 }) ho fun h'' he' sb => ?_⟩
    have hT2 : h''.get? s.heap.objs.size = some { cls := .type "tuple", data := .seq #[.int i tk, x'] } := (sb.2 _ (Nat.ne_of_gt hel)).trans hT
    have new : ObjOk X.prog X.w (upd H s.heap.objs.size (.tup [.int (i : Nat), x])) h'' s.heap.objs.size (.tup [.int (i : Nat), x]) :=
      ⟨by show 2 ≤ sizeLine; decide, [.int i tk, x'], .cons ⟨_, rfl⟩ (.cons ru .nil), ⟨_, hT2, rfl, _, rfl⟩⟩
    have I1 : Inv X pins σ (upd H s.heap.objs.size (.tup [.int (i : Nat), x])) { s with heap := h'', toks := tk + 1 } :=
      I.turnedNew (ch := [e, it]) (fun b ob hb q => (sb.2 b (fun z => hb (by simp [z]))).trans (hk b ob (fun z => hb (by simp [z])) (fun z => hb (by simp [z])) q)) hf (Nat.le_refl _) new
    refine ⟨.ref s.heap.objs.size, _, I1, rfl, ⟨_, x, rfl, I.hok.fresh (Nat.le_refl _), rfl, fun ys hy => by rw [I.tuple_inj hy hq]; exact hx⟩, ⟨⟨x', ?_⟩, hit'.1.at fun o q => (sb.2 it (Ne.symm hne)).trans q, hne, hai, hae⟩, fun b hb => ?_⟩
    · have e1 : ((i + 1 : Nat) : Int) = (i : Int) + 1 := by omega
      rw [e1]; exact he'
    · have hb' : b < s.heap.objs.size := by
        have e' : b = e ∨ b = it := by simpa using hb
        rcases e' with z | z
        · rw [z]; exact hel
        · rw [z]; exact hil
      rw [upd_ne (Nat.ne_of_lt hb')]
      exact (hf b hb).1
  done := by
    intro X hP hw hK hc i pins s σ H E I hf st hg
    subst hP hw hK
    obtain ⟨⟨old, he⟩, hit, hne, hai, hae⟩ := st
    obtain ⟨xs, hq, hx⟩ := hg
    obtain ⟨its, rv, p, hz⟩ := I.tuple hq
    have hp : s.heap.IsTuple a its.toArray := p
    obtain ⟨f0, f1, f2, f3, f4, f5⟩ := hf it (by simp)
    have hl := rv.length
    exact enumT_end (I.ok.hd hc) he hit hp (by simp; omega) fun h' eb => ⟨rfl, I.turned (t' := s.toks) (fun b o hb q => eb b o hb q) f0 f1 f3 f4 f5⟩
  self := fun A i s Q E st h => let ⟨⟨_, he⟩, _⟩ := st; wpAny_pyIter_enum he h
end L2

namespace Ev
open PySem L2
section
variable {G : Gd} {X : Cx} {W : WX} {a b c tg : Expr} {ca cb cc : EC} {pos pp : Pos}
/-- at most a new tuple more -/
def NewT (H H' : Hp) : Prop := H' = H ∨ ∃ p xs, H p = none ∧ H' = upd H p (.tup xs)
theorem Rel.obItems {F : Addr → Prop} {ρ : List Addr} {s : Store} {H : Hp} (l : Rel G F ρ s H) {n : Nat} {p : Addr} {vs : List Val} (ho : (s[n]?).bind Ev.obItems = some vs) (hp : ρ[n]? = some p) : ∃ xs, H p = some (.lst xs) ∧ RepVs G ρ (Mu ρ s F) H vs xs := by
  cases h : s[n]? with
  | none => rw [h] at ho; cases ho
  | some o =>
    rw [h] at ho
    have q := l.ob n o p h hp
    cases o with
    | lst ds => cases ho; obtain ⟨xs, hx, _, r⟩ := q; exact ⟨xs, hx, r.vs⟩
    | lv ws => cases ho; obtain ⟨xs, hx, _, r⟩ := q; exact ⟨xs, hx, r⟩
    | _ => cases ho
/-- an iterator walks a source -/
def JOk (G : Gd) : RR Src It := fun ρ M H sr J => match sr with
  | .vals xs => ∀ ρ2 M2 H2, Still M H M2 H2 → (∀ (n : Nat) a, ρ[n]? = some a → ρ2[n]? = some a) → ∀ i : Nat,
      (∀ x, xs[i]? = some x → J.go i H2 ∧ ∀ y H3, J.yld i H2 y H3 → NewT H2 H3 ∧ ∀ M3, Still M2 H2 M3 H3 → RepV G ρ2 M3 H3 x y) ∧ (xs.length ≤ i → J.stop i H2)
  | .live n => ∃ a, ρ[n]? = some a ∧ ∀ H2 xs, H2 a = some (.lst xs) → ∀ i : Nat, (∀ y, xs[i]? = some y → J.go i H2 ∧ ∀ z H3, J.yld i H2 z H3 → H3 = H2 ∧ z = y) ∧ (xs.length ≤ i → J.stop i H2)
def tI (G : Gd) (W : WX) (c : IC) : TI := fun σ H R => ∃ F ρ s E, At G F ρ s H E σ ∧ Out G F ρ s H (fun C d H' => W C d σ H') (JOk G) (c E s) R
abbrev SI (G : Gd) (W : WX) (X : Cx) (tg : Expr) (c : IC) (e : Expr) : Prop := PI X tg e (tI G W c)

theorem joT {M : Addr → Prop} {H : Hp} {ρ : List Addr} {p : Addr} {xs : List V} {ds : List D} (hq : SqT G.K H p xs) (rr : RepDs G.K M H ds xs) : JOk G ρ M H (.vals (ds.map .d)) (Itt G.K p) := by
  intro ρ2 M2 H2 t _ i
  refine ⟨fun x hx => ?_, fun hi => ⟨xs, t.sqT hq, by rw [← rr.len]; simpa using hi⟩⟩
  rw [List.getElem?_map, Option.map_eq_some_iff] at hx
  obtain ⟨d, hd, rfl⟩ := hx
  obtain ⟨y, hy, ry⟩ := rr.get hd
  refine ⟨⟨xs, y, t.sqT hq, hy⟩, fun z H3 ⟨e, hz⟩ => ⟨.inl e, fun M3 t3 => ?_⟩⟩
  have := hz xs (t.sqT hq)
  rw [hy] at this; cases this
  exact RepD.still t3 d y (RepD.still t d y ry)
theorem joL {M : Addr → Prop} {H : Hp} {ρ : List Addr} {p : Addr} {xs : List V} {ds : List D} (nM : ¬ M p) (hq : H p = some (.lst xs)) (rr : RepDs G.K M H ds xs) : JOk G ρ M H (.vals (ds.map .d)) (Itl G.K p) := by
  intro ρ2 M2 H2 t _ i
  have hq2 : SqL G.K H2 p xs := .inl (.inl (t.fz _ _ hq nM).1)
  refine ⟨fun x hx => ?_, fun hi => ⟨xs, hq2, by rw [← rr.len]; simpa using hi⟩⟩
  rw [List.getElem?_map, Option.map_eq_some_iff] at hx
  obtain ⟨d, hd, rfl⟩ := hx
  obtain ⟨y, hy, ry⟩ := rr.get hd
  refine ⟨⟨xs, y, hq2, hy⟩, fun z H3 ⟨e, hz⟩ => ⟨.inl e, fun M3 t3 => ?_⟩⟩
  have := hz xs hq2
  rw [hy] at this; cases this
  exact RepD.still t3 d y (RepD.still t d y ry)
/-- for x in e: a list, a tuple -/
theorem si_seq (hK : X.K = G.K) (ha : SE G W X ca a) : SI G W X tg (iSeq ca) a := by
  refine ⟨fun pins s σ H R I ⟨F, ρ, st, E, at_, o⟩ => ?_⟩
  refine thn (ha.run pins s σ H _ I ⟨F, ρ, st, E, at_, Out.bind (R := RepV G) o⟩) fun v s1 ⟨x, H1, I1, r1, ρ1, t1, v1, g1, l1, x1, o1⟩ => ?_
  have onL : ∀ {p : Addr} {xs : List V}, x = .ref p → SqL X.K H1 p xs → R (Itl X.K p) H1 → wpAny (model X.prog X.w) X.A (pyIter v) (PIE X pins σ tg R) X.xe s1 := fun {p xs} e hq q => by
    subst e
    cases r1
    obtain ⟨its, rv, pl, hz⟩ := I1.list hq
    refine wpAny_pyIter_list pl.isList ?_
    refine ⟨s1.heap.objs.size, [s1.heap.objs.size], _, _, H1, rfl, I1.kept (t' := s1.toks) fun b o e => Heap.get?_push_of_some _ e, turn_list p _, ⟨_, Heap.get?_push_size _ rfl, rfl, rfl⟩, fun b hb => ?_, q⟩
    have e : b = s1.heap.objs.size := by simpa using hb
    subst e
    exact I1.fpOk (Nat.le_refl _) (I1.hok.fresh (Nat.le_refl _))
  have onT : ∀ {p : Addr} {xs : List V}, x = .ref p → SqT X.K H1 p xs → R (Itt X.K p) H1 → wpAny (model X.prog X.w) X.A (pyIter v) (PIE X pins σ tg R) X.xe s1 := fun {p xs} e hq q => by
    subst e
    cases r1
    obtain ⟨its, rv, pl, hz⟩ := I1.tuple hq
    refine wpAny_pyIter_tuple (show s1.heap.IsTuple p its.toArray from pl) ?_
    refine ⟨s1.heap.objs.size, [s1.heap.objs.size], _, _, H1, rfl, I1.kept (t' := s1.toks) fun b o e => Heap.get?_push_of_some _ e, turn_tuple p _, ⟨_, Heap.get?_push_size _ rfl, rfl, rfl⟩, fun b hb => ?_, q⟩
    have e : b = s1.heap.objs.size := by simpa using hb
    subst e
    exact I1.fpOk (Nat.le_refl _) (I1.hok.fresh (Nat.le_refl _))
  cases v1 with
  | d z =>
    cases z with
    | tup ds =>
      simp only [RepV, RepD] at x1
      obtain ⟨p, xs, ex, hq, _, rr⟩ := x1
      exact onT ex (by rw [hK]; exact hq) (by rw [hK]; exact Out.ret (R := JOk G) o1 l1 (joT hq rr))
    | lst ds =>
      simp only [RepV, RepD] at x1
      obtain ⟨p, xs, ex, nM, hq, _, rr⟩ := x1
      exact onL ex (.inl (.inl hq)) (by rw [hK]; exact Out.ret (R := JOk G) o1 l1 (joL nM hq rr))
    | scr ns =>
      simp only [RepV, RepD] at x1
      obtain ⟨p, ex, hq, _⟩ := x1
      have sq : ∀ {M2 : Addr → Prop} {H2 : Hp}, Still (Mu ρ1 t1 F) H1 M2 H2 → SqL G.K H2 p (ns.map V.int) := fun {M2 H2} t => by
        rcases hq with ⟨ob, hq⟩ | ((hq | ⟨_, hq⟩) | hq)
        · exact .inl (.inr ⟨ob, t.lk _ _ _ hq⟩)
        · cases hq
        · cases hq
        · exact .inr hq
      have sq0 : SqL G.K H1 p (ns.map V.int) := sq (M2 := Mu ρ1 t1 F) (still_sub fun _ h => h)
      have jo : JOk G ρ1 (Mu ρ1 t1 F) H1 (.vals (ns.map fun i => .d (.int i))) (Itl G.K p) := by
        intro ρ2 M2 H2 t _ i
        refine ⟨fun x hx => ?_, fun hi => ⟨_, sq t, by simpa using hi⟩⟩
        rw [List.getElem?_map, Option.map_eq_some_iff] at hx
        obtain ⟨n, hn, rfl⟩ := hx
        have hy : (ns.map V.int)[i]? = some (.int n) := by rw [List.getElem?_map, hn]; rfl
        refine ⟨⟨_, _, sq t, hy⟩, fun z H3 ⟨e, hz⟩ => ⟨.inl e, fun M3 t3 => ?_⟩⟩
        have := hz _ (sq t)
        rw [hy] at this; cases this
        simp [RepV, RepD]
      exact onL ex (by rw [hK]; exact sq0) (by rw [hK]; exact Out.ret (R := JOk G) o1 l1 jo)
    | _ => exact o1.elim
  | loc n =>
    obtain ⟨p, hp, ex⟩ := x1
    have hl : ∃ xs, H1 p = some (.lst xs) := by
      simp only at o1
      split at o1
      · rename_i ds ho
        obtain ⟨xs, hx, _⟩ := l1.obItems ho hp
        exact ⟨xs, hx⟩
      · exact o1.elim
    obtain ⟨xs, hx⟩ := hl
    have o2 : Out G F ρ1 t1 H1 (fun C d H' => W C d σ H') (JOk G) (.ok (.live n) t1) R := by
      simp only at o1
      split at o1
      · exact o1
      · exact o1.elim
    have jo : JOk G ρ1 (Mu ρ1 t1 F) H1 (.live n) (Itl G.K p) := by
      refine ⟨p, hp, fun H2 ys hy i => ?_⟩
      have hq2 : SqL G.K H2 p ys := .inl (.inl hy)
      refine ⟨fun y hyi => ⟨⟨ys, y, hq2, hyi⟩, fun z H3 ⟨e, hz⟩ => ⟨e, ?_⟩⟩, fun hi => ⟨ys, hq2, hi⟩⟩
      have := hz ys hq2
      rw [hyi] at this; exact (Option.some.inj this).symm
    exact onL ex (.inl (.inl hx)) (by rw [hK]; exact Out.ret (R := JOk G) o2 l1 jo)
  | exn _ _ => exact o1.elim
theorem joR {M : Addr → Prop} {H : Hp} {ρ : List Addr} (lo hi : Int) : JOk G ρ M H (.vals ((rng lo hi).map .d)) (Itr lo (hi - lo).toNat) := by
  intro ρ2 M2 H2 t _ i
  refine ⟨fun x hx => ?_, fun hi' => ?_⟩
  rotate_left
  · show (hi - lo).toNat ≤ i
    simpa [rng] using hi'
  simp only [rng, List.map_map, List.getElem?_map, Option.map_eq_some_iff] at hx
  obtain ⟨j, hj, rfl⟩ := hx
  obtain ⟨h1, h2⟩ := List.getElem?_eq_some_iff.mp hj
  simp only [List.length_range] at h1
  rw [List.getElem_range] at h2
  subst h2
  refine ⟨h1, fun z H3 ⟨e, hz⟩ => ⟨.inl e, fun M3 t3 => ?_⟩⟩
  subst hz
  simp [RepV, RepD]
theorem si_rng1 {p1 : Pos} (hm : X.mg "range" = none) (ha : SE G W X ca a) (hg : Gl X "range" := by rfl) (hs : starEach [a] X.env = [(false, eval a X.env)] := by rfl) : SI G W X tg (iRng1 ca) (.Call (.Name "range" p1) [a] [] pos) := by
  refine ⟨fun pins s σ H R I ⟨F, ρ, st, E, at_, o⟩ => (pi_range1 hg hm (pa_cons ha pa_nil hs) hs).run pins s σ H R I ⟨F, ρ, st, E, at_, (Out.bind (R := RepV G) o).mono ?_⟩⟩
  rintro x H1 ⟨ρ1, s1, v1, g1, l1, x1, o1⟩
  split at o1
  · rename_i i
    by_cases c : small i = true
    · rw [if_pos c] at o1
      have c' := small_iff.mp c
      refine ⟨i, by rw [int_of x1], c'.1, c'.2, ?_⟩
      have := joR (G := G) (ρ := ρ1) (M := Mu ρ1 s1 F) (H := H1) 0 i
      rw [Int.sub_zero] at this
      exact Out.ret (R := JOk G) o1 l1 this
    · rw [if_neg c] at o1; exact o1.elim
  · exact o1.elim
theorem si_rng2 {p1 : Pos} (hm : X.mg "range" = none) (ha : SE G W X ca a) (hb : SE G W X cb b) (hg : Gl X "range" := by rfl) (hs : starEach [a, b] X.env = [(false, eval a X.env), (false, eval b X.env)] := by rfl) (hs2 : starEach [b] X.env = [(false, eval b X.env)] := by rfl) :
    SI G W X tg (iRng2 ca cb) (.Call (.Name "range" p1) [a, b] [] pos) := by
  refine ⟨fun pins s σ H R I ⟨F, ρ, st, E, at_, o⟩ => (pi_range2 hg hm (pa_cons ha (pa_cons hb pa_nil hs2) (by rw [hs, hs2])) hs hs2).run pins s σ H R I ⟨F, ρ, st, E, at_, (Out.bind (R := RepV G) o).mono ?_⟩⟩
  rintro x H1 ⟨ρ1, s1, v1, g1, l1, x1, o1⟩
  refine ⟨F, ρ1, s1, E, at_.go g1 l1, (Out.bind (R := RepV G) o1).mono ?_⟩
  rintro y H2 ⟨ρ2, s2, v2, g2, l2, x2, o2⟩
  split at o2
  · rename_i i j
    by_cases c : (small i && small j) = true
    · rw [if_pos c] at o2
      simp only [Bool.and_eq_true, small_iff] at c
      exact ⟨i, j, by rw [int_of x1, int_of x2], ⟨c.1.1, c.1.2, c.2.1, c.2.2⟩, Out.ret (R := JOk G) o2 l2 (joR i j)⟩
    · rw [if_neg c] at o2; exact o2.elim
  · exact o2.elim
theorem enumD_get : ∀ (ds : List D) (k i : Nat) (x : D), (enumD k ds)[i]? = some x → ∃ d, ds[i]? = some d ∧ x = .tup [.int ((k + i : Nat) : Int), d]
  | [], _, _, _, h => by simp [enumD] at h
  | d :: ds, k, 0, x, h => by simp [enumD] at h; exact ⟨d, by simp, by simp [h]⟩
  | d :: ds, k, i + 1, x, h => by
    simp only [enumD, List.getElem?_cons_succ] at h
    obtain ⟨e, h1, h2⟩ := enumD_get ds (k + 1) i x h
    exact ⟨e, by simpa using h1, by rw [h2, show k + 1 + i = k + (i + 1) by omega]⟩
theorem enumD_len : ∀ (ds : List D) (k : Nat), (enumD k ds).length = ds.length
  | [], _ => rfl
  | _ :: ds, k => by simp [enumD, enumD_len ds]
theorem joE {M : Addr → Prop} {H : Hp} {ρ : List Addr} {xs : List V} {ds : List D} {J : It} (rr : RepDs G.K M H ds xs)
    (hJ : ∀ M2 H2, Still M H M2 H2 → ∀ i : Nat, (∀ y, xs[i]? = some y → J.go i H2 ∧ ∀ v H3, J.yld i H2 v H3 → ∃ T, v = .ref T ∧ H2 T = none ∧ H3 = upd H2 T (.tup [.int (i : Nat), y])) ∧ (xs.length ≤ i → J.stop i H2)) : JOk G ρ M H (.vals ((enumD 0 ds).map .d)) J := by
  intro ρ2 M2 H2 t _ i
  refine ⟨fun x hx => ?_, fun hi => (hJ M2 H2 t i).2 (by rw [← rr.len]; simpa [enumD_len] using hi)⟩
  rw [List.getElem?_map, Option.map_eq_some_iff] at hx
  obtain ⟨d, hd, rfl⟩ := hx
  obtain ⟨e, he, rfl⟩ := enumD_get ds 0 i d hd
  obtain ⟨y, hy, ry⟩ := rr.get he
  obtain ⟨hg, hyl⟩ := (hJ M2 H2 t i).1 y hy
  refine ⟨hg, fun z H3 hz => ?_⟩
  obtain ⟨T, rfl, hT, rfl⟩ := hyl z H3 hz
  refine ⟨.inr ⟨T, _, hT, rfl⟩, fun M3 t3 => ?_⟩
  have hr := RepD.still t3 e y (RepD.still t e y ry)
  show RepD G.K M3 (upd H2 T (HO.tup [V.int (i : Nat), y])) (.tup [.int ((0 + i : Nat) : Int), e]) (.ref T)
  rw [RepD]
  refine ⟨T, _, rfl, .inl (.inl upd_same), by rw [sizeLine_eq]; simp, ?_⟩
  simp only [RepDs, RepD, Nat.zero_add]
  exact ⟨trivial, hr, trivial⟩
theorem si_enum {p1 tpos : Pos} {elts : List Expr} {kk : Nat} (hK : X.K = G.K) (hm : X.mg "enumerate" = none) (ha : SE G W X ca a) (hg : Gl X "enumerate" := by rfl) (hs : starEach [a] X.env = [(false, eval a X.env)] := by rfl) :
    SI G W X (.Tuple elts kk tpos) (iEnum ca) (.Call (.Name "enumerate" p1) [a] [] pos) := by
  refine ⟨fun pins s σ H R I ⟨F, ρ, st, E, at_, o⟩ => ?_⟩
  refine PyProof.Rows.Call_ (ld_blt I hg hm PyProof.Rows.boot_enumerate (PyProof.Rows.callWith_type1 (thn ((pa_cons ha pa_nil hs).run pos pins s σ H (fun vs H1 => ∃ x, vs = [x] ∧ ∃ ρ1 s1 v1, Go ρ st H ρ1 s1 H1 ∧ Rel G F ρ1 s1 H1 ∧ RepV G ρ1 (Mu ρ1 s1 F) H1 v1 x ∧ Out G F ρ1 s1 H1 (fun C d H' => W C d σ H') (JOk G) (enumS v1 s1) R) I
    ⟨F, ρ, st, E, at_, (Out.bind (R := RepV G) o).mono fun x H1 h => ⟨x, rfl, h⟩⟩) fun us s1 ⟨vs, H1, I1, r1, q1⟩ => ?_) hs rfl))
  obtain ⟨x, rfl, ρ1, t1, v1, g1, l1, x1, o1⟩ := q1
  obtain ⟨u, rfl, ru⟩ := vals1 r1
  cases v1 with
  | d z =>
    cases z with
    | tup ds =>
      simp only [RepV, RepD] at x1
      obtain ⟨p, xs, rfl, hq, _, rr⟩ := x1
      cases ru
      obtain ⟨its, rv, p', hz⟩ := I1.tuple (by rw [hK]; exact hq)
      have hpT : s1.heap.IsTuple p its.toArray := p'
      have hpl : p < s1.heap.objs.size := by obtain ⟨ob, h1, _⟩ := hpT; exact Heap.lt_size h1
      refine enum_begin1 (begins_tuple p its.toArray) hpT fun h' he hit hsz hk => wpAny_pyIter_enum he ?_
      have I2 : L2.Inv X pins σ H1 { s1 with heap := h' } := I1.kept (t' := s1.toks) hk
      refine ⟨s1.heap.objs.size + 1, [s1.heap.objs.size + 1, s1.heap.objs.size], _, _, H1, rfl, I2, turn_enumT p (s1.heap.objs.size + 1) s1.heap.objs.size, ⟨⟨.none, he⟩, ⟨_, hit, rfl, rfl⟩, Nat.succ_ne_self _, Nat.ne_of_lt hpl, Nat.ne_of_lt (Nat.lt_succ_of_lt hpl)⟩, fun b hb => ?_, ?_⟩
      · have e' : b = s1.heap.objs.size + 1 ∨ b = s1.heap.objs.size := by simpa using hb
        have hle : s1.heap.objs.size ≤ b := by
          rcases e' with z | z
          · rw [z]; exact Nat.le_add_right _ _
          · rw [z]; exact Nat.le_refl _
        exact I1.fpOk hle (I1.hok.fresh hle)
      · rw [hK]
        refine Out.ret (R := JOk G) o1 l1 (joE rr fun M2 H2 t i => ⟨fun y hy => ⟨⟨xs, y, t.sqT hq, hy⟩, ?_⟩, fun hi => ⟨xs, t.sqT hq, hi⟩⟩)
        rintro v H3 ⟨T, x, e1, e2, e3, e4⟩
        have := e4 xs (t.sqT hq)
        rw [hy] at this; cases this
        exact ⟨T, e1, e2, e3⟩
    | lst ds =>
      simp only [RepV, RepD] at x1
      obtain ⟨p, xs, rfl, nM, hq, _, rr⟩ := x1
      cases ru
      obtain ⟨its, rv, p', hz⟩ := I1.list (.inl (.inl hq))
      refine call_enumerate_list p'.isList fun h' he hit hsz hk => wpAny_pyIter_enum he ?_
      have I2 : L2.Inv X pins σ H1 { s1 with heap := h' } := I1.kept (t' := s1.toks) hk
      refine ⟨s1.heap.objs.size + 1, [s1.heap.objs.size + 1, s1.heap.objs.size], _, _, H1, rfl, I2, turn_enum p (s1.heap.objs.size + 1) s1.heap.objs.size, ⟨⟨.none, he⟩, hit, Nat.succ_ne_self _⟩, fun b hb => ?_, ?_⟩
      · have e' : b = s1.heap.objs.size + 1 ∨ b = s1.heap.objs.size := by simpa using hb
        have hle : s1.heap.objs.size ≤ b := by
          rcases e' with z | z
          · rw [z]; exact Nat.le_add_right _ _
          · rw [z]; exact Nat.le_refl _
        exact I1.fpOk hle (I1.hok.fresh hle)
      · rw [hK]
        have sq : ∀ {M2 : Addr → Prop} {H2 : Hp}, Still (Mu ρ1 t1 F) H1 M2 H2 → SqL G.K H2 p xs := fun t => .inl (.inl (t.fz _ _ hq nM).1)
        refine Out.ret (R := JOk G) o1 l1 (joE rr fun M2 H2 t i => ⟨fun y hy => ⟨⟨xs, y, sq t, hy⟩, ?_⟩, fun hi => ⟨xs, sq t, hi⟩⟩)
        rintro v H3 ⟨T, x, e1, e2, e3, e4⟩
        have := e4 xs (sq t)
        rw [hy] at this; cases this
        exact ⟨T, e1, e2, e3⟩
    | _ => exact o1.elim
  | _ => exact o1.elim
end
end Ev
end
section
set_option Elab.async false
set_option linter.all false
set_option autoImplicit false
set_option maxRecDepth 100000
set_option maxHeartbeats 4000000
/-! Targets, statements, loops, comprehensions. -/
namespace Ev
open PySem L2
section
variable {G : Gd} {X : Cx} {W : WX} {a b c tg : Expr} {ca cb cc : EC} {ba : BC} {pos pp : Pos}

/-! ### targets -/
def tG (G : Gd) (t : TC) : TG := fun x σ H Q => ∃ F ρ s E v, At G F ρ s H E σ ∧ RepV G ρ (Mu ρ s F) H v x ∧ match t v E s with
  | some (E', s') => ∀ σ' ρ' H', Go ρ s H ρ' s' H' → At G F ρ' s' H' E' σ' → Q σ' H'
  | none => False
def tGs (G : Gd) (ts : List TC) : TGs := fun xs σ H Q => ∃ F ρ s E vs, At G F ρ s H E σ ∧ RepVs G ρ (Mu ρ s F) H vs xs ∧ match Ev.ts ts vs E s with
  | some (E', s') => ∀ σ' ρ' H', Go ρ s H ρ' s' H' → At G F ρ' s' H' E' σ' → Q σ' H'
  | none => False
abbrev SG (G : Gd) (X : Cx) (t : TC) (e : Expr) : Prop := PG X e (tG G t)
abbrev SGs (G : Gd) (X : Cx) (t : List TC) (e : List Expr) : Prop := PGs X e (tGs G t)
theorem PG.imp {e : Expr} {t t' : TG} (h : PG X e t) (i : ∀ v σ H Q, t' v σ H Q → t v σ H Q) : PG X e t' := ⟨fun pins s σ H v u Q I r q => h.run pins s σ H v u Q I r (i v σ H Q q)⟩
theorem PG.or {e : Expr} {t t' : TG} (h : PG X e t) (h' : PG X e t') : PG X e (fun v σ H Q => t v σ H Q ∨ t' v σ H Q) := ⟨fun pins s σ H v u Q I r q => q.elim (fun q => h.run pins s σ H v u Q I r q) fun q => h'.run pins s σ H v u Q I r q⟩
theorem PGs.imp {e : List Expr} {t t' : TGs} (h : PGs X e t) (i : ∀ v σ H Q, t' v σ H Q → t v σ H Q) : PGs X e t' := ⟨fun pins s σ H v u Q I r q => h.run pins s σ H v u Q I r (i v σ H Q q)⟩
theorem sg_n {i : Nat} {x : Str} (hN : X.N.Nodup) (hi : X.N[i]? = some x := by rfl) (hx : Loc X.env.scope x := by first | exact .inl rfl | exact .inr rfl) (hf : X.fn x = true ∨ X.env.scope.names.lookup x = some .local := by first | exact .inl rfl | exact .inr rfl) : SG G X (tn i) (.Name x pos) :=
  PG.imp (pg_name hN hi hx hf) fun v σ H Q ⟨F, ρ, s, E, w, at_, r, o⟩ => o _ ρ H .refl ⟨at_.rel, at_.env.set r i⟩
theorem sgs_nil : SGs G X [] [] := PGs.imp pgs_nil fun vs σ H Q ⟨F, ρ, s, E, ws, at_, r, o⟩ => by
  cases ws with
  | nil => cases vs with
    | nil => exact ⟨rfl, o σ ρ H .refl at_⟩
    | cons _ _ => exact r.elim
  | cons _ _ => exact o.elim
theorem sgs_cons {e : Expr} {es : List Expr} {t : TC} {l : List TC} (h1 : SG G X t e) (h2 : SGs G X l es) (hs : (assignEach (e :: es) X.env).map (·.2) = assign e X.env :: (assignEach es X.env).map (·.2) := by rfl) : SGs G X (t :: l) (e :: es) :=
  PGs.imp (pgs_cons h1 h2 hs) fun vs σ H Q ⟨F, ρ, s, E, ws, at_, r, o⟩ => by
    cases ws with
    | nil => exact o.elim
    | cons w ws =>
      cases vs with
      | nil => exact r.elim
      | cons v vs =>
        refine ⟨v, vs, rfl, F, ρ, s, E, w, at_, r.1, ?_⟩
        simp only [Ev.ts] at o
        cases e1 : t w E s with
        | none => rw [e1] at o; exact o.elim
        | some p =>
          rw [e1] at o
          intro σ1 ρ1 H1 g1 at1
          refine ⟨F, ρ1, p.2, p.1, ws, at1, at_.rel.vals g1 r.2, ?_⟩
          cases e2 : Ev.ts l ws p.1 p.2 with
          | none => simp only [e2] at o
          | some q =>
            simp only [e2] at o
            exact fun σ' ρ' H' g at' => o σ' ρ' H' (g1.trans g) at'
theorem sg_t {es : List Expr} {kk : Nat} {l : List TC} (hK : X.K = G.K) (hc : X.calm = true) (h : SGs G X l es) (hn : (assignEach es X.env).length = l.length := by rfl) (hst : (assignEach es X.env).findIdx? (·.1) = none := by rfl) : SG G X (tt l) (.Tuple es kk pos) :=
  PG.imp (PG.or (pg_tup hc h hn hst) (pg_lst hc h hn hst)) fun v σ H Q ⟨F, ρ, s, E, w, at_, r, o⟩ => by
    have len : ∀ (l : List TC) (ws : List Val) E s p, Ev.ts l ws E s = some p → ws.length = l.length := by
      intro l
      induction l with
      | nil => intro ws E s p h; cases ws with
        | nil => rfl
        | cons _ _ => cases h
      | cons t l ih => intro ws E s p h; cases ws with
        | nil => cases h
        | cons w ws =>
          simp only [Ev.ts] at h
          split at h
          · simp [ih _ _ _ _ h]
          · cases h
    unfold tt at o
    cases ei : items w s with
    | none => rw [ei] at o; exact o.elim
    | some ws =>
      rw [ei] at o
      simp only at o
      have el : ws.length = l.length := by
        cases e2 : Ev.ts l ws E s with
        | none => rw [e2] at o; exact o.elim
        | some p => exact len _ _ _ _ _ e2
      cases w with
      | d z =>
        cases z with
        | tup ds =>
          simp at ei
          subst ei
          have r' := r
          simp only [RepV, RepD] at r'
          obtain ⟨p, xs, rfl, hq, _, rr⟩ := r'
          exact .inl ⟨p, xs, rfl, by rw [hK]; exact hq, by rw [← rr.len]; simpa using el, F, ρ, s, E, _, at_, rr.vs, o⟩
        | lst ds =>
          simp at ei
          subst ei
          have r' := r
          simp only [RepV, RepD] at r'
          obtain ⟨p, xs, rfl, _, hq, _, rr⟩ := r'
          exact .inr ⟨p, xs, rfl, .inl (.inl hq), by rw [← rr.len]; simpa using el, F, ρ, s, E, _, at_, rr.vs, o⟩
        | _ => simp [items] at ei
      | loc n =>
        obtain ⟨p, hp, rfl⟩ := r
        simp only [items] at ei
        split at ei
        · rename_i ds ho
          obtain ⟨xs, hx, _, rr⟩ := at_.rel.ob n _ p ho hp
          cases ei
          exact .inr ⟨p, xs, rfl, .inl (.inl hx), by rw [← rr.len]; simpa using el, F, ρ, s, E, _, at_, rr.vs, o⟩
        · rename_i ds ho
          obtain ⟨xs, hx, _, rr⟩ := at_.rel.ob n _ p ho hp
          cases ei
          exact .inr ⟨p, xs, rfl, .inl (.inl hx), by rw [← rr.len]; exact el, F, ρ, s, E, _, at_, rr, o⟩
        · cases ei
      | exn _ _ => cases ei
/-! ### o[i] = x -/
def rPut (G : Gd) : TSet := fun o i v H Q => ∃ F ρ s vo vi vv, Rel G F ρ s H ∧ RepV G ρ (Mu ρ s F) H vo o ∧ RepV G ρ (Mu ρ s F) H vi i ∧ RepV G ρ (Mu ρ s F) H vv v ∧ match pPut vo vi vv s with
  | some s' => ∀ ρ' H', Go ρ s H ρ' s' H' → Rel G F ρ' s' H' → Q H'
  | none => False
theorem putp (hu : X.A.units + 64 < cLine) : PSet X (rPut G) := by
  intro pins s σ H x i v ov iv u Q I ro ri rv ⟨F, ρ, st, vo, vi, vv, l, x1, x2, x3, o⟩
  unfold pPut at o
  cases vo with
  | loc n =>
    obtain ⟨p, hp, rfl⟩ := x1
    simp only at o
    cases ho : st[n]? with
    | none => rw [ho] at o; exact o.elim
    | some ob =>
      rw [ho] at o
      have q := l.ob n _ p ho hp
      cases ob with
      | dct kvs =>
        obtain ⟨ks, hk, z, rr⟩ := q
        simp only at o
        cases hq : keyOf vi with
        | none => rw [hq] at o; exact o.elim
        | some q =>
          rw [hq] at o
          simp only at o
          by_cases hl : kvs.length < line
          · rw [if_pos hl] at o
            have lv := live_of ho (by simp)
            have ei := key_of' x2 hq
            subst ei
            cases ro
            have g : DPut H p (kV q) v (upd H p (.dK (L2.putK ks q v))) := DPut.k hk (by rw [← RepF_len rr, line_eq]; exact hl)
            refine d_setItem (by omega) I g ri rv fun s4 I4 => ⟨_, I4, o _ _ (go_set hp lv ⟨_, hk⟩) (l.set hp lv fun M' t => ⟨_, upd_same, ?_, ?_⟩)⟩
            · have : (putK kvs q vv).length ≤ kvs.length + 1 := by unfold putK; split <;> simp
              rw [line_eq]; omega
            · exact RepF.put q (RepV.still t (fun _ _ h => h) _ _ x3) (RepF.still t (fun _ _ h => h) _ _ rr)
          · rw [if_neg hl] at o; exact o.elim
      | lst ds =>
        obtain ⟨xs, hx, z, rr⟩ := q
        simp only at o
        split at o
        · rename_i s' he
          split at he
          · rename_i j w
            split at he
            · rename_i m hm
              cases he
              have lv := live_of ho (by simp)
              obtain rfl := int_of x2
              refine set_list pins s σ H _ _ v ov iv u Q I ro ri rv ⟨p, xs, j, m, rfl, rfl, hx, by rw [← rr.len]; exact hm, o _ _ (go_set hp lv ⟨_, hx⟩) (l.set hp lv fun M' t => ⟨_, upd_same, by rw [List.length_set]; exact z, ?_⟩)⟩
              exact RepDs.set (RepD.still t _ _ x3) m (RepDs.still t _ _ rr)
            · cases he
          · cases he
        · exact o.elim
      | _ => exact o.elim
  | _ => exact o.elim
theorem sg_i (hu : X.A.units + 64 < cLine) (ha : SE G W X ca a) (hb : SE G W X cb b)
    (hs : ∀ v, assign (.Subscript a b pos) X.env v = (do
      let ov ← holding [v] (eval a X.env)
      let iv ← holding [v, ov] (eval b X.env)
      standAt pos
      holding [v, ov, iv] (setItem ov iv v)
      release [v, ov, iv] []) := by intro _; rfl) : SG G X (ti ca cb) (.Subscript a b pos) :=
  PG.imp (pg_sub ha hb (putp hu) hs) fun v σ H Q ⟨F, ρ, s, E, w, at_, r, o⟩ => by
    unfold ti at o
    refine ⟨F, ρ, s, E, at_, ?_⟩
    cases e1 : ca E s with
    | fail => rw [e1] at o; exact o.elim
    | exc _ _ _ => rw [e1] at o; exact o.elim
    | ok ov s1 =>
      rw [e1] at o
      simp only at o
      intro x ρ1 H1 g1 l1 x1
      have at1 := at_.go g1 l1
      refine ⟨F, ρ1, s1, E, at1, ?_⟩
      cases e2 : cb E s1 with
      | fail => rw [e2] at o; exact o.elim
      | exc _ _ _ => rw [e2] at o; exact o.elim
      | ok iv s2 =>
        rw [e2] at o
        simp only at o
        intro y ρ2 H2 g2 l2 x2
        refine ⟨F, ρ2, s2, ov, iv, w, l2, l1.val g2 x1, x2, l1.val g2 (at_.rel.val g1 r), ?_⟩
        cases e3 : pPut ov iv w s2 with
        | none => rw [e3] at o; exact o.elim
        | some s3 =>
          rw [e3] at o
          simp only [Option.map_some] at o
          exact fun ρ' H' g l => o σ ρ' H' ((g1.trans g2).trans g) ((at1.go g2 l2).go g l)

/-! ### statements -/
def SOut (G : Gd) (F : Addr → Prop) (ρ : List Addr) (s : Store) (H : Hp) (W : WX) (r : SRes) (D : Ends) : Prop :=
  match r with
  | .nx E s' => ∀ σ' ρ' H', Go ρ s H ρ' s' H' → At G F ρ' s' H' E σ' → D.nx σ' H'
  | .bk E s' => ∀ σ' ρ' H', Go ρ s H ρ' s' H' → At G F ρ' s' H' E σ' → D.bk σ' H'
  | .ct E s' => ∀ σ' ρ' H', Go ρ s H ρ' s' H' → At G F ρ' s' H' E σ' → D.ct σ' H'
  | .rt v s' => ∀ x ρ' H', Go ρ s H ρ' s' H' → Rel G F ρ' s' H' → RepV G ρ' (Mu ρ' s' F) H' v x → D.rt x H'
  | .exc c fs E s' => ∀ σ' ρ' H' d xs, Go ρ s H ρ' s' H' → At G F ρ' s' H' E σ' → H' d = some (.xd xs) → (∀ f z, fs.lookup f = some z → ∃ y, xs.lookup f = some y ∧ RepD G.K (Mu ρ' s' F) H' z y) → W (.ref (G.ca c)) (some d) σ' H'
  | .fail => False
theorem SOut.shift {F : Addr → Prop} {ρ ρ1 : List Addr} {s s1 : Store} {H H1 : Hp} {r : SRes} {D : Ends} (g : Go ρ s H ρ1 s1 H1) (o : SOut G F ρ s H W r D) : SOut G F ρ1 s1 H1 W r D := by
  cases r with
  | nx E s' => exact fun σ' ρ' H' g' at' => o σ' ρ' H' (g.trans g') at'
  | bk E s' => exact fun σ' ρ' H' g' at' => o σ' ρ' H' (g.trans g') at'
  | ct E s' => exact fun σ' ρ' H' g' at' => o σ' ρ' H' (g.trans g') at'
  | rt v s' => exact fun x ρ' H' g' => o x ρ' H' (g.trans g')
  | exc c fs E s' => exact fun σ' ρ' H' d xs g' => o σ' ρ' H' d xs (g.trans g')
  | fail => exact o
def tS (G : Gd) (W : WX) (c : SC) : TS := fun D σ H => ∃ F ρ s E, At G F ρ s H E σ ∧ SOut G F ρ s H W (c E s) D
abbrev S1 (G : Gd) (W : WX) (X : Cx) (c : SC) (e : Stmt) : Prop := PS X e (tS G W c)
abbrev SS (G : Gd) (W : WX) (X : Cx) (c : SC) (e : List Stmt) : Prop := PSs X e (tS G W c)
theorem ss_nil : SS G W X sNil [] := PSs.imp pss_nil fun D σ H ⟨F, ρ, s, E, at_, o⟩ => o σ ρ H .refl at_
theorem ss_cons {st : Stmt} {rest : List Stmt} {x y : SC} (h : S1 G W X x st) (h2 : SS G W X y rest) : SS G W X (sq x y) (st :: rest) :=
  PSs.imp (pss_cons h h2) fun D σ H ⟨F, ρ, s, E, at_, o⟩ => by
    refine ⟨F, ρ, s, E, at_, ?_⟩
    unfold sq at o
    cases e : x E s with
    | nx E1 s1 => rw [e] at o; exact fun σ' ρ' H' g at' => ⟨F, ρ', s1, E1, at', SOut.shift g o⟩
    | bk E1 s1 => rw [e] at o; exact o
    | ct E1 s1 => rw [e] at o; exact o
    | rt E1 s1 => rw [e] at o; exact o
    | exc c fs E1 s1 => rw [e] at o; exact o
    | fail => rw [e] at o; exact o
/-- from an expression -/
theorem SOut.of {A B : Type} {F : Addr → Prop} {ρ : List Addr} {s : Store} {H : Hp} {E : Env} {σ : St} {R : RR A B} {r : Res A} {f : A → Store → SRes} {D : Ends} (at_ : At G F ρ s H E σ) (o : SOut G F ρ s H W (ofRes r E f) D) :
    Out G F ρ s H (fun C d H' => W C d σ H') R r fun b H1 => ∃ ρ1 s1 a, Go ρ s H ρ1 s1 H1 ∧ At G F ρ1 s1 H1 E σ ∧ R ρ1 (Mu ρ1 s1 F) H1 a b ∧ SOut G F ρ1 s1 H1 W (f a s1) D := by
  cases r with
  | ok a s1 => exact fun b ρ1 H1 g l x => ⟨ρ1, s1, a, g, at_.go g l, x, SOut.shift g o⟩
  | exc c fs s1 => exact fun ρ' H' d xs g l e q => o σ ρ' H' d xs g (at_.go g l) e q
  | fail => exact o
theorem s_pass : S1 G W X sNil (.Pass pos) := PS.imp ps_pass fun D σ H ⟨F, ρ, s, E, at_, o⟩ => o σ ρ H .refl at_
theorem s_break : S1 G W X sBk (.Break pos) := PS.imp ps_break fun D σ H ⟨F, ρ, s, E, at_, o⟩ => o σ ρ H .refl at_
theorem s_cont : S1 G W X sCt (.Continue pos) := PS.imp ps_continue fun D σ H ⟨F, ρ, s, E, at_, o⟩ => o σ ρ H .refl at_
theorem set_to {t : TC} {D : Ends} {σ : St} {H : Hp} (h : tS G W (sSet t ca) D σ H) : tAsg (tE G W ca) (tG G t) D σ H := by
  obtain ⟨F, ρ, s, E, at_, o⟩ := h
  refine ⟨F, ρ, s, E, at_, (SOut.of (R := RepV G) at_ o).mono ?_⟩
  rintro x H1 ⟨ρ1, s1, v1, g1, at1, x1, o1⟩
  refine ⟨F, ρ1, s1, E, v1, at1, x1, ?_⟩
  cases e : t v1 E s1 with
  | none => rw [e] at o1; exact o1
  | some p => rw [e] at o1; exact o1
/-- x = e -/
theorem s_set {i : Nat} {x : Str} {pos' : Pos} (hN : X.N.Nodup) (ha : SE G W X ca a) (hi : X.N[i]? = some x := by rfl) (hx : Loc X.env.scope x := by first | exact .inl rfl | exact .inr rfl) (hs : swapsWith a (some (.Name x pos')) pos.line X.env = pure false := by rfl) (hf : X.fn x = true ∨ X.env.scope.names.lookup x = some .local := by first | exact .inl rfl | exact .inr rfl) :
    S1 G W X (sSet (tn i) ca) (.Assign [.Name x pos'] a pos) :=
  PS.imp (ps_set hN hi hx ha hs hf) fun D σ H h => by
    obtain ⟨F, ρ, s, E, at_, o⟩ := h
    refine ⟨F, ρ, s, E, at_, (SOut.of (R := RepV G) at_ o).mono ?_⟩
    rintro x H1 ⟨ρ1, s1, v1, g1, at1, x1, o1⟩
    exact o1 _ ρ1 H1 .refl ⟨at1.rel, at1.env.set x1 i⟩
/-- any other target -/
theorem s_asg {t : TC} (ha : SE G W X ca a) (hg : SG G X t tg) (hs : swapsWithSole [tg] a pos.line X.env = pure false := by rfl) (hw : swappedStores [tg] a X.env = pure none := by rfl) (h1 : (assignEach [tg] X.env).map (·.2) = [assign tg X.env] := by rfl) :
    S1 G W X (sSet t ca) (.Assign [tg] a pos) := PS.imp (ps_asg ha hg hs hw h1) fun D σ H h => set_to h
theorem s_par {i j : Nat} {x y : Str} {px py pt : Pos} {kt k2 pt2} (hc : X.calm = true) (hN : X.N.Nodup) (ha : SE G W X ca a) (hb : SE G W X cb b) (hw : swappedStores [.Tuple [.Name x px, .Name y py] kt pt] (.Tuple [a, b] k2 pt2) X.env = pure (some [x, y])) (hij : i ≠ j := by decide) (hi : X.N[i]? = some x := by rfl) (hj : X.N[j]? = some y := by rfl)
    (hx : X.env.scope.names.lookup x = some .local := by rfl) (hy : X.env.scope.names.lookup y = some .local := by rfl) (hs : swapsWithSole [.Tuple [.Name x px, .Name y py] kt pt] (.Tuple [a, b] k2 pt2) pos.line X.env = pure false := by rfl)
    (h1 : starEach [a, b] X.env = (false, eval a X.env) :: starEach [b] X.env := by rfl) (h2 : starEach [b] X.env = (false, eval b X.env) :: starEach [] X.env := by rfl) :
    S1 G W X (sPar i j ca cb) (.Assign [.Tuple [.Name x px, .Name y py] kt pt] (.Tuple [a, b] k2 pt2) pos) :=
  PS.imp (ps_par hc hN hi hj hij hx hy (pa_cons ha (pa_cons hb pa_nil h2) h1) hw hs) fun D σ H ⟨F, ρ, s, E, at_, o⟩ => by
    refine ⟨F, ρ, s, E, at_, (SOut.of (R := RepV G) at_ o).mono ?_⟩
    rintro x H1 ⟨ρ1, s1, v1, g1, at1, x1, o1⟩
    refine ⟨F, ρ1, s1, E, at1, (SOut.of (R := RepV G) at1 o1).mono ?_⟩
    rintro y H2 ⟨ρ2, s2, v2, g2, at2, x2, o2⟩
    exact ⟨x, y, rfl, o2 _ ρ2 H2 .refl ⟨at2.rel, (at2.env.set (at1.rel.val g2 x1) i).set x2 j⟩⟩
def sPar3 (i j l : Nat) (a b c : EC) : SC := fun E s => ofRes (a E s) E fun x s1 => ofRes (b E s1) E fun y s2 => ofRes (c E s2) E fun z s3 => .nx (((E.set i (some x)).set j (some y)).set l (some z)) s3
theorem s_par3 {i j l : Nat} {x y z : Str} {px py pz pt : Pos} {kt k2 pt2} (hc : X.calm = true) (hN : X.N.Nodup) (ha : SE G W X ca a) (hb : SE G W X cb b) (hd : SE G W X cc c) (hw : swappedStores [.Tuple [.Name x px, .Name y py, .Name z pz] kt pt] (.Tuple [a, b, c] k2 pt2) X.env = pure (some [x, y, z])) (hij : i ≠ j := by decide) (hil : i ≠ l := by decide) (hjl : j ≠ l := by decide)
    (hi : X.N[i]? = some x := by rfl) (hj : X.N[j]? = some y := by rfl) (hl : X.N[l]? = some z := by rfl)
    (hx : X.env.scope.names.lookup x = some .local := by rfl) (hy : X.env.scope.names.lookup y = some .local := by rfl) (hz : X.env.scope.names.lookup z = some .local := by rfl) (hs : swapsWithSole [.Tuple [.Name x px, .Name y py, .Name z pz] kt pt] (.Tuple [a, b, c] k2 pt2) pos.line X.env = pure false := by rfl)
    (h1 : starEach [a, b, c] X.env = (false, eval a X.env) :: starEach [b, c] X.env := by rfl) (h2 : starEach [b, c] X.env = (false, eval b X.env) :: starEach [c] X.env := by rfl) (h3 : starEach [c] X.env = (false, eval c X.env) :: starEach [] X.env := by rfl) :
    S1 G W X (sPar3 i j l ca cb cc) (.Assign [.Tuple [.Name x px, .Name y py, .Name z pz] kt pt] (.Tuple [a, b, c] k2 pt2) pos) :=
  PS.imp (ps_par3 hc hN hi hj hl hij hil hjl hx hy hz (pa_cons ha (pa_cons hb (pa_cons hd pa_nil h3) h2) h1) hw hs) fun D σ H ⟨F, ρ, s, E, at_, o⟩ => by
    refine ⟨F, ρ, s, E, at_, (SOut.of (R := RepV G) at_ o).mono ?_⟩
    rintro x H1 ⟨ρ1, s1, v1, g1, at1, x1, o1⟩
    refine ⟨F, ρ1, s1, E, at1, (SOut.of (R := RepV G) at1 o1).mono ?_⟩
    rintro y H2 ⟨ρ2, s2, v2, g2, at2, x2, o2⟩
    refine ⟨F, ρ2, s2, E, at2, (SOut.of (R := RepV G) at2 o2).mono ?_⟩
    rintro z H3 ⟨ρ3, s3, v3, g3, at3, x3, o3⟩
    exact ⟨x, y, z, rfl, o3 _ ρ3 H3 .refl ⟨at3.rel, ((at3.env.set (at2.rel.val g3 (at1.rel.val g2 x1)) i).set (at2.rel.val g3 x2) j).set x3 l⟩⟩
theorem s_exp (ha : SE G W X ca a) (hs : swapsWith a none pos.line X.env = pure false := by rfl) : S1 G W X (sExp ca) (.Expr a pos) :=
  PS.imp (ps_expr ha hs) fun D σ H ⟨F, ρ, s, E, at_, o⟩ => by
    refine ⟨F, ρ, s, E, at_, (SOut.of (R := RepV G) at_ o).mono ?_⟩
    rintro x H1 ⟨ρ1, s1, v1, g1, at1, x1, o1⟩
    exact o1 σ ρ1 H1 .refl at1
theorem s_ret (ha : SE G W X ca a) : S1 G W X (sRet ca) (.Return (some a) pos) :=
  PS.imp (ps_ret ha) fun D σ H ⟨F, ρ, s, E, at_, o⟩ => by
    refine ⟨F, ρ, s, E, at_, (SOut.of (R := RepV G) at_ o).mono ?_⟩
    rintro x H1 ⟨ρ1, s1, v1, g1, at1, x1, o1⟩
    exact o1 x ρ1 H1 .refl at1.rel x1
theorem s_retN : S1 G W X sRetN (.Return none pos) := PS.imp ps_retN fun D σ H ⟨F, ρ, s, E, at_, o⟩ => o .non ρ H .refl at_.rel (by simp [RepV, RepD])
theorem s_if {x y : SC} {l l' : List Stmt} (hc : ST G W X ba c) (ha : SS G W X x l) (hb : SS G W X y l') : S1 G W X (sIf ba x y) (.If c l l' pos) :=
  PS.imp (ps_if hc ha hb) fun D σ H ⟨F, ρ, s, E, at_, o⟩ => by
    refine ⟨F, ρ, s, E, at_, (SOut.of (R := rB) at_ o).mono ?_⟩
    rintro x H1 ⟨ρ1, s1, v1, g1, at1, rfl, o1⟩
    cases v1 with
    | true => exact ⟨F, ρ1, s1, E, at1, o1⟩
    | false => exact ⟨F, ρ1, s1, E, at1, o1⟩
theorem s_aug {i : Nat} {x : Str} {op : Operator} {p : Val → Val → Store → Res Val} {pos' : Pos} (hN : X.N.Nodup) (ho : OpP G X (inplaceOp op) p) (ha : SE G W X ca a) (hi : X.N[i]? = some x := by rfl) (hx : Loc X.env.scope x := by first | exact .inl rfl | exact .inr rfl) (hf : X.fn x = true ∨ X.env.scope.names.lookup x = some .local := by first | exact .inl rfl | exact .inr rfl) :
    S1 G W X (sAug i p ca) (.AugAssign (.Name x pos') op a pos) :=
  PS.imp (ps_aug (ti := rP G p) hN hi hx ha ho hf) fun D σ H ⟨F, ρ, s, E, at_, o⟩ => by
    unfold sAug at o
    cases e : E[i]? with
    | none => rw [e] at o; exact o.elim
    | some w =>
      cases w with
      | none => rw [e] at o; exact o.elim
      | some w =>
        rw [e] at o
        obtain ⟨y, hy, ry⟩ := at_.env.get i w e
        refine ⟨y, hy, F, ρ, s, E, at_, (SOut.of (R := RepV G) at_ o).mono ?_⟩
        rintro x H1 ⟨ρ1, s1, v1, g1, at1, x1, o1⟩
        refine ⟨F, ρ1, s1, _, w, v1, at1.rel, at_.rel.val g1 ry, x1, (SOut.of (R := RepV G) at1 o1).mono ?_⟩
        rintro z H2 ⟨ρ2, s2, v2, g2, at2, x2, o2⟩
        exact o2 _ ρ2 H2 .refl ⟨at2.rel, at2.env.set x2 i⟩

/-! ### loops -/
theorem NewT.go {F : Addr → Prop} {ρ : List Addr} {s : Store} {H H' : Hp} {E : Env} {σ : St} (n : NewT H H') (at_ : At G F ρ s H E σ) : Go ρ s H ρ s H' ∧ At G F ρ s H' E σ := by
  rcases n with rfl | ⟨p, xs, hp, rfl⟩
  · exact ⟨.refl, at_⟩
  · exact ⟨go_new hp, at_.go (go_new hp) (at_.rel.new hp)⟩
theorem whl_to {tb : SC} {D : Ends} {F : Addr → Prop} : ∀ (n : Nat) {ρ : List Addr} {s : Store} {H : Hp} {E : Env} {σ : St}, At G F ρ s H E σ → SOut G F ρ s H W (whl ba tb n E s) D → tWhile (tT G W ba) (tS G W tb) D σ H := by
  intro n ρ s H E σ at_ o
  refine ⟨fun m σ H => ∃ ρ s E, At G F ρ s H E σ ∧ SOut G F ρ s H W (whl ba tb m E s) D, ⟨n, ρ, s, E, at_, o⟩, ?_⟩
  rintro m σ H ⟨ρ, s, E, at_, o⟩
  cases m with
  | zero => exact o.elim
  | succ m =>
    refine ⟨F, ρ, s, E, at_, (SOut.of (R := rB) at_ o).mono ?_⟩
    rintro x H1 ⟨ρ1, s1, v1, g1, at1, rfl, o1⟩
    cases v1 with
    | false =>
      rw [if_neg Bool.false_ne_true]
      exact o1 σ ρ1 H1 .refl at1
    | true =>
      rw [if_pos rfl]
      refine ⟨fun σ H => ∃ ρ s E, At G F ρ s H E σ ∧ SOut G F ρ s H W (whl ba tb m E s) D, fun σ' H' h => ⟨m, Nat.lt_succ_self _, h⟩, F, ρ1, s1, E, at1, ?_⟩
      simp only [if_true] at o1
      cases e : tb E s1 with
      | nx E2 s2 => rw [e] at o1; exact fun σ' ρ' H' g at' => ⟨ρ', s2, E2, at', SOut.shift g o1⟩
      | ct E2 s2 => rw [e] at o1; exact fun σ' ρ' H' g at' => ⟨ρ', s2, E2, at', SOut.shift g o1⟩
      | bk E2 s2 => rw [e] at o1; exact o1
      | rt v s2 => rw [e] at o1; exact o1
      | exc c fs E2 s2 => rw [e] at o1; exact o1
      | fail => rw [e] at o1; exact o1
theorem s_while {x : SC} {l : List Stmt} (hp : PassesOwn (model X.prog X.w) X.A X.env X.xe) (hc : ST G W X ba c) (hb : SS G W X x l) : S1 G W X (sWhl ba x) (.While c l [] pos) :=
  PS.imp (ps_while hp hc hb) fun D σ H ⟨F, ρ, s, E, at_, o⟩ => whl_to _ at_ o
theorem for_to {ic : IC} {t : TC} {tb : SC} {D : Ends} {σ : St} {H : Hp} (h : tS G W (sFor t ic tb) D σ H) : tFor (tI G W ic) (tG G t) (tS G W tb) D σ H := by
  obtain ⟨F, ρ, s, E, at_, o⟩ := h
  refine ⟨F, ρ, s, E, at_, (SOut.of (R := JOk G) at_ o).mono ?_⟩
  rintro J H0 ⟨ρ0, s0, sr, g0, at0, jo, o0⟩
  -- a turn's body
  have body : ∀ {ρ2 : List Addr} {s2 : Store} {H2 : Hp} {E2 : Env} {σ2 : St} {N : St → Hp → Prop} {y : V} {v : Val} {H3 : Hp} {K2 : Env → Store → SRes}, At G F ρ2 s2 H2 E2 σ2 → NewT H2 H3 → (∀ M3, Still (Mu ρ2 s2 F) H2 M3 H3 → RepV G ρ2 M3 H3 v y) →
      SOut G F ρ2 s2 H2 W (match t v E2 s2 with | none => .fail | some (E1, s1) => match tb E1 s1 with | .nx E2 s2 => K2 E2 s2 | .ct E2 s2 => K2 E2 s2 | .bk E2 s2 => .nx E2 s2 | r => r) D →
      (∀ ρ4 s4 H4 E4 σ4, Go ρ2 s2 H2 ρ4 s4 H4 → At G F ρ4 s4 H4 E4 σ4 → SOut G F ρ4 s4 H4 W (K2 E4 s4) D → N σ4 H4) →
      tG G t y σ2 H3 fun σ3 H3 => tS G W tb { D with nx := N, ct := N, bk := D.nx } σ3 H3 := by
    intro ρ2 s2 H2 E2 σ2 N y v H3 K2 at2 nt rv o2 hN
    obtain ⟨g3, at3⟩ := nt.go at2
    refine ⟨F, ρ2, s2, E2, v, at3, rv _ (at2.rel.still g3), ?_⟩
    cases e : t v E2 s2 with
    | none => rw [e] at o2; exact o2
    | some p =>
      rw [e] at o2
      simp only at o2
      intro σ4 ρ4 H4 g4 at4
      refine ⟨F, ρ4, p.2, p.1, at4, ?_⟩
      have g34 := g3.trans g4
      cases eb : tb p.1 p.2 with
      | nx E5 s5 => rw [eb] at o2; exact fun σ' ρ' H' g at' => hN ρ' s5 H' E5 σ' (g34.trans g) at' (SOut.shift (g34.trans g) o2)
      | ct E5 s5 => rw [eb] at o2; exact fun σ' ρ' H' g at' => hN ρ' s5 H' E5 σ' (g34.trans g) at' (SOut.shift (g34.trans g) o2)
      | bk E5 s5 => rw [eb] at o2; exact fun σ' ρ' H' g at' => o2 σ' ρ' H' (g34.trans g) at'
      | rt x5 s5 => rw [eb] at o2; exact fun x ρ' H' g => o2 x ρ' H' (g34.trans g)
      | exc c5 f5 E5 s5 => rw [eb] at o2; exact fun σ' ρ' H' d xs g => o2 σ' ρ' H' d xs (g34.trans g)
      | fail => rw [eb] at o2; exact o2
  cases sr with
  | vals xs =>
    simp only at o0
    refine ⟨fun i m σ H => m = xs.length - i ∧ i ≤ xs.length ∧ ∃ ρ s E, At G F ρ s H E σ ∧ Go ρ0 s0 H0 ρ s H ∧ SOut G F ρ s H W (forV t tb (xs.drop i) E s) D, ⟨_, rfl, Nat.zero_le _, ρ0, s0, E, at0, .refl, o0⟩, ?_⟩
    rintro i m σ2 H2 ⟨rfl, hi, ρ2, s2, E2, at2, g2, o2⟩
    have J2 := jo ρ2 (Mu ρ2 s2 F) H2 (at0.rel.still g2) (fun _ _ h => g2.get h) i
    by_cases hlt : i < xs.length
    · obtain ⟨hgo, hy⟩ := J2.1 xs[i] (by simp [hlt])
      rw [List.drop_eq_getElem_cons hlt] at o2
      refine .inr ⟨hgo, fun σ H => ∃ ρ s E, At G F ρ s H E σ ∧ Go ρ0 s0 H0 ρ s H ∧ SOut G F ρ s H W (forV t tb (xs.drop (i + 1)) E s) D, fun σ' H' h => ⟨xs.length - (i + 1), by omega, rfl, hlt, h⟩, fun y H3 yl => ?_⟩
      obtain ⟨nt, rv⟩ := hy y H3 yl
      exact body at2 nt rv o2 fun ρ4 s4 H4 E4 σ4 g4 at4 o4 => ⟨ρ4, s4, E4, at4, g2.trans g4, o4⟩
    · rw [List.drop_eq_nil_of_le (by omega)] at o2
      exact .inl ⟨J2.2 (by omega), o2 σ2 ρ2 H2 .refl at2⟩
  | live n =>
    simp only at o0
    obtain ⟨p, hp, jp⟩ := jo
    refine ⟨fun i m σ H => ∃ ρ s E, At G F ρ s H E σ ∧ Go ρ0 s0 H0 ρ s H ∧ SOut G F ρ s H W (forN t tb n m i E s) D, ⟨most, ρ0, s0, E, at0, .refl, o0⟩, ?_⟩
    rintro i m σ2 H2 ⟨ρ2, s2, E2, at2, g2, o2⟩
    cases m with
    | zero => exact o2.elim
    | succ m =>
      simp only [forN] at o2
      cases ho : (s2[n]?).bind obItems with
      | none => rw [ho] at o2; exact o2.elim
      | some ds =>
          rw [ho] at o2
          simp only at o2
          obtain ⟨xs, hx, rr⟩ := at2.rel.obItems ho (g2.get hp)
          have J2 := jp H2 xs hx i
          cases hd : ds[i]? with
          | none =>
            rw [hd] at o2
            refine .inl ⟨J2.2 ?_, o2 σ2 ρ2 H2 .refl at2⟩
            rw [← rr.len]
            exact List.getElem?_eq_none_iff.mp hd
          | some d =>
            rw [hd] at o2
            obtain ⟨y, hy, ry⟩ := rr.get hd
            obtain ⟨hgo, hyl⟩ := J2.1 y hy
            refine .inr ⟨hgo, fun σ H => ∃ ρ s E, At G F ρ s H E σ ∧ Go ρ0 s0 H0 ρ s H ∧ SOut G F ρ s H W (forN t tb n m (i + 1) E s) D, fun σ' H' h => ⟨m, Nat.lt_succ_self _, h⟩, fun z H3 yl => ?_⟩
            obtain ⟨rfl, rfl⟩ := hyl z H3 yl
            exact body (v := d) at2 (.inl rfl) (fun M3 t3 => RepV.still t3 (fun _ _ h => h) d z ry) o2 fun ρ4 s4 H4 E4 σ4 g4 at4 o4 => ⟨ρ4, s4, E4, at4, g2.trans g4, o4⟩
theorem s_for {ic : IC} {t : TC} {x : SC} {l : List Stmt} (hp : PassesOwn (model X.prog X.w) X.A X.env X.xe) (hc : X.calm = true) (hi : SI G W X tg ic a) (hg : SG G X t tg) (hb : SS G W X x l) (hs : ∀ x, foldedSetIterable a X.env x = pure x := by intro _; rfl) : S1 G W X (sFor t ic x) (.For tg a l [] pos) :=
  PS.imp (ps_for hp hc hi hg hb hs) fun D σ H h => for_to h
end
end Ev
end
section
set_option Elab.async false
set_option linter.all false
set_option autoImplicit false
set_option maxRecDepth 100000
set_option maxHeartbeats 4000000
/-! Comprehensions. -/
namespace Ev
open PySem L2
section
variable {G : Gd} {X : Cx} {W : WX} {a b c tg : Expr} {ca cb cc : EC} {ba : BC} {pos pp : Pos}

/-! ### targets that set some slots alone -/
def tH (G : Gd) (is : List Nat) (t : TC) : TG := fun x σ H Q => ∃ F ρ s E v, At G F ρ s H E σ ∧ RepV G ρ (Mu ρ s F) H v x ∧ match t v E s with
  | some (E', s') => ∀ σ' ρ' H', Go ρ s H ρ' s' H' → At G F ρ' s' H' E' σ' → (σ'.length = σ.length ∧ ∀ j, j ∉ is → σ'[j]? = σ[j]?) → Q σ' H'
  | none => False
def tHs (G : Gd) (is : List Nat) (ts : List TC) : TGs := fun xs σ H Q => ∃ F ρ s E vs, At G F ρ s H E σ ∧ RepVs G ρ (Mu ρ s F) H vs xs ∧ match Ev.ts ts vs E s with
  | some (E', s') => ∀ σ' ρ' H', Go ρ s H ρ' s' H' → At G F ρ' s' H' E' σ' → (σ'.length = σ.length ∧ ∀ j, j ∉ is → σ'[j]? = σ[j]?) → Q σ' H'
  | none => False
abbrev SH (G : Gd) (X : Cx) (is : List Nat) (t : TC) (e : Expr) : Prop := PG X e (tH G is t)
abbrev SHs (G : Gd) (X : Cx) (is : List Nat) (t : List TC) (e : List Expr) : Prop := PGs X e (tHs G is t)
theorem sh_n {i : Nat} {x : Str} {is : List Nat} (hN : X.N.Nodup) (hi : X.N[i]? = some x := by rfl) (hx : Loc X.env.scope x := by first | exact .inl rfl | exact .inr rfl) (hf : X.fn x = true ∨ X.env.scope.names.lookup x = some .local := by first | exact .inl rfl | exact .inr rfl) (hm : i ∈ is := by simp) : SH G X is (tn i) (.Name x pos) :=
  PG.imp (pg_name hN hi hx hf) fun v σ H Q ⟨F, ρ, s, E, w, at_, r, o⟩ => o _ ρ H .refl ⟨at_.rel, at_.env.set r i⟩ ⟨by simp, fun j hj => List.getElem?_set_ne (fun e => hj (by rw [← e]; exact hm))⟩
theorem shs_nil {is : List Nat} : SHs G X is [] [] := PGs.imp pgs_nil fun vs σ H Q ⟨F, ρ, s, E, ws, at_, r, o⟩ => by
  cases ws with
  | nil => cases vs with
    | nil => exact ⟨rfl, o σ ρ H .refl at_ ⟨rfl, fun _ _ => rfl⟩⟩
    | cons _ _ => exact r.elim
  | cons _ _ => exact o.elim
theorem shs_cons {is : List Nat} {e : Expr} {es : List Expr} {t : TC} {l : List TC} (h1 : SH G X is t e) (h2 : SHs G X is l es) (hs : (assignEach (e :: es) X.env).map (·.2) = assign e X.env :: (assignEach es X.env).map (·.2) := by rfl) : SHs G X is (t :: l) (e :: es) :=
  PGs.imp (pgs_cons h1 h2 hs) fun vs σ H Q ⟨F, ρ, s, E, ws, at_, r, o⟩ => by
    cases ws with
    | nil => exact o.elim
    | cons w ws =>
      cases vs with
      | nil => exact r.elim
      | cons v vs =>
        refine ⟨v, vs, rfl, F, ρ, s, E, w, at_, r.1, ?_⟩
        simp only [Ev.ts] at o
        cases e1 : t w E s with
        | none => rw [e1] at o; exact o.elim
        | some p =>
          rw [e1] at o
          intro σ1 ρ1 H1 g1 at1 k1
          refine ⟨F, ρ1, p.2, p.1, ws, at1, at_.rel.vals g1 r.2, ?_⟩
          cases e2 : Ev.ts l ws p.1 p.2 with
          | none => simp only [e2] at o
          | some q =>
            simp only [e2] at o
            exact fun σ' ρ' H' g at' k' => o σ' ρ' H' (g1.trans g) at' ⟨k'.1.trans k1.1, fun j hj => (k'.2 j hj).trans (k1.2 j hj)⟩
theorem ts_len : ∀ (l : List TC) (ws : List Val) E s p, Ev.ts l ws E s = some p → ws.length = l.length := by
  intro l
  induction l with
  | nil => intro ws E s p h; cases ws with
    | nil => rfl
    | cons _ _ => cases h
  | cons t l ih => intro ws E s p h; cases ws with
    | nil => cases h
    | cons w ws =>
      simp only [Ev.ts] at h
      split at h
      · simp [ih _ _ _ _ h]
      · cases h
theorem sh_t {is : List Nat} {es : List Expr} {kk : Nat} {l : List TC} (hK : X.K = G.K) (hc : X.calm = true) (h : SHs G X is l es) (hn : (assignEach es X.env).length = l.length := by rfl) (hst : (assignEach es X.env).findIdx? (·.1) = none := by rfl) : SH G X is (tt l) (.Tuple es kk pos) :=
  PG.imp (PG.or (pg_tup hc h hn hst) (pg_lst hc h hn hst)) fun v σ H Q ⟨F, ρ, s, E, w, at_, r, o⟩ => by
    unfold tt at o
    cases ei : items w s with
    | none => rw [ei] at o; exact o.elim
    | some ws =>
      rw [ei] at o
      simp only at o
      have el : ws.length = l.length := by
        cases e2 : Ev.ts l ws E s with
        | none => rw [e2] at o; exact o.elim
        | some p => exact ts_len _ _ _ _ _ e2
      cases w with
      | d z =>
        cases z with
        | tup ds =>
          simp at ei
          subst ei
          have r' := r
          simp only [RepV, RepD] at r'
          obtain ⟨p, xs, rfl, hq, _, rr⟩ := r'
          exact .inl ⟨p, xs, rfl, by rw [hK]; exact hq, by rw [← rr.len]; simpa using el, F, ρ, s, E, _, at_, rr.vs, o⟩
        | lst ds =>
          simp at ei
          subst ei
          have r' := r
          simp only [RepV, RepD] at r'
          obtain ⟨p, xs, rfl, _, hq, _, rr⟩ := r'
          exact .inr ⟨p, xs, rfl, .inl (.inl hq), by rw [← rr.len]; simpa using el, F, ρ, s, E, _, at_, rr.vs, o⟩
        | _ => simp [items] at ei
      | loc n =>
        obtain ⟨p, hp, rfl⟩ := r
        simp only [items] at ei
        split at ei
        · rename_i ds ho
          obtain ⟨xs, hx, _, rr⟩ := at_.rel.ob n _ p ho hp
          cases ei
          exact .inr ⟨p, xs, rfl, .inl (.inl hx), by rw [← rr.len]; simpa using el, F, ρ, s, E, _, at_, rr.vs, o⟩
        · rename_i ds ho
          obtain ⟨xs, hx, _, rr⟩ := at_.rel.ob n _ p ho hp
          cases ei
          exact .inr ⟨p, xs, rfl, .inl (.inl hx), by rw [← rr.len]; exact el, F, ρ, s, E, _, at_, rr, o⟩
        · cases ei
      | exn _ _ => cases ei

/-! ### the block's slots -/
theorem wipe_get (σ : St) : ∀ (vs : List Nat) (j : Nat), (L2.wipe σ vs)[j]? = if j ∈ vs ∧ j < σ.length then some none else σ[j]?
  | [], j => by simp [L2.wipe]
  | v :: vs, j => by
    simp only [L2.wipe]
    by_cases hv : v = j
    · subst hv
      by_cases hl : v < σ.length
      · rw [List.getElem?_set_self (by rw [wipe_length]; exact hl), if_pos ⟨by simp, hl⟩]
      · rw [List.getElem?_eq_none (by rw [List.length_set, wipe_length]; omega), if_neg (fun h => hl h.2), List.getElem?_eq_none (by omega)]
    · rw [List.getElem?_set_ne hv, wipe_get σ vs j]
      have : j ≠ v := fun e => hv e.symm
      simp [this]
theorem wipe_agree {σ σ2 : St} {vs is : List Nat} (hs : ∀ i ∈ is, i ∈ vs) (h : σ2.length = (L2.wipe σ vs).length ∧ ∀ j, j ∉ is → σ2[j]? = (L2.wipe σ vs)[j]?) : L2.wipe σ2 vs = L2.wipe σ vs := by
  refine List.ext_getElem? fun j => ?_
  rw [wipe_get]
  have hl : σ2.length = σ.length := by rw [h.1, wipe_length]
  by_cases c : j ∈ vs ∧ j < σ2.length
  · rw [if_pos c, wipe_get, if_pos ⟨c.1, by omega⟩]
  · rw [if_neg c]
    by_cases q : j ∈ vs
    · have : ¬ j < σ2.length := fun z => c ⟨q, z⟩
      rw [List.getElem?_eq_none (by omega), List.getElem?_eq_none (by rw [wipe_length]; omega)]
    · exact h.2 j fun z => q (hs j z)

theorem go_pen {ρ0 ρ : List Addr} {s0 s : Store} {H0 H : Hp} {p : Addr} {u : HO} (g : Go ρ0 s0 H0 ρ s H) (n : H0 p = none) : Go ρ0 s0 H0 ρ s (upd H p u) := by
  refine ⟨g.pre, g.liv, fun a w h hl => ?_, fun a w h => ?_⟩
  · rw [upd_ne (ne_of_none h n)]; exact g.keep a w h hl
  · obtain ⟨w', h'⟩ := g.there a w h
    exact ⟨w', by rw [upd_ne (ne_of_none h n)]; exact h'⟩
theorem go_into {ρ0 ρ : List Addr} {s0 s : Store} {H0 H : Hp} {p : Addr} {o : Obj} (g : Go ρ0 s0 H0 ρ s H) (n : H0 p = none) (l0 : ρ0.length = s0.length) (l : ρ.length = s.length) : Go ρ0 s0 H0 (ρ ++ [p]) (s ++ [o]) H := by
  obtain ⟨m, e, hm⟩ := g.pre
  refine ⟨⟨m ++ [p], by rw [e, List.append_assoc], fun a ha => ?_⟩, fun k hk h => ?_, g.keep, g.there⟩
  · rcases List.mem_append.mp ha with h | h
    · exact hm a h
    · rw [List.mem_singleton.mp h]; exact n
  · refine g.liv k hk ((live_push ?_).mp h)
    have : ρ0.length ≤ ρ.length := by rw [e, List.length_append]; omega
    omega
theorem upd_id {H : Hp} {p : Addr} {u : HO} (h : H p = some u) : upd H p u = H := by
  funext a
  by_cases c : a = p
  · rw [c, upd_same, h]
  · rw [upd_ne c]
theorem RepVs.snoc {ρ : List Addr} {M : Addr → Prop} {H : Hp} : ∀ {vs : List Val} {xs : List V} {v : Val} {x : V}, RepVs G ρ M H vs xs → RepV G ρ M H v x → RepVs G ρ M H (vs ++ [v]) (xs ++ [x])
  | [], [], _, _, _, h => ⟨h, trivial⟩
  | _ :: _, _ :: _, _, _, h, h' => ⟨h.1, RepVs.snoc h.2 h'⟩
  | [], _ :: _, _, _, h, _ => h.elim
  | _ :: _, [], _, _, h, _ => h.elim
abbrev Shut : WX := fun _ _ _ _ => False

/-! ### a turn -/
theorem bind_ok' {A B : Type} {r : Res A} {f : A → Store → Res B} {y : B} {s' : Store} (h : r.bind f = .ok y s') : ∃ x s1, r = .ok x s1 ∧ f x s1 = .ok y s' := by
  cases r with
  | ok x s1 => exact ⟨x, s1, rfl, h⟩
  | exc _ _ _ => cases h
  | fail => cases h
theorem notin {ρ ρ' : List Addr} {s s' : Store} {H H' : Hp} {p : Addr} {u : HO} (g : Go ρ s H ρ' s' H') (n : p ∉ ρ) (h : H p = some u) : p ∉ ρ' := fun q => by
  obtain ⟨m, e, hm⟩ := g.pre
  rw [e] at q
  rcases List.mem_append.mp q with q | q
  · exact n q
  · have := hm p q; rw [h] at this; cases this
theorem lc_body {F : Addr → Prop} {is ws : List Nat} {t : TC} {c : BC} {e : EC} {E : Env} {σ : St} {D : Addr} {acc : List V} {vs vF : List Val} {x : Val} {y : V} {ρ : List Addr} {s sF : Store} {H H' : Hp} {Nx : Hp → Prop} {nxt : Store → Res (List Val)}
    (hsub : ∀ i ∈ is, i ∈ ws) (at_ : At G (FP F D) ρ s H (wipe E ws) (L2.wipe σ ws)) (hD : H D = some (.lst acc)) (nD : D ∉ ρ) (rv : RepVs G ρ (Mu ρ s (FP F D)) H vs acc) (nt : NewT H H')
    (ry : ∀ M3, Still (Mu ρ s (FP F D)) H M3 H' → RepV G ρ M3 H' x y) (hlen : vs.length < sizeLine) (htot : ((lcT ws t c e E x s nxt).bind fun ys s' => .ok (vs ++ ys) s') = .ok vF sF)
    (hN : ∀ ρ4 s4 H4 acc4 vs4, At G (FP F D) ρ4 s4 H4 (wipe E ws) (L2.wipe σ ws) → H4 D = some (.lst acc4) → D ∉ ρ4 → RepVs G ρ4 (Mu ρ4 s4 (FP F D)) H4 vs4 acc4 → (∀ H0 ρ0 s0, H0 D = none → Go ρ0 s0 H0 ρ s H → Go ρ0 s0 H0 ρ4 s4 H4) → vs4.length ≤ vs.length + 1 →
      ((nxt s4).bind fun ys s' => .ok (vs4 ++ ys) s') = .ok vF sF → Nx H4) :
    tH G is t y (L2.wipe σ ws) H' fun σ2 H2 => L2.wipe σ2 ws = L2.wipe σ ws ∧ tT G Shut c σ2 H2 fun b H3 => if b = true then tE G Shut e σ2 H3 fun y H4 => ∃ acc, H4 D = some (.lst acc) ∧ acc.length < sizeLine ∧ Nx (upd H4 D (.lst (acc ++ [y]))) else Nx H3 := by
  obtain ⟨g1, at1⟩ := nt.go at_
  have rl : vs.length = acc.length := rv.len
  refine ⟨FP F D, ρ, s, wipe E ws, x, at1, ry _ (at_.rel.still g1), ?_⟩
  obtain ⟨ys0, s0, h1, h2⟩ := bind_ok' htot
  unfold lcT at h1
  cases e1 : t x (wipe E ws) s with
  | none => rw [e1] at h1; cases h1
  | some p =>
    rw [e1] at h1
    simp only at h1 ⊢
    intro σ' ρ2 H2 g2 at2 kk
    have k := wipe_agree hsub kk
    refine ⟨k, FP F D, ρ2, p.2, p.1, at2, ?_⟩
    obtain ⟨b, s3, e2, h3⟩ := bind_ok' h1
    rw [e2]
    rintro b' ρ3 H3 g3 l3 rfl
    have at3 := at2.go g3 l3
    have g13 := (g1.trans g2).trans g3
    have hD3 : H3 D = some (.lst acc) := g13.keep D _ hD fun n hn _ => nD (List.mem_of_getElem? hn)
    have nD3 : D ∉ ρ3 := notin g13 nD hD
    have base3 : At G (FP F D) ρ3 s3 H3 (wipe E ws) (L2.wipe σ ws) := at_.go g13 l3
    cases b with
    | false =>
      rw [if_neg Bool.false_ne_true]
      simp only [Bool.false_eq_true, if_false] at h3
      refine hN ρ3 s3 H3 acc vs base3 hD3 nD3 (at_.rel.vals g13 rv) (fun H0 ρ0 s0 n g => g.trans g13) (by omega) ?_
      rw [h3]; exact h2
    | true =>
      rw [if_pos rfl]
      simp only [if_true] at h3
      obtain ⟨z, s4, e3, h4⟩ := bind_ok' h3
      obtain ⟨zs, s5, h5, h6⟩ := bind_ok' h4
      refine ⟨FP F D, ρ3, s3, p.1, at3, ?_⟩
      rw [e3]
      intro yv ρ4 H4 g4 l4 x4
      have g14 := g13.trans g4
      have hD4 : H4 D = some (.lst acc) := g14.keep D _ hD fun n hn _ => nD (List.mem_of_getElem? hn)
      have nD4 : D ∉ ρ4 := notin g14 nD hD
      have n1 : ∀ xs, H4 D ≠ some (.tup xs) := by rw [hD4]; simp
      have n2 : ∀ o v, H4 D ≠ some (.frz o v) := by rw [hD4]; simp
      have n3 : ∀ xs, H4 D ≠ some (.xd xs) := by rw [hD4]; simp
      refine ⟨acc, hD4, by omega, ?_⟩
      have st := still_pen (ρ := ρ4) (s := s4) (F := F) (p := D) (u := .lst (acc ++ [yv])) n1 n2 n3
      refine hN ρ4 s4 _ (acc ++ [yv]) (vs ++ [z]) ((at_.go g14 l4).pen n1 n2 n3) upd_same nD4 ?_ (fun H0 ρ0 s0 n g => go_pen (g.trans g14) n) (by simp) ?_
      · exact (RepVs.still st (fun _ _ h => h) _ _ (at_.rel.vals g14 rv)).snoc (RepV.still st (fun _ _ h => h) _ _ x4)
      · rw [h5]
        cases h6
        simpa using h2
/-! ### the list -/
theorem lc_to {F : Addr → Prop} {is ws : List Nat} {t : TC} {ic : IC} {c : BC} {e : EC} {mk : List Val → Store → Res Val} {σ : St} {H : Hp} {Q : VK} (hsub : ∀ i ∈ is, i ∈ ws)
    (hmk : ∀ (F : Addr → Prop) ρ0 s0 H0 ρ s H D acc vs, Rel G F ρ0 s0 H0 → H0 D = none → Out G F ρ0 s0 H0 (fun C d H' => W C d σ H') (RepV G) (mk vs s) Q → Rel G (FP F D) ρ s H → H D = some (.lst acc) → D ∉ ρ → RepVs G ρ (Mu ρ s (FP F D)) H vs acc → Go ρ0 s0 H0 ρ s H → vs.length ≤ sizeLine → Q (.ref D) H)
    (h : tE G W (lcG mk ws t ic c e) σ H Q) : tLc (tI G W ic) (tH G is t) (tT G Shut c) (tE G Shut e) ws σ H Q := by
  obtain ⟨F, ρ, s, E, at_, o⟩ := h
  refine ⟨F, ρ, s, E, at_, (Out.bind (R := JOk G) o).mono ?_⟩
  rintro J H0 ⟨ρ0, s0, sr, g0, l0, jo, o0⟩ D nD0
  have at0 := at_.go g0 l0
  have atG := at0.guard (p := D) (o := .lst []) nD0
  have atW : At G (FP F D) ρ0 s0 (upd H0 D (.lst [])) (wipe E ws) (L2.wipe σ ws) := ⟨atG.rel, atG.env.wipe ws⟩
  have gW : Go ρ0 s0 H0 ρ0 s0 (upd H0 D (.lst [])) := go_pen .refl nD0
  have nDr : D ∉ ρ0 := l0.nin nD0
  have tot : ∃ vF sF, lcS ws t c e E sr s0 = .ok vF sF := by
    cases q : lcS ws t c e E sr s0 with
    | ok a b => exact ⟨a, b, rfl⟩
    | fail => rw [q] at o0; exact o0.elim
    | exc c' fs s' =>
      exfalso
      unfold lcS at q
      cases sr with
      | vals xs =>
        simp only at q
        split at q
        · cases z : lcV ws t c e E xs s0 with
          | ok _ _ => rw [z] at q; cases q
          | exc _ _ _ => rw [z] at q; cases q
          | fail => rw [z] at q; cases q
        · cases q
      | live n =>
        simp only at q
        cases z : lcN ws t c e E n (line + 2) 0 s0 with
        | ok _ _ => rw [z] at q; cases q
        | exc _ _ _ => rw [z] at q; cases q
        | fail => rw [z] at q; cases q
  obtain ⟨vF, sF, tot⟩ := tot
  rw [tot] at o0
  simp only [Res.bind_ok] at o0
  have stG : ∀ {ρ2 : List Addr} {s2 : Store} {H2 : Hp}, Go ρ0 s0 H0 ρ2 s2 H2 → Still (Mu ρ0 s0 F) H0 (Mu ρ2 s2 (FP F D)) H2 := fun g => by
    have st := l0.still g
    refine ⟨fun a o e n => ⟨(st.fz a o e n).1, fun q => ?_⟩, st.tp, st.lk, st.xd⟩
    rcases q with (q | q) | q
    · exact (st.fz a o e n).2 (.inl q)
    · rw [q, nD0] at e; cases e
    · exact (st.fz a o e n).2 (.inr q)
  have shut_ok' : ∀ {r : Res (List Val)}, r.shut = .ok vF sF → r = .ok vF sF := fun {r} h => by
    cases r with
    | ok _ _ => exact h
    | exc _ _ _ => cases h
    | fail => cases h
  cases sr with
  | vals xs =>
    simp only [lcS] at tot
    split at tot
    · rename_i hxl
      have tot := shut_ok' tot
      refine ⟨fun i m H => m = xs.length - i ∧ i ≤ xs.length ∧ ∃ ρ s acc vs, At G (FP F D) ρ s H (wipe E ws) (L2.wipe σ ws) ∧ H D = some (.lst acc) ∧ D ∉ ρ ∧ RepVs G ρ (Mu ρ s (FP F D)) H vs acc ∧ Go ρ0 s0 H0 ρ s H ∧ vs.length ≤ i ∧ ((lcV ws t c e E (xs.drop i) s).bind fun ys s' => .ok (vs ++ ys) s') = .ok vF sF,
        ⟨_, rfl, Nat.zero_le _, ρ0, s0, [], [], atW, upd_same, nDr, trivial, gW, Nat.le_refl _, by simp [tot]⟩, ?_⟩
      rintro i m H2 ⟨rfl, hi, ρ2, s2, acc, vs, at2, hD2, nD2, rv2, g2, hl2, e2⟩
      have J2 := jo ρ2 _ H2 (stG g2) (fun _ _ h => g2.get h) i
      by_cases hlt : i < xs.length
      · obtain ⟨hgo, hy⟩ := J2.1 xs[i] (by simp [hlt])
        rw [List.drop_eq_getElem_cons hlt] at e2
        refine .inr ⟨hgo, fun H => ∃ ρ s acc vs, At G (FP F D) ρ s H (wipe E ws) (L2.wipe σ ws) ∧ H D = some (.lst acc) ∧ D ∉ ρ ∧ RepVs G ρ (Mu ρ s (FP F D)) H vs acc ∧ Go ρ0 s0 H0 ρ s H ∧ vs.length ≤ i + 1 ∧ ((lcV ws t c e E (xs.drop (i + 1)) s).bind fun ys s' => .ok (vs ++ ys) s') = .ok vF sF,
          fun H' h => ⟨xs.length - (i + 1), by omega, rfl, hlt, h⟩, fun y H3 yl => ?_⟩
        obtain ⟨nt, rv⟩ := hy y H3 yl
        refine lc_body (nxt := fun s' => lcV ws t c e E (xs.drop (i + 1)) s') hsub at2 hD2 nD2 rv2 nt rv (by rw [line_eq]; omega) e2 fun ρ4 s4 H4 acc4 vs4 a4 h4 n4 r4 g4 l4 e4 => ⟨ρ4, s4, acc4, vs4, a4, h4, n4, r4, g4 _ _ _ nD0 g2, by omega, e4⟩
      · rw [List.drop_eq_nil_of_le (by omega)] at e2
        simp only [lcV, Res.bind_ok, List.append_nil] at e2
        cases e2
        exact .inl ⟨J2.2 (by omega), hmk F ρ0 s0 H0 ρ2 sF H2 D acc vF l0 nD0 o0 at2.rel hD2 nD2 rv2 g2 (by rw [line_eq]; omega)⟩
    · cases tot
  | live n =>
    simp only [lcS] at tot
    have tot := shut_ok' tot
    obtain ⟨p, hp, jp⟩ := jo
    have n0 : n < ρ0.length := (List.getElem?_eq_some_iff.mp hp).1
    refine ⟨fun i m H => ∃ ρ s acc vs, At G (FP F D) ρ s H (wipe E ws) (L2.wipe σ ws) ∧ H D = some (.lst acc) ∧ D ∉ ρ ∧ RepVs G ρ (Mu ρ s (FP F D)) H vs acc ∧ Go ρ0 s0 H0 ρ s H ∧ vs.length ≤ i ∧ i ≤ line ∧ ((lcN ws t c e E n m i s).bind fun ys s' => .ok (vs ++ ys) s') = .ok vF sF,
      ⟨line + 2, ρ0, s0, [], [], atW, upd_same, nDr, trivial, gW, Nat.le_refl _, Nat.zero_le _, by simp [tot]⟩, ?_⟩
    rintro i m H2 ⟨ρ2, s2, acc, vs, at2, hD2, nD2, rv2, g2, hl2, hl, e2⟩
    cases m with
    | zero => cases e2
    | succ m =>
      simp only [lcN] at e2
      cases ho : (s2[n]?).bind obItems with
      | none => rw [ho] at e2; cases e2
      | some ds =>
          rw [ho] at e2
          simp only at e2
          obtain ⟨xs, hx, rr⟩ := at2.rel.obItems ho (g2.get hp)
          have J2 := jp H2 xs hx i
          cases hd : ds[i]? with
          | none =>
            rw [hd] at e2
            simp only [Res.bind_ok, List.append_nil] at e2
            cases e2
            refine .inl ⟨J2.2 ?_, hmk F ρ0 s0 H0 ρ2 sF H2 D acc vF l0 nD0 o0 at2.rel hD2 nD2 rv2 g2 (by rw [line_eq]; omega)⟩
            rw [← rr.len]
            exact List.getElem?_eq_none_iff.mp hd
          | some d =>
            rw [hd] at e2
            simp only at e2
            by_cases hil : i < line
            · rw [if_pos hil] at e2
              obtain ⟨y, hy, ry⟩ := rr.get hd
              obtain ⟨hgo, hyl⟩ := J2.1 y hy
              refine .inr ⟨hgo, fun H => ∃ ρ s acc vs, At G (FP F D) ρ s H (wipe E ws) (L2.wipe σ ws) ∧ H D = some (.lst acc) ∧ D ∉ ρ ∧ RepVs G ρ (Mu ρ s (FP F D)) H vs acc ∧ Go ρ0 s0 H0 ρ s H ∧ vs.length ≤ i + 1 ∧ i + 1 ≤ line ∧ ((lcN ws t c e E n m (i + 1) s).bind fun ys s' => .ok (vs ++ ys) s') = .ok vF sF,
                fun H' h => ⟨m, Nat.lt_succ_self _, h⟩, fun z H3 yl => ?_⟩
              obtain ⟨rfl, rfl⟩ := hyl z H3 yl
              exact lc_body (nxt := fun s' => lcN ws t c e E n m (i + 1) s') hsub at2 hD2 nD2 rv2 (.inl rfl) (x := d) (fun M3 t3 => RepV.still t3 (fun _ _ h => h) d z ry) (by rw [line_eq]; omega) e2 fun ρ4 s4 H4 acc4 vs4 a4 h4 n4 r4 g4 l4 e4 => ⟨ρ4, s4, acc4, vs4, a4, h4, n4, r4, g4 _ _ _ nD0 g2, by omega, by omega, e4⟩
            · rw [if_neg hil] at e2; cases e2
theorem PTs.imp {ifs : List Expr} {t t' : TT} (h : PTs X ifs t) (i : ∀ σ H Q, t' σ H Q → t σ H Q) : PTs X ifs t' := ⟨fun pins s σ H Q I q => h.run pins s σ H Q I (i σ H Q q)⟩
abbrev STs (G : Gd) (W : WX) (X : Cx) (c : BC) (es : List Expr) : Prop := PTs X es (tT G W c)
theorem sts_nil : STs G W X yes [] := PTs.imp pts_nil fun σ H Q ⟨F, ρ, s, E, at_, o⟩ => Out.ret (R := rB) o at_.rel rfl
theorem sts_one (h : ST G W X ba c) : STs G W X ba [c] := pts_one h
theorem allD_some : ∀ {vs : List Val} {ds : List D}, allD vs = some ds → vs = ds.map .d
  | [], ds, h => by cases h; rfl
  | .d x :: r, ds, h => by
    simp only [allD_cons, Option.map_eq_some_iff] at h
    obtain ⟨e, h1, rfl⟩ := h
    rw [allD_some h1]; rfl
  | .loc _ :: _, _, h => by cases h
  | .exn _ _ :: _, _, h => by cases h
theorem mk_frz {Q : VK} {σ : St} (F : Addr → Prop) (ρ0 : List Addr) (s0 : Store) (H0 : Hp) (ρ : List Addr) (s : Store) (H : Hp) (D : Addr) (acc : List V) (vs : List Val) (l0 : Rel G F ρ0 s0 H0) (nD : H0 D = none) (o : Out G F ρ0 s0 H0 (fun C d H' => W C d σ H') (RepV G) (mkL vs s) Q) (r : Rel G (FP F D) ρ s H) (hD : H D = some (.lst acc)) (nDr : D ∉ ρ)
    (rv : RepVs G ρ (Mu ρ s (FP F D)) H vs acc) (g : Go ρ0 s0 H0 ρ s H) (hl : vs.length ≤ sizeLine) : Q (.ref D) H := by
  unfold mkL at o
  cases e : allD vs with
  | none => rw [e] at o; exact o.elim
  | some ds =>
    rw [e] at o
    simp only at o
    split at o
    · have ev := allD_some e
      subst ev
      refine o _ ρ H g (r.sub fun _ z => .inl z) ?_
      simp only [RepV, RepD]
      refine ⟨D, acc, rfl, fun q => ?_, hD, by simpa using hl, RepDs.still (still_sub (mu_sub fun _ z => .inl z)) _ _ (rv.ds e)⟩
      rcases q with q | ⟨n, hn, _⟩
      · obtain ⟨w, hw⟩ := l0.ft D q; rw [nD] at hw; cases hw
      · exact nDr (List.mem_of_getElem? hn)
    · exact o.elim
theorem mk_new {Q : VK} {σ : St} (F : Addr → Prop) (ρ0 : List Addr) (s0 : Store) (H0 : Hp) (ρ : List Addr) (s : Store) (H : Hp) (D : Addr) (acc : List V) (vs : List Val) (l0 : Rel G F ρ0 s0 H0) (nD : H0 D = none) (o : Out G F ρ0 s0 H0 (fun C d H' => W C d σ H') (RepV G) (mkLA vs s) Q) (r : Rel G (FP F D) ρ s H) (hD : H D = some (.lst acc)) (nDr : D ∉ ρ)
    (rv : RepVs G ρ (Mu ρ s (FP F D)) H vs acc) (g : Go ρ0 s0 H0 ρ s H) (hl : vs.length ≤ sizeLine) : Q (.ref D) H := by
  have nF : ¬ F D := fun q => by obtain ⟨w, hw⟩ := l0.ft D q; rw [nD] at hw; cases hw
  have fin : ∀ ob, (∀ M', Still (Mu ρ s (FP F D)) H M' (upd H D (.lst acc)) → RepO G (ρ ++ [D]) M' (upd H D (.lst acc)) D ob) → Out G F ρ0 s0 H0 (fun C d H' => W C d σ H') (RepV G) (.ok (.loc s.length) (s ++ [ob])) Q → Q (.ref D) H := fun ob h o => by
    have r' := r.adopt (u := .lst acc) nDr nF (by rw [hD]; simp) (by rw [hD]; simp) (by rw [hD]; simp) h
    rw [upd_id hD] at r'
    refine o _ _ _ (go_into g nD l0.len r.len) r' ⟨D, ?_, rfl⟩
    rw [List.getElem?_append_right (by rw [r.len]; exact Nat.le_refl _), r.len]; simp
  have pre : ∀ (n : Nat) a, ρ[n]? = some a → (ρ ++ [D])[n]? = some a := fun n a h => by rw [List.getElem?_append_left (List.getElem?_eq_some_iff.mp h).1]; exact h
  unfold mkLA at o
  cases e : allD vs with
  | none =>
    rw [e] at o
    exact fin (.lv vs) (fun M' t => ⟨acc, upd_same, hl, RepVs.still t pre _ _ rv⟩) o
  | some ds =>
    rw [e] at o
    have ev := allD_some e
    subst ev
    exact fin (.lst ds) (fun M' t => ⟨acc, upd_same, by simpa using hl, RepDs.still t _ _ (rv.ds e)⟩) o
section
variable {ic : IC} {iter elt : Expr} {ifs : List Expr} {scope : Scope} {own : List (Str × Nat)} {is : List Nat} {t : TC} {bc : BC} {ce : EC}
/-- a block that runs in X -/
abbrev InBlk (X : Cx) (scope : Scope) (P : Cx → Prop) : Prop := ∀ (s : Shared) (H : Hp) (C : Addr) (cl : List (Str × Addr)) (fp : List Addr), P (X.blk s H scope (compEnvC scope cl C X.env) fp)
theorem se_lc (hc : X.calm = true) (hN : X.N.Nodup) (hi : SI G W X tg ic iter) (ok : BlkOk X.N X.env.scope scope own) (hg : InBlk X scope fun X => SH G X is t tg) (ht : InBlk X scope fun X => STs G Shut X bc ifs) (he : InBlk X scope fun X => SE G Shut X ce elt)
    (hsub : ∀ i ∈ is, i ∈ own.map (·.2) := by decide) (hs : ∀ x, foldedSetIterable iter X.env x = pure x := by intro _; rfl) : SE G W X (lc (own.map (·.2)) t ic bc ce) (.ListComp elt [⟨tg, iter, ifs, 0⟩] scope pos) :=
  PE.imp (pe_lc hc hN hi ok hg ht he hs) fun σ H Q h => lc_to (F := fun _ => False) hsub mk_frz h
theorem se_lcA (hc : X.calm = true) (hN : X.N.Nodup) (hi : SI G W X tg ic iter) (ok : BlkOk X.N X.env.scope scope own) (hg : InBlk X scope fun X => SH G X is t tg) (ht : InBlk X scope fun X => STs G Shut X bc ifs) (he : InBlk X scope fun X => SE G Shut X ce elt)
    (hsub : ∀ i ∈ is, i ∈ own.map (·.2) := by decide) (hs : ∀ x, foldedSetIterable iter X.env x = pure x := by intro _; rfl) : SE G W X (lcA (own.map (·.2)) t ic bc ce) (.ListComp elt [⟨tg, iter, ifs, 0⟩] scope pos) :=
  PE.imp (pe_lc hc hN hi ok hg ht he hs) fun σ H Q h => lc_to (F := fun _ => False) hsub mk_new h
/-- x = [..] on one line -/
theorem lc_set {i : Nat} {mk : List Val → Store → Res Val} (hsub : ∀ i ∈ is, i ∈ own.map (·.2))
    (hmk : ∀ {Q : VK} {σ : St} (F : Addr → Prop) ρ0 s0 H0 ρ s H D acc vs, Rel G F ρ0 s0 H0 → H0 D = none → Out G F ρ0 s0 H0 (fun C d H' => W C d σ H') (RepV G) (mk vs s) Q → Rel G (FP F D) ρ s H → H D = some (.lst acc) → D ∉ ρ → RepVs G ρ (Mu ρ s (FP F D)) H vs acc → Go ρ0 s0 H0 ρ s H → vs.length ≤ sizeLine → Q (.ref D) H)
    {D : Ends} {σ : St} {H : Hp} (h : tS G W (sSet (tn i) (lcG mk (own.map (·.2)) t ic bc ce)) D σ H) : tAsg (tLc (tI G W ic) (tH G is t) (tT G Shut bc) (tE G Shut ce) (own.map (·.2))) (gName i) D σ H := by
  obtain ⟨F, ρ, s, E, at_, o⟩ := h
  refine lc_to (G := G) (W := W) (F := F) (mk := mk) hsub hmk ⟨F, ρ, s, E, at_, (SOut.of (R := RepV G) at_ o).mono ?_⟩
  rintro x H1 ⟨ρ1, s1, v1, g1, at1, x1, o1⟩
  exact o1 _ ρ1 H1 .refl ⟨at1.rel, at1.env.set x1 i⟩
theorem s_setLc {i : Nat} {y : Str} {py spos : Pos} (hc : X.calm = true) (hN : X.N.Nodup) (hi : SI G W X tg ic iter) (ok : BlkOk X.N X.env.scope scope own) (hg : InBlk X scope fun X => SH G X is t tg) (ht : InBlk X scope fun X => STs G Shut X bc ifs) (he : InBlk X scope fun X => SE G Shut X ce elt)
    (hsw : swapsWith (.ListComp elt [⟨tg, iter, ifs, 0⟩] scope pos) (some (.Name y py)) spos.line X.env = pure true) (hy : X.N[i]? = some y := by rfl) (hyl : X.env.scope.names.lookup y = some .local := by rfl)
    (hsub : ∀ i ∈ is, i ∈ own.map (·.2) := by decide) (hs : ∀ x, foldedSetIterable iter X.env x = pure x := by intro _; rfl) : S1 G W X (sSet (tn i) (lc (own.map (·.2)) t ic bc ce)) (.Assign [.Name y py] (.ListComp elt [⟨tg, iter, ifs, 0⟩] scope pos) spos) :=
  PS.imp (ps_setLc hc hN hy hyl hsw hi ok hg ht he hs) fun D σ H h => lc_set hsub mk_frz h
theorem s_setLcA {i : Nat} {y : Str} {py spos : Pos} (hc : X.calm = true) (hN : X.N.Nodup) (hi : SI G W X tg ic iter) (ok : BlkOk X.N X.env.scope scope own) (hg : InBlk X scope fun X => SH G X is t tg) (ht : InBlk X scope fun X => STs G Shut X bc ifs) (he : InBlk X scope fun X => SE G Shut X ce elt)
    (hsw : swapsWith (.ListComp elt [⟨tg, iter, ifs, 0⟩] scope pos) (some (.Name y py)) spos.line X.env = pure true) (hy : X.N[i]? = some y := by rfl) (hyl : X.env.scope.names.lookup y = some .local := by rfl)
    (hsub : ∀ i ∈ is, i ∈ own.map (·.2) := by decide) (hs : ∀ x, foldedSetIterable iter X.env x = pure x := by intro _; rfl) : S1 G W X (sSet (tn i) (lcA (own.map (·.2)) t ic bc ce)) (.Assign [.Name y py] (.ListComp elt [⟨tg, iter, ifs, 0⟩] scope pos) spos) :=
  PS.imp (ps_setLc hc hN hy hyl hsw hi ok hg ht he hs) fun D σ H h => lc_set hsub mk_new h
end
end
end Ev
end
section
set_option Elab.async false
set_option linter.all false
set_option autoImplicit false
set_option maxRecDepth 100000
set_option maxHeartbeats 4000000
/-! Calls of the text's own defs. -/
namespace Ev
open PySem L2
section
variable {G : Gd} {F : Addr → Prop} {ρ ρ' : List Addr} {s s' : Store} {H H' : Hp}

/-! ### a call's end -/
theorem cloV_keep {n : Nat} {ρ1 : List Addr} {M : Addr → Prop} {H : Hp} (hp : ∀ (m : Nat) a, m < n → ρ'[m]? = some a → ρ1[m]? = some a) : ∀ {v : Val} {x : V}, cloV n v = true → RepV G ρ' M H v x → RepV G ρ1 M H v x
  | .d z, x, _, h => h
  | .loc m, x, c, ⟨a, h, e⟩ => ⟨a, hp m a (by simpa [cloV] using c) h, e⟩
  | .exn c fs, x, _, h => h
theorem cloVs_keep {n : Nat} {ρ1 : List Addr} {M : Addr → Prop} {H : Hp} (hp : ∀ (m : Nat) a, m < n → ρ'[m]? = some a → ρ1[m]? = some a) : ∀ {v : List Val} {x : List V}, v.all (cloV n) = true → RepVs G ρ' M H v x → RepVs G ρ1 M H v x
  | [], [], _, h => h
  | v :: vs, x :: xs, c, h => by
    simp only [List.all_cons, Bool.and_eq_true] at c
    exact ⟨cloV_keep hp c.1 h.1, cloVs_keep hp c.2 h.2⟩
  | [], _ :: _, _, h => h
  | _ :: _, [], _, h => h
theorem cloF_keep {κ : Type} {n : Nat} {ρ1 : List Addr} {M : Addr → Prop} {H : Hp} (hp : ∀ (m : Nat) a, m < n → ρ'[m]? = some a → ρ1[m]? = some a) : ∀ {v : List (κ × Val)} {x : List (κ × V)}, (v.all fun p => cloV n p.2) = true → RepF G ρ' M H v x → RepF G ρ1 M H v x
  | [], [], _, h => h
  | v :: vs, x :: xs, c, h => by
    simp only [List.all_cons, Bool.and_eq_true] at c
    exact ⟨⟨h.1.1, cloV_keep hp c.1 h.1.2⟩, cloF_keep hp c.2 h.2⟩
  | [], _ :: _, _, h => h
  | _ :: _, [], _, h => h
theorem cloO_keep {n : Nat} {ρ1 : List Addr} {M : Addr → Prop} {H : Hp} {a : Addr} (hp : ∀ (m : Nat) a, m < n → ρ'[m]? = some a → ρ1[m]? = some a) : ∀ {o : Obj}, cloO n o = true → RepO G ρ' M H a o → RepO G ρ1 M H a o
  | .lst _, _, h => h
  | .lv vs, c, ⟨xs, h1, h2, h3⟩ => ⟨xs, h1, h2, cloVs_keep hp c h3⟩
  | .dct vs, c, ⟨xs, h1, h2, h3⟩ => ⟨xs, h1, h2, cloF_keep hp c h3⟩
  | .ins cc vs, c, ⟨dx, xs, h1, h3⟩ => ⟨dx, xs, h1, cloF_keep hp c h3⟩
  | .dead, _, _ => trivial
theorem clo_V {M : Addr → Prop} {H : Hp} (n : Nat) (hl : ρ.length ≤ n) : ∀ {v : Val} {x : V}, RepV G ρ M H v x → cloV n v = true
  | .d z, x, _ => rfl
  | .loc m, x, ⟨a, h, e⟩ => by
    have := (List.getElem?_eq_some_iff.mp h).1
    simp only [cloV, decide_eq_true_eq]; omega
  | .exn c fs, x, _ => rfl
theorem clo_Vs {M : Addr → Prop} {H : Hp} (n : Nat) (hl : ρ.length ≤ n) : ∀ {v : List Val} {x : List V}, RepVs G ρ M H v x → v.all (cloV n) = true
  | [], [], _ => rfl
  | v :: vs, x :: xs, h => by simp only [List.all_cons, Bool.and_eq_true]; exact ⟨clo_V n hl h.1, clo_Vs n hl h.2⟩
  | [], _ :: _, h => h.elim
  | _ :: _, [], h => h.elim
theorem clo_F {κ : Type} {M : Addr → Prop} {H : Hp} (n : Nat) (hl : ρ.length ≤ n) : ∀ {v : List (κ × Val)} {x : List (κ × V)}, RepF G ρ M H v x → (v.all fun p => cloV n p.2) = true
  | [], [], _ => rfl
  | v :: vs, x :: xs, h => by simp only [List.all_cons, Bool.and_eq_true]; exact ⟨clo_V n hl h.1.2, clo_F n hl h.2⟩
  | [], _ :: _, h => h.elim
  | _ :: _, [], h => h.elim
theorem Rel.clo (l : Rel G F ρ s H) : clo s.length s = true := by
  unfold Ev.clo
  refine List.all_eq_true.mpr fun o ho => ?_
  obtain ⟨n, hn⟩ := List.mem_iff_getElem?.mp ho
  have hl : n < ρ.length := by rw [l.len]; exact (List.getElem?_eq_some_iff.mp hn).1
  have q := l.ob n o _ hn (List.getElem?_eq_getElem hl)
  cases o with
  | lst ds => rfl
  | lv vs => obtain ⟨xs, _, _, r⟩ := q; exact clo_Vs _ (Nat.le_of_eq l.len) r
  | dct vs => obtain ⟨xs, _, _, r⟩ := q; exact clo_F _ (Nat.le_of_eq l.len) r
  | ins c vs => obtain ⟨dx, xs, _, r⟩ := q; exact clo_F _ (Nat.le_of_eq l.len) r
  | dead => rfl
/-- what was made within is forgotten -/
theorem cut_ok (l : Rel G F ρ s H) (g : Go ρ s H ρ' s' H') (l' : Rel G F ρ' s' H') (hc : Ev.clo s.length (s'.take s.length) = true ∨ s'.take s.length = s) :
    Go ρ s H ρ (s'.take s.length) H' ∧ Rel G F ρ (s'.take s.length) H' ∧ Still (Mu ρ' s' F) H' (Mu ρ (s'.take s.length) F) H' := by
  have hc : Ev.clo s.length (s'.take s.length) = true := hc.elim id fun e => by rw [e]; exact l.clo
  have lv : ∀ {n : Nat}, live (s'.take s.length) n → n < s.length ∧ live s' n := fun {n} ⟨o, e, d⟩ => by
    have hl : n < s.length := by
      have := (List.getElem?_eq_some_iff.mp e).1
      rw [List.length_take] at this; omega
    rw [List.getElem?_take_of_lt hl] at e
    exact ⟨hl, o, e, d⟩
  have sub : ∀ a, Mu ρ (s'.take s.length) F a → Mu ρ' s' F a := fun a q => by
    rcases q with q | ⟨n, hn, hl⟩
    · exact .inl q
    · exact .inr ⟨n, g.get hn, (lv hl).2⟩
  have hg : Go ρ s H ρ (s'.take s.length) H' := ⟨⟨[], by simp, by simp⟩, fun n hn h => g.liv n hn (lv h).2, g.keep, g.there⟩
  have slen : s.length ≤ s'.length := by
    obtain ⟨m, e, _⟩ := g.pre
    rw [← l.len, ← l'.len, e, List.length_append]; omega
  refine ⟨hg, ?_, still_sub sub⟩
  refine ⟨by rw [l.len, List.length_take]; omega, l.nd, fun n a h hl => l'.nf n a (g.get h) (lv hl).2, fun n a h => l'.tr n a (g.get h), l'.ft, fun n o a h1 h2 => ?_⟩
  have hn : n < s.length := by
    have := (List.getElem?_eq_some_iff.mp h1).1
    rw [List.length_take] at this; omega
  have h1' := h1
  rw [List.getElem?_take_of_lt hn] at h1'
  have q := RepO.still (still_sub sub) (fun _ _ e => e) (fun _ e => e) o (l'.ob n o a h1' (g.get h2))
  refine cloO_keep (n := s.length) (fun m b hm e => ?_) (List.all_eq_true.mp hc o (List.mem_of_getElem? h1)) q
  rcases g.back e with z | ⟨z, _⟩
  · exact z
  · have := l.len; omega
theorem allKd_rep {ρ : List Addr} {M : Addr → Prop} {H : Hp} : ∀ {kvs : List (Key × Val)} {xs : List (Key × V)} {ks : List (Key × D)}, RepF G ρ M H kvs xs → allKd kvs = some ks → RepKs G.K M H ks xs ∧ ks.length = kvs.length
  | [], [], ks, _, e => by simp only [allKd, Option.some.injEq] at e; subst e; exact ⟨trivial, rfl⟩
  | (q, v) :: kvs, p :: xs, ks, h, e => by
    cases v with
    | d z =>
      simp only [allKd, Option.map_eq_some_iff] at e
      obtain ⟨ks', e1, rfl⟩ := e
      obtain ⟨r, hl⟩ := allKd_rep h.2 e1
      exact ⟨⟨⟨h.1.1, h.1.2⟩, r⟩, by simp [hl]⟩
    | _ => simp [allKd] at e
  | [], _ :: _, _, h, _ => h.elim
  | _ :: _, [], _, h, _ => h.elim
theorem RepKs.toF {ρ : List Addr} {M : Addr → Prop} {H : Hp} : ∀ {kvs : List (Key × Val)} {xs : List (Key × V)} {ks : List (Key × D)}, RepKs G.K M H ks xs → allKd kvs = some ks → RepF G ρ M H kvs xs
  | [], xs, ks, h, e => by
    simp only [allKd, Option.some.injEq] at e; subst e
    cases xs with
    | nil => trivial
    | cons _ _ => exact h.elim
  | (q, v) :: kvs, xs, ks, h, e => by
    cases v with
    | d z =>
      simp only [allKd, Option.map_eq_some_iff] at e
      obtain ⟨ks', e1, rfl⟩ := e
      cases xs with
      | nil => exact h.elim
      | cons p xs => exact ⟨⟨h.1.1, h.1.2⟩, RepKs.toF h.2 e1⟩
    | _ => simp [allKd] at e
/-- what is at a place made within is nobody else's -/
theorem fresh_at (l : Rel G F ρ s H) (g : Go ρ s H ρ' s' H') (l' : Rel G F ρ' s' H') {n : Nat} {a : Addr} {o : Obj} (ho : s'[n]? = some o) (d : o ≠ .dead) (ha : ρ'[n]? = some a) (c3 : ¬ n < s.length) {t : Store} : ¬ Mu ρ t F a ∧ a ∉ ρ := by
  have nr : a ∉ ρ := fun hm => by
    obtain ⟨m, hm⟩ := List.mem_iff_getElem?.mp hm
    have h1 := g.get hm
    have hml := (List.getElem?_eq_some_iff.mp hm).1
    obtain ⟨i1, e1⟩ := List.getElem?_eq_some_iff.mp ha
    obtain ⟨i2, e2⟩ := List.getElem?_eq_some_iff.mp h1
    have : n = m := List.getElem_inj l'.nd |>.mp (e1.trans e2.symm)
    have := l.len; omega
  refine ⟨fun q => ?_, nr⟩
  rcases q with q | ⟨m, hm, hl⟩
  · exact l'.nf n a ha ⟨_, ho, d⟩ q
  · exact nr (List.mem_of_getElem? hm)
theorem live_app {t : Store} {o : Obj} {n : Nat} (h : n < t.length) : live (t ++ [o]) n ↔ live t n := live_push h
/-- what is told is kept as a place of its own -/
theorem keepat_ok (l : Rel G F ρ s H) (g : Go ρ s H ρ' s' H') (l' : Rel G F ρ' s' H') (hc0 : Ev.clo s.length (s'.take s.length) = true ∨ s'.take s.length = s) {n : Nat} {a : Addr} {o : Obj} (ho : s'[n]? = some o) (d : o ≠ .dead) (ha : ρ'[n]? = some a) (c3 : ¬ n < s.length)
    (hq : ∀ ρ1 M', Still (Mu ρ' s' F) H' M' H' → RepO G ρ1 M' H' a o) :
    Go ρ s H (ρ ++ [a]) (s'.take s.length ++ [o]) H' ∧ Rel G F (ρ ++ [a]) (s'.take s.length ++ [o]) H' ∧ Still (Mu ρ' s' F) H' (Mu (ρ ++ [a]) (s'.take s.length ++ [o]) F) H' := by
  obtain ⟨hg, hr, _⟩ := cut_ok l g l' hc0
  have hc : Ev.clo s.length (s'.take s.length) = true := hc0.elim id fun e => by rw [e]; exact l.clo
  obtain ⟨nm, nr⟩ := fresh_at l g l' ho d ha c3 (t := s'.take s.length)
  have Hn : H a = none := by
    rcases g.back ha with z | ⟨_, z⟩
    · exact absurd (List.mem_of_getElem? z) nr
    · exact z
  have lt : ρ.length = (s'.take s.length).length := hr.len
  have lt2 : ρ.length = s.length := l.len
  have lv : ∀ {n : Nat}, live (s'.take s.length) n → n < s.length ∧ live s' n := fun {n} ⟨o, e, d⟩ => by
    have hl : n < s.length := by
      have := (List.getElem?_eq_some_iff.mp e).1
      rw [List.length_take] at this; omega
    rw [List.getElem?_take_of_lt hl] at e
    exact ⟨hl, o, e, d⟩
  have sub2 : ∀ b, Mu (ρ ++ [a]) (s'.take s.length ++ [o]) F b → Mu ρ' s' F b := fun b q => by
    rcases q with q | ⟨m, hm, hl⟩
    · exact .inl q
    · by_cases c : m < ρ.length
      · rw [List.getElem?_append_left c] at hm
        exact .inr ⟨m, g.get hm, (lv ((live_push (by rw [← lt]; exact c)).mp hl)).2⟩
      · rw [List.getElem?_append_right (by omega)] at hm
        have := List.mem_of_getElem? hm
        rw [List.mem_singleton] at this; subst this
        exact .inr ⟨n, ha, o, ho, d⟩
  have st : Still (Mu ρ' s' F) H' (Mu (ρ ++ [a]) (s'.take s.length ++ [o]) F) H' := still_sub sub2
  refine ⟨⟨⟨[a], rfl, fun b hb => by rw [List.mem_singleton.mp hb]; exact Hn⟩, fun m hm h => hg.liv m hm ((live_push (by rw [← lt]; exact hm)).mp h), hg.keep, hg.there⟩, ?_, st⟩
  refine ⟨by simp only [List.length_append, lt, List.length_singleton], ?_, fun m b hm hl => ?_, fun m b hm => ?_, hr.ft, fun m u b h1 h2 => ?_⟩
  · rw [List.nodup_append]
    exact ⟨l.nd, by simp, fun x hx y hy => by rw [List.mem_singleton.mp hy]; intro e; subst e; exact nr hx⟩
  · by_cases c : m < ρ.length
    · rw [List.getElem?_append_left c] at hm
      exact hr.nf m b hm ((live_push (by rw [← lt]; exact c)).mp hl)
    · rw [List.getElem?_append_right (by omega)] at hm
      have := List.mem_of_getElem? hm
      rw [List.mem_singleton] at this; subst this
      exact l'.nf n b ha ⟨o, ho, d⟩
  · by_cases c : m < ρ.length
    · rw [List.getElem?_append_left c] at hm
      exact hr.tr m b hm
    · rw [List.getElem?_append_right (by omega)] at hm
      have := List.mem_of_getElem? hm
      rw [List.mem_singleton] at this; subst this
      exact l'.tr n b ha
  · by_cases c : m < ρ.length
    · rw [List.getElem?_append_left c] at h2
      rw [List.getElem?_append_left (by rw [← lt]; exact c)] at h1
      have h1' := h1
      rw [List.getElem?_take_of_lt (by omega)] at h1'
      have q := RepO.still st (fun _ _ e => e) (fun _ e => e) u (l'.ob m u b h1' (g.get h2))
      refine cloO_keep (n := s.length) (fun k x hk e => ?_) (List.all_eq_true.mp hc u (List.mem_of_getElem? h1)) q
      rcases g.back e with z | ⟨z, _⟩
      · rw [List.getElem?_append_left (by omega)]; exact z
      · omega
    · have e : m = ρ.length := by have := (List.getElem?_eq_some_iff.mp h2).1; simp at this; omega
      subst e
      rw [List.getElem?_append_right (by omega)] at h2
      rw [List.getElem?_append_right (by omega)] at h1
      have q := List.mem_of_getElem? h2
      rw [List.mem_singleton] at q; subst q
      have q := List.mem_of_getElem? h1
      rw [List.mem_singleton] at q; subst q
      exact hq _ _ st
theorem fin_ok {kp : Bool} {v : Val} {x : V} (l : Rel G F ρ s H) (g : Go ρ s H ρ' s' H') (l' : Rel G F ρ' s' H') (r : RepV G ρ' (Mu ρ' s' F) H' v x) :
    ∃ ρ1, Go ρ s H ρ1 (fin kp s v s').2 H' ∧ Rel G F ρ1 (fin kp s v s').2 H' ∧ RepV G ρ1 (Mu ρ1 (fin kp s v s').2 F) H' (fin kp s v s').1 x ∧ Still (Mu ρ' s' F) H' (Mu ρ1 (fin kp s v s').2 F) H' := by
  unfold fin
  by_cases c1 : s'.length = s.length
  · rw [if_pos c1]; exact ⟨ρ', g, l', r, still_sub fun _ q => q⟩
  · rw [if_neg c1]
    by_cases c2 : Ev.clo s.length (s'.take s.length) = true ∨ s'.take s.length = s
    · rw [if_pos c2]
      obtain ⟨hg, hr, st⟩ := cut_ok l g l' c2
      cases v with
      | d z => exact ⟨ρ, hg, hr, RepD.still st z x r, st⟩
      | loc n =>
        obtain ⟨a, ha, rfl⟩ := r
        simp only
        by_cases c3 : n < s.length
        · rw [if_pos c3]
          refine ⟨ρ, hg, hr, ⟨a, ?_, rfl⟩, st⟩
          rcases g.back ha with z | ⟨z, _⟩
          · exact z
          · have := l.len; omega
        · rw [if_neg c3]
          have at_end : ∀ o : Obj, (ρ ++ [a])[s.length]? = some a := fun o => by
            rw [List.getElem?_append_right (by rw [l.len]; exact Nat.le_refl _), l.len]; simp
          split
          · rename_i ds ho
            obtain ⟨xs, hx, hz, rr⟩ := l'.ob n _ a ho ha
            cases kp with
            | true =>
              obtain ⟨g1, r1, s1⟩ := keepat_ok l g l' c2 ho (by simp) ha c3 fun ρ1 M' t => ⟨xs, hx, hz, RepDs.still t _ _ rr⟩
              exact ⟨ρ ++ [a], g1, r1, ⟨a, at_end (.lst ds), rfl⟩, s1⟩
            | false =>
              refine ⟨ρ, hg, hr, ?_, st⟩
              rw [if_neg Bool.false_ne_true]
              simp only [RepV, RepD]
              exact ⟨a, xs, rfl, (fresh_at l g l' ho (by simp) ha c3).1, hx, hz, RepDs.still st _ _ rr⟩
          · rename_i kvs ho
            obtain ⟨xs, hx, hz, rr⟩ := l'.ob n _ a ho ha
            split
            · rename_i ks hk
              obtain ⟨q1, q2⟩ := allKd_rep rr hk
              cases kp with
              | true =>
                obtain ⟨g1, r1, s1⟩ := keepat_ok l g l' c2 ho (by simp) ha c3 fun ρ1 M' t => ⟨xs, hx, hz, RepKs.toF (RepKs.still t _ _ q1) hk⟩
                exact ⟨ρ ++ [a], g1, r1, ⟨a, at_end (.dct kvs), rfl⟩, s1⟩
              | false =>
                refine ⟨ρ, hg, hr, ?_, st⟩
                rw [if_neg Bool.false_ne_true]
                simp only [RepV, RepD]
                exact ⟨a, xs, rfl, (fresh_at l g l' ho (by simp) ha c3).1, hx, by rw [q2]; exact hz, RepKs.still st _ _ q1⟩
            · exact ⟨ρ', g, l', ⟨a, ha, rfl⟩, still_sub fun _ q => q⟩
          · exact ⟨ρ', g, l', ⟨a, ha, rfl⟩, still_sub fun _ q => q⟩
      | exn c fs => exact ⟨ρ', g, l', r, still_sub fun _ q => q⟩
    · rw [if_neg c2]; exact ⟨ρ', g, l', r, still_sub fun _ q => q⟩
end

/-! ### promises -/
structure RoomG (k : Nat) (A : Around) : Prop where
  room : Room k A
  gd : A.guards = some []
theorem RoomG.mono {j k : Nat} {A : Around} (r : RoomG k A) (h : j ≤ k) : RoomG j A := ⟨r.room.mono h, r.gd⟩
theorem RoomG.deeper {k : Nat} {A : Around} (r : RoomG (k + 1) A) (env : PySem.Env) : RoomG k (A.deeper env) := ⟨r.room.deeper env, r.gd⟩
/-- a def's promise, where no guard stands -/
structure FnG (P : Program) (w : World) (K : PySem.W.Frag) (mg : Str → Option Value) (base : Heap) (k : Nat) (f : Addr) (fd : FuncData) (ps : List Str) (sp : Sp) : Prop where
  len : ∀ vs H Q E, sp vs H Q E → vs.length = ps.length
  run : ∀ (A : Around) (outer : List PySem.Env) (s : Shared) (H : Hp) (args : Args) (us : List Value) (vs : List V) (Q : VK) (E : XK), RoomG k A → Env0 P w K mg base A outer s H → BindsTo s fd args (ps.zip us) → Vals vs us → sp vs H Q E →
    codeAny (model P w) A (.call (.ref f) args) (CR (L2.CX P w) outer P w H s Q E) s
/-- what the evaluator says of a def -/
def spF (G : Gd) (P : Calls) (f : Nat) : Sp := fun vs H Q E => ∃ F ρ s ws, Rel G F ρ s H ∧ RepVs G ρ (Mu ρ s F) H ws vs ∧ Out G F ρ s H E (RepV G) (P f ws s) Q
section
variable {P : Program} {w : World} {K : PySem.W.Frag} {mg : Str → Option Value} {base : Heap} {G : Gd}
theorem FnG.mono {j k : Nat} {f : Addr} {fd : FuncData} {ps : List Str} {sp : Sp} (F : FnG P w K mg base j f fd ps sp) (h : j ≤ k) : FnG P w K mg base k f fd ps sp :=
  ⟨F.len, fun A outer s H args us vs Q E hr => F.run A outer s H args us vs Q E (hr.mono h)⟩
/-- a def by its body -/
theorem fn_body {k : Nat} {f : Addr} {fd : FuncData} {x qual : Str} {params : Arguments} {body : List Stmt} {scope : Scope} {dvs : List V} {kws : List (Str × V)} {N ps : List Str} {sp : Sp} (D : FunD K x qual params body scope dvs kws f fd) (S : FnScope N ps scope)
    (len : ∀ vs H Q E, sp vs H Q E → vs.length = ps.length)
    (hb : ∀ (cdv : Value) (A : Around) (outer : List PySem.Env) (s : Shared) (H : Hp) (vs : List V) (Q : VK) (E : XK), RoomG k (A.deeper (PyProof.Rows.envOfC qual scope s.heap.objs.size f cdv)) → sp vs H Q E →
      ∃ t, PSs (cxOf (L2.CX P w) P w K mg base N qual scope f cdv A outer s H E) body t ∧ t { nx := fun _ H' => Q .non H', rt := Q } (L2.start N vs) H) : FnG P w K mg base (k + 1) f fd ps sp := by
  obtain ⟨oc, od, dV, kV, doc, pm, an, cdv, ct, osl, rfl, lk, hcd, _, _⟩ := D.ex
  refine ⟨len, fun A outer s H args us vs Q E hr e0 hbd r hsp => ?_⟩
  have KX : K.In s.heap := e0.mod.kin.keeps fun b o e => (e0.bs b o e).1
  have lim : s.heap.NoLimit := e0.mod.nolimit.keeps fun b o e => (e0.bs b o e).1
  refine codeAny_call_function hr.room.depth (KX _ _ lk) rfl S.co S.gen rfl (PySem.W.codeRec_of KX hcd) (hbd _ _ _ _ ?_)
  refine wpAny_newFunctionEnv_cells S.kind (fun y hy => ?_) fun env he s1 x => ?_
  · have hm := (List.of_mem_zip (a := y.1) (b := y.2) hy).1
    rcases S.par _ hm with q | q
    · exact .inl q
    · exact .inr ⟨q, PySem.W.cellsFrom_some _ _ _ (.inl q)⟩
  subst he
  obtain ⟨t, ht, hq⟩ := hb cdv A outer s H vs Q E (hr.deeper _) hsp
  have I := inv_start (CX := L2.CX P w) (E := E) S hr.room.hd e0 (len _ _ _ _ hsp) r x
  refine ⟨lim.keeps x.toInCall.keep, codeAny_func (wpAny_mono (ht.run [] s1 _ H _ I hq) (fun fl s' hs => ?_) fun e s' hs => hs)⟩
  match fl, hs with
  | .ret u, ⟨v, σ', H', J, rv, q⟩ => exact ⟨v, H', J.os, J.bare, J.base, J.hok, rv, q⟩
  | .next, ⟨σ', H', J, q⟩ => exact ⟨.non, H', J.os, J.bare, J.base, J.hok, rfl, q⟩
  | .brk, ⟨_, _, _, q⟩ => exact q.elim
  | .cont, ⟨_, _, _, q⟩ => exact q.elim
theorem start_at {F : Addr → Prop} {ρ : List Addr} {s : Store} {H : Hp} {N : List Str} {ws : List Val} {vs : List V} (l : Rel G F ρ s H) (r : RepVs G ρ (Mu ρ s F) H ws vs) : At G F ρ s H (ws.map some ++ List.replicate (N.length - ws.length) none) (L2.start N vs) := by
  have hl := r.len
  refine ⟨l, by simp [L2.start, hl], fun i v e => ?_⟩
  by_cases hi : i < ws.length
  · rw [List.getElem?_append_left (by simpa using hi), List.getElem?_map] at e
    cases e1 : ws[i]? with
    | none => rw [e1] at e; cases e
    | some y =>
      rw [e1] at e; cases e
      obtain ⟨x, hx, rr⟩ := r.get e1
      refine ⟨x, ?_, rr⟩
      unfold L2.start
      rw [List.getElem?_append_left (by simpa [← hl] using hi), List.getElem?_map, hx]; rfl
  · rw [List.getElem?_append_right (by simpa using hi), List.getElem?_replicate] at e
    split at e <;> cases e
/-- a def of the program -/
theorem fn_run {prog : Calls → Nat → Option Fn} {n i k : Nat} {g : Fn} {f : Addr} {fd : FuncData} {x qual : Str} {params : Arguments} {body : List Stmt} {scope : Scope} {dvs : List V} {kws : List (Str × V)} {N ps : List Str} (D : FunD K x qual params body scope dvs kws f fd) (S : FnScope N ps scope)
    (hp : prog (runP prog n) i = some g) (h1 : g.pars = ps.length) (h2 : g.slots = N.length)
    (hb : ∀ (cdv : Value) (A : Around) (outer : List PySem.Env) (s : Shared) (H : Hp) (E : XK), RoomG k (A.deeper (PyProof.Rows.envOfC qual scope s.heap.objs.size f cdv)) →
      SS G (fun C d _ H' => E C d H') (cxOf (L2.CX P w) P w K mg base N qual scope f cdv A outer s H E) g.body body) : FnG P w K mg base (k + 1) f fd ps (spF G (runP prog (n + 1)) i) := by
  have len : ∀ {vs : List V} {H : Hp} {Q : VK} {E : XK} {F : Addr → Prop} {ρ : List Addr} {s : Store} {ws : List Val}, Out G F ρ s H E (RepV G) (runP prog (n + 1) i ws s) Q → ws.length = g.pars := by
    intro vs H Q E F ρ s ws o
    simp only [runP, hp] at o
    unfold runFn at o
    by_cases c : ws.length = g.pars
    · exact c
    · rw [if_neg c] at o; exact o.elim
  refine fn_body D S (fun vs H Q E ⟨F, ρ, st, ws, l, r, o⟩ => by rw [← r.len, len (vs := vs) o, h1]) fun cdv A outer s H vs Q E hr ⟨F, ρ, st, ws, l, r, o⟩ => ⟨_, hb cdv A outer s H E hr, ?_⟩
  have hw : ws.length = ps.length := by rw [len (vs := vs) o, h1]
  refine ⟨F, ρ, st, _, start_at l r, ?_⟩
  simp only [runP, hp] at o
  unfold runFn at o
  rw [if_pos (by rw [hw, h1])] at o
  rw [h2, h1, ← hw] at o
  cases e : g.body (ws.map some ++ List.replicate (N.length - ws.length) none) st with
  | nx E1 s1 =>
    rw [e] at o
    intro σ' ρ' H' gg at'
    obtain ⟨ρ1, g1, l1, x1, _⟩ := fin_ok (v := .d .non) (x := .non) l gg at'.rel (by simp [RepV, RepD])
    exact o _ ρ1 H' g1 l1 x1
  | rt v s1 =>
    rw [e] at o
    intro x ρ' H' gg l' x'
    obtain ⟨ρ1, g1, l1, x1, _⟩ := fin_ok l gg l' x'
    exact o _ ρ1 H' g1 l1 x1
  | exc c fs E1 s1 =>
    rw [e] at o
    intro σ' ρ' H' d xs gg at' hd q
    obtain ⟨ρ1, g1, l1, x1, st1⟩ := fin_ok (v := .d .non) (x := .non) l gg at'.rel (by simp [RepV, RepD])
    exact o ρ1 H' d xs g1 l1 hd fun f z hz => let ⟨y, h1, h2⟩ := q f z hz; ⟨y, h1, RepD.still st1 z y h2⟩
  | bk _ _ => rw [e] at o; exact o.elim
  | ct _ _ => rw [e] at o; exact o.elim
  | fail => rw [e] at o; exact o.elim
end

section
variable {G : Gd} {X : Cx} {W : WX} {e : Expr} {es : List Expr} {ca : AC} {P : Calls} {i k : Nat} {f : Addr} {fd : FuncData} {ps : List Str} {x : Str} {p pos : Pos}
theorem run_g {pins : List (Addr × PySem.Obj)} {σ : St} {H : Hp} {s : Shared} {Q : VK} {us : List Value} {vs : List V} {sp : Sp} {E : XK} (F : FnG X.prog X.w X.K X.mg X.base k f fd ps sp) (hr : RoomG k X.A) (hb : Binds X.K fd ps []) (hx : PassesAt (L2.CX X.prog X.w) X σ E) (I : L2.Inv X pins σ H s) (r : Vals vs us) (h : sp vs H Q E) :
    wpAny (model X.prog X.w) X.A (PySem.call (.ref f) us) (EP X pins σ Q) X.xe s := by
  have hl : (us ++ []).length = ps.length := by rw [List.append_nil, ← r.length]; exact F.len _ _ _ _ h
  have b := hb s us I.kIn hl
  rw [List.append_nil] at b
  refine wpAny_call (codeAny_mono (F.run X.A X.stack s H ⟨us, []⟩ us vs Q E hr I.env0 b r h) fun r s' hq => ?_)
  match r, hq with
  | .error e, hq => exact hx pins H s e s' I hq
  | .ok (.ret u), hq => exact I.after hq
  | .ok .next, hq => exact hq.elim
  | .ok .brk, hq => exact hq.elim
  | .ok .cont, hq => exact hq.elim
theorem se_call (F : FnG X.prog X.w X.K X.mg X.base k f fd ps (spF G P i)) (hr : RoomG k X.A) (hm : X.mg x = some (.ref f)) (hk : PySem.W.keepIn X.K (.ref f) = true) (hb : Binds X.K fd ps []) (tk : Takes X W) (ha : SA G W X ca (e :: es)) 
    (hg : Gl X x := by rfl) (hdb : (x == ("__debug__" : Str)) = false := by decide) (he : starEach (e :: es) X.env = (false, eval e X.env) :: starEach es X.env := by rfl) (hpl : (backTo pos (starEach es X.env)).any (·.1) = false := by rfl) :
    SE G W X (call P i ca) (.Call (.Name x p) (e :: es) [] pos) := by
  refine ⟨fun pins s σ H Q I ⟨F0, ρ, st, E, at_, o⟩ => ?_⟩
  refine wpAny_Call_Name_kw (ld_glob I hg hm ?_ hdb)
  refine PySem.W.callWith_K (h₀ := X.base) I.ok.mod.kin hk (thn (ha.run pos pins s σ H (fun vs H1 => ∃ ρ1 s1 ws, Go ρ st H ρ1 s1 H1 ∧ Rel G F0 ρ1 s1 H1 ∧ RepVs G ρ1 (Mu ρ1 s1 F0) H1 ws vs ∧ Out G F0 ρ1 s1 H1 (fun C d H' => W C d σ H') (RepV G) (P i ws s1) Q) I
    ⟨F0, ρ, st, E, at_, Out.bind (R := RepVs G) o⟩) fun us s1 ⟨vs, H1, I1, r, q⟩ => ⟨I1.kIn, ?_⟩) he hpl
  obtain ⟨ρ1, st1, ws, g1, l1, x1, o1⟩ := q
  exact run_g F hr hb (passAt tk σ) I1 r ⟨F0, ρ1, st1, ws, l1, x1, o1⟩
end
end Ev
end
section
set_option Elab.async false
set_option linter.all false
set_option autoImplicit false
set_option maxRecDepth 100000
set_option maxHeartbeats 4000000
/-! Own errors: made, raised, caught. -/
namespace Ev
open PySem L2
/-! ### an error's __init__: super().__init__(text); self.f = .. -/
/-- what the written part says of it -/
structure InitF (P : Program) (K : PySem.W.Frag) (C fI : Addr) (fd : FuncData) (qual : Str) (params : Arguments) (body : List Stmt) (scope : Scope) (cc cda : Addr) : Prop where
  lk : ∃ (oc : Value) (od : Option Addr) (kV doc pm : Value) (an : Option Addr) (ct : Value) (osl : Array (Option Value)), fd = PySem.W.ksFn "__init__" qual params body scope .none kV doc pm an (.ref cda) ct cc ∧ K.lookup fI = some ⟨oc, od, .func fd, osl⟩
  code : PySem.W.codeIn K (.ref cda) qual = true
  file : ∃ (ccl : Value) (cdd : Option Addr) (vs : Array Value) (ccs : Array (Option Value)) (file : Str) (tf : Tok), K.lookup cda = some ⟨ccl, cdd, .fields vs, ccs⟩ ∧ vs[2]? = some (.str file tf) ∧ ((P.main.file : Str) == file) = true
  cell : ∃ (cl : Value) (cld : Option Addr) (csl : Array (Option Value)), K.lookup cc = some ⟨cl, cld, .cell (some (.ref C)), csl⟩
  any : PySem.W.nsIn K cStatics "thirdparty.any" = some none
  above : PySem.W.ks_superIn K C C "__init__" = some (some (.builtin "ValueError.__init__"))
  sub : PySem.W.subIn K (.ref C) (.type "ValueError") = some true
  self : PySem.W.mroIn K C (.ref C) = some true
  sup : PySem.W.nsIn K mainGlobals "super" = some none
  top : (P.main.scope.names.lookup ("super" : Str)).isSome = false
/-- the context behind the super() -/
def cxI (P : Program) (w : World) (K : PySem.W.Frag) (mg : Str → Option Value) (base : Heap) (N : List Str) (qual : Str) (scope : Scope) (f cda cc : Addr) (A : Around) (outer : List PySem.Env) (s : Shared) (H : Hp) : Cx where
  prog := P
  w := w
  K := K
  mg := mg
  base := base
  A := A.deeper (PySem.W.ksEnv qual scope s.heap.objs.size f (.ref cda) cc)
  N := N
  s_0 := s
  H_0 := H
  env := PySem.W.ksEnv qual scope s.heap.objs.size f (.ref cda) cc
  outer := outer
  stack := PySem.W.ksEnv qual scope s.heap.objs.size f (.ref cda) cc :: outer
  ex := []
  calm := true
  fn := fun _ => false
  pn := []
  xe := fun _ _ => False
theorem zip_last {x : Str} {u : Value} : ∀ {N : List Str} {us : List Value} {i : Nat}, N.Nodup → N[i]? = some x → us[i]? = some u → (N.zip us).reverse.lookup x = some u
  | [], _, _, _, h, _ => by simp at h
  | _ :: _, [], _, _, _, h => by simp at h
  | p :: P, v :: vs, 0, nd, h1, h2 => by
    simp at h1 h2
    subst h1 h2
    rw [List.zip_cons_cons, List.reverse_cons, List.lookup_append]
    have : (P.zip vs).reverse.lookup p = none := by
      rw [List.lookup_eq_none_iff]
      intro q hq
      have hm := (List.of_mem_zip (a := q.1) (b := q.2) (List.mem_reverse.mp hq)).1
      simp only [bne_iff_ne, ne_eq, beq_eq_false_iff_ne]
      intro e
      exact (List.nodup_cons.mp nd).1 (by rw [e]; exact hm)
    rw [this]; simp
  | p :: P, v :: vs, i + 1, nd, h1, h2 => by
    simp at h1 h2
    rw [List.zip_cons_cons, List.reverse_cons, List.lookup_append, zip_last (List.nodup_cons.mp nd).2 h1 h2]
    rfl
structure InitScope (N : List Str) (scope : Scope) : Prop where
  kind : scope.kind = .function
  co : scope.isCoroutine = false
  gen : scope.isGenerator = false
  nd : N.Nodup
  par : ∀ x ∈ N, scope.names.lookup x = some .local
  nocell : ∀ x ∈ scope.names, x.2 ≠ .cell
  free : ∀ x, scope.names.lookup x = some .free → x = "__class__"
  sup : scope.names.lookup ("super" : Str) = some .globalImplicit
  cls : scope.names.lookup ("__class__" : Str) = some .free
section
variable {P : Program} {w : World} {K : PySem.W.Frag} {mg : Str → Option Value} {base : Heap} {C fI cc cda : Addr} {fd : FuncData} {qual : Str} {params : Arguments} {body : List Stmt} {scope : Scope} {N : List Str} {A : Around} {outer : List PySem.Env} {s : Shared} {H : Hp}
theorem inv_init {vs : List V} {us : List Value} {h1 : Heap} {t1 : Nat} (S : InitScope N scope) (hd : A.handled = none) (e0 : Env0 P w K mg base A outer s H) (hl : vs.length = N.length) (r : Vals vs us)
    (hcc : ∃ (cl : Value) (cld : Option Addr) (csl : Array (Option Value)), K.lookup cc = some ⟨cl, cld, .cell (some (.ref C)), csl⟩)
    (hns : h1.Ns s.heap.objs.size (fun x => (N.zip us).reverse.lookup x)) (hk : ∀ b o, s.heap.get? b = some o → h1.get? b = some o) :
    L2.Inv (cxI P w K mg base N qual scope fI cda cc A outer s H) [] (vs.map some) H { s with heap := h1, toks := t1 } := by
  obtain ⟨cl, cld, csl, hcc⟩ := hcc
  have hcb := e0.mod.kin _ _ hcc
  have hcs := (e0.bs _ _ hcb).1
  have cellEq : ∀ {x : Str} {c : Addr}, (cxI P w K mg base N qual scope fI cda cc A outer s H).env.cells.lookup x = some c → x = "__class__" ∧ c = cc := fun {x c} h => by
    have h' : ([(("__class__" : Str), cc)] : List (Str × Addr)).lookup x = some c := h
    by_cases hx : x = "__class__"
    · subst hx
      refine ⟨rfl, ?_⟩
      rw [List.lookup_cons_self] at h'; exact (Option.some.inj h').symm
    · have : (x == ("__class__" : Str)) = false := by simpa using hx
      simp [List.lookup, this] at h'
  have noA : ∀ b : Addr, b ∉ (cxI P w K mg base N qual scope fI cda cc A outer s H).ex := fun b z => absurd (show b ∈ ([] : List Addr) from z) (by simp)
  refine ⟨⟨e0.mod, S.kind, rfl, rfl, Nat.le_refl _, fun x y c h1 h2 => (cellEq h1).1.trans (cellEq h2).1.symm, fun y hy => ?_, fun y c z => absurd (show false = true from z) Bool.false_ne_true, fun _ => hd, Around.frames_deeper e0.frames, .inr ⟨rfl, rfl⟩, fun b z => absurd z (noA b), e0.bs, e0.bsz, fun b _ _ => noA b, fun b z => absurd z (noA b), e0.funs, e0.frf⟩,
    rfl, e0.bare, Un.kept hk, ⟨_, hns, fun i x v h1 h2 h3 => ?_⟩, fun x c h => ⟨_, _, (cellEq h).2 ▸ hk _ _ hcs, rfl⟩, e0.hok.fresh (Nat.le_refl _), fun x c h => ?_, fun p hp => absurd (show p ∈ ([] : List (Addr × PySem.Obj)) from hp) (by simp), e0.hok.kept hk, ?_⟩
  · have hy : scope.names.lookup y = some .cell ∨ scope.names.lookup y = some .free := hy
    rcases hy with hy | hy
    · exact absurd rfl (S.nocell _ (PySem.mem_of_lookup hy))
    · exact ⟨cc, by rw [S.free y hy]; rfl⟩
  · rw [List.getElem?_map] at h2
    cases e : vs[i]? with
    | none => rw [e] at h2; cases h2
    | some v' =>
      rw [e] at h2; cases h2
      obtain ⟨u, hu, rv⟩ := r.get e
      have hx := S.par x (List.mem_of_getElem? h1)
      refine ⟨u, rv, .inl ⟨hx, ?_⟩⟩
      show (N.zip us).reverse.lookup x = some u
      exact zip_last S.nd h1 hu
  · have := (e0.bs _ _ hcb).2
    rw [(cellEq h).2]; exact this
  · show (vs.map some).length = N.length
    rw [List.length_map, hl]
/-- what such an __init__ promises: te is what is kept -/
def spI (te : TE) (C : Addr) (fld : Str) : Sp := fun vs H Q _ => ∃ a y, vs = [.ref a, y] ∧ H a = some (exo a C none) ∧
  te (vs.map some) H fun z H1 => H1 a = some (exo a C none) ∧ ∀ dx, H1 dx = none → dx ≠ a → Q .non (upd (upd H1 dx (exd dx [(fld, z)])) a (exo a C (some dx)))
theorem init_ok {msg fld slf pn : Str} {j k : Nat} {p0 p1 p2 p3 p4 p5 p6 p7 p8 : Pos} {e : Expr} {te : TE} (F : InitF P K C fI fd qual params body scope cc cda) (T : OexC K C) (S : InitScope [slf, pn] scope)
    (hbody : body = [.Expr (.Call (.Attribute (.Call (.Name "super" p0) [] [] p1) "__init__" p2) [.Constant (.str msg) j p3] [] p4) p5, .Assign [.Attribute (.Name slf p6) fld p7] e p8])
    (hpar : ∃ ar, (params.posonlyargs ++ params.args).head? = some ar ∧ ar.arg = slf) (hno : PySem.W.findIn K (.ref C) fld = some none) (hdb : (slf == ("__debug__" : Str)) = false) (hcd : (slf == ("__classdict__" : Str)) = false)
    (he : ∀ A outer s H, PE (cxI P w K mg base [slf, pn] qual scope fI cda cc A outer s H) e te)
    (mono : ∀ σ H Q Q', (∀ x H, Q x H → Q' x H) → te σ H Q → te σ H Q')
    (hs1 : ∀ env, swapsWith (.Call (.Attribute (.Call (.Name "super" p0) [] [] p1) "__init__" p2) [.Constant (.str msg) j p3] [] p4) none p5.line env = pure false) (hs2 : ∀ env, swapsWith e (some (.Attribute (.Name slf p6) fld p7)) p8.line env = pure false)
    (hev : ∀ env : PySem.Env, ∃ pl : Sem Bool, eval (.Call (.Attribute (.Call (.Name "super" p0) [] [] p1) "__init__" p2) [.Constant (.str msg) j p3] [] p4) env = (do
      let ov ← attributeBase (.Call (.Name "super" p0) [] [] p1) "__init__" env (eval (.Call (.Name "super" p0) [] [] p1) env)
      standAt p2.atName
      let (f, first) ← holding [ov] (getMethod ov "__init__" pl)
      callWith p4 f first (backTo p4 (starEach [.Constant (.str msg) j p3] env)) [])) :
    FnOk P w K mg base (L2.CX P w) (k + 1) fI fd [slf, pn] (spI te C fld) := by
  obtain ⟨oc, od, kV, doc, pm, an, ct, osl, rfl, lk⟩ := F.lk
  subst hbody
  refine ⟨fun vs H Q E h => ?_, fun A outer s H args us vs Q E hr e0 hb r hsp => ?_⟩
  · obtain ⟨a, y, rfl, _⟩ := h
    rfl
  obtain ⟨a, y, ev, ea, q⟩ := hsp
  have hl : vs.length = [slf, pn].length := by rw [ev]; rfl
  have KX : K.In s.heap := e0.mod.kin.keeps fun b o e => (e0.bs b o e).1
  have lim : s.heap.NoLimit := e0.mod.nolimit.keeps fun b o e => (e0.bs b o e).1
  refine PySem.ks_codeAny_call_defAt hr.depth (KX _ _ lk) rfl lim (PySem.W.codeRec_of KX F.code) rfl hb S.nocell (fun x hx => S.par _ (List.of_mem_zip (a := x.1) (b := x.2) hx).1) (fun h1 hns hk => ?_) S.co S.gen S.kind
  have I := inv_init (fI := fI) (cda := cda) (qual := qual) (t1 := s.toks + ([slf, pn].zip us).length) S hr.hd e0 hl r F.cell hns hk
  generalize hs1e : ({ s with heap := h1, toks := s.toks + ([slf, pn].zip us).length } : Shared) = s1 at I ⊢
  have hns1 : s1.heap.Ns s.heap.objs.size (fun x => ([slf, pn].zip us).reverse.lookup x) := by rw [← hs1e]; exact hns
  obtain ⟨u1, u2, rfl, rfl⟩ : ∃ u1 u2, us = [.ref a, u2] ∧ u1 = u2 := by
    subst ev
    cases r with
    | @cons _ v0 _ _ r0 r1 =>
      cases r1 with
      | @cons _ v1 _ _ r2 r3 =>
        cases r3
        obtain rfl : v0 = Value.ref a := r0
        exact ⟨v1, v1, rfl, rfl⟩
  obtain ⟨pl, hpl⟩ := hev (PySem.W.ksEnv qual scope s.heap.objs.size fI (.ref cda) cc)
  refine PySem.ks_wpAt_execs_cons (PySem.ks_wpAt_Expr_any (PySem.ks_wpAt_MethodCall (pl := pl) ?_ hpl) I.quiet (hs1 _))
  obtain ⟨ar, har, harg⟩ := hpar
  obtain ⟨ccl, cdd, cvs, ccs, file, tf, hcda, hv2, hfile⟩ := F.file
  obtain ⟨cl, cld, csl, hcc⟩ := F.cell
  have K1 := I.kIn
  obtain ⟨nm, q0, N0, bs, bm, sn, sub, ab, col, dd, k0, k1, k2, k3, k5, hC, hbm⟩ := T.cls
  obtain ⟨t1, ho⟩ := exo_at I.hok ea
  refine PySem.ks_wpAt_super_base S.sup S.cls rfl rfl (K1 _ _ lk) rfl har rfl (K1 _ _ hcda) rfl hv2 hfile F.top ?_
  have G1 : s1.heap.Ns mainGlobals mg := I.ok.mod.glob.keeps I.bk
  obtain ⟨mb, hmb, hbb⟩ := I.ok.mod.blt
  have B1 : s1.heap.Ns builtinsNs mb := hmb.keeps I.bk
  have hC1 := K1 _ _ hC
  refine PySem.W.ks_loadName_global S.kind S.sup (PySem.Calls.loadGlobal_builtin (mg := mg) (mb := mb) G1 (PySem.W.mg_none_of I.ok.mod.kin I.ok.mod.glob F.sup) B1 ((hbb _ (by decide +kernel)).trans (show bootBuiltins "super" = some (.type "super") by decide +kernel)) ⟨rfl, ?_⟩)
  refine wpAny_loadName_free S.kind S.cls rfl ⟨_, K1 _ _ hcc, rfl⟩ ?_
  refine wpAny_loadName_local S.kind (by rw [harg]; exact S.par _ (List.mem_cons_self ..)) hns1 (by rw [harg]; exact zip_last (i := 0) S.nd rfl rfl) ?_
  refine PySem.ks_wpAny_isType_cls hC1 rfl ⟨rfl, ?_⟩
  obtain ⟨hp, g, d, t, os⟩ := s1
  refine PySem.ks_wpAny_call_super hC1 rfl ho rfl (fun c => by simp) (PySem.W.looks_mroIn K1 F.self) (fun h2 hso k2 => ?_)
  have I2 := I.kept (h' := h2) (t' := t) k2
  have K2 := I2.kIn
  have IA : PySem.W.InstAt h2 a _ C none := ⟨k2 _ _ ho, rfl, rfl, trivial⟩
  cases hcl : PySem.W.clsIn K C with
  | none =>
    have q := F.above
    unfold PySem.W.ks_superIn at q
    rw [hcl] at q; cases q
  | some cd =>
    have q1 := F.above
    unfold PySem.W.ks_superIn at q1
    rw [hcl] at q1
    refine PySem.W.kxs_getMethod PySem.W.kxs_ValueError hso (PySem.W.looks_opaque K2 F.any) (l₀ := cd.mro) ?_ rfl K2 q1 (IA.type.andThen (PySem.W.looks_subIn K2 F.sub)) (PySem.W.ks_ne K2 IA hcl) (by decide) ?_
    · exact fun A Q E s k q => wpAny_bind ((PySem.W.looks_clsIn K2 hcl) A _ E s k (wpAny_pure q))
    have I3 := I2.kept (h' := h2.push (PySem.W.kxs_mw "ValueError.__init__" a)) (t' := t + 1) (fun b o e => Heap.get?_push_of_some _ e)
    have hmw : (h2.push (PySem.W.kxs_mw "ValueError.__init__" a)).get? h2.objs.size = some (PySem.W.kxs_mw "ValueError.__init__" a) := Heap.get?_push_size _ rfl
    have fp := I2.fpOk (b := h2.objs.size) (Nat.le_refl _) (I2.hok.fresh (Nat.le_refl _))
    have I4 := I3.pins_of (pins' := [(h2.objs.size, PySem.W.kxs_mw "ValueError.__init__" a)]) (fun p hp => by
      obtain rfl := List.mem_singleton.mp hp
      exact ⟨hmw, fp.1, fp.2.1, fp.2.2.1, fun v => by simp⟩)
    have ha : PA (cxI P w K mg base [slf, pn] qual scope fI cda cc A outer s H) [.Constant (.str msg) j p3] (tCons (tC (.str msg)) tNil) := pa_cons pe_str pa_nil
    refine PySem.W.kxs_callWith1 (h₀ := Att.noObjs h2) (L := h2.objs.size + 1) (news := [(h2.objs.size, PySem.W.kxs_mw "ValueError.__init__" a)]) (fun p hp => ?_) (List.mem_singleton.mpr rfl) ?_
    · obtain rfl := List.mem_singleton.mp hp
      exact ⟨hmw, Nat.ne_of_lt (Nat.lt_succ_self _), Att.noObjs_get _ _⟩
    refine thn (ha.run p4 _ _ _ H (fun vs H1 => vs = [V.str msg] ∧ H = H1) I4 ⟨rfl, rfl⟩) fun ws s5 hh => ?_
    obtain ⟨vs5, H5, I5, r5, ev5, eH⟩ := hh
    subst ev5
    rw [← eH] at I5
    have hmw5 := (I5.pin _ (List.mem_append_right _ (List.mem_singleton.mpr rfl))).1
    refine ⟨hmw5, ?_⟩
    have hz : ws.length ≤ sizeLine := by rw [← r5.length, line_eq]; show 1 ≤ line; decide
    have I6 := I5.pins_of (pins' := []) (fun p hp => by cases hp)
    have hC6 := I6.kIn _ _ hC
    obtain ⟨t6, ho6⟩ := exo_at I6.hok ea
    obtain ⟨h6, g6, d6, n6, os6⟩ := s5
    refine wpAny_call (codeAny_of_tree ?_)
    show wpAny _ _ (callAny (.ref h2.objs.size) ⟨ws, []⟩) _ _ _
    unfold callAny
    refine wpAny_bind (wpAny_load hmw5 ?_)
    have c1 : ∀ c : String, (Value.type "method-wrapper" == Value.type "method" || Value.type "method-wrapper" == Value.type c || Value.type "method-wrapper" == Value.type "method-wrapper") = true := fun c => by simp
    have c2 : (Value.type "method-wrapper" != Value.type "method") = true := by decide
    show wpAny _ _ (if _ then (if (Value.type "method-wrapper" != Value.type "method") = true then (do checkBoundCall "ValueError.__init__" ⟨.ref a :: ws, []⟩; again (.builtin "ValueError.__init__" ⟨.ref a :: ws, []⟩)) else _) else _) _ _ _
    rw [if_pos (c1 _), if_pos c2]
    refine wpAny_bind (PySem.W.check_bound_init PySem.F.excBase_ValueError.toExcCallFacts hC6 ho6 rfl ?_)
    refine wpAny_pure ⟨PySem.plainId_quiet PySem.F.excBase_ValueError.init.plain _, codeAny_builtin PySem.F.excBase_ValueError.initEntry ?_⟩
    refine PySem.W.exc_init_tree (cls := .ref C) (t0 := t6) (dv := none) (c2 := .none) (c3 := .none) (b4 := .bool false) ho6 hz fun h7 k7 hx7 _ => ?_
    have J := I6.write (h' := h7) (t' := n6) (x := a) (e := a) (o := exo a C none) (by rw [ea]; exact True.intro) (.inl rfl) k7 ⟨_, hx7⟩ (exo_ok hx7)
    rw [upd_id ea] at J
    have hv : Vis (cxI P w K mg base [slf, pn] qual scope fI cda cc A outer s H).env.scope slf := .inl (S.par _ (List.mem_cons_self ..))
    have ps := pss_one (ps_ost (f := fld) (p' := p7) (pos := p8) (pe_var (X := cxI P w K mg base [slf, pn] qual scope fI cda cc A outer s H) (i := 0) (x := slf) (pos := p6) rfl hv hdb hcd) (he A outer s H) (hs2 _))
    have run := ps.run [] ⟨h7, g6, d6, n6, os6⟩ (vs.map some) H { nx := fun _ H' => Q .non H', rt := fun _ _ => False } J (by
      refine mono _ _ _ _ (fun z H1 hz => ?_) q
      refine ⟨.ref a, by rw [ev]; rfl, a, C, rfl, T, hno, .inl ⟨hz.1, hz.2⟩⟩)
    refine wpAt_of_wpAny (wpAny_mono run (fun fl s8 h8 => ?_) fun e s8 h8 => h8.elim)
    match fl, h8 with
    | .next, ⟨σ8, H8, J8, q8⟩ => exact ⟨.non, H8, J8.os, J8.bare, J8.base, J8.hok, rfl, q8⟩
    | .ret u, ⟨_, _, _, _, _, q8⟩ => exact q8.elim
    | .brk, ⟨_, _, _, q8⟩ => exact q8.elim
    | .cont, ⟨_, _, _, q8⟩ => exact q8.elim
end
end Ev
end
section
set_option Elab.async false
set_option linter.all false
set_option autoImplicit false
set_option maxRecDepth 100000
set_option maxHeartbeats 4000000
/-! raise, try. -/
namespace Ev
open PySem L2
section
variable {G : Gd} {F : Addr → Prop} {ρ ρ1 : List Addr} {s s1 : Store} {H H1 : Hp}
/-- the heap behind C(e): the error's own object is let go, its dict stands -/
def flown (H : Hp) (a dx : Addr) (xs : List (Str × V)) : Hp := fun b => if b = dx then some (.xd xs) else if b = a then none else H b
theorem flown_eq {u u' : HO} {a dx : Addr} {xs : List (Str × V)} : upd (del (upd (upd H dx u) a u') a) dx (.xd xs) = flown H a dx xs := by
  funext b
  unfold flown
  by_cases h1 : b = dx
  · rw [if_pos h1, h1, upd_same]
  · rw [if_neg h1, upd_ne h1]
    by_cases h2 : b = a
    · rw [if_pos h2, h2, del_same]
    · rw [if_neg h2, del_ne h2, upd_ne h2, upd_ne h1]
theorem flown_ne {a dx b : Addr} {xs : List (Str × V)} (h1 : b ≠ dx) (h2 : b ≠ a) : flown H a dx xs b = H b := by unfold flown; rw [if_neg h1, if_neg h2]
theorem flown_same {a dx : Addr} {xs : List (Str × V)} : flown H a dx xs dx = some (.xd xs) := if_pos rfl
theorem exo_xd {e C : Addr} {d : Option Addr} {xs : List (Str × V)} : exo e C d ≠ .xd xs := fun z => by
  have z' : HO.ext _ = HO.xd xs := z
  cases z'
theorem fly_ok {a C dx : Addr} {dd : Option Addr} {xs : List (Str × V)} (r : Rel G (FP F a) ρ s H) (na : a ∉ ρ) (nF : ¬ F a) (ha : H a = some (exo a C dd)) (nd : H dx = none) :
    Rel G F ρ s (flown H a dx xs) ∧ Still (Mu ρ s (FP F a)) H (Mu ρ s F) (flown H a dx xs) := by
  have keep : ∀ {b : Addr} {o : HO}, H b = some o → b ≠ a → flown H a dx xs b = some o := fun {b o} e h => by rw [flown_ne (ne_of_none e nd) h]; exact e
  have sub : ∀ b, Mu ρ s F b → Mu ρ s (FP F a) b := mu_sub fun _ z => .inl z
  have st : Still (Mu ρ s (FP F a)) H (Mu ρ s F) (flown H a dx xs) := ⟨fun b o e n => ⟨keep e fun z => n (.inl (.inr z)), fun q => n (sub b q)⟩, fun b ys e => keep e (at_ne ha e exo_tup), fun b o u e => keep e (at_ne ha e exo_frz), fun b ys e => keep e (at_ne ha e exo_xd)⟩
  have nr : ∀ {n : Nat} {b : Addr}, ρ[n]? = some b → b ≠ a := fun {n b} e z => na (by rw [← z]; exact List.mem_of_getElem? e)
  refine ⟨⟨r.len, r.nd, fun n b e l q => r.nf n b e l (.inl q), fun n b e => ?_, fun b q => ?_, fun n o b h1 h2 => ?_⟩, st⟩
  · obtain ⟨w, hw⟩ := r.tr n b e; exact ⟨w, keep hw (nr e)⟩
  · obtain ⟨w, hw⟩ := r.ft b (.inl q); exact ⟨w, keep hw fun z => nF (by rw [← z]; exact q)⟩
  · exact RepO.still st (fun _ _ e => e) (fun w e => keep e (nr h2)) o (r.ob n o b h1 h2)
theorem fly_go {a C dx : Addr} {o : HO} {xs : List (Str × V)} (g : Go ρ s (upd H a o) ρ1 s1 H1) (n : H a = none) (nd : H1 dx = none) : Go ρ s H ρ1 s1 (flown H1 a dx xs) := by
  have hne : ∀ {b : Addr} {w : HO}, H b = some w → b ≠ a ∧ b ≠ dx := fun {b w} e => by
    have h1 := ne_of_none e n
    refine ⟨h1, fun z => ?_⟩
    obtain ⟨w', h'⟩ := g.there b w (by rw [upd_ne h1]; exact e)
    rw [z, nd] at h'; cases h'
  obtain ⟨m, e, hm⟩ := g.pre
  refine ⟨⟨m, e, fun b hb => ?_⟩, g.liv, fun b w e hl => ?_, fun b w e => ?_⟩
  · have q := hm b hb
    by_cases c : b = a
    · rw [c, n]
    · rwa [upd_ne c] at q
  · rw [flown_ne (hne e).2 (hne e).1]
    exact g.keep b w (by rw [upd_ne (hne e).1]; exact e) hl
  · obtain ⟨w', h'⟩ := g.there b w (by rw [upd_ne (hne e).1]; exact e)
    exact ⟨w', by rw [flown_ne (hne e).2 (hne e).1]; exact h'⟩
/-- how the __init__ keeps its argument -/
def keepE : How → EC
  | .plain => v 1
  | .tuple => e1 pTuple (v 1)
theorem keep_ok {h : How} {f : Str} {x : Val} {s : Store} {fs : List (Str × D)} (e : keepAs h f x s = some fs) : ∃ z, keepE h [none, some x] s = .ok (.d z) s ∧ fs = [(f, z)] := by
  cases h with
  | plain =>
    cases x with
    | d z => cases e; exact ⟨z, rfl, rfl⟩
    | loc _ => cases e
    | exn _ _ => cases e
  | tuple =>
    cases x with
    | d z =>
      cases z with
      | tup xs => cases e; exact ⟨_, rfl, rfl⟩
      | lst xs => cases e; exact ⟨_, rfl, rfl⟩
      | _ => cases e
    | loc _ => cases e
    | exn _ _ => cases e
end
section
variable {G : Gd} {X : Cx} {W : WX} {a : Expr} {ca : EC} {pos p pp : Pos}
theorem s_raise {c k : Nat} {h : How} {x fld slf pn : Str} {fI : Addr} {fd : FuncData} (T : OexC X.K (G.ca c)) (iC : PySem.W.findIn X.K (.ref (G.ca c)) "__init__" = some (some (.ref fI))) (tI : PySem.W.typeIn X.K (.ref fI) = some (.type "function"))
    (F1 : FnOk X.prog X.w X.K X.mg X.base (L2.CX X.prog X.w) k fI fd [slf, pn] (spI (tE G Shut (keepE h)) (G.ca c) fld)) (hr : Room (k + 1) X.A) (hb : Binds X.K fd [slf, pn] []) (hm : X.mg x = some (.ref (G.ca c))) (hc : X.calm = true) (tk : Takes X W) (ha : SE G W X ca a)
    (hg : Gl X x := by rfl) (hs : starEach [a] X.env = (false, eval a X.env) :: starEach [] X.env := by rfl) (hdb : (x == ("__debug__" : Str)) = false := by decide) : S1 G W X (sRaise c h fld ca) (.Raise (some (.Call (.Name x p) [a] [] pp)) none pos) :=
  PS.imp (ps_raise hc tk (pmk_oex T iC tI F1 hr hb .nil (fun pins σ H s e s' I cx => by obtain ⟨_, _, _, _, _, _, _, _, _, _, _, _, z⟩ := cx; exact z.elim) hg hm (pa_cons ha pa_nil hs) hdb hs rfl)) fun D σ H ⟨F, ρ, s, E, at_, o⟩ => by
    refine ⟨F, ρ, s, E, at_, (SOut.of (R := RepV G) at_ o).mono ?_⟩
    rintro y H1 ⟨ρ1, s1, v1, g1, at1, x1, o1⟩
    refine ⟨by simp, fun e ne => ?_⟩
    cases ek : keepAs h fld v1 s1 with
    | none => rw [ek] at o1; exact o1.elim
    | some fs =>
      rw [ek] at o1
      simp only at o1
      obtain ⟨z, hz, rfl⟩ := keep_ok ek
      have nF : ¬ F e := fun q => by obtain ⟨w, hw⟩ := at1.rel.ft e q; rw [ne] at hw; cases hw
      have nr : e ∉ ρ1 := at1.rel.nin ne
      have atG := at1.guard (p := e) (o := exo e (G.ca c) none) ne
      have t : Still (Mu ρ1 s1 F) H1 (Mu ρ1 s1 (FP F e)) (upd H1 e (exo e (G.ca c) none)) := guard_still at1.rel ne
      refine ⟨e, y, rfl, upd_same, FP F e, ρ1, s1, [none, some v1], ⟨atG.rel, ⟨rfl, fun i w hw => ?_⟩⟩, ?_⟩
      · match i, hw with
        | 0, hw => simp at hw
        | 1, hw =>
          simp at hw
          subst hw
          exact ⟨y, rfl, RepV.still t (fun _ _ h => h) _ _ x1⟩
        | i + 2, hw => simp at hw
      · rw [hz]
        intro u ρ2 H2 g2 l2 u2
        have ea : H2 e = some (exo e (G.ca c) none) := g2.keep e _ upd_same fun n hn _ => nr (List.mem_of_getElem? hn)
        have nr2 : e ∉ ρ2 := notin g2 nr upd_same
        refine ⟨ea, fun dx nd hne => ⟨rfl, dx, [(fld, u)], upd_same, by rw [upd_ne hne, upd_same], ?_, ?_⟩⟩
        · cases q : H1 dx with
          | none => rfl
          | some w =>
            obtain ⟨w', h'⟩ := g2.there dx w (by rw [upd_ne hne]; exact q)
            rw [nd] at h'; cases h'
        · rw [flown_eq]
          obtain ⟨r3, st3⟩ := fly_ok (dx := dx) (xs := [(fld, u)]) l2 nr2 nF ea nd
          have g3 := fly_go (C := G.ca c) (xs := [(fld, u)]) g2 ne nd
          refine o1 σ ρ2 _ dx _ g3 (at1.go g3 r3) flown_same fun f zz hzz => ?_
          simp only [List.lookup] at hzz ⊢
          split at hzz
          · cases hzz
            exact ⟨u, rfl, RepD.still st3 _ _ u2⟩
          · cases hzz
end

/-! ### try -/
section
variable {G G' : Gd} {F : Addr → Prop} {ρ : List Addr} {s : Store} {H : Hp}
/-- one error is being handled -/
def Gd.hand (G : Gd) (a : Addr) (d : Option Addr) (cls : Value) : Gd := { G with ex := fun a' d' c' => a' = a ∧ d' = d ∧ cls = .ref (G.ca c') }
theorem RepV.to {M : Addr → Prop} (hK : G'.K = G.K) (hx : ∀ a d c, G.ex a d c → G'.ex a d c) : ∀ {v : Val} {x : V}, RepV G ρ M H v x → RepV G' ρ M H v x
  | .d z, x, h => by show RepD G'.K M H z x; rw [hK]; exact h
  | .loc n, x, h => h
  | .exn c fs, x, ⟨a, d, xs, e, g, h, r⟩ => ⟨a, d, xs, e, hx _ _ _ g, h, by rw [hK]; exact r⟩
theorem RepVs.to {M : Addr → Prop} (hK : G'.K = G.K) (hx : ∀ a d c, G.ex a d c → G'.ex a d c) : ∀ {v : List Val} {x : List V}, RepVs G ρ M H v x → RepVs G' ρ M H v x
  | [], [], h => h
  | v :: vs, x :: xs, h => ⟨h.1.to hK hx, h.2.to hK hx⟩
  | [], _ :: _, h => h
  | _ :: _, [], h => h
theorem RepF.to {κ : Type} {M : Addr → Prop} (hK : G'.K = G.K) (hx : ∀ a d c, G.ex a d c → G'.ex a d c) : ∀ {v : List (κ × Val)} {x : List (κ × V)}, RepF G ρ M H v x → RepF G' ρ M H v x
  | [], [], h => h
  | v :: vs, x :: xs, h => ⟨⟨h.1.1, h.1.2.to hK hx⟩, h.2.to hK hx⟩
  | [], _ :: _, h => h
  | _ :: _, [], h => h
theorem RepV.un {M : Addr → Prop} (hK : G'.K = G.K) : ∀ {v : Val} {x : V}, noExV v = true → RepV G' ρ M H v x → RepV G ρ M H v x
  | .d z, x, _, h => by show RepD G.K M H z x; rw [← hK]; exact h
  | .loc n, x, _, h => h
  | .exn c fs, x, e, _ => by cases e
theorem RepVs.un {M : Addr → Prop} (hK : G'.K = G.K) : ∀ {v : List Val} {x : List V}, v.all noExV = true → RepVs G' ρ M H v x → RepVs G ρ M H v x
  | [], [], _, h => h
  | v :: vs, x :: xs, c, h => by
    simp only [List.all_cons, Bool.and_eq_true] at c
    exact ⟨h.1.un hK c.1, h.2.un hK c.2⟩
  | [], _ :: _, _, h => h
  | _ :: _, [], _, h => h
theorem RepF.un {κ : Type} {M : Addr → Prop} (hK : G'.K = G.K) : ∀ {v : List (κ × Val)} {x : List (κ × V)}, (v.all fun p => noExV p.2) = true → RepF G' ρ M H v x → RepF G ρ M H v x
  | [], [], _, h => h
  | v :: vs, x :: xs, c, h => by
    simp only [List.all_cons, Bool.and_eq_true] at c
    exact ⟨⟨h.1.1, h.1.2.un hK c.1⟩, h.2.un hK c.2⟩
  | [], _ :: _, _, h => h
  | _ :: _, [], _, h => h
theorem noEx_V {M : Addr → Prop} (hx : ∀ a d c, ¬ G.ex a d c) : ∀ {v : Val} {x : V}, RepV G ρ M H v x → noExV v = true
  | .d _, _, _ => rfl
  | .loc _, _, _ => rfl
  | .exn c fs, x, ⟨a, d, xs, e, g, _⟩ => absurd g (hx _ _ _)
theorem noEx_Vs {M : Addr → Prop} (hx : ∀ a d c, ¬ G.ex a d c) : ∀ {v : List Val} {x : List V}, RepVs G ρ M H v x → v.all noExV = true
  | [], [], _ => rfl
  | v :: vs, x :: xs, h => by simp only [List.all_cons, Bool.and_eq_true]; exact ⟨noEx_V hx h.1, noEx_Vs hx h.2⟩
  | [], _ :: _, h => h.elim
  | _ :: _, [], h => h.elim
theorem noEx_F {κ : Type} {M : Addr → Prop} (hx : ∀ a d c, ¬ G.ex a d c) : ∀ {v : List (κ × Val)} {x : List (κ × V)}, RepF G ρ M H v x → (v.all fun p => noExV p.2) = true
  | [], [], _ => rfl
  | v :: vs, x :: xs, h => by simp only [List.all_cons, Bool.and_eq_true]; exact ⟨noEx_V hx h.1.2, noEx_F hx h.2⟩
  | [], _ :: _, h => h.elim
  | _ :: _, [], h => h.elim
theorem Rel.noEx (l : Rel G F ρ s H) (hx : ∀ a d c, ¬ G.ex a d c) : s.all noExO = true := by
  refine List.all_eq_true.mpr fun o ho => ?_
  obtain ⟨n, hn⟩ := List.mem_iff_getElem?.mp ho
  have hl : n < ρ.length := by rw [l.len]; exact (List.getElem?_eq_some_iff.mp hn).1
  have q := l.ob n o _ hn (List.getElem?_eq_getElem hl)
  cases o with
  | lst ds => rfl
  | lv vs => obtain ⟨xs, _, _, r⟩ := q; exact noEx_Vs hx r
  | dct vs => obtain ⟨xs, _, _, r⟩ := q; exact noEx_F hx r
  | ins c vs => obtain ⟨dx, xs, _, r⟩ := q; exact noEx_F hx r
  | dead => rfl
theorem RepO.to {M : Addr → Prop} {a : Addr} (hK : G'.K = G.K) (hc : G'.ca = G.ca) (hx : ∀ a d c, G.ex a d c → G'.ex a d c) : ∀ {o : Obj}, RepO G ρ M H a o → RepO G' ρ M H a o
  | .lst ds, ⟨xs, h1, h2, h3⟩ => ⟨xs, h1, h2, by rw [hK]; exact h3⟩
  | .lv ds, ⟨xs, h1, h2, h3⟩ => ⟨xs, h1, h2, h3.to hK hx⟩
  | .dct ds, ⟨xs, h1, h2, h3⟩ => ⟨xs, h1, h2, h3.to hK hx⟩
  | .ins c ds, ⟨dx, xs, h1, h3⟩ => ⟨dx, xs, by rw [hc]; exact h1, h3.to hK hx⟩
  | .dead, _ => trivial
theorem RepO.un {M : Addr → Prop} {a : Addr} (hK : G'.K = G.K) (hc : G'.ca = G.ca) : ∀ {o : Obj}, noExO o = true → RepO G' ρ M H a o → RepO G ρ M H a o
  | .lst ds, _, ⟨xs, h1, h2, h3⟩ => ⟨xs, h1, h2, by rw [← hK]; exact h3⟩
  | .lv ds, c, ⟨xs, h1, h2, h3⟩ => ⟨xs, h1, h2, h3.un hK c⟩
  | .dct ds, c, ⟨xs, h1, h2, h3⟩ => ⟨xs, h1, h2, h3.un hK c⟩
  | .ins _ ds, c, ⟨dx, xs, h1, h3⟩ => ⟨dx, xs, by rw [← hc]; exact h1, h3.un hK c⟩
  | .dead, _, _ => trivial
theorem Rel.to (l : Rel G F ρ s H) (hK : G'.K = G.K) (hc : G'.ca = G.ca) (hx : ∀ a d c, G.ex a d c → G'.ex a d c) : Rel G' F ρ s H := ⟨l.len, l.nd, l.nf, l.tr, l.ft, fun n o a h1 h2 => (l.ob n o a h1 h2).to hK hc hx⟩
theorem Rel.un (l : Rel G' F ρ s H) (hK : G'.K = G.K) (hc : G'.ca = G.ca) (hn : s.all noExO = true) : Rel G F ρ s H := ⟨l.len, l.nd, l.nf, l.tr, l.ft, fun n o a h1 h2 => (l.ob n o a h1 h2).un hK hc (List.all_eq_true.mp hn o (List.mem_of_getElem? h1))⟩
end
section
variable {G : Gd} {X : Cx} {W : WX} {e : Expr} {pos p : Pos}
/-- try: .. except C as n: .. -/
theorem s_try {b u : SC} {c i : Nat} {others : List Nat} {x n : Str} {body suite : List Stmt} {b₀ : Stmt} {np pos' : Pos} (hx : ∀ a d c, ¬ G.ex a d c) (hs : X.stack = X.env :: X.outer) (hf : X.env.frame = some X.env.locals) (hN : X.N.Nodup) (hc : Names X x (.ref (G.ca c))) (tk : Takes X W)
    (h1 : PySem.W.exmOne X.K (.ref (G.ca c)) (.ref (G.ca c)) = some true) (h2 : ∀ c' ∈ others, PySem.W.exmOne X.K (.ref (G.ca c')) (.ref (G.ca c)) = some false)
    (hb : ∀ (W : WX) (pn : List (Addr × PySem.Obj)) (xe : Value → Shared → Prop), Takes (X.tr pn xe) W → PassesOwn (model X.prog X.w) X.A X.env xe → SS G W (X.tr pn xe) b body)
    (hu : ∀ (a : Addr) (oe : PySem.Obj) (cls : Value) (d : Option Addr) (pn : List (Addr × PySem.Obj)), Zc cls d oe → (∃ vs, oe.data = .fields vs) → SS (G.hand a d cls) Shut (X.suite a ((a, oe) :: pn)) u (b₀ :: suite))
    (hi : X.N[i]? = some n := by rfl) (hln : X.env.kindOf n = some .local := by rfl) :
    S1 G W X (sTry b c others i u) (.Try body [.ExceptHandler (some (.Name x np)) (some n) (b₀ :: suite) pos'] [] [] pos) :=
  PS.imp (ps_try_as (tb := fun W => tS G W b) (ts := fun a cls d => tS (G.hand a d cls) Shut u) hs hf hN hi hln hc tk hb (fun a oe cls d pn hz hd => hu a oe cls d pn hz hd)) fun D σ H ⟨F, ρ, s, E, at_, o⟩ => by
    refine ⟨F, ρ, s, E, at_, ?_⟩
    unfold sTry at o
    cases eb : b E s with
    | exc c' fs E1 s1 =>
      rw [eb] at o
      simp only at o
      intro σ1 ρ1 H1 d xs g1 at1 hd q
      by_cases hcc : c' = c
      · subst hcc
        rw [if_pos rfl] at o
        refine ⟨true, h1, fun _ a na => ?_, fun z => by cases z⟩
        by_cases hi1 : i < E1.length
        · rw [if_pos hi1] at o
          have rx : RepV (G.hand a (some d) (.ref (G.ca c'))) ρ1 (Mu ρ1 s1 F) H1 (.exn c' fs) (.ref a) := ⟨a, d, xs, rfl, ⟨rfl, rfl, rfl⟩, hd, q⟩
          have at' : At (G.hand a (some d) (.ref (G.ca c'))) F ρ1 s1 H1 (E1.set i (some (.exn c' fs))) (σ1.set i (some (.ref a))) :=
            ⟨at1.rel.to rfl rfl fun _ _ _ z => absurd z (hx _ _ _), RepE.set (G := G.hand a (some d) (.ref (G.ca c'))) ⟨at1.env.len, fun j w hw => let ⟨y, hy, r⟩ := at1.env.get j w hw; ⟨y, hy, RepV.to (G := G) (G' := G.hand a (some d) (.ref (G.ca c'))) (v := w) (x := y) rfl (fun _ _ _ z => absurd z (hx _ _ _)) r⟩⟩ rx i⟩
          refine ⟨F, ρ1, s1, _, at', ?_⟩
          have back : ∀ {ρ2 : List Addr} {s2 : Store} {H2 : Hp}, (s2.all noExO = true ∨ s2 = s1) → Rel (G.hand a (some d) (.ref (G.ca c'))) F ρ2 s2 H2 → Rel G F ρ2 s2 H2 := fun h r =>
            r.un rfl rfl (h.elim id fun z => by rw [z]; exact at1.rel.noEx hx)
          cases eu : u (E1.set i (some (.exn c' fs))) s1 with
          | nx E2 s2 =>
            rw [eu] at o
            simp only at o
            split at o
            · rename_i hne
              split at o
              · rename_i hns
                intro σ2 ρ2 H2 g2 at2
                refine o _ ρ2 H2 (g1.trans g2) ⟨back hns at2.rel, ?_⟩
                have r2 := at2.env.unset i
                refine ⟨r2.len, fun j w hw => ?_⟩
                obtain ⟨y, hy, r⟩ := r2.get j w hw
                exact ⟨y, hy, RepV.un (G := G) (G' := G.hand a (some d) (.ref (G.ca c'))) rfl (List.all_eq_true.mp hne (some w) (List.mem_of_getElem? hw)) r⟩
              · exact o.elim
            · exact o.elim
          | rt v s2 =>
            rw [eu] at o
            cases v with
            | d z =>
              simp only at o
              split at o
              · rename_i hns
                exact fun y ρ2 H2 g2 r2 y2 => o y ρ2 H2 (g1.trans g2) (back hns r2) y2
              · exact o.elim
            | loc _ => exact o.elim
            | exn _ _ => exact o.elim
          | bk _ _ => rw [eu] at o; exact o.elim
          | ct _ _ => rw [eu] at o; exact o.elim
          | exc _ _ _ _ => rw [eu] at o; exact o.elim
          | fail => rw [eu] at o; exact o.elim
        · rw [if_neg hi1] at o; exact o.elim
      · rw [if_neg hcc] at o
        by_cases ho : c' ∈ others
        · rw [if_pos ho] at o
          exact ⟨false, h2 _ ho, (fun z => by cases z), fun _ => o σ1 ρ1 H1 d xs g1 at1 hd q⟩
        · rw [if_neg ho] at o; exact o.elim
    | nx _ _ => rw [eb] at o; exact o
    | rt _ _ => rw [eb] at o; exact o
    | bk _ _ => rw [eb] at o; exact o
    | ct _ _ => rw [eb] at o; exact o
    | fail => rw [eb] at o; exact o
/-- n.f of the caught error -/
theorem se_exF {c : Nat} {f : Str} {ce : EC} {a : Addr} {oe : PySem.Obj} {cls : Value} {d : Option Addr} {pn : List (Addr × PySem.Obj)} (T : XfC X.K (G.ca c)) (hno : PySem.W.findIn X.K (.ref (G.ca c)) f = some none) (hz : Zc cls d oe) (hd : ∃ vs, oe.data = .fields vs)
    (he : SE (G.hand a d cls) W (X.suite a ((a, oe) :: pn)) ce e) (hb : attributeBase e f X.env (eval e X.env) = eval e X.env := by rfl) : SE (G.hand a d cls) W (X.suite a ((a, oe) :: pn)) (e1 (exF c f) ce) (.Attribute e f pos) :=
  PE.imp (pe_xf T hno hz hd he hb) fun σ H Q ⟨F, ρ, s, E, at_, o⟩ => by
    refine ⟨F, ρ, s, E, at_, (Out.bind (R := RepV (G.hand a d cls)) o).mono ?_⟩
    rintro x H1 ⟨ρ1, s1, v1, g1, l1, x1, o1⟩
    cases v1 with
    | exn c' fs =>
      simp only [exF] at o1
      split at o1
      · rename_i hcc
        subst hcc
        obtain ⟨a0, d0, xs, rfl, ⟨rfl, e2, e3⟩, hx, q⟩ := x1
        split at o1
        · rename_i z hz'
          obtain ⟨y, hy, r⟩ := q f z hz'
          exact ⟨rfl, e3, d0, xs, y, e2.symm, hx, hy, Out.ret (R := RepV (G.hand a0 d cls)) o1 l1 r⟩
        · exact o1.elim
      · exact o1.elim
    | d _ => exact o1.elim
    | loc _ => exact o1.elim
end
end Ev
end
section
set_option Elab.async false
set_option linter.all false
set_option autoImplicit false
set_option maxRecDepth 100000
set_option maxHeartbeats 4000000
/-! What is looked at behind the top. -/
namespace Ev
open PySem L2
/-! ### constants of the module -/
mutual
def repB (K : PySem.W.Frag) : D → Value → Bool
  | .non, .none => true
  | .bl b, .bool c => b == c
  | .int i, .int j _ => decide (i = j)
  | .str x, .str y _ => decide (x = y)
  | .tup ds, .ref a => (match K.lookup a with
    | some ⟨.type t, _, .seq its _, _⟩ => decide (t = "tuple") && (decide (its.size ≤ 1000) && repBs K ds its.toList)
    | _ => false)
  | _, _ => false
def repBs (K : PySem.W.Frag) : List D → List Value → Bool
  | [], [] => true
  | d :: ds, v :: vs => repB K d v && repBs K ds vs
  | _, _ => false
end
mutual
theorem repB_ok {K : PySem.W.Frag} : ∀ (d : D) (u : Value), repB K d u = true → ∃ v : V, RelV v u ∧ ∀ M H, RepD K M H d v
  | .non, u, h => by
    cases u <;> simp [repB] at h
    exact ⟨.non, rfl, fun M H => by simp [RepD]⟩
  | .bl b, u, h => by
    cases u <;> simp [repB] at h
    subst h
    exact ⟨.bl b, rfl, fun M H => by simp [RepD]⟩
  | .int b, u, h => by
    cases u <;> simp [repB] at h
    subst h
    exact ⟨.int b, ⟨_, rfl⟩, fun M H => by simp [RepD]⟩
  | .str b, u, h => by
    cases u <;> simp [repB] at h
    subst h
    exact ⟨.str b, ⟨_, rfl⟩, fun M H => by simp [RepD]⟩
  | .tup ds, u, h => by
    cases u with
    | ref a =>
      simp only [repB] at h
      split at h
      · rename_i t dd its n sl lk
        simp only [Bool.and_eq_true, decide_eq_true_eq] at h
        obtain ⟨rfl, h2, h3⟩ := h
        obtain ⟨xs, r, q⟩ := repBs_ok ds its.toList h3
        refine ⟨.ref a, rfl, fun M H => ?_⟩
        simp only [RepD]
        have hl := r.length
        have hd := (q M H).len
        refine ⟨a, xs, rfl, .inr ⟨_, its, n, lk, rfl, rfl, by rw [sizeLine_eq]; omega, r⟩, ?_, q M H⟩
        rw [hd, hl, sizeLine_eq, Array.length_toList]; omega
      · cases h
    | _ => simp [repB] at h
  | .lst _, u, h => by cases u <;> simp [repB] at h
  | .dct _, u, h => by cases u <;> simp [repB] at h
  | .scr _, u, h => by cases u <;> simp [repB] at h
theorem repBs_ok {K : PySem.W.Frag} : ∀ (ds : List D) (us : List Value), repBs K ds us = true → ∃ vs : List V, Vals vs us ∧ ∀ M H, RepDs K M H ds vs
  | [], [], _ => ⟨[], .nil, fun _ _ => trivial⟩
  | d :: ds, u :: us, h => by
    simp only [repBs, Bool.and_eq_true] at h
    obtain ⟨v, r, q⟩ := repB_ok d u h.1
    obtain ⟨vs, rs, qs⟩ := repBs_ok ds us h.2
    exact ⟨v :: vs, .cons r rs, fun M H => ⟨q M H, qs M H⟩⟩
  | [], _ :: _, h => by simp [repBs] at h
  | _ :: _, [], h => by simp [repBs] at h
end
def ConAt (K : PySem.W.Frag) (mg : Str → Option Value) (x : Str) (d : D) : Prop := ∃ u, mg x = some u ∧ repB K d u = true
def conB (K : PySem.W.Frag) (q : Str × D) : Bool := match PySem.W.nsIn K mainGlobals q.1 with | some (some u) => repB K q.2 u | _ => false
theorem con_ok {K : PySem.W.Frag} {mg : Str → Option Value} {base : Heap} {x : Str} {d : D} (X : K.In base) (N : base.Ns mainGlobals mg) (h : conB K (x, d) = true) : ConAt K mg x d := by
  unfold conB at h
  split at h
  · rename_i u e
    exact ⟨u, PySem.W.mg_of X N e, h⟩
  · cases h
theorem and2 {a b : Bool} (h : (a && b) = true) : a = true ∧ b = true := by simpa using h
/-! ### own error classes -/
def oexB (K : PySem.W.Frag) (C : Addr) : Bool :=
  (match K.lookup C with
    | some ⟨.type t, _, .cls cd, sl⟩ => decide (t = "type") && (cd.hasDict && (!cd.hasDel && ((match cd.mro with | .ref C' :: bm => decide (C' = C) && PySem.HandSPX.refsVE bm | _ => false) && (match sl.toList with | [_, _, _, _, some (.builtin n), _] => decide (n = "ValueError.__new__") | _ => false))))
    | _ => false) &&
  (decide (PySem.W.findIn K (.ref C) "__setattr__" = some (some (.builtin "object.__setattr__"))) && (decide (PySem.W.subIn K (.ref C) (.type "BaseException") = some true) && (decide (PySem.W.typeIn K (.ref C) = some (.type "type")) && PySem.W.keepIn K (.ref C))))
theorem oexB_ok {K : PySem.W.Frag} {C : Addr} (h : oexB K C = true) : OexC K C := by
  obtain ⟨h1, h2⟩ := and2 h
  obtain ⟨h2, h3⟩ := and2 h2
  obtain ⟨h3, h4⟩ := and2 h3
  obtain ⟨h4, h5⟩ := and2 h4
  refine ⟨?_, of_decide_eq_true h2, of_decide_eq_true h3, of_decide_eq_true h4, h5⟩
  split at h1
  · rename_i t dd cd sl lk
    obtain ⟨a1, g1⟩ := and2 h1
    obtain ⟨a2, g2⟩ := and2 g1
    obtain ⟨a3, g3⟩ := and2 g2
    obtain ⟨a4, a5⟩ := and2 g3
    clear h1 g1 g2 g3
    obtain ⟨nm, bs, mro, ns, qn, hd, sn, sb, ab, col, dl⟩ := cd
    simp only at a2 a3 a4
    split at a4
    · rename_i C' bm
      obtain ⟨b1, b2⟩ := and2 a4
      split at a5
      · rename_i k0 k1 k2 k3 n k5 hs
        have e1 := of_decide_eq_true a1
        have e2 := of_decide_eq_true b1
        have e3 := of_decide_eq_true a5
        have e4 : sl = #[k0, k1, k2, k3, some (.builtin n), k5] := Array.toList_inj.mp hs
        have e5 : dl = false := by simpa using a3
        subst e1 e2 e3 e4 e5 a2
        exact ⟨nm, qn, ns, bs, bm, sn, sb, ab, col, dd, k0, k1, k2, k3, k5, lk, b2⟩
      · cases a5
    · cases a4
  · cases h1
/-! ### their __init__s -/
/-- an error class and its __init__, as the text has it -/
structure InD where
  cls : Str
  qual : Str
  params : Arguments
  body : List Stmt
  scope : Scope
abbrev FnI : Type := Option (Str × Str × Arguments × FuncBody × Scope × Addr × List Str × Addr)
def fnI (K : PySem.W.Frag) (x : Str) : FnI := match K.lookup (He.ma K (He.ga K x) "__init__") with
  | some ⟨_, _, .func fd, _⟩ => some (fd.name, fd.qualname, fd.params, fd.body, fd.scope, fd.globals, fd.closure.map (·.1), fd.builtins)
  | _ => none
def InD.val (d : InD) : FnI := some ("__init__", d.qual, d.params, .stmts d.body, d.scope, mainGlobals, ["__class__"], builtinsNs)
def initB (P : Program) (K : PySem.W.Frag) (d : InD) : Bool :=
  oexB K (He.ga K d.cls) && (decide (PySem.W.findIn K (.ref (He.ga K d.cls)) "__init__" = some (some (.ref (He.ma K (He.ga K d.cls) "__init__")))) && (decide (PySem.W.typeIn K (.ref (He.ma K (He.ga K d.cls) "__init__")) = some (.type "function")) &&
  ((match K.lookup (He.ma K (He.ga K d.cls) "__init__") with
    | some ⟨_, _, .func fd, _⟩ => (match fd.code with
      | .ref cda => PySem.W.codeIn K (.ref cda) d.qual && (match K.lookup cda with
        | some ⟨_, _, .fields vs, _⟩ => (match vs[2]? with | some (Value.str f _) => (P.main.file : Str) == f | _ => false)
        | _ => false)
      | _ => false) && ((match fd.defaults with | .none => true | _ => false) && match fd.closure with
      | [(_, cc)] => (match K.lookup cc with | some ⟨_, _, .cell (some (.ref D)), _⟩ => decide (D = He.ga K d.cls) | _ => false)
      | _ => false)
    | _ => false) &&
  (decide (PySem.W.ks_superIn K (He.ga K d.cls) (He.ga K d.cls) "__init__" = some (some (.builtin "ValueError.__init__"))) && (decide (PySem.W.subIn K (.ref (He.ga K d.cls)) (.type "ValueError") = some true) && decide (PySem.W.mroIn K (He.ga K d.cls) (.ref (He.ga K d.cls)) = some true))))))
theorem initB_ok {P : Program} {K : PySem.W.Frag} {d : InD} (h : initB P K d = true) (e : fnI K d.cls = d.val) (any : PySem.W.nsIn K cStatics "thirdparty.any" = some none) (sup : PySem.W.nsIn K mainGlobals "super" = some none) (top : (P.main.scope.names.lookup ("super" : Str)).isSome = false) :
    OexC K (He.ga K d.cls) ∧ ∃ (fI : Addr) (fd : FuncData) (cc cda : Addr), PySem.W.findIn K (.ref (He.ga K d.cls)) "__init__" = some (some (.ref fI)) ∧ PySem.W.typeIn K (.ref fI) = some (.type "function") ∧ InitF P K (He.ga K d.cls) fI fd d.qual d.params d.body d.scope cc cda := by
  obtain ⟨h1, h⟩ := and2 h
  obtain ⟨h2, h⟩ := and2 h
  obtain ⟨h3, h⟩ := and2 h
  obtain ⟨h4, h⟩ := and2 h
  obtain ⟨h5, h⟩ := and2 h
  obtain ⟨h6, h7⟩ := and2 h
  refine ⟨oexB_ok h1, He.ma K (He.ga K d.cls) "__init__", ?_⟩
  unfold fnI at e
  cases lk : K.lookup (He.ma K (He.ga K d.cls) "__init__") with
  | none => rw [lk] at h4; cases h4
  | some o =>
    obtain ⟨oc, od, dt, osl⟩ := o
    rw [lk] at h4 e
    cases dt with
    | func fd =>
      obtain ⟨n1, n2, n3, n4, n5, n6, n7, n8, n9, n10, n11, n12, n13, n14, n15⟩ := fd
      simp only at h4 e
      obtain ⟨k1, k2⟩ := and2 h4
      simp only [InD.val, Option.some.injEq, Prod.mk.injEq] at e
      obtain ⟨e1, e2, e3, e4, e5, e6, e7, e8⟩ := e
      split at k1
      · rename_i cda
        obtain ⟨k1, k3⟩ := and2 k1
        obtain ⟨kd, k4⟩ := and2 k2
        clear k2
        have ed : n8 = .none := by
          split at kd
          · rfl
          · cases kd
        split at k4
        · rename_i nmc cc
          have enm : nmc = "__class__" := by simpa using e7
          split at k4
          · rename_i ccl ccd D csl lcc
            split at k3
            · rename_i xcl xcd vs xsl lcda
              split at k3
              · rename_i f tf hv
                have eD := of_decide_eq_true k4
                subst e1 e2 e3 e4 e5 e6 e8 enm ed
                rw [eD] at lcc
                exact ⟨_, cc, cda, of_decide_eq_true h2, of_decide_eq_true h3, ⟨⟨oc, od, n9, n10, n11, n12, n14, osl, rfl, lk⟩, k1, ⟨_, _, _, _, _, _, lcda, hv, k3⟩, ⟨_, _, _, lcc⟩, any, of_decide_eq_true h5, of_decide_eq_true h6, of_decide_eq_true h7, sup, top⟩⟩
              · cases k3
            · cases k3
          · cases k4
        · cases k4
      · cases k1
    | _ => simp at h4
/-! ### the Hook -/
def allB (P : Program) (ins : List InD) (xfs : List (Str × Str)) (cons : List (Str × D)) (K : PySem.W.Frag) : Bool :=
  (cons.all (conB K)) && ((K.lookup sysModules).isSome && (decide (PySem.W.nsIn K cStatics "thirdparty.any" = some none) && (decide (PySem.W.nsIn K mainGlobals "super" = some none) && ((ins.all fun d => initB P K d) && ((xfs.all fun q => xfB K (He.ga K q.1) && decide (PySem.W.findIn K (.ref (He.ga K q.1)) q.2 = some none)) &&
  (xfs.all fun q => xfs.all fun r => decide (PySem.W.exmOne K (.ref (He.ga K q.1)) (.ref (He.ga K r.1)) = some (decide (q.1 = r.1)))))))))
abbrev AlL : Type := He.AlD × Bool × List FnI
def obsL (P : Program) (fa : List He.Fa) (fn : List He.DefD) (ins : List InD) (xfs : List (Str × Str)) (cons : List (Str × D)) (K : PySem.W.Frag) : AlL := (He.obsD fa fn K, allB P ins xfs cons K, ins.map fun d => fnI K d.cls)
def valL (fn : List He.DefD) (ins : List InD) : AlL := (He.valD fn, true, ins.map InD.val)
def fragL (n : Nat) (g : Addr → Option PySem.Obj) : PySem.W.Frag := He.frG g (sysModules :: cStatics :: He.asD g n)
structure SaysL (P : Program) (fa : List He.Fa) (fn : List He.DefD) (ins : List InD) (xfs : List (Str × Str)) (cons : List (Str × D)) (K : PySem.W.Frag) : Prop where
  eq : obsL P fa fn ins xfs cons K = valL fn ins
def hookL (P : Program) (n : Nat) (fa : List He.Fa) (fn : List He.DefD) (ins : List InD) (xfs : List (Str × Str)) (cons : List (Str × D)) : PySem.W.Hook where
  α := AlL
  obs := fun s => obsL P fa fn ins xfs cons (fragL n s.heap.get?)
  val := fun _ => valL fn ins
  says := fun _ h => ∃ K : PySem.W.Frag, K.In h ∧ SaysL P fa fn ins xfs cons K
  of := fun _ _ e => ⟨_, He.frG_in, ⟨e⟩⟩
  keeps := fun _ _ _ ⟨K, hK, c⟩ k => ⟨K, PySem.W.Frag.In.keeps hK k, c⟩
theorem obsL_eq {P : Program} {n : Nat} {fa : List He.Fa} {fn : List He.DefD} {ins : List InD} {xfs : List (Str × Str)} {cons : List (Str × D)} {g : Addr → Option PySem.Obj} {s : Shared} (h : ∀ a, g a = s.heap.get? a) : obsL P fa fn ins xfs cons (fragL n g) = (hookL P n fa fn ins xfs cons).obs s := by
  have e : g = s.heap.get? := funext h
  rw [e]; rfl
section
variable {P : Program} {fa : List He.Fa} {fn : List He.DefD} {ins : List InD} {xfs : List (Str × Str)} {cons : List (Str × D)} {K : PySem.W.Frag}
theorem SaysL.d (c : SaysL P fa fn ins xfs cons K) : He.SaysD fa fn K := congrArg (fun z : AlL => z.1) c.eq
theorem SaysL.b (c : SaysL P fa fn ins xfs cons K) : allB P ins xfs cons K = true := congrArg (fun z : AlL => z.2.1) c.eq
theorem SaysL.con (c : SaysL P fa fn ins xfs cons K) (i : Nat) {q : Str × D} (h : cons[i]? = some q := by rfl) : conB K q = true := List.all_eq_true.mp (and2 c.b).1 q (List.mem_of_getElem? h)
theorem SaysL.sys (c : SaysL P fa fn ins xfs cons K) : ∃ o, K.lookup sysModules = some o := Option.isSome_iff_exists.mp (and2 (and2 c.b).2).1
theorem SaysL.any (c : SaysL P fa fn ins xfs cons K) : PySem.W.nsIn K cStatics "thirdparty.any" = some none := of_decide_eq_true (and2 (and2 (and2 c.b).2).2).1
theorem SaysL.sup (c : SaysL P fa fn ins xfs cons K) : PySem.W.nsIn K mainGlobals "super" = some none := of_decide_eq_true (and2 (and2 (and2 (and2 c.b).2).2).2).1
theorem SaysL.init (c : SaysL P fa fn ins xfs cons K) (i : Nat) {d : InD} (h : ins[i]? = some d := by rfl) : initB P K d = true ∧ fnI K d.cls = d.val := by
  refine ⟨List.all_eq_true.mp (and2 (and2 (and2 (and2 (and2 c.b).2).2).2).2).1 d (List.mem_of_getElem? h), ?_⟩
  have e : ins.map (fun d => fnI K d.cls) = ins.map InD.val := congrArg (fun z : AlL => z.2.2) c.eq
  have e2 : (ins.map fun d => fnI K d.cls)[i]? = (ins.map InD.val)[i]? := by rw [e]
  rw [List.getElem?_map, List.getElem?_map, h] at e2
  exact Option.some.inj e2
theorem SaysL.xf (c : SaysL P fa fn ins xfs cons K) (i : Nat) {q : Str × Str} (h : xfs[i]? = some q := by rfl) : XfC K (He.ga K q.1) ∧ PySem.W.findIn K (.ref (He.ga K q.1)) q.2 = some none := by
  have z := and2 (List.all_eq_true.mp (and2 (and2 (and2 (and2 (and2 (and2 c.b).2).2).2).2).2).1 q (List.mem_of_getElem? h))
  exact ⟨xfB_ok z.1, of_decide_eq_true z.2⟩
theorem SaysL.exm (c : SaysL P fa fn ins xfs cons K) (i j : Nat) {q r : Str × Str} (h : xfs[i]? = some q := by rfl) (h' : xfs[j]? = some r := by rfl) : PySem.W.exmOne K (.ref (He.ga K q.1)) (.ref (He.ga K r.1)) = some (decide (q.1 = r.1)) := by
  have z := List.all_eq_true.mp (and2 (and2 (and2 (and2 (and2 (and2 c.b).2).2).2).2).2).2 q (List.mem_of_getElem? h)
  exact of_decide_eq_true (List.all_eq_true.mp z r (List.mem_of_getElem? h'))
end
end Ev
end
section
set_option Elab.async false
set_option linter.all false
set_option autoImplicit false
set_option maxRecDepth 100000
set_option maxHeartbeats 4000000
/-! The end: the law's call. -/
namespace Ev
open PySem L2 PyProof.Rows
section
variable {P : Program} {w : World} {K : PySem.W.Frag} {mg mb : Str → Option Value} {k : Nat} {fa a : Addr} {fd : FuncData} {x : Str} {sp : Sp} {st : Shared} {vs : List Value} {ns : List Int}
/-- the law's call, its def's promise told for every base: the script is all that may be tracked -/
theorem law_goes (KX : K.In st.heap) (hG : st.heap.Ns mainGlobals mg) (hB : st.heap.Ns builtinsNs mb) (hbb : ∀ x : Str, x ≠ "__name__" → mb x = bootBuiltins x) (hlim : st.heap.NoLimit) (hg : st.gens = #[])
    (ha : st.heap.get? a = some { cls := .type "list", data := .seq vs.toArray }) (hi : IntsAre vs ns) (hl : ns.length ≤ sizeLine) (hr : Room k callerA)
    (F : ∀ base : Heap, K.In base → base.Ns mainGlobals mg → FnG P w K mg base k fa fd [x] sp) (hbind : ∀ (s : Shared) (u : Value), BindsTo s fd ⟨[u], []⟩ [(x, u)])
    (hsp : ∀ H : Hp, (∀ b, H b = none ∨ ∃ o, H b = some (.frz o (.lst (ns.map V.int)))) → ((∃ o, H a = some (.frz o (.lst (ns.map V.int)))) ∨ SqL K (fun _ => none) a (ns.map V.int)) → sp [.ref a] H (fun v _ => v = .bl true) fun _ _ _ => False) :
    codeAny (model P w) callerA (.call (.ref fa) ⟨[.ref a], []⟩) (fun r s' => r = .ok (.ret (.bool true)) ∧ OldK st.heap s'.heap ∧ s'.os = st.os ∧ AllBare s'.gens) st := by
  have rv := vals_ints hi
  have lv : vs.length = ns.length := hi.length.symm ▸ rfl
  classical
  let sc : PySem.Obj := { cls := .type "list", data := .seq vs.toArray }
  let H : Hp := fun b => if b = a ∧ K.lookup a = none then some (.frz sc (.lst (ns.map V.int))) else none
  have hH : ∀ {b : Addr} {u : HO}, H b = some u → b = a ∧ K.lookup a = none ∧ u = .frz sc (.lst (ns.map V.int)) := fun {b u} e => by
    by_cases c : b = a ∧ K.lookup a = none
    · have e2 : some (HO.frz sc (.lst (ns.map V.int))) = some u := (if_pos c).symm.trans e
      exact ⟨c.1, c.2, (Option.some.inj e2).symm⟩
    · have e2 : (none : Option HO) = some u := (if_neg c).symm.trans e
      cases e2
  have cases2 : ∀ b, H b = none ∨ ∃ o, H b = some (.frz o (.lst (ns.map V.int))) := fun b => by
    cases e : H b with
    | none => exact .inl rfl
    | some u => exact .inr ⟨sc, by rw [(hH e).2.2]⟩
  have hok : HOk P w H st.heap := fun b u e => by
    obtain ⟨e1, _, e3⟩ := hH e
    subst e1 e3
    exact ⟨ha, by rw [List.length_map]; exact hl, vs, _, rv, ha⟩
  have low : ∀ {b : Addr} {o : PySem.Obj}, st.heap.get? b = some o → H b = none → (hidT st.heap H).get? b = some o := fun e n => hidT_get e n
  have names : ∀ {b : Addr} {m : Str → Option Value}, st.heap.Ns b m → (hidT st.heap H).Ns b m := fun {b m} ⟨o, es, ep, e, d, r⟩ => by
    refine ⟨o, es, ep, low e ?_, d, r⟩
    cases q : H b with
    | none => rfl
    | some u =>
      have eb := (hH q).1
      rw [eb, ha] at e
      cases e
      cases d
  have KB : K.In (hidT st.heap H) := fun b o e => low (KX b o e) (by
    cases q : H b with
    | none => rfl
    | some u =>
      obtain ⟨e1, e2, _⟩ := hH q
      rw [e1, e2] at e; cases e)
  have md : L2.Mod K mg (hidT st.heap H) := by
    obtain ⟨mc, l1, l2⟩ := hlim
    exact ⟨KB, names hG, ⟨mb, names hB, hbb⟩, ⟨mc, names l1, l2⟩⟩
  have e0 : Env0 P w K mg (hidT st.heap H) callerA [] st H := by
    refine ⟨rfl, md, fun b o e => of_hidT e, Nat.le_of_eq (hidT_size _ _), trivial, fun b hb => ?_, hok, .of_eq hg⟩
    cases hb
  have seen : (∃ o, H a = some (.frz o (.lst (ns.map V.int)))) ∨ SqL K (fun _ => none) a (ns.map V.int) := by
    cases hk : K.lookup a with
    | none => exact .inl ⟨sc, if_pos ⟨rfl, hk⟩⟩
    | some o =>
      have e := KX a o hk
      rw [ha] at e
      cases e
      exact .inr (.inr ⟨_, vs.toArray, _, hk, rfl, rfl, rfl, by rw [List.size_toArray, lv]; exact hl, by simpa using rv⟩)
  have run := (F _ KB (names hG)).run callerA [] st H ⟨[.ref a], []⟩ [.ref a] [.ref a] _ _ ⟨hr, rfl⟩ e0 (hbind st (.ref a)) (.cons rfl .nil) (hsp H cases2 seen)
  refine codeAny_mono run fun r s' h => ?_
  match r, h with
  | .error e, h =>
    obtain ⟨_, _, _, _, _, _, _, _, _, _, _, _, z⟩ := h
    exact z.elim
  | .ok .next, h => exact h.elim
  | .ok .brk, h => exact h.elim
  | .ok .cont, h => exact h.elim
  | .ok (.ret u), ⟨v, H', os, bare, un, hok', rr, q⟩ =>
    subst q
    obtain rfl : u = Value.bool true := rr
    refine ⟨rfl, OldK.of_keep fun b o e => ?_, os, bare⟩
    cases q : H b with
    | none => exact un.keep b o e q (fun z => by cases z) (by simp)
    | some t =>
      obtain ⟨e1, _, e3⟩ := hH q
      rw [e3] at q
      obtain ⟨z, _⟩ := hok' b _ (un.frzs b _ _ q)
      rw [e1, ha] at e
      cases e
      rw [e1] at z
      rw [e1]; exact z
end
/-- a law over the evaluator: what its def does at each script -/
theorem walk_ev {l : PySem.W.OpenLaw} {n k : Nat} {q : Program} {loose : List Str} {XP : (Str → Option Value) → Heap → Prop} {YP : World → Heap → Prop} {d : DefRec} {x : Str} {lawf : Nat} (hn : l.most = some n) (hn2 : n ≤ line) (hdf : d.params.defaults = []) (hr : Room k callerA)
    (F : ∀ (w : World) (mg : Str → Option Value) (fa : Addr) (h : Heap), YP w h → h.Ns mainGlobals mg → mg d.name = some (.ref fa) →
      ∃ (G : Gd) (C : Calls) (fd : FuncData), G.K.In h ∧ (∀ (s : Shared) (u : Value), BindsTo s fd ⟨[u], []⟩ [(x, u)]) ∧
        (∀ base : Heap, G.K.In base → base.Ns mainGlobals mg → FnG l.prog w G.K mg base k fa fd [x] (spF G C lawf)) ∧ ∀ ns : List Int, ns.length ≤ n → ∃ s, C lawf [.d (.scr ns)] [] = .ok (.d (.bl true)) s) :
    PySem.W.WalkO q loose XP YP l.row.toRowW d [] (fun f vs => PySem.call f vs) := by
  refine Att.attach_call hn hdf fun w s₀ s₁ mg mb fa o pm cd doc a vs ns T Y ho hd hcd hmg hobj hints hlen hg => ?_
  obtain ⟨G, C, fd, KX, hb, hF, hC⟩ := F w mg fa _ Y T.T.g hmg
  refine law_goes KX T.T.g T.T.b T.T.builtins T.T.nolimit hg hobj hints (show ns.length ≤ sizeLine by rw [line_eq]; omega) hr hF hb fun H h1 h2 => ?_
  obtain ⟨s, hs⟩ := hC ns hlen
  refine ⟨fun _ => False, [], [], [.d (.scr ns)], ⟨rfl, List.nodup_nil, fun n a e => by simp at e, fun n a e => by simp at e, fun a z => z.elim, fun n o a e => by simp at e⟩, ⟨?_, trivial⟩, ?_⟩
  · simp only [RepV, RepD]
    exact ⟨a, rfl, h2, by rw [line_eq]; omega⟩
  · rw [hs]
    intro b ρ' H' _ _ r
    simpa [RepV, RepD] using r
end Ev
end
section
set_option Elab.async false
set_option linter.all false
set_option autoImplicit false
set_option maxRecDepth 100000
set_option maxHeartbeats 4000000
/-! What the printed derivations lean on. -/
namespace Ev
open PySem L2
theorem takes_shut {X : Cx} : Takes X Shut := fun u s' ⟨_, _, _, _, _, _, _, _, _, _, _, _, _, _, _, _, z⟩ => z.elim
theorem sys_none {X : Cx} (h : ∃ o, X.K.lookup sysModules = some o) (pins : List (Addr × PySem.Obj)) (σ : St) (H : Hp) (s : Shared) (I : L2.Inv X pins σ H s) : H sysModules = none := by
  obtain ⟨o, e⟩ := h
  exact (I.bs _ _ (I.ok.mod.kin _ _ e)).2
section
variable (P : Program) (w : World) (K : PySem.W.Frag) (mg : Str → Option Value) (base : Heap) (G : Gd) (prog : Calls → Nat → Option Fn)
/-- the def i of the program keeps its promise n levels deep -/
def FnAt (n i : Nat) (x : Str) (ps : List Str) : Prop := ∃ (f : Addr) (fd : FuncData), FnG P w K mg base (n + 3) f fd ps (spF G (runP prog n) i) ∧ Binds K fd ps [] ∧ PySem.W.keepIn K (.ref f) = true ∧ mg x = some (.ref f) ∧ ∃ oc od osl, K.lookup f = some ⟨oc, od, .func fd, osl⟩
/-- the error class c, kept field fld -/
def ErrAt (c : Nat) (x fld : Str) (h : How) : Prop := OexC K (G.ca c) ∧ mg x = some (.ref (G.ca c)) ∧ ∃ (fI : Addr) (fd : FuncData) (slf pn : Str), PySem.W.findIn K (.ref (G.ca c)) "__init__" = some (some (.ref fI)) ∧ PySem.W.typeIn K (.ref fI) = some (.type "function") ∧
  FnOk P w K mg base (L2.CX P w) 1 fI fd [slf, pn] (spI (tE G Shut (keepE h)) (G.ca c) fld) ∧ Binds K fd [slf, pn] []
end
section
variable {G : Gd} {X : Cx} {W : WX} {e a : Expr} {es : List Expr} {ca : AC} {ce : EC} {x : Str} {p pp pos : Pos} {prog : Calls → Nat → Option Fn} {n i : Nat} {ps : List Str}
theorem se_at (F : FnAt X.prog X.w X.K X.mg X.base G prog n i x ps) (hr : RoomG (n + 3) X.A) (tk : Takes X W) (ha : SA G W X ca (e :: es)) (hg : Gl X x := by rfl) (hdb : (x == ("__debug__" : Str)) = false := by decide)
    (he : starEach (e :: es) X.env = (false, eval e X.env) :: starEach es X.env := by rfl) (hpl : (backTo pos (starEach es X.env)).any (·.1) = false := by rfl) : SE G W X (call (runP prog n) i ca) (.Call (.Name x p) (e :: es) [] pos) := by
  obtain ⟨f, fd, F, hb, hk, hm, _⟩ := F
  exact se_call F hr hm hk hb tk ha hg hdb he hpl
theorem s_raiseAt {c : Nat} {fld : Str} {h : How} (F : ErrAt X.prog X.w X.K X.mg X.base G c x fld h) (hr : RoomG (n + 3) X.A) (hc : X.calm = true) (tk : Takes X W) (ha : SE G W X ce a)
    (hg : Gl X x := by rfl) (hs : starEach [a] X.env = (false, eval a X.env) :: starEach [] X.env := by rfl) (hdb : (x == ("__debug__" : Str)) = false := by decide) : S1 G W X (sRaise c h fld ce) (.Raise (some (.Call (.Name x p) [a] [] pp)) none pos) := by
  obtain ⟨T, hm, fI, fd, slf, pn, iC, tI, F1, hb⟩ := F
  exact s_raise T iC tI F1 (hr.room.mono (by omega)) hb hm hc tk ha hg hs hdb
theorem mono_tE {c : EC} {W : WX} (σ : St) (H : Hp) (Q Q' : VK) (h : ∀ x H, Q x H → Q' x H) (q : tE G W c σ H Q) : tE G W c σ H Q' := tE.one q h
end
end Ev
namespace Ev
open PySem L2
theorem fn0 {P : Program} {w : World} {K : PySem.W.Frag} {mg : Str → Option Value} {base : Heap} {G : Gd} {prog : Calls → Nat → Option Fn} {k i : Nat} {f : Addr} {fd : FuncData} {ps : List Str} : FnG P w K mg base k f fd ps (spF G (runP prog 0) i) :=
  ⟨fun _ _ _ _ ⟨_, _, _, _, _, _, o⟩ => o.elim, fun _ _ _ _ _ _ _ _ _ _ _ _ _ ⟨_, _, _, _, _, _, o⟩ => o.elim⟩
theorem binds_init {P : Program} {K : PySem.W.Frag} {C fI : Addr} {fd : FuncData} {qual : Str} {params : Arguments} {body : List Stmt} {scope : Scope} {cc cda : Addr} {ps : List Str} (F : InitF P K C fI fd qual params body scope cc cda)
    (h : ∀ (kV doc pm : Value) (an : Option Addr) (ct : Value) (us : List Value), us.length = ps.length → bindArgs (PySem.W.ksFn "__init__" qual params body scope .none kV doc pm an (.ref cda) ct cc) ⟨us, []⟩ = pure (ps.zip us)) : Binds K fd ps [] := by
  obtain ⟨oc, od, kV, doc, pm, an, ct, osl, rfl, lk⟩ := F.lk
  exact .all (h kV doc pm an ct)
theorem fun_at {K : PySem.W.Frag} {x qual : Str} {params : Arguments} {body : List Stmt} {scope : Scope} {dvs : List V} {kws : List (Str × V)} {f : Addr} {fd : FuncData} (D : FunD K x qual params body scope dvs kws f fd) : ∃ oc od osl, K.lookup f = some ⟨oc, od, .func fd, osl⟩ := by
  obtain ⟨oc, od, _, _, _, _, _, _, _, osl, _, lk, _⟩ := D.ex
  exact ⟨oc, od, osl, lk⟩
theorem fun_one {K : PySem.W.Frag} {f : Addr} {fd fd' : FuncData} (h : ∃ oc od osl, K.lookup f = some ⟨oc, od, .func fd, osl⟩) (h' : ∃ oc od osl, K.lookup f = some ⟨oc, od, .func fd', osl⟩) : fd = fd' := by
  obtain ⟨_, _, _, e⟩ := h
  obtain ⟨_, _, _, e'⟩ := h'
  rw [e] at e'; cases e'; rfl
end Ev
end
section
set_option Elab.async false
set_option linter.all false
set_option autoImplicit false
set_option maxRecDepth 100000
set_option maxHeartbeats 4000000
/-! More: constants of the module, sorted, stars, freezing, two clauses. -/
namespace Ev
open PySem L2
section
variable {G : Gd} {X : Cx} {W : WX} {a b c e : Expr} {es : List Expr} {ca cb cc : EC} {cr : AC} {pos pp p : Pos}
theorem se_con {x : Str} {d : D} (hK : X.K = G.K) (h : ConAt X.K X.mg x d) (hg : Gl X x := by rfl) (hd : (x == ("__debug__" : Str)) = false := by decide) : SE G W X (k d) (.Name x pos) := by
  obtain ⟨u, hm, hr⟩ := h
  obtain ⟨v, r, q⟩ := repB_ok d u hr
  exact PE.imp (pe_glob hg hm r hd) fun σ H Q ⟨F, ρ, s, E, at_, o⟩ => Out.ret (R := RepV G) (b := v) o at_.rel (by simp only [RepV]; rw [← hK]; exact q _ _)
/-! ### what is changed no more -/
theorem se_frz (ha : SE G W X ca a) : SE G W X (frz ca) a :=
  PE.imp ha fun σ H Q ⟨F, ρ, s, E, at_, o⟩ => by
    refine ⟨F, ρ, s, E, at_, (Out.bind (R := RepV G) o).mono ?_⟩
    rintro x H1 ⟨ρ1, s1, v1, g1, l1, x1, o1⟩
    unfold frz1 at o1
    cases v1 with
    | d z => exact Out.ret (R := RepV G) o1 l1 x1
    | exn _ _ => exact o1.elim
    | loc n =>
      obtain ⟨q, hq, rfl⟩ := x1
      simp only at o1
      have nm : ∀ {o : Obj}, s1[n]? = some o → o ≠ .dead → ¬ Mu ρ1 (s1.set n .dead) F q := fun {o} ho d z => by
        rcases z with z | ⟨m, hm, hl⟩
        · exact l1.nf n q hq ⟨o, ho, d⟩ z
        · obtain ⟨i1, e1⟩ := List.getElem?_eq_some_iff.mp hq
          obtain ⟨i2, e2⟩ := List.getElem?_eq_some_iff.mp hm
          have e : n = m := List.getElem_inj l1.nd |>.mp (e1.trans e2.symm)
          subst e
          exact not_live_kill hl
      split at o1
      · rename_i ds ho
        have lv : live s1 n := ⟨_, ho, by simp⟩
        obtain ⟨xs, hx, hz, rr⟩ := l1.ob n _ q ho hq
        have g := go_kill (ρ := ρ1) (H := H1) lv
        refine o1 _ ρ1 H1 g (l1.kill lv) ?_
        simp only [RepV, RepD]
        exact ⟨q, xs, rfl, nm ho (by simp), hx, hz, RepDs.still (l1.still g) _ _ rr⟩
      · rename_i kvs ho
        have lv : live s1 n := ⟨_, ho, by simp⟩
        obtain ⟨xs, hx, hz, rr⟩ := l1.ob n _ q ho hq
        have g := go_kill (ρ := ρ1) (H := H1) lv
        split at o1
        · rename_i ks hk
          obtain ⟨q1, q2⟩ := allKd_rep rr hk
          refine o1 _ ρ1 H1 g (l1.kill lv) ?_
          simp only [RepV, RepD]
          exact ⟨q, xs, rfl, nm ho (by simp), hx, by rw [q2]; exact hz, RepKs.still (l1.still g) _ _ q1⟩
        · exact o1.elim
      · exact o1.elim
theorem RepVs.app {ρ : List Addr} {M : Addr → Prop} {H : Hp} : ∀ {vs : List Val} {xs : List V} {ws : List Val} {ys : List V}, RepVs G ρ M H vs xs → RepVs G ρ M H ws ys → RepVs G ρ M H (vs ++ ws) (xs ++ ys)
  | [], [], _, _, _, h => h
  | _ :: _, _ :: _, _, _, h, h' => ⟨h.1, RepVs.app h.2 h'⟩
  | [], _ :: _, _, _, h, _ => h.elim
  | _ :: _, [], _, _, h, _ => h.elim
/-! ### *a in a display -/
theorem sa_star (hK : X.K = G.K) (ha : SE G W X ca e) (hr : SA G W X cr es) (hs : starEach (.Starred e p :: es) X.env = (true, eval e X.env) :: starEach es X.env := by rfl) : SA G W X (acStar ca cr) (.Starred e p :: es) :=
  PA.imp (StX.pa_star ha hr hs) fun σ H Q ⟨F, ρ, s, E, at_, o⟩ => by
    refine ⟨F, ρ, s, E, at_, (Out.bind (R := RepV G) o).mono ?_⟩
    rintro x H1 ⟨ρ1, s1, v1, g1, l1, x1, o1⟩
    have main : ∀ {q : Addr} {xs : List V} {ds : List D}, x = .ref q → (SqT X.K H1 q xs ∨ SqL X.K H1 q xs) → RepDs G.K (Mu ρ1 s1 F) H1 ds xs → Out G F ρ1 s1 H1 (fun C d H' => W C d σ H') (RepVs G) ((cr E s1).bind fun ys s => .ok (ds.map .d ++ ys) s) Q →
        ∃ p xs, x = V.ref p ∧ (SqT X.K H1 p xs ∨ SqL X.K H1 p xs) ∧ tA G W cr σ H1 fun ys H2 => Q (xs ++ ys) H2 := fun {q xs ds} ex hq rr o2 => by
      refine ⟨q, xs, ex, hq, F, ρ1, s1, E, at_.go g1 l1, (Out.bind (R := RepVs G) o2).mono ?_⟩
      rintro ys H2 ⟨ρ2, s2, vs, g2, l2, x2, o3⟩
      exact Out.ret (R := RepVs G) (b := xs ++ ys) o3 l2 (RepVs.app (RepDs.vs (RepDs.still (l1.still g2) _ _ rr)) x2)
    split at o1
    · rename_i ds e1
      obtain ⟨q, xs, ex, hq, _, rr⟩ := peek_T x1 e1
      exact main ex (.inl (by rw [hK]; exact hq)) rr o1
    · rename_i ds e1
      obtain ⟨q, xs, ex, hq, _, rr⟩ := peek_L l1 x1 e1
      exact main ex (.inr (.inl (.inl hq))) rr o1
    · exact o1.elim
end
end Ev
end
section
set_option Elab.async false
set_option linter.all false
set_option autoImplicit false
set_option maxRecDepth 100000
set_option maxHeartbeats 4000000
/-! sorted, comprehensions of two clauses. -/
namespace Ev
open PySem L2
section
variable {G : Gd} {X : Cx} {W : WX}
/-! ### sorted -/
abbrev RS (G : Gd) (M : Addr → Prop) (H : Hp) : Value → D → Prop := fun v d => ∃ x, RepD G.K M H d x ∧ RelV x v
theorem each_of {M : Addr → Prop} {H : Hp} : ∀ {ds : List D} {xs : List V} {us : List Value}, RepDs G.K M H ds xs → Vals xs us → PySem.W.EachIs (RS G M H) us ds
  | [], [], _, _, .nil => .nil
  | d :: ds, x :: xs, _, h, .cons r t => .cons ⟨x, h.1, r⟩ (each_of h.2 t)
  | [], _ :: _, _, h, _ => h.elim
  | _ :: _, [], _, h, _ => h.elim
theorem each_to {M : Addr → Prop} {H : Hp} : ∀ {ds : List D} {us : List Value}, PySem.W.EachIs (RS G M H) us ds → ∃ xs, Vals xs us ∧ RepDs G.K M H ds xs
  | _, _, .nil => ⟨[], .nil, trivial⟩
  | _, _, .cons ⟨x, h, r⟩ t => by
    obtain ⟨xs, h1, h2⟩ := each_to t
    exact ⟨x :: xs, .cons r h1, h, h2⟩
theorem sortable_ok {ds : List D} (h : sortable ds = true) : PySem.W.AllAlike (ds.map toPy) ∧ PySem.W.Sortable (ds.map toPy) ∧ ∀ d ∈ ds, (toPy d).depth ≤ 60 := by
  simp only [sortable, Bool.and_eq_true, Bool.or_eq_true, List.all_eq_true] at h
  obtain ⟨h1, h2, h3⟩ := h
  refine ⟨fun d hd d' hd' => ?_, ?_, fun d hd => low_le (h2 d hd)⟩
  · obtain ⟨b, hb, rfl⟩ := List.mem_map.mp hd
    obtain ⟨b', hb', rfl⟩ := List.mem_map.mp hd'
    exact h3 b hb b' hb'
  · rcases h1 with h1 | h1
    · left
      intro d hd
      obtain ⟨b, hb, rfl⟩ := List.mem_map.mp hd
      have := h1 b hb
      cases b with
      | tup xs => cases xs with
        | nil => simp [isT1] at this
        | cons x r => exact ⟨toPy x, toPys r, by simp [toPy, toPys]⟩
      | _ => simp [isT1] at this
    · right
      intro d hd
      obtain ⟨b, hb, rfl⟩ := List.mem_map.mp hd
      have := h1 b hb
      cases b <;> simp [isO1] at this <;> simp [toPy]
theorem sorted_core (hK : X.K = G.K) (hu : X.A.units + 64 < cLine) {pins : List (Addr × PySem.Obj)} {s : Shared} {σ : St} {H : Hp} {us : List Value} {a : Addr} {ys : List V} {Q : VK} {M : Addr → Prop} {ds : List D} (I : L2.Inv X pins σ H s) (r : Vals [V.ref a] us) (q : H a = some (.lst ys)) (z : ds.length ≤ sizeLine) (rr : RepDs G.K M H ds ys)
    (c : sortable ds = true) (h : ∀ xs p, RepDs G.K M H (sortD ds) xs → H p = none → Q (.ref p) (upd H p (.lst xs))) : wpAny (model X.prog X.w) X.A (PySem.call (.builtin "sorted") us) (EP X pins σ Q) X.xe s := by
  obtain ⟨its, rv, pl, hz⟩ := I.list (.inl (.inl q))
  obtain ⟨u, rfl, ru⟩ := vals1 r
  cases ru
  obtain ⟨c1, c2, c3⟩ := sortable_ok c
  have e1 := each_of rr rv
  have er : PySem.W.EachIs (fun v b => ∃ as, Reads s.heap v (toPy b) as) its ds := e1.mono fun v d ⟨x, h1, h2⟩ => reads_of I d x v (by rw [hK]; exact h1) h2
  refine PySem.W.sorted_data (R := RS G M H) (enc := toPy) pl.isList e1 er c1 c2 z (fun b hb => by have := c3 b hb; omega) fun out ho eo => ?_
  obtain ⟨xs, h1, h2⟩ := each_to eo
  obtain ⟨ep, he'⟩ := PyProof.Rows.sortedAll_at s.heap its out.toArray
  have hlen : xs.length ≤ sizeLine := by rw [h1.length, ho]; exact z
  exact ⟨.ref _, upd H (s.heap.objs.size + 1) (.lst xs), I.laid (t' := s.toks) (fun _ _ => PyProof.Rows.sortedAll_old) (Nat.le_succ _) ⟨hlen, out, ep, h1, he'⟩, rfl, h xs _ h2 (I.hok.fresh (Nat.le_succ _))⟩
theorem sortD_len (ds : List D) : (sortD ds).length = ds.length := List.length_mergeSort ..
theorem cp_sorted (hK : X.K = G.K) (hu : X.A.units + 64 < cLine) : CallP1 G X (.builtin "sorted") pSorted := by
  intro pins s σ H xs us Q I r ⟨x, e, F, ρ, st, Z, v1, l, x1, o⟩
  subst e
  unfold pSorted at o
  split at o
  · rename_i ds e1
    obtain ⟨a, ys, rfl, q, z, rr⟩ := peek_L l x1 e1
    by_cases c : sortable ds = true
    · rw [if_pos c] at o
      exact sorted_core hK hu I r q z rr c fun xs p h n => Out.newL o l (by rw [sortD_len]; exact z) h p n
    · rw [if_neg c] at o; exact o.elim
  · exact o.elim
theorem cp_sortedA (hK : X.K = G.K) (hu : X.A.units + 64 < cLine) : CallP1 G X (.builtin "sorted") pSortedA := by
  intro pins s σ H xs us Q I r ⟨x, e, F, ρ, st, Z, v1, l, x1, o⟩
  subst e
  unfold pSortedA pSorted at o
  split at o
  · rename_i ds e1
    obtain ⟨a, ys, rfl, q, z, rr⟩ := peek_L l x1 e1
    by_cases c : sortable ds = true
    · rw [if_pos c] at o
      exact sorted_core hK hu I r q z rr c fun xs p h n => Out.newA o l (by rw [sortD_len]; exact z) h p n
    · rw [if_neg c] at o; exact o.elim
  · exact o.elim
end
end Ev
end
section
set_option Elab.async false
set_option linter.all false
set_option autoImplicit false
set_option maxRecDepth 100000
set_option maxHeartbeats 4000000
/-! Comprehensions of two clauses. -/
namespace Ev
open PySem L2
section
variable {G : Gd} {X : Cx} {W : WX} {a b c tg tg1 : Expr} {ca cb cc : EC} {ba : BC} {pos pp : Pos}
theorem Still.trans {M M1 M2 : Addr → Prop} {H H1 H2 : Hp} (h : Still M H M1 H1) (h' : Still M1 H1 M2 H2) : Still M H M2 H2 :=
  ⟨fun a o e n => let ⟨e1, n1⟩ := h.fz a o e n; h'.fz a o e1 n1, fun a xs e => h'.tp a xs (h.tp a xs e), fun a o u e => h'.lk a o u (h.lk a o u e), fun a xs e => h'.xd a xs (h.xd a xs e)⟩
theorem lc_body2 {F : Addr → Prop} {is ws : List Nat} {t : TC} {c : BC} {e : EC} {E : Env} {σ : St} {D : Addr} {acc : List V} {vs vF : List Val} {x : Val} {y : V} {ρ : List Addr} {s sF : Store} {H H' : Hp} {Nx : Hp → Prop} {nxt : Store → Res (List Val)}
    (hsub : ∀ i ∈ is, i ∈ ws) (at_ : At G (FP F D) ρ s H (wipe E ws) (L2.wipe σ ws)) (hD : H D = some (.lst acc)) (nD : D ∉ ρ) (rv : RepVs G ρ (Mu ρ s (FP F D)) H vs acc) (nt : NewT H H')
    (ry : ∀ M3, Still (Mu ρ s (FP F D)) H M3 H' → RepV G ρ M3 H' x y) (hlen : vs.length < sizeLine) (htot : ((lcT ws t c e E x s nxt).bind fun ys s' => .ok (vs ++ ys) s') = .ok vF sF)
    (hN : ∀ ρ4 s4 H4 acc4 vs4, At G (FP F D) ρ4 s4 H4 (wipe E ws) (L2.wipe σ ws) → H4 D = some (.lst acc4) → D ∉ ρ4 → RepVs G ρ4 (Mu ρ4 s4 (FP F D)) H4 vs4 acc4 → (∀ H0 ρ0 s0, H0 D = none → Go ρ0 s0 H0 ρ s H → Go ρ0 s0 H0 ρ4 s4 H4) → Still (Mu ρ s (FP F D)) H (Mu ρ4 s4 (FP F D)) H4 → (∀ (n : Nat) a, ρ[n]? = some a → ρ4[n]? = some a) →
      ((nxt s4).bind fun ys s' => .ok (vs4 ++ ys) s') = .ok vF sF → Nx H4) :
    tH G is t y (L2.wipe σ ws) H' fun σ2 H2 => L2.wipe σ2 ws = L2.wipe σ ws ∧ tT G Shut c σ2 H2 fun b H3 => if b = true then tE G Shut e σ2 H3 fun y H4 => ∃ acc, H4 D = some (.lst acc) ∧ acc.length < sizeLine ∧ Nx (upd H4 D (.lst (acc ++ [y]))) else Nx H3 := by
  obtain ⟨g1, at1⟩ := nt.go at_
  have rl : vs.length = acc.length := rv.len
  refine ⟨FP F D, ρ, s, wipe E ws, x, at1, ry _ (at_.rel.still g1), ?_⟩
  obtain ⟨ys0, s0, h1, h2⟩ := bind_ok' htot
  unfold lcT at h1
  cases e1 : t x (wipe E ws) s with
  | none => rw [e1] at h1; cases h1
  | some p =>
    rw [e1] at h1
    simp only at h1 ⊢
    intro σ' ρ2 H2 g2 at2 kk
    have k := wipe_agree hsub kk
    refine ⟨k, FP F D, ρ2, p.2, p.1, at2, ?_⟩
    obtain ⟨b, s3, e2, h3⟩ := bind_ok' h1
    rw [e2]
    rintro b' ρ3 H3 g3 l3 rfl
    have at3 := at2.go g3 l3
    have g13 := (g1.trans g2).trans g3
    have hD3 : H3 D = some (.lst acc) := g13.keep D _ hD fun n hn _ => nD (List.mem_of_getElem? hn)
    have nD3 : D ∉ ρ3 := notin g13 nD hD
    have base3 : At G (FP F D) ρ3 s3 H3 (wipe E ws) (L2.wipe σ ws) := at_.go g13 l3
    cases b with
    | false =>
      rw [if_neg Bool.false_ne_true]
      simp only [Bool.false_eq_true, if_false] at h3
      refine hN ρ3 s3 H3 acc vs base3 hD3 nD3 (at_.rel.vals g13 rv) (fun H0 ρ0 s0 n g => g.trans g13) (at_.rel.still g13) (fun _ _ h => g13.get h) ?_
      rw [h3]; exact h2
    | true =>
      rw [if_pos rfl]
      simp only [if_true] at h3
      obtain ⟨z, s4, e3, h4⟩ := bind_ok' h3
      obtain ⟨zs, s5, h5, h6⟩ := bind_ok' h4
      refine ⟨FP F D, ρ3, s3, p.1, at3, ?_⟩
      rw [e3]
      intro yv ρ4 H4 g4 l4 x4
      have g14 := g13.trans g4
      have hD4 : H4 D = some (.lst acc) := g14.keep D _ hD fun n hn _ => nD (List.mem_of_getElem? hn)
      have nD4 : D ∉ ρ4 := notin g14 nD hD
      have n1 : ∀ xs, H4 D ≠ some (.tup xs) := by rw [hD4]; simp
      have n2 : ∀ o v, H4 D ≠ some (.frz o v) := by rw [hD4]; simp
      have n3 : ∀ xs, H4 D ≠ some (.xd xs) := by rw [hD4]; simp
      refine ⟨acc, hD4, by omega, ?_⟩
      have st := still_pen (ρ := ρ4) (s := s4) (F := F) (p := D) (u := .lst (acc ++ [yv])) n1 n2 n3
      refine hN ρ4 s4 _ (acc ++ [yv]) (vs ++ [z]) ((at_.go g14 l4).pen n1 n2 n3) upd_same nD4 ?_ (fun H0 ρ0 s0 n g => go_pen (g.trans g14) n) ((at_.rel.still g14).trans st) (fun _ _ h => g14.get h) ?_
      · exact (RepVs.still st (fun _ _ h => h) _ _ (at_.rel.vals g14 rv)).snoc (RepV.still st (fun _ _ h => h) _ _ x4)
      · rw [h5]
        cases h6
        simpa using h2
theorem lc2_to {F : Addr → Prop} {is ws is1 ws1 : List Nat} {t t1 : TC} {ic ic1 : IC} {c c1 : BC} {e : EC} {mk : List Val → Store → Res Val} {σ : St} {H : Hp} {Q : VK} (hsub : ∀ i ∈ is, i ∈ ws) (hsub1 : ∀ i ∈ is1, i ∈ ws1)
    (hmk : ∀ (F : Addr → Prop) ρ0 s0 H0 ρ s H D acc vs, Rel G F ρ0 s0 H0 → H0 D = none → Out G F ρ0 s0 H0 (fun C d H' => W C d σ H') (RepV G) (mk vs s) Q → Rel G (FP F D) ρ s H → H D = some (.lst acc) → D ∉ ρ → RepVs G ρ (Mu ρ s (FP F D)) H vs acc → Go ρ0 s0 H0 ρ s H → vs.length ≤ sizeLine → Q (.ref D) H)
    (h : tE G W (lc2G mk ws t ic c ws1 t1 ic1 c1 e) σ H Q) : tLc2 (tI G W ic) (tH G is t) (tT G Shut c) (tI G Shut ic1) (tH G is1 t1) (tT G Shut c1) (tE G Shut e) ws ws1 σ H Q := by
  obtain ⟨F, ρ, s, E, at_, o⟩ := h
  refine ⟨F, ρ, s, E, at_, (Out.bind (R := JOk G) o).mono ?_⟩
  rintro J H0 ⟨ρ0, s0, sr, g0, l0, jo, o0⟩ D nD0
  have at0 := at_.go g0 l0
  have atG := at0.guard (p := D) (o := .lst []) nD0
  have atW : At G (FP F D) ρ0 s0 (upd H0 D (.lst [])) (wipe E ws) (L2.wipe σ ws) := ⟨atG.rel, atG.env.wipe ws⟩
  have gW : Go ρ0 s0 H0 ρ0 s0 (upd H0 D (.lst [])) := go_pen .refl nD0
  have nDr : D ∉ ρ0 := l0.nin nD0
  cases sr with
  | live n => exact o0.elim
  | vals xs =>
  have tot : ∃ vF sF, lc2V ws t c ws1 t1 ic1 c1 e E xs s0 = .ok vF sF ∧ vF.length < line ∧ lc2S ws t c ws1 t1 ic1 c1 e E (.vals xs) s0 = .ok vF sF := by
    cases q : lc2V ws t c ws1 t1 ic1 c1 e E xs s0 with
    | ok a b =>
      by_cases hl : a.length < line
      · exact ⟨a, b, rfl, hl, by simp only [lc2S, q, Res.bind_ok, if_pos hl, Res.shut_ok]⟩
      · exfalso
        have z : lc2S ws t c ws1 t1 ic1 c1 e E (.vals xs) s0 = .fail := by simp only [lc2S, q, Res.bind_ok, if_neg hl, Res.shut_fail]
        rw [z] at o0; exact o0.elim
    | fail =>
      exfalso
      have z : lc2S ws t c ws1 t1 ic1 c1 e E (.vals xs) s0 = .fail := by simp only [lc2S, q, Res.bind_fail, Res.shut_fail]
      rw [z] at o0; exact o0.elim
    | exc c' fs s' =>
      exfalso
      have z : lc2S ws t c ws1 t1 ic1 c1 e E (.vals xs) s0 = .fail := by simp only [lc2S, q, Res.bind_exc, Res.shut_exc]
      rw [z] at o0; exact o0.elim
  obtain ⟨vF, sF, tot, hvF, tot2⟩ := tot
  rw [tot2] at o0
  simp only [Res.bind_ok] at o0
  have stG : ∀ {ρ2 : List Addr} {s2 : Store} {H2 : Hp}, Go ρ0 s0 H0 ρ2 s2 H2 → Still (Mu ρ0 s0 F) H0 (Mu ρ2 s2 (FP F D)) H2 := fun g => by
    have st := l0.still g
    refine ⟨fun a o e n => ⟨(st.fz a o e n).1, fun q => ?_⟩, st.tp, st.lk, st.xd⟩
    rcases q with (q | q) | q
    · exact (st.fz a o e n).2 (.inl q)
    · rw [q, nD0] at e; cases e
    · exact (st.fz a o e n).2 (.inr q)
  have base : ∀ {ρ2 : List Addr} {s2 : Store} {H2 : Hp}, Go ρ0 s0 H0 ρ2 s2 H2 → Rel G (FP F D) ρ2 s2 H2 → At G (FP F D) ρ2 s2 H2 (wipe E ws) (L2.wipe σ ws) := fun g r => ⟨r, (at0.env.still (stG g) fun _ _ h => g.get h).wipe ws⟩
  refine ⟨fun i m H => m = xs.length - i ∧ i ≤ xs.length ∧ ∃ ρ s acc vs, At G (FP F D) ρ s H (wipe E ws) (L2.wipe σ ws) ∧ H D = some (.lst acc) ∧ D ∉ ρ ∧ RepVs G ρ (Mu ρ s (FP F D)) H vs acc ∧ Go ρ0 s0 H0 ρ s H ∧ ((lc2V ws t c ws1 t1 ic1 c1 e E (xs.drop i) s).bind fun ys s' => .ok (vs ++ ys) s') = .ok vF sF,
    ⟨_, rfl, Nat.zero_le _, ρ0, s0, [], [], atW, upd_same, nDr, trivial, gW, by simp [tot]⟩, ?_⟩
  rintro i m H2 ⟨rfl, hi, ρ2, s2, acc, vs, at2, hD2, nD2, rv2, g2, e2⟩
  have J2 := jo ρ2 _ H2 (stG g2) (fun _ _ h => g2.get h) i
  by_cases hlt : i < xs.length
  rotate_left
  · rw [List.drop_eq_nil_of_le (by omega)] at e2
    simp only [lc2V, Res.bind_ok, List.append_nil] at e2
    cases e2
    exact .inl ⟨J2.2 (by omega), hmk F ρ0 s0 H0 ρ2 sF H2 D acc vF l0 nD0 o0 at2.rel hD2 nD2 rv2 g2 (by rw [line_eq]; omega)⟩
  obtain ⟨hgo, hy⟩ := J2.1 xs[i] (by simp [hlt])
  rw [List.drop_eq_getElem_cons hlt] at e2
  refine .inr ⟨hgo, fun H => ∃ ρ s acc vs, At G (FP F D) ρ s H (wipe E ws) (L2.wipe σ ws) ∧ H D = some (.lst acc) ∧ D ∉ ρ ∧ RepVs G ρ (Mu ρ s (FP F D)) H vs acc ∧ Go ρ0 s0 H0 ρ s H ∧ ((lc2V ws t c ws1 t1 ic1 c1 e E (xs.drop (i + 1)) s).bind fun ys s' => .ok (vs ++ ys) s') = .ok vF sF,
    fun H' h => ⟨xs.length - (i + 1), by omega, rfl, hlt, h⟩, fun y H3 yl => ?_⟩
  obtain ⟨nt, rv⟩ := hy y H3 yl
  -- the outer target
  obtain ⟨g1, at1⟩ := nt.go at2
  obtain ⟨ys0, s9, h1, h2⟩ := bind_ok' e2
  refine ⟨FP F D, ρ2, s2, wipe E ws, xs[i], at1, rv _ (at2.rel.still g1), ?_⟩
  simp only [lc2V] at h1
  cases e1 : t xs[i] (wipe E ws) s2 with
  | none => rw [e1] at h1; cases h1
  | some p =>
  rw [e1] at h1
  simp only at h1 ⊢
  intro σ' ρ3 H4 g3 at3 kk
  have k := wipe_agree hsub kk
  refine ⟨k, FP F D, ρ3, p.2, p.1, at3, ?_⟩
  obtain ⟨b, s3, e3, h3⟩ := bind_ok' h1
  rw [e3]
  rintro b' ρ4 H5 g4 l4 rfl
  have at4 := at3.go g4 l4
  have g14 := (g1.trans g3).trans g4
  have hD4 : H5 D = some (.lst acc) := g14.keep D _ hD2 fun n hn _ => nD2 (List.mem_of_getElem? hn)
  have nD4 : D ∉ ρ4 := notin g14 nD2 hD2
  have g04 := g2.trans g14
  cases b with
  | false =>
    rw [if_neg Bool.false_ne_true]
    simp only [Bool.false_eq_true, if_false] at h3
    exact ⟨ρ4, s3, acc, vs, base g04 l4, hD4, nD4, at2.rel.vals g14 rv2, g04, by rw [h3]; exact h2⟩
  | true =>
    rw [if_pos rfl]
    simp only [if_true] at h3
    obtain ⟨sr1, s4, e4, h4⟩ := bind_ok' h3
    refine ⟨FP F D, ρ4, s3, p.1, at4, ?_⟩
    rw [e4]
    intro J1 ρ5 H6 g5 l5 jo1
    cases sr1 with
    | live n => cases h4
    | vals ys =>
    simp only at h4
    obtain ⟨zs, s5, e5, h5⟩ := bind_ok' h4
    obtain ⟨rs, s6, e6, h6⟩ := bind_ok' h5
    cases h6
    cases h2
    have at5 := at4.go g5 l5
    have g15 := g14.trans g5
    have hD5 : H6 D = some (.lst acc) := g15.keep D _ hD2 fun n hn _ => nD2 (List.mem_of_getElem? hn)
    have nD5 : D ∉ ρ5 := notin g15 nD2 hD2
    have g05 := g2.trans g15
    have inner : ∀ {us : List Val} {q : List Val} {s' : Store}, (Res.ok us s' : Res (List Val)) = .ok q s' → us = q := fun h => by cases h; rfl
    refine ⟨fun j kk H => kk = ys.length - j ∧ j ≤ ys.length ∧ ∃ ρ s acc us, At G (FP F D) ρ s H (wipe p.1 ws1) (L2.wipe σ' ws1) ∧ H D = some (.lst acc) ∧ D ∉ ρ ∧ RepVs G ρ (Mu ρ s (FP F D)) H us acc ∧ Go ρ0 s0 H0 ρ s H ∧ Still (Mu ρ5 s4 (FP F D)) H6 (Mu ρ s (FP F D)) H ∧ (∀ (n : Nat) a, ρ5[n]? = some a → ρ[n]? = some a) ∧ ((lcV ws1 t1 c1 e p.1 (ys.drop j) s).bind fun ts s' => .ok (us ++ ts) s') = .ok (vs ++ zs) s5,
      ⟨_, rfl, Nat.zero_le _, ρ5, s4, acc, vs, ⟨at5.rel, at5.env.wipe ws1⟩, hD5, nD5, at2.rel.vals g15 rv2, g05, still_sub fun _ h => h, fun _ _ h => h, by simp [e5]⟩, ?_⟩
    rintro j kk H7 ⟨rfl, hj, ρ7, s7, acc7, us, at7, hD7, nD7, rv7, g7, st7, pr7, e7⟩
    have J3 := jo1 ρ7 _ H7 st7 pr7 j
    by_cases hjl : j < ys.length
    rotate_left
    · rw [List.drop_eq_nil_of_le (by omega)] at e7
      simp only [lcV, Res.bind_ok, List.append_nil] at e7
      cases e7
      refine .inl ⟨J3.2 (by omega), ρ7, s5, acc7, vs ++ zs, base g7 at7.rel, hD7, nD7, rv7, g7, ?_⟩
      rw [e6]
      simp
    obtain ⟨hgo1, hy1⟩ := J3.1 ys[j] (by simp [hjl])
    rw [List.drop_eq_getElem_cons hjl] at e7
    refine .inr ⟨hgo1, fun H => ∃ ρ s acc us, At G (FP F D) ρ s H (wipe p.1 ws1) (L2.wipe σ' ws1) ∧ H D = some (.lst acc) ∧ D ∉ ρ ∧ RepVs G ρ (Mu ρ s (FP F D)) H us acc ∧ Go ρ0 s0 H0 ρ s H ∧ Still (Mu ρ5 s4 (FP F D)) H6 (Mu ρ s (FP F D)) H ∧ (∀ (n : Nat) a, ρ5[n]? = some a → ρ[n]? = some a) ∧ ((lcV ws1 t1 c1 e p.1 (ys.drop (j + 1)) s).bind fun ts s' => .ok (us ++ ts) s') = .ok (vs ++ zs) s5,
      fun H' h => ⟨ys.length - (j + 1), by omega, rfl, hjl, h⟩, fun z H8 zl => ?_⟩
    obtain ⟨nt1, rv1⟩ := hy1 z H8 zl
    have hus : us.length < sizeLine := by
      obtain ⟨ts, s', _, q⟩ := bind_ok' e7
      have q1 := congrArg (fun r : Res (List Val) => match r with | .ok l _ => l.length | _ => 0) q
      simp only [List.length_append] at q1 hvF
      rw [line_eq]; omega
    exact lc_body2 (nxt := fun s' => lcV ws1 t1 c1 e p.1 (ys.drop (j + 1)) s') hsub1 at7 hD7 nD7 rv7 nt1 rv1 hus e7 fun ρ8 s8 H9 acc8 vs8 a8 h8 n8 r8 g8 t8 p8 e8 => ⟨ρ8, s8, acc8, vs8, a8, h8, n8, r8, g8 _ _ _ nD0 g7, st7.trans t8, fun _ _ h => p8 _ _ (pr7 _ _ h), e8⟩
section
variable {ic ic1 : IC} {iter iter1 elt : Expr} {ifs ifs1 : List Expr} {scope : Scope} {own : List (Str × Nat)} {is is1 vs1 : List Nat} {t t1 : TC} {bc bc1 : BC} {ce : EC}
theorem se_lc2 (hc : X.calm = true) (hN : X.N.Nodup) (hi : SI G W X tg ic iter) (ok : BlkOk X.N X.env.scope scope own) (hg : InBlk X scope fun X => SH G X is t tg) (ht : InBlk X scope fun X => STs G Shut X bc ifs)
    (hi1 : InBlk X scope fun X => SI G Shut X tg1 ic1 iter1) (hg1 : InBlk X scope fun X => SH G X is1 t1 tg1) (ht1 : InBlk X scope fun X => STs G Shut X bc1 ifs1) (he : InBlk X scope fun X => SE G Shut X ce elt)
    (hv : ∀ i ∈ vs1, i ∈ own.map (·.2) := by decide) (hsub : ∀ i ∈ is, i ∈ own.map (·.2) := by decide) (hsub1 : ∀ i ∈ is1, i ∈ vs1 := by decide) (hs : ∀ x, foldedSetIterable iter X.env x = pure x := by intro _; rfl) (hs1 : ∀ env x, foldedSetIterable iter1 env x = pure x := by intro _ _; rfl) :
    SE G W X (lc2 (own.map (·.2)) t ic bc vs1 t1 ic1 bc1 ce) (.ListComp elt [⟨tg, iter, ifs, 0⟩, ⟨tg1, iter1, ifs1, 0⟩] scope pos) :=
  PE.imp (pe_lc2 hc hN hi ok hv hg ht hi1 hg1 ht1 he hs hs1) fun σ H Q h => lc2_to (F := fun _ => False) hsub hsub1 mk_frz h
theorem se_lc2A (hc : X.calm = true) (hN : X.N.Nodup) (hi : SI G W X tg ic iter) (ok : BlkOk X.N X.env.scope scope own) (hg : InBlk X scope fun X => SH G X is t tg) (ht : InBlk X scope fun X => STs G Shut X bc ifs)
    (hi1 : InBlk X scope fun X => SI G Shut X tg1 ic1 iter1) (hg1 : InBlk X scope fun X => SH G X is1 t1 tg1) (ht1 : InBlk X scope fun X => STs G Shut X bc1 ifs1) (he : InBlk X scope fun X => SE G Shut X ce elt)
    (hv : ∀ i ∈ vs1, i ∈ own.map (·.2) := by decide) (hsub : ∀ i ∈ is, i ∈ own.map (·.2) := by decide) (hsub1 : ∀ i ∈ is1, i ∈ vs1 := by decide) (hs : ∀ x, foldedSetIterable iter X.env x = pure x := by intro _; rfl) (hs1 : ∀ env x, foldedSetIterable iter1 env x = pure x := by intro _ _; rfl) :
    SE G W X (lc2A (own.map (·.2)) t ic bc vs1 t1 ic1 bc1 ce) (.ListComp elt [⟨tg, iter, ifs, 0⟩, ⟨tg1, iter1, ifs1, 0⟩] scope pos) :=
  PE.imp (pe_lc2 hc hN hi ok hv hg ht hi1 hg1 ht1 he hs hs1) fun σ H Q h => lc2_to (F := fun _ => False) hsub hsub1 mk_new h
end
end
end Ev
end
section
set_option Elab.async false
set_option linter.all false
set_option autoImplicit false
set_option maxRecDepth 100000
set_option maxHeartbeats 0
namespace K61
open PySem PySem.Spec PyProof.Rows L2 Ev
abbrev pg : Program := PySem.Challenge.pw_bitloom_k61_fabrics
def top (i : Nat) : Stmt := pg.main.body.getD i (.Pass ⟨0, 0, 0, 0⟩)
def within (s : Stmt) (j : Nat) : Stmt := match s with
  | .ClassDef _ _ _ b _ _ _ _ _ _ _ => b.getD j (.Pass ⟨0, 0, 0, 0⟩)
  | _ => .Pass ⟨0, 0, 0, 0⟩
abbrev s_is_integer : Stmt := top 7
def d_is_integer : He.DefD := ⟨("is_integer", none), "is_integer", "is_integer", defArgs s_is_integer, defBody s_is_integer, defScope s_is_integer, [], []⟩
abbrev s_check_fabric : Stmt := top 8
def d_check_fabric : He.DefD := ⟨("check_fabric", none), "check_fabric", "check_fabric", defArgs s_check_fabric, defBody s_check_fabric, defScope s_check_fabric, [], []⟩
abbrev s_is_tile : Stmt := top 9
def d_is_tile : He.DefD := ⟨("is_tile", none), "is_tile", "is_tile", defArgs s_is_tile, defBody s_is_tile, defScope s_is_tile, [], []⟩
abbrev s_tiles_of : Stmt := top 10
def d_tiles_of : He.DefD := ⟨("tiles_of", none), "tiles_of", "tiles_of", defArgs s_tiles_of, defBody s_tiles_of, defScope s_tiles_of, [], []⟩
abbrev s_neighbour : Stmt := top 11
def d_neighbour : He.DefD := ⟨("neighbour", none), "neighbour", "neighbour", defArgs s_neighbour, defBody s_neighbour, defScope s_neighbour, [], []⟩
abbrev s_is_border : Stmt := top 12
def d_is_border : He.DefD := ⟨("is_border", none), "is_border", "is_border", defArgs s_is_border, defBody s_is_border, defScope s_is_border, [], []⟩
abbrev s_pads_of : Stmt := top 13
def d_pads_of : He.DefD := ⟨("pads_of", none), "pads_of", "pads_of", defArgs s_pads_of, defBody s_pads_of, defScope s_pads_of, [], []⟩
abbrev s_is_wire : Stmt := top 14
def d_is_wire : He.DefD := ⟨("is_wire", none), "is_wire", "is_wire", defArgs s_is_wire, defBody s_is_wire, defScope s_is_wire, [], []⟩
abbrev s_wire_in : Stmt := top 15
def d_wire_in : He.DefD := ⟨("wire_in", none), "wire_in", "wire_in", defArgs s_wire_in, defBody s_wire_in, defScope s_wire_in, [], []⟩
abbrev s_wires_from : Stmt := top 16
def d_wires_from : He.DefD := ⟨("wires_from", none), "wires_from", "wires_from", defArgs s_wires_from, defBody s_wires_from, defScope s_wires_from, [], []⟩
abbrev s_all_wires : Stmt := top 17
def d_all_wires : He.DefD := ⟨("all_wires", none), "all_wires", "all_wires", defArgs s_all_wires, defBody s_all_wires, defScope s_all_wires, [], []⟩
abbrev s_least_pads : Stmt := top 18
def d_least_pads : He.DefD := ⟨("least_pads", none), "least_pads", "least_pads", defArgs s_least_pads, defBody s_least_pads, defScope s_least_pads, [], []⟩
abbrev s_fabric_for : Stmt := top 19
def d_fabric_for : He.DefD := ⟨("fabric_for", none), "fabric_for", "fabric_for", defArgs s_fabric_for, defBody s_fabric_for, defScope s_fabric_for, [], []⟩
abbrev s__law_source : Stmt := top 21
def d__law_source : He.DefD := ⟨("_law_source", none), "_law_source", "_law_source", defArgs s__law_source, defBody s__law_source, defScope s__law_source, [], []⟩
abbrev s__law_pick : Stmt := top 22
def d__law_pick : He.DefD := ⟨("_law_pick", none), "_law_pick", "_law_pick", defArgs s__law_pick, defBody s__law_pick, defScope s__law_pick, [], []⟩
abbrev s__law_of : Stmt := top 23
def d__law_of : He.DefD := ⟨("_law_of", none), "_law_of", "_law_of", defArgs s__law_of, defBody s__law_of, defScope s__law_of, [], []⟩
abbrev s__law_mixed : Stmt := top 24
def d__law_mixed : He.DefD := ⟨("_law_mixed", none), "_law_mixed", "_law_mixed", defArgs s__law_mixed, defBody s__law_mixed, defScope s__law_mixed, [], []⟩
abbrev s__law_odd : Stmt := top 25
def d__law_odd : He.DefD := ⟨("_law_odd", none), "_law_odd", "_law_odd", defArgs s__law_odd, defBody s__law_odd, defScope s__law_odd, [], []⟩
abbrev s__law_is_whole : Stmt := top 26
def d__law_is_whole : He.DefD := ⟨("_law_is_whole", none), "_law_is_whole", "_law_is_whole", defArgs s__law_is_whole, defBody s__law_is_whole, defScope s__law_is_whole, [], []⟩
abbrev s__law_beside : Stmt := top 27
def d__law_beside : He.DefD := ⟨("_law_beside", none), "_law_beside", "_law_beside", defArgs s__law_beside, defBody s__law_beside, defScope s__law_beside, [], []⟩
abbrev s__law_tiles : Stmt := top 28
def d__law_tiles : He.DefD := ⟨("_law_tiles", none), "_law_tiles", "_law_tiles", defArgs s__law_tiles, defBody s__law_tiles, defScope s__law_tiles, [], []⟩
abbrev s__law_pads : Stmt := top 29
def d__law_pads : He.DefD := ⟨("_law_pads", none), "_law_pads", "_law_pads", defArgs s__law_pads, defBody s__law_pads, defScope s__law_pads, [], []⟩
abbrev s__law_wires : Stmt := top 30
def d__law_wires : He.DefD := ⟨("_law_wires", none), "_law_wires", "_law_wires", defArgs s__law_wires, defBody s__law_wires, defScope s__law_wires, [], []⟩
abbrev s__law_coming : Stmt := top 31
def d__law_coming : He.DefD := ⟨("_law_coming", none), "_law_coming", "_law_coming", defArgs s__law_coming, defBody s__law_coming, defScope s__law_coming, [], []⟩
abbrev s__law_told : Stmt := top 32
def d__law_told : He.DefD := ⟨("_law_told", none), "_law_told", "_law_told", defArgs s__law_told, defBody s__law_told, defScope s__law_told, [], []⟩
abbrev s__law_due : Stmt := top 33
def d__law_due : He.DefD := ⟨("_law_due", none), "_law_due", "_law_due", defArgs s__law_due, defBody s__law_due, defScope s__law_due, [], []⟩
abbrev s__law_tiles_right : Stmt := top 34
def d__law_tiles_right : He.DefD := ⟨("_law_tiles_right", none), "_law_tiles_right", "_law_tiles_right", defArgs s__law_tiles_right, defBody s__law_tiles_right, defScope s__law_tiles_right, [], []⟩
abbrev s__law_counts_told : Stmt := top 35
def d__law_counts_told : He.DefD := ⟨("_law_counts_told", none), "_law_counts_told", "_law_counts_told", defArgs s__law_counts_told, defBody s__law_counts_told, defScope s__law_counts_told, [], []⟩
abbrev s__law_counts_due : Stmt := top 36
def d__law_counts_due : He.DefD := ⟨("_law_counts_due", none), "_law_counts_due", "_law_counts_due", defArgs s__law_counts_due, defBody s__law_counts_due, defScope s__law_counts_due, [], []⟩
abbrev s_law : Stmt := top 37
def d_law : He.DefD := ⟨("law", none), "law", "law", defArgs s_law, defBody s_law, defScope s_law, [], []⟩
def fn : List He.DefD := [d_is_integer, d_check_fabric, d_is_tile, d_tiles_of, d_neighbour, d_is_border, d_pads_of, d_is_wire, d_wire_in, d_wires_from, d_all_wires, d_least_pads, d_fabric_for, d__law_source, d__law_pick, d__law_of, d__law_mixed, d__law_odd, d__law_is_whole, d__law_beside, d__law_tiles, d__law_pads, d__law_wires, d__law_coming, d__law_told, d__law_due, d__law_tiles_right, d__law_counts_told, d__law_counts_due, d_law]
def fa : List He.Fa := [.glo "is_integer", .glo "check_fabric", .glo "is_tile", .glo "tiles_of", .glo "neighbour", .glo "is_border", .glo "pads_of", .glo "is_wire", .glo "wire_in", .glo "wires_from", .glo "all_wires", .glo "least_pads", .glo "fabric_for", .glo "_law_source", .glo "_law_pick", .glo "_law_of", .glo "_law_mixed", .glo "_law_odd", .glo "_law_is_whole", .glo "_law_beside", .glo "_law_tiles", .glo "_law_pads", .glo "_law_wires", .glo "_law_coming", .glo "_law_told", .glo "_law_due", .glo "_law_tiles_right", .glo "_law_counts_told", .glo "_law_counts_due", .glo "law", .glo "LoomError", .glo "BadFabric", .glo "NoRoom", .free "ValueError", .free "abs", .free "all", .free "bool", .free "enumerate", .free "int", .free "isinstance", .free "len", .free "list", .free "max", .free "range", .free "repr", .free "sorted", .free "super", .free "tuple"]
abbrev i_BadFabric : Stmt := within (top 2) 0
def n_BadFabric : InD := ⟨"BadFabric", "BadFabric.__init__", defArgs i_BadFabric, defBody i_BadFabric, defScope i_BadFabric⟩
abbrev i_NoRoom : Stmt := within (top 3) 0
def n_NoRoom : InD := ⟨"NoRoom", "NoRoom.__init__", defArgs i_NoRoom, defBody i_NoRoom, defScope i_NoRoom⟩
def ins : List InD := [n_BadFabric, n_NoRoom]
def xfs : List (Str × Str) := [("BadFabric", "path"), ("NoRoom", "word")]
def c_BOUNDS : Ev.D := .tup [.tup [.int 1, .int 16], .tup [.int 1, .int 16], .tup [.int 1, .int 60], .tup [.int 2, .int 6], .tup [.int 1, .int 8]]
def c_STEPS : Ev.D := .tup [.tup [.int 1, .int 0], .tup [.int 0, .int 1], .tup [.int (-1), .int 0], .tup [.int 0, .int (-1)]]
def cons : List (Str × Ev.D) := [("BOUNDS", c_BOUNDS), ("STEPS", c_STEPS)]
abbrev R : PySem.W.OpenRow := PySem.W.OpenLaw.row PySem.Challenge.rw_bitloom_k61_fabrics
def hk : PySem.W.Hook := hookL pg 6 fa fn ins xfs cons
def ob (s : PySem.W.SharedT) : AlL := obsL pg fa fn ins xfs cons (fragL 6 (HandSHeadRun.getT s))
theorem ob_eq (s : PySem.W.SharedT) : ob s = hk.obs s.abs := obsL_eq (HandSHeadRun.getT_eq s)
def loose0 : List Str := ["__name__", "LoomError", "BadFabric", "NoRoom", "is_integer", "check_fabric", "is_tile", "tiles_of", "neighbour", "is_border", "pads_of", "is_wire", "wire_in", "wires_from", "all_wires", "least_pads"]
def loose1 : List Str := ["fabric_for", "_law_source", "_law_pick", "_law_of", "_law_mixed", "_law_odd", "_law_is_whole", "_law_beside", "_law_tiles", "_law_pads", "_law_wires", "_law_coming", "_law_told", "_law_due", "_law_tiles_right", "_law_counts_told"]
def loose2 : List Str := ["_law_counts_due", "BOUNDS", "STEPS"]
def loose : List Str := loose0 ++ loose1 ++ loose2
theorem run (w : World) : HandSHeadRun.RunEq R (PySem.W.view R.prog [37]) hk ob 4000 loose w := by
  intro os
  kernel_rfl
end K61
end
section
set_option Elab.async false
set_option linter.all false
set_option autoImplicit false
set_option maxRecDepth 100000
set_option maxHeartbeats 4000000
namespace K61
open PySem PySem.Spec PyProof.Rows L2 Ev
/-! ### the defs as the evaluator has them -/
noncomputable def e_is_integer (C : Calls) : SC := sq (sRet (eand (e1 (pIsi [.int]) (v 0)) (enot (e1 (pIsi [.bool]) (v 0))))) (sNil)
noncomputable def check_fabric_L1 (C : Calls) : SC := sq (sIf (bor (bnot (bv (call C 0 (ac (e2 pIx (v 0) (v 1)) (a0))))) (bnot (bb (chain pLe pLe (v 2) (e2 pIx (v 0) (v 1)) (v 3))))) (sq (sRaise 0 .tuple "path" (tup (ac (v 1) (a0)))) (sNil)) (sNil)) (sNil)
noncomputable def e_check_fabric (C : Calls) : SC := sq (sIf (bor (bnot (bv (e1 (pIsi [.tuple]) (v 0)))) (bb (e2 pNe (e1 pLen (v 0)) (e1 pLen (k c_BOUNDS))))) (sq (sRaise 0 .tuple "path" (tup (a0))) (sNil)) (sNil)) (sq (sFor (tt [tn 1, tt [tn 2, tn 3]]) (iEnum (k c_BOUNDS)) (check_fabric_L1 C)) (sNil))
noncomputable def e_is_tile (C : Calls) : SC := sq (sRet (eand (chain pLe pLt (k (.int 0)) (v 1) (e2 pIx (v 0) (k (.int 0)))) (chain pLe pLt (k (.int 0)) (v 2) (e2 pIx (v 0) (k (.int 1)))))) (sNil)
noncomputable def tiles_of_x1 (C : Calls) : EC := tup (ac (v 2) (ac (v 1) (a0)))
noncomputable def e_tiles_of (C : Calls) : SC := sq (sRet (lc2A [1, 2] (tn 1) (iRng1 (e2 pIx (v 0) (k (.int 1)))) (yes) [2] (tn 2) (iRng1 (e2 pIx (v 0) (k (.int 0)))) (yes) (tiles_of_x1 C))) (sNil)
noncomputable def e_neighbour (C : Calls) : SC := sq (sSet (tn 4) (tup (ac (e2 pAdd (v 1) (e2 pIx (e2 pIx (k c_STEPS) (v 3)) (k (.int 0)))) (ac (e2 pAdd (v 2) (e2 pIx (e2 pIx (k c_STEPS) (v 3)) (k (.int 1)))) (a0))))) (sq (sRet (eif (bv (call C 2 (ac (v 0) (ac (e2 pIx (v 4) (k (.int 0))) (ac (e2 pIx (v 4) (k (.int 1))) (a0)))))) (v 4) (k .non))) (sNil))
noncomputable def is_border_x1 (C : Calls) : EC := call C 4 (ac (v 0) (ac (v 1) (ac (v 2) (ac (v 3) (a0)))))
noncomputable def e_is_border (C : Calls) : SC := sq (sRet (e2 pIn (k .non) (lc [3] (tn 3) (iRng1 (k (.int 4))) (yes) (is_border_x1 C)))) (sNil)
noncomputable def pads_of_x1 (C : Calls) : EC := tup (ac (v 2) (ac (v 3) (ac (v 4) (a0))))
noncomputable def pads_of_c1 (C : Calls) : BC := bv (call C 5 (ac (v 0) (ac (v 2) (ac (v 3) (a0)))))
noncomputable def pads_of_x2 (C : Calls) : EC := tup (ac (v 2) (ac (v 3) (a0)))
noncomputable def e_pads_of (C : Calls) : SC := sq (sSet (tn 1) (lc [2, 3] (tt [tn 2, tn 3]) (iSeq (call C 3 (ac (v 0) (a0)))) (pads_of_c1 C) (pads_of_x2 C))) (sq (sRet (lc2A [2, 3, 4] (tt [tn 2, tn 3]) (iSeq (v 1)) (yes) [4] (tn 4) (iRng1 (e2 pIx (v 0) (k (.int 4)))) (yes) (pads_of_x1 C))) (sNil))
noncomputable def is_wire_x1 (C : Calls) : EC := call C 0 (ac (v 2) (a0))
noncomputable def e_is_wire (C : Calls) : SC := sq (sIf (bor (bnot (bv (e1 (pIsi [.tuple]) (v 1)))) (bor (bb (e2 pNe (e1 pLen (v 1)) (k (.int 4)))) (bnot (bv (e1 pAll (lc [2] (tn 2) (iSeq (v 1)) (yes) (is_wire_x1 C))))))) (sq (sRet (k (.bl false))) (sNil)) (sNil)) (sq (sSet (tt [tn 3, tn 4, tn 5, tn 6]) (v 1)) (sq (sIf (bor (bnot (bv (call C 2 (ac (v 0) (ac (v 3) (ac (v 4) (a0))))))) (bor (bnot (bb (chain pLe pLt (k (.int 0)) (v 5) (k (.int 4))))) (bnot (bb (chain pLe pLt (k (.int 0)) (v 6) (e2 pIx (v 0) (k (.int 2)))))))) (sq (sRet (k (.bl false))) (sNil)) (sNil)) (sq (sRet (e1 pNotN (call C 4 (ac (v 0) (ac (v 3) (ac (v 4) (ac (v 5) (a0)))))))) (sNil))))
noncomputable def e_wire_in (C : Calls) : SC := sq (sSet (tn 5) (call C 4 (ac (v 0) (ac (v 1) (ac (v 2) (ac (v 3) (a0))))))) (sq (sRet (eif (bb (e1 pIsN (v 5))) (k .non) (tup (ac (e2 pIx (v 5) (k (.int 0))) (ac (e2 pIx (v 5) (k (.int 1))) (ac (e2 pMod (e2 pAdd (v 3) (k (.int 2))) (k (.int 4))) (ac (v 4) (a0)))))))) (sNil))
noncomputable def wires_from_c1 (C : Calls) : BC := bb (e1 pNotN (call C 4 (ac (v 0) (ac (v 1) (ac (v 2) (ac (v 4) (a0)))))))
noncomputable def wires_from_x1 (C : Calls) : EC := tup (ac (v 1) (ac (v 2) (ac (v 4) (ac (v 3) (a0)))))
noncomputable def e_wires_from (C : Calls) : SC := sq (sRet (lc [4] (tn 4) (iRng1 (k (.int 4))) (wires_from_c1 C) (wires_from_x1 C))) (sNil)
noncomputable def all_wires_L1 (C : Calls) : SC := sq (sSet (tn 1) (e2 pAdd (v 1) (call C 9 (ac (v 0) (ac (v 2) (ac (v 3) (ac (v 4) (a0)))))))) (sNil)
noncomputable def all_wires_L2 (C : Calls) : SC := sq (sFor (tn 4) (iRng1 (e2 pIx (v 0) (k (.int 2)))) (all_wires_L1 C)) (sNil)
noncomputable def e_all_wires (C : Calls) : SC := sq (sSet (tn 1) (lst (a0))) (sq (sFor (tt [tn 2, tn 3]) (iSeq (call C 3 (ac (v 0) (a0)))) (all_wires_L2 C)) (sq (sRet (e1 pSortedA (v 1))) (sNil)))
noncomputable def e_least_pads (C : Calls) : SC := sq (sRet (e2 pMax (k (.int 1)) (e1 pNeg (e2 pDiv (e1 pNeg (v 1)) (v 0))))) (sNil)
noncomputable def fabric_for_L1 (C : Calls) : SC := sq (sIf (bb (e2 pGt (call C 11 (ac (v 6) (ac (v 8) (a0)))) (e2 pIx (e2 pIx (k c_BOUNDS) (k (.int 4))) (k (.int 1))))) (sq (sRaise 1 .plain "word" (v 7)) (sNil)) (sNil)) (sNil)
noncomputable def fabric_for_c1 (C : Calls) : BC := bb (e2 pLt (e2 pMul (v 5) (v 5)) (v 1))
noncomputable def fabric_for_L2 (C : Calls) : SC := sq (sSet (tn 5) (e2 pAdd (v 5) (k (.int 1)))) (sNil)
noncomputable def e_fabric_for (C : Calls) : SC := sq (sSet (tn 5) (k (.int 1))) (sq (sWhl (fabric_for_c1 C) (fabric_for_L2 C)) (sq (sIf (bb (e2 pGt (v 5) (e2 pIx (e2 pIx (k c_BOUNDS) (k (.int 0))) (k (.int 1))))) (sq (sRaise 1 .plain "word" (k (.str "cells"))) (sNil)) (sNil)) (sq (sSet (tn 6) (eif (bb (e2 pLt (v 5) (k (.int 3)))) (e2 pMul (v 5) (v 5)) (e2 pSub (e2 pMul (k (.int 4)) (v 5)) (k (.int 4))))) (sq (sFor (tt [tn 7, tn 8]) (iSeq (tup (ac (tup (ac (k (.str "ins")) (ac (v 3) (a0)))) (ac (tup (ac (k (.str "outs")) (ac (v 4) (a0)))) (a0))))) (fabric_for_L1 C)) (sq (sIf (bb (e2 pGt (v 2) (e2 pIx (e2 pIx (k c_BOUNDS) (k (.int 2))) (k (.int 1))))) (sq (sRaise 1 .plain "word" (k (.str "tracks"))) (sNil)) (sNil)) (sq (sRet (tup (ac (v 5) (ac (v 5) (ac (e2 pMax (k (.int 1)) (v 2)) (ac (v 0) (ac (e2 pMax (call C 11 (ac (v 6) (ac (v 3) (a0)))) (call C 11 (ac (v 6) (ac (v 4) (a0))))) (a0)))))))) (sNil)))))))
noncomputable def _law_source_x1 (C : Calls) : EC := e1 pAbs (v 2)
noncomputable def _law_source_L1 (C : Calls) : SC := sq (sSet (tn 1) (e2 pMod (e1 pInt (e2 pAdd (e2 pAdd (e2 pMul (v 1) (k (.int 69069))) (e2 pMul (v 2) (k (.int 31)))) (k (.int 5)))) (k (.int 2147483629)))) (sNil)
noncomputable def e__law_source (C : Calls) : SC := sq (sSet (tn 1) (k (.int 11))) (sq (sFor (tn 2) (iSeq (v 0)) (_law_source_L1 C)) (sq (sRet (dctA ["cells", "left", "mixed", "turn"] (acs [e1 pRevA (lc [2] (tn 2) (iSeq (v 0)) (yes) (_law_source_x1 C)), k (.int 1), v 1, k (.int 0)]))) (sNil)))
noncomputable def _law_pick_c1 (C : Calls) : BC := band (bb (e2 pGt (v 1) (k (.int 1)))) (band (bb (e2 pLt (e2 pIx (v 0) (k (.str "left"))) (k (.int 2)))) (bb (e2 pGt (e1 pLen (e2 pIx (v 0) (k (.str "cells")))) (k (.int 0)))))
noncomputable def _law_pick_L1 (C : Calls) : SC := sq (sSet (ti (v 0) (k (.str "left"))) (m0 pPop (e2 pIx (v 0) (k (.str "cells"))))) (sNil)
noncomputable def e__law_pick (C : Calls) : SC := sq (sWhl (_law_pick_c1 C) (_law_pick_L1 C)) (sq (sSet (tn 2) (e2 pIx (v 0) (k (.str "left")))) (sq (sIf (bor (bb (e2 pLt (v 1) (k (.int 2)))) (bb (e2 pGt (v 2) (k (.int 1))))) (sq (sSet (ti (v 0) (k (.str "left"))) (e2 pDiv (v 2) (e2 pMax (k (.int 1)) (v 1)))) (sq (sRet (e2 pMod (e1 pInt (v 2)) (e2 pMax (k (.int 1)) (v 1)))) (sNil))) (sNil)) (sq (sSet (ti (v 0) (k (.str "turn"))) (e2 pAdd (e2 pIx (v 0) (k (.str "turn"))) (k (.int 1)))) (sq (sSet (tn 3) (e2 pMod (e1 pInt (e2 pAdd (e2 pIx (v 0) (k (.str "mixed"))) (e2 pMul (e2 pIx (v 0) (k (.str "turn"))) (k (.int 104729))))) (k (.int 998244353)))) (sq (sSet (tn 3) (e2 pMod (e1 pInt (e2 pAdd (e2 pMul (v 3) (v 3)) (e2 pMul (e2 pIx (v 0) (k (.str "turn"))) (k (.int 17))))) (k (.int 2147483647)))) (sq (sSet (ti (v 0) (k (.str "mixed"))) (v 3)) (sq (sRet (e2 pMod (e1 pInt (e2 pDiv (v 3) (k (.int 16)))) (v 1))) (sNil))))))))
noncomputable def e__law_of (C : Calls) : SC := sq (sRet (e2 pIx (v 1) (call C 14 (ac (v 0) (ac (e1 pLen (v 1)) (a0)))))) (sNil)
noncomputable def _law_mixed_x1 (C : Calls) : EC := m1 pPopAt (v 2) (call C 14 (ac (v 0) (ac (e1 pLen (v 2)) (a0))))
noncomputable def e__law_mixed (C : Calls) : SC := sq (sSet (tn 2) (e1 pListA (v 1))) (sq (sRet (lc [3] (tn 3) (iRng1 (e1 pLen (v 2))) (yes) (_law_mixed_x1 C))) (sNil))
noncomputable def e__law_odd (C : Calls) : SC := sq (sSet (tn 1) (lst (ac (k .non) (ac (k (.bl true)) (ac (k (.bl false)) (ac (e1 pNeg (k (.int 1))) (ac (k (.int 0)) (ac (k (.int 1)) (ac (k (.int 2)) (ac (k (.int 7)) (ac (e2 pPow (k (.int 10)) (k (.int 30))) (ac (k (.str "")) (ac (k (.str "cell")) (ac (k (.str "0")) (ac (tup (a0)) (ac (lst (a0)) (ac (k (.dct [])) (ac (tup (ac (k .non) (a0))) (ac (lst (ac (tup (a0)) (a0))) (ac (tup (ac (k (.int 0)) (a0))) (ac (tup (ac (k (.str "cell")) (a0))) (ac (tup (ac (k (.str "pad")) (ac (k (.int 0)) (a0)))) (a0))))))))))))))))))))))) (sq (sRet (call C 15 (ac (v 0) (ac (e2 pAdd (v 1) (lst (ac (frz (dctA ["a"] (acs [k (.int 1)]))) (ac (tup (ac (k (.str "wire")) (ac (k (.int 0)) (ac (k (.int 0)) (a0))))) (ac (tup (ac (k (.int 0)) (ac (k (.int 0)) (a0)))) (ac (tup (ac (k (.int 0)) (ac (k (.int 0)) (ac (k (.int 0)) (a0))))) (a0))))))) (a0))))) (sNil))
noncomputable def e__law_is_whole (C : Calls) : SC := sq (sRet (eand (e1 (pIsi [.int]) (v 0)) (enot (e1 (pIsi [.bool]) (v 0))))) (sNil)
noncomputable def e__law_beside (C : Calls) : SC := sq (sSet (tn 4) (e2 pIx (lst (ac (tup (ac (e2 pAdd (v 1) (k (.int 1))) (ac (v 2) (a0)))) (ac (tup (ac (v 1) (ac (e2 pAdd (v 2) (k (.int 1))) (a0)))) (ac (tup (ac (e2 pSub (v 1) (k (.int 1))) (ac (v 2) (a0)))) (ac (tup (ac (v 1) (ac (e2 pSub (v 2) (k (.int 1))) (a0)))) (a0)))))) (v 3))) (sq (sRet (eif (band (bb (chain pLe pLt (k (.int 0)) (e2 pIx (v 4) (k (.int 0))) (e2 pIx (v 0) (k (.int 0))))) (bb (chain pLe pLt (k (.int 0)) (e2 pIx (v 4) (k (.int 1))) (e2 pIx (v 0) (k (.int 1)))))) (v 4) (k .non))) (sNil))
noncomputable def _law_tiles_x1 (C : Calls) : EC := tup (ac (v 3) (ac (v 2) (a0)))
noncomputable def _law_tiles_L1 (C : Calls) : SC := sq (sSet (tn 1) (e2 pAdd (v 1) (lc [3] (tn 3) (iRng1 (e2 pIx (v 0) (k (.int 0)))) (yes) (_law_tiles_x1 C)))) (sNil)
noncomputable def e__law_tiles (C : Calls) : SC := sq (sSet (tn 1) (lst (a0))) (sq (sFor (tn 2) (iRng1 (e2 pIx (v 0) (k (.int 1)))) (_law_tiles_L1 C)) (sq (sRet (v 1)) (sNil)))
noncomputable def _law_pads_x1 (C : Calls) : EC := tup (ac (v 2) (ac (v 3) (ac (v 4) (a0))))
noncomputable def _law_pads_L1 (C : Calls) : SC := sq (sIf (bor (bb (e2 pIn (v 2) (tup (ac (k (.int 0)) (ac (e2 pSub (e2 pIx (v 0) (k (.int 0))) (k (.int 1))) (a0)))))) (bb (e2 pIn (v 3) (tup (ac (k (.int 0)) (ac (e2 pSub (e2 pIx (v 0) (k (.int 1))) (k (.int 1))) (a0))))))) (sq (sSet (tn 1) (e2 pAdd (v 1) (lc [4] (tn 4) (iRng1 (e2 pIx (v 0) (k (.int 4)))) (yes) (_law_pads_x1 C)))) (sNil)) (sNil)) (sNil)
noncomputable def e__law_pads (C : Calls) : SC := sq (sSet (tn 1) (lst (a0))) (sq (sFor (tt [tn 2, tn 3]) (iSeq (call C 20 (ac (v 0) (a0)))) (_law_pads_L1 C)) (sq (sRet (v 1)) (sNil)))
noncomputable def _law_wires_x1 (C : Calls) : EC := tup (ac (v 2) (ac (v 3) (ac (v 4) (ac (v 5) (a0)))))
noncomputable def _law_wires_L1 (C : Calls) : SC := sq (sIf (bb (e1 pNotN (call C 19 (ac (v 0) (ac (v 2) (ac (v 3) (ac (v 4) (a0)))))))) (sq (sSet (tn 1) (e2 pAdd (v 1) (lc [5] (tn 5) (iRng1 (e2 pIx (v 0) (k (.int 2)))) (yes) (_law_wires_x1 C)))) (sNil)) (sNil)) (sNil)
noncomputable def _law_wires_L2 (C : Calls) : SC := sq (sFor (tn 4) (iRng1 (k (.int 4))) (_law_wires_L1 C)) (sNil)
noncomputable def _law_wires_L3 (C : Calls) : SC := sq (sFor (tn 3) (iRng1 (e2 pIx (v 0) (k (.int 1)))) (_law_wires_L2 C)) (sNil)
noncomputable def e__law_wires (C : Calls) : SC := sq (sSet (tn 1) (lst (a0))) (sq (sFor (tn 2) (iRng1 (e2 pIx (v 0) (k (.int 0)))) (_law_wires_L3 C)) (sq (sRet (v 1)) (sNil)))
noncomputable def e__law_coming (C : Calls) : SC := sq (sSet (tn 5) (call C 19 (ac (v 0) (ac (v 1) (ac (v 2) (ac (v 3) (a0))))))) (sq (sRet (eif (bb (e1 pIsN (v 5))) (k .non) (tup (ac (e2 pIx (v 5) (k (.int 0))) (ac (e2 pIx (v 5) (k (.int 1))) (ac (e2 pIx (lst (ac (k (.int 2)) (ac (k (.int 3)) (ac (k (.int 0)) (ac (k (.int 1)) (a0)))))) (v 3)) (ac (v 4) (a0)))))))) (sNil))
noncomputable def _law_told_T1 (C : Calls) : SC := sq (sSet (tn 1) (eif (bb (e1 pIsN (call C 1 (ac (v 0) (a0))))) (lst (a0)) (lst (ac (k (.str "told")) (a0))))) (sNil)
noncomputable def _law_told_H1 (C : Calls) : SC := sq (sSet (tn 1) (lst (ac (e1 (exF 0 "path") (v 2)) (a0)))) (sNil)
noncomputable def e__law_told (C : Calls) : SC := sq (sSet (tn 1) (lst (a0))) (sq (sTry (_law_told_T1 C) 0 [] 2 (_law_told_H1 C)) (sq (sRet (v 1)) (sNil)))
noncomputable def _law_due_L1 (C : Calls) : SC := sq (sIf (bor (bnot (bv (call C 18 (ac (e2 pIx (v 0) (v 2)) (a0))))) (bor (bb (e2 pLt (e2 pIx (v 0) (v 2)) (e2 pIx (e2 pIx (v 1) (v 2)) (k (.int 0))))) (bb (e2 pGt (e2 pIx (v 0) (v 2)) (e2 pIx (e2 pIx (v 1) (v 2)) (k (.int 1))))))) (sq (sRet (lst (ac (tup (ac (v 2) (a0))) (a0)))) (sNil)) (sNil)) (sNil)
noncomputable def e__law_due (C : Calls) : SC := sq (sIf (bor (bnot (bv (e1 (pIsi [.tuple]) (v 0)))) (bb (e2 pNe (e1 pLen (v 0)) (k (.int 5))))) (sq (sRet (lst (ac (tup (a0)) (a0)))) (sNil)) (sNil)) (sq (sSet (tn 1) (lst (ac (tup (ac (k (.int 1)) (ac (k (.int 16)) (a0)))) (ac (tup (ac (k (.int 1)) (ac (k (.int 16)) (a0)))) (ac (tup (ac (k (.int 1)) (ac (k (.int 60)) (a0)))) (ac (tup (ac (k (.int 2)) (ac (k (.int 6)) (a0)))) (ac (tup (ac (k (.int 1)) (ac (k (.int 8)) (a0)))) (a0)))))))) (sq (sFor (tn 2) (iRng1 (k (.int 5))) (_law_due_L1 C)) (sq (sRet (lst (a0))) (sNil))))
noncomputable def _law_tiles_right_c1 (C : Calls) : BC := bnot (bv (call C 18 (ac (v 15) (a0))))
noncomputable def _law_tiles_right_L1 (C : Calls) : SC := sq (sIf (bb (e2 pNe (e1 pRepr (call C 7 (ac (v 1) (ac (v 14) (a0))))) (e1 pRepr (eand (e1 (pIsi [.tuple]) (v 14)) (eand (e2 pIn (v 14) (v 9)) (e2 pEq (lc [15] (tn 15) (iSeq (v 14)) (_law_tiles_right_c1 C) (v 15)) (lst (a0)))))))) (sq (sRet (k (.bl false))) (sNil)) (sNil)) (sNil)
noncomputable def _law_tiles_right_L2 (C : Calls) : SC := sq (sSet (tt [tn 4, tn 5]) (call C 15 (ac (v 0) (ac (call C 20 (ac (v 1) (a0))) (a0))))) (sq (sExp (m1 pApp (v 11) (tup (ac (v 4) (ac (v 5) (ac (e2 pSub (call C 14 (ac (v 0) (ac (k (.int 6)) (a0)))) (k (.int 1))) (ac (call C 15 (ac (v 0) (ac (lst (ac (e1 pNeg (k (.int 1))) (ac (k (.int 0)) (ac (k (.int 0)) (ac (e2 pSub (e2 pIx (v 1) (k (.int 2))) (k (.int 1))) (ac (e2 pIx (v 1) (k (.int 2))) (a0))))))) (a0)))) (a0)))))))) (sNil))
noncomputable def _law_tiles_right_x1 (C : Calls) : EC := tup (ac (e2 pSub (v 4) (k (.int 1))) (ac (e2 pSub (v 5) (k (.int 1))) (ac (e2 pSub (v 12) (k (.int 1))) (ac (call C 15 (ac (v 0) (ac (lst (ac (e1 pNeg (k (.int 1))) (ac (k (.int 0)) (ac (e2 pSub (e2 pIx (v 1) (k (.int 2))) (k (.int 1))) (ac (e2 pIx (v 1) (k (.int 2))) (a0)))))) (a0)))) (a0)))))
noncomputable def _law_tiles_right_L3 (C : Calls) : SC := sq (sExp (m1 pApp (v 11) (k .non))) (sNil)
noncomputable def _law_tiles_right_L4 (C : Calls) : SC := sq (sSet (tn 8) (lstA (ac (call C 30 (ac (v 1) (a0))) (ac (call C 31 (ac (v 1) (a0))) (ac (call C 32 (ac (v 1) (a0))) (a0)))))) (sq (sIf (bb (e2 pNe (e1 pRepr (v 8)) (e1 pRepr (lst (ac (v 9) (ac (call C 20 (ac (v 1) (a0))) (ac (call C 21 (ac (v 1) (a0))) (a0)))))))) (sq (sRet (k (.bl false))) (sNil)) (sNil)) (sq (sFor (tn 11) (iSeq (v 8)) (_law_tiles_right_L3 C)) (sNil)))
noncomputable def _law_tiles_right_L5 (C : Calls) : SC := sq (sSet (tn 7) (call C 14 (ac (v 0) (ac (e2 pIx (v 1) (k (.int 2))) (a0))))) (sq (sSet (tn 8) (lst (ac (call C 4 (ac (v 1) (ac (v 4) (ac (v 5) (ac (v 6) (a0)))))) (ac (call C 8 (ac (v 1) (ac (v 4) (ac (v 5) (ac (v 6) (ac (v 7) (a0))))))) (a0))))) (sq (sIf (bb (e2 pNe (e1 pRepr (v 8)) (e1 pRepr (lst (ac (call C 19 (ac (v 1) (ac (v 4) (ac (v 5) (ac (v 6) (a0)))))) (ac (call C 23 (ac (v 1) (ac (v 4) (ac (v 5) (ac (v 6) (ac (v 7) (a0))))))) (a0))))))) (sq (sRet (k (.bl false))) (sNil)) (sNil)) (sNil)))
noncomputable def _law_tiles_right_L6 (C : Calls) : SC := sq (sIf (bb (e2 pNe (e1 pRepr (call C 5 (ac (v 1) (ac (v 4) (ac (v 5) (a0)))))) (e1 pRepr (e2 pIn (tup (ac (v 4) (ac (v 5) (a0)))) (v 2))))) (sq (sRet (k (.bl false))) (sNil)) (sNil)) (sq (sFor (tn 6) (iRng1 (k (.int 4))) (_law_tiles_right_L5 C)) (sNil))
noncomputable def _law_tiles_right_x2 (C : Calls) : EC := sl (v 3) (pn) (ps (k (.int 2)))
noncomputable def e__law_tiles_right (C : Calls) : SC := sq (sSet (tn 2) (lc [3] (tn 3) (iSeq (call C 21 (ac (v 1) (a0)))) (yes) (_law_tiles_right_x2 C))) (sq (sFor (tt [tn 4, tn 5]) (iSeq (call C 20 (ac (v 1) (a0)))) (_law_tiles_right_L6 C)) (sq (sSet (tn 9) (call C 22 (ac (v 1) (a0)))) (sq (sFor (tn 10) (iRng1 (k (.int 2))) (_law_tiles_right_L4 C)) (sq (sSet (tn 11) (lcA [4, 5, 12, 13] (tt [tn 4, tn 5, tn 12, tn 13]) (iSeq (sl (v 9) (pn) (ps (k (.int 6))))) (yes) (_law_tiles_right_x1 C))) (sq (sFor (tn 10) (iRng1 (k (.int 9))) (_law_tiles_right_L2 C)) (sq (sFor (tn 14) (iSeq (e2 pAdd (e2 pAdd (e2 pAdd (sl (v 9) (pn) (ps (k (.int 8)))) (sl (v 9) (ps (e1 pNeg (k (.int 4)))) (pn))) (v 11)) (lst (ac (call C 17 (ac (v 0) (a0))) (ac (eif (bb (e2 pNe (v 9) (lst (a0)))) (e1 pList (e2 pIx (v 9) (k (.int 0)))) (lst (a0))) (ac (tup (ac (k (.int 0)) (ac (k (.int 0)) (ac (k (.bl true)) (ac (k (.int 0)) (a0)))))) (ac (tup (ac (k (.int 0)) (ac (k (.int 0)) (ac (k (.int 0)) (a0))))) (ac (tup (ac (k (.int 0)) (ac (k (.int 0)) (ac (k (.str "0")) (ac (k (.int 0)) (a0)))))) (ac (e2 pAdd (e1 pTuple (eif (bb (e2 pNe (v 9) (lst (a0)))) (e2 pIx (v 9) (k (.int 0))) (tup (a0)))) (tup (ac (k (.int 0)) (a0)))) (a0)))))))))) (_law_tiles_right_L1 C)) (sq (sRet (k (.bl true))) (sNil))))))))
noncomputable def _law_counts_told_T1 (C : Calls) : SC := sq (sRet (call C 12 (ac (v 0) (ac (v 1) (ac (v 2) (ac (v 3) (ac (v 4) (a0)))))))) (sNil)
noncomputable def _law_counts_told_H1 (C : Calls) : SC := sq (sRet (e1 (exF 1 "word") (v 5))) (sNil)
noncomputable def e__law_counts_told (C : Calls) : SC := sq (sTry (_law_counts_told_T1 C) 1 [] 5 (_law_counts_told_H1 C)) (sNil)
noncomputable def _law_counts_due_c1 (C : Calls) : BC := bb (e2 pLt (e2 pMul (v 8) (e1 pLen (call C 21 (ac (tup (ac (v 5) (ac (v 5) (ac (k (.int 1)) (ac (k (.int 2)) (ac (k (.int 1)) (a0))))))) (a0))))) (v 7))
noncomputable def _law_counts_due_L1 (C : Calls) : SC := sq (sSet (tn 8) (e2 pAdd (v 8) (k (.int 1)))) (sNil)
noncomputable def _law_counts_due_L2 (C : Calls) : SC := sq (sSet (tn 8) (k (.int 1))) (sq (sWhl (_law_counts_due_c1 C) (_law_counts_due_L1 C)) (sq (sExp (m1 pApp (v 6) (v 8))) (sNil)))
noncomputable def _law_counts_due_c2 (C : Calls) : BC := bb (e2 pLt (e2 pMul (v 5) (v 5)) (v 1))
noncomputable def _law_counts_due_L3 (C : Calls) : SC := sq (sSet (tn 5) (e2 pAdd (v 5) (k (.int 1)))) (sNil)
noncomputable def e__law_counts_due (C : Calls) : SC := sq (sPar 5 6 (k (.int 1)) (lstA (a0))) (sq (sWhl (_law_counts_due_c2 C) (_law_counts_due_L3 C)) (sq (sFor (tn 7) (iSeq (tup (ac (v 3) (ac (v 4) (a0))))) (_law_counts_due_L2 C)) (sq (sSet (tn 9) (lc [10, 11] (tt [tn 10, tn 11]) (iSeq (lst (ac (tup (ac (k (.str "cells")) (ac (e2 pGt (v 5) (k (.int 16))) (a0)))) (ac (tup (ac (k (.str "ins")) (ac (e2 pGt (e2 pIx (v 6) (k (.int 0))) (k (.int 8))) (a0)))) (ac (tup (ac (k (.str "outs")) (ac (e2 pGt (e2 pIx (v 6) (k (.int 1))) (k (.int 8))) (a0)))) (ac (tup (ac (k (.str "tracks")) (ac (e2 pGt (v 2) (k (.int 60))) (a0)))) (a0))))))) (bv (v 11)) (v 10))) (sq (sRet (eif (bb (e2 pNe (v 9) (lst (a0)))) (e2 pIx (v 9) (k (.int 0))) (tup (ac (v 5) (ac (v 5) (ac (e2 pMax (k (.int 1)) (v 2)) (ac (v 0) (ac (e1 pMaxL (v 6)) (a0))))))))) (sNil)))))
noncomputable def law_x1 (C : Calls) : EC := call C 24 (ac (v 6) (a0))
noncomputable def law_x2 (C : Calls) : EC := call C 15 (ac (v 1) (ac (lst (ac (k (.int 0)) (ac (k (.int 1)) (ac (k (.int 8)) (ac (k (.int 9)) (ac (k (.int 96)) (ac (k (.int 97)) (ac (call C 14 (ac (v 1) (ac (k (.int 500)) (a0)))) (a0))))))))) (a0)))
noncomputable def law_L1 (C : Calls) : SC := sq (sIf (bb (e2 pNe (call C 24 (ac (v 6) (a0))) (call C 25 (ac (v 6) (a0))))) (sq (sRet (k (.bl false))) (sNil)) (sNil)) (sNil)
noncomputable def law_L2 (C : Calls) : SC := sq (sSet (tn 5) (call C 15 (ac (v 1) (ac (lst (ac (k (.int 0)) (ac (k (.int 1)) (ac (k (.int 2)) (ac (e1 pNeg (k (.int 1))) (ac (k (.int 7)) (ac (k (.int 9)) (ac (k (.int 17)) (ac (k (.int 61)) (ac (e2 pPow (k (.int 10)) (k (.int 30))) (ac (call C 17 (ac (v 1) (a0))) (a0)))))))))))) (a0))))) (sq (sSet (tn 6) (e2 pAdd (e2 pAdd (sl (v 3) (pn) (ps (v 4))) (tup (ac (v 5) (a0)))) (sl (v 3) (ps (e2 pAdd (v 4) (k (.int 1)))) (pn)))) (sq (sSet (tn 7) (e1 pRepr (v 6))) (sq (sIf (bor (bb (e2 pNe (e1 pRepr (call C 24 (ac (v 6) (a0)))) (e1 pRepr (call C 25 (ac (v 6) (a0)))))) (bb (e2 pNe (e1 pRepr (v 6)) (v 7)))) (sq (sRet (k (.bl false))) (sNil)) (sNil)) (sNil))))
noncomputable def law_L3 (C : Calls) : SC := sq (sSet (tn 3) (tup (ac (e2 pAdd (k (.int 1)) (call C 14 (ac (v 1) (ac (k (.int 16)) (a0))))) (ac (e2 pAdd (k (.int 1)) (call C 14 (ac (v 1) (ac (k (.int 16)) (a0))))) (ac (e2 pAdd (k (.int 1)) (call C 14 (ac (v 1) (ac (k (.int 60)) (a0))))) (ac (e2 pAdd (k (.int 2)) (call C 14 (ac (v 1) (ac (k (.int 5)) (a0))))) (ac (e2 pAdd (k (.int 1)) (call C 14 (ac (v 1) (ac (k (.int 8)) (a0))))) (a0)))))))) (sq (sIf (bb (e2 pNe (call C 24 (ac (v 3) (a0))) (lst (a0)))) (sq (sRet (k (.bl false))) (sNil)) (sNil)) (sq (sFor (tn 4) (iRng1 (k (.int 5))) (law_L2 C)) (sq (sFor (tn 6) (iSeq (lst (ac (e1 pList (v 3)) (ac (e2 pAdd (v 3) (tup (ac (k (.int 1)) (a0)))) (ac (sl (v 3) (pn) (ps (k (.int 4)))) (ac (call C 17 (ac (v 1) (a0))) (ac (tup (ac (v 3) (a0))) (a0)))))))) (law_L1 C)) (sq (sSet (tn 8) (lst (ac (call C 15 (ac (v 1) (ac (lst (ac (k (.int 0)) (ac (k (.int 1)) (ac (k (.int 4)) (ac (k (.int 5)) (ac (k (.int 9)) (ac (k (.int 10)) (ac (k (.int 100)) (ac (k (.int 101)) (ac (k (.int 256)) (ac (k (.int 257)) (ac (call C 14 (ac (v 1) (ac (k (.int 300)) (a0)))) (a0))))))))))))) (a0)))) (ac (call C 15 (ac (v 1) (ac (lst (ac (k (.int 0)) (ac (k (.int 1)) (ac (k (.int 60)) (ac (k (.int 61)) (ac (call C 14 (ac (v 1) (ac (k (.int 70)) (a0)))) (a0))))))) (a0)))) (a0))))) (sq (sSet (tn 8) (e2 pAdd (v 8) (lc [9] (tn 9) (iRng1 (k (.int 2))) (yes) (law_x2 C)))) (sq (sIf (bb (e2 pNe (e1 pRepr (call C 27 (ac (e2 pAdd (k (.int 2)) (e2 pMod (v 2) (k (.int 5)))) (ac (e2 pIx (v 8) (k (.int 0))) (ac (e2 pIx (v 8) (k (.int 1))) (ac (e2 pIx (v 8) (k (.int 2))) (ac (e2 pIx (v 8) (k (.int 3))) (a0)))))))) (e1 pRepr (call C 28 (ac (e2 pAdd (k (.int 2)) (e2 pMod (v 2) (k (.int 5)))) (ac (e2 pIx (v 8) (k (.int 0))) (ac (e2 pIx (v 8) (k (.int 1))) (ac (e2 pIx (v 8) (k (.int 2))) (ac (e2 pIx (v 8) (k (.int 3))) (a0)))))))))) (sq (sRet (k (.bl false))) (sNil)) (sNil)) (sq (sSet (tn 10) (tup (ac (e2 pAdd (k (.int 1)) (call C 14 (ac (v 1) (ac (k (.int 4)) (a0))))) (ac (e2 pAdd (k (.int 1)) (call C 14 (ac (v 1) (ac (k (.int 4)) (a0))))) (ac (e2 pAdd (k (.int 1)) (call C 14 (ac (v 1) (ac (k (.int 3)) (a0))))) (ac (k (.int 2)) (ac (e2 pAdd (k (.int 1)) (call C 14 (ac (v 1) (ac (k (.int 3)) (a0))))) (a0)))))))) (sq (sIf (bnot (bv (call C 26 (ac (v 1) (ac (v 10) (a0)))))) (sq (sRet (k (.bl false))) (sNil)) (sNil)) (sNil)))))))))
noncomputable def e_law (C : Calls) : SC := sq (sSet (tn 1) (call C 13 (ac (v 0) (a0)))) (sq (sFor (tn 2) (iRng1 (k (.int 6))) (law_L3 C)) (sq (sSet (tn 11) (lst (ac (tup (ac (k (.int 1)) (ac (k (.int 1)) (ac (k (.int 1)) (ac (k (.int 2)) (ac (k (.int 1)) (a0))))))) (ac (tup (ac (k (.int 16)) (ac (k (.int 16)) (ac (k (.int 60)) (ac (k (.int 6)) (ac (k (.int 8)) (a0))))))) (ac (tup (ac (k (.int 16)) (ac (k (.int 17)) (ac (k (.int 60)) (ac (k (.int 6)) (ac (k (.int 8)) (a0))))))) (ac (tup (ac (k (.int 16)) (ac (k (.int 16)) (ac (k (.int 61)) (ac (k (.int 1)) (ac (k (.int 8)) (a0))))))) (ac (tup (ac (k (.int 1)) (ac (k (.int 1)) (ac (k (.int 1)) (ac (k (.int 2)) (ac (k (.int 0)) (a0))))))) (ac (tup (ac (k (.bl true)) (ac (k (.int 1)) (ac (k (.int 1)) (ac (k (.int 2)) (ac (k (.int 1)) (a0))))))) (a0))))))))) (sq (sIf (bb (e2 pNe (lc [6] (tn 6) (iSeq (v 11)) (yes) (law_x1 C)) (lst (ac (lst (a0)) (ac (lst (a0)) (ac (lst (ac (tup (ac (k (.int 1)) (a0))) (a0))) (ac (lst (ac (tup (ac (k (.int 2)) (a0))) (a0))) (ac (lst (ac (tup (ac (k (.int 4)) (a0))) (a0))) (ac (lst (ac (tup (ac (k (.int 0)) (a0))) (a0))) (a0)))))))))) (sq (sRet (k (.bl false))) (sNil)) (sNil)) (sq (sIf (bor (bb (e2 pNe (call C 10 (ac (tup (ac (k (.int 2)) (ac (k (.int 1)) (ac (k (.int 2)) (ac (k (.int 2)) (ac (k (.int 1)) (a0))))))) (a0))) (lst (ac (tup (ac (k (.int 0)) (ac (k (.int 0)) (ac (k (.int 0)) (ac (k (.int 0)) (a0)))))) (ac (tup (ac (k (.int 0)) (ac (k (.int 0)) (ac (k (.int 0)) (ac (k (.int 1)) (a0)))))) (ac (tup (ac (k (.int 1)) (ac (k (.int 0)) (ac (k (.int 2)) (ac (k (.int 0)) (a0)))))) (ac (tup (ac (k (.int 1)) (ac (k (.int 0)) (ac (k (.int 2)) (ac (k (.int 1)) (a0)))))) (a0)))))))) (bb (e2 pNe (call C 10 (ac (tup (ac (k (.int 1)) (ac (k (.int 1)) (ac (k (.int 60)) (ac (k (.int 6)) (ac (k (.int 8)) (a0))))))) (a0))) (lst (a0))))) (sq (sRet (k (.bl false))) (sNil)) (sNil)) (sq (sRet (eand (e2 pEq (call C 8 (ac (tup (ac (k (.int 2)) (ac (k (.int 1)) (ac (k (.int 2)) (ac (k (.int 2)) (ac (k (.int 1)) (a0))))))) (ac (k (.int 0)) (ac (k (.int 0)) (ac (k (.int 0)) (ac (k (.int 1)) (a0))))))) (tup (ac (k (.int 1)) (ac (k (.int 0)) (ac (k (.int 2)) (ac (k (.int 1)) (a0))))))) (eand (e1 pIsN (call C 8 (ac (tup (ac (k (.int 2)) (ac (k (.int 1)) (ac (k (.int 2)) (ac (k (.int 2)) (ac (k (.int 1)) (a0))))))) (ac (k (.int 0)) (ac (k (.int 0)) (ac (k (.int 1)) (ac (k (.int 1)) (a0)))))))) (e2 pEq (e1 pLen (call C 10 (ac (tup (ac (k (.int 10)) (ac (k (.int 10)) (ac (k (.int 1)) (ac (k (.int 2)) (ac (k (.int 1)) (a0))))))) (a0)))) (k (.int 360)))))) (sNil))))))
noncomputable def prog (C : Calls) : Nat → Option Fn
  | 0 => some ⟨1, 1, false, e_is_integer C⟩
  | 1 => some ⟨1, 4, false, e_check_fabric C⟩
  | 2 => some ⟨3, 3, false, e_is_tile C⟩
  | 3 => some ⟨1, 3, false, e_tiles_of C⟩
  | 4 => some ⟨4, 5, false, e_neighbour C⟩
  | 5 => some ⟨3, 4, false, e_is_border C⟩
  | 6 => some ⟨1, 5, false, e_pads_of C⟩
  | 7 => some ⟨2, 7, false, e_is_wire C⟩
  | 8 => some ⟨5, 6, false, e_wire_in C⟩
  | 9 => some ⟨4, 5, false, e_wires_from C⟩
  | 10 => some ⟨1, 5, false, e_all_wires C⟩
  | 11 => some ⟨2, 2, false, e_least_pads C⟩
  | 12 => some ⟨5, 9, false, e_fabric_for C⟩
  | 13 => some ⟨1, 3, false, e__law_source C⟩
  | 14 => some ⟨2, 4, false, e__law_pick C⟩
  | 15 => some ⟨2, 2, false, e__law_of C⟩
  | 16 => some ⟨2, 4, false, e__law_mixed C⟩
  | 17 => some ⟨1, 2, false, e__law_odd C⟩
  | 18 => some ⟨1, 1, false, e__law_is_whole C⟩
  | 19 => some ⟨4, 5, false, e__law_beside C⟩
  | 20 => some ⟨1, 4, false, e__law_tiles C⟩
  | 21 => some ⟨1, 5, false, e__law_pads C⟩
  | 22 => some ⟨1, 6, false, e__law_wires C⟩
  | 23 => some ⟨5, 6, false, e__law_coming C⟩
  | 24 => some ⟨1, 3, false, e__law_told C⟩
  | 25 => some ⟨1, 3, false, e__law_due C⟩
  | 26 => some ⟨2, 16, false, e__law_tiles_right C⟩
  | 27 => some ⟨5, 6, false, e__law_counts_told C⟩
  | 28 => some ⟨5, 12, false, e__law_counts_due C⟩
  | 29 => some ⟨1, 12, false, e_law C⟩
  | 30 => some ⟨1, 5, true, e_all_wires C⟩
  | 31 => some ⟨1, 3, true, e_tiles_of C⟩
  | 32 => some ⟨1, 5, true, e_pads_of C⟩
  | _ => none
/-! ### the text means them -/
theorem bt_abs : bootBuiltins "abs" = some (.builtin "abs") := by decide +kernel
theorem bt_all : bootBuiltins "all" = some (.builtin "all") := by decide +kernel
theorem bt_bool : bootBuiltins "bool" = some (.type "bool") := by decide +kernel
theorem bt_enumerate : bootBuiltins "enumerate" = some (.type "enumerate") := by decide +kernel
theorem bt_int : bootBuiltins "int" = some (.type "int") := by decide +kernel
theorem bt_isinstance : bootBuiltins "isinstance" = some (.builtin "isinstance") := by decide +kernel
theorem bt_len : bootBuiltins "len" = some (.builtin "len") := by decide +kernel
theorem bt_list : bootBuiltins "list" = some (.type "list") := by decide +kernel
theorem bt_max : bootBuiltins "max" = some (.builtin "max") := by decide +kernel
theorem bt_range : bootBuiltins "range" = some (.type "range") := by decide +kernel
theorem bt_repr : bootBuiltins "repr" = some (.builtin "repr") := by decide +kernel
theorem bt_sorted : bootBuiltins "sorted" = some (.builtin "sorted") := by decide +kernel
theorem bt_tuple : bootBuiltins "tuple" = some (.type "tuple") := by decide +kernel
def cls : Nat → Str
  | 0 => "BadFabric"
  | 1 => "NoRoom"
  | _ => ""
def Gk (K : PySem.W.Frag) : Gd := ⟨K, fun c => He.ga K (cls c), fun _ _ _ => False⟩
structure Fact (P : Program) (w : World) (K : PySem.W.Frag) (mg : Str → Option Value) (base : Heap) : Prop where
  f_abs : mg "abs" = none
  f_all : mg "all" = none
  f_bool : mg "bool" = none
  f_enumerate : mg "enumerate" = none
  f_int : mg "int" = none
  f_isinstance : mg "isinstance" = none
  f_len : mg "len" = none
  f_list : mg "list" = none
  f_max : mg "max" = none
  f_range : mg "range" = none
  f_repr : mg "repr" = none
  f_sorted : mg "sorted" = none
  f_tuple : mg "tuple" = none
  c_BOUNDS : ConAt K mg "BOUNDS" c_BOUNDS
  c_STEPS : ConAt K mg "STEPS" c_STEPS
  sys : ∃ o, K.lookup sysModules = some o
  e_BadFabric : ErrAt P w K mg base (Gk K) 0 "BadFabric" "path" .tuple
  x_BadFabric : XfC K (He.ga K "BadFabric") ∧ PySem.W.findIn K (.ref (He.ga K "BadFabric")) "path" = some none
  m_BadFabric : PySem.W.exmOne K (.ref (He.ga K "BadFabric")) (.ref (He.ga K "BadFabric")) = some true
  e_NoRoom : ErrAt P w K mg base (Gk K) 1 "NoRoom" "word" .plain
  x_NoRoom : XfC K (He.ga K "NoRoom") ∧ PySem.W.findIn K (.ref (He.ga K "NoRoom")) "word" = some none
  m_NoRoom : PySem.W.exmOne K (.ref (He.ga K "NoRoom")) (.ref (He.ga K "NoRoom")) = some true
def r0 : Nat × Str × List Str := (0, "is_integer", ["value"])
def r1 : Nat × Str × List Str := (1, "check_fabric", ["value"])
def r2 : Nat × Str × List Str := (2, "is_tile", ["fabric", "x", "y"])
def r3 : Nat × Str × List Str := (3, "tiles_of", ["fabric"])
def r4 : Nat × Str × List Str := (4, "neighbour", ["fabric", "x", "y", "side"])
def r5 : Nat × Str × List Str := (5, "is_border", ["fabric", "x", "y"])
def r6 : Nat × Str × List Str := (6, "pads_of", ["fabric"])
def r7 : Nat × Str × List Str := (7, "is_wire", ["fabric", "value"])
def r8 : Nat × Str × List Str := (8, "wire_in", ["fabric", "x", "y", "side", "track"])
def r9 : Nat × Str × List Str := (9, "wires_from", ["fabric", "x", "y", "track"])
def r10 : Nat × Str × List Str := (10, "all_wires", ["fabric"])
def r11 : Nat × Str × List Str := (11, "least_pads", ["border", "many"])
def r12 : Nat × Str × List Str := (12, "fabric_for", ["k", "cells", "signals", "ins", "outs"])
def r13 : Nat × Str × List Str := (13, "_law_source", ["_law_script"])
def r14 : Nat × Str × List Str := (14, "_law_pick", ["_law_source_here", "_law_many"])
def r15 : Nat × Str × List Str := (15, "_law_of", ["_law_source_here", "_law_some"])
def r16 : Nat × Str × List Str := (16, "_law_mixed", ["_law_source_here", "_law_things"])
def r17 : Nat × Str × List Str := (17, "_law_odd", ["_law_source_here"])
def r18 : Nat × Str × List Str := (18, "_law_is_whole", ["_law_value"])
def r19 : Nat × Str × List Str := (19, "_law_beside", ["_law_fabric", "_law_x", "_law_y", "_law_side"])
def r20 : Nat × Str × List Str := (20, "_law_tiles", ["_law_fabric"])
def r21 : Nat × Str × List Str := (21, "_law_pads", ["_law_fabric"])
def r22 : Nat × Str × List Str := (22, "_law_wires", ["_law_fabric"])
def r23 : Nat × Str × List Str := (23, "_law_coming", ["_law_fabric", "_law_x", "_law_y", "_law_side", "_law_track"])
def r24 : Nat × Str × List Str := (24, "_law_told", ["_law_value"])
def r25 : Nat × Str × List Str := (25, "_law_due", ["_law_value"])
def r26 : Nat × Str × List Str := (26, "_law_tiles_right", ["_law_source_here", "_law_fabric"])
def r27 : Nat × Str × List Str := (27, "_law_counts_told", ["_law_k", "_law_cells", "_law_signals", "_law_ins", "_law_outs"])
def r28 : Nat × Str × List Str := (28, "_law_counts_due", ["_law_k", "_law_cells", "_law_signals", "_law_ins", "_law_outs"])
def r29 : Nat × Str × List Str := (29, "law", ["_law_script"])
def r30 : Nat × Str × List Str := (30, "all_wires", ["fabric"])
def r31 : Nat × Str × List Str := (31, "tiles_of", ["fabric"])
def r32 : Nat × Str × List Str := (32, "pads_of", ["fabric"])
def tbl : List (Nat × Str × List Str) := [r0, r1, r2, r3, r4, r5, r6, r7, r8, r9, r10, r11, r12, r13, r14, r15, r16, r17, r18, r19, r20, r21, r22, r23, r24, r25, r26, r27, r28, r29, r30, r31, r32]
structure Lib (w : World) (K : PySem.W.Frag) (mg : Str → Option Value) (base : Heap) (n : Nat) : Prop where
  all : ∀ q ∈ tbl, FnAt pg w K mg base (Gk K) prog n q.1 q.2.1 q.2.2
section
variable {w : World} {K : PySem.W.Frag} {mg : Str → Option Value} {base : Heap} {f : Addr} {cdv : Value} {A : Around} {outer : List PySem.Env} {s : Shared} {H : Hp} {E : XK}
theorem Lib.at_ {n : Nat} (L : Lib w K mg base n) (i : Nat) {x : Str} {ps : List Str} (h : tbl[i]? = some (i, x, ps) := by rfl) : FnAt pg w K mg base (Gk K) prog n i x ps := L.all (i, x, ps) (List.mem_of_getElem? h)
theorem Lib.a0 {n : Nat} (L : Lib w K mg base n) : FnAt pg w K mg base (Gk K) prog n 0 "is_integer" ["value"] := L.at_ 0
theorem Lib.a1 {n : Nat} (L : Lib w K mg base n) : FnAt pg w K mg base (Gk K) prog n 1 "check_fabric" ["value"] := L.at_ 1
theorem Lib.a2 {n : Nat} (L : Lib w K mg base n) : FnAt pg w K mg base (Gk K) prog n 2 "is_tile" ["fabric", "x", "y"] := L.at_ 2
theorem Lib.a3 {n : Nat} (L : Lib w K mg base n) : FnAt pg w K mg base (Gk K) prog n 3 "tiles_of" ["fabric"] := L.at_ 3
theorem Lib.a4 {n : Nat} (L : Lib w K mg base n) : FnAt pg w K mg base (Gk K) prog n 4 "neighbour" ["fabric", "x", "y", "side"] := L.at_ 4
theorem Lib.a5 {n : Nat} (L : Lib w K mg base n) : FnAt pg w K mg base (Gk K) prog n 5 "is_border" ["fabric", "x", "y"] := L.at_ 5
theorem Lib.a6 {n : Nat} (L : Lib w K mg base n) : FnAt pg w K mg base (Gk K) prog n 6 "pads_of" ["fabric"] := L.at_ 6
theorem Lib.a7 {n : Nat} (L : Lib w K mg base n) : FnAt pg w K mg base (Gk K) prog n 7 "is_wire" ["fabric", "value"] := L.at_ 7
theorem Lib.a8 {n : Nat} (L : Lib w K mg base n) : FnAt pg w K mg base (Gk K) prog n 8 "wire_in" ["fabric", "x", "y", "side", "track"] := L.at_ 8
theorem Lib.a9 {n : Nat} (L : Lib w K mg base n) : FnAt pg w K mg base (Gk K) prog n 9 "wires_from" ["fabric", "x", "y", "track"] := L.at_ 9
theorem Lib.a10 {n : Nat} (L : Lib w K mg base n) : FnAt pg w K mg base (Gk K) prog n 10 "all_wires" ["fabric"] := L.at_ 10
theorem Lib.a11 {n : Nat} (L : Lib w K mg base n) : FnAt pg w K mg base (Gk K) prog n 11 "least_pads" ["border", "many"] := L.at_ 11
theorem Lib.a12 {n : Nat} (L : Lib w K mg base n) : FnAt pg w K mg base (Gk K) prog n 12 "fabric_for" ["k", "cells", "signals", "ins", "outs"] := L.at_ 12
theorem Lib.a13 {n : Nat} (L : Lib w K mg base n) : FnAt pg w K mg base (Gk K) prog n 13 "_law_source" ["_law_script"] := L.at_ 13
theorem Lib.a14 {n : Nat} (L : Lib w K mg base n) : FnAt pg w K mg base (Gk K) prog n 14 "_law_pick" ["_law_source_here", "_law_many"] := L.at_ 14
theorem Lib.a15 {n : Nat} (L : Lib w K mg base n) : FnAt pg w K mg base (Gk K) prog n 15 "_law_of" ["_law_source_here", "_law_some"] := L.at_ 15
theorem Lib.a16 {n : Nat} (L : Lib w K mg base n) : FnAt pg w K mg base (Gk K) prog n 16 "_law_mixed" ["_law_source_here", "_law_things"] := L.at_ 16
theorem Lib.a17 {n : Nat} (L : Lib w K mg base n) : FnAt pg w K mg base (Gk K) prog n 17 "_law_odd" ["_law_source_here"] := L.at_ 17
theorem Lib.a18 {n : Nat} (L : Lib w K mg base n) : FnAt pg w K mg base (Gk K) prog n 18 "_law_is_whole" ["_law_value"] := L.at_ 18
theorem Lib.a19 {n : Nat} (L : Lib w K mg base n) : FnAt pg w K mg base (Gk K) prog n 19 "_law_beside" ["_law_fabric", "_law_x", "_law_y", "_law_side"] := L.at_ 19
theorem Lib.a20 {n : Nat} (L : Lib w K mg base n) : FnAt pg w K mg base (Gk K) prog n 20 "_law_tiles" ["_law_fabric"] := L.at_ 20
theorem Lib.a21 {n : Nat} (L : Lib w K mg base n) : FnAt pg w K mg base (Gk K) prog n 21 "_law_pads" ["_law_fabric"] := L.at_ 21
theorem Lib.a22 {n : Nat} (L : Lib w K mg base n) : FnAt pg w K mg base (Gk K) prog n 22 "_law_wires" ["_law_fabric"] := L.at_ 22
theorem Lib.a23 {n : Nat} (L : Lib w K mg base n) : FnAt pg w K mg base (Gk K) prog n 23 "_law_coming" ["_law_fabric", "_law_x", "_law_y", "_law_side", "_law_track"] := L.at_ 23
theorem Lib.a24 {n : Nat} (L : Lib w K mg base n) : FnAt pg w K mg base (Gk K) prog n 24 "_law_told" ["_law_value"] := L.at_ 24
theorem Lib.a25 {n : Nat} (L : Lib w K mg base n) : FnAt pg w K mg base (Gk K) prog n 25 "_law_due" ["_law_value"] := L.at_ 25
theorem Lib.a26 {n : Nat} (L : Lib w K mg base n) : FnAt pg w K mg base (Gk K) prog n 26 "_law_tiles_right" ["_law_source_here", "_law_fabric"] := L.at_ 26
theorem Lib.a27 {n : Nat} (L : Lib w K mg base n) : FnAt pg w K mg base (Gk K) prog n 27 "_law_counts_told" ["_law_k", "_law_cells", "_law_signals", "_law_ins", "_law_outs"] := L.at_ 27
theorem Lib.a28 {n : Nat} (L : Lib w K mg base n) : FnAt pg w K mg base (Gk K) prog n 28 "_law_counts_due" ["_law_k", "_law_cells", "_law_signals", "_law_ins", "_law_outs"] := L.at_ 28
theorem Lib.a29 {n : Nat} (L : Lib w K mg base n) : FnAt pg w K mg base (Gk K) prog n 29 "law" ["_law_script"] := L.at_ 29
theorem Lib.a30 {n : Nat} (L : Lib w K mg base n) : FnAt pg w K mg base (Gk K) prog n 30 "all_wires" ["fabric"] := L.at_ 30
theorem Lib.a31 {n : Nat} (L : Lib w K mg base n) : FnAt pg w K mg base (Gk K) prog n 31 "tiles_of" ["fabric"] := L.at_ 31
theorem Lib.a32 {n : Nat} (L : Lib w K mg base n) : FnAt pg w K mg base (Gk K) prog n 32 "pads_of" ["fabric"] := L.at_ 32
def N_is_integer : List Str := ["value"]
def P_is_integer : List Str := ["value"]
theorem nd_is_integer : N_is_integer.Nodup := by decide +kernel
theorem sc_is_integer : FnScope N_is_integer P_is_integer (defScope s_is_integer) := ⟨rfl, rfl, rfl, nd_is_integer, rfl, by decide +kernel, by decide +kernel⟩
theorem b_is_integer {n : Nat} (g : Fact pg w K mg base) (L : Lib w K mg base n) (hr : RoomG (n + 3) (A.deeper (PyProof.Rows.envOfC "is_integer" (defScope s_is_integer) s.heap.objs.size f cdv))) :
  SS (Gk K) (fun C d _ H' => E C d H') (cxOf (L2.CX pg w) pg w K mg base N_is_integer "is_integer" (defScope s_is_integer) f cdv A outer s H E) (e_is_integer (runP prog n)) (defBody s_is_integer) := by
  have hu := hr.room.units
  have tk : Takes (cxOf (L2.CX pg w) pg w K mg base N_is_integer "is_integer" (defScope s_is_integer) f cdv A outer s H E) (fun C d _ H' => E C d H') := takes_of rfl rfl rfl rfl
  have pp : PassesOwn (model pg w) (cxOf (L2.CX pg w) pg w K mg base N_is_integer "is_integer" (defScope s_is_integer) f cdv A outer s H E).A (cxOf (L2.CX pg w) pg w K mg base N_is_integer "is_integer" (defScope s_is_integer) f cdv A outer s H E).env (cxOf (L2.CX pg w) pg w K mg base N_is_integer "is_integer" (defScope s_is_integer) f cdv A outer s H E).xe := passes_of rfl
  exact (ss_cons (s_ret (se_and rfl (se_isi1 (t := .int) rfl g.f_isinstance g.f_int bt_int (by decide) (se_v (i := 0))) (se_one (se_not rfl (se_isi1 (t := .bool) rfl g.f_isinstance g.f_bool bt_bool (by decide) (se_v (i := 0)))))))
    ss_nil)
def N_check_fabric : List Str := ["value", "n", "low", "high"]
def P_check_fabric : List Str := ["value"]
theorem nd_check_fabric : N_check_fabric.Nodup := by decide +kernel
theorem sc_check_fabric : FnScope N_check_fabric P_check_fabric (defScope s_check_fabric) := ⟨rfl, rfl, rfl, nd_check_fabric, rfl, by decide +kernel, by decide +kernel⟩
theorem b_check_fabric {n : Nat} (g : Fact pg w K mg base) (L : Lib w K mg base n) (hr : RoomG (n + 3) (A.deeper (PyProof.Rows.envOfC "check_fabric" (defScope s_check_fabric) s.heap.objs.size f cdv))) :
  SS (Gk K) (fun C d _ H' => E C d H') (cxOf (L2.CX pg w) pg w K mg base N_check_fabric "check_fabric" (defScope s_check_fabric) f cdv A outer s H E) (e_check_fabric (runP prog n)) (defBody s_check_fabric) := by
  have hu := hr.room.units
  have tk : Takes (cxOf (L2.CX pg w) pg w K mg base N_check_fabric "check_fabric" (defScope s_check_fabric) f cdv A outer s H E) (fun C d _ H' => E C d H') := takes_of rfl rfl rfl rfl
  have pp : PassesOwn (model pg w) (cxOf (L2.CX pg w) pg w K mg base N_check_fabric "check_fabric" (defScope s_check_fabric) f cdv A outer s H E).A (cxOf (L2.CX pg w) pg w K mg base N_check_fabric "check_fabric" (defScope s_check_fabric) f cdv A outer s H E).env (cxOf (L2.CX pg w) pg w K mg base N_check_fabric "check_fabric" (defScope s_check_fabric) f cdv A outer s H E).xe := passes_of rfl
  exact (ss_cons (s_if (st_w (sw_or (st_not (st_val rfl (se_isi1 (t := .tuple) rfl g.f_isinstance g.f_tuple bt_tuple (by decide) (se_v (i := 0))))) (sw_or1 (st_cmp (opp_ne rfl hu) (se_cb1 (cp_len rfl) g.f_len bt_len (se_v (i := 0))) (se_cb1 (cp_len rfl) g.f_len bt_len (se_con rfl g.c_BOUNDS)))))) (ss_cons (s_raiseAt (g.e_BadFabric) hr rfl tk (se_tup sa_nil))
    ss_nil) ss_nil)
    (ss_cons (s_for pp rfl (si_enum rfl g.f_enumerate (se_con rfl g.c_BOUNDS)) (sg_t rfl rfl (sgs_cons (sg_n nd_check_fabric) (sgs_cons (sg_t rfl rfl (sgs_cons (sg_n nd_check_fabric) (sgs_cons (sg_n nd_check_fabric) sgs_nil))) sgs_nil))) (ss_cons (s_if (st_w (sw_or (st_not (st_val rfl (se_at L.a0 hr tk (sa_cons (se_ix rfl hu (se_v (i := 0)) (se_v (i := 1))) sa_nil)))) (sw_or1 (st_not (st_chain opp_le opp_le (se_v (i := 2)) (se_ix rfl hu (se_v (i := 0)) (se_v (i := 1))) (se_v (i := 3))))))) (ss_cons (s_raiseAt (g.e_BadFabric) hr rfl tk (se_tup (sa_cons (se_v (i := 1)) sa_nil)))
    ss_nil) ss_nil)
    ss_nil))
    ss_nil))
def N_is_tile : List Str := ["fabric", "x", "y"]
def P_is_tile : List Str := ["fabric", "x", "y"]
theorem nd_is_tile : N_is_tile.Nodup := by decide +kernel
theorem sc_is_tile : FnScope N_is_tile P_is_tile (defScope s_is_tile) := ⟨rfl, rfl, rfl, nd_is_tile, rfl, by decide +kernel, by decide +kernel⟩
theorem b_is_tile {n : Nat} (g : Fact pg w K mg base) (L : Lib w K mg base n) (hr : RoomG (n + 3) (A.deeper (PyProof.Rows.envOfC "is_tile" (defScope s_is_tile) s.heap.objs.size f cdv))) :
  SS (Gk K) (fun C d _ H' => E C d H') (cxOf (L2.CX pg w) pg w K mg base N_is_tile "is_tile" (defScope s_is_tile) f cdv A outer s H E) (e_is_tile (runP prog n)) (defBody s_is_tile) := by
  have hu := hr.room.units
  have tk : Takes (cxOf (L2.CX pg w) pg w K mg base N_is_tile "is_tile" (defScope s_is_tile) f cdv A outer s H E) (fun C d _ H' => E C d H') := takes_of rfl rfl rfl rfl
  have pp : PassesOwn (model pg w) (cxOf (L2.CX pg w) pg w K mg base N_is_tile "is_tile" (defScope s_is_tile) f cdv A outer s H E).A (cxOf (L2.CX pg w) pg w K mg base N_is_tile "is_tile" (defScope s_is_tile) f cdv A outer s H E).env (cxOf (L2.CX pg w) pg w K mg base N_is_tile "is_tile" (defScope s_is_tile) f cdv A outer s H E).xe := passes_of rfl
  exact (ss_cons (s_ret (se_and rfl (se_chain opp_le opp_lt se_int (se_v (i := 1)) (se_ix rfl hu (se_v (i := 0)) se_int)) (se_one (se_chain opp_le opp_lt se_int (se_v (i := 2)) (se_ix rfl hu (se_v (i := 0)) se_int)))))
    ss_nil)
def N_tiles_of : List Str := ["fabric", "y", "x"]
def P_tiles_of : List Str := ["fabric"]
theorem nd_tiles_of : N_tiles_of.Nodup := by decide +kernel
theorem sc_tiles_of : FnScope N_tiles_of P_tiles_of (defScope s_tiles_of) := ⟨rfl, rfl, rfl, nd_tiles_of, rfl, by decide +kernel, by decide +kernel⟩
theorem b_tiles_of {n : Nat} (g : Fact pg w K mg base) (L : Lib w K mg base n) (hr : RoomG (n + 3) (A.deeper (PyProof.Rows.envOfC "tiles_of" (defScope s_tiles_of) s.heap.objs.size f cdv))) :
  SS (Gk K) (fun C d _ H' => E C d H') (cxOf (L2.CX pg w) pg w K mg base N_tiles_of "tiles_of" (defScope s_tiles_of) f cdv A outer s H E) (e_tiles_of (runP prog n)) (defBody s_tiles_of) := by
  have hu := hr.room.units
  have tk : Takes (cxOf (L2.CX pg w) pg w K mg base N_tiles_of "tiles_of" (defScope s_tiles_of) f cdv A outer s H E) (fun C d _ H' => E C d H') := takes_of rfl rfl rfl rfl
  have pp : PassesOwn (model pg w) (cxOf (L2.CX pg w) pg w K mg base N_tiles_of "tiles_of" (defScope s_tiles_of) f cdv A outer s H E).A (cxOf (L2.CX pg w) pg w K mg base N_tiles_of "tiles_of" (defScope s_tiles_of) f cdv A outer s H E).env (cxOf (L2.CX pg w) pg w K mg base N_tiles_of "tiles_of" (defScope s_tiles_of) f cdv A outer s H E).xe := passes_of rfl
  exact (ss_cons (s_ret (se_lc2A rfl nd_tiles_of (si_rng1 g.f_range (se_ix rfl hu (se_v (i := 0)) se_int)) (blkOk_by (own := [("y", 1), ("x", 2)]) (by kernel_rfl)) (is := [1]) (is1 := [2]) (vs1 := [2]) (fun _ _ _ _ _ => (sh_n nd_tiles_of)) (fun _ _ _ _ _ => sts_nil) (fun _ _ _ _ _ => (si_rng1 g.f_range (se_ix rfl hu (se_v (i := 0)) se_int))) (fun _ _ _ _ _ => (sh_n nd_tiles_of)) (fun _ _ _ _ _ => sts_nil) (fun _ _ _ _ _ => (se_tup (sa_cons (se_v (i := 2)) (sa_cons (se_v (i := 1)) sa_nil))))))
    ss_nil)
def N_neighbour : List Str := ["fabric", "x", "y", "side", "late"]
def P_neighbour : List Str := ["fabric", "x", "y", "side"]
theorem nd_neighbour : N_neighbour.Nodup := by decide +kernel
theorem sc_neighbour : FnScope N_neighbour P_neighbour (defScope s_neighbour) := ⟨rfl, rfl, rfl, nd_neighbour, rfl, by decide +kernel, by decide +kernel⟩
theorem b_neighbour {n : Nat} (g : Fact pg w K mg base) (L : Lib w K mg base n) (hr : RoomG (n + 3) (A.deeper (PyProof.Rows.envOfC "neighbour" (defScope s_neighbour) s.heap.objs.size f cdv))) :
  SS (Gk K) (fun C d _ H' => E C d H') (cxOf (L2.CX pg w) pg w K mg base N_neighbour "neighbour" (defScope s_neighbour) f cdv A outer s H E) (e_neighbour (runP prog n)) (defBody s_neighbour) := by
  have hu := hr.room.units
  have tk : Takes (cxOf (L2.CX pg w) pg w K mg base N_neighbour "neighbour" (defScope s_neighbour) f cdv A outer s H E) (fun C d _ H' => E C d H') := takes_of rfl rfl rfl rfl
  have pp : PassesOwn (model pg w) (cxOf (L2.CX pg w) pg w K mg base N_neighbour "neighbour" (defScope s_neighbour) f cdv A outer s H E).A (cxOf (L2.CX pg w) pg w K mg base N_neighbour "neighbour" (defScope s_neighbour) f cdv A outer s H E).env (cxOf (L2.CX pg w) pg w K mg base N_neighbour "neighbour" (defScope s_neighbour) f cdv A outer s H E).xe := passes_of rfl
  exact (ss_cons (s_set nd_neighbour (se_tup (sa_cons (se_bin (opp_add rfl) (se_v (i := 1)) (se_ix rfl hu (se_ix rfl hu (se_con rfl g.c_STEPS) (se_v (i := 3))) se_int)) (sa_cons (se_bin (opp_add rfl) (se_v (i := 2)) (se_ix rfl hu (se_ix rfl hu (se_con rfl g.c_STEPS) (se_v (i := 3))) se_int)) sa_nil))))
    (ss_cons (s_ret (se_if (st_val rfl (se_at L.a2 hr tk (sa_cons (se_v (i := 0)) (sa_cons (se_ix rfl hu (se_v (i := 4)) se_int) (sa_cons (se_ix rfl hu (se_v (i := 4)) se_int) sa_nil))))) (se_v (i := 4)) se_non))
    ss_nil))
def N_is_border : List Str := ["fabric", "x", "y", "side"]
def P_is_border : List Str := ["fabric", "x", "y"]
theorem nd_is_border : N_is_border.Nodup := by decide +kernel
theorem sc_is_border : FnScope N_is_border P_is_border (defScope s_is_border) := ⟨rfl, rfl, rfl, nd_is_border, rfl, by decide +kernel, by decide +kernel⟩
theorem b_is_border {n : Nat} (g : Fact pg w K mg base) (L : Lib w K mg base n) (hr : RoomG (n + 3) (A.deeper (PyProof.Rows.envOfC "is_border" (defScope s_is_border) s.heap.objs.size f cdv))) :
  SS (Gk K) (fun C d _ H' => E C d H') (cxOf (L2.CX pg w) pg w K mg base N_is_border "is_border" (defScope s_is_border) f cdv A outer s H E) (e_is_border (runP prog n)) (defBody s_is_border) := by
  have hu := hr.room.units
  have tk : Takes (cxOf (L2.CX pg w) pg w K mg base N_is_border "is_border" (defScope s_is_border) f cdv A outer s H E) (fun C d _ H' => E C d H') := takes_of rfl rfl rfl rfl
  have pp : PassesOwn (model pg w) (cxOf (L2.CX pg w) pg w K mg base N_is_border "is_border" (defScope s_is_border) f cdv A outer s H E).A (cxOf (L2.CX pg w) pg w K mg base N_is_border "is_border" (defScope s_is_border) f cdv A outer s H E).env (cxOf (L2.CX pg w) pg w K mg base N_is_border "is_border" (defScope s_is_border) f cdv A outer s H E).xe := passes_of rfl
  exact (ss_cons (s_ret (se_cmp (opp_in rfl hu) se_non (se_lc rfl nd_is_border (si_rng1 g.f_range se_int) (blkOk_by (own := [("side", 3)]) (by kernel_rfl)) (is := [3]) (fun _ _ _ _ _ => (sh_n nd_is_border)) (fun _ _ _ _ _ => sts_nil) (fun _ _ _ _ _ => (se_at L.a4 hr takes_shut (sa_cons (se_v (i := 0)) (sa_cons (se_v (i := 1)) (sa_cons (se_v (i := 2)) (sa_cons (se_v (i := 3)) sa_nil)))))))))
    ss_nil)
def N_pads_of : List Str := ["fabric", "tiles", "x", "y", "number"]
def P_pads_of : List Str := ["fabric"]
theorem nd_pads_of : N_pads_of.Nodup := by decide +kernel
theorem sc_pads_of : FnScope N_pads_of P_pads_of (defScope s_pads_of) := ⟨rfl, rfl, rfl, nd_pads_of, rfl, by decide +kernel, by decide +kernel⟩
theorem b_pads_of {n : Nat} (g : Fact pg w K mg base) (L : Lib w K mg base n) (hr : RoomG (n + 3) (A.deeper (PyProof.Rows.envOfC "pads_of" (defScope s_pads_of) s.heap.objs.size f cdv))) :
  SS (Gk K) (fun C d _ H' => E C d H') (cxOf (L2.CX pg w) pg w K mg base N_pads_of "pads_of" (defScope s_pads_of) f cdv A outer s H E) (e_pads_of (runP prog n)) (defBody s_pads_of) := by
  have hu := hr.room.units
  have tk : Takes (cxOf (L2.CX pg w) pg w K mg base N_pads_of "pads_of" (defScope s_pads_of) f cdv A outer s H E) (fun C d _ H' => E C d H') := takes_of rfl rfl rfl rfl
  have pp : PassesOwn (model pg w) (cxOf (L2.CX pg w) pg w K mg base N_pads_of "pads_of" (defScope s_pads_of) f cdv A outer s H E).A (cxOf (L2.CX pg w) pg w K mg base N_pads_of "pads_of" (defScope s_pads_of) f cdv A outer s H E).env (cxOf (L2.CX pg w) pg w K mg base N_pads_of "pads_of" (defScope s_pads_of) f cdv A outer s H E).xe := passes_of rfl
  exact (ss_cons (s_setLc rfl nd_pads_of (si_seq rfl (se_at L.a3 hr tk (sa_cons (se_v (i := 0)) sa_nil))) (blkOk_by (own := [("x", 2), ("y", 3)]) (by kernel_rfl)) (is := [2, 3]) (fun _ _ _ _ _ => (sh_t rfl rfl (shs_cons (sh_n nd_pads_of) (shs_cons (sh_n nd_pads_of) shs_nil)))) (fun _ _ _ _ _ => (sts_one (st_val rfl (se_at L.a5 hr takes_shut (sa_cons (se_v (i := 0)) (sa_cons (se_v (i := 2)) (sa_cons (se_v (i := 3)) sa_nil))))))) (fun _ _ _ _ _ => (se_tup (sa_cons (se_v (i := 2)) (sa_cons (se_v (i := 3)) sa_nil)))) rfl)
    (ss_cons (s_ret (se_lc2A rfl nd_pads_of (si_seq rfl (se_v (i := 1))) (blkOk_by (own := [("x", 2), ("y", 3), ("number", 4)]) (by kernel_rfl)) (is := [2, 3]) (is1 := [4]) (vs1 := [4]) (fun _ _ _ _ _ => (sh_t rfl rfl (shs_cons (sh_n nd_pads_of) (shs_cons (sh_n nd_pads_of) shs_nil)))) (fun _ _ _ _ _ => sts_nil) (fun _ _ _ _ _ => (si_rng1 g.f_range (se_ix rfl hu (se_v (i := 0)) se_int))) (fun _ _ _ _ _ => (sh_n nd_pads_of)) (fun _ _ _ _ _ => sts_nil) (fun _ _ _ _ _ => (se_tup (sa_cons (se_v (i := 2)) (sa_cons (se_v (i := 3)) (sa_cons (se_v (i := 4)) sa_nil)))))))
    ss_nil))
def N_is_wire : List Str := ["fabric", "value", "one", "x", "y", "side", "track"]
def P_is_wire : List Str := ["fabric", "value"]
theorem nd_is_wire : N_is_wire.Nodup := by decide +kernel
theorem sc_is_wire : FnScope N_is_wire P_is_wire (defScope s_is_wire) := ⟨rfl, rfl, rfl, nd_is_wire, rfl, by decide +kernel, by decide +kernel⟩
theorem b_is_wire {n : Nat} (g : Fact pg w K mg base) (L : Lib w K mg base n) (hr : RoomG (n + 3) (A.deeper (PyProof.Rows.envOfC "is_wire" (defScope s_is_wire) s.heap.objs.size f cdv))) :
  SS (Gk K) (fun C d _ H' => E C d H') (cxOf (L2.CX pg w) pg w K mg base N_is_wire "is_wire" (defScope s_is_wire) f cdv A outer s H E) (e_is_wire (runP prog n)) (defBody s_is_wire) := by
  have hu := hr.room.units
  have tk : Takes (cxOf (L2.CX pg w) pg w K mg base N_is_wire "is_wire" (defScope s_is_wire) f cdv A outer s H E) (fun C d _ H' => E C d H') := takes_of rfl rfl rfl rfl
  have pp : PassesOwn (model pg w) (cxOf (L2.CX pg w) pg w K mg base N_is_wire "is_wire" (defScope s_is_wire) f cdv A outer s H E).A (cxOf (L2.CX pg w) pg w K mg base N_is_wire "is_wire" (defScope s_is_wire) f cdv A outer s H E).env (cxOf (L2.CX pg w) pg w K mg base N_is_wire "is_wire" (defScope s_is_wire) f cdv A outer s H E).xe := passes_of rfl
  exact (ss_cons (s_if (st_w (sw_or (st_not (st_val rfl (se_isi1 (t := .tuple) rfl g.f_isinstance g.f_tuple bt_tuple (by decide) (se_v (i := 1))))) (sw_or (st_cmp (opp_ne rfl hu) (se_cb1 (cp_len rfl) g.f_len bt_len (se_v (i := 1))) se_int) (sw_or1 (st_not (st_val rfl (se_cb1 (cp_all rfl) g.f_all bt_all (se_lc rfl nd_is_wire (si_seq rfl (se_v (i := 1))) (blkOk_by (own := [("one", 2)]) (by kernel_rfl)) (is := [2]) (fun _ _ _ _ _ => (sh_n nd_is_wire)) (fun _ _ _ _ _ => sts_nil) (fun _ _ _ _ _ => (se_at L.a0 hr takes_shut (sa_cons (se_v (i := 2)) sa_nil))))))))))) (ss_cons (s_ret se_bl)
    ss_nil) ss_nil)
    (ss_cons (s_asg (se_v (i := 1)) (sg_t rfl rfl (sgs_cons (sg_n nd_is_wire) (sgs_cons (sg_n nd_is_wire) (sgs_cons (sg_n nd_is_wire) (sgs_cons (sg_n nd_is_wire) sgs_nil))))))
    (ss_cons (s_if (st_w (sw_or (st_not (st_val rfl (se_at L.a2 hr tk (sa_cons (se_v (i := 0)) (sa_cons (se_v (i := 3)) (sa_cons (se_v (i := 4)) sa_nil)))))) (sw_or (st_not (st_chain opp_le opp_lt se_int (se_v (i := 5)) se_int)) (sw_or1 (st_not (st_chain opp_le opp_lt se_int (se_v (i := 6)) (se_ix rfl hu (se_v (i := 0)) se_int))))))) (ss_cons (s_ret se_bl)
    ss_nil) ss_nil)
    (ss_cons (s_ret (se_notN (se_at L.a4 hr tk (sa_cons (se_v (i := 0)) (sa_cons (se_v (i := 3)) (sa_cons (se_v (i := 4)) (sa_cons (se_v (i := 5)) sa_nil)))))))
    ss_nil))))
def N_wire_in : List Str := ["fabric", "x", "y", "side", "track", "late"]
def P_wire_in : List Str := ["fabric", "x", "y", "side", "track"]
theorem nd_wire_in : N_wire_in.Nodup := by decide +kernel
theorem sc_wire_in : FnScope N_wire_in P_wire_in (defScope s_wire_in) := ⟨rfl, rfl, rfl, nd_wire_in, rfl, by decide +kernel, by decide +kernel⟩
theorem b_wire_in {n : Nat} (g : Fact pg w K mg base) (L : Lib w K mg base n) (hr : RoomG (n + 3) (A.deeper (PyProof.Rows.envOfC "wire_in" (defScope s_wire_in) s.heap.objs.size f cdv))) :
  SS (Gk K) (fun C d _ H' => E C d H') (cxOf (L2.CX pg w) pg w K mg base N_wire_in "wire_in" (defScope s_wire_in) f cdv A outer s H E) (e_wire_in (runP prog n)) (defBody s_wire_in) := by
  have hu := hr.room.units
  have tk : Takes (cxOf (L2.CX pg w) pg w K mg base N_wire_in "wire_in" (defScope s_wire_in) f cdv A outer s H E) (fun C d _ H' => E C d H') := takes_of rfl rfl rfl rfl
  have pp : PassesOwn (model pg w) (cxOf (L2.CX pg w) pg w K mg base N_wire_in "wire_in" (defScope s_wire_in) f cdv A outer s H E).A (cxOf (L2.CX pg w) pg w K mg base N_wire_in "wire_in" (defScope s_wire_in) f cdv A outer s H E).env (cxOf (L2.CX pg w) pg w K mg base N_wire_in "wire_in" (defScope s_wire_in) f cdv A outer s H E).xe := passes_of rfl
  exact (ss_cons (s_set nd_wire_in (se_at L.a4 hr tk (sa_cons (se_v (i := 0)) (sa_cons (se_v (i := 1)) (sa_cons (se_v (i := 2)) (sa_cons (se_v (i := 3)) sa_nil))))))
    (ss_cons (s_ret (se_if (st_isN (se_v (i := 5))) se_non (se_tup (sa_cons (se_ix rfl hu (se_v (i := 5)) se_int) (sa_cons (se_ix rfl hu (se_v (i := 5)) se_int) (sa_cons (se_bin opp_mod (se_bin (opp_add rfl) (se_v (i := 3)) se_int) se_int) (sa_cons (se_v (i := 4)) sa_nil)))))))
    ss_nil))
def N_wires_from : List Str := ["fabric", "x", "y", "track", "side"]
def P_wires_from : List Str := ["fabric", "x", "y", "track"]
theorem nd_wires_from : N_wires_from.Nodup := by decide +kernel
theorem sc_wires_from : FnScope N_wires_from P_wires_from (defScope s_wires_from) := ⟨rfl, rfl, rfl, nd_wires_from, rfl, by decide +kernel, by decide +kernel⟩
theorem b_wires_from {n : Nat} (g : Fact pg w K mg base) (L : Lib w K mg base n) (hr : RoomG (n + 3) (A.deeper (PyProof.Rows.envOfC "wires_from" (defScope s_wires_from) s.heap.objs.size f cdv))) :
  SS (Gk K) (fun C d _ H' => E C d H') (cxOf (L2.CX pg w) pg w K mg base N_wires_from "wires_from" (defScope s_wires_from) f cdv A outer s H E) (e_wires_from (runP prog n)) (defBody s_wires_from) := by
  have hu := hr.room.units
  have tk : Takes (cxOf (L2.CX pg w) pg w K mg base N_wires_from "wires_from" (defScope s_wires_from) f cdv A outer s H E) (fun C d _ H' => E C d H') := takes_of rfl rfl rfl rfl
  have pp : PassesOwn (model pg w) (cxOf (L2.CX pg w) pg w K mg base N_wires_from "wires_from" (defScope s_wires_from) f cdv A outer s H E).A (cxOf (L2.CX pg w) pg w K mg base N_wires_from "wires_from" (defScope s_wires_from) f cdv A outer s H E).env (cxOf (L2.CX pg w) pg w K mg base N_wires_from "wires_from" (defScope s_wires_from) f cdv A outer s H E).xe := passes_of rfl
  exact (ss_cons (s_ret (se_lc rfl nd_wires_from (si_rng1 g.f_range se_int) (blkOk_by (own := [("side", 4)]) (by kernel_rfl)) (is := [4]) (fun _ _ _ _ _ => (sh_n nd_wires_from)) (fun _ _ _ _ _ => (sts_one (st_notN (se_at L.a4 hr takes_shut (sa_cons (se_v (i := 0)) (sa_cons (se_v (i := 1)) (sa_cons (se_v (i := 2)) (sa_cons (se_v (i := 4)) sa_nil)))))))) (fun _ _ _ _ _ => (se_tup (sa_cons (se_v (i := 1)) (sa_cons (se_v (i := 2)) (sa_cons (se_v (i := 4)) (sa_cons (se_v (i := 3)) sa_nil))))))))
    ss_nil)
def N_all_wires : List Str := ["fabric", "found", "x", "y", "track"]
def P_all_wires : List Str := ["fabric"]
theorem nd_all_wires : N_all_wires.Nodup := by decide +kernel
theorem sc_all_wires : FnScope N_all_wires P_all_wires (defScope s_all_wires) := ⟨rfl, rfl, rfl, nd_all_wires, rfl, by decide +kernel, by decide +kernel⟩
theorem b_all_wires {n : Nat} (g : Fact pg w K mg base) (L : Lib w K mg base n) (hr : RoomG (n + 3) (A.deeper (PyProof.Rows.envOfC "all_wires" (defScope s_all_wires) s.heap.objs.size f cdv))) :
  SS (Gk K) (fun C d _ H' => E C d H') (cxOf (L2.CX pg w) pg w K mg base N_all_wires "all_wires" (defScope s_all_wires) f cdv A outer s H E) (e_all_wires (runP prog n)) (defBody s_all_wires) := by
  have hu := hr.room.units
  have tk : Takes (cxOf (L2.CX pg w) pg w K mg base N_all_wires "all_wires" (defScope s_all_wires) f cdv A outer s H E) (fun C d _ H' => E C d H') := takes_of rfl rfl rfl rfl
  have pp : PassesOwn (model pg w) (cxOf (L2.CX pg w) pg w K mg base N_all_wires "all_wires" (defScope s_all_wires) f cdv A outer s H E).A (cxOf (L2.CX pg w) pg w K mg base N_all_wires "all_wires" (defScope s_all_wires) f cdv A outer s H E).env (cxOf (L2.CX pg w) pg w K mg base N_all_wires "all_wires" (defScope s_all_wires) f cdv A outer s H E).xe := passes_of rfl
  exact (ss_cons (s_set nd_all_wires (se_lst sa_nil))
    (ss_cons (s_for pp rfl (si_seq rfl (se_at L.a3 hr tk (sa_cons (se_v (i := 0)) sa_nil))) (sg_t rfl rfl (sgs_cons (sg_n nd_all_wires) (sgs_cons (sg_n nd_all_wires) sgs_nil))) (ss_cons (s_for pp rfl (si_rng1 g.f_range (se_ix rfl hu (se_v (i := 0)) se_int)) (sg_n nd_all_wires) (ss_cons (s_set nd_all_wires (se_bin (opp_add rfl) (se_v (i := 1)) (se_at L.a9 hr tk (sa_cons (se_v (i := 0)) (sa_cons (se_v (i := 2)) (sa_cons (se_v (i := 3)) (sa_cons (se_v (i := 4)) sa_nil)))))))
    ss_nil))
    ss_nil))
    (ss_cons (s_ret (se_cb1 (cp_sortedA rfl hu) g.f_sorted bt_sorted (se_v (i := 1))))
    ss_nil)))
def N_least_pads : List Str := ["border", "many"]
def P_least_pads : List Str := ["border", "many"]
theorem nd_least_pads : N_least_pads.Nodup := by decide +kernel
theorem sc_least_pads : FnScope N_least_pads P_least_pads (defScope s_least_pads) := ⟨rfl, rfl, rfl, nd_least_pads, rfl, by decide +kernel, by decide +kernel⟩
theorem b_least_pads {n : Nat} (g : Fact pg w K mg base) (L : Lib w K mg base n) (hr : RoomG (n + 3) (A.deeper (PyProof.Rows.envOfC "least_pads" (defScope s_least_pads) s.heap.objs.size f cdv))) :
  SS (Gk K) (fun C d _ H' => E C d H') (cxOf (L2.CX pg w) pg w K mg base N_least_pads "least_pads" (defScope s_least_pads) f cdv A outer s H E) (e_least_pads (runP prog n)) (defBody s_least_pads) := by
  have hu := hr.room.units
  have tk : Takes (cxOf (L2.CX pg w) pg w K mg base N_least_pads "least_pads" (defScope s_least_pads) f cdv A outer s H E) (fun C d _ H' => E C d H') := takes_of rfl rfl rfl rfl
  have pp : PassesOwn (model pg w) (cxOf (L2.CX pg w) pg w K mg base N_least_pads "least_pads" (defScope s_least_pads) f cdv A outer s H E).A (cxOf (L2.CX pg w) pg w K mg base N_least_pads "least_pads" (defScope s_least_pads) f cdv A outer s H E).env (cxOf (L2.CX pg w) pg w K mg base N_least_pads "least_pads" (defScope s_least_pads) f cdv A outer s H E).xe := passes_of rfl
  exact (ss_cons (s_ret (se_cb2 (cp_max rfl) g.f_max bt_max se_int (se_neg (se_bin opp_div (se_neg (se_v (i := 1))) (se_v (i := 0))))))
    ss_nil)
def N_fabric_for : List Str := ["k", "cells", "signals", "ins", "outs", "size", "border", "word", "many"]
def P_fabric_for : List Str := ["k", "cells", "signals", "ins", "outs"]
theorem nd_fabric_for : N_fabric_for.Nodup := by decide +kernel
theorem sc_fabric_for : FnScope N_fabric_for P_fabric_for (defScope s_fabric_for) := ⟨rfl, rfl, rfl, nd_fabric_for, rfl, by decide +kernel, by decide +kernel⟩
theorem b_fabric_for {n : Nat} (g : Fact pg w K mg base) (L : Lib w K mg base n) (hr : RoomG (n + 3) (A.deeper (PyProof.Rows.envOfC "fabric_for" (defScope s_fabric_for) s.heap.objs.size f cdv))) :
  SS (Gk K) (fun C d _ H' => E C d H') (cxOf (L2.CX pg w) pg w K mg base N_fabric_for "fabric_for" (defScope s_fabric_for) f cdv A outer s H E) (e_fabric_for (runP prog n)) (defBody s_fabric_for) := by
  have hu := hr.room.units
  have tk : Takes (cxOf (L2.CX pg w) pg w K mg base N_fabric_for "fabric_for" (defScope s_fabric_for) f cdv A outer s H E) (fun C d _ H' => E C d H') := takes_of rfl rfl rfl rfl
  have pp : PassesOwn (model pg w) (cxOf (L2.CX pg w) pg w K mg base N_fabric_for "fabric_for" (defScope s_fabric_for) f cdv A outer s H E).A (cxOf (L2.CX pg w) pg w K mg base N_fabric_for "fabric_for" (defScope s_fabric_for) f cdv A outer s H E).env (cxOf (L2.CX pg w) pg w K mg base N_fabric_for "fabric_for" (defScope s_fabric_for) f cdv A outer s H E).xe := passes_of rfl
  exact (ss_cons (s_set nd_fabric_for se_int)
    (ss_cons (s_while pp (st_cmp opp_lt (se_bin opp_mul (se_v (i := 5)) (se_v (i := 5))) (se_v (i := 1))) (ss_cons (s_set nd_fabric_for (se_bin (opp_add rfl) (se_v (i := 5)) se_int))
    ss_nil))
    (ss_cons (s_if (st_cmp opp_gt (se_v (i := 5)) (se_ix rfl hu (se_ix rfl hu (se_con rfl g.c_BOUNDS) se_int) se_int)) (ss_cons (s_raiseAt (g.e_NoRoom) hr rfl tk se_str)
    ss_nil) ss_nil)
    (ss_cons (s_set nd_fabric_for (se_if (st_cmp opp_lt (se_v (i := 5)) se_int) (se_bin opp_mul (se_v (i := 5)) (se_v (i := 5))) (se_bin opp_sub (se_bin opp_mul se_int (se_v (i := 5))) se_int)))
    (ss_cons (s_for pp rfl (si_seq rfl (se_tup (sa_cons (se_tup (sa_cons se_str (sa_cons (se_v (i := 3)) sa_nil))) (sa_cons (se_tup (sa_cons se_str (sa_cons (se_v (i := 4)) sa_nil))) sa_nil)))) (sg_t rfl rfl (sgs_cons (sg_n nd_fabric_for) (sgs_cons (sg_n nd_fabric_for) sgs_nil))) (ss_cons (s_if (st_cmp opp_gt (se_at L.a11 hr tk (sa_cons (se_v (i := 6)) (sa_cons (se_v (i := 8)) sa_nil))) (se_ix rfl hu (se_ix rfl hu (se_con rfl g.c_BOUNDS) se_int) se_int)) (ss_cons (s_raiseAt (g.e_NoRoom) hr rfl tk (se_v (i := 7)))
    ss_nil) ss_nil)
    ss_nil))
    (ss_cons (s_if (st_cmp opp_gt (se_v (i := 2)) (se_ix rfl hu (se_ix rfl hu (se_con rfl g.c_BOUNDS) se_int) se_int)) (ss_cons (s_raiseAt (g.e_NoRoom) hr rfl tk se_str)
    ss_nil) ss_nil)
    (ss_cons (s_ret (se_tup (sa_cons (se_v (i := 5)) (sa_cons (se_v (i := 5)) (sa_cons (se_cb2 (cp_max rfl) g.f_max bt_max se_int (se_v (i := 2))) (sa_cons (se_v (i := 0)) (sa_cons (se_cb2 (cp_max rfl) g.f_max bt_max (se_at L.a11 hr tk (sa_cons (se_v (i := 6)) (sa_cons (se_v (i := 3)) sa_nil))) (se_at L.a11 hr tk (sa_cons (se_v (i := 6)) (sa_cons (se_v (i := 4)) sa_nil)))) sa_nil)))))))
    ss_nil)))))))
def N__law_source : List Str := ["_law_script", "_law_mixed_here", "_law_cell"]
def P__law_source : List Str := ["_law_script"]
theorem nd__law_source : N__law_source.Nodup := by decide +kernel
theorem sc__law_source : FnScope N__law_source P__law_source (defScope s__law_source) := ⟨rfl, rfl, rfl, nd__law_source, rfl, by decide +kernel, by decide +kernel⟩
theorem b__law_source {n : Nat} (g : Fact pg w K mg base) (L : Lib w K mg base n) (hr : RoomG (n + 3) (A.deeper (PyProof.Rows.envOfC "_law_source" (defScope s__law_source) s.heap.objs.size f cdv))) :
  SS (Gk K) (fun C d _ H' => E C d H') (cxOf (L2.CX pg w) pg w K mg base N__law_source "_law_source" (defScope s__law_source) f cdv A outer s H E) (e__law_source (runP prog n)) (defBody s__law_source) := by
  have hu := hr.room.units
  have tk : Takes (cxOf (L2.CX pg w) pg w K mg base N__law_source "_law_source" (defScope s__law_source) f cdv A outer s H E) (fun C d _ H' => E C d H') := takes_of rfl rfl rfl rfl
  have pp : PassesOwn (model pg w) (cxOf (L2.CX pg w) pg w K mg base N__law_source "_law_source" (defScope s__law_source) f cdv A outer s H E).A (cxOf (L2.CX pg w) pg w K mg base N__law_source "_law_source" (defScope s__law_source) f cdv A outer s H E).env (cxOf (L2.CX pg w) pg w K mg base N__law_source "_law_source" (defScope s__law_source) f cdv A outer s H E).xe := passes_of rfl
  exact (ss_cons (s_set nd__law_source se_int)
    (ss_cons (s_for pp rfl (si_seq rfl (se_v (i := 0))) (sg_n nd__law_source) (ss_cons (s_set nd__law_source (se_bin opp_mod (se_ct1 cp_int g.f_int bt_int (se_bin (opp_add rfl) (se_bin (opp_add rfl) (se_bin opp_mul (se_v (i := 1)) se_int) (se_bin opp_mul (se_v (i := 2)) se_int)) se_int)) se_int))
    ss_nil))
    (ss_cons (s_ret (se_dctA (pp_cons (se_revA (se_lc rfl nd__law_source (si_seq rfl (se_v (i := 0))) (blkOk_by (own := [("_law_cell", 2)]) (by kernel_rfl)) (is := [2]) (fun _ _ _ _ _ => (sh_n nd__law_source)) (fun _ _ _ _ _ => sts_nil) (fun _ _ _ _ _ => (se_cb1 cp_abs g.f_abs bt_abs (se_v (i := 2)))))) (pp_cons se_int (pp_cons (se_v (i := 1)) (pp_cons se_int pp_nil)))) rfl))
    ss_nil)))
def N__law_pick : List Str := ["_law_source_here", "_law_many", "_law_left", "_law_mixed_here"]
def P__law_pick : List Str := ["_law_source_here", "_law_many"]
theorem nd__law_pick : N__law_pick.Nodup := by decide +kernel
theorem sc__law_pick : FnScope N__law_pick P__law_pick (defScope s__law_pick) := ⟨rfl, rfl, rfl, nd__law_pick, rfl, by decide +kernel, by decide +kernel⟩
theorem b__law_pick {n : Nat} (g : Fact pg w K mg base) (L : Lib w K mg base n) (hr : RoomG (n + 3) (A.deeper (PyProof.Rows.envOfC "_law_pick" (defScope s__law_pick) s.heap.objs.size f cdv))) :
  SS (Gk K) (fun C d _ H' => E C d H') (cxOf (L2.CX pg w) pg w K mg base N__law_pick "_law_pick" (defScope s__law_pick) f cdv A outer s H E) (e__law_pick (runP prog n)) (defBody s__law_pick) := by
  have hu := hr.room.units
  have tk : Takes (cxOf (L2.CX pg w) pg w K mg base N__law_pick "_law_pick" (defScope s__law_pick) f cdv A outer s H E) (fun C d _ H' => E C d H') := takes_of rfl rfl rfl rfl
  have pp : PassesOwn (model pg w) (cxOf (L2.CX pg w) pg w K mg base N__law_pick "_law_pick" (defScope s__law_pick) f cdv A outer s H E).A (cxOf (L2.CX pg w) pg w K mg base N__law_pick "_law_pick" (defScope s__law_pick) f cdv A outer s H E).env (cxOf (L2.CX pg w) pg w K mg base N__law_pick "_law_pick" (defScope s__law_pick) f cdv A outer s H E).xe := passes_of rfl
  exact (ss_cons (s_while pp (st_w (sw_and (st_cmp opp_gt (se_v (i := 1)) se_int) (sw_and (st_cmp opp_lt (se_ix rfl hu (se_v (i := 0)) se_str) se_int) (sw_and1 (st_cmp opp_gt (se_cb1 (cp_len rfl) g.f_len bt_len (se_ix rfl hu (se_v (i := 0)) se_str)) se_int))))) (ss_cons (s_asg (se_m0 PySem.F.slot_list_pop PySem.F.type_list_pop mp_pop (se_ix rfl hu (se_v (i := 0)) se_str)) (sg_i (W := Shut) hu (se_v (i := 0)) se_str))
    ss_nil))
    (ss_cons (s_set nd__law_pick (se_ix rfl hu (se_v (i := 0)) se_str))
    (ss_cons (s_if (st_w (sw_or (st_cmp opp_lt (se_v (i := 1)) se_int) (sw_or1 (st_cmp opp_gt (se_v (i := 2)) se_int)))) (ss_cons (s_asg (se_bin opp_div (se_v (i := 2)) (se_cb2 (cp_max rfl) g.f_max bt_max se_int (se_v (i := 1)))) (sg_i (W := Shut) hu (se_v (i := 0)) se_str))
    (ss_cons (s_ret (se_bin opp_mod (se_ct1 cp_int g.f_int bt_int (se_v (i := 2))) (se_cb2 (cp_max rfl) g.f_max bt_max se_int (se_v (i := 1)))))
    ss_nil)) ss_nil)
    (ss_cons (s_asg (se_bin (opp_add rfl) (se_ix rfl hu (se_v (i := 0)) se_str) se_int) (sg_i (W := Shut) hu (se_v (i := 0)) se_str))
    (ss_cons (s_set nd__law_pick (se_bin opp_mod (se_ct1 cp_int g.f_int bt_int (se_bin (opp_add rfl) (se_ix rfl hu (se_v (i := 0)) se_str) (se_bin opp_mul (se_ix rfl hu (se_v (i := 0)) se_str) se_int))) se_int))
    (ss_cons (s_set nd__law_pick (se_bin opp_mod (se_ct1 cp_int g.f_int bt_int (se_bin (opp_add rfl) (se_bin opp_mul (se_v (i := 3)) (se_v (i := 3))) (se_bin opp_mul (se_ix rfl hu (se_v (i := 0)) se_str) se_int))) se_int))
    (ss_cons (s_asg (se_v (i := 3)) (sg_i (W := Shut) hu (se_v (i := 0)) se_str))
    (ss_cons (s_ret (se_bin opp_mod (se_ct1 cp_int g.f_int bt_int (se_bin opp_div (se_v (i := 3)) se_int)) (se_v (i := 1))))
    ss_nil))))))))
def N__law_of : List Str := ["_law_source_here", "_law_some"]
def P__law_of : List Str := ["_law_source_here", "_law_some"]
theorem nd__law_of : N__law_of.Nodup := by decide +kernel
theorem sc__law_of : FnScope N__law_of P__law_of (defScope s__law_of) := ⟨rfl, rfl, rfl, nd__law_of, rfl, by decide +kernel, by decide +kernel⟩
theorem b__law_of {n : Nat} (g : Fact pg w K mg base) (L : Lib w K mg base n) (hr : RoomG (n + 3) (A.deeper (PyProof.Rows.envOfC "_law_of" (defScope s__law_of) s.heap.objs.size f cdv))) :
  SS (Gk K) (fun C d _ H' => E C d H') (cxOf (L2.CX pg w) pg w K mg base N__law_of "_law_of" (defScope s__law_of) f cdv A outer s H E) (e__law_of (runP prog n)) (defBody s__law_of) := by
  have hu := hr.room.units
  have tk : Takes (cxOf (L2.CX pg w) pg w K mg base N__law_of "_law_of" (defScope s__law_of) f cdv A outer s H E) (fun C d _ H' => E C d H') := takes_of rfl rfl rfl rfl
  have pp : PassesOwn (model pg w) (cxOf (L2.CX pg w) pg w K mg base N__law_of "_law_of" (defScope s__law_of) f cdv A outer s H E).A (cxOf (L2.CX pg w) pg w K mg base N__law_of "_law_of" (defScope s__law_of) f cdv A outer s H E).env (cxOf (L2.CX pg w) pg w K mg base N__law_of "_law_of" (defScope s__law_of) f cdv A outer s H E).xe := passes_of rfl
  exact (ss_cons (s_ret (se_ix rfl hu (se_v (i := 1)) (se_at L.a14 hr tk (sa_cons (se_v (i := 0)) (sa_cons (se_cb1 (cp_len rfl) g.f_len bt_len (se_v (i := 1))) sa_nil)))))
    ss_nil)
def N__law_mixed : List Str := ["_law_source_here", "_law_things", "_law_rest", "_law_lap"]
def P__law_mixed : List Str := ["_law_source_here", "_law_things"]
theorem nd__law_mixed : N__law_mixed.Nodup := by decide +kernel
theorem sc__law_mixed : FnScope N__law_mixed P__law_mixed (defScope s__law_mixed) := ⟨rfl, rfl, rfl, nd__law_mixed, rfl, by decide +kernel, by decide +kernel⟩
theorem b__law_mixed {n : Nat} (g : Fact pg w K mg base) (L : Lib w K mg base n) (hr : RoomG (n + 3) (A.deeper (PyProof.Rows.envOfC "_law_mixed" (defScope s__law_mixed) s.heap.objs.size f cdv))) :
  SS (Gk K) (fun C d _ H' => E C d H') (cxOf (L2.CX pg w) pg w K mg base N__law_mixed "_law_mixed" (defScope s__law_mixed) f cdv A outer s H E) (e__law_mixed (runP prog n)) (defBody s__law_mixed) := by
  have hu := hr.room.units
  have tk : Takes (cxOf (L2.CX pg w) pg w K mg base N__law_mixed "_law_mixed" (defScope s__law_mixed) f cdv A outer s H E) (fun C d _ H' => E C d H') := takes_of rfl rfl rfl rfl
  have pp : PassesOwn (model pg w) (cxOf (L2.CX pg w) pg w K mg base N__law_mixed "_law_mixed" (defScope s__law_mixed) f cdv A outer s H E).A (cxOf (L2.CX pg w) pg w K mg base N__law_mixed "_law_mixed" (defScope s__law_mixed) f cdv A outer s H E).env (cxOf (L2.CX pg w) pg w K mg base N__law_mixed "_law_mixed" (defScope s__law_mixed) f cdv A outer s H E).xe := passes_of rfl
  exact (ss_cons (s_set nd__law_mixed (se_ct1 (cp_listA rfl) g.f_list bt_list (se_v (i := 1))))
    (ss_cons (s_ret (se_lc rfl nd__law_mixed (si_rng1 g.f_range (se_cb1 (cp_len rfl) g.f_len bt_len (se_v (i := 2)))) (blkOk_by (own := [("_law_lap", 3)]) (by kernel_rfl)) (is := [3]) (fun _ _ _ _ _ => (sh_n nd__law_mixed)) (fun _ _ _ _ _ => sts_nil) (fun _ _ _ _ _ => (se_m1 PySem.F.slot_list_pop PySem.F.type_list_pop mp_popAt (se_v (i := 2)) (se_at L.a14 hr takes_shut (sa_cons (se_v (i := 0)) (sa_cons (se_cb1 (cp_len rfl) g.f_len bt_len (se_v (i := 2))) sa_nil)))))))
    ss_nil))
def N__law_odd : List Str := ["_law_source_here", "_law_some"]
def P__law_odd : List Str := ["_law_source_here"]
theorem nd__law_odd : N__law_odd.Nodup := by decide +kernel
theorem sc__law_odd : FnScope N__law_odd P__law_odd (defScope s__law_odd) := ⟨rfl, rfl, rfl, nd__law_odd, rfl, by decide +kernel, by decide +kernel⟩
theorem b__law_odd {n : Nat} (g : Fact pg w K mg base) (L : Lib w K mg base n) (hr : RoomG (n + 3) (A.deeper (PyProof.Rows.envOfC "_law_odd" (defScope s__law_odd) s.heap.objs.size f cdv))) :
  SS (Gk K) (fun C d _ H' => E C d H') (cxOf (L2.CX pg w) pg w K mg base N__law_odd "_law_odd" (defScope s__law_odd) f cdv A outer s H E) (e__law_odd (runP prog n)) (defBody s__law_odd) := by
  have hu := hr.room.units
  have tk : Takes (cxOf (L2.CX pg w) pg w K mg base N__law_odd "_law_odd" (defScope s__law_odd) f cdv A outer s H E) (fun C d _ H' => E C d H') := takes_of rfl rfl rfl rfl
  have pp : PassesOwn (model pg w) (cxOf (L2.CX pg w) pg w K mg base N__law_odd "_law_odd" (defScope s__law_odd) f cdv A outer s H E).A (cxOf (L2.CX pg w) pg w K mg base N__law_odd "_law_odd" (defScope s__law_odd) f cdv A outer s H E).env (cxOf (L2.CX pg w) pg w K mg base N__law_odd "_law_odd" (defScope s__law_odd) f cdv A outer s H E).xe := passes_of rfl
  exact (ss_cons (s_set nd__law_odd (se_lst (sa_cons se_non (sa_cons se_bl (sa_cons se_bl (sa_cons (se_neg se_int) (sa_cons se_int (sa_cons se_int (sa_cons se_int (sa_cons se_int (sa_cons (se_bin opp_pow se_int se_int) (sa_cons se_str (sa_cons se_str (sa_cons se_str (sa_cons (se_tup sa_nil) (sa_cons (se_lst sa_nil) (sa_cons se_dct0 (sa_cons (se_tup (sa_cons se_non sa_nil)) (sa_cons (se_lst (sa_cons (se_tup sa_nil) sa_nil)) (sa_cons (se_tup (sa_cons se_int sa_nil)) (sa_cons (se_tup (sa_cons se_str sa_nil)) (sa_cons (se_tup (sa_cons se_str (sa_cons se_int sa_nil))) sa_nil))))))))))))))))))))))
    (ss_cons (s_ret (se_at L.a15 hr tk (sa_cons (se_v (i := 0)) (sa_cons (se_bin (opp_add rfl) (se_v (i := 1)) (se_lst (sa_cons (se_frz (se_dctA (pp_cons se_int pp_nil) rfl)) (sa_cons (se_tup (sa_cons se_str (sa_cons se_int (sa_cons se_int sa_nil)))) (sa_cons (se_tup (sa_cons se_int (sa_cons se_int sa_nil))) (sa_cons (se_tup (sa_cons se_int (sa_cons se_int (sa_cons se_int sa_nil)))) sa_nil)))))) sa_nil))))
    ss_nil))
def N__law_is_whole : List Str := ["_law_value"]
def P__law_is_whole : List Str := ["_law_value"]
theorem nd__law_is_whole : N__law_is_whole.Nodup := by decide +kernel
theorem sc__law_is_whole : FnScope N__law_is_whole P__law_is_whole (defScope s__law_is_whole) := ⟨rfl, rfl, rfl, nd__law_is_whole, rfl, by decide +kernel, by decide +kernel⟩
theorem b__law_is_whole {n : Nat} (g : Fact pg w K mg base) (L : Lib w K mg base n) (hr : RoomG (n + 3) (A.deeper (PyProof.Rows.envOfC "_law_is_whole" (defScope s__law_is_whole) s.heap.objs.size f cdv))) :
  SS (Gk K) (fun C d _ H' => E C d H') (cxOf (L2.CX pg w) pg w K mg base N__law_is_whole "_law_is_whole" (defScope s__law_is_whole) f cdv A outer s H E) (e__law_is_whole (runP prog n)) (defBody s__law_is_whole) := by
  have hu := hr.room.units
  have tk : Takes (cxOf (L2.CX pg w) pg w K mg base N__law_is_whole "_law_is_whole" (defScope s__law_is_whole) f cdv A outer s H E) (fun C d _ H' => E C d H') := takes_of rfl rfl rfl rfl
  have pp : PassesOwn (model pg w) (cxOf (L2.CX pg w) pg w K mg base N__law_is_whole "_law_is_whole" (defScope s__law_is_whole) f cdv A outer s H E).A (cxOf (L2.CX pg w) pg w K mg base N__law_is_whole "_law_is_whole" (defScope s__law_is_whole) f cdv A outer s H E).env (cxOf (L2.CX pg w) pg w K mg base N__law_is_whole "_law_is_whole" (defScope s__law_is_whole) f cdv A outer s H E).xe := passes_of rfl
  exact (ss_cons (s_ret (se_and rfl (se_isi1 (t := .int) rfl g.f_isinstance g.f_int bt_int (by decide) (se_v (i := 0))) (se_one (se_not rfl (se_isi1 (t := .bool) rfl g.f_isinstance g.f_bool bt_bool (by decide) (se_v (i := 0)))))))
    ss_nil)
def N__law_beside : List Str := ["_law_fabric", "_law_x", "_law_y", "_law_side", "_law_at"]
def P__law_beside : List Str := ["_law_fabric", "_law_x", "_law_y", "_law_side"]
theorem nd__law_beside : N__law_beside.Nodup := by decide +kernel
theorem sc__law_beside : FnScope N__law_beside P__law_beside (defScope s__law_beside) := ⟨rfl, rfl, rfl, nd__law_beside, rfl, by decide +kernel, by decide +kernel⟩
theorem b__law_beside {n : Nat} (g : Fact pg w K mg base) (L : Lib w K mg base n) (hr : RoomG (n + 3) (A.deeper (PyProof.Rows.envOfC "_law_beside" (defScope s__law_beside) s.heap.objs.size f cdv))) :
  SS (Gk K) (fun C d _ H' => E C d H') (cxOf (L2.CX pg w) pg w K mg base N__law_beside "_law_beside" (defScope s__law_beside) f cdv A outer s H E) (e__law_beside (runP prog n)) (defBody s__law_beside) := by
  have hu := hr.room.units
  have tk : Takes (cxOf (L2.CX pg w) pg w K mg base N__law_beside "_law_beside" (defScope s__law_beside) f cdv A outer s H E) (fun C d _ H' => E C d H') := takes_of rfl rfl rfl rfl
  have pp : PassesOwn (model pg w) (cxOf (L2.CX pg w) pg w K mg base N__law_beside "_law_beside" (defScope s__law_beside) f cdv A outer s H E).A (cxOf (L2.CX pg w) pg w K mg base N__law_beside "_law_beside" (defScope s__law_beside) f cdv A outer s H E).env (cxOf (L2.CX pg w) pg w K mg base N__law_beside "_law_beside" (defScope s__law_beside) f cdv A outer s H E).xe := passes_of rfl
  exact (ss_cons (s_set nd__law_beside (se_ix rfl hu (se_lst (sa_cons (se_tup (sa_cons (se_bin (opp_add rfl) (se_v (i := 1)) se_int) (sa_cons (se_v (i := 2)) sa_nil))) (sa_cons (se_tup (sa_cons (se_v (i := 1)) (sa_cons (se_bin (opp_add rfl) (se_v (i := 2)) se_int) sa_nil))) (sa_cons (se_tup (sa_cons (se_bin opp_sub (se_v (i := 1)) se_int) (sa_cons (se_v (i := 2)) sa_nil))) (sa_cons (se_tup (sa_cons (se_v (i := 1)) (sa_cons (se_bin opp_sub (se_v (i := 2)) se_int) sa_nil))) sa_nil))))) (se_v (i := 3))))
    (ss_cons (s_ret (se_if (st_w (sw_and (st_chain opp_le opp_lt se_int (se_ix rfl hu (se_v (i := 4)) se_int) (se_ix rfl hu (se_v (i := 0)) se_int)) (sw_and1 (st_chain opp_le opp_lt se_int (se_ix rfl hu (se_v (i := 4)) se_int) (se_ix rfl hu (se_v (i := 0)) se_int))))) (se_v (i := 4)) se_non))
    ss_nil))
def N__law_tiles : List Str := ["_law_fabric", "_law_found", "_law_y", "_law_x"]
def P__law_tiles : List Str := ["_law_fabric"]
theorem nd__law_tiles : N__law_tiles.Nodup := by decide +kernel
theorem sc__law_tiles : FnScope N__law_tiles P__law_tiles (defScope s__law_tiles) := ⟨rfl, rfl, rfl, nd__law_tiles, rfl, by decide +kernel, by decide +kernel⟩
theorem b__law_tiles {n : Nat} (g : Fact pg w K mg base) (L : Lib w K mg base n) (hr : RoomG (n + 3) (A.deeper (PyProof.Rows.envOfC "_law_tiles" (defScope s__law_tiles) s.heap.objs.size f cdv))) :
  SS (Gk K) (fun C d _ H' => E C d H') (cxOf (L2.CX pg w) pg w K mg base N__law_tiles "_law_tiles" (defScope s__law_tiles) f cdv A outer s H E) (e__law_tiles (runP prog n)) (defBody s__law_tiles) := by
  have hu := hr.room.units
  have tk : Takes (cxOf (L2.CX pg w) pg w K mg base N__law_tiles "_law_tiles" (defScope s__law_tiles) f cdv A outer s H E) (fun C d _ H' => E C d H') := takes_of rfl rfl rfl rfl
  have pp : PassesOwn (model pg w) (cxOf (L2.CX pg w) pg w K mg base N__law_tiles "_law_tiles" (defScope s__law_tiles) f cdv A outer s H E).A (cxOf (L2.CX pg w) pg w K mg base N__law_tiles "_law_tiles" (defScope s__law_tiles) f cdv A outer s H E).env (cxOf (L2.CX pg w) pg w K mg base N__law_tiles "_law_tiles" (defScope s__law_tiles) f cdv A outer s H E).xe := passes_of rfl
  exact (ss_cons (s_set nd__law_tiles (se_lst sa_nil))
    (ss_cons (s_for pp rfl (si_rng1 g.f_range (se_ix rfl hu (se_v (i := 0)) se_int)) (sg_n nd__law_tiles) (ss_cons (s_set nd__law_tiles (se_bin (opp_add rfl) (se_v (i := 1)) (se_lc rfl nd__law_tiles (si_rng1 g.f_range (se_ix rfl hu (se_v (i := 0)) se_int)) (blkOk_by (own := [("_law_x", 3)]) (by kernel_rfl)) (is := [3]) (fun _ _ _ _ _ => (sh_n nd__law_tiles)) (fun _ _ _ _ _ => sts_nil) (fun _ _ _ _ _ => (se_tup (sa_cons (se_v (i := 3)) (sa_cons (se_v (i := 2)) sa_nil)))))))
    ss_nil))
    (ss_cons (s_ret (se_v (i := 1)))
    ss_nil)))
def N__law_pads : List Str := ["_law_fabric", "_law_found", "_law_x", "_law_y", "_law_p"]
def P__law_pads : List Str := ["_law_fabric"]
theorem nd__law_pads : N__law_pads.Nodup := by decide +kernel
theorem sc__law_pads : FnScope N__law_pads P__law_pads (defScope s__law_pads) := ⟨rfl, rfl, rfl, nd__law_pads, rfl, by decide +kernel, by decide +kernel⟩
theorem b__law_pads {n : Nat} (g : Fact pg w K mg base) (L : Lib w K mg base n) (hr : RoomG (n + 3) (A.deeper (PyProof.Rows.envOfC "_law_pads" (defScope s__law_pads) s.heap.objs.size f cdv))) :
  SS (Gk K) (fun C d _ H' => E C d H') (cxOf (L2.CX pg w) pg w K mg base N__law_pads "_law_pads" (defScope s__law_pads) f cdv A outer s H E) (e__law_pads (runP prog n)) (defBody s__law_pads) := by
  have hu := hr.room.units
  have tk : Takes (cxOf (L2.CX pg w) pg w K mg base N__law_pads "_law_pads" (defScope s__law_pads) f cdv A outer s H E) (fun C d _ H' => E C d H') := takes_of rfl rfl rfl rfl
  have pp : PassesOwn (model pg w) (cxOf (L2.CX pg w) pg w K mg base N__law_pads "_law_pads" (defScope s__law_pads) f cdv A outer s H E).A (cxOf (L2.CX pg w) pg w K mg base N__law_pads "_law_pads" (defScope s__law_pads) f cdv A outer s H E).env (cxOf (L2.CX pg w) pg w K mg base N__law_pads "_law_pads" (defScope s__law_pads) f cdv A outer s H E).xe := passes_of rfl
  exact (ss_cons (s_set nd__law_pads (se_lst sa_nil))
    (ss_cons (s_for pp rfl (si_seq rfl (se_at L.a20 hr tk (sa_cons (se_v (i := 0)) sa_nil))) (sg_t rfl rfl (sgs_cons (sg_n nd__law_pads) (sgs_cons (sg_n nd__law_pads) sgs_nil))) (ss_cons (s_if (st_w (sw_or (st_cmp (opp_in rfl hu) (se_v (i := 2)) (se_tup (sa_cons se_int (sa_cons (se_bin opp_sub (se_ix rfl hu (se_v (i := 0)) se_int) se_int) sa_nil)))) (sw_or1 (st_cmp (opp_in rfl hu) (se_v (i := 3)) (se_tup (sa_cons se_int (sa_cons (se_bin opp_sub (se_ix rfl hu (se_v (i := 0)) se_int) se_int) sa_nil))))))) (ss_cons (s_set nd__law_pads (se_bin (opp_add rfl) (se_v (i := 1)) (se_lc rfl nd__law_pads (si_rng1 g.f_range (se_ix rfl hu (se_v (i := 0)) se_int)) (blkOk_by (own := [("_law_p", 4)]) (by kernel_rfl)) (is := [4]) (fun _ _ _ _ _ => (sh_n nd__law_pads)) (fun _ _ _ _ _ => sts_nil) (fun _ _ _ _ _ => (se_tup (sa_cons (se_v (i := 2)) (sa_cons (se_v (i := 3)) (sa_cons (se_v (i := 4)) sa_nil))))))))
    ss_nil) ss_nil)
    ss_nil))
    (ss_cons (s_ret (se_v (i := 1)))
    ss_nil)))
def N__law_wires : List Str := ["_law_fabric", "_law_found", "_law_x", "_law_y", "_law_side", "_law_track"]
def P__law_wires : List Str := ["_law_fabric"]
theorem nd__law_wires : N__law_wires.Nodup := by decide +kernel
theorem sc__law_wires : FnScope N__law_wires P__law_wires (defScope s__law_wires) := ⟨rfl, rfl, rfl, nd__law_wires, rfl, by decide +kernel, by decide +kernel⟩
theorem b__law_wires {n : Nat} (g : Fact pg w K mg base) (L : Lib w K mg base n) (hr : RoomG (n + 3) (A.deeper (PyProof.Rows.envOfC "_law_wires" (defScope s__law_wires) s.heap.objs.size f cdv))) :
  SS (Gk K) (fun C d _ H' => E C d H') (cxOf (L2.CX pg w) pg w K mg base N__law_wires "_law_wires" (defScope s__law_wires) f cdv A outer s H E) (e__law_wires (runP prog n)) (defBody s__law_wires) := by
  have hu := hr.room.units
  have tk : Takes (cxOf (L2.CX pg w) pg w K mg base N__law_wires "_law_wires" (defScope s__law_wires) f cdv A outer s H E) (fun C d _ H' => E C d H') := takes_of rfl rfl rfl rfl
  have pp : PassesOwn (model pg w) (cxOf (L2.CX pg w) pg w K mg base N__law_wires "_law_wires" (defScope s__law_wires) f cdv A outer s H E).A (cxOf (L2.CX pg w) pg w K mg base N__law_wires "_law_wires" (defScope s__law_wires) f cdv A outer s H E).env (cxOf (L2.CX pg w) pg w K mg base N__law_wires "_law_wires" (defScope s__law_wires) f cdv A outer s H E).xe := passes_of rfl
  exact (ss_cons (s_set nd__law_wires (se_lst sa_nil))
    (ss_cons (s_for pp rfl (si_rng1 g.f_range (se_ix rfl hu (se_v (i := 0)) se_int)) (sg_n nd__law_wires) (ss_cons (s_for pp rfl (si_rng1 g.f_range (se_ix rfl hu (se_v (i := 0)) se_int)) (sg_n nd__law_wires) (ss_cons (s_for pp rfl (si_rng1 g.f_range se_int) (sg_n nd__law_wires) (ss_cons (s_if (st_notN (se_at L.a19 hr tk (sa_cons (se_v (i := 0)) (sa_cons (se_v (i := 2)) (sa_cons (se_v (i := 3)) (sa_cons (se_v (i := 4)) sa_nil)))))) (ss_cons (s_set nd__law_wires (se_bin (opp_add rfl) (se_v (i := 1)) (se_lc rfl nd__law_wires (si_rng1 g.f_range (se_ix rfl hu (se_v (i := 0)) se_int)) (blkOk_by (own := [("_law_track", 5)]) (by kernel_rfl)) (is := [5]) (fun _ _ _ _ _ => (sh_n nd__law_wires)) (fun _ _ _ _ _ => sts_nil) (fun _ _ _ _ _ => (se_tup (sa_cons (se_v (i := 2)) (sa_cons (se_v (i := 3)) (sa_cons (se_v (i := 4)) (sa_cons (se_v (i := 5)) sa_nil)))))))))
    ss_nil) ss_nil)
    ss_nil))
    ss_nil))
    ss_nil))
    (ss_cons (s_ret (se_v (i := 1)))
    ss_nil)))
def N__law_coming : List Str := ["_law_fabric", "_law_x", "_law_y", "_law_side", "_law_track", "_law_at"]
def P__law_coming : List Str := ["_law_fabric", "_law_x", "_law_y", "_law_side", "_law_track"]
theorem nd__law_coming : N__law_coming.Nodup := by decide +kernel
theorem sc__law_coming : FnScope N__law_coming P__law_coming (defScope s__law_coming) := ⟨rfl, rfl, rfl, nd__law_coming, rfl, by decide +kernel, by decide +kernel⟩
theorem b__law_coming {n : Nat} (g : Fact pg w K mg base) (L : Lib w K mg base n) (hr : RoomG (n + 3) (A.deeper (PyProof.Rows.envOfC "_law_coming" (defScope s__law_coming) s.heap.objs.size f cdv))) :
  SS (Gk K) (fun C d _ H' => E C d H') (cxOf (L2.CX pg w) pg w K mg base N__law_coming "_law_coming" (defScope s__law_coming) f cdv A outer s H E) (e__law_coming (runP prog n)) (defBody s__law_coming) := by
  have hu := hr.room.units
  have tk : Takes (cxOf (L2.CX pg w) pg w K mg base N__law_coming "_law_coming" (defScope s__law_coming) f cdv A outer s H E) (fun C d _ H' => E C d H') := takes_of rfl rfl rfl rfl
  have pp : PassesOwn (model pg w) (cxOf (L2.CX pg w) pg w K mg base N__law_coming "_law_coming" (defScope s__law_coming) f cdv A outer s H E).A (cxOf (L2.CX pg w) pg w K mg base N__law_coming "_law_coming" (defScope s__law_coming) f cdv A outer s H E).env (cxOf (L2.CX pg w) pg w K mg base N__law_coming "_law_coming" (defScope s__law_coming) f cdv A outer s H E).xe := passes_of rfl
  exact (ss_cons (s_set nd__law_coming (se_at L.a19 hr tk (sa_cons (se_v (i := 0)) (sa_cons (se_v (i := 1)) (sa_cons (se_v (i := 2)) (sa_cons (se_v (i := 3)) sa_nil))))))
    (ss_cons (s_ret (se_if (st_isN (se_v (i := 5))) se_non (se_tup (sa_cons (se_ix rfl hu (se_v (i := 5)) se_int) (sa_cons (se_ix rfl hu (se_v (i := 5)) se_int) (sa_cons (se_ix rfl hu (se_lst (sa_cons se_int (sa_cons se_int (sa_cons se_int (sa_cons se_int sa_nil))))) (se_v (i := 3))) (sa_cons (se_v (i := 4)) sa_nil)))))))
    ss_nil))
def N__law_told : List Str := ["_law_value", "_law_found", "e"]
def P__law_told : List Str := ["_law_value"]
theorem nd__law_told : N__law_told.Nodup := by decide +kernel
theorem sc__law_told : FnScope N__law_told P__law_told (defScope s__law_told) := ⟨rfl, rfl, rfl, nd__law_told, rfl, by decide +kernel, by decide +kernel⟩
theorem b__law_told {n : Nat} (g : Fact pg w K mg base) (L : Lib w K mg base n) (hr : RoomG (n + 3) (A.deeper (PyProof.Rows.envOfC "_law_told" (defScope s__law_told) s.heap.objs.size f cdv))) :
  SS (Gk K) (fun C d _ H' => E C d H') (cxOf (L2.CX pg w) pg w K mg base N__law_told "_law_told" (defScope s__law_told) f cdv A outer s H E) (e__law_told (runP prog n)) (defBody s__law_told) := by
  have hu := hr.room.units
  have tk : Takes (cxOf (L2.CX pg w) pg w K mg base N__law_told "_law_told" (defScope s__law_told) f cdv A outer s H E) (fun C d _ H' => E C d H') := takes_of rfl rfl rfl rfl
  have pp : PassesOwn (model pg w) (cxOf (L2.CX pg w) pg w K mg base N__law_told "_law_told" (defScope s__law_told) f cdv A outer s H E).A (cxOf (L2.CX pg w) pg w K mg base N__law_told "_law_told" (defScope s__law_told) f cdv A outer s H E).env (cxOf (L2.CX pg w) pg w K mg base N__law_told "_law_told" (defScope s__law_told) f cdv A outer s H E).xe := passes_of rfl
  exact (ss_cons (s_set nd__law_told (se_lst sa_nil))
    (ss_cons (s_try (fun _ _ _ z => z) rfl rfl nd__law_told ⟨rfl, by decide, .inl (g.e_BadFabric).2.1⟩ tk (g.m_BadFabric) (fun _ h => by cases h) (fun _ _ _ tk2 pp2 => (ss_cons (s_set nd__law_told (se_if (st_isN (se_at L.a1 hr tk2 (sa_cons (se_v (i := 0)) sa_nil))) (se_lst sa_nil) (se_lst (sa_cons se_str sa_nil))))
    ss_nil)) (fun _ _ _ _ _ hz hd => (ss_cons (s_set nd__law_told (se_lst (sa_cons (se_exF (g.x_BadFabric).1 (g.x_BadFabric).2 hz hd (se_v (i := 2))) sa_nil)))
    ss_nil)))
    (ss_cons (s_ret (se_v (i := 1)))
    ss_nil)))
def N__law_due : List Str := ["_law_value", "_law_bounds", "_law_n"]
def P__law_due : List Str := ["_law_value"]
theorem nd__law_due : N__law_due.Nodup := by decide +kernel
theorem sc__law_due : FnScope N__law_due P__law_due (defScope s__law_due) := ⟨rfl, rfl, rfl, nd__law_due, rfl, by decide +kernel, by decide +kernel⟩
theorem b__law_due {n : Nat} (g : Fact pg w K mg base) (L : Lib w K mg base n) (hr : RoomG (n + 3) (A.deeper (PyProof.Rows.envOfC "_law_due" (defScope s__law_due) s.heap.objs.size f cdv))) :
  SS (Gk K) (fun C d _ H' => E C d H') (cxOf (L2.CX pg w) pg w K mg base N__law_due "_law_due" (defScope s__law_due) f cdv A outer s H E) (e__law_due (runP prog n)) (defBody s__law_due) := by
  have hu := hr.room.units
  have tk : Takes (cxOf (L2.CX pg w) pg w K mg base N__law_due "_law_due" (defScope s__law_due) f cdv A outer s H E) (fun C d _ H' => E C d H') := takes_of rfl rfl rfl rfl
  have pp : PassesOwn (model pg w) (cxOf (L2.CX pg w) pg w K mg base N__law_due "_law_due" (defScope s__law_due) f cdv A outer s H E).A (cxOf (L2.CX pg w) pg w K mg base N__law_due "_law_due" (defScope s__law_due) f cdv A outer s H E).env (cxOf (L2.CX pg w) pg w K mg base N__law_due "_law_due" (defScope s__law_due) f cdv A outer s H E).xe := passes_of rfl
  exact (ss_cons (s_if (st_w (sw_or (st_not (st_val rfl (se_isi1 (t := .tuple) rfl g.f_isinstance g.f_tuple bt_tuple (by decide) (se_v (i := 0))))) (sw_or1 (st_cmp (opp_ne rfl hu) (se_cb1 (cp_len rfl) g.f_len bt_len (se_v (i := 0))) se_int)))) (ss_cons (s_ret (se_lst (sa_cons (se_tup sa_nil) sa_nil)))
    ss_nil) ss_nil)
    (ss_cons (s_set nd__law_due (se_lst (sa_cons (se_tup (sa_cons se_int (sa_cons se_int sa_nil))) (sa_cons (se_tup (sa_cons se_int (sa_cons se_int sa_nil))) (sa_cons (se_tup (sa_cons se_int (sa_cons se_int sa_nil))) (sa_cons (se_tup (sa_cons se_int (sa_cons se_int sa_nil))) (sa_cons (se_tup (sa_cons se_int (sa_cons se_int sa_nil))) sa_nil)))))))
    (ss_cons (s_for pp rfl (si_rng1 g.f_range se_int) (sg_n nd__law_due) (ss_cons (s_if (st_w (sw_or (st_not (st_val rfl (se_at L.a18 hr tk (sa_cons (se_ix rfl hu (se_v (i := 0)) (se_v (i := 2))) sa_nil)))) (sw_or (st_cmp opp_lt (se_ix rfl hu (se_v (i := 0)) (se_v (i := 2))) (se_ix rfl hu (se_ix rfl hu (se_v (i := 1)) (se_v (i := 2))) se_int)) (sw_or1 (st_cmp opp_gt (se_ix rfl hu (se_v (i := 0)) (se_v (i := 2))) (se_ix rfl hu (se_ix rfl hu (se_v (i := 1)) (se_v (i := 2))) se_int)))))) (ss_cons (s_ret (se_lst (sa_cons (se_tup (sa_cons (se_v (i := 2)) sa_nil)) sa_nil)))
    ss_nil) ss_nil)
    ss_nil))
    (ss_cons (s_ret (se_lst sa_nil))
    ss_nil))))
def N__law_tiles_right : List Str := ["_law_source_here", "_law_fabric", "_law_border", "_law_pad", "_law_x", "_law_y", "_law_side", "_law_track", "_law_told_here", "_law_due_here", "_law_lap", "_law_some", "_law_s", "_law_t", "_law_value", "_law_one"]
def P__law_tiles_right : List Str := ["_law_source_here", "_law_fabric"]
theorem nd__law_tiles_right : N__law_tiles_right.Nodup := by decide +kernel
theorem sc__law_tiles_right : FnScope N__law_tiles_right P__law_tiles_right (defScope s__law_tiles_right) := ⟨rfl, rfl, rfl, nd__law_tiles_right, rfl, by decide +kernel, by decide +kernel⟩
theorem b__law_tiles_right {n : Nat} (g : Fact pg w K mg base) (L : Lib w K mg base n) (hr : RoomG (n + 3) (A.deeper (PyProof.Rows.envOfC "_law_tiles_right" (defScope s__law_tiles_right) s.heap.objs.size f cdv))) :
  SS (Gk K) (fun C d _ H' => E C d H') (cxOf (L2.CX pg w) pg w K mg base N__law_tiles_right "_law_tiles_right" (defScope s__law_tiles_right) f cdv A outer s H E) (e__law_tiles_right (runP prog n)) (defBody s__law_tiles_right) := by
  have hu := hr.room.units
  have tk : Takes (cxOf (L2.CX pg w) pg w K mg base N__law_tiles_right "_law_tiles_right" (defScope s__law_tiles_right) f cdv A outer s H E) (fun C d _ H' => E C d H') := takes_of rfl rfl rfl rfl
  have pp : PassesOwn (model pg w) (cxOf (L2.CX pg w) pg w K mg base N__law_tiles_right "_law_tiles_right" (defScope s__law_tiles_right) f cdv A outer s H E).A (cxOf (L2.CX pg w) pg w K mg base N__law_tiles_right "_law_tiles_right" (defScope s__law_tiles_right) f cdv A outer s H E).env (cxOf (L2.CX pg w) pg w K mg base N__law_tiles_right "_law_tiles_right" (defScope s__law_tiles_right) f cdv A outer s H E).xe := passes_of rfl
  exact (ss_cons (s_setLc rfl nd__law_tiles_right (si_seq rfl (se_at L.a21 hr tk (sa_cons (se_v (i := 1)) sa_nil))) (blkOk_by (own := [("_law_pad", 3)]) (by kernel_rfl)) (is := [3]) (fun _ _ _ _ _ => (sh_n nd__law_tiles_right)) (fun _ _ _ _ _ => sts_nil) (fun _ _ _ _ _ => (se_sl rfl (se_v (i := 3)) so_n (so_s se_int))) rfl)
    (ss_cons (s_for pp rfl (si_seq rfl (se_at L.a20 hr tk (sa_cons (se_v (i := 1)) sa_nil))) (sg_t rfl rfl (sgs_cons (sg_n nd__law_tiles_right) (sgs_cons (sg_n nd__law_tiles_right) sgs_nil))) (ss_cons (s_if (st_cmp (opp_ne rfl hu) (se_cb1 (cp_repr rfl hu hr.gd (sys_none g.sys)) g.f_repr bt_repr (se_at L.a5 hr tk (sa_cons (se_v (i := 1)) (sa_cons (se_v (i := 4)) (sa_cons (se_v (i := 5)) sa_nil))))) (se_cb1 (cp_repr rfl hu hr.gd (sys_none g.sys)) g.f_repr bt_repr (se_cmp (opp_in rfl hu) (se_tup (sa_cons (se_v (i := 4)) (sa_cons (se_v (i := 5)) sa_nil))) (se_v (i := 2))))) (ss_cons (s_ret se_bl)
    ss_nil) ss_nil)
    (ss_cons (s_for pp rfl (si_rng1 g.f_range se_int) (sg_n nd__law_tiles_right) (ss_cons (s_set nd__law_tiles_right (se_at L.a14 hr tk (sa_cons (se_v (i := 0)) (sa_cons (se_ix rfl hu (se_v (i := 1)) se_int) sa_nil))))
    (ss_cons (s_set nd__law_tiles_right (se_lst (sa_cons (se_at L.a4 hr tk (sa_cons (se_v (i := 1)) (sa_cons (se_v (i := 4)) (sa_cons (se_v (i := 5)) (sa_cons (se_v (i := 6)) sa_nil))))) (sa_cons (se_at L.a8 hr tk (sa_cons (se_v (i := 1)) (sa_cons (se_v (i := 4)) (sa_cons (se_v (i := 5)) (sa_cons (se_v (i := 6)) (sa_cons (se_v (i := 7)) sa_nil)))))) sa_nil))))
    (ss_cons (s_if (st_cmp (opp_ne rfl hu) (se_cb1 (cp_repr rfl hu hr.gd (sys_none g.sys)) g.f_repr bt_repr (se_v (i := 8))) (se_cb1 (cp_repr rfl hu hr.gd (sys_none g.sys)) g.f_repr bt_repr (se_lst (sa_cons (se_at L.a19 hr tk (sa_cons (se_v (i := 1)) (sa_cons (se_v (i := 4)) (sa_cons (se_v (i := 5)) (sa_cons (se_v (i := 6)) sa_nil))))) (sa_cons (se_at L.a23 hr tk (sa_cons (se_v (i := 1)) (sa_cons (se_v (i := 4)) (sa_cons (se_v (i := 5)) (sa_cons (se_v (i := 6)) (sa_cons (se_v (i := 7)) sa_nil)))))) sa_nil))))) (ss_cons (s_ret se_bl)
    ss_nil) ss_nil)
    ss_nil))))
    ss_nil)))
    (ss_cons (s_set nd__law_tiles_right (se_at L.a22 hr tk (sa_cons (se_v (i := 1)) sa_nil)))
    (ss_cons (s_for pp rfl (si_rng1 g.f_range se_int) (sg_n nd__law_tiles_right) (ss_cons (s_set nd__law_tiles_right (se_lstA (sa_cons (se_at L.a30 hr tk (sa_cons (se_v (i := 1)) sa_nil)) (sa_cons (se_at L.a31 hr tk (sa_cons (se_v (i := 1)) sa_nil)) (sa_cons (se_at L.a32 hr tk (sa_cons (se_v (i := 1)) sa_nil)) sa_nil)))))
    (ss_cons (s_if (st_cmp (opp_ne rfl hu) (se_cb1 (cp_repr rfl hu hr.gd (sys_none g.sys)) g.f_repr bt_repr (se_v (i := 8))) (se_cb1 (cp_repr rfl hu hr.gd (sys_none g.sys)) g.f_repr bt_repr (se_lst (sa_cons (se_v (i := 9)) (sa_cons (se_at L.a20 hr tk (sa_cons (se_v (i := 1)) sa_nil)) (sa_cons (se_at L.a21 hr tk (sa_cons (se_v (i := 1)) sa_nil)) sa_nil)))))) (ss_cons (s_ret se_bl)
    ss_nil) ss_nil)
    (ss_cons (s_for pp rfl (si_seq rfl (se_v (i := 8))) (sg_n nd__law_tiles_right) (ss_cons (s_exp (se_m1 PySem.F.slot_list_append PySem.F.type_list_append mp_app (se_v (i := 11)) se_non))
    ss_nil))
    ss_nil))))
    (ss_cons (s_setLcA rfl nd__law_tiles_right (si_seq rfl (se_sl rfl (se_v (i := 9)) so_n (so_s se_int))) (blkOk_by (own := [("_law_x", 4), ("_law_y", 5), ("_law_s", 12), ("_law_t", 13)]) (by kernel_rfl)) (is := [4, 5, 12, 13]) (fun _ _ _ _ _ => (sh_t rfl rfl (shs_cons (sh_n nd__law_tiles_right) (shs_cons (sh_n nd__law_tiles_right) (shs_cons (sh_n nd__law_tiles_right) (shs_cons (sh_n nd__law_tiles_right) shs_nil)))))) (fun _ _ _ _ _ => sts_nil) (fun _ _ _ _ _ => (se_tup (sa_cons (se_bin opp_sub (se_v (i := 4)) se_int) (sa_cons (se_bin opp_sub (se_v (i := 5)) se_int) (sa_cons (se_bin opp_sub (se_v (i := 12)) se_int) (sa_cons (se_at L.a15 hr takes_shut (sa_cons (se_v (i := 0)) (sa_cons (se_lst (sa_cons (se_neg se_int) (sa_cons se_int (sa_cons (se_bin opp_sub (se_ix rfl hu (se_v (i := 1)) se_int) se_int) (sa_cons (se_ix rfl hu (se_v (i := 1)) se_int) sa_nil))))) sa_nil))) sa_nil)))))) rfl)
    (ss_cons (s_for pp rfl (si_rng1 g.f_range se_int) (sg_n nd__law_tiles_right) (ss_cons (s_asg (se_at L.a15 hr tk (sa_cons (se_v (i := 0)) (sa_cons (se_at L.a20 hr tk (sa_cons (se_v (i := 1)) sa_nil)) sa_nil))) (sg_t rfl rfl (sgs_cons (sg_n nd__law_tiles_right) (sgs_cons (sg_n nd__law_tiles_right) sgs_nil))))
    (ss_cons (s_exp (se_m1 PySem.F.slot_list_append PySem.F.type_list_append mp_app (se_v (i := 11)) (se_tup (sa_cons (se_v (i := 4)) (sa_cons (se_v (i := 5)) (sa_cons (se_bin opp_sub (se_at L.a14 hr tk (sa_cons (se_v (i := 0)) (sa_cons se_int sa_nil))) se_int) (sa_cons (se_at L.a15 hr tk (sa_cons (se_v (i := 0)) (sa_cons (se_lst (sa_cons (se_neg se_int) (sa_cons se_int (sa_cons se_int (sa_cons (se_bin opp_sub (se_ix rfl hu (se_v (i := 1)) se_int) se_int) (sa_cons (se_ix rfl hu (se_v (i := 1)) se_int) sa_nil)))))) sa_nil))) sa_nil)))))))
    ss_nil)))
    (ss_cons (s_for pp rfl (si_seq rfl (se_bin (opp_add rfl) (se_bin (opp_add rfl) (se_bin (opp_add rfl) (se_sl rfl (se_v (i := 9)) so_n (so_s se_int)) (se_sl rfl (se_v (i := 9)) (so_s (se_neg se_int)) so_n)) (se_v (i := 11))) (se_lst (sa_cons (se_at L.a17 hr tk (sa_cons (se_v (i := 0)) sa_nil)) (sa_cons (se_if (st_cmp (opp_ne rfl hu) (se_v (i := 9)) (se_lst sa_nil)) (se_ct1 (cp_list rfl) g.f_list bt_list (se_ix rfl hu (se_v (i := 9)) se_int)) (se_lst sa_nil)) (sa_cons (se_tup (sa_cons se_int (sa_cons se_int (sa_cons se_bl (sa_cons se_int sa_nil))))) (sa_cons (se_tup (sa_cons se_int (sa_cons se_int (sa_cons se_int sa_nil)))) (sa_cons (se_tup (sa_cons se_int (sa_cons se_int (sa_cons se_str (sa_cons se_int sa_nil))))) (sa_cons (se_bin (opp_add rfl) (se_ct1 (cp_tuple rfl) g.f_tuple bt_tuple (se_if (st_cmp (opp_ne rfl hu) (se_v (i := 9)) (se_lst sa_nil)) (se_ix rfl hu (se_v (i := 9)) se_int) (se_tup sa_nil))) (se_tup (sa_cons se_int sa_nil))) sa_nil))))))))) (sg_n nd__law_tiles_right) (ss_cons (s_if (st_cmp (opp_ne rfl hu) (se_cb1 (cp_repr rfl hu hr.gd (sys_none g.sys)) g.f_repr bt_repr (se_at L.a7 hr tk (sa_cons (se_v (i := 1)) (sa_cons (se_v (i := 14)) sa_nil)))) (se_cb1 (cp_repr rfl hu hr.gd (sys_none g.sys)) g.f_repr bt_repr (se_and rfl (se_isi1 (t := .tuple) rfl g.f_isinstance g.f_tuple bt_tuple (by decide) (se_v (i := 14))) (se_and rfl (se_cmp (opp_in rfl hu) (se_v (i := 14)) (se_v (i := 9))) (se_one (se_cmp (opp_eq rfl hu) (se_lc rfl nd__law_tiles_right (si_seq rfl (se_v (i := 14))) (blkOk_by (own := [("_law_one", 15)]) (by kernel_rfl)) (is := [15]) (fun _ _ _ _ _ => (sh_n nd__law_tiles_right)) (fun _ _ _ _ _ => (sts_one (st_not (st_val rfl (se_at L.a18 hr takes_shut (sa_cons (se_v (i := 15)) sa_nil)))))) (fun _ _ _ _ _ => (se_v (i := 15)))) (se_lst sa_nil))))))) (ss_cons (s_ret se_bl)
    ss_nil) ss_nil)
    ss_nil))
    (ss_cons (s_ret se_bl)
    ss_nil))))))))
def N__law_counts_told : List Str := ["_law_k", "_law_cells", "_law_signals", "_law_ins", "_law_outs", "e"]
def P__law_counts_told : List Str := ["_law_k", "_law_cells", "_law_signals", "_law_ins", "_law_outs"]
theorem nd__law_counts_told : N__law_counts_told.Nodup := by decide +kernel
theorem sc__law_counts_told : FnScope N__law_counts_told P__law_counts_told (defScope s__law_counts_told) := ⟨rfl, rfl, rfl, nd__law_counts_told, rfl, by decide +kernel, by decide +kernel⟩
theorem b__law_counts_told {n : Nat} (g : Fact pg w K mg base) (L : Lib w K mg base n) (hr : RoomG (n + 3) (A.deeper (PyProof.Rows.envOfC "_law_counts_told" (defScope s__law_counts_told) s.heap.objs.size f cdv))) :
  SS (Gk K) (fun C d _ H' => E C d H') (cxOf (L2.CX pg w) pg w K mg base N__law_counts_told "_law_counts_told" (defScope s__law_counts_told) f cdv A outer s H E) (e__law_counts_told (runP prog n)) (defBody s__law_counts_told) := by
  have hu := hr.room.units
  have tk : Takes (cxOf (L2.CX pg w) pg w K mg base N__law_counts_told "_law_counts_told" (defScope s__law_counts_told) f cdv A outer s H E) (fun C d _ H' => E C d H') := takes_of rfl rfl rfl rfl
  have pp : PassesOwn (model pg w) (cxOf (L2.CX pg w) pg w K mg base N__law_counts_told "_law_counts_told" (defScope s__law_counts_told) f cdv A outer s H E).A (cxOf (L2.CX pg w) pg w K mg base N__law_counts_told "_law_counts_told" (defScope s__law_counts_told) f cdv A outer s H E).env (cxOf (L2.CX pg w) pg w K mg base N__law_counts_told "_law_counts_told" (defScope s__law_counts_told) f cdv A outer s H E).xe := passes_of rfl
  exact (ss_cons (s_try (fun _ _ _ z => z) rfl rfl nd__law_counts_told ⟨rfl, by decide, .inl (g.e_NoRoom).2.1⟩ tk (g.m_NoRoom) (fun _ h => by cases h) (fun _ _ _ tk2 pp2 => (ss_cons (s_ret (se_at L.a12 hr tk2 (sa_cons (se_v (i := 0)) (sa_cons (se_v (i := 1)) (sa_cons (se_v (i := 2)) (sa_cons (se_v (i := 3)) (sa_cons (se_v (i := 4)) sa_nil)))))))
    ss_nil)) (fun _ _ _ _ _ hz hd => (ss_cons (s_ret (se_exF (g.x_NoRoom).1 (g.x_NoRoom).2 hz hd (se_v (i := 5))))
    ss_nil)))
    ss_nil)
def N__law_counts_due : List Str := ["_law_k", "_law_cells", "_law_signals", "_law_ins", "_law_outs", "_law_s", "_law_pads_here", "_law_many", "_law_p", "_law_wrong", "_law_word", "_law_is_too"]
def P__law_counts_due : List Str := ["_law_k", "_law_cells", "_law_signals", "_law_ins", "_law_outs"]
theorem nd__law_counts_due : N__law_counts_due.Nodup := by decide +kernel
theorem sc__law_counts_due : FnScope N__law_counts_due P__law_counts_due (defScope s__law_counts_due) := ⟨rfl, rfl, rfl, nd__law_counts_due, rfl, by decide +kernel, by decide +kernel⟩
theorem b__law_counts_due {n : Nat} (g : Fact pg w K mg base) (L : Lib w K mg base n) (hr : RoomG (n + 3) (A.deeper (PyProof.Rows.envOfC "_law_counts_due" (defScope s__law_counts_due) s.heap.objs.size f cdv))) :
  SS (Gk K) (fun C d _ H' => E C d H') (cxOf (L2.CX pg w) pg w K mg base N__law_counts_due "_law_counts_due" (defScope s__law_counts_due) f cdv A outer s H E) (e__law_counts_due (runP prog n)) (defBody s__law_counts_due) := by
  have hu := hr.room.units
  have tk : Takes (cxOf (L2.CX pg w) pg w K mg base N__law_counts_due "_law_counts_due" (defScope s__law_counts_due) f cdv A outer s H E) (fun C d _ H' => E C d H') := takes_of rfl rfl rfl rfl
  have pp : PassesOwn (model pg w) (cxOf (L2.CX pg w) pg w K mg base N__law_counts_due "_law_counts_due" (defScope s__law_counts_due) f cdv A outer s H E).A (cxOf (L2.CX pg w) pg w K mg base N__law_counts_due "_law_counts_due" (defScope s__law_counts_due) f cdv A outer s H E).env (cxOf (L2.CX pg w) pg w K mg base N__law_counts_due "_law_counts_due" (defScope s__law_counts_due) f cdv A outer s H E).xe := passes_of rfl
  exact (ss_cons (s_par rfl nd__law_counts_due se_int (se_lstA sa_nil) (by rfl))
    (ss_cons (s_while pp (st_cmp opp_lt (se_bin opp_mul (se_v (i := 5)) (se_v (i := 5))) (se_v (i := 1))) (ss_cons (s_set nd__law_counts_due (se_bin (opp_add rfl) (se_v (i := 5)) se_int))
    ss_nil))
    (ss_cons (s_for pp rfl (si_seq rfl (se_tup (sa_cons (se_v (i := 3)) (sa_cons (se_v (i := 4)) sa_nil)))) (sg_n nd__law_counts_due) (ss_cons (s_set nd__law_counts_due se_int)
    (ss_cons (s_while pp (st_cmp opp_lt (se_bin opp_mul (se_v (i := 8)) (se_cb1 (cp_len rfl) g.f_len bt_len (se_at L.a21 hr tk (sa_cons (se_tup (sa_cons (se_v (i := 5)) (sa_cons (se_v (i := 5)) (sa_cons se_int (sa_cons se_int (sa_cons se_int sa_nil)))))) sa_nil)))) (se_v (i := 7))) (ss_cons (s_set nd__law_counts_due (se_bin (opp_add rfl) (se_v (i := 8)) se_int))
    ss_nil))
    (ss_cons (s_exp (se_m1 PySem.F.slot_list_append PySem.F.type_list_append mp_app (se_v (i := 6)) (se_v (i := 8))))
    ss_nil))))
    (ss_cons (s_setLc rfl nd__law_counts_due (si_seq rfl (se_lst (sa_cons (se_tup (sa_cons se_str (sa_cons (se_cmp opp_gt (se_v (i := 5)) se_int) sa_nil))) (sa_cons (se_tup (sa_cons se_str (sa_cons (se_cmp opp_gt (se_ix rfl hu (se_v (i := 6)) se_int) se_int) sa_nil))) (sa_cons (se_tup (sa_cons se_str (sa_cons (se_cmp opp_gt (se_ix rfl hu (se_v (i := 6)) se_int) se_int) sa_nil))) (sa_cons (se_tup (sa_cons se_str (sa_cons (se_cmp opp_gt (se_v (i := 2)) se_int) sa_nil))) sa_nil)))))) (blkOk_by (own := [("_law_word", 10), ("_law_is_too", 11)]) (by kernel_rfl)) (is := [10, 11]) (fun _ _ _ _ _ => (sh_t rfl rfl (shs_cons (sh_n nd__law_counts_due) (shs_cons (sh_n nd__law_counts_due) shs_nil)))) (fun _ _ _ _ _ => (sts_one (st_val rfl (se_v (i := 11))))) (fun _ _ _ _ _ => (se_v (i := 10))) rfl)
    (ss_cons (s_ret (se_if (st_cmp (opp_ne rfl hu) (se_v (i := 9)) (se_lst sa_nil)) (se_ix rfl hu (se_v (i := 9)) se_int) (se_tup (sa_cons (se_v (i := 5)) (sa_cons (se_v (i := 5)) (sa_cons (se_cb2 (cp_max rfl) g.f_max bt_max se_int (se_v (i := 2))) (sa_cons (se_v (i := 0)) (sa_cons (se_cb1 (cp_maxL rfl) g.f_max bt_max (se_v (i := 6))) sa_nil))))))))
    ss_nil)))))
def N_law : List Str := ["_law_script", "_law_source_here", "_law_lap", "_law_fabric", "_law_n", "_law_odd_here", "_law_value", "_law_kept", "_law_counts", "_law_turn", "_law_little", "_law_some"]
def P_law : List Str := ["_law_script"]
theorem nd_law : N_law.Nodup := by decide +kernel
theorem sc_law : FnScope N_law P_law (defScope s_law) := ⟨rfl, rfl, rfl, nd_law, rfl, by decide +kernel, by decide +kernel⟩
theorem b_law {n : Nat} (g : Fact pg w K mg base) (L : Lib w K mg base n) (hr : RoomG (n + 3) (A.deeper (PyProof.Rows.envOfC "law" (defScope s_law) s.heap.objs.size f cdv))) :
  SS (Gk K) (fun C d _ H' => E C d H') (cxOf (L2.CX pg w) pg w K mg base N_law "law" (defScope s_law) f cdv A outer s H E) (e_law (runP prog n)) (defBody s_law) := by
  have hu := hr.room.units
  have tk : Takes (cxOf (L2.CX pg w) pg w K mg base N_law "law" (defScope s_law) f cdv A outer s H E) (fun C d _ H' => E C d H') := takes_of rfl rfl rfl rfl
  have pp : PassesOwn (model pg w) (cxOf (L2.CX pg w) pg w K mg base N_law "law" (defScope s_law) f cdv A outer s H E).A (cxOf (L2.CX pg w) pg w K mg base N_law "law" (defScope s_law) f cdv A outer s H E).env (cxOf (L2.CX pg w) pg w K mg base N_law "law" (defScope s_law) f cdv A outer s H E).xe := passes_of rfl
  exact (ss_cons (s_set nd_law (se_at L.a13 hr tk (sa_cons (se_v (i := 0)) sa_nil)))
    (ss_cons (s_for pp rfl (si_rng1 g.f_range se_int) (sg_n nd_law) (ss_cons (s_set nd_law (se_tup (sa_cons (se_bin (opp_add rfl) se_int (se_at L.a14 hr tk (sa_cons (se_v (i := 1)) (sa_cons se_int sa_nil)))) (sa_cons (se_bin (opp_add rfl) se_int (se_at L.a14 hr tk (sa_cons (se_v (i := 1)) (sa_cons se_int sa_nil)))) (sa_cons (se_bin (opp_add rfl) se_int (se_at L.a14 hr tk (sa_cons (se_v (i := 1)) (sa_cons se_int sa_nil)))) (sa_cons (se_bin (opp_add rfl) se_int (se_at L.a14 hr tk (sa_cons (se_v (i := 1)) (sa_cons se_int sa_nil)))) (sa_cons (se_bin (opp_add rfl) se_int (se_at L.a14 hr tk (sa_cons (se_v (i := 1)) (sa_cons se_int sa_nil)))) sa_nil)))))))
    (ss_cons (s_if (st_cmp (opp_ne rfl hu) (se_at L.a24 hr tk (sa_cons (se_v (i := 3)) sa_nil)) (se_lst sa_nil)) (ss_cons (s_ret se_bl)
    ss_nil) ss_nil)
    (ss_cons (s_for pp rfl (si_rng1 g.f_range se_int) (sg_n nd_law) (ss_cons (s_set nd_law (se_at L.a15 hr tk (sa_cons (se_v (i := 1)) (sa_cons (se_lst (sa_cons se_int (sa_cons se_int (sa_cons se_int (sa_cons (se_neg se_int) (sa_cons se_int (sa_cons se_int (sa_cons se_int (sa_cons se_int (sa_cons (se_bin opp_pow se_int se_int) (sa_cons (se_at L.a17 hr tk (sa_cons (se_v (i := 1)) sa_nil)) sa_nil))))))))))) sa_nil))))
    (ss_cons (s_set nd_law (se_bin (opp_add rfl) (se_bin (opp_add rfl) (se_sl rfl (se_v (i := 3)) so_n (so_s (se_v (i := 4)))) (se_tup (sa_cons (se_v (i := 5)) sa_nil))) (se_sl rfl (se_v (i := 3)) (so_s (se_bin (opp_add rfl) (se_v (i := 4)) se_int)) so_n)))
    (ss_cons (s_set nd_law (se_cb1 (cp_repr rfl hu hr.gd (sys_none g.sys)) g.f_repr bt_repr (se_v (i := 6))))
    (ss_cons (s_if (st_w (sw_or (st_cmp (opp_ne rfl hu) (se_cb1 (cp_repr rfl hu hr.gd (sys_none g.sys)) g.f_repr bt_repr (se_at L.a24 hr tk (sa_cons (se_v (i := 6)) sa_nil))) (se_cb1 (cp_repr rfl hu hr.gd (sys_none g.sys)) g.f_repr bt_repr (se_at L.a25 hr tk (sa_cons (se_v (i := 6)) sa_nil)))) (sw_or1 (st_cmp (opp_ne rfl hu) (se_cb1 (cp_repr rfl hu hr.gd (sys_none g.sys)) g.f_repr bt_repr (se_v (i := 6))) (se_v (i := 7)))))) (ss_cons (s_ret se_bl)
    ss_nil) ss_nil)
    ss_nil)))))
    (ss_cons (s_for pp rfl (si_seq rfl (se_lst (sa_cons (se_ct1 (cp_list rfl) g.f_list bt_list (se_v (i := 3))) (sa_cons (se_bin (opp_add rfl) (se_v (i := 3)) (se_tup (sa_cons se_int sa_nil))) (sa_cons (se_sl rfl (se_v (i := 3)) so_n (so_s se_int)) (sa_cons (se_at L.a17 hr tk (sa_cons (se_v (i := 1)) sa_nil)) (sa_cons (se_tup (sa_cons (se_v (i := 3)) sa_nil)) sa_nil))))))) (sg_n nd_law) (ss_cons (s_if (st_cmp (opp_ne rfl hu) (se_at L.a24 hr tk (sa_cons (se_v (i := 6)) sa_nil)) (se_at L.a25 hr tk (sa_cons (se_v (i := 6)) sa_nil))) (ss_cons (s_ret se_bl)
    ss_nil) ss_nil)
    ss_nil))
    (ss_cons (s_set nd_law (se_lst (sa_cons (se_at L.a15 hr tk (sa_cons (se_v (i := 1)) (sa_cons (se_lst (sa_cons se_int (sa_cons se_int (sa_cons se_int (sa_cons se_int (sa_cons se_int (sa_cons se_int (sa_cons se_int (sa_cons se_int (sa_cons se_int (sa_cons se_int (sa_cons (se_at L.a14 hr tk (sa_cons (se_v (i := 1)) (sa_cons se_int sa_nil))) sa_nil)))))))))))) sa_nil))) (sa_cons (se_at L.a15 hr tk (sa_cons (se_v (i := 1)) (sa_cons (se_lst (sa_cons se_int (sa_cons se_int (sa_cons se_int (sa_cons se_int (sa_cons (se_at L.a14 hr tk (sa_cons (se_v (i := 1)) (sa_cons se_int sa_nil))) sa_nil)))))) sa_nil))) sa_nil))))
    (ss_cons (s_set nd_law (se_bin (opp_add rfl) (se_v (i := 8)) (se_lc rfl nd_law (si_rng1 g.f_range se_int) (blkOk_by (own := [("_law_turn", 9)]) (by kernel_rfl)) (is := [9]) (fun _ _ _ _ _ => (sh_n nd_law)) (fun _ _ _ _ _ => sts_nil) (fun _ _ _ _ _ => (se_at L.a15 hr takes_shut (sa_cons (se_v (i := 1)) (sa_cons (se_lst (sa_cons se_int (sa_cons se_int (sa_cons se_int (sa_cons se_int (sa_cons se_int (sa_cons se_int (sa_cons (se_at L.a14 hr takes_shut (sa_cons (se_v (i := 1)) (sa_cons se_int sa_nil))) sa_nil)))))))) sa_nil)))))))
    (ss_cons (s_if (st_cmp (opp_ne rfl hu) (se_cb1 (cp_repr rfl hu hr.gd (sys_none g.sys)) g.f_repr bt_repr (se_at L.a27 hr tk (sa_cons (se_bin (opp_add rfl) se_int (se_bin opp_mod (se_v (i := 2)) se_int)) (sa_cons (se_ix rfl hu (se_v (i := 8)) se_int) (sa_cons (se_ix rfl hu (se_v (i := 8)) se_int) (sa_cons (se_ix rfl hu (se_v (i := 8)) se_int) (sa_cons (se_ix rfl hu (se_v (i := 8)) se_int) sa_nil))))))) (se_cb1 (cp_repr rfl hu hr.gd (sys_none g.sys)) g.f_repr bt_repr (se_at L.a28 hr tk (sa_cons (se_bin (opp_add rfl) se_int (se_bin opp_mod (se_v (i := 2)) se_int)) (sa_cons (se_ix rfl hu (se_v (i := 8)) se_int) (sa_cons (se_ix rfl hu (se_v (i := 8)) se_int) (sa_cons (se_ix rfl hu (se_v (i := 8)) se_int) (sa_cons (se_ix rfl hu (se_v (i := 8)) se_int) sa_nil)))))))) (ss_cons (s_ret se_bl)
    ss_nil) ss_nil)
    (ss_cons (s_set nd_law (se_tup (sa_cons (se_bin (opp_add rfl) se_int (se_at L.a14 hr tk (sa_cons (se_v (i := 1)) (sa_cons se_int sa_nil)))) (sa_cons (se_bin (opp_add rfl) se_int (se_at L.a14 hr tk (sa_cons (se_v (i := 1)) (sa_cons se_int sa_nil)))) (sa_cons (se_bin (opp_add rfl) se_int (se_at L.a14 hr tk (sa_cons (se_v (i := 1)) (sa_cons se_int sa_nil)))) (sa_cons se_int (sa_cons (se_bin (opp_add rfl) se_int (se_at L.a14 hr tk (sa_cons (se_v (i := 1)) (sa_cons se_int sa_nil)))) sa_nil)))))))
    (ss_cons (s_if (st_not (st_val rfl (se_at L.a26 hr tk (sa_cons (se_v (i := 1)) (sa_cons (se_v (i := 10)) sa_nil))))) (ss_cons (s_ret se_bl)
    ss_nil) ss_nil)
    ss_nil))))))))))
    (ss_cons (s_set nd_law (se_lst (sa_cons (se_tup (sa_cons se_int (sa_cons se_int (sa_cons se_int (sa_cons se_int (sa_cons se_int sa_nil)))))) (sa_cons (se_tup (sa_cons se_int (sa_cons se_int (sa_cons se_int (sa_cons se_int (sa_cons se_int sa_nil)))))) (sa_cons (se_tup (sa_cons se_int (sa_cons se_int (sa_cons se_int (sa_cons se_int (sa_cons se_int sa_nil)))))) (sa_cons (se_tup (sa_cons se_int (sa_cons se_int (sa_cons se_int (sa_cons se_int (sa_cons se_int sa_nil)))))) (sa_cons (se_tup (sa_cons se_int (sa_cons se_int (sa_cons se_int (sa_cons se_int (sa_cons se_int sa_nil)))))) (sa_cons (se_tup (sa_cons se_bl (sa_cons se_int (sa_cons se_int (sa_cons se_int (sa_cons se_int sa_nil)))))) sa_nil))))))))
    (ss_cons (s_if (st_cmp (opp_ne rfl hu) (se_lc rfl nd_law (si_seq rfl (se_v (i := 11))) (blkOk_by (own := [("_law_value", 6)]) (by kernel_rfl)) (is := [6]) (fun _ _ _ _ _ => (sh_n nd_law)) (fun _ _ _ _ _ => sts_nil) (fun _ _ _ _ _ => (se_at L.a24 hr takes_shut (sa_cons (se_v (i := 6)) sa_nil)))) (se_lst (sa_cons (se_lst sa_nil) (sa_cons (se_lst sa_nil) (sa_cons (se_lst (sa_cons (se_tup (sa_cons se_int sa_nil)) sa_nil)) (sa_cons (se_lst (sa_cons (se_tup (sa_cons se_int sa_nil)) sa_nil)) (sa_cons (se_lst (sa_cons (se_tup (sa_cons se_int sa_nil)) sa_nil)) (sa_cons (se_lst (sa_cons (se_tup (sa_cons se_int sa_nil)) sa_nil)) sa_nil)))))))) (ss_cons (s_ret se_bl)
    ss_nil) ss_nil)
    (ss_cons (s_if (st_w (sw_or (st_cmp (opp_ne rfl hu) (se_at L.a10 hr tk (sa_cons (se_tup (sa_cons se_int (sa_cons se_int (sa_cons se_int (sa_cons se_int (sa_cons se_int sa_nil)))))) sa_nil)) (se_lst (sa_cons (se_tup (sa_cons se_int (sa_cons se_int (sa_cons se_int (sa_cons se_int sa_nil))))) (sa_cons (se_tup (sa_cons se_int (sa_cons se_int (sa_cons se_int (sa_cons se_int sa_nil))))) (sa_cons (se_tup (sa_cons se_int (sa_cons se_int (sa_cons se_int (sa_cons se_int sa_nil))))) (sa_cons (se_tup (sa_cons se_int (sa_cons se_int (sa_cons se_int (sa_cons se_int sa_nil))))) sa_nil)))))) (sw_or1 (st_cmp (opp_ne rfl hu) (se_at L.a10 hr tk (sa_cons (se_tup (sa_cons se_int (sa_cons se_int (sa_cons se_int (sa_cons se_int (sa_cons se_int sa_nil)))))) sa_nil)) (se_lst sa_nil))))) (ss_cons (s_ret se_bl)
    ss_nil) ss_nil)
    (ss_cons (s_ret (se_and rfl (se_cmp (opp_eq rfl hu) (se_at L.a8 hr tk (sa_cons (se_tup (sa_cons se_int (sa_cons se_int (sa_cons se_int (sa_cons se_int (sa_cons se_int sa_nil)))))) (sa_cons se_int (sa_cons se_int (sa_cons se_int (sa_cons se_int sa_nil)))))) (se_tup (sa_cons se_int (sa_cons se_int (sa_cons se_int (sa_cons se_int sa_nil)))))) (se_and rfl (se_isN (se_at L.a8 hr tk (sa_cons (se_tup (sa_cons se_int (sa_cons se_int (sa_cons se_int (sa_cons se_int (sa_cons se_int sa_nil)))))) (sa_cons se_int (sa_cons se_int (sa_cons se_int (sa_cons se_int sa_nil))))))) (se_one (se_cmp (opp_eq rfl hu) (se_cb1 (cp_len rfl) g.f_len bt_len (se_at L.a10 hr tk (sa_cons (se_tup (sa_cons se_int (sa_cons se_int (sa_cons se_int (sa_cons se_int (sa_cons se_int sa_nil)))))) sa_nil))) se_int)))))
    ss_nil))))))
end
end K61
end
section
set_option Elab.async false
set_option linter.all false
set_option autoImplicit false
set_option maxRecDepth 100000
set_option maxHeartbeats 4000000
namespace K61
open PySem PySem.Spec PyProof.Rows L2 Ev
section
variable {w : World} {K : PySem.W.Frag} {mg : Str → Option Value} {base : Heap}
theorem is_BadFabric : InitScope ["self", "path"] (defScope i_BadFabric) := by
  refine ⟨rfl, rfl, rfl, by decide +kernel, by decide +kernel, by decide +kernel, fun x h => ?_, rfl, rfl⟩
  have all : ∀ y ∈ (defScope i_BadFabric).names, y.2 = .free → y.1 = "__class__" := by decide +kernel
  exact all _ (PySem.mem_of_lookup h) rfl
theorem err_BadFabric (c : SaysL pg fa fn ins xfs cons K) (X : K.In base) (N : base.Ns mainGlobals mg) : ErrAt pg w K mg base (Gk K) 0 "BadFabric" "path" .tuple := by
  have i := c.init 0 (d := n_BadFabric)
  obtain ⟨T, fI, fd, cc, cda, iC, tI, F⟩ := initB_ok i.1 i.2 c.any c.sup (by decide +kernel)
  have ht : mg "tuple" = none := He.free_ok X N (c.d.fact 47 (f := .free "tuple") rfl)
  refine ⟨T, He.glo_ok X N (c.d.fact 31 (f := .glo "BadFabric") rfl), fI, fd, "self", "path", iC, tI, ?_, binds_init F (fun _ _ _ _ _ us hl => match us, hl with | [_, _], _ => rfl)⟩
  exact init_ok F T is_BadFabric rfl ⟨_, rfl, rfl⟩ (c.xf 0 (q := ("BadFabric", "path"))).2 (by decide +kernel) (by decide +kernel) (fun _ _ _ _ => (se_ct1 (cp_tuple rfl) ht bt_tuple (se_v (i := 1)))) mono_tE (fun _ => rfl) (fun _ => rfl) (fun _ => ⟨_, rfl⟩)
theorem is_NoRoom : InitScope ["self", "word"] (defScope i_NoRoom) := by
  refine ⟨rfl, rfl, rfl, by decide +kernel, by decide +kernel, by decide +kernel, fun x h => ?_, rfl, rfl⟩
  have all : ∀ y ∈ (defScope i_NoRoom).names, y.2 = .free → y.1 = "__class__" := by decide +kernel
  exact all _ (PySem.mem_of_lookup h) rfl
theorem err_NoRoom (c : SaysL pg fa fn ins xfs cons K) (X : K.In base) (N : base.Ns mainGlobals mg) : ErrAt pg w K mg base (Gk K) 1 "NoRoom" "word" .plain := by
  have i := c.init 1 (d := n_NoRoom)
  obtain ⟨T, fI, fd, cc, cda, iC, tI, F⟩ := initB_ok i.1 i.2 c.any c.sup (by decide +kernel)
  refine ⟨T, He.glo_ok X N (c.d.fact 32 (f := .glo "NoRoom") rfl), fI, fd, "self", "word", iC, tI, ?_, binds_init F (fun _ _ _ _ _ us hl => match us, hl with | [_, _], _ => rfl)⟩
  exact init_ok F T is_NoRoom rfl ⟨_, rfl, rfl⟩ (c.xf 1 (q := ("NoRoom", "word"))).2 (by decide +kernel) (by decide +kernel) (fun _ _ _ _ => (se_v (i := 1))) mono_tE (fun _ => rfl) (fun _ => rfl) (fun _ => ⟨_, rfl⟩)
theorem facts (c : SaysL pg fa fn ins xfs cons K) (X : K.In base) (N : base.Ns mainGlobals mg) : Fact pg w K mg base where
  f_abs := He.free_ok X N (c.d.fact 34 (f := .free "abs") rfl)
  f_all := He.free_ok X N (c.d.fact 35 (f := .free "all") rfl)
  f_bool := He.free_ok X N (c.d.fact 36 (f := .free "bool") rfl)
  f_enumerate := He.free_ok X N (c.d.fact 37 (f := .free "enumerate") rfl)
  f_int := He.free_ok X N (c.d.fact 38 (f := .free "int") rfl)
  f_isinstance := He.free_ok X N (c.d.fact 39 (f := .free "isinstance") rfl)
  f_len := He.free_ok X N (c.d.fact 40 (f := .free "len") rfl)
  f_list := He.free_ok X N (c.d.fact 41 (f := .free "list") rfl)
  f_max := He.free_ok X N (c.d.fact 42 (f := .free "max") rfl)
  f_range := He.free_ok X N (c.d.fact 43 (f := .free "range") rfl)
  f_repr := He.free_ok X N (c.d.fact 44 (f := .free "repr") rfl)
  f_sorted := He.free_ok X N (c.d.fact 45 (f := .free "sorted") rfl)
  f_tuple := He.free_ok X N (c.d.fact 47 (f := .free "tuple") rfl)
  c_BOUNDS := con_ok X N (c.con 0 (q := ("BOUNDS", c_BOUNDS)))
  c_STEPS := con_ok X N (c.con 1 (q := ("STEPS", c_STEPS)))
  sys := c.sys
  e_BadFabric := err_BadFabric c X N
  x_BadFabric := c.xf 0 (q := ("BadFabric", "path"))
  m_BadFabric := (c.exm 0 0 (q := ("BadFabric", "path")) (r := ("BadFabric", "path"))).trans (by rw [decide_eq_true rfl])
  e_NoRoom := err_NoRoom c X N
  x_NoRoom := c.xf 1 (q := ("NoRoom", "word"))
  m_NoRoom := (c.exm 1 1 (q := ("NoRoom", "word")) (r := ("NoRoom", "word"))).trans (by rw [decide_eq_true rfl])
theorem lib0 (c : SaysL pg fa fn ins xfs cons K) (X : K.In base) (N : base.Ns mainGlobals mg) : Lib w K mg base 0 := ⟨by
  have h0 : FnAt pg w K mg base (Gk K) prog 0 0 "is_integer" P_is_integer := by
    obtain ⟨fd, D⟩ := c.d.def_ 0 (d := d_is_integer)
    exact ⟨_, fd, fn0, D.bindsN fun _ _ _ _ _ _ us hl => match us, hl with | [_], _ => rfl, D.kp, He.glo_ok X N (c.d.fact 0 (f := .glo "is_integer") rfl), fun_at D⟩
  have h1 : FnAt pg w K mg base (Gk K) prog 0 1 "check_fabric" P_check_fabric := by
    obtain ⟨fd, D⟩ := c.d.def_ 1 (d := d_check_fabric)
    exact ⟨_, fd, fn0, D.bindsN fun _ _ _ _ _ _ us hl => match us, hl with | [_], _ => rfl, D.kp, He.glo_ok X N (c.d.fact 1 (f := .glo "check_fabric") rfl), fun_at D⟩
  have h2 : FnAt pg w K mg base (Gk K) prog 0 2 "is_tile" P_is_tile := by
    obtain ⟨fd, D⟩ := c.d.def_ 2 (d := d_is_tile)
    exact ⟨_, fd, fn0, D.bindsN fun _ _ _ _ _ _ us hl => match us, hl with | [_, _, _], _ => rfl, D.kp, He.glo_ok X N (c.d.fact 2 (f := .glo "is_tile") rfl), fun_at D⟩
  have h3 : FnAt pg w K mg base (Gk K) prog 0 3 "tiles_of" P_tiles_of := by
    obtain ⟨fd, D⟩ := c.d.def_ 3 (d := d_tiles_of)
    exact ⟨_, fd, fn0, D.bindsN fun _ _ _ _ _ _ us hl => match us, hl with | [_], _ => rfl, D.kp, He.glo_ok X N (c.d.fact 3 (f := .glo "tiles_of") rfl), fun_at D⟩
  have h4 : FnAt pg w K mg base (Gk K) prog 0 4 "neighbour" P_neighbour := by
    obtain ⟨fd, D⟩ := c.d.def_ 4 (d := d_neighbour)
    exact ⟨_, fd, fn0, D.bindsN fun _ _ _ _ _ _ us hl => match us, hl with | [_, _, _, _], _ => rfl, D.kp, He.glo_ok X N (c.d.fact 4 (f := .glo "neighbour") rfl), fun_at D⟩
  have h5 : FnAt pg w K mg base (Gk K) prog 0 5 "is_border" P_is_border := by
    obtain ⟨fd, D⟩ := c.d.def_ 5 (d := d_is_border)
    exact ⟨_, fd, fn0, D.bindsN fun _ _ _ _ _ _ us hl => match us, hl with | [_, _, _], _ => rfl, D.kp, He.glo_ok X N (c.d.fact 5 (f := .glo "is_border") rfl), fun_at D⟩
  have h6 : FnAt pg w K mg base (Gk K) prog 0 6 "pads_of" P_pads_of := by
    obtain ⟨fd, D⟩ := c.d.def_ 6 (d := d_pads_of)
    exact ⟨_, fd, fn0, D.bindsN fun _ _ _ _ _ _ us hl => match us, hl with | [_], _ => rfl, D.kp, He.glo_ok X N (c.d.fact 6 (f := .glo "pads_of") rfl), fun_at D⟩
  have h7 : FnAt pg w K mg base (Gk K) prog 0 7 "is_wire" P_is_wire := by
    obtain ⟨fd, D⟩ := c.d.def_ 7 (d := d_is_wire)
    exact ⟨_, fd, fn0, D.bindsN fun _ _ _ _ _ _ us hl => match us, hl with | [_, _], _ => rfl, D.kp, He.glo_ok X N (c.d.fact 7 (f := .glo "is_wire") rfl), fun_at D⟩
  have h8 : FnAt pg w K mg base (Gk K) prog 0 8 "wire_in" P_wire_in := by
    obtain ⟨fd, D⟩ := c.d.def_ 8 (d := d_wire_in)
    exact ⟨_, fd, fn0, D.bindsN fun _ _ _ _ _ _ us hl => match us, hl with | [_, _, _, _, _], _ => rfl, D.kp, He.glo_ok X N (c.d.fact 8 (f := .glo "wire_in") rfl), fun_at D⟩
  have h9 : FnAt pg w K mg base (Gk K) prog 0 9 "wires_from" P_wires_from := by
    obtain ⟨fd, D⟩ := c.d.def_ 9 (d := d_wires_from)
    exact ⟨_, fd, fn0, D.bindsN fun _ _ _ _ _ _ us hl => match us, hl with | [_, _, _, _], _ => rfl, D.kp, He.glo_ok X N (c.d.fact 9 (f := .glo "wires_from") rfl), fun_at D⟩
  have h10 : FnAt pg w K mg base (Gk K) prog 0 10 "all_wires" P_all_wires := by
    obtain ⟨fd, D⟩ := c.d.def_ 10 (d := d_all_wires)
    exact ⟨_, fd, fn0, D.bindsN fun _ _ _ _ _ _ us hl => match us, hl with | [_], _ => rfl, D.kp, He.glo_ok X N (c.d.fact 10 (f := .glo "all_wires") rfl), fun_at D⟩
  have h11 : FnAt pg w K mg base (Gk K) prog 0 11 "least_pads" P_least_pads := by
    obtain ⟨fd, D⟩ := c.d.def_ 11 (d := d_least_pads)
    exact ⟨_, fd, fn0, D.bindsN fun _ _ _ _ _ _ us hl => match us, hl with | [_, _], _ => rfl, D.kp, He.glo_ok X N (c.d.fact 11 (f := .glo "least_pads") rfl), fun_at D⟩
  have h12 : FnAt pg w K mg base (Gk K) prog 0 12 "fabric_for" P_fabric_for := by
    obtain ⟨fd, D⟩ := c.d.def_ 12 (d := d_fabric_for)
    exact ⟨_, fd, fn0, D.bindsN fun _ _ _ _ _ _ us hl => match us, hl with | [_, _, _, _, _], _ => rfl, D.kp, He.glo_ok X N (c.d.fact 12 (f := .glo "fabric_for") rfl), fun_at D⟩
  have h13 : FnAt pg w K mg base (Gk K) prog 0 13 "_law_source" P__law_source := by
    obtain ⟨fd, D⟩ := c.d.def_ 13 (d := d__law_source)
    exact ⟨_, fd, fn0, D.bindsN fun _ _ _ _ _ _ us hl => match us, hl with | [_], _ => rfl, D.kp, He.glo_ok X N (c.d.fact 13 (f := .glo "_law_source") rfl), fun_at D⟩
  have h14 : FnAt pg w K mg base (Gk K) prog 0 14 "_law_pick" P__law_pick := by
    obtain ⟨fd, D⟩ := c.d.def_ 14 (d := d__law_pick)
    exact ⟨_, fd, fn0, D.bindsN fun _ _ _ _ _ _ us hl => match us, hl with | [_, _], _ => rfl, D.kp, He.glo_ok X N (c.d.fact 14 (f := .glo "_law_pick") rfl), fun_at D⟩
  have h15 : FnAt pg w K mg base (Gk K) prog 0 15 "_law_of" P__law_of := by
    obtain ⟨fd, D⟩ := c.d.def_ 15 (d := d__law_of)
    exact ⟨_, fd, fn0, D.bindsN fun _ _ _ _ _ _ us hl => match us, hl with | [_, _], _ => rfl, D.kp, He.glo_ok X N (c.d.fact 15 (f := .glo "_law_of") rfl), fun_at D⟩
  have h16 : FnAt pg w K mg base (Gk K) prog 0 16 "_law_mixed" P__law_mixed := by
    obtain ⟨fd, D⟩ := c.d.def_ 16 (d := d__law_mixed)
    exact ⟨_, fd, fn0, D.bindsN fun _ _ _ _ _ _ us hl => match us, hl with | [_, _], _ => rfl, D.kp, He.glo_ok X N (c.d.fact 16 (f := .glo "_law_mixed") rfl), fun_at D⟩
  have h17 : FnAt pg w K mg base (Gk K) prog 0 17 "_law_odd" P__law_odd := by
    obtain ⟨fd, D⟩ := c.d.def_ 17 (d := d__law_odd)
    exact ⟨_, fd, fn0, D.bindsN fun _ _ _ _ _ _ us hl => match us, hl with | [_], _ => rfl, D.kp, He.glo_ok X N (c.d.fact 17 (f := .glo "_law_odd") rfl), fun_at D⟩
  have h18 : FnAt pg w K mg base (Gk K) prog 0 18 "_law_is_whole" P__law_is_whole := by
    obtain ⟨fd, D⟩ := c.d.def_ 18 (d := d__law_is_whole)
    exact ⟨_, fd, fn0, D.bindsN fun _ _ _ _ _ _ us hl => match us, hl with | [_], _ => rfl, D.kp, He.glo_ok X N (c.d.fact 18 (f := .glo "_law_is_whole") rfl), fun_at D⟩
  have h19 : FnAt pg w K mg base (Gk K) prog 0 19 "_law_beside" P__law_beside := by
    obtain ⟨fd, D⟩ := c.d.def_ 19 (d := d__law_beside)
    exact ⟨_, fd, fn0, D.bindsN fun _ _ _ _ _ _ us hl => match us, hl with | [_, _, _, _], _ => rfl, D.kp, He.glo_ok X N (c.d.fact 19 (f := .glo "_law_beside") rfl), fun_at D⟩
  have h20 : FnAt pg w K mg base (Gk K) prog 0 20 "_law_tiles" P__law_tiles := by
    obtain ⟨fd, D⟩ := c.d.def_ 20 (d := d__law_tiles)
    exact ⟨_, fd, fn0, D.bindsN fun _ _ _ _ _ _ us hl => match us, hl with | [_], _ => rfl, D.kp, He.glo_ok X N (c.d.fact 20 (f := .glo "_law_tiles") rfl), fun_at D⟩
  have h21 : FnAt pg w K mg base (Gk K) prog 0 21 "_law_pads" P__law_pads := by
    obtain ⟨fd, D⟩ := c.d.def_ 21 (d := d__law_pads)
    exact ⟨_, fd, fn0, D.bindsN fun _ _ _ _ _ _ us hl => match us, hl with | [_], _ => rfl, D.kp, He.glo_ok X N (c.d.fact 21 (f := .glo "_law_pads") rfl), fun_at D⟩
  have h22 : FnAt pg w K mg base (Gk K) prog 0 22 "_law_wires" P__law_wires := by
    obtain ⟨fd, D⟩ := c.d.def_ 22 (d := d__law_wires)
    exact ⟨_, fd, fn0, D.bindsN fun _ _ _ _ _ _ us hl => match us, hl with | [_], _ => rfl, D.kp, He.glo_ok X N (c.d.fact 22 (f := .glo "_law_wires") rfl), fun_at D⟩
  have h23 : FnAt pg w K mg base (Gk K) prog 0 23 "_law_coming" P__law_coming := by
    obtain ⟨fd, D⟩ := c.d.def_ 23 (d := d__law_coming)
    exact ⟨_, fd, fn0, D.bindsN fun _ _ _ _ _ _ us hl => match us, hl with | [_, _, _, _, _], _ => rfl, D.kp, He.glo_ok X N (c.d.fact 23 (f := .glo "_law_coming") rfl), fun_at D⟩
  have h24 : FnAt pg w K mg base (Gk K) prog 0 24 "_law_told" P__law_told := by
    obtain ⟨fd, D⟩ := c.d.def_ 24 (d := d__law_told)
    exact ⟨_, fd, fn0, D.bindsN fun _ _ _ _ _ _ us hl => match us, hl with | [_], _ => rfl, D.kp, He.glo_ok X N (c.d.fact 24 (f := .glo "_law_told") rfl), fun_at D⟩
  have h25 : FnAt pg w K mg base (Gk K) prog 0 25 "_law_due" P__law_due := by
    obtain ⟨fd, D⟩ := c.d.def_ 25 (d := d__law_due)
    exact ⟨_, fd, fn0, D.bindsN fun _ _ _ _ _ _ us hl => match us, hl with | [_], _ => rfl, D.kp, He.glo_ok X N (c.d.fact 25 (f := .glo "_law_due") rfl), fun_at D⟩
  have h26 : FnAt pg w K mg base (Gk K) prog 0 26 "_law_tiles_right" P__law_tiles_right := by
    obtain ⟨fd, D⟩ := c.d.def_ 26 (d := d__law_tiles_right)
    exact ⟨_, fd, fn0, D.bindsN fun _ _ _ _ _ _ us hl => match us, hl with | [_, _], _ => rfl, D.kp, He.glo_ok X N (c.d.fact 26 (f := .glo "_law_tiles_right") rfl), fun_at D⟩
  have h27 : FnAt pg w K mg base (Gk K) prog 0 27 "_law_counts_told" P__law_counts_told := by
    obtain ⟨fd, D⟩ := c.d.def_ 27 (d := d__law_counts_told)
    exact ⟨_, fd, fn0, D.bindsN fun _ _ _ _ _ _ us hl => match us, hl with | [_, _, _, _, _], _ => rfl, D.kp, He.glo_ok X N (c.d.fact 27 (f := .glo "_law_counts_told") rfl), fun_at D⟩
  have h28 : FnAt pg w K mg base (Gk K) prog 0 28 "_law_counts_due" P__law_counts_due := by
    obtain ⟨fd, D⟩ := c.d.def_ 28 (d := d__law_counts_due)
    exact ⟨_, fd, fn0, D.bindsN fun _ _ _ _ _ _ us hl => match us, hl with | [_, _, _, _, _], _ => rfl, D.kp, He.glo_ok X N (c.d.fact 28 (f := .glo "_law_counts_due") rfl), fun_at D⟩
  have h29 : FnAt pg w K mg base (Gk K) prog 0 29 "law" P_law := by
    obtain ⟨fd, D⟩ := c.d.def_ 29 (d := d_law)
    exact ⟨_, fd, fn0, D.bindsN fun _ _ _ _ _ _ us hl => match us, hl with | [_], _ => rfl, D.kp, He.glo_ok X N (c.d.fact 29 (f := .glo "law") rfl), fun_at D⟩
  have h30 : FnAt pg w K mg base (Gk K) prog 0 30 "all_wires" P_all_wires := by
    obtain ⟨fd, D⟩ := c.d.def_ 10 (d := d_all_wires)
    exact ⟨_, fd, fn0, D.bindsN fun _ _ _ _ _ _ us hl => match us, hl with | [_], _ => rfl, D.kp, He.glo_ok X N (c.d.fact 10 (f := .glo "all_wires") rfl), fun_at D⟩
  have h31 : FnAt pg w K mg base (Gk K) prog 0 31 "tiles_of" P_tiles_of := by
    obtain ⟨fd, D⟩ := c.d.def_ 3 (d := d_tiles_of)
    exact ⟨_, fd, fn0, D.bindsN fun _ _ _ _ _ _ us hl => match us, hl with | [_], _ => rfl, D.kp, He.glo_ok X N (c.d.fact 3 (f := .glo "tiles_of") rfl), fun_at D⟩
  have h32 : FnAt pg w K mg base (Gk K) prog 0 32 "pads_of" P_pads_of := by
    obtain ⟨fd, D⟩ := c.d.def_ 6 (d := d_pads_of)
    exact ⟨_, fd, fn0, D.bindsN fun _ _ _ _ _ _ us hl => match us, hl with | [_], _ => rfl, D.kp, He.glo_ok X N (c.d.fact 6 (f := .glo "pads_of") rfl), fun_at D⟩
  intro q hq
  simp only [tbl, List.mem_cons, List.not_mem_nil, or_false] at hq
  rcases hq with rfl | rfl | rfl | rfl | rfl | rfl | rfl | rfl | rfl | rfl | rfl | rfl | rfl | rfl | rfl | rfl | rfl | rfl | rfl | rfl | rfl | rfl | rfl | rfl | rfl | rfl | rfl | rfl | rfl | rfl | rfl | rfl | rfl
  · exact h0
  · exact h1
  · exact h2
  · exact h3
  · exact h4
  · exact h5
  · exact h6
  · exact h7
  · exact h8
  · exact h9
  · exact h10
  · exact h11
  · exact h12
  · exact h13
  · exact h14
  · exact h15
  · exact h16
  · exact h17
  · exact h18
  · exact h19
  · exact h20
  · exact h21
  · exact h22
  · exact h23
  · exact h24
  · exact h25
  · exact h26
  · exact h27
  · exact h28
  · exact h29
  · exact h30
  · exact h31
  · exact h32⟩
theorem libS {n : Nat} (c : SaysL pg fa fn ins xfs cons K) (X : K.In base) (N : base.Ns mainGlobals mg) (L : Lib w K mg base n) : Lib w K mg base (n + 1) := ⟨by
  have g := facts (w := w) c X N
  have h0 : FnAt pg w K mg base (Gk K) prog (n + 1) 0 "is_integer" P_is_integer := by
    obtain ⟨fd, D⟩ := c.d.def_ 0 (d := d_is_integer)
    exact ⟨_, fd, fn_run (prog := prog) (i := 0) (g := ⟨P_is_integer.length, N_is_integer.length, false, e_is_integer (runP prog n)⟩) D sc_is_integer rfl rfl rfl (fun _ _ _ _ _ _ hr => b_is_integer g L hr), D.bindsN fun _ _ _ _ _ _ us hl => match us, hl with | [_], _ => rfl, D.kp, He.glo_ok X N (c.d.fact 0 (f := .glo "is_integer") rfl), fun_at D⟩
  have h1 : FnAt pg w K mg base (Gk K) prog (n + 1) 1 "check_fabric" P_check_fabric := by
    obtain ⟨fd, D⟩ := c.d.def_ 1 (d := d_check_fabric)
    exact ⟨_, fd, fn_run (prog := prog) (i := 1) (g := ⟨P_check_fabric.length, N_check_fabric.length, false, e_check_fabric (runP prog n)⟩) D sc_check_fabric rfl rfl rfl (fun _ _ _ _ _ _ hr => b_check_fabric g L hr), D.bindsN fun _ _ _ _ _ _ us hl => match us, hl with | [_], _ => rfl, D.kp, He.glo_ok X N (c.d.fact 1 (f := .glo "check_fabric") rfl), fun_at D⟩
  have h2 : FnAt pg w K mg base (Gk K) prog (n + 1) 2 "is_tile" P_is_tile := by
    obtain ⟨fd, D⟩ := c.d.def_ 2 (d := d_is_tile)
    exact ⟨_, fd, fn_run (prog := prog) (i := 2) (g := ⟨P_is_tile.length, N_is_tile.length, false, e_is_tile (runP prog n)⟩) D sc_is_tile rfl rfl rfl (fun _ _ _ _ _ _ hr => b_is_tile g L hr), D.bindsN fun _ _ _ _ _ _ us hl => match us, hl with | [_, _, _], _ => rfl, D.kp, He.glo_ok X N (c.d.fact 2 (f := .glo "is_tile") rfl), fun_at D⟩
  have h3 : FnAt pg w K mg base (Gk K) prog (n + 1) 3 "tiles_of" P_tiles_of := by
    obtain ⟨fd, D⟩ := c.d.def_ 3 (d := d_tiles_of)
    exact ⟨_, fd, fn_run (prog := prog) (i := 3) (g := ⟨P_tiles_of.length, N_tiles_of.length, false, e_tiles_of (runP prog n)⟩) D sc_tiles_of rfl rfl rfl (fun _ _ _ _ _ _ hr => b_tiles_of g L hr), D.bindsN fun _ _ _ _ _ _ us hl => match us, hl with | [_], _ => rfl, D.kp, He.glo_ok X N (c.d.fact 3 (f := .glo "tiles_of") rfl), fun_at D⟩
  have h4 : FnAt pg w K mg base (Gk K) prog (n + 1) 4 "neighbour" P_neighbour := by
    obtain ⟨fd, D⟩ := c.d.def_ 4 (d := d_neighbour)
    exact ⟨_, fd, fn_run (prog := prog) (i := 4) (g := ⟨P_neighbour.length, N_neighbour.length, false, e_neighbour (runP prog n)⟩) D sc_neighbour rfl rfl rfl (fun _ _ _ _ _ _ hr => b_neighbour g L hr), D.bindsN fun _ _ _ _ _ _ us hl => match us, hl with | [_, _, _, _], _ => rfl, D.kp, He.glo_ok X N (c.d.fact 4 (f := .glo "neighbour") rfl), fun_at D⟩
  have h5 : FnAt pg w K mg base (Gk K) prog (n + 1) 5 "is_border" P_is_border := by
    obtain ⟨fd, D⟩ := c.d.def_ 5 (d := d_is_border)
    exact ⟨_, fd, fn_run (prog := prog) (i := 5) (g := ⟨P_is_border.length, N_is_border.length, false, e_is_border (runP prog n)⟩) D sc_is_border rfl rfl rfl (fun _ _ _ _ _ _ hr => b_is_border g L hr), D.bindsN fun _ _ _ _ _ _ us hl => match us, hl with | [_, _, _], _ => rfl, D.kp, He.glo_ok X N (c.d.fact 5 (f := .glo "is_border") rfl), fun_at D⟩
  have h6 : FnAt pg w K mg base (Gk K) prog (n + 1) 6 "pads_of" P_pads_of := by
    obtain ⟨fd, D⟩ := c.d.def_ 6 (d := d_pads_of)
    exact ⟨_, fd, fn_run (prog := prog) (i := 6) (g := ⟨P_pads_of.length, N_pads_of.length, false, e_pads_of (runP prog n)⟩) D sc_pads_of rfl rfl rfl (fun _ _ _ _ _ _ hr => b_pads_of g L hr), D.bindsN fun _ _ _ _ _ _ us hl => match us, hl with | [_], _ => rfl, D.kp, He.glo_ok X N (c.d.fact 6 (f := .glo "pads_of") rfl), fun_at D⟩
  have h7 : FnAt pg w K mg base (Gk K) prog (n + 1) 7 "is_wire" P_is_wire := by
    obtain ⟨fd, D⟩ := c.d.def_ 7 (d := d_is_wire)
    exact ⟨_, fd, fn_run (prog := prog) (i := 7) (g := ⟨P_is_wire.length, N_is_wire.length, false, e_is_wire (runP prog n)⟩) D sc_is_wire rfl rfl rfl (fun _ _ _ _ _ _ hr => b_is_wire g L hr), D.bindsN fun _ _ _ _ _ _ us hl => match us, hl with | [_, _], _ => rfl, D.kp, He.glo_ok X N (c.d.fact 7 (f := .glo "is_wire") rfl), fun_at D⟩
  have h8 : FnAt pg w K mg base (Gk K) prog (n + 1) 8 "wire_in" P_wire_in := by
    obtain ⟨fd, D⟩ := c.d.def_ 8 (d := d_wire_in)
    exact ⟨_, fd, fn_run (prog := prog) (i := 8) (g := ⟨P_wire_in.length, N_wire_in.length, false, e_wire_in (runP prog n)⟩) D sc_wire_in rfl rfl rfl (fun _ _ _ _ _ _ hr => b_wire_in g L hr), D.bindsN fun _ _ _ _ _ _ us hl => match us, hl with | [_, _, _, _, _], _ => rfl, D.kp, He.glo_ok X N (c.d.fact 8 (f := .glo "wire_in") rfl), fun_at D⟩
  have h9 : FnAt pg w K mg base (Gk K) prog (n + 1) 9 "wires_from" P_wires_from := by
    obtain ⟨fd, D⟩ := c.d.def_ 9 (d := d_wires_from)
    exact ⟨_, fd, fn_run (prog := prog) (i := 9) (g := ⟨P_wires_from.length, N_wires_from.length, false, e_wires_from (runP prog n)⟩) D sc_wires_from rfl rfl rfl (fun _ _ _ _ _ _ hr => b_wires_from g L hr), D.bindsN fun _ _ _ _ _ _ us hl => match us, hl with | [_, _, _, _], _ => rfl, D.kp, He.glo_ok X N (c.d.fact 9 (f := .glo "wires_from") rfl), fun_at D⟩
  have h10 : FnAt pg w K mg base (Gk K) prog (n + 1) 10 "all_wires" P_all_wires := by
    obtain ⟨fd, D⟩ := c.d.def_ 10 (d := d_all_wires)
    exact ⟨_, fd, fn_run (prog := prog) (i := 10) (g := ⟨P_all_wires.length, N_all_wires.length, false, e_all_wires (runP prog n)⟩) D sc_all_wires rfl rfl rfl (fun _ _ _ _ _ _ hr => b_all_wires g L hr), D.bindsN fun _ _ _ _ _ _ us hl => match us, hl with | [_], _ => rfl, D.kp, He.glo_ok X N (c.d.fact 10 (f := .glo "all_wires") rfl), fun_at D⟩
  have h11 : FnAt pg w K mg base (Gk K) prog (n + 1) 11 "least_pads" P_least_pads := by
    obtain ⟨fd, D⟩ := c.d.def_ 11 (d := d_least_pads)
    exact ⟨_, fd, fn_run (prog := prog) (i := 11) (g := ⟨P_least_pads.length, N_least_pads.length, false, e_least_pads (runP prog n)⟩) D sc_least_pads rfl rfl rfl (fun _ _ _ _ _ _ hr => b_least_pads g L hr), D.bindsN fun _ _ _ _ _ _ us hl => match us, hl with | [_, _], _ => rfl, D.kp, He.glo_ok X N (c.d.fact 11 (f := .glo "least_pads") rfl), fun_at D⟩
  have h12 : FnAt pg w K mg base (Gk K) prog (n + 1) 12 "fabric_for" P_fabric_for := by
    obtain ⟨fd, D⟩ := c.d.def_ 12 (d := d_fabric_for)
    exact ⟨_, fd, fn_run (prog := prog) (i := 12) (g := ⟨P_fabric_for.length, N_fabric_for.length, false, e_fabric_for (runP prog n)⟩) D sc_fabric_for rfl rfl rfl (fun _ _ _ _ _ _ hr => b_fabric_for g L hr), D.bindsN fun _ _ _ _ _ _ us hl => match us, hl with | [_, _, _, _, _], _ => rfl, D.kp, He.glo_ok X N (c.d.fact 12 (f := .glo "fabric_for") rfl), fun_at D⟩
  have h13 : FnAt pg w K mg base (Gk K) prog (n + 1) 13 "_law_source" P__law_source := by
    obtain ⟨fd, D⟩ := c.d.def_ 13 (d := d__law_source)
    exact ⟨_, fd, fn_run (prog := prog) (i := 13) (g := ⟨P__law_source.length, N__law_source.length, false, e__law_source (runP prog n)⟩) D sc__law_source rfl rfl rfl (fun _ _ _ _ _ _ hr => b__law_source g L hr), D.bindsN fun _ _ _ _ _ _ us hl => match us, hl with | [_], _ => rfl, D.kp, He.glo_ok X N (c.d.fact 13 (f := .glo "_law_source") rfl), fun_at D⟩
  have h14 : FnAt pg w K mg base (Gk K) prog (n + 1) 14 "_law_pick" P__law_pick := by
    obtain ⟨fd, D⟩ := c.d.def_ 14 (d := d__law_pick)
    exact ⟨_, fd, fn_run (prog := prog) (i := 14) (g := ⟨P__law_pick.length, N__law_pick.length, false, e__law_pick (runP prog n)⟩) D sc__law_pick rfl rfl rfl (fun _ _ _ _ _ _ hr => b__law_pick g L hr), D.bindsN fun _ _ _ _ _ _ us hl => match us, hl with | [_, _], _ => rfl, D.kp, He.glo_ok X N (c.d.fact 14 (f := .glo "_law_pick") rfl), fun_at D⟩
  have h15 : FnAt pg w K mg base (Gk K) prog (n + 1) 15 "_law_of" P__law_of := by
    obtain ⟨fd, D⟩ := c.d.def_ 15 (d := d__law_of)
    exact ⟨_, fd, fn_run (prog := prog) (i := 15) (g := ⟨P__law_of.length, N__law_of.length, false, e__law_of (runP prog n)⟩) D sc__law_of rfl rfl rfl (fun _ _ _ _ _ _ hr => b__law_of g L hr), D.bindsN fun _ _ _ _ _ _ us hl => match us, hl with | [_, _], _ => rfl, D.kp, He.glo_ok X N (c.d.fact 15 (f := .glo "_law_of") rfl), fun_at D⟩
  have h16 : FnAt pg w K mg base (Gk K) prog (n + 1) 16 "_law_mixed" P__law_mixed := by
    obtain ⟨fd, D⟩ := c.d.def_ 16 (d := d__law_mixed)
    exact ⟨_, fd, fn_run (prog := prog) (i := 16) (g := ⟨P__law_mixed.length, N__law_mixed.length, false, e__law_mixed (runP prog n)⟩) D sc__law_mixed rfl rfl rfl (fun _ _ _ _ _ _ hr => b__law_mixed g L hr), D.bindsN fun _ _ _ _ _ _ us hl => match us, hl with | [_, _], _ => rfl, D.kp, He.glo_ok X N (c.d.fact 16 (f := .glo "_law_mixed") rfl), fun_at D⟩
  have h17 : FnAt pg w K mg base (Gk K) prog (n + 1) 17 "_law_odd" P__law_odd := by
    obtain ⟨fd, D⟩ := c.d.def_ 17 (d := d__law_odd)
    exact ⟨_, fd, fn_run (prog := prog) (i := 17) (g := ⟨P__law_odd.length, N__law_odd.length, false, e__law_odd (runP prog n)⟩) D sc__law_odd rfl rfl rfl (fun _ _ _ _ _ _ hr => b__law_odd g L hr), D.bindsN fun _ _ _ _ _ _ us hl => match us, hl with | [_], _ => rfl, D.kp, He.glo_ok X N (c.d.fact 17 (f := .glo "_law_odd") rfl), fun_at D⟩
  have h18 : FnAt pg w K mg base (Gk K) prog (n + 1) 18 "_law_is_whole" P__law_is_whole := by
    obtain ⟨fd, D⟩ := c.d.def_ 18 (d := d__law_is_whole)
    exact ⟨_, fd, fn_run (prog := prog) (i := 18) (g := ⟨P__law_is_whole.length, N__law_is_whole.length, false, e__law_is_whole (runP prog n)⟩) D sc__law_is_whole rfl rfl rfl (fun _ _ _ _ _ _ hr => b__law_is_whole g L hr), D.bindsN fun _ _ _ _ _ _ us hl => match us, hl with | [_], _ => rfl, D.kp, He.glo_ok X N (c.d.fact 18 (f := .glo "_law_is_whole") rfl), fun_at D⟩
  have h19 : FnAt pg w K mg base (Gk K) prog (n + 1) 19 "_law_beside" P__law_beside := by
    obtain ⟨fd, D⟩ := c.d.def_ 19 (d := d__law_beside)
    exact ⟨_, fd, fn_run (prog := prog) (i := 19) (g := ⟨P__law_beside.length, N__law_beside.length, false, e__law_beside (runP prog n)⟩) D sc__law_beside rfl rfl rfl (fun _ _ _ _ _ _ hr => b__law_beside g L hr), D.bindsN fun _ _ _ _ _ _ us hl => match us, hl with | [_, _, _, _], _ => rfl, D.kp, He.glo_ok X N (c.d.fact 19 (f := .glo "_law_beside") rfl), fun_at D⟩
  have h20 : FnAt pg w K mg base (Gk K) prog (n + 1) 20 "_law_tiles" P__law_tiles := by
    obtain ⟨fd, D⟩ := c.d.def_ 20 (d := d__law_tiles)
    exact ⟨_, fd, fn_run (prog := prog) (i := 20) (g := ⟨P__law_tiles.length, N__law_tiles.length, false, e__law_tiles (runP prog n)⟩) D sc__law_tiles rfl rfl rfl (fun _ _ _ _ _ _ hr => b__law_tiles g L hr), D.bindsN fun _ _ _ _ _ _ us hl => match us, hl with | [_], _ => rfl, D.kp, He.glo_ok X N (c.d.fact 20 (f := .glo "_law_tiles") rfl), fun_at D⟩
  have h21 : FnAt pg w K mg base (Gk K) prog (n + 1) 21 "_law_pads" P__law_pads := by
    obtain ⟨fd, D⟩ := c.d.def_ 21 (d := d__law_pads)
    exact ⟨_, fd, fn_run (prog := prog) (i := 21) (g := ⟨P__law_pads.length, N__law_pads.length, false, e__law_pads (runP prog n)⟩) D sc__law_pads rfl rfl rfl (fun _ _ _ _ _ _ hr => b__law_pads g L hr), D.bindsN fun _ _ _ _ _ _ us hl => match us, hl with | [_], _ => rfl, D.kp, He.glo_ok X N (c.d.fact 21 (f := .glo "_law_pads") rfl), fun_at D⟩
  have h22 : FnAt pg w K mg base (Gk K) prog (n + 1) 22 "_law_wires" P__law_wires := by
    obtain ⟨fd, D⟩ := c.d.def_ 22 (d := d__law_wires)
    exact ⟨_, fd, fn_run (prog := prog) (i := 22) (g := ⟨P__law_wires.length, N__law_wires.length, false, e__law_wires (runP prog n)⟩) D sc__law_wires rfl rfl rfl (fun _ _ _ _ _ _ hr => b__law_wires g L hr), D.bindsN fun _ _ _ _ _ _ us hl => match us, hl with | [_], _ => rfl, D.kp, He.glo_ok X N (c.d.fact 22 (f := .glo "_law_wires") rfl), fun_at D⟩
  have h23 : FnAt pg w K mg base (Gk K) prog (n + 1) 23 "_law_coming" P__law_coming := by
    obtain ⟨fd, D⟩ := c.d.def_ 23 (d := d__law_coming)
    exact ⟨_, fd, fn_run (prog := prog) (i := 23) (g := ⟨P__law_coming.length, N__law_coming.length, false, e__law_coming (runP prog n)⟩) D sc__law_coming rfl rfl rfl (fun _ _ _ _ _ _ hr => b__law_coming g L hr), D.bindsN fun _ _ _ _ _ _ us hl => match us, hl with | [_, _, _, _, _], _ => rfl, D.kp, He.glo_ok X N (c.d.fact 23 (f := .glo "_law_coming") rfl), fun_at D⟩
  have h24 : FnAt pg w K mg base (Gk K) prog (n + 1) 24 "_law_told" P__law_told := by
    obtain ⟨fd, D⟩ := c.d.def_ 24 (d := d__law_told)
    exact ⟨_, fd, fn_run (prog := prog) (i := 24) (g := ⟨P__law_told.length, N__law_told.length, false, e__law_told (runP prog n)⟩) D sc__law_told rfl rfl rfl (fun _ _ _ _ _ _ hr => b__law_told g L hr), D.bindsN fun _ _ _ _ _ _ us hl => match us, hl with | [_], _ => rfl, D.kp, He.glo_ok X N (c.d.fact 24 (f := .glo "_law_told") rfl), fun_at D⟩
  have h25 : FnAt pg w K mg base (Gk K) prog (n + 1) 25 "_law_due" P__law_due := by
    obtain ⟨fd, D⟩ := c.d.def_ 25 (d := d__law_due)
    exact ⟨_, fd, fn_run (prog := prog) (i := 25) (g := ⟨P__law_due.length, N__law_due.length, false, e__law_due (runP prog n)⟩) D sc__law_due rfl rfl rfl (fun _ _ _ _ _ _ hr => b__law_due g L hr), D.bindsN fun _ _ _ _ _ _ us hl => match us, hl with | [_], _ => rfl, D.kp, He.glo_ok X N (c.d.fact 25 (f := .glo "_law_due") rfl), fun_at D⟩
  have h26 : FnAt pg w K mg base (Gk K) prog (n + 1) 26 "_law_tiles_right" P__law_tiles_right := by
    obtain ⟨fd, D⟩ := c.d.def_ 26 (d := d__law_tiles_right)
    exact ⟨_, fd, fn_run (prog := prog) (i := 26) (g := ⟨P__law_tiles_right.length, N__law_tiles_right.length, false, e__law_tiles_right (runP prog n)⟩) D sc__law_tiles_right rfl rfl rfl (fun _ _ _ _ _ _ hr => b__law_tiles_right g L hr), D.bindsN fun _ _ _ _ _ _ us hl => match us, hl with | [_, _], _ => rfl, D.kp, He.glo_ok X N (c.d.fact 26 (f := .glo "_law_tiles_right") rfl), fun_at D⟩
  have h27 : FnAt pg w K mg base (Gk K) prog (n + 1) 27 "_law_counts_told" P__law_counts_told := by
    obtain ⟨fd, D⟩ := c.d.def_ 27 (d := d__law_counts_told)
    exact ⟨_, fd, fn_run (prog := prog) (i := 27) (g := ⟨P__law_counts_told.length, N__law_counts_told.length, false, e__law_counts_told (runP prog n)⟩) D sc__law_counts_told rfl rfl rfl (fun _ _ _ _ _ _ hr => b__law_counts_told g L hr), D.bindsN fun _ _ _ _ _ _ us hl => match us, hl with | [_, _, _, _, _], _ => rfl, D.kp, He.glo_ok X N (c.d.fact 27 (f := .glo "_law_counts_told") rfl), fun_at D⟩
  have h28 : FnAt pg w K mg base (Gk K) prog (n + 1) 28 "_law_counts_due" P__law_counts_due := by
    obtain ⟨fd, D⟩ := c.d.def_ 28 (d := d__law_counts_due)
    exact ⟨_, fd, fn_run (prog := prog) (i := 28) (g := ⟨P__law_counts_due.length, N__law_counts_due.length, false, e__law_counts_due (runP prog n)⟩) D sc__law_counts_due rfl rfl rfl (fun _ _ _ _ _ _ hr => b__law_counts_due g L hr), D.bindsN fun _ _ _ _ _ _ us hl => match us, hl with | [_, _, _, _, _], _ => rfl, D.kp, He.glo_ok X N (c.d.fact 28 (f := .glo "_law_counts_due") rfl), fun_at D⟩
  have h29 : FnAt pg w K mg base (Gk K) prog (n + 1) 29 "law" P_law := by
    obtain ⟨fd, D⟩ := c.d.def_ 29 (d := d_law)
    exact ⟨_, fd, fn_run (prog := prog) (i := 29) (g := ⟨P_law.length, N_law.length, false, e_law (runP prog n)⟩) D sc_law rfl rfl rfl (fun _ _ _ _ _ _ hr => b_law g L hr), D.bindsN fun _ _ _ _ _ _ us hl => match us, hl with | [_], _ => rfl, D.kp, He.glo_ok X N (c.d.fact 29 (f := .glo "law") rfl), fun_at D⟩
  have h30 : FnAt pg w K mg base (Gk K) prog (n + 1) 30 "all_wires" P_all_wires := by
    obtain ⟨fd, D⟩ := c.d.def_ 10 (d := d_all_wires)
    exact ⟨_, fd, fn_run (prog := prog) (i := 30) (g := ⟨P_all_wires.length, N_all_wires.length, true, e_all_wires (runP prog n)⟩) D sc_all_wires rfl rfl rfl (fun _ _ _ _ _ _ hr => b_all_wires g L hr), D.bindsN fun _ _ _ _ _ _ us hl => match us, hl with | [_], _ => rfl, D.kp, He.glo_ok X N (c.d.fact 10 (f := .glo "all_wires") rfl), fun_at D⟩
  have h31 : FnAt pg w K mg base (Gk K) prog (n + 1) 31 "tiles_of" P_tiles_of := by
    obtain ⟨fd, D⟩ := c.d.def_ 3 (d := d_tiles_of)
    exact ⟨_, fd, fn_run (prog := prog) (i := 31) (g := ⟨P_tiles_of.length, N_tiles_of.length, true, e_tiles_of (runP prog n)⟩) D sc_tiles_of rfl rfl rfl (fun _ _ _ _ _ _ hr => b_tiles_of g L hr), D.bindsN fun _ _ _ _ _ _ us hl => match us, hl with | [_], _ => rfl, D.kp, He.glo_ok X N (c.d.fact 3 (f := .glo "tiles_of") rfl), fun_at D⟩
  have h32 : FnAt pg w K mg base (Gk K) prog (n + 1) 32 "pads_of" P_pads_of := by
    obtain ⟨fd, D⟩ := c.d.def_ 6 (d := d_pads_of)
    exact ⟨_, fd, fn_run (prog := prog) (i := 32) (g := ⟨P_pads_of.length, N_pads_of.length, true, e_pads_of (runP prog n)⟩) D sc_pads_of rfl rfl rfl (fun _ _ _ _ _ _ hr => b_pads_of g L hr), D.bindsN fun _ _ _ _ _ _ us hl => match us, hl with | [_], _ => rfl, D.kp, He.glo_ok X N (c.d.fact 6 (f := .glo "pads_of") rfl), fun_at D⟩
  intro q hq
  simp only [tbl, List.mem_cons, List.not_mem_nil, or_false] at hq
  rcases hq with rfl | rfl | rfl | rfl | rfl | rfl | rfl | rfl | rfl | rfl | rfl | rfl | rfl | rfl | rfl | rfl | rfl | rfl | rfl | rfl | rfl | rfl | rfl | rfl | rfl | rfl | rfl | rfl | rfl | rfl | rfl | rfl | rfl
  · exact h0
  · exact h1
  · exact h2
  · exact h3
  · exact h4
  · exact h5
  · exact h6
  · exact h7
  · exact h8
  · exact h9
  · exact h10
  · exact h11
  · exact h12
  · exact h13
  · exact h14
  · exact h15
  · exact h16
  · exact h17
  · exact h18
  · exact h19
  · exact h20
  · exact h21
  · exact h22
  · exact h23
  · exact h24
  · exact h25
  · exact h26
  · exact h27
  · exact h28
  · exact h29
  · exact h30
  · exact h31
  · exact h32⟩
theorem lib (c : SaysL pg fa fn ins xfs cons K) (X : K.In base) (N : base.Ns mainGlobals mg) : ∀ n : Nat, Lib w K mg base n
  | 0 => lib0 c X N
  | n + 1 => libS c X N (lib c X N n)
end
end K61
end
section
set_option linter.all false
set_option autoImplicit false
set_option maxRecDepth 100000
set_option maxHeartbeats 1000000
namespace Ev
open PySem L2
theorem fin_same {kp : Bool} (s : Store) (x : Val) : fin kp s x s = (x, s) := by unfold fin; rw [if_pos rfl]
/-! ### the source of choices -/
/-- the source: its cells at 0, the dict at 1 -/
def srcD (l m t : Nat) : Obj := .dct [(.inr "cells", .loc 0), (.inr "left", .d (.int l)), (.inr "mixed", .d (.int m)), (.inr "turn", .d (.int t))]
def src (cs : List Nat) (l m t : Nat) (r : Store) : Store := .lst (cs.map fun (n : Nat) => D.int (n : Int)) :: srcD l m t :: r
theorem ix_cells (cs : List Nat) (l m t : Nat) (r : Store) : pIx (.loc 1) (.d (.str "cells")) (src cs l m t r) = .ok (.loc 0) (src cs l m t r) := by rfl
theorem ix_left (cs : List Nat) (l m t : Nat) (r : Store) : pIx (.loc 1) (.d (.str "left")) (src cs l m t r) = .ok (.d (.int l)) (src cs l m t r) := by rfl
theorem ix_mixed (cs : List Nat) (l m t : Nat) (r : Store) : pIx (.loc 1) (.d (.str "mixed")) (src cs l m t r) = .ok (.d (.int m)) (src cs l m t r) := by rfl
theorem ix_turn (cs : List Nat) (l m t : Nat) (r : Store) : pIx (.loc 1) (.d (.str "turn")) (src cs l m t r) = .ok (.d (.int t)) (src cs l m t r) := by rfl
theorem put_left (cs : List Nat) (l m t : Nat) (r : Store) (x : Nat) : pPut (.loc 1) (.d (.str "left")) (.d (.int x)) (src cs l m t r) = some (src cs x m t r) := by rfl
theorem put_mixed (cs : List Nat) (l m t : Nat) (r : Store) (x : Nat) : pPut (.loc 1) (.d (.str "mixed")) (.d (.int x)) (src cs l m t r) = some (src cs l x t r) := by rfl
theorem put_turn (cs : List Nat) (l m t : Nat) (r : Store) (x : Nat) : pPut (.loc 1) (.d (.str "turn")) (.d (.int x)) (src cs l m t r) = some (src cs l m x r) := by rfl
theorem len_cells (cs : List Nat) (l m t : Nat) (r : Store) : pLen (.loc 0) (src cs l m t r) = .ok (.d (.int cs.length)) (src cs l m t r) := by
  show Res.ok (Val.d (D.int ((cs.map fun (n : Nat) => D.int (n : Int)).length : Nat))) _ = _
  rw [List.length_map]
theorem pop_cells (cs : List Nat) (x l m t : Nat) (r : Store) : pPop (.loc 0) (src (cs ++ [x]) l m t r) = .ok (.d (.int x)) (src cs l m t r) := by
  simp [pPop, src]
theorem isL_cells (cs : List Nat) (l m t : Nat) (r : Store) : isL (.loc 0) (src cs l m t r) = true := rfl
def pickC : BC := band (bb (e2 pGt (v 1) (k (.int 1)))) (band (bb (e2 pLt (e2 pIx (v 0) (k (.str "left"))) (k (.int 2)))) (bb (e2 pGt (e1 pLen (e2 pIx (v 0) (k (.str "cells")))) (k (.int 0)))))
def pickL : SC := sq (sSet (ti (v 0) (k (.str "left"))) (m0 pPop (e2 pIx (v 0) (k (.str "cells"))))) sNil
noncomputable def pickB : SC := sq (sWhl pickC pickL) (sq (sSet (tn 2) (e2 pIx (v 0) (k (.str "left")))) (sq (sIf (bor (bb (e2 pLt (v 1) (k (.int 2)))) (bb (e2 pGt (v 2) (k (.int 1))))) (sq (sSet (ti (v 0) (k (.str "left"))) (e2 pDiv (v 2) (e2 pMax (k (.int 1)) (v 1)))) (sq (sRet (e2 pMod (e1 pInt (v 2)) (e2 pMax (k (.int 1)) (v 1)))) (sNil))) (sNil)) (sq (sSet (ti (v 0) (k (.str "turn"))) (e2 pAdd (e2 pIx (v 0) (k (.str "turn"))) (k (.int 1)))) (sq (sSet (tn 3) (e2 pMod (e1 pInt (e2 pAdd (e2 pIx (v 0) (k (.str "mixed"))) (e2 pMul (e2 pIx (v 0) (k (.str "turn"))) (k (.int 104729))))) (k (.int 998244353)))) (sq (sSet (tn 3) (e2 pMod (e1 pInt (e2 pAdd (e2 pMul (v 3) (v 3)) (e2 pMul (e2 pIx (v 0) (k (.str "turn"))) (k (.int 17))))) (k (.int 2147483647)))) (sq (sSet (ti (v 0) (k (.str "mixed"))) (v 3)) (sq (sRet (e2 pMod (e1 pInt (e2 pDiv (v 3) (k (.int 16)))) (v 1))) (sNil))))))))
theorem dec_eq {p q : Prop} [Decidable p] [Decidable q] (h : p ↔ q) : decide p = decide q := decide_eq_decide.mpr h
theorem pickC_eq (many : Nat) (cs : List Nat) (l m t : Nat) (r : Store) (a b : Option Val) : pickC [some (.loc 1), some (.d (.int many)), a, b] (src cs l m t r) = .ok (decide (1 < many) && (decide (l < 2) && decide (0 < cs.length))) (src cs l m t r) := by
  have e1 : decide ((1 : Int) < (many : Int)) = decide (1 < many) := dec_eq (by omega)
  have e2' : decide ((l : Int) < 2) = decide (l < 2) := dec_eq (by omega)
  have e3 : decide ((0 : Int) < (cs.length : Int)) = decide (0 < cs.length) := dec_eq (by omega)
  simp only [pickC, band, bb, bv, truth, e2, Ev.e1, v, k, pGt, pLt, pI, List.getElem?_cons_zero, List.getElem?_cons_succ, Res.bind_ok, ix_left, ix_cells, len_cells, e1, e2', e3]
  cases decide (1 < many) <;> cases decide (l < 2) <;> cases decide (0 < cs.length) <;> rfl
theorem pickL_eq (many : Nat) (cs : List Nat) (x l m t : Nat) (r : Store) (a b : Option Val) : pickL [some (.loc 1), some (.d (.int many)), a, b] (src (cs ++ [x]) l m t r) = .nx [some (.loc 1), some (.d (.int many)), a, b] (src cs x m t r) := by
  simp [pickL, sq, sSet, ti, m0, e2, v, k, ix_cells, pop_cells, isL_cells, put_left, sNil]
theorem whl_pick (many m t : Nat) (r : Store) (a b : Option Val) : ∀ (f : Nat) (cs : List Nat) (l : Nat), cs.length < f → ∃ cs' l', whl pickC pickL f [some (.loc 1), some (.d (.int many)), a, b] (src cs l m t r) = .nx [some (.loc 1), some (.d (.int many)), a, b] (src cs' l' m t r) ∧ cs'.length ≤ cs.length := by
  intro f
  induction f with
  | zero => intro cs l h; omega
  | succ f ih =>
    intro cs l h
    simp only [whl, pickC_eq, ofRes_ok]
    by_cases hc : (decide (1 < many) && (decide (l < 2) && decide (0 < cs.length))) = true
    · simp only [hc, if_true]
      have hl : 0 < cs.length := by simp at hc; omega
      obtain ⟨ys, x, rfl⟩ : ∃ ys x, cs = ys ++ [x] := ⟨cs.dropLast, cs.getLast (by intro e; simp [e] at hl), (List.dropLast_concat_getLast _).symm⟩
      simp only [List.length_append, List.length_singleton] at h
      obtain ⟨cs', l', e, hl'⟩ := ih ys x (by omega)
      refine ⟨cs', l', ?_, by simp; omega⟩
      rw [pickL_eq]
      exact e
    · simp only [hc, if_false]
      exact ⟨cs, l, by simp, Nat.le_refl _⟩
theorem runFn_rt {f : Fn} {xs : List Val} {s s' : Store} {x : Val} (hl : xs.length = f.pars) (h : f.body (xs.map some ++ List.replicate (f.slots - f.pars) none) s = .rt x s') : runFn f xs s = .ok (fin f.keep s x s').1 (fin f.keep s x s').2 := by
  unfold runFn; rw [if_pos hl, h]
theorem runFn_nx {f : Fn} {xs : List Val} {s s' : Store} {E : Env} (hl : xs.length = f.pars) (h : f.body (xs.map some ++ List.replicate (f.slots - f.pars) none) s = .nx E s') : runFn f xs s = .ok (fin f.keep s (.d .non) s').1 (fin f.keep s (.d .non) s').2 := by
  unfold runFn; rw [if_pos hl, h]
theorem runFn_exc {f : Fn} {xs : List Val} {s s' : Store} {E : Env} {c : Nat} {fs : List (Str × D)} (hl : xs.length = f.pars) (h : f.body (xs.map some ++ List.replicate (f.slots - f.pars) none) s = .exc c fs E s') : runFn f xs s = .exc c fs (fin f.keep s (.d .non) s').2 := by
  unfold runFn; rw [if_pos hl, h]
theorem fin_len {kp : Bool} {s s' : Store} {x : Val} (h : s'.length = s.length) : fin kp s x s' = (x, s') := by unfold fin; rw [if_pos h]
theorem src_len (cs : List Nat) (l m t : Nat) (r : Store) : (src cs l m t r).length = r.length + 2 := by simp [src]
/-! ### operations on ints -/
/-- a divisor's bound, kept away from arithmetic -/
def Fits (n : Nat) : Prop := n < 2 ^ 1000
def FitsI (j : Int) : Prop := j < 2 ^ 1000
theorem Fits.small {n : Nat} (h : n ≤ 2 ^ 64) : Fits n := Nat.lt_of_le_of_lt h (Nat.pow_lt_pow_right (by decide) (by decide))
theorem two1000 (n : Nat) (h : n < 2 ^ 1000) : (n : Int) < 2 ^ 1000 := by
  have h1 : ((2 ^ 1000 : Nat) : Int) = (2 : Int) ^ 1000 := Int.natCast_pow 2 1000
  rw [← h1]
  exact Int.ofNat_lt.mpr h
theorem Fits.i {n : Nat} (h : Fits n) : FitsI (n : Int) := two1000 n h
theorem Fits.max {n : Nat} (h : Fits n) : Fits (max 1 n) := by
  rcases Nat.le_total 1 n with z | z
  · rw [Nat.max_eq_right z]; exact h
  · rw [Nat.max_eq_left z]; exact Fits.small (by decide)
theorem pDiv_ok {i j : Int} (s : Store) (h1 : 0 < j) (h2 : FitsI j) : pDiv (.d (.int i)) (.d (.int j)) s = .ok (.d (.int (i / j))) s := by
  unfold pDiv pIc
  have h2' : j < 2 ^ 1000 := h2
  simp only [decide_eq_true h1, decide_eq_true h2', Bool.and_self, if_true]
theorem pMod_ok {i j : Int} (s : Store) (h1 : 0 < j) : pMod (.d (.int i)) (.d (.int j)) s = .ok (.d (.int (i % j))) s := by
  unfold pMod pIc
  simp only [decide_eq_true h1, if_true]
theorem pMul_okr {i j : Int} (s : Store) (h1 : -(2 ^ 64) < j) (h2 : j < 2 ^ 64) : pMul (.d (.int i)) (.d (.int j)) s = .ok (.d (.int (i * j))) s := by
  unfold pMul pIc
  simp only [decide_eq_true h1, decide_eq_true h2, Bool.and_self, Bool.or_true, if_true]
theorem pShl_ok {i j : Int} (s : Store) (h0 : 0 ≤ j) (h1 : j ≤ 1000000) (h2 : i.natAbs < 2 ^ 64) : pShl (.d (.int i)) (.d (.int j)) s = .ok (.d (.int (i * 2 ^ j.toNat))) s := by
  unfold pShl pIc
  simp only [decide_eq_true h0, decide_eq_true h1, decide_eq_true h2, Bool.and_self, if_true]
theorem pPow_ok {i j : Int} (s : Store) (h0 : 0 ≤ j) (h1 : j ≤ 1000000) (h2 : i.natAbs < 2 ^ 64) : pPow (.d (.int i)) (.d (.int j)) s = .ok (.d (.int (i ^ j.toNat))) s := by
  unfold pPow pIc
  simp only [decide_eq_true h0, decide_eq_true h1, decide_eq_true h2, Bool.and_self, if_true]
theorem pMax_ok (i j : Int) (s : Store) : pMax (.d (.int i)) (.d (.int j)) s = .ok (.d (.int (max i j))) s := rfl
theorem pMin_ok (i j : Int) (s : Store) : pMin (.d (.int i)) (.d (.int j)) s = .ok (.d (.int (min i j))) s := rfl
theorem pSub_ok (i j : Int) (s : Store) : pSub (.d (.int i)) (.d (.int j)) s = .ok (.d (.int (i - j))) s := rfl
theorem pAdd_ok (i j : Int) (s : Store) : pAdd (.d (.int i)) (.d (.int j)) s = .ok (.d (.int (i + j))) s := rfl
theorem pLt_ok (i j : Int) (s : Store) : pLt (.d (.int i)) (.d (.int j)) s = .ok (.d (.bl (decide (i < j)))) s := rfl
theorem pLe_ok (i j : Int) (s : Store) : pLe (.d (.int i)) (.d (.int j)) s = .ok (.d (.bl (decide (i ≤ j)))) s := rfl
theorem pGt_ok (i j : Int) (s : Store) : pGt (.d (.int i)) (.d (.int j)) s = .ok (.d (.bl (decide (j < i)))) s := rfl
theorem pGe_ok (i j : Int) (s : Store) : pGe (.d (.int i)) (.d (.int j)) s = .ok (.d (.bl (decide (j ≤ i)))) s := rfl
theorem pInt_ok (i : Int) (s : Store) : pInt (.d (.int i)) s = .ok (.d (.int i)) s := rfl
theorem pNeg_ok (i : Int) (s : Store) : pNeg (.d (.int i)) s = .ok (.d (.int (-i))) s := rfl
/-! ### step by step -/
theorem e1_ok {p : Val → Store → Res Val} {a : EC} {E : Env} {s s1 : Store} {x : Val} {r : Res Val} (ha : a E s = .ok x s1) (h : p x s1 = r) : Ev.e1 p a E s = r := by
  unfold Ev.e1; rw [ha]; exact h
theorem e2_ok {p : Val → Val → Store → Res Val} {a b : EC} {E : Env} {s s1 s2 : Store} {x y : Val} {r : Res Val} (ha : a E s = .ok x s1) (hb : b E s1 = .ok y s2) (h : p x y s2 = r) : e2 p a b E s = r := by
  unfold e2; rw [ha]; show ((b E s1).bind fun y s => p x y s) = r; rw [hb]; exact h
theorem k_ok {x : D} {E : Env} {s : Store} : k x E s = .ok (.d x) s := rfl
theorem v_ok {i : Nat} {x : Val} {E : Env} {s : Store} (h : E[i]? = some (some x)) : v i E s = .ok x s := by unfold v; rw [h]
theorem set_tn {i : Nat} {e : EC} {x : Val} {E : Env} {s s1 : Store} (h : e E s = .ok x s1) : sSet (tn i) e E s = .nx (E.set i (some x)) s1 := by unfold sSet tn; rw [h]; rfl
theorem sq_nx {a b : SC} {E E1 : Env} {s s1 : Store} {r : SRes} (h : a E s = .nx E1 s1) (h2 : b E1 s1 = r) : sq a b E s = r := by unfold sq; rw [h]; exact h2
theorem sq_rt {a b : SC} {E : Env} {s s1 : Store} {x : Val} (h : a E s = .rt x s1) : sq a b E s = .rt x s1 := by unfold sq; rw [h]; rfl
theorem sq_exc {a b : SC} {E E1 : Env} {s s1 : Store} {c : Nat} {fs : List (Str × D)} (h : a E s = .exc c fs E1 s1) : sq a b E s = .exc c fs E1 s1 := by unfold sq; rw [h]; rfl
def pkE (many l : Nat) (q : Option Val) : Env := [some (.loc 1), some (.d (.int many)), some (.d (.int l)), q]
theorem pk_0 (many l : Nat) (q : Option Val) (s : Store) : v 0 (pkE many l q) s = .ok (.loc 1) s := rfl
theorem pk_1 (many l : Nat) (q : Option Val) (s : Store) : v 1 (pkE many l q) s = .ok (.d (.int many)) s := rfl
theorem pk_3 (many l : Nat) (q : Val) (s : Store) : v 3 (pkE many l (some q)) s = .ok q s := rfl
theorem pk_set (many l : Nat) (q : Option Val) (z : Val) : (pkE many l q).set 3 (some z) = pkE many l (some z) := rfl
theorem pk_a (many l m t : Nat) (cs : List Nat) (r : Store) : sSet (ti (v 0) (k (.str "turn"))) (e2 pAdd (e2 pIx (v 0) (k (.str "turn"))) (k (.int 1))) (pkE many l none) (src cs l m t r) = .nx (pkE many l none) (src cs l m (t + 1) r) := by
  have p1 : ((t : Int) + 1) = ((t + 1 : Nat) : Int) := by omega
  simp only [sSet, ti, e2, k, pk_0, Res.bind_ok, ix_turn, pAdd_ok, p1, ofRes_ok, put_turn, Option.map_some]
theorem pk_b (many l m t x : Nat) (cs : List Nat) (r : Store) (hx : (m + t * 104729) % 998244353 = x) : sSet (tn 3) (e2 pMod (e1 pInt (e2 pAdd (e2 pIx (v 0) (k (.str "mixed"))) (e2 pMul (e2 pIx (v 0) (k (.str "turn"))) (k (.int 104729))))) (k (.int 998244353))) (pkE many l none) (src cs l m t r) = .nx (pkE many l (some (.d (.int x)))) (src cs l m t r) := by
  have m1 : ((m : Int) + (t : Int) * 104729) % 998244353 = (x : Int) := by omega
  refine (set_tn (e2_ok (e1_ok (e2_ok (e2_ok (pk_0 _ _ _ _) k_ok (ix_mixed _ _ _ _ _)) (e2_ok (e2_ok (pk_0 _ _ _ _) k_ok (ix_turn _ _ _ _ _)) k_ok (pMul_okr _ (by decide) (by decide))) (pAdd_ok _ _ _)) (pInt_ok _ _)) k_ok ((pMod_ok _ (by decide)).trans (by rw [m1])))).trans ?_
  rw [pk_set]
theorem pk_c (many l m t x y : Nat) (cs : List Nat) (r : Store) (hx : x < 998244353) (hy : (x * x + t * 17) % 2147483647 = y) : sSet (tn 3) (e2 pMod (e1 pInt (e2 pAdd (e2 pMul (v 3) (v 3)) (e2 pMul (e2 pIx (v 0) (k (.str "turn"))) (k (.int 17))))) (k (.int 2147483647))) (pkE many l (some (.d (.int x)))) (src cs l m t r) = .nx (pkE many l (some (.d (.int y)))) (src cs l m t r) := by
  have m2 : ((x : Int) * (x : Int) + (t : Int) * 17) % 2147483647 = (y : Int) := by
    have : (x : Int) * (x : Int) = ((x * x : Nat) : Int) := (Int.natCast_mul x x).symm
    rw [this]; omega
  refine (set_tn (e2_ok (e1_ok (e2_ok (e2_ok (pk_3 _ _ _ _) (pk_3 _ _ _ _) (pMul_okr _ (by omega) (by omega))) (e2_ok (e2_ok (pk_0 _ _ _ _) k_ok (ix_turn _ _ _ _ _)) k_ok (pMul_okr _ (by decide) (by decide))) (pAdd_ok _ _ _)) (pInt_ok _ _)) k_ok ((pMod_ok _ (by decide)).trans (by rw [m2])))).trans ?_
  rw [pk_set]
theorem pk_d (many l m t y : Nat) (cs : List Nat) (r : Store) : sSet (ti (v 0) (k (.str "mixed"))) (v 3) (pkE many l (some (.d (.int y)))) (src cs l m t r) = .nx (pkE many l (some (.d (.int y)))) (src cs l y t r) := by
  simp only [sSet, ti, k, pk_0, pk_3, ofRes_ok, put_mixed, Option.map_some]
theorem pk_f (many l m t y : Nat) (cs : List Nat) (r : Store) (hm : 0 < many) : sRet (e2 pMod (e1 pInt (e2 pDiv (v 3) (k (.int 16)))) (v 1)) (pkE many l (some (.d (.int y)))) (src cs l m t r) = .rt (.d (.int ((y / 16 % many : Nat) : Int))) (src cs l m t r) := by
  have q2 : (y : Int) / 16 % (many : Int) = ((y / 16 % many : Nat) : Int) := by rw [Int.natCast_emod, Int.natCast_ediv]; rfl
  have h : e2 pMod (e1 pInt (e2 pDiv (v 3) (k (.int 16)))) (v 1) (pkE many l (some (.d (.int y)))) (src cs l m t r) = .ok (.d (.int ((y / 16 % many : Nat) : Int))) (src cs l m t r) :=
    e2_ok (e1_ok (e2_ok (pk_3 _ _ _ _) k_ok (pDiv_ok _ (by decide) (Fits.i (n := 16) (Fits.small (by decide))))) (pInt_ok _ _)) (pk_1 _ _ _ _) ((pMod_ok _ (by omega)).trans (by rw [q2]))
  unfold sRet; rw [h]; rfl
theorem pk_end (many l' m t x y : Nat) (cs cs' : List Nat) (l : Nat) (r : Store) (h1 : ¬ many < 2) (h2 : ¬ 1 < l') (hx : (m + (t + 1) * 104729) % 998244353 = x) (hxl : x < 998244353) (hy : (x * x + (t + 1) * 17) % 2147483647 = y)
    (e : sWhl pickC pickL [some (.loc 1), some (.d (.int many)), none, none] (src cs l m t r) = .nx [some (.loc 1), some (.d (.int many)), none, none] (src cs' l' m t r)) :
    pickB [some (.loc 1), some (.d (.int many)), none, none] (src cs l m t r) = .rt (.d (.int ((y / 16 % many : Nat) : Int))) (src cs' l' y (t + 1) r) := by
  have c1 : decide ((many : Int) < 2) = false := decide_eq_false (by omega)
  have c2 : decide ((1 : Int) < (l' : Int)) = false := decide_eq_false (by omega)
  have bo : bor (bb (e2 pLt (v 1) (k (.int 2)))) (bb (e2 pGt (v 2) (k (.int 1)))) (pkE many l' none) (src cs' l' m t r) = .ok false (src cs' l' m t r) := by
    simp only [pkE, bor, bb, e2, v, k, List.getElem?_cons_zero, List.getElem?_cons_succ, Res.bind_ok, pLt_ok, pGt_ok, c1, c2, Bool.false_eq_true, if_false]
  unfold pickB
  refine sq_nx e (sq_nx (E1 := pkE many l' none) (s1 := src cs' l' m t r) (by rfl) (sq_nx (E1 := pkE many l' none) (s1 := src cs' l' m t r) ?_ (sq_nx (pk_a _ _ _ _ _ _) (sq_nx (pk_b _ _ _ _ _ _ _ hx) (sq_nx (pk_c _ _ _ _ _ _ _ _ hxl hy) (sq_nx (pk_d _ _ _ _ _ _ _) (sq_rt (pk_f _ _ _ _ _ _ _ (by omega)))))))))
  unfold sIf; rw [bo]; rfl
theorem pick_body (many : Nat) (cs : List Nat) (l m t : Nat) (r : Store) (hm : Fits many) (hc : cs.length < most) : ∃ (n : Nat) (cs' : List Nat) (l' m' t' : Nat), pickB [some (.loc 1), some (.d (.int many)), none, none] (src cs l m t r) = .rt (.d (.int n)) (src cs' l' m' t' r) ∧ n < max 1 many ∧ cs'.length ≤ cs.length := by
  obtain ⟨cs', l', e0, hl⟩ := whl_pick many m t r none none most cs l hc
  have e : sWhl pickC pickL [some (.loc 1), some (.d (.int many)), none, none] (src cs l m t r) = .nx [some (.loc 1), some (.d (.int many)), none, none] (src cs' l' m t r) := e0
  clear e0 hc
  have hmax : max (1 : Int) (many : Int) = ((max 1 many : Nat) : Int) := by omega
  by_cases h : many < 2 ∨ 1 < l'
  · refine ⟨l' % max 1 many, cs', l' / max 1 many, m, t, ?_, Nat.mod_lt _ (by omega), hl⟩
    have hp : (0 : Int) < ((max 1 many : Nat) : Int) := by omega
    have hb : FitsI ((max 1 many : Nat) : Int) := hm.max.i
    have h' : ((many : Int) < 2 ∨ (1 : Int) < (l' : Int)) := by omega
    have c1 : (decide ((many : Int) < 2) || decide ((1 : Int) < (l' : Int))) = true := by simpa using h'
    have q1 : (l' : Int) / ((max 1 many : Nat) : Int) = ((l' / max 1 many : Nat) : Int) := (Int.natCast_ediv _ _).symm
    have q2 : (l' : Int) % ((max 1 many : Nat) : Int) = ((l' % max 1 many : Nat) : Int) := (Int.natCast_emod _ _).symm
    have d1 := fun s => pDiv_ok (i := (l' : Int)) s hp hb
    have d2 := fun s => pMod_ok (i := (l' : Int)) s hp
    have bo : bor (bb (e2 pLt (v 1) (k (.int 2)))) (bb (e2 pGt (v 2) (k (.int 1)))) [some (.loc 1), some (.d (.int many)), some (.d (.int l')), none] (src cs' l' m t r) = .ok true (src cs' l' m t r) := by
      simp only [bor, bb, e2, v, k, List.getElem?_cons_zero, List.getElem?_cons_succ, Res.bind_ok, pLt_ok, pGt_ok]
      cases c2 : decide ((many : Int) < 2) with
      | true => rfl
      | false =>
        rw [c2, Bool.false_or] at c1
        rw [c1]; rfl
    unfold pickB
    simp only [sq, e, SRes.next_nx, sSet, tn, ofRes_ok, sIf]
    rw [show e2 pIx (v 0) (k (.str "left")) [some (.loc 1), some (.d (.int many)), none, none] (src cs' l' m t r) = .ok (.d (.int l')) (src cs' l' m t r) from rfl]
    simp only [sq, sIf, sSet, ofRes_ok, List.set_cons_zero, List.set_cons_succ, SRes.next_nx, bo, if_true]
    simp only [sq, sSet, sIf, sRet, sNil, e2, Ev.e1, v, k, List.getElem?_cons_zero, List.getElem?_cons_succ, Res.bind_ok, pMax_ok, pInt_ok, hmax, d1, d2, q1, q2, ti, put_left, Option.map_some, ofRes_ok, SRes.next_nx, sRet, SRes.next_rt]
  · have h1 : ¬ many < 2 := fun z => h (.inl z)
    have h2 : ¬ 1 < l' := fun z => h (.inr z)
    obtain ⟨x, hx⟩ : ∃ x, (m + (t + 1) * 104729) % 998244353 = x := ⟨_, rfl⟩
    have hxl : x < 998244353 := by rw [← hx]; exact Nat.mod_lt _ (by decide)
    obtain ⟨y, hy⟩ : ∃ y, (x * x + (t + 1) * 17) % 2147483647 = y := ⟨_, rfl⟩
    refine ⟨y / 16 % many, cs', l', y, t + 1, ?_, ?_, hl⟩
    · exact pk_end many l' m t x y cs cs' l r h1 h2 hx hxl hy e
    · have := Nat.mod_lt (y / 16) (show 0 < many by omega)
      omega
theorem pick_ok (many : Nat) (cs : List Nat) (l m t : Nat) (r : Store) (hm : Fits many) (hc : cs.length < most) : ∃ (n : Nat) (cs' : List Nat) (l' m' t' : Nat), runFn ⟨2, 4, false, pickB⟩ [.loc 1, .d (.int many)] (src cs l m t r) = .ok (.d (.int n)) (src cs' l' m' t' r) ∧ n < max 1 many ∧ cs'.length ≤ cs.length := by
  obtain ⟨n, cs', l', m', t', e, h1, h2⟩ := pick_body many cs l m t r hm hc
  refine ⟨n, cs', l', m', t', ?_, h1, h2⟩
  rw [runFn_rt rfl e, fin_len (by simp [src_len])]
end Ev
end
section
set_option linter.all false
set_option autoImplicit false
set_option maxRecDepth 100000
set_option maxHeartbeats 1000000
namespace Ev
open PySem L2
/-! ### more steps -/
theorem bb_ok {a : EC} {E : Env} {s s1 : Store} {b : Bool} (h : a E s = .ok (.d (.bl b)) s1) : bb a E s = .ok b s1 := by unfold bb; rw [h]; rfl
theorem bv_ok {a : EC} {E : Env} {s s1 : Store} {x : Val} {b : Bool} (h : a E s = .ok x s1) (ht : truth x s1 = some b) : bv a E s = .ok b s1 := by unfold bv; rw [h]; show (match truth x s1 with | some b => Res.ok b s1 | none => .fail) = _; rw [ht]
theorem bvb_ok {a : EC} {E : Env} {s s1 : Store} {b : Bool} (h : a E s = .ok (.d (.bl b)) s1) : bv a E s = .ok b s1 := bv_ok h rfl
theorem bnot_ok {a : BC} {E : Env} {s s1 : Store} {b : Bool} (h : a E s = .ok b s1) : bnot a E s = .ok (!b) s1 := by unfold bnot; rw [h]; rfl
theorem bor_t {a b : BC} {E : Env} {s s1 : Store} (h : a E s = .ok true s1) : bor a b E s = .ok true s1 := by unfold bor; rw [h]; rfl
theorem bor_f {a b : BC} {E : Env} {s s1 : Store} {r : Res Bool} (h : a E s = .ok false s1) (h2 : b E s1 = r) : bor a b E s = r := by unfold bor; rw [h]; exact h2
theorem band_f {a b : BC} {E : Env} {s s1 : Store} (h : a E s = .ok false s1) : band a b E s = .ok false s1 := by unfold band; rw [h]; rfl
theorem band_t {a b : BC} {E : Env} {s s1 : Store} {r : Res Bool} (h : a E s = .ok true s1) (h2 : b E s1 = r) : band a b E s = r := by unfold band; rw [h]; exact h2
theorem sIf_t {c : BC} {a b : SC} {E : Env} {s s1 : Store} {r : SRes} (h : c E s = .ok true s1) (h2 : a E s1 = r) : sIf c a b E s = r := by unfold sIf; rw [h]; exact h2
theorem sIf_f {c : BC} {a b : SC} {E : Env} {s s1 : Store} {r : SRes} (h : c E s = .ok false s1) (h2 : b E s1 = r) : sIf c a b E s = r := by unfold sIf; rw [h]; exact h2
theorem eif_t {c : BC} {a b : EC} {E : Env} {s s1 : Store} {r : Res Val} (h : c E s = .ok true s1) (h2 : a E s1 = r) : eif c a b E s = r := by unfold eif; rw [h]; exact h2
theorem eif_f {c : BC} {a b : EC} {E : Env} {s s1 : Store} {r : Res Val} (h : c E s = .ok false s1) (h2 : b E s1 = r) : eif c a b E s = r := by unfold eif; rw [h]; exact h2
theorem eand_t {a b : EC} {E : Env} {s s1 : Store} {x : Val} {r : Res Val} (h : a E s = .ok x s1) (ht : truth x s1 = some true) (h2 : b E s1 = r) : eand a b E s = r := by
  unfold eand; rw [h]; show (match truth x s1 with | some true => b E s1 | some false => Res.ok x s1 | none => .fail) = r; rw [ht]; exact h2
theorem eand_f {a b : EC} {E : Env} {s s1 : Store} {x : Val} (h : a E s = .ok x s1) (ht : truth x s1 = some false) : eand a b E s = .ok x s1 := by
  unfold eand; rw [h]; show (match truth x s1 with | some true => b E s1 | some false => Res.ok x s1 | none => .fail) = _; rw [ht]
theorem enot_ok {a : EC} {E : Env} {s s1 : Store} {x : Val} {t : Bool} (h : a E s = .ok x s1) (ht : truth x s1 = some t) : enot a E s = .ok (.d (.bl (!t))) s1 := by
  unfold enot; rw [h]; show (match truth x s1 with | some t => Res.ok (Val.d (D.bl (!t))) s1 | none => .fail) = _; rw [ht]
theorem a0_ok {E : Env} {s : Store} : a0 E s = .ok [] s := rfl
theorem ac_ok {a : EC} {r : AC} {E : Env} {s s1 s2 : Store} {x : Val} {xs : List Val} (h : a E s = .ok x s1) (h2 : r E s1 = .ok xs s2) : ac a r E s = .ok (x :: xs) s2 := by unfold ac; rw [h]; show ((r E s1).bind fun xs s => Res.ok (x :: xs) s) = _; rw [h2]; rfl
theorem call_ok {P : Calls} {f : Nat} {r : AC} {E : Env} {s s1 : Store} {xs : List Val} {q : Res Val} (h : r E s = .ok xs s1) (h2 : P f xs s1 = q) : call P f r E s = q := by unfold call; rw [h]; exact h2
theorem ret_ok {e : EC} {E : Env} {s s1 : Store} {x : Val} (h : e E s = .ok x s1) : sRet e E s = .rt x s1 := by unfold sRet; rw [h]; rfl
theorem exp_ok {e : EC} {E : Env} {s s1 : Store} {x : Val} (h : e E s = .ok x s1) : sExp e E s = .nx E s1 := by unfold sExp; rw [h]; rfl
theorem exp_exc {e : EC} {E : Env} {s s1 : Store} {c : Nat} {fs : List (Str × D)} (h : e E s = .exc c fs s1) : sExp e E s = .exc c fs E s1 := by unfold sExp; rw [h]; rfl
theorem set_ok {t : TC} {e : EC} {E E2 : Env} {s s1 s2 : Store} {x : Val} (h : e E s = .ok x s1) (h2 : t x E s1 = some (E2, s2)) : sSet t e E s = .nx E2 s2 := by unfold sSet; rw [h]; show (match t x E s1 with | some (E2, s2) => SRes.nx E2 s2 | none => .fail) = _; rw [h2]
theorem set_exc {t : TC} {e : EC} {E : Env} {s s1 : Store} {c : Nat} {fs : List (Str × D)} (h : e E s = .exc c fs s1) : sSet t e E s = .exc c fs E s1 := by unfold sSet; rw [h]; rfl
theorem tup_ok {r : AC} {E : Env} {s s1 : Store} {xs : List Val} {ds : List D} (h : r E s = .ok xs s1) (hd : allD xs = some ds) (hl : ds.length ≤ line) : tup r E s = .ok (.d (.tup ds)) s1 := by
  unfold tup ea; rw [h]; show mkT xs s1 = _; unfold mkT; rw [hd]; exact if_pos hl
theorem lst_ok {r : AC} {E : Env} {s s1 : Store} {xs : List Val} {ds : List D} (h : r E s = .ok xs s1) (hd : allD xs = some ds) (hl : ds.length ≤ line) : lst r E s = .ok (.d (.lst ds)) s1 := by
  unfold lst ea; rw [h]; show mkL xs s1 = _; unfold mkL; rw [hd]; exact if_pos hl
theorem raise_tup {c : Nat} {f : Str} {e : EC} {E : Env} {s s1 : Store} {xs : List D} (h : e E s = .ok (.d (.tup xs)) s1) : sRaise c .tuple f e E s = .exc c [(f, .tup xs)] E s1 := by unfold sRaise; rw [h]; rfl
theorem nottup {a : EC} {E : Env} {s : Store} (x : D) (h : a E s = .ok (.d x) s) : bnot (bv (Ev.e1 (pIsi [.tuple]) a)) E s = .ok (!(isT [.tuple] (tyD x))) s := bnot_ok (bvb_ok (e1_ok h rfl))
theorem mkL_ok {xs : List Val} {ds : List D} {s : Store} (hd : allD xs = some ds) (hl : ds.length ≤ line) : mkL xs s = .ok (.d (.lst ds)) s := by
  unfold mkL; rw [hd]; exact if_pos hl
theorem lcS_vals {ws : List Nat} {t : TC} {c : BC} {e : EC} {E : Env} {s s1 : Store} {xs ys : List Val} (hl : xs.length ≤ line) (h : lcV ws t c e E xs s = .ok ys s1) : lcS ws t c e E (.vals xs) s = .ok ys s1 := by
  have h1 : (if xs.length ≤ line then (lcV ws t c e E xs s).shut else .fail) = (lcV ws t c e E xs s).shut := if_pos hl
  show (if xs.length ≤ line then (lcV ws t c e E xs s).shut else .fail) = _
  rw [h1, h]; rfl
theorem lcG_ok {mk : List Val → Store → Res Val} {ws : List Nat} {t : TC} {i : IC} {c : BC} {e : EC} {E : Env} {s s1 s2 : Store} {sr : Src} {ys : List Val} {r : Res Val} (hi : i E s = .ok sr s1) (h : lcS ws t c e E sr s1 = .ok ys s2) (hm : mk ys s2 = r) : lcG mk ws t i c e E s = r := by
  unfold lcG; rw [hi]
  have : (Res.ok sr s1).bind (fun sr s1 => (lcS ws t c e E sr s1).bind mk) = (lcS ws t c e E sr s1).bind mk := rfl
  rw [this, h]; exact hm
theorem iRng1_ok {ln : EC} {E : Env} {s s1 : Store} {i : Int} (h : ln E s = .ok (.d (.int i)) s1) (hs : small i = true) : iRng1 ln E s = .ok (.vals ((rng 0 i).map .d)) s1 := by
  unfold iRng1; rw [h]; exact if_pos hs
theorem nil_nx {E : Env} {s : Store} : sNil E s = .nx E s := rfl
theorem forV_nx {t : TC} {b : SC} {x : Val} {xs : List Val} {E E1 E2 : Env} {s s1 s2 : Store} {r : SRes} (ht : t x E s = some (E1, s1)) (hb : b E1 s1 = .nx E2 s2) (hr : forV t b xs E2 s2 = r) : forV t b (x :: xs) E s = r := by
  simp only [forV]; rw [ht]; simp only; rw [hb]; exact hr
theorem forV_exc {t : TC} {b : SC} {x : Val} {xs : List Val} {E E1 E2 : Env} {s s1 s2 : Store} {c : Nat} {fs : List (Str × D)} (ht : t x E s = some (E1, s1)) (hb : b E1 s1 = .exc c fs E2 s2) : forV t b (x :: xs) E s = .exc c fs E2 s2 := by
  simp only [forV]; rw [ht]; simp only; rw [hb]
theorem forV_rt {t : TC} {b : SC} {x v : Val} {xs : List Val} {E E1 : Env} {s s1 s2 : Store} (ht : t x E s = some (E1, s1)) (hb : b E1 s1 = .rt v s2) : forV t b (x :: xs) E s = .rt v s2 := by
  simp only [forV]; rw [ht]; simp only; rw [hb]
theorem for_vals {t : TC} {i : IC} {b : SC} {xs : List Val} {E : Env} {s s1 : Store} {r : SRes} (h : i E s = .ok (.vals xs) s1) (h2 : forV t b xs E s1 = r) : sFor t i b E s = r := by unfold sFor; rw [h]; exact h2
theorem iEnum_tup {a : EC} {E : Env} {s s1 : Store} {xs : List D} (h : a E s = .ok (.d (.tup xs)) s1) : iEnum a E s = .ok (.vals ((enumD 0 xs).map .d)) s1 := by unfold iEnum; rw [h]; rfl
theorem sq_of {a b : SC} {E : Env} {s : Store} {r : SRes} (h : a E s = r) (hn : ∀ E s, r ≠ .nx E s) : sq a b E s = r := by
  unfold sq; rw [h]; cases r with
  | nx E s => exact absurd rfl (hn E s)
  | _ => rfl
/-- the truth of plain tests by value -/
theorem low_int (i : Int) : low (.int i) = true := by unfold low; exact decide_eq_true (by simp [toPy, PyData.depth])
/-! ### sizes -/
mutual
/-- a bound of a text's length -/
def wt : D → Nat
  | .non => 4
  | .bl _ => 5
  | .int _ => 61
  | .str x => (reprText x).length
  | .tup xs | .lst xs => wts xs + 3
  | .dct _ => 8
  | .scr _ => 0
def wts : List D → Nat
  | [] => 0
  | x :: xs => wt x + 2 + wts xs
end
/-- {'a': 1} -/
def isA1 : List (Key × D) → Bool
  | [(.inr z, .int i)] => decide (z = "a") && decide (i = 1)
  | _ => false
theorem isA1_eq {kvs : List (Key × D)} (h : isA1 kvs = true) : kvs = [(.inr "a", .int 1)] := by
  match kvs, h with
  | [(.inr z, .int i)], h =>
    simp only [isA1, Bool.and_eq_true, decide_eq_true_eq] at h
    rw [h.1, h.2]
mutual
/-- ints below 10^60, no dict but the empty one and {'a': 1} -/
def good : D → Bool
  | .non | .bl _ | .str _ => true
  | .int i => decide (i.natAbs < 10 ^ 60)
  | .tup xs | .lst xs => goods xs
  | .dct kvs => kvs.isEmpty || isA1 kvs
  | .scr _ => false
def goods : List D → Bool
  | [] => true
  | x :: xs => good x && goods xs
end
mutual
theorem shown_le : ∀ x : D, good x = true → (toPy x).shown.length ≤ wt x
  | .non, _ => by simp only [toPy, PyData.shown, wt]; decide
  | .bl b, _ => by cases b <;> simp only [toPy, PyData.shown, wt] <;> decide
  | .int i, h => by
    simp only [toPy, PyData.shown, wt]
    have h1 := int_text_length_le10 (k := 60) (by decide) (of_decide_eq_true h)
    rw [ofString_length]; omega
  | .str x, _ => by simp [toPy, PyData.shown, wt]
  | .tup xs, h => by
    simp only [toPy, PyData.shown, wt]
    have h1 := tupleText_len_le (PyData.shownAll (toPys xs))
    have h2 := showns_le xs (by simpa [good] using h)
    omega
  | .lst xs, h => by
    simp only [toPy, PyData.shown, wt]
    have h1 := listText_len_le (PyData.shownAll (toPys xs))
    have h2 := showns_le xs (by simpa [good] using h)
    omega
  | .dct kvs, h => by
    rcases (by simpa [good] using h : kvs = [] ∨ isA1 kvs = true) with e | e
    · subst e
      simp only [toPy, toPyKv, PyData.shown, PyData.shownKv, wt]; decide
    · rw [isA1_eq e]
      simp only [wt]; decide +kernel
  | .scr _, h => by simp [good] at h
theorem showns_le : ∀ xs : List D, goods xs = true → ((PyData.shownAll (toPys xs)).map (·.length)).sum + 2 * (PyData.shownAll (toPys xs)).length ≤ wts xs
  | [], _ => by simp [toPys, PyData.shownAll, wts]
  | x :: xs, h => by
    simp only [goods, Bool.and_eq_true] at h
    have h1 := shown_le x h.1
    have h2 := showns_le xs h.2
    simp only [toPys, PyData.shownAll, wts, List.map_cons, List.sum_cons, List.length_cons]
    omega
end
mutual
theorem showable_ok : ∀ x : D, good x = true → (toPy x).showable = true ∧ x.noscr = true
  | .non, _ => ⟨rfl, rfl⟩
  | .bl b, _ => ⟨rfl, rfl⟩
  | .int i, h => by
    refine ⟨?_, rfl⟩
    simp only [toPy, PyData.showable]
    have h1 : i.natAbs < 10 ^ 60 := of_decide_eq_true h
    refine decide_eq_true ?_
    by_cases h0 : i.natAbs = 0
    · rw [h0]; decide
    · exact (Nat.log2_lt h0).mpr (Nat.lt_trans h1 (by decide +kernel))
  | .str x, _ => ⟨rfl, rfl⟩
  | .tup xs, h => by
    have := showables_ok xs (by simpa [good] using h)
    simp only [toPy, PyData.showable, D.noscr]; exact this
  | .lst xs, h => by
    have := showables_ok xs (by simpa [good] using h)
    simp only [toPy, PyData.showable, D.noscr]; exact this
  | .dct kvs, h => by
    rcases (by simpa [good] using h : kvs = [] ∨ isA1 kvs = true) with e | e
    · subst e
      exact ⟨rfl, rfl⟩
    · rw [isA1_eq e]
      exact ⟨by decide +kernel, rfl⟩
  | .scr _, h => by simp [good] at h
theorem showables_ok : ∀ xs : List D, goods xs = true → PyData.showableAll (toPys xs) = true ∧ D.noscrs xs = true
  | [], _ => ⟨rfl, rfl⟩
  | x :: xs, h => by
    simp only [goods, Bool.and_eq_true] at h
    have h1 := showable_ok x h.1
    have h2 := showables_ok xs h.2
    simp only [toPys, PyData.showableAll, D.noscrs, h1.1, h1.2, h2.1, h2.2, Bool.and_self, and_self]
end
theorem repr_ok (x : D) (s : Store) (hg : good x = true) (hw : wt x ≤ line) (hd : (toPy x).depth ≤ 60) : pRepr (.d x) s = .ok (.d (.str (toPy x).shown)) s := by
  unfold pRepr
  have h1 := showable_ok x hg
  have h2 : (toPy x).shown.length ≤ line := Nat.le_trans (shown_le x hg) hw
  have h3 : low x = true := decide_eq_true hd
  simp only [deepV_d, h1.1, h1.2, h3, decide_eq_true h2, Bool.and_self, if_true]
end Ev
end
section
set_option linter.all false
set_option autoImplicit false
set_option maxRecDepth 100000
set_option maxHeartbeats 1000000
namespace Ev
open PySem L2
/-! ### symbolic steps, as rewriting -/
section
variable {x y z : Val} {a b c d : EC} {E : Env} {s s1 : Store} {i j : Int} {t u : Bool}
theorem x_k {q : D} : k q E s = .ok (.d q) s := rfl
theorem x_v {n : Nat} : v n E s = (match E[n]? with | some (some x) => .ok x s | _ => .fail) := rfl
theorem x_e1 {p : Val → Store → Res Val} : e1 p a E s = (a E s).bind p := rfl
theorem x_e2 {p : Val → Val → Store → Res Val} : e2 p a b E s = (a E s).bind fun x s => (b E s).bind fun y s => p x y s := rfl
theorem x_a0 : a0 E s = .ok [] s := rfl
theorem x_ac {r : AC} : ac a r E s = (a E s).bind fun x s => (r E s).bind fun xs s => .ok (x :: xs) s := rfl
theorem x_call {P : Calls} {f : Nat} {r : AC} : call P f r E s = (r E s).bind fun xs s1 => P f xs s1 := rfl
theorem x_tup {r : AC} : tup r E s = (r E s).bind mkT := rfl
theorem x_lst {r : AC} : lst r E s = (r E s).bind mkL := rfl
theorem mkT0 : mkT [] s = .ok (.d (.tup [])) s := rfl
theorem le_lineN {n : Nat} (h : Nat.ble n line = true) : n ≤ line := Nat.le_of_ble_eq_true h
theorem mkT1 {q0 : D} : mkT [.d q0] s = .ok (.d (.tup [q0])) s := by
  show (if ([q0] : List D).length ≤ line then Res.ok (Val.d (.tup [q0])) s else .fail) = _
  exact if_pos (le_lineN rfl)
theorem mkT2 {q0 q1 : D} : mkT [.d q0, .d q1] s = .ok (.d (.tup [q0, q1])) s := by
  show (if ([q0, q1] : List D).length ≤ line then Res.ok (Val.d (.tup [q0, q1])) s else .fail) = _
  exact if_pos (le_lineN rfl)
theorem mkT3 {q0 q1 q2 : D} : mkT [.d q0, .d q1, .d q2] s = .ok (.d (.tup [q0, q1, q2])) s := by
  show (if ([q0, q1, q2] : List D).length ≤ line then Res.ok (Val.d (.tup [q0, q1, q2])) s else .fail) = _
  exact if_pos (le_lineN rfl)
theorem mkT4 {q0 q1 q2 q3 : D} : mkT [.d q0, .d q1, .d q2, .d q3] s = .ok (.d (.tup [q0, q1, q2, q3])) s := by
  show (if ([q0, q1, q2, q3] : List D).length ≤ line then Res.ok (Val.d (.tup [q0, q1, q2, q3])) s else .fail) = _
  exact if_pos (le_lineN rfl)
theorem mkT5 {q0 q1 q2 q3 q4 : D} : mkT [.d q0, .d q1, .d q2, .d q3, .d q4] s = .ok (.d (.tup [q0, q1, q2, q3, q4])) s := by
  show (if ([q0, q1, q2, q3, q4] : List D).length ≤ line then Res.ok (Val.d (.tup [q0, q1, q2, q3, q4])) s else .fail) = _
  exact if_pos (le_lineN rfl)
theorem mkT6 {q0 q1 q2 q3 q4 q5 : D} : mkT [.d q0, .d q1, .d q2, .d q3, .d q4, .d q5] s = .ok (.d (.tup [q0, q1, q2, q3, q4, q5])) s := by
  show (if ([q0, q1, q2, q3, q4, q5] : List D).length ≤ line then Res.ok (Val.d (.tup [q0, q1, q2, q3, q4, q5])) s else .fail) = _
  exact if_pos (le_lineN rfl)
theorem mkL0 : mkL [] s = .ok (.d (.lst [])) s := rfl
theorem mkL1 {q0 : D} : mkL [.d q0] s = .ok (.d (.lst [q0])) s := by
  show (if ([q0] : List D).length ≤ line then Res.ok (Val.d (.lst [q0])) s else .fail) = _
  exact if_pos (le_lineN rfl)
theorem mkL2 {q0 q1 : D} : mkL [.d q0, .d q1] s = .ok (.d (.lst [q0, q1])) s := by
  show (if ([q0, q1] : List D).length ≤ line then Res.ok (Val.d (.lst [q0, q1])) s else .fail) = _
  exact if_pos (le_lineN rfl)
theorem mkL3 {q0 q1 q2 : D} : mkL [.d q0, .d q1, .d q2] s = .ok (.d (.lst [q0, q1, q2])) s := by
  show (if ([q0, q1, q2] : List D).length ≤ line then Res.ok (Val.d (.lst [q0, q1, q2])) s else .fail) = _
  exact if_pos (le_lineN rfl)
theorem mkL4 {q0 q1 q2 q3 : D} : mkL [.d q0, .d q1, .d q2, .d q3] s = .ok (.d (.lst [q0, q1, q2, q3])) s := by
  show (if ([q0, q1, q2, q3] : List D).length ≤ line then Res.ok (Val.d (.lst [q0, q1, q2, q3])) s else .fail) = _
  exact if_pos (le_lineN rfl)
theorem mkL5 {q0 q1 q2 q3 q4 : D} : mkL [.d q0, .d q1, .d q2, .d q3, .d q4] s = .ok (.d (.lst [q0, q1, q2, q3, q4])) s := by
  show (if ([q0, q1, q2, q3, q4] : List D).length ≤ line then Res.ok (Val.d (.lst [q0, q1, q2, q3, q4])) s else .fail) = _
  exact if_pos (le_lineN rfl)
theorem mkL6 {q0 q1 q2 q3 q4 q5 : D} : mkL [.d q0, .d q1, .d q2, .d q3, .d q4, .d q5] s = .ok (.d (.lst [q0, q1, q2, q3, q4, q5])) s := by
  show (if ([q0, q1, q2, q3, q4, q5] : List D).length ≤ line then Res.ok (Val.d (.lst [q0, q1, q2, q3, q4, q5])) s else .fail) = _
  exact if_pos (le_lineN rfl)
theorem mkL7 {q0 q1 q2 q3 q4 q5 q6 : D} : mkL [.d q0, .d q1, .d q2, .d q3, .d q4, .d q5, .d q6] s = .ok (.d (.lst [q0, q1, q2, q3, q4, q5, q6])) s := by
  show (if ([q0, q1, q2, q3, q4, q5, q6] : List D).length ≤ line then Res.ok (Val.d (.lst [q0, q1, q2, q3, q4, q5, q6])) s else .fail) = _
  exact if_pos (le_lineN rfl)
theorem mkL8 {q0 q1 q2 q3 q4 q5 q6 q7 : D} : mkL [.d q0, .d q1, .d q2, .d q3, .d q4, .d q5, .d q6, .d q7] s = .ok (.d (.lst [q0, q1, q2, q3, q4, q5, q6, q7])) s := by
  show (if ([q0, q1, q2, q3, q4, q5, q6, q7] : List D).length ≤ line then Res.ok (Val.d (.lst [q0, q1, q2, q3, q4, q5, q6, q7])) s else .fail) = _
  exact if_pos (le_lineN rfl)
theorem mkL9 {q0 q1 q2 q3 q4 q5 q6 q7 q8 : D} : mkL [.d q0, .d q1, .d q2, .d q3, .d q4, .d q5, .d q6, .d q7, .d q8] s = .ok (.d (.lst [q0, q1, q2, q3, q4, q5, q6, q7, q8])) s := by
  show (if ([q0, q1, q2, q3, q4, q5, q6, q7, q8] : List D).length ≤ line then Res.ok (Val.d (.lst [q0, q1, q2, q3, q4, q5, q6, q7, q8])) s else .fail) = _
  exact if_pos (le_lineN rfl)
theorem mkL10 {q0 q1 q2 q3 q4 q5 q6 q7 q8 q9 : D} : mkL [.d q0, .d q1, .d q2, .d q3, .d q4, .d q5, .d q6, .d q7, .d q8, .d q9] s = .ok (.d (.lst [q0, q1, q2, q3, q4, q5, q6, q7, q8, q9])) s := by
  show (if ([q0, q1, q2, q3, q4, q5, q6, q7, q8, q9] : List D).length ≤ line then Res.ok (Val.d (.lst [q0, q1, q2, q3, q4, q5, q6, q7, q8, q9])) s else .fail) = _
  exact if_pos (le_lineN rfl)
theorem mkL11 {q0 q1 q2 q3 q4 q5 q6 q7 q8 q9 q10 : D} : mkL [.d q0, .d q1, .d q2, .d q3, .d q4, .d q5, .d q6, .d q7, .d q8, .d q9, .d q10] s = .ok (.d (.lst [q0, q1, q2, q3, q4, q5, q6, q7, q8, q9, q10])) s := by
  show (if ([q0, q1, q2, q3, q4, q5, q6, q7, q8, q9, q10] : List D).length ≤ line then Res.ok (Val.d (.lst [q0, q1, q2, q3, q4, q5, q6, q7, q8, q9, q10])) s else .fail) = _
  exact if_pos (le_lineN rfl)
/-! tests -/
def kBb (x : Val) (s : Store) : Res Bool := match x with | .d (.bl b) => .ok b s | _ => .fail
def kBv (x : Val) (s : Store) : Res Bool := match truth x s with | some b => .ok b s | none => .fail
theorem x_bb : bb a E s = (a E s).bind kBb := rfl
theorem x_bv : bv a E s = (a E s).bind kBv := rfl
theorem kBb_bl : kBb (.d (.bl t)) s = .ok t s := rfl
theorem kBv_bl : kBv (.d (.bl t)) s = .ok t s := rfl
theorem kBv_int : kBv (.d (.int i)) s = .ok (i != 0) s := rfl
theorem kBv_non : kBv (.d .non) s = .ok false s := rfl
theorem x_bnot {q : BC} : bnot q E s = (q E s).bind fun x s => .ok (!x) s := rfl
theorem x_band {p q : BC} : band p q E s = (p E s).bind fun x s => bif x then q E s else .ok false s := by
  unfold band; congr 1; funext x s; cases x <;> rfl
theorem x_bor {p q : BC} : bor p q E s = (p E s).bind fun x s => bif x then .ok true s else q E s := by
  unfold bor; congr 1; funext x s; cases x <;> rfl
theorem ite_and : (bif t then Res.ok u s else Res.ok false s) = Res.ok (t && u) s := by cases t <;> rfl
theorem ite_or : (bif t then Res.ok true s else Res.ok u s) = Res.ok (t || u) s := by cases t <;> rfl
theorem x_yes : yes E s = .ok true s := rfl
/-! values by truth -/
def kAnd (x : Val) (f : Store → Res Val) (s : Store) : Res Val := match truth x s with | some true => f s | some false => .ok x s | none => .fail
def kOr (x : Val) (f : Store → Res Val) (s : Store) : Res Val := match truth x s with | some true => .ok x s | some false => f s | none => .fail
def kNot (x : Val) (s : Store) : Res Val := match truth x s with | some t => .ok (.d (.bl (!t))) s | none => .fail
theorem x_eand : eand a b E s = (a E s).bind fun x s => kAnd x (b E) s := rfl
theorem x_eor : eor a b E s = (a E s).bind fun x s => kOr x (b E) s := rfl
theorem x_enot : enot a E s = (a E s).bind kNot := rfl
theorem kAnd_bl {f : Store → Res Val} : kAnd (.d (.bl t)) f s = bif t then f s else .ok (.d (.bl false)) s := by cases t <;> rfl
theorem kOr_bl {f : Store → Res Val} : kOr (.d (.bl t)) f s = bif t then .ok (.d (.bl true)) s else f s := by cases t <;> rfl
theorem kNot_bl : kNot (.d (.bl t)) s = .ok (.d (.bl (!t))) s := rfl
theorem ite_andv : (bif t then Res.ok (Val.d (.bl u)) s else Res.ok (Val.d (.bl false)) s) = Res.ok (Val.d (.bl (t && u))) s := by cases t <;> rfl
theorem ite_orv : (bif t then Res.ok (Val.d (.bl true)) s else Res.ok (Val.d (.bl u)) s) = Res.ok (Val.d (.bl (t || u))) s := by cases t <;> rfl
def kCh (r : Val) (f : Store → Res Val) (s : Store) : Res Val := match r with | .d (.bl true) => f s | .d (.bl false) => .ok (.d (.bl false)) s | _ => .fail
theorem x_chain {p q : Val → Val → Store → Res Val} : chain p q a b c E s = (a E s).bind fun x s => (b E s).bind fun y s => (p x y s).bind fun r s => kCh r (fun s => (c E s).bind fun z s => q y z s) s := by
  unfold chain kCh; rfl
theorem kCh_bl {f : Store → Res Val} : kCh (.d (.bl t)) f s = bif t then f s else .ok (.d (.bl false)) s := by cases t <;> rfl
theorem x_eif {q : BC} : eif q a b E s = (q E s).bind fun x s => bif x then a E s else b E s := by
  unfold eif; congr 1; funext x s; cases x <;> rfl
/-! statements -/
theorem x_sq {p q : SC} : sq p q E s = (p E s).next q := rfl
theorem x_nil : sNil E s = .nx E s := rfl
theorem x_set {g : TC} : sSet g a E s = ofRes (a E s) E fun x s1 => match g x E s1 with | some (E2, s2) => .nx E2 s2 | none => .fail := rfl
def kSet (i : Nat) (E : Env) (x : Val) (s : Store) : SRes := .nx (E.set i (some x)) s
theorem x_setn {n : Nat} : sSet (tn n) a E s = ofRes (a E s) E fun x s1 => .nx (E.set n (some x)) s1 := rfl
theorem x_exp : sExp a E s = ofRes (a E s) E fun _ s1 => .nx E s1 := rfl
theorem x_ret : sRet a E s = ofRes (a E s) E fun x s1 => .rt x s1 := rfl
theorem x_retN : sRetN E s = .rt (.d .non) s := rfl
theorem x_if {q : BC} {m n : SC} : sIf q m n E s = ofRes (q E s) E fun x s1 => bif x then m E s1 else n E s1 := by
  unfold sIf; congr 1; funext x s; cases x <;> rfl
theorem next_ite {p q : SRes} {f : Env → Store → SRes} : (bif t then p else q).next f = bif t then p.next f else q.next f := by cases t <;> rfl
theorem bind_ite {A B : Type} {p q : Res A} {f : A → Store → Res B} : (bif t then p else q).bind f = bif t then p.bind f else q.bind f := by cases t <;> rfl
theorem ofRes_ite {A : Type} {p q : Res A} {f : A → Store → SRes} : ofRes (bif t then p else q) E f = bif t then ofRes p E f else ofRes q E f := by cases t <;> rfl
/-! subscripts by written places -/
section
variable {q0 q1 q2 q3 q4 q5 : D} {r : List D}
theorem ixt0 : pIx (.d (.tup (q0 :: r))) (.d (.int 0)) s = .ok (.d q0) s := by
  have h : ixN (q0 :: r).length 0 = some 0 := by unfold ixN; rw [if_pos (Int.le_refl _), if_pos (by simp only [List.length_cons]; omega)]; rfl
  simp only [pIx, h]; rfl
theorem ixt1 : pIx (.d (.tup (q0 :: q1 :: r))) (.d (.int 1)) s = .ok (.d q1) s := by
  have h : ixN (q0 :: q1 :: r).length 1 = some 1 := by unfold ixN; rw [if_pos (by decide), if_pos (by simp only [List.length_cons]; omega)]; rfl
  simp only [pIx, h]; rfl
theorem ixt2 : pIx (.d (.tup (q0 :: q1 :: q2 :: r))) (.d (.int 2)) s = .ok (.d q2) s := by
  have h : ixN (q0 :: q1 :: q2 :: r).length 2 = some 2 := by unfold ixN; rw [if_pos (by decide), if_pos (by simp only [List.length_cons]; omega)]; rfl
  simp only [pIx, h]; rfl
theorem ixt3 : pIx (.d (.tup (q0 :: q1 :: q2 :: q3 :: r))) (.d (.int 3)) s = .ok (.d q3) s := by
  have h : ixN (q0 :: q1 :: q2 :: q3 :: r).length 3 = some 3 := by unfold ixN; rw [if_pos (by decide), if_pos (by simp only [List.length_cons]; omega)]; rfl
  simp only [pIx, h]; rfl
theorem ixt4 : pIx (.d (.tup (q0 :: q1 :: q2 :: q3 :: q4 :: r))) (.d (.int 4)) s = .ok (.d q4) s := by
  have h : ixN (q0 :: q1 :: q2 :: q3 :: q4 :: r).length 4 = some 4 := by unfold ixN; rw [if_pos (by decide), if_pos (by simp only [List.length_cons]; omega)]; rfl
  simp only [pIx, h]; rfl
end
theorem x_len_tup {r : List D} : pLen (.d (.tup r)) s = .ok (.d (.int r.length)) s := rfl
theorem x_len_lst {r : List D} : pLen (.d (.lst r)) s = .ok (.d (.int r.length)) s := rfl
theorem x_isi {ts : List Ty} {q : D} : pIsi ts (.d q) s = .ok (.d (.bl (isT ts (tyD q)))) s := rfl
theorem x_isN {q : D} : pIsN (.d q) s = .ok (.d (.bl (match q with | .non => true | _ => false))) s := by cases q <;> rfl
theorem x_notN {q : D} : pNotN (.d q) s = .ok (.d (.bl (match q with | .non => false | _ => true))) s := by cases q <;> rfl
theorem if_false' {A : Type} {p q : A} : (bif false then p else q) = q := rfl
theorem if_true' {A : Type} {p q : A} : (bif true then p else q) = p := rfl
end
end Ev
namespace Ev
open PySem L2
section
variable {x y z : Val} {a b c d : EC} {E : Env} {s s1 : Store} {i j : Int} {t u : Bool}
def kRaise (c : Nat) (h : How) (f : Str) (E : Env) (x : Val) (s : Store) : SRes := match keepAs h f x s with | some fs => .exc c fs E s | none => .fail
theorem x_raise {c : Nat} {h : How} {f : Str} : sRaise c h f a E s = ofRes (a E s) E (kRaise c h f E) := rfl
theorem kRaise_t {c : Nat} {f : Str} {xs : List D} : kRaise c .tuple f E (.d (.tup xs)) s = .exc c [(f, .tup xs)] E s := rfl
theorem kRaise_p {c : Nat} {f : Str} {q : D} : kRaise c .plain f E (.d q) s = .exc c [(f, q)] E s := rfl
def kFor (t : TC) (b : SC) (E : Env) (sr : Src) (s : Store) : SRes := match sr with | .vals xs => forV t b xs E s | .live n => forN t b n most 0 E s
theorem x_for {g : TC} {ic : IC} {m : SC} : sFor g ic m E s = ofRes (ic E s) E (kFor g m E) := rfl
theorem kFor_v {g : TC} {m : SC} {xs : List Val} : kFor g m E (.vals xs) s = forV g m xs E s := rfl
def kTurn (r : SRes) (f : Env → Store → SRes) : SRes := match r with | .nx E s => f E s | .ct E s => f E s | .bk E s => .nx E s | r => r
theorem forV_nil' {g : TC} {m : SC} : forV g m [] E s = .nx E s := rfl
theorem forV_cons' {g : TC} {m : SC} {x : Val} {xs : List Val} : forV g m (x :: xs) E s = match g x E s with | none => .fail | some (E1, s1) => kTurn (m E1 s1) (forV g m xs) := rfl
theorem kTurn_nx {f : Env → Store → SRes} : kTurn (.nx E s) f = f E s := rfl
theorem kTurn_ct {f : Env → Store → SRes} : kTurn (.ct E s) f = f E s := rfl
theorem kTurn_bk {f : Env → Store → SRes} : kTurn (.bk E s) f = .nx E s := rfl
theorem kTurn_rt {f : Env → Store → SRes} : kTurn (.rt x s) f = .rt x s := rfl
theorem kTurn_exc {c : Nat} {fs : List (PySem.Str × D)} {f : Env → Store → SRes} : kTurn (.exc c fs E s) f = .exc c fs E s := rfl
theorem kTurn_ite {p q : SRes} {f : Env → Store → SRes} : kTurn (bif t then p else q) f = bif t then kTurn p f else kTurn q f := by cases t <;> rfl
def kSeq (x : Val) (s : Store) : Res Src := match x with
  | .d (.tup xs) => .ok (.vals (xs.map .d)) s
  | .d (.lst xs) => .ok (.vals (xs.map .d)) s
  | .d (.scr ns) => .ok (.vals (ns.map fun i => .d (.int i))) s
  | .loc n => match (s[n]?).bind obItems with | some _ => .ok (.live n) s | _ => .fail
  | _ => .fail
theorem x_iSeq : iSeq a E s = (a E s).bind kSeq := rfl
theorem kSeq_t {xs : List D} : kSeq (.d (.tup xs)) s = .ok (.vals (xs.map .d)) s := rfl
theorem kSeq_l {xs : List D} : kSeq (.d (.lst xs)) s = .ok (.vals (xs.map .d)) s := rfl
theorem x_iEnum : iEnum a E s = (a E s).bind enumS := rfl
theorem enumS_t {xs : List D} : enumS (.d (.tup xs)) s = .ok (.vals ((enumD 0 xs).map .d)) s := rfl
theorem enumS_l {xs : List D} : enumS (.d (.lst xs)) s = .ok (.vals ((enumD 0 xs).map .d)) s := rfl
def kR1 (x : Val) (s : Store) : Res Src := match x with | .d (.int i) => if small i then .ok (.vals ((rng 0 i).map .d)) s else .fail | _ => .fail
theorem x_iR1 : iRng1 a E s = (a E s).bind kR1 := rfl
theorem kR1_ok (h : small i = true) : kR1 (.d (.int i)) s = .ok (.vals ((rng 0 i).map .d)) s := if_pos h
def kR2 (x y : Val) (s : Store) : Res Src := match x, y with
  | .d (.int i), .d (.int j) => if small i && small j then .ok (.vals ((rng i j).map .d)) s else .fail
  | _, _ => .fail
theorem x_iR2 : iRng2 a b E s = (a E s).bind fun x s => (b E s).bind fun y s => kR2 x y s := rfl
theorem kR2_ok (h : (small i && small j) = true) : kR2 (.d (.int i)) (.d (.int j)) s = .ok (.vals ((rng i j).map .d)) s := if_pos h
theorem low_str (x : Str) : low (.str x) = true := by unfold low; exact decide_eq_true (by simp [toPy, PyData.depth])
theorem eqD_str (x y : Str) : eqD (.str x) (.str y) = decide (x = y) := by simp only [eqD, toPy, PyData.eqv]; rfl
theorem eqD_int (i j : Int) : eqD (.int i) (.int j) = decide (i = j) := by simp only [eqD, toPy, PyData.eqv]; rfl
theorem pNe_int : pNe (.d (.int i)) (.d (.int j)) s = .ok (.d (.bl (!decide (i = j)))) s := by
  unfold pNe pEqB
  simp only [deepV_d, D.plain, low_int, Bool.or_self, Bool.and_self, if_true, Bool.true_xor, eqD_int]
theorem pEq_int : pEq (.d (.int i)) (.d (.int j)) s = .ok (.d (.bl (decide (i = j)))) s := by
  unfold pEq pEqB
  simp only [deepV_d, D.plain, low_int, Bool.or_self, Bool.and_self, if_true, Bool.false_xor, eqD_int]
theorem pNe_str {p q : Str} : pNe (.d (.str p)) (.d (.str q)) s = .ok (.d (.bl (!decide (p = q)))) s := by
  unfold pNe pEqB
  simp only [deepV_d, D.plain, low_str, Bool.or_self, Bool.and_self, if_true, Bool.true_xor, eqD_str]
/-- a call that leaves the store -/
theorem run_rt {f : Fn} {xs : List Val} {s : Store} {x : Val} (hl : xs.length = f.pars) (h : f.body (xs.map some ++ List.replicate (f.slots - f.pars) none) s = .rt x s) : runFn f xs s = .ok x s := by
  rw [runFn_rt hl h, fin_same]
theorem run_nx {f : Fn} {xs : List Val} {s : Store} {E : Env} (hl : xs.length = f.pars) (h : f.body (xs.map some ++ List.replicate (f.slots - f.pars) none) s = .nx E s) : runFn f xs s = .ok (.d .non) s := by
  rw [runFn_nx hl h, fin_same]
theorem run_exc {f : Fn} {xs : List Val} {s : Store} {E : Env} {c : Nat} {fs : List (PySem.Str × D)} (hl : xs.length = f.pars) (h : f.body (xs.map some ++ List.replicate (f.slots - f.pars) none) s = .exc c fs E s) : runFn f xs s = .exc c fs s := by
  rw [runFn_exc hl h, fin_same]
/-! comprehensions over data -/
theorem lcV_map {ws : List Nat} {g : TC} {c : BC} {e : EC} (p : D → Bool) (f : D → D) : ∀ (xs : List D), (∀ q ∈ xs, ∃ E', g (.d q) (wipe E ws) s = some (E', s) ∧ c E' s = .ok (p q) s ∧ (p q = true → e E' s = .ok (.d (f q)) s)) → lcV ws g c e E (xs.map .d) s = .ok (((xs.filter p).map f).map .d) s
  | [], _ => rfl
  | q :: xs, h => by
    have ih := lcV_map (ws := ws) (g := g) (c := c) (e := e) p f xs fun z hz => h z (List.mem_cons_of_mem _ hz)
    obtain ⟨E', h1, h2, h3⟩ := h q List.mem_cons_self
    simp only [List.map_cons, lcV, lcT, h1, h2, Res.bind_ok]
    cases hp : p q with
    | true => simp only [if_true, h3 hp, Res.bind_ok, ih, List.filter_cons, hp, List.map_cons]
    | false => simp only [Bool.false_eq_true, if_false, ih, List.filter_cons, hp]
theorem lc_map {ws : List Nat} {g : TC} {ic : IC} {c : BC} {e : EC} {xs : List D} (p : D → Bool) (f : D → D) (hi : ic E s = .ok (.vals (xs.map .d)) s) (hl : xs.length ≤ line)
    (h : ∀ q ∈ xs, ∃ E', g (.d q) (wipe E ws) s = some (E', s) ∧ c E' s = .ok (p q) s ∧ (p q = true → e E' s = .ok (.d (f q)) s)) : lc ws g ic c e E s = .ok (.d (.lst ((xs.filter p).map f))) s := by
  have h1 := lcV_map (ws := ws) (g := g) (c := c) (e := e) (E := E) (s := s) p f xs h
  exact lcG_ok hi (lcS_vals (by rw [List.length_map]; exact hl) h1) (mkL_ok (allD_map _) (by rw [List.length_map]; exact Nat.le_trans (List.length_filter_le _ _) hl))
theorem rng_mem {i j : Int} {q : D} (h : q ∈ rng i j) : ∃ x : Int, q = .int x ∧ i ≤ x ∧ x < j := by
  simp only [rng, List.mem_map, List.mem_range] at h
  obtain ⟨n, h1, rfl⟩ := h
  exact ⟨_, rfl, by omega, by omega⟩
end
end Ev
namespace Ev
theorem if_not' {A : Type} {t : Bool} {p q : A} : (bif !t then p else q) = bif t then q else p := by cases t <;> rfl
end Ev
namespace Ev
/-- a body's end as a call's -/
noncomputable def finR (kp : Bool) (s : Store) (r : SRes) : Res Val := match r with
  | .nx _ s1 => .ok (fin kp s (.d .non) s1).1 (fin kp s (.d .non) s1).2
  | .rt x s1 => .ok (fin kp s x s1).1 (fin kp s x s1).2
  | .exc c fs _ s1 => .exc c fs (fin kp s (.d .non) s1).2
  | _ => .fail
theorem run_body {f : Fn} {xs : List Val} {s : Store} (hl : xs.length = f.pars) : runFn f xs s = finR f.keep s (f.body (xs.map some ++ List.replicate (f.slots - f.pars) none) s) := by
  unfold runFn finR; rw [if_pos hl] <;> (cases f.body (xs.map some ++ List.replicate (f.slots - f.pars) none) s <;> rfl)
theorem finR_bif {kp t : Bool} {s : Store} {p q : SRes} : finR kp s (bif t then p else q) = bif t then finR kp s p else finR kp s q := by cases t <;> rfl
theorem finR_rt {kp : Bool} {s : Store} {x : Val} : finR kp s (.rt x s) = .ok x s := by simp only [finR, fin_same]
theorem finR_nx {kp : Bool} {s : Store} {E : Env} : finR kp s (.nx E s) = .ok (.d .non) s := by simp only [finR, fin_same]
theorem finR_exc {kp : Bool} {s : Store} {E : Env} {c : Nat} {fs : List (PySem.Str × D)} : finR kp s (.exc c fs E s) = .exc c fs s := by simp only [finR, fin_same]
end Ev
namespace Ev
open PySem L2
section
variable {E E1 E2 : Env} {s s1 : Store} {b u : SC} {c i : Nat} {o : List Nat} {fs : List (PySem.Str × D)} {x : Val}
theorem try_nx (h : b E s = .nx E1 s1) : sTry b c o i u E s = .nx E1 s1 := by unfold sTry; rw [h]
theorem try_rt (h : b E s = .rt x s1) : sTry b c o i u E s = .rt x s1 := by unfold sTry; rw [h]
theorem try_exc (h : b E s = .exc c fs E1 s1) (hi : i < E1.length) (hu : u (E1.set i (some (.exn c fs))) s1 = .nx E2 s1) (hn : (E2.set i none).all noExn = true) : sTry b c o i u E s = .nx (E2.set i none) s1 := by
  unfold sTry; rw [h]; simp only [if_true, if_pos hi, hu, hn, or_true]
theorem try_exc_rt {q : D} (h : b E s = .exc c fs E1 s1) (hi : i < E1.length) (hu : u (E1.set i (some (.exn c fs))) s1 = .rt (.d q) s1) : sTry b c o i u E s = .rt (.d q) s1 := by
  unfold sTry; rw [h]; simp only [if_true, if_pos hi, hu, or_true]
end
/-! sizes -/
theorem wts_le {m : Nat} : ∀ {xs : List D}, (∀ x ∈ xs, wt x ≤ m) → wts xs ≤ xs.length * (m + 2)
  | [], _ => by simp [wts]
  | x :: xs, h => by
    have h1 := h x List.mem_cons_self
    have h2 := wts_le (xs := xs) fun y hy => h y (List.mem_cons_of_mem _ hy)
    rw [wts, List.length_cons, Nat.add_mul]; omega
theorem goods_all : ∀ {xs : List D}, (∀ x ∈ xs, good x = true) → goods xs = true
  | [], _ => rfl
  | x :: xs, h => by
    rw [goods, h x List.mem_cons_self, goods_all fun y hy => h y (List.mem_cons_of_mem _ hy)]; rfl
theorem depths_le {m : Nat} : ∀ {xs : List D}, (∀ x ∈ xs, (toPy x).depth ≤ m) → PyData.depthAll (toPys xs) ≤ m
  | [], _ => by simp [toPys, PyData.depthAll]
  | x :: xs, h => by
    have h1 := h x List.mem_cons_self
    have h2 := depths_le (xs := xs) fun y hy => h y (List.mem_cons_of_mem _ hy)
    simp only [toPys, PyData.depthAll]; omega
end Ev
namespace Ev
open PySem L2
section
variable {s : Store} {r : List D}
theorem ixl0 {q0 : D} : pIx (.d (.lst (q0 :: r))) (.d (.int 0)) s = .ok (.d q0) s := by
  have h : ixN (q0 :: r).length 0 = some 0 := by unfold ixN; rw [if_pos (Int.le_refl _), if_pos (by simp only [List.length_cons]; omega)]; rfl
  simp only [pIx, h]; rfl
theorem ixl1 {q0 q1 : D} : pIx (.d (.lst (q0 :: q1 :: r))) (.d (.int 1)) s = .ok (.d q1) s := by
  have h : ixN (q0 :: q1 :: r).length 1 = some 1 := by unfold ixN; rw [if_pos (by decide), if_pos (by simp only [List.length_cons]; omega)]; rfl
  simp only [pIx, h]; rfl
theorem ixl2 {q0 q1 q2 : D} : pIx (.d (.lst (q0 :: q1 :: q2 :: r))) (.d (.int 2)) s = .ok (.d q2) s := by
  have h : ixN (q0 :: q1 :: q2 :: r).length 2 = some 2 := by unfold ixN; rw [if_pos (by decide), if_pos (by simp only [List.length_cons]; omega)]; rfl
  simp only [pIx, h]; rfl
theorem ixl3 {q0 q1 q2 q3 : D} : pIx (.d (.lst (q0 :: q1 :: q2 :: q3 :: r))) (.d (.int 3)) s = .ok (.d q3) s := by
  have h : ixN (q0 :: q1 :: q2 :: q3 :: r).length 3 = some 3 := by unfold ixN; rw [if_pos (by decide), if_pos (by simp only [List.length_cons]; omega)]; rfl
  simp only [pIx, h]; rfl
theorem ixl4 {q0 q1 q2 q3 q4 : D} : pIx (.d (.lst (q0 :: q1 :: q2 :: q3 :: q4 :: r))) (.d (.int 4)) s = .ok (.d q4) s := by
  have h : ixN (q0 :: q1 :: q2 :: q3 :: q4 :: r).length 4 = some 4 := by unfold ixN; rw [if_pos (by decide), if_pos (by simp only [List.length_cons]; omega)]; rfl
  simp only [pIx, h]; rfl
theorem ixl5 {q0 q1 q2 q3 q4 q5 : D} : pIx (.d (.lst (q0 :: q1 :: q2 :: q3 :: q4 :: q5 :: r))) (.d (.int 5)) s = .ok (.d q5) s := by
  have h : ixN (q0 :: q1 :: q2 :: q3 :: q4 :: q5 :: r).length 5 = some 5 := by unfold ixN; rw [if_pos (by decide), if_pos (by simp only [List.length_cons]; omega)]; rfl
  simp only [pIx, h]; rfl
theorem ixl6 {q0 q1 q2 q3 q4 q5 q6 : D} : pIx (.d (.lst (q0 :: q1 :: q2 :: q3 :: q4 :: q5 :: q6 :: r))) (.d (.int 6)) s = .ok (.d q6) s := by
  have h : ixN (q0 :: q1 :: q2 :: q3 :: q4 :: q5 :: q6 :: r).length 6 = some 6 := by unfold ixN; rw [if_pos (by decide), if_pos (by simp only [List.length_cons]; omega)]; rfl
  simp only [pIx, h]; rfl
theorem ixl7 {q0 q1 q2 q3 q4 q5 q6 q7 : D} : pIx (.d (.lst (q0 :: q1 :: q2 :: q3 :: q4 :: q5 :: q6 :: q7 :: r))) (.d (.int 7)) s = .ok (.d q7) s := by
  have h : ixN (q0 :: q1 :: q2 :: q3 :: q4 :: q5 :: q6 :: q7 :: r).length 7 = some 7 := by unfold ixN; rw [if_pos (by decide), if_pos (by simp only [List.length_cons]; omega)]; rfl
  simp only [pIx, h]; rfl
theorem ixt5 {q0 q1 q2 q3 q4 q5 : D} : pIx (.d (.tup (q0 :: q1 :: q2 :: q3 :: q4 :: q5 :: r))) (.d (.int 5)) s = .ok (.d q5) s := by
  have h : ixN (q0 :: q1 :: q2 :: q3 :: q4 :: q5 :: r).length 5 = some 5 := by unfold ixN; rw [if_pos (by decide), if_pos (by simp only [List.length_cons]; omega)]; rfl
  simp only [pIx, h]; rfl
theorem ixt6 {q0 q1 q2 q3 q4 q5 q6 : D} : pIx (.d (.tup (q0 :: q1 :: q2 :: q3 :: q4 :: q5 :: q6 :: r))) (.d (.int 6)) s = .ok (.d q6) s := by
  have h : ixN (q0 :: q1 :: q2 :: q3 :: q4 :: q5 :: q6 :: r).length 6 = some 6 := by unfold ixN; rw [if_pos (by decide), if_pos (by simp only [List.length_cons]; omega)]; rfl
  simp only [pIx, h]; rfl
theorem ixt7 {q0 q1 q2 q3 q4 q5 q6 q7 : D} : pIx (.d (.tup (q0 :: q1 :: q2 :: q3 :: q4 :: q5 :: q6 :: q7 :: r))) (.d (.int 7)) s = .ok (.d q7) s := by
  have h : ixN (q0 :: q1 :: q2 :: q3 :: q4 :: q5 :: q6 :: q7 :: r).length 7 = some 7 := by unfold ixN; rw [if_pos (by decide), if_pos (by simp only [List.length_cons]; omega)]; rfl
  simp only [pIx, h]; rfl
theorem exF_one {c : Nat} {f : PySem.Str} {z : D} : exF c f (.exn c [(f, z)]) s = .ok (.d z) s := by simp [exF, List.lookup]
theorem dlt {i j : Int} : decide (i < j) = !decide (j ≤ i) := by by_cases h : j ≤ i <;> simp [h] <;> omega
end
end Ev
namespace Ev
open PySem L2
section
variable {E : Env} {s : Store}
theorem lc_all {ws : List Nat} {g : TC} {ic : IC} {c : BC} {e : EC} {xs : List D} (f : D → D) (hi : ic E s = .ok (.vals (xs.map .d)) s) (hl : xs.length ≤ line)
    (h : ∀ q ∈ xs, ∃ E', g (.d q) (wipe E ws) s = some (E', s) ∧ c E' s = .ok true s ∧ e E' s = .ok (.d (f q)) s) : lc ws g ic c e E s = .ok (.d (.lst (xs.map f))) s := by
  have := lc_map (ws := ws) (g := g) (c := c) (e := e) (E := E) (s := s) (fun _ => true) f hi hl fun q hq => by
    obtain ⟨E', h1, h2, h3⟩ := h q hq
    exact ⟨E', h1, h2, fun _ => h3⟩
  rw [List.filter_eq_self.mpr (fun _ _ => rfl)] at this
  exact this
theorem lc2V_all {ws ws1 : List Nat} {g g1 : TC} {i1 : IC} {c c1 : BC} {e : EC} (ys : D → List D) (f : D → D → D) : ∀ (xs : List D), (∀ q ∈ xs, ∃ E1, g (.d q) (wipe E ws) s = some (E1, s) ∧ c E1 s = .ok true s ∧ i1 E1 s = .ok (.vals ((ys q).map .d)) s ∧
      ∀ r ∈ ys q, ∃ E2, g1 (.d r) (wipe E1 ws1) s = some (E2, s) ∧ c1 E2 s = .ok true s ∧ e E2 s = .ok (.d (f q r)) s) → lc2V ws g c ws1 g1 i1 c1 e E (xs.map .d) s = .ok ((xs.flatMap fun q => (ys q).map (f q)).map .d) s
  | [], _ => rfl
  | q :: xs, h => by
    have ih := lc2V_all ys f xs fun z hz => h z (List.mem_cons_of_mem _ hz)
    obtain ⟨E1, h1, h2, h3, h4⟩ := h q List.mem_cons_self
    have h5 := lcV_map (ws := ws1) (g := g1) (c := c1) (e := e) (E := E1) (s := s) (fun _ => true) (f q) (ys q) fun r hr => by
      obtain ⟨E2, a1, a2, a3⟩ := h4 r hr
      exact ⟨E2, a1, a2, fun _ => a3⟩
    rw [List.filter_eq_self.mpr (fun _ _ => rfl)] at h5
    simp only [List.map_cons, lc2V, h1, h2, h3, h5, ih, Res.bind_ok, if_true, List.flatMap_cons, List.map_append]
theorem lc2S_all {ws ws1 : List Nat} {g g1 : TC} {i1 : IC} {c c1 : BC} {e : EC} {xs : List D} {zs : List D} (h : lc2V ws g c ws1 g1 i1 c1 e E (xs.map .d) s = .ok (zs.map .d) s) (hl : zs.length < line) : lc2S ws g c ws1 g1 i1 c1 e E (.vals (xs.map .d)) s = .ok (zs.map .d) s := by
  have : (zs.map Val.d).length < line := by rw [List.length_map]; exact hl
  simp only [lc2S, h, Res.bind_ok, if_pos this, Res.shut_ok]
theorem mkLA_d {zs : List D} : mkLA (zs.map .d) s = .ok (.loc s.length) (s ++ [.lst zs]) := by unfold mkLA; rw [allD_map]
theorem lc2A_ok {ws ws1 : List Nat} {g g1 : TC} {ic i1 : IC} {c c1 : BC} {e : EC} {xs : List D} {zs : List D} (hi : ic E s = .ok (.vals (xs.map .d)) s) (h : lc2V ws g c ws1 g1 i1 c1 e E (xs.map .d) s = .ok (zs.map .d) s) (hl : zs.length < line) :
    lc2A ws g ic c ws1 g1 i1 c1 e E s = .ok (.loc s.length) (s ++ [.lst zs]) := by
  unfold lc2A lc2G; rw [hi]
  show ((lc2S ws g c ws1 g1 i1 c1 e E (.vals (xs.map .d)) s).bind mkLA) = _
  rw [lc2S_all h hl]
  exact mkLA_d
theorem finR_frz {ds : List D} : finR false s (.rt (.loc s.length) (s ++ [.lst ds])) = .ok (.d (.lst ds)) s := by
  have h1 : ¬ (s ++ [Obj.lst ds]).length = s.length := by simp
  simp only [finR, fin, if_neg h1, List.take_left', or_true, if_true, Nat.lt_irrefl, if_false, List.getElem?_concat_length, Bool.false_eq_true]
theorem finR_kp {ds : List D} : finR true s (.rt (.loc s.length) (s ++ [.lst ds])) = .ok (.loc s.length) (s ++ [.lst ds]) := by
  have h1 : ¬ (s ++ [Obj.lst ds]).length = s.length := by simp
  simp only [finR, fin, if_neg h1, List.take_left', or_true, if_true, Nat.lt_irrefl, if_false, List.getElem?_concat_length]
end
end Ev
namespace Ev
open PySem L2
section
variable {E : Env} {s : Store}
theorem pIn_lst {a : D} {ys : List D} (h1 : a.plain = true) (h2 : D.plains ys = true) (h3 : low a = true) : pIn (.d a) (.d (.lst ys)) s = .ok (.d (.bl (inD a ys))) s := by
  unfold pIn pInB; simp only [deepV_d, h1, h2, h3, Bool.and_self, if_true, Bool.false_xor]
theorem pIn_tup {a : D} {ys : List D} (h1 : a.plain = true) (h2 : D.plains ys = true) (h3 : low a = true) : pIn (.d a) (.d (.tup ys)) s = .ok (.d (.bl (inD a ys))) s := by
  unfold pIn pInB; simp only [deepV_d, h1, h2, h3, Bool.and_self, if_true, Bool.false_xor]
theorem plains_all : ∀ {xs : List D}, (∀ x ∈ xs, x.plain = true) → D.plains xs = true
  | [], _ => rfl
  | x :: xs, h => by rw [D.plains, h x List.mem_cons_self, plains_all fun y hy => h y (List.mem_cons_of_mem _ hy)]; rfl
theorem pAdd_lst {a b : List D} (h : a.length + b.length ≤ line) : pAdd (.d (.lst a)) (.d (.lst b)) s = .ok (.d (.lst (a ++ b))) s := by
  show (if a.length + b.length ≤ line then Res.ok (Val.d (.lst (a ++ b))) s else .fail) = _
  exact if_pos h
theorem pAdd_tup {a b : List D} (h : a.length + b.length ≤ line) : pAdd (.d (.tup a)) (.d (.tup b)) s = .ok (.d (.tup (a ++ b))) s := if_pos h
/-- a loop by an invariant of what is behind -/
theorem forV_pre {t : TC} {b : SC} (P : List D → Env → Store → Prop) : ∀ (xs done : List D) (E : Env) (s : Store), P done E s →
    (∀ pre x post, xs = pre ++ x :: post → ∀ E s, P (done ++ pre) E s → ∃ E1 s1 E2 s2, t (.d x) E s = some (E1, s1) ∧ b E1 s1 = .nx E2 s2 ∧ P (done ++ (pre ++ [x])) E2 s2) →
    ∃ E' s', forV t b (xs.map .d) E s = .nx E' s' ∧ P (done ++ xs) E' s'
  | [], done, E, s, h0, _ => ⟨E, s, rfl, by rw [List.append_nil]; exact h0⟩
  | x :: xs, done, E, s, h0, hs => by
    obtain ⟨E1, s1, E2, s2, h1, h2, h3⟩ := hs [] x xs rfl E s (by rw [List.append_nil]; exact h0)
    obtain ⟨E', s', h4, h5⟩ := forV_pre P xs (done ++ [x]) E2 s2 h3 fun pre y post e E s h => by
      obtain ⟨F1, t1, F2, t2, a1, a2, a3⟩ := hs (x :: pre) y post (by rw [e]; rfl) E s (by rw [List.append_assoc] at h; exact h)
      refine ⟨F1, t1, F2, t2, a1, a2, ?_⟩
      rw [List.append_assoc]; exact a3
    refine ⟨E', s', ?_, ?_⟩
    · rw [List.map_cons, forV_cons', h1]; simp only [h2, kTurn_nx]; exact h4
    · rw [List.append_assoc] at h5; exact h5
theorem small_of {i : Int} (h0 : -1000000 ≤ i) (h1 : i ≤ 1000000) : small i = true := by
  unfold small
  have e : (2 : Int) ^ 62 = 4611686018427387904 := by decide
  rw [e]
  simp only [Bool.and_eq_true, decide_eq_true_eq]; omega
theorem len_line {n : Nat} (h : n ≤ 1000000) : n ≤ line := Nat.le_trans h (le_lineN rfl)
theorem len_line' {n : Nat} (h : n ≤ 1000000) : n < line := Nat.lt_of_le_of_lt h (by unfold line; decide)
end
end Ev
namespace Ev
open PySem L2
theorem forV_pre0 {E : Env} {s : Store} {t : TC} {b : SC} (P : List D → Env → Store → Prop) (xs : List D) (h0 : P [] E s)
    (hs : ∀ pre x post, xs = pre ++ x :: post → ∀ E s, P pre E s → ∃ E1 s1 E2 s2, t (.d x) E s = some (E1, s1) ∧ b E1 s1 = .nx E2 s2 ∧ P (pre ++ [x]) E2 s2) :
    ∃ E' s', forV t b (xs.map .d) E s = .nx E' s' ∧ P xs E' s' := forV_pre P xs [] E s h0 hs
end Ev
namespace Ev
theorem x_sett {E : Env} {s : Store} {a : EC} {l : List TC} : sSet (tt l) a E s = ofRes (a E s) E fun x s1 => match tt l x E s1 with | some (E2, s2) => .nx E2 s2 | none => .fail := rfl
theorem x_seti {E : Env} {s : Store} {a b c : EC} : sSet (ti b c) a E s = ofRes (a E s) E fun x s1 => match ti b c x E s1 with | some (E2, s2) => .nx E2 s2 | none => .fail := rfl
end Ev
namespace Ev
theorem dec_self {A : Type} [DecidableEq A] {a : A} : decide (a = a) = true := decide_eq_true rfl
end Ev
end
section
set_option linter.all false
set_option autoImplicit false
set_option maxRecDepth 100000
set_option maxHeartbeats 1000000
namespace Ev
open PySem L2
/-! ### the order of data -/
theorem leD_def (a b : D) : leD a b = !PySem.W.dataLt (toPy b) (toPy a) := rfl
theorem leD_trans (a b c : D) (h1 : leD a b = true) (h2 : leD b c = true) : leD a c = true := by
  simp only [leD_def, Bool.not_eq_true', PySem.W.dataLt] at *
  rw [Bool.eq_false_iff]
  intro h
  rcases PyProof.Rows.lex_negTrans _ (PySem.W.keyToks (toPy b)) _ h with q | q
  · rw [h2] at q; cases q
  · rw [h1] at q; cases q
theorem leD_total (a b : D) : (leD a b || leD b a) = true := by
  simp only [leD_def, PySem.W.dataLt]
  cases h1 : PyProof.Rows.lexLt PyProof.Rows.itemOrd (PySem.W.keyToks (toPy b)) (PySem.W.keyToks (toPy a)) with
  | false => rfl
  | true =>
    cases h2 : PyProof.Rows.lexLt PyProof.Rows.itemOrd (PySem.W.keyToks (toPy a)) (PySem.W.keyToks (toPy b)) with
    | false => rfl
    | true =>
      have := PyProof.Rows.lex_trans _ _ _ h1 h2
      rw [PyProof.Rows.lex_irrefl] at this; cases this
theorem sortD_eq {xs ys : List D} (h1 : ys.Pairwise (fun a b => leD a b = true)) (hp : xs.Perm ys) (anti : ∀ a ∈ ys, ∀ b ∈ ys, leD a b = true → leD b a = true → a = b) : sortD xs = ys := by
  have p : (sortD xs).Perm ys := (List.mergeSort_perm xs leD).trans hp
  exact List.Perm.eq_of_pairwise (le := fun a b => leD a b = true) (fun a b ha hb q1 q2 => anti a (p.mem_iff.mp ha) b hb q1 q2) (List.pairwise_mergeSort leD_trans leD_total xs) h1 p
theorem toPys_ints : ∀ xs : List Int, toPys (xs.map D.int) = xs.map PyData.int
  | [] => rfl
  | x :: xs => by simp only [List.map_cons, toPys, toPy, toPys_ints xs]
theorem leD_ints (as bs : List Int) : leD (.tup (as.map .int)) (.tup (bs.map .int)) = !decide (bs < as) := by
  rw [leD_def]
  simp only [toPy, toPys_ints]
  rw [PySem.W.dataLt_tuple]
  exact congrArg (!·) (PySem.W.dataLt_ints bs as)
theorem leD_anti {as bs : List Int} (h1 : leD (.tup (as.map .int)) (.tup (bs.map .int)) = true) (h2 : leD (.tup (bs.map .int)) (.tup (as.map .int)) = true) : as = bs := by
  rw [leD_ints] at h1 h2
  simp only [Bool.not_eq_true', decide_eq_false_iff_not] at h1 h2
  exact List.le_antisymm (List.not_lt.mp h1) (List.not_lt.mp h2)
/-- tuples of so many ints can be sorted -/
theorem alike_ints : ∀ as bs : List Int, PySem.W.alikeAll (toPys (as.map .int)) (toPys (bs.map .int)) = true
  | [], _ => by simp [toPys, PySem.W.alikeAll]
  | _ :: _, [] => by simp [toPys, PySem.W.alikeAll]
  | a :: as, b :: bs => by simp only [List.map_cons, toPys, toPy, PySem.W.alikeAll, PySem.W.alike, alike_ints as bs, Bool.and_self]
theorem depth_ints : ∀ as : List Int, PyData.depthAll (toPys (as.map .int)) = 0
  | [] => by simp [toPys, PyData.depthAll]
  | a :: as => by simp [toPys, toPy, PyData.depthAll, PyData.depth, depth_ints as]
theorem sortable_tups {xs : List D} (h : ∀ x ∈ xs, ∃ a as, x = .tup ((a :: as).map D.int)) : sortable xs = true := by
  unfold sortable
  have e1 : xs.all isT1 = true := List.all_eq_true.mpr fun x hx => by obtain ⟨a, as, rfl⟩ := h x hx; rfl
  have e2 : xs.all low = true := List.all_eq_true.mpr fun x hx => by
    obtain ⟨a, as, rfl⟩ := h x hx
    unfold low
    simp only [toPy, PyData.depth, depth_ints]; rfl
  have e3 : (xs.all fun x => xs.all fun y => PySem.W.alike (toPy x) (toPy y)) = true := List.all_eq_true.mpr fun x hx => List.all_eq_true.mpr fun y hy => by
    obtain ⟨a, as, rfl⟩ := h x hx
    obtain ⟨b, bs, rfl⟩ := h y hy
    simp only [toPy, PySem.W.alike]
    exact alike_ints (a :: as) (b :: bs)
  rw [e1, e2, e3]; rfl
theorem rng_lt (i j : Int) : (rng i j).Pairwise fun a b => ∃ x y : Int, a = .int x ∧ b = .int y ∧ x < y := by
  unfold rng
  rw [List.pairwise_map]
  exact List.Pairwise.imp (fun h => ⟨_, _, rfl, rfl, by omega⟩) List.pairwise_lt_range
theorem rng_mem_iff {i j : Int} {q : D} : q ∈ rng i j ↔ ∃ x : Int, q = .int x ∧ i ≤ x ∧ x < j := by
  refine ⟨rng_mem, fun ⟨x, e, h1, h2⟩ => ?_⟩
  simp only [rng, List.mem_map, List.mem_range]
  exact ⟨(x - i).toNat, by omega, by rw [e]; congr 1; omega⟩
theorem flat_filter {A B : Type} (p : A → Bool) (f : A → List B) : ∀ xs : List A, (xs.filter p).flatMap f = xs.flatMap fun x => bif p x then f x else []
  | [] => rfl
  | x :: xs => by
    rw [List.filter_cons, List.flatMap_cons, ← flat_filter p f xs]
    cases p x <;> simp
end Ev
namespace Ev
open PySem L2
theorem eqvAll_ints : ∀ as bs : List Int, PyData.eqvAll (toPys (as.map .int)) (toPys (bs.map .int)) = decide (as = bs)
  | [], [] => by simp [toPys, PyData.eqvAll]
  | [], _ :: _ => by simp [toPys, PyData.eqvAll]
  | _ :: _, [] => by simp [toPys, PyData.eqvAll]
  | a :: as, b :: bs => by
    simp only [List.map_cons, toPys, toPy, PyData.eqvAll, PyData.eqv, eqvAll_ints as bs]
    rw [Bool.eq_iff_iff]; simp
theorem eqD_ints (as bs : List Int) : eqD (.tup (as.map .int)) (.tup (bs.map .int)) = decide (as = bs) := by
  simp only [eqD, toPy, PyData.eqv, eqvAll_ints]
theorem plain_ints (as : List Int) : D.plains (as.map .int) = true := plains_all fun x hx => by obtain ⟨i, _, rfl⟩ := List.mem_map.mp hx; rfl
theorem low_tup_ints (as : List Int) : low (.tup (as.map .int)) = true := by
  unfold low; simp only [toPy, PyData.depth, depth_ints]; rfl
theorem eqD_lst_nil (xs : List D) : eqD (.lst xs) (.lst []) = xs.isEmpty := by
  cases xs with
  | nil => rfl
  | cons x xs => simp [eqD, toPy, toPys, PyData.eqv, PyData.eqvAll]
theorem pEq_lst_nil {xs : List D} {s : Store} (h : D.plains xs = true) : pEq (.d (.lst xs)) (.d (.lst [])) s = .ok (.d (.bl xs.isEmpty)) s := by
  unfold pEq pEqB
  have l0 : low (.lst []) = true := rfl
  simp only [deepV_d, D.plain, h, l0, D.plains, Bool.or_true, Bool.and_self, if_true, Bool.false_xor, eqD_lst_nil]
theorem pNe_lst_nil {xs : List D} {s : Store} (h : D.plains xs = true) : pNe (.d (.lst xs)) (.d (.lst [])) s = .ok (.d (.bl (!xs.isEmpty))) s := by
  unfold pNe pEqB
  have l0 : low (.lst []) = true := rfl
  simp only [deepV_d, D.plain, h, l0, D.plains, Bool.or_true, Bool.and_self, if_true, Bool.true_xor, eqD_lst_nil]
/-- a loop that lengthens a list -/
theorem grow {t : TC} {b : SC} (mk : List D → Option Val → Option Val → Option Val → Option Val → Env) (f : D → List D) (s : Store) (acc : List D) (xs : List D) (hl : acc.length + (xs.flatMap f).length ≤ 1000000) (a1 a2 a3 a4 : Option Val)
    (hs : ∀ q ∈ xs, ∀ acc' a1 a2 a3 a4, acc'.length + (f q).length ≤ 1000000 → ∃ E1 c1 c2 c3 c4, t (.d q) (mk acc' a1 a2 a3 a4) s = some (E1, s) ∧ b E1 s = .nx (mk (acc' ++ f q) c1 c2 c3 c4) s) :
    ∃ c1 c2 c3 c4, forV t b (xs.map .d) (mk acc a1 a2 a3 a4) s = .nx (mk (acc ++ xs.flatMap f) c1 c2 c3 c4) s := by
  obtain ⟨E', s', h, ⟨c1, c2, c3, c4, rfl⟩, rfl⟩ := forV_pre0 (t := t) (b := b) (fun pre E s' => (∃ a1 a2 a3 a4, E = mk (acc ++ pre.flatMap f) a1 a2 a3 a4) ∧ s = s') (E := mk acc a1 a2 a3 a4) (s := s) xs ⟨⟨a1, a2, a3, a4, by rw [List.flatMap_nil, List.append_nil]⟩, rfl⟩ fun pre q post e E s' ⟨⟨a1, a2, a3, a4, hE⟩, hs'⟩ => by
    subst hE hs'
    rw [e, List.flatMap_append, List.flatMap_cons, List.length_append, List.length_append] at hl
    obtain ⟨E1, c1, c2, c3, c4, h1, h2⟩ := hs q (by rw [e]; simp) (acc ++ pre.flatMap f) a1 a2 a3 a4 (by rw [List.length_append]; omega)
    exact ⟨E1, s, _, s, h1, h2, ⟨c1, c2, c3, c4, by rw [List.flatMap_append, List.flatMap_cons, List.flatMap_nil, List.append_nil, List.append_assoc]⟩, rfl⟩
  exact ⟨c1, c2, c3, c4, h⟩
end Ev
namespace Ev
open PySem L2
/-! ### the source of choices, once for all -/
def Sc (s r : Store) : Prop := ∃ cs l m t, cs.length < most ∧ s = src cs l m t r
theorem Sc.len {s r : Store} (h : Sc s r) : s.length = r.length + 2 := by obtain ⟨cs, l, m, t, _, rfl⟩ := h; exact src_len _ _ _ _ _
theorem finR_len {kp : Bool} {s s' : Store} {x : Val} (h : s'.length = s.length) : finR kp s (.rt x s') = .ok x s' := by
  simp only [finR, fin_len h]
/-- nothing made within is told -/
def okR (r : Store) : Prop := r.all (cloO (r.length + 2)) = true
theorem src_app (cs : List Nat) (l m t : Nat) (r q : Store) : src cs l m t (r ++ q) = src cs l m t r ++ q := rfl
theorem src_take (cs : List Nat) (l m t : Nat) (r q : Store) : (src cs l m t (r ++ q)).take (r.length + 2) = src cs l m t r := by
  rw [src_app]
  exact List.take_left' (src_len _ _ _ _ _)
theorem src_clo {cs : List Nat} {l m t : Nat} {r : Store} (h : okR r) : clo (r.length + 2) (src cs l m t r) = true := by
  unfold clo src srcD
  rw [List.all_cons, List.all_cons, h]
  simp only [cloO, List.all_cons, List.all_nil, cloV, Bool.and_true, Bool.true_and, decide_eq_true_eq]
  omega
theorem finR_cut {kp : Bool} {s r : Store} {d : D} {s' q : Store} (h : Sc s r) (h' : Sc s' (r ++ q)) (ok : okR r) : ∃ s'', finR kp s (.rt (.d d) s') = .ok (.d d) s'' ∧ Sc s'' r := by
  have hl := h.len
  obtain ⟨cs, l, m, t, hc, rfl⟩ := h'
  refine ⟨src cs l m t r, ?_, cs, l, m, t, hc, rfl⟩
  by_cases c : (src cs l m t (r ++ q)).length = s.length
  · rw [finR_len c]
    rw [hl, src_len, List.length_append] at c
    have e : q = [] := List.length_eq_zero_iff.mp (by omega)
    rw [e, List.append_nil]
  · have e1 : (src cs l m t (r ++ q)).take s.length = src cs l m t r := by rw [hl]; exact src_take _ _ _ _ _ _
    have e2 : clo s.length (src cs l m t r) = true := by rw [hl]; exact src_clo ok
    simp only [finR, fin, if_neg c, e1, e2, true_or, if_true]
/-! ### what can be told -/
structure Sm (x : D) : Prop where
  g : good x = true
  w : wt x ≤ 1000000
  d : (toPy x).depth ≤ 20
def shown (x : D) : PySem.Str := (toPy x).shown
theorem Sm.repr {x : D} (h : Sm x) (s : Store) : pRepr (.d x) s = .ok (.d (.str (shown x))) s := repr_ok x s h.g (len_line h.w) (Nat.le_trans h.d (by decide))
theorem Sm.lst {xs : List D} (h : ∀ x ∈ xs, good x = true ∧ (toPy x).depth ≤ 19) (hw : wts xs + 3 ≤ 1000000) : Sm (.lst xs) :=
  ⟨by rw [good]; exact goods_all fun x hx => (h x hx).1, by rw [wt]; exact hw, by
    simp only [toPy, PyData.depth]
    have := depths_le (m := 19) fun x hx => (h x hx).2
    omega⟩
theorem Sm.tup {xs : List D} (h : ∀ x ∈ xs, good x = true ∧ (toPy x).depth ≤ 19) (hw : wts xs + 3 ≤ 1000000) : Sm (.tup xs) :=
  ⟨by rw [good]; exact goods_all fun x hx => (h x hx).1, by rw [wt]; exact hw, by
    simp only [toPy, PyData.depth]
    have := depths_le (m := 19) fun x hx => (h x hx).2
    omega⟩
theorem Sm.bl (b : Bool) : Sm (.bl b) := ⟨rfl, by rw [wt]; decide, by simp [toPy, PyData.depth]⟩
end Ev
namespace Ev
open PySem L2
/-! ### comprehensions that draw -/
theorem lcV_inv {E : Env} {ws : List Nat} {g : TC} {c : BC} {e : EC} (I : Store → Prop) (Q : D → Prop) : ∀ (xs : List D) (s : Store), I s →
    (∀ q ∈ xs, ∀ s, I s → ∃ E1 y s1, g (.d q) (wipe E ws) s = some (E1, s) ∧ c E1 s = .ok true s ∧ e E1 s = .ok (.d y) s1 ∧ Q y ∧ I s1) →
    ∃ (ys : List D) (s' : Store), lcV ws g c e E (xs.map .d) s = .ok (ys.map .d) s' ∧ (∀ y ∈ ys, Q y) ∧ I s' ∧ ys.length = xs.length
  | [], s, h, _ => ⟨[], s, rfl, by simp, h, rfl⟩
  | q :: xs, s, h, hs => by
    obtain ⟨E1, y, s1, h1, h2, h3, h4, h5⟩ := hs q List.mem_cons_self s h
    obtain ⟨ys, s', a1, a2, a3, a4⟩ := lcV_inv I Q xs s1 h5 fun z hz => hs z (List.mem_cons_of_mem _ hz)
    refine ⟨y :: ys, s', ?_, ?_, a3, by simp [a4]⟩
    · simp only [List.map_cons, lcV, lcT, h1, h2, h3, Res.bind_ok, if_true, a1]
    · intro z hz
      rcases List.mem_cons.mp hz with rfl | hz
      · exact h4
      · exact a2 z hz
theorem lc_inv {E : Env} {ws : List Nat} {g : TC} {ic : IC} {c : BC} {e : EC} {xs : List D} {s s0 : Store} (I : Store → Prop) (Q : D → Prop) (hi : ic E s0 = .ok (.vals (xs.map .d)) s) (hl : xs.length ≤ line) (h0 : I s)
    (hs : ∀ q ∈ xs, ∀ s, I s → ∃ E1 y s1, g (.d q) (wipe E ws) s = some (E1, s) ∧ c E1 s = .ok true s ∧ e E1 s = .ok (.d y) s1 ∧ Q y ∧ I s1) :
    ∃ (ys : List D) (s' : Store), lc ws g ic c e E s0 = .ok (.d (.lst ys)) s' ∧ (∀ y ∈ ys, Q y) ∧ I s' ∧ ys.length = xs.length := by
  obtain ⟨ys, s', h1, h2, h3, h4⟩ := lcV_inv (ws := ws) (g := g) (c := c) (e := e) (E := E) I Q xs s h0 hs
  exact ⟨ys, s', lcG_ok hi (lcS_vals (by rw [List.length_map]; exact hl) h1) (mkL_ok (allD_map _) (by omega)), h2, h3, h4⟩
theorem lcA_inv {E : Env} {ws : List Nat} {g : TC} {ic : IC} {c : BC} {e : EC} {xs : List D} {s s0 : Store} (I : Store → Prop) (Q : D → Prop) (hi : ic E s0 = .ok (.vals (xs.map .d)) s) (hl : xs.length ≤ line) (h0 : I s)
    (hs : ∀ q ∈ xs, ∀ s, I s → ∃ E1 y s1, g (.d q) (wipe E ws) s = some (E1, s) ∧ c E1 s = .ok true s ∧ e E1 s = .ok (.d y) s1 ∧ Q y ∧ I s1) :
    ∃ (ys : List D) (s' : Store), lcA ws g ic c e E s0 = .ok (.loc s'.length) (s' ++ [.lst ys]) ∧ (∀ y ∈ ys, Q y) ∧ I s' ∧ ys.length = xs.length := by
  obtain ⟨ys, s', h1, h2, h3, h4⟩ := lcV_inv (ws := ws) (g := g) (c := c) (e := e) (E := E) I Q xs s h0 hs
  exact ⟨ys, s', lcG_ok hi (lcS_vals (by rw [List.length_map]; exact hl) h1) mkLA_d, h2, h3, h4⟩
/-! ### places of the store -/
theorem get_app {s q : Store} (i : Nat) : (s ++ q)[s.length + i]? = q[i]? := by rw [List.getElem?_append_right (by omega)]; congr 1; omega
theorem set_app {s q : Store} (i : Nat) (o : Obj) : (s ++ q).set (s.length + i) o = s ++ q.set i o := by rw [List.set_append_right _ _ (by omega)]; congr 2; omega
theorem isL_app {s q : Store} {i : Nat} {ds : List D} (h : q[i]? = some (.lst ds)) : isL (.loc (s.length + i)) (s ++ q) = true := by
  unfold isL; simp only [get_app, h]
theorem pApp_app {s q : Store} {i : Nat} {ds : List D} {z : D} (h : q[i]? = some (.lst ds)) (hl : ds.length ≤ 1000000) : pApp (.loc (s.length + i)) (.d z) (s ++ q) = .ok (.d .non) (s ++ q.set i (.lst (ds ++ [z]))) := by
  unfold pApp; simp only [get_app, h, if_pos (len_line' hl), set_app]
def kM1 (p : Val → Val → Store → Res Val) (b : EC) (E : Env) (x : Val) (s : Store) : Res Val := if isL x s = true then (b E s).bind fun y s => p x y s else .fail
theorem x_m1 {p : Val → Val → Store → Res Val} {a b : EC} {E : Env} {s : Store} : m1 p a b E s = (a E s).bind (kM1 p b E) := rfl
theorem kM1_ok {p : Val → Val → Store → Res Val} {b : EC} {E : Env} {x : Val} {s : Store} (h : isL x s = true) : kM1 p b E x s = (b E s).bind fun y s => p x y s := if_pos h
theorem cloO_mono {n m : Nat} (h : n ≤ m) : ∀ {o : Obj}, cloO n o = true → cloO m o = true := by
  have hv : ∀ {v : Val}, cloV n v = true → cloV m v = true := fun {v} q => by
    cases v with
    | loc k => simp only [cloV, decide_eq_true_eq] at q ⊢; omega
    | _ => exact q
  intro o q
  cases o with
  | lv xs => simp only [cloO, List.all_eq_true] at q ⊢; exact fun x hx => hv (q x hx)
  | dct xs => simp only [cloO, List.all_eq_true] at q ⊢; exact fun x hx => hv (q x hx)
  | ins c xs => simp only [cloO, List.all_eq_true] at q ⊢; exact fun x hx => hv (q x hx)
  | _ => exact q
theorem okR_app {r q : Store} (h : okR r) (hq : q.all (cloO (r.length + q.length + 2)) = true) : okR (r ++ q) := by
  unfold okR at *
  rw [List.length_append, List.all_append, Bool.and_eq_true]
  refine ⟨?_, hq⟩
  rw [List.all_eq_true] at h ⊢
  exact fun o ho => cloO_mono (by omega) (h o ho)
theorem okR_nil : okR [] := rfl
theorem Sc.app {s r : Store} (h : Sc s r) (q : Store) : Sc (s ++ q) (r ++ q) := by
  obtain ⟨cs, l, m, t, hc, rfl⟩ := h
  exact ⟨cs, l, m, t, hc, rfl⟩
/-! ### walking a list that is kept -/
theorem forN_end {t : TC} {b : SC} {n f i : Nat} {E : Env} {s : Store} {xs : List Val} (h : (s[n]?).bind obItems = some xs) (hi : xs[i]? = none) : forN t b n (f + 1) i E s = .nx E s := by
  simp only [forN, h, hi]
theorem forN_step {t : TC} {b : SC} {n f i : Nat} {E E1 E2 : Env} {s s1 s2 : Store} {xs : List Val} {x : Val} {r : SRes} (h : (s[n]?).bind obItems = some xs) (hi : xs[i]? = some x) (ht : t x E s = some (E1, s1)) (hb : b E1 s1 = .nx E2 s2) (hr : forN t b n f (i + 1) E2 s2 = r) : forN t b n (f + 1) i E s = r := by
  simp only [forN, h, hi, ht, hb]; exact hr
theorem kFor_l {g : TC} {m : SC} {n : Nat} {E : Env} {s : Store} : kFor g m E (.live n) s = forN g m n most 0 E s := rfl
theorem most_4 : most = 999999996 + 1 + 1 + 1 + 1 := rfl
/-- adding a list that is kept -/
theorem pAdd_ll {a : List D} {n : Nat} {b : List D} {s : Store} (hb : s[n]? = some (.lst b)) (h : a.length + b.length ≤ 1000000) : pAdd (.d (.lst a)) (.loc n) s = .ok (.d (.lst (a ++ b))) s := by
  unfold pAdd; simp only [peek, hb, if_pos (len_line h)]
end Ev
end
section
set_option linter.all false
set_option autoImplicit false
set_option maxRecDepth 100000
set_option maxHeartbeats 1000000
namespace Ev
open PySem L2
theorem lstA_vals {r : AC} {E : Env} {s s1 : Store} {xs : List Val} (h : r E s = .ok xs s1) (hd : allD xs = none) (hl : Nat.ble xs.length line = true) : lstA r E s = .ok (.loc s1.length) (s1 ++ [.lv xs]) := by
  unfold lstA; rw [h]
  show (match allD xs with | some ds => if ds.length ≤ line then Res.ok (Val.loc s1.length) (s1 ++ [Obj.lst ds]) else .fail | none => if xs.length ≤ line then .ok (.loc s1.length) (s1 ++ [Obj.lv xs]) else .fail) = _
  rw [hd]
  exact if_pos (le_lineN hl)
end Ev
namespace Ev
open PySem L2
theorem Sc.split {s r : Store} {o : Obj} (h : Sc s (r ++ [o])) : ∃ s0, s = s0 ++ [o] ∧ Sc s0 r := by
  obtain ⟨cs, l, m, t, hc, rfl⟩ := h
  exact ⟨src cs l m t r, rfl, cs, l, m, t, hc, rfl⟩
theorem cut_mem {A : Type} {xs : List A} {lo hi : Option Int} {x : A} (h : x ∈ cut xs lo hi) : x ∈ xs := List.mem_of_mem_drop (List.mem_of_mem_take h)
theorem cut_le {A : Type} (xs : List A) (lo hi : Option Int) : (cut xs lo hi).length ≤ xs.length := by
  unfold cut; rw [List.length_take, List.length_drop]; omega
theorem x_sl {a : EC} {lo hi : PC} {E : Env} {s : Store} : sl a lo hi E s = (a E s).bind fun x s => (lo E s).bind fun l s => (hi E s).bind fun h s => pSl x l h s := rfl
theorem x_pn {E : Env} {s : Store} : pn E s = .ok none s := rfl
def kPs (x : Val) (s : Store) : Res (Option Int) := match x with | .d (.int i) => .ok (some i) s | _ => .fail
theorem x_ps {a : EC} {E : Env} {s : Store} : ps a E s = (a E s).bind kPs := rfl
theorem kPs_i {i : Int} {s : Store} : kPs (.d (.int i)) s = .ok (some i) s := rfl
theorem pSl_l {xs : List D} {lo hi : Option Int} {s : Store} : pSl (.d (.lst xs)) lo hi s = .ok (.d (.lst (cut xs lo hi))) s := rfl
theorem pSl_t {xs : List D} {lo hi : Option Int} {s : Store} : pSl (.d (.tup xs)) lo hi s = .ok (.d (.tup (cut xs lo hi))) s := rfl
theorem pTup_t {xs : List D} {s : Store} : pTuple (.d (.tup xs)) s = .ok (.d (.tup xs)) s := rfl
theorem pTup_l {xs : List D} {s : Store} : pTuple (.d (.lst xs)) s = .ok (.d (.tup xs)) s := rfl
theorem pList_t {xs : List D} {s : Store} : pList (.d (.tup xs)) s = .ok (.d (.lst xs)) s := rfl
theorem pList_l {xs : List D} {s : Store} : pList (.d (.lst xs)) s = .ok (.d (.lst xs)) s := rfl
end Ev
end
section
set_option linter.all false
set_option autoImplicit false
set_option maxRecDepth 100000
set_option maxHeartbeats 1000000
namespace Ev
open PySem L2
/-- a while loop, by an invariant and a measure -/
theorem whl_run {c : BC} {b : SC} (I : Nat → Env → Store → Prop) (R : Env → Store → Prop)
    (st : ∀ m E s, I m E s → (c E s = .ok false s ∧ R E s) ∨ (c E s = .ok true s ∧ ∃ m' E' s', m' < m ∧ b E s = .nx E' s' ∧ I m' E' s')) : ∀ (f m : Nat) (E : Env) (s : Store), I m E s → m < f → ∃ E' s', whl c b f E s = .nx E' s' ∧ R E' s'
  | 0, m, E, s, _, h => absurd h (Nat.not_lt_zero _)
  | f + 1, m, E, s, hI, h => by
    rcases st m E s hI with ⟨h1, h2⟩ | ⟨h1, m', E', s', h2, h3, h4⟩
    · exact ⟨E, s, by simp only [whl, h1, ofRes_ok, Bool.false_eq_true, if_false], h2⟩
    · obtain ⟨E2, s2, h5, h6⟩ := whl_run I R st f m' E' s' h4 (by omega)
      exact ⟨E2, s2, by simp only [whl, h1, ofRes_ok, if_true, h3, h5], h6⟩
theorem sWhl_run {c : BC} {b : SC} {E : Env} {s : Store} (I : Nat → Env → Store → Prop) (R : Env → Store → Prop) (m : Nat) (hI : I m E s) (hm : m ≤ 1000000)
    (st : ∀ m E s, I m E s → (c E s = .ok false s ∧ R E s) ∨ (c E s = .ok true s ∧ ∃ m' E' s', m' < m ∧ b E s = .nx E' s' ∧ I m' E' s')) : ∃ E' s', sWhl c b E s = .nx E' s' ∧ R E' s' :=
  whl_run I R st most m E s hI (Nat.lt_of_le_of_lt hm (by unfold most; decide))
/-- the least number from 1 on -/
structure Least (f : Int → Int) (many p : Int) : Prop where
  one : 1 ≤ p
  top : many ≤ f p
  low : p = 1 ∨ f (p - 1) < many
theorem Least.uniq {f : Int → Int} (mono : ∀ x y, 1 ≤ x → x ≤ y → f x ≤ f y) {many p q : Int} (h : Least f many p) (h' : Least f many q) : p = q := by
  have key : ∀ p q, Least f many p → Least f many q → ¬ p < q := fun p q h h' lt => by
    rcases h'.low with e | e
    · have := h.one; omega
    · have := mono p (q - 1) h.one (by omega)
      have := h.top
      omega
  have h1 := key p q h h'
  have h2 := key q p h' h
  omega
theorem mono_sq (x y : Int) (h1 : 1 ≤ x) (h : x ≤ y) : x * x ≤ y * y := Int.mul_le_mul h h (by omega) (by omega)
theorem mono_mul {b : Int} (hb : 1 ≤ b) (x y : Int) (h1 : 1 ≤ x) (h : x ≤ y) : x * b ≤ y * b := Int.mul_le_mul_of_nonneg_right h (by omega)
theorem least_ceil {b many : Int} (hb : 1 ≤ b) : Least (fun p => p * b) many (max 1 (-(-many / b))) := by
  have e := Int.mul_ediv_add_emod (-many) b
  have m0 := Int.emod_nonneg (-many) (show b ≠ 0 by omega)
  have m1 := Int.emod_lt_of_pos (-many) (show 0 < b by omega)
  generalize -many / b = q at e
  generalize -many % b = r at e m0 m1
  have eq1 : -q * b = -(b * q) := by rw [Int.neg_mul, Int.mul_comm]
  refine ⟨by omega, ?_, ?_⟩
  · by_cases h : 1 ≤ -q
    · rw [Int.max_eq_right h]; show many ≤ -q * b; rw [eq1]; omega
    · have e2 : max (1 : Int) (-q) = 1 := by omega
      rw [e2]
      show many ≤ 1 * b
      have : -(b * q) ≤ 0 := by
        have : 0 ≤ b * q := Int.mul_nonneg (by omega) (by omega)
        omega
      omega
  · by_cases h : 1 < -q
    · right
      rw [Int.max_eq_right (by omega)]
      show (-q - 1) * b < many
      rw [Int.sub_mul, eq1]; omega
    · left; omega
end Ev
end
section
set_option linter.all false
set_option autoImplicit false
set_option maxRecDepth 100000
set_option maxHeartbeats 1000000
namespace Ev
open PySem L2
/-! ### the law's source, made of the script -/
def scrV (ns : List Int) : List Val := ns.map fun i => .d (.int i)
def srcLoop : SC := sq (sSet (tn 1) (e2 pMod (Ev.e1 pInt (e2 pAdd (e2 pAdd (e2 pMul (v 1) (k (.int 69069))) (e2 pMul (v 2) (k (.int 31)))) (k (.int 5)))) (k (.int 2147483629)))) sNil
theorem src_turn (a : Option Val) (m : Nat) (i : Int) (s : Store) : ∃ m' : Nat, srcLoop [a, some (.d (.int m)), some (.d (.int i))] s = .nx [a, some (.d (.int m')), some (.d (.int i))] s := by
  refine ⟨(((m : Int) * 69069 + i * 31 + 5) % 2147483629).toNat, ?_⟩
  have e : ((((m : Int) * 69069 + i * 31 + 5) % 2147483629).toNat : Int) = ((m : Int) * 69069 + i * 31 + 5) % 2147483629 := Int.toNat_of_nonneg (Int.emod_nonneg _ (by decide))
  rw [e]
  exact sq_nx (set_tn (e2_ok (e1_ok (e2_ok (e2_ok (e2_ok (v_ok rfl) k_ok (pMul_okr _ (by decide) (by decide))) (e2_ok (v_ok rfl) k_ok (pMul_okr _ (by decide) (by decide))) (pAdd_ok _ _ _)) k_ok (pAdd_ok _ _ _)) (pInt_ok _ _)) k_ok (pMod_ok _ (by decide)))) nil_nx
theorem src_for (a : Option Val) (s : Store) : ∀ (ns : List Int) (m : Nat) (q : Option Val), ∃ (m' : Nat) (q' : Option Val), forV (tn 2) srcLoop (scrV ns) [a, some (.d (.int m)), q] s = .nx [a, some (.d (.int m')), q'] s
  | [], m, q => ⟨m, q, rfl⟩
  | i :: ns, m, q => by
    obtain ⟨m1, h1⟩ := src_turn a m i s
    obtain ⟨m2, q2, h2⟩ := src_for a s ns m1 (some (.d (.int i)))
    exact ⟨m2, q2, forV_nx (E1 := [a, some (.d (.int m)), some (.d (.int i))]) rfl h1 h2⟩
theorem lc_abs (a b q : Option Val) (s : Store) : ∀ ns : List Int, lcV [2] (tn 2) yes (Ev.e1 pAbs (v 2)) [a, b, q] (scrV ns) s = .ok ((ns.map fun i => Ev.D.int (i.natAbs : Int)).map .d) s
  | [] => rfl
  | i :: ns => by
    have h := lc_abs a b q s ns
    have st : tn 2 (.d (.int i)) (Ev.wipe [a, b, q] [2]) s = some ([a, b, some (.d (.int i))], s) := rfl
    have el : Ev.e1 pAbs (v 2) [a, b, some (.d (.int i))] s = .ok (.d (.int (i.natAbs : Int))) s := rfl
    have e : scrV (i :: ns) = .d (.int i) :: scrV ns := rfl
    rw [e]
    simp only [lcV, lcT]
    rw [st]
    simp only [yes, Res.bind_ok, if_true, el, h, List.map_cons]
/-- what the law's source does -/
noncomputable def srcBody : SC := sq (sSet (tn 1) (k (.int 11))) (sq (sFor (tn 2) (iSeq (v 0)) srcLoop) (sq (sRet (dctA ["cells", "left", "mixed", "turn"] (acs [e1 pRevA (lc [2] (tn 2) (iSeq (v 0)) yes (e1 pAbs (v 2))), k (.int 1), v 1, k (.int 0)]))) sNil))
theorem source_run (ns : List Int) (h : ns.length ≤ 63) : ∃ s, finR false [] (srcBody [some (.d (.scr ns)), none, none] []) = .ok (.loc 1) s ∧ Sc s [] := by
  obtain ⟨m, q, h1⟩ := src_for (some (.d (.scr ns))) [] ns 11 none
  refine ⟨src (ns.map Int.natAbs).reverse 1 m 0 [], ?_, _, _, _, _, by rw [List.length_reverse, List.length_map]; exact Nat.lt_of_le_of_lt h (by unfold most; decide), rfl⟩
  have hl : (scrV ns).length ≤ line := by unfold scrV; rw [List.length_map]; exact Nat.le_trans h (le_lineN rfl)
  have hl2 : (ns.map fun i => Ev.D.int (i.natAbs : Int)).length ≤ line := by rw [List.length_map]; exact Nat.le_trans h (le_lineN rfl)
  have hs : ∀ E s, v 0 E s = .ok (.d (.scr ns)) s → Ev.iSeq (v 0) E s = .ok (.vals (scrV ns)) s := by
    intro E s he; unfold Ev.iSeq; rw [he]; rfl
  have lc1 : Ev.lc [2] (tn 2) (Ev.iSeq (v 0)) yes (Ev.e1 pAbs (v 2)) [some (.d (.scr ns)), some (.d (.int m)), q] [] = .ok (.d (.lst (ns.map fun i => Ev.D.int (i.natAbs : Int)))) [] :=
    lcG_ok (hs _ _ (v_ok rfl)) (lcS_vals hl (lc_abs _ _ _ _ ns)) (mkL_ok (allD_map _) hl2)
  have rv : Ev.e1 pRevA (Ev.lc [2] (tn 2) (Ev.iSeq (v 0)) yes (Ev.e1 pAbs (v 2))) [some (.d (.scr ns)), some (.d (.int m)), q] [] = .ok (.loc 0) [.lst (ns.map fun i => Ev.D.int (i.natAbs : Int)).reverse] := e1_ok lc1 rfl
  have dc : dctA ["cells", "left", "mixed", "turn"] (acs [Ev.e1 pRevA (Ev.lc [2] (tn 2) (Ev.iSeq (v 0)) yes (Ev.e1 pAbs (v 2))), k (.int 1), v 1, k (.int 0)]) [some (.d (.scr ns)), some (.d (.int m)), q] [] = .ok (.loc 1) (src (ns.map Int.natAbs).reverse 1 m 0 []) := by
    have ar : acs [Ev.e1 pRevA (Ev.lc [2] (tn 2) (Ev.iSeq (v 0)) yes (Ev.e1 pAbs (v 2))), k (.int 1), v 1, k (.int 0)] [some (.d (.scr ns)), some (.d (.int m)), q] [] = .ok [.loc 0, .d (.int 1), .d (.int m), .d (.int 0)] [.lst (ns.map fun i => Ev.D.int (i.natAbs : Int)).reverse] := ac_ok rv (ac_ok k_ok (ac_ok (v_ok rfl) (ac_ok k_ok a0_ok)))
    have el : (ns.map fun i => Ev.D.int (i.natAbs : Int)).reverse = (ns.map Int.natAbs).reverse.map fun (n : Nat) => Ev.D.int (n : Int) := by
      rw [← List.map_reverse, ← List.map_reverse, List.map_map]; rfl
    unfold dctA; rw [ar, el]; rfl
  have e : srcBody [some (.d (.scr ns)), none, none] [] = .rt (.loc 1) (src (ns.map Int.natAbs).reverse 1 m 0 []) :=
    sq_nx (set_tn k_ok) (sq_nx (for_vals (hs _ _ (v_ok rfl)) h1) (sq_rt (ret_ok dc)))
  rw [e]
  unfold finR fin
  simp only []
  rw [if_neg (by simp [src]), if_pos (.inr rfl)]
  rfl
end Ev
end
section
set_option linter.all false
set_option autoImplicit false
set_option maxRecDepth 100000
set_option maxHeartbeats 1000000
namespace K61
open PySem L2 Ev
local macro_rules | `(tactic| walk_at "s") => `(tactic| simp only [x_k, x_e1, x_e2, x_a0, x_ac, x_call, x_tup, x_lst, x_raise, kRaise_t, kRaise_p, x_for, kFor_v, kTurn_nx, kTurn_ct, kTurn_bk, kTurn_rt, kTurn_exc, kTurn_ite, x_iSeq, kSeq_t, kSeq_l, x_iEnum, enumS_t, enumS_l, x_iR1, x_iR2, pNe_int, pEq_int, pNe_str, dec_self, decide_true, decide_false, if_not', Bool.not_true, Bool.not_false, Bool.not_not, Bool.false_or, Bool.true_or, Bool.or_false, Bool.or_true, Bool.and_true, Bool.true_and, Bool.false_and, Bool.and_false, finR_bif, finR_rt, finR_nx, finR_exc, forV_nil', forV_cons', List.replicate_succ, List.replicate_zero, Nat.reduceSub, mkT0, mkT1, mkT2, mkT3, mkT4, mkT5, mkT6, mkL0, mkL1, mkL2, mkL3, mkL4, mkL5, mkL6, mkL7, mkL8, mkL9, mkL10, mkL11, x_bb, x_bv, kBb_bl, kBv_bl, kBv_int, kBv_non, x_bnot, x_band, x_bor, ite_and, ite_or, x_yes, x_eand, x_eor, x_enot, kAnd_bl, kOr_bl, kNot_bl, ite_andv, ite_orv, x_chain, kCh_bl, x_eif, x_sq, x_nil, x_setn, x_sett, x_seti, x_exp, x_ret, x_retN, x_if, next_ite, bind_ite, ofRes_ite, ixt0, ixt1, ixt2, ixt3, ixt4, ixt5, ixt6, ixt7, ixl0, ixl1, ixl2, ixl3, ixl4, ixl5, ixl6, ixl7, exF_one, x_len_tup, x_len_lst, x_isi, x_isN, x_notN, if_false', if_true', x_v, List.getElem?_cons_zero, List.getElem?_cons_succ, List.set_cons_zero, List.set_cons_succ, Res.bind_ok, Res.bind_exc, Res.bind_fail, ofRes_ok, ofRes_exc, ofRes_fail, SRes.next_nx, SRes.next_rt, SRes.next_exc, SRes.next_fail, pAdd_ok, pSub_ok, pLt_ok, pLe_ok, pGt_ok, pGe_ok, pInt_ok, pNeg_ok, pMax_ok, pMin_ok, List.map_cons, List.map_nil, List.cons_append, List.nil_append, List.append_nil])
local macro_rules | `(tactic| walk_at "h") => `(tactic| simp only [*, x_k, x_e1, x_e2, x_a0, x_ac, x_call, x_tup, x_lst, x_raise, kRaise_t, kRaise_p, x_for, kFor_v, kTurn_nx, kTurn_ct, kTurn_bk, kTurn_rt, kTurn_exc, kTurn_ite, x_iSeq, kSeq_t, kSeq_l, x_iEnum, enumS_t, enumS_l, x_iR1, x_iR2, pNe_int, pEq_int, pNe_str, dec_self, decide_true, decide_false, if_not', Bool.not_true, Bool.not_false, Bool.not_not, Bool.false_or, Bool.true_or, Bool.or_false, Bool.or_true, Bool.and_true, Bool.true_and, Bool.false_and, Bool.and_false, finR_bif, finR_rt, finR_nx, finR_exc, forV_nil', forV_cons', List.replicate_succ, List.replicate_zero, Nat.reduceSub, mkT0, mkT1, mkT2, mkT3, mkT4, mkT5, mkT6, mkL0, mkL1, mkL2, mkL3, mkL4, mkL5, mkL6, mkL7, mkL8, mkL9, mkL10, mkL11, x_bb, x_bv, kBb_bl, kBv_bl, kBv_int, kBv_non, x_bnot, x_band, x_bor, ite_and, ite_or, x_yes, x_eand, x_eor, x_enot, kAnd_bl, kOr_bl, kNot_bl, ite_andv, ite_orv, x_chain, kCh_bl, x_eif, x_sq, x_nil, x_setn, x_sett, x_seti, x_exp, x_ret, x_retN, x_if, next_ite, bind_ite, ofRes_ite, ixt0, ixt1, ixt2, ixt3, ixt4, ixt5, ixt6, ixt7, ixl0, ixl1, ixl2, ixl3, ixl4, ixl5, ixl6, ixl7, exF_one, x_len_tup, x_len_lst, x_isi, x_isN, x_notN, if_false', if_true', x_v, List.getElem?_cons_zero, List.getElem?_cons_succ, List.set_cons_zero, List.set_cons_succ, Res.bind_ok, Res.bind_exc, Res.bind_fail, ofRes_ok, ofRes_exc, ofRes_fail, SRes.next_nx, SRes.next_rt, SRes.next_exc, SRes.next_fail, pAdd_ok, pSub_ok, pLt_ok, pLe_ok, pGt_ok, pGe_ok, pInt_ok, pNeg_ok, pMax_ok, pMin_ok, List.map_cons, List.map_nil, List.cons_append, List.nil_append, List.append_nil])
theorem rp {n i : Nat} {xs : List Val} {s : Store} {g : Fn} (h : prog (runP prog n) i = some g) : runP prog (n + 1) i xs s = runFn g xs s := by
  show (match prog (runP prog n) i with | some g => runFn g xs s | none => .fail) = _
  rw [h]
def isInt : Ev.D → Bool | .int _ => true | _ => false
theorem isInt_or (x : Ev.D) : (∃ i, x = .int i) ∨ isInt x = false := by cases x <;> simp [isInt]
theorem w_is_integer (n : Nat) (x : Ev.D) (s : Store) : runP prog (n + 1) 0 [.d x] s = .ok (.d (.bl (isInt x))) s := by
  rw [rp rfl]
  refine run_rt rfl ?_
  simp only [e_is_integer]
  walk_at "s"
  cases x <;> rfl
theorem w_is_whole (n : Nat) (x : Ev.D) (s : Store) : runP prog (n + 1) 18 [.d x] s = .ok (.d (.bl (isInt x))) s := by
  rw [rp rfl]
  refine run_rt rfl ?_
  simp only [e__law_is_whole]
  walk_at "s"
  cases x <;> rfl
/-! ### fabrics judged -/
def inB (x : Ev.D) (lo hi : Int) : Bool := match x with | .int i => decide (lo ≤ i) && decide (i ≤ hi) | _ => false
theorem cf_turn (n : Nat) (val : Ev.D) (m : Int) (lo hi : Int) (x : Ev.D) (s : Store) (h : pIx (.d val) (.d (.int m)) s = .ok (.d x) s) :
    check_fabric_L1 (runP prog (n + 1)) [some (.d val), some (.d (.int m)), some (.d (.int lo)), some (.d (.int hi))] s = bif inB x lo hi then .nx [some (.d val), some (.d (.int m)), some (.d (.int lo)), some (.d (.int hi))] s else .exc 0 [("path", .tup [.int m])] [some (.d val), some (.d (.int m)), some (.d (.int lo)), some (.d (.int hi))] s := by
  simp only [check_fabric_L1]
  walk_at "s"
  simp only [h, Res.bind_ok, w_is_integer, kBv_bl]
  rcases isInt_or x with ⟨i, rfl⟩ | hx
  · simp only [isInt, inB]
    walk_at "s"
  · have e : inB x lo hi = false := by cases x <;> first | rfl | cases hx
    rw [hx, e]
    rfl
def fabFault (x : Ev.D) : Option Ev.D := match x with
  | .tup [a, b, c, d, e] => if inB a 1 16 = true then if inB b 1 16 = true then if inB c 1 60 = true then if inB d 2 6 = true then if inB e 1 8 = true then none else some (.tup [.int 4]) else some (.tup [.int 3]) else some (.tup [.int 2]) else some (.tup [.int 1]) else some (.tup [.int 0])
  | _ => some (.tup [])
def isFive : Ev.D → Bool | .tup xs => decide (xs.length = 5) | _ => false
theorem five {x : Ev.D} (h : isFive x = true) : ∃ a b c d e, x = .tup [a, b, c, d, e] := by
  cases x with
  | tup xs => match xs, h with
    | [a, b, c, d, e], _ => exact ⟨a, b, c, d, e, rfl⟩
    | [], h | [_], h | [_, _], h | [_, _, _], h | [_, _, _, _], h => simp [isFive] at h
    | _ :: _ :: _ :: _ :: _ :: _ :: _, h => simp [isFive] at h
  | _ => cases h
theorem notfive {x : Ev.D} (h : isFive x = false) : fabFault x = some (.tup []) := by
  cases x with
  | tup xs => match xs, h with
    | [a, b, c, d, e], h => simp [isFive] at h
    | [], h | [_], h | [_, _], h | [_, _, _], h | [_, _, _, _], h => rfl
    | _ :: _ :: _ :: _ :: _ :: _ :: _, h => rfl
  | _ => rfl
theorem c_five (x : Ev.D) (y : EC) (E : Ev.Env) (s : Store) (h : v 0 E s = .ok (.d x) s) (hy : y E s = .ok (.d (.int 5)) s) : bor (bnot (bv (Ev.e1 (pIsi [.tuple]) (v 0)))) (bb (e2 pNe (Ev.e1 pLen (v 0)) y)) E s = .ok (!isFive x) s := by
  simp only [x_bor, x_bnot, x_bv, x_bb, x_e1, x_e2, h, hy, Res.bind_ok, x_isi, kBv_bl, if_not']
  cases x with
  | tup xs =>
    simp only [x_len_tup, Res.bind_ok, pNe_int, kBb_bl, isFive, show isT [.tuple] (tyD (.tup xs)) = true from rfl, if_true', hy]
    have : decide ((xs.length : Int) = 5) = decide (xs.length = 5) := dec_eq (by omega)
    rw [this]
  | _ => rfl
theorem bnds (s : Store) : enumS (.d c_BOUNDS) s = .ok (.vals [.d (.tup [.int 0, .tup [.int 1, .int 16]]), .d (.tup [.int 1, .tup [.int 1, .int 16]]), .d (.tup [.int 2, .tup [.int 1, .int 60]]), .d (.tup [.int 3, .tup [.int 2, .int 6]]), .d (.tup [.int 4, .tup [.int 1, .int 8]])]) s := rfl
theorem cf_tgt (m lo hi : Int) (a b c d : Option Val) (s : Store) : tt [tn 1, tt [tn 2, tn 3]] (.d (.tup [.int m, .tup [.int lo, .int hi]])) [a, b, c, d] s = some ([a, some (.d (.int m)), some (.d (.int lo)), some (.d (.int hi))], s) := rfl
def outF (p : Option Ev.D) (s : Store) : Res Val := match p with | none => .ok (.d .non) s | some p => .exc 0 [("path", p)] s
theorem w_check_fabric (n : Nat) (x : Ev.D) (s : Store) : runP prog (n + 2) 1 [.d x] s = outF (fabFault x) s := by
  rw [rp rfl, run_body rfl]
  show finR _ s (e_check_fabric _ [some (.d x), none, none, none] s) = _
  have c5 := c_five x (Ev.e1 pLen (k c_BOUNDS)) [some (.d x), none, none, none] s rfl rfl
  cases hf : isFive x with
  | false =>
    rw [notfive hf]
    rw [hf] at c5
    simp only [e_check_fabric, x_sq, x_if, c5]
    walk_at "s"
    rfl
  | true =>
    obtain ⟨a, b, c, d, e, rfl⟩ := five hf
    rw [hf] at c5
    have t0 := cf_turn n (.tup [a, b, c, d, e]) 0 1 16 a s ixt0
    have t1 := cf_turn n (.tup [a, b, c, d, e]) 1 1 16 b s ixt1
    have t2 := cf_turn n (.tup [a, b, c, d, e]) 2 1 60 c s ixt2
    have t3 := cf_turn n (.tup [a, b, c, d, e]) 3 2 6 d s ixt3
    have t4 := cf_turn n (.tup [a, b, c, d, e]) 4 1 8 e s ixt4
    have bn := bnds
    have tg := cf_tgt
    simp only [e_check_fabric, x_sq, x_if, c5, Bool.not_true, ofRes_ok, if_false', x_nil, SRes.next_nx]
    walk_at "h"
    simp only [fabFault]
    cases inB a 1 16 <;> cases inB b 1 16 <;> cases inB c 1 60 <;> cases inB d 2 6 <;> cases inB e 1 8 <;> rfl
/-- the path in a list -/
def told (p : Option Ev.D) : Ev.D := match p with | none => .lst [] | some p => .lst [p]
theorem ifo {A : Type} {t : Bool} {p q : A} : (if t = true then p else q) = bif t then p else q := by cases t <;> rfl
end K61
end
section
set_option linter.all false
set_option autoImplicit false
set_option maxRecDepth 100000
set_option maxHeartbeats 1000000
namespace K61
open PySem L2 Ev
local macro_rules | `(tactic| walk_at "s") => `(tactic| simp only [x_k, x_e1, x_e2, x_a0, x_ac, x_call, x_tup, x_lst, x_raise, kRaise_t, kRaise_p, x_for, kFor_v, kTurn_nx, kTurn_ct, kTurn_bk, kTurn_rt, kTurn_exc, kTurn_ite, x_iSeq, kSeq_t, kSeq_l, x_iEnum, enumS_t, enumS_l, x_iR1, x_iR2, pNe_int, pEq_int, pNe_str, dec_self, decide_true, decide_false, if_not', Bool.not_true, Bool.not_false, Bool.not_not, Bool.false_or, Bool.true_or, Bool.or_false, Bool.or_true, Bool.and_true, Bool.true_and, Bool.false_and, Bool.and_false, finR_bif, finR_rt, finR_nx, finR_exc, forV_nil', forV_cons', List.replicate_succ, List.replicate_zero, Nat.reduceSub, mkT0, mkT1, mkT2, mkT3, mkT4, mkT5, mkT6, mkL0, mkL1, mkL2, mkL3, mkL4, mkL5, mkL6, mkL7, mkL8, mkL9, mkL10, mkL11, x_bb, x_bv, kBb_bl, kBv_bl, kBv_int, kBv_non, x_bnot, x_band, x_bor, ite_and, ite_or, x_yes, x_eand, x_eor, x_enot, kAnd_bl, kOr_bl, kNot_bl, ite_andv, ite_orv, x_chain, kCh_bl, x_eif, x_sq, x_nil, x_setn, x_sett, x_seti, x_exp, x_ret, x_retN, x_if, next_ite, bind_ite, ofRes_ite, ixt0, ixt1, ixt2, ixt3, ixt4, ixt5, ixt6, ixt7, ixl0, ixl1, ixl2, ixl3, ixl4, ixl5, ixl6, ixl7, exF_one, x_len_tup, x_len_lst, x_isi, x_isN, x_notN, if_false', if_true', x_v, List.getElem?_cons_zero, List.getElem?_cons_succ, List.set_cons_zero, List.set_cons_succ, Res.bind_ok, Res.bind_exc, Res.bind_fail, ofRes_ok, ofRes_exc, ofRes_fail, SRes.next_nx, SRes.next_rt, SRes.next_exc, SRes.next_fail, pAdd_ok, pSub_ok, pLt_ok, pLe_ok, pGt_ok, pGe_ok, pInt_ok, pNeg_ok, pMax_ok, pMin_ok, List.map_cons, List.map_nil, List.cons_append, List.nil_append, List.append_nil])
local macro_rules | `(tactic| walk_at "h") => `(tactic| simp only [*, x_k, x_e1, x_e2, x_a0, x_ac, x_call, x_tup, x_lst, x_raise, kRaise_t, kRaise_p, x_for, kFor_v, kTurn_nx, kTurn_ct, kTurn_bk, kTurn_rt, kTurn_exc, kTurn_ite, x_iSeq, kSeq_t, kSeq_l, x_iEnum, enumS_t, enumS_l, x_iR1, x_iR2, pNe_int, pEq_int, pNe_str, dec_self, decide_true, decide_false, if_not', Bool.not_true, Bool.not_false, Bool.not_not, Bool.false_or, Bool.true_or, Bool.or_false, Bool.or_true, Bool.and_true, Bool.true_and, Bool.false_and, Bool.and_false, finR_bif, finR_rt, finR_nx, finR_exc, forV_nil', forV_cons', List.replicate_succ, List.replicate_zero, Nat.reduceSub, mkT0, mkT1, mkT2, mkT3, mkT4, mkT5, mkT6, mkL0, mkL1, mkL2, mkL3, mkL4, mkL5, mkL6, mkL7, mkL8, mkL9, mkL10, mkL11, x_bb, x_bv, kBb_bl, kBv_bl, kBv_int, kBv_non, x_bnot, x_band, x_bor, ite_and, ite_or, x_yes, x_eand, x_eor, x_enot, kAnd_bl, kOr_bl, kNot_bl, ite_andv, ite_orv, x_chain, kCh_bl, x_eif, x_sq, x_nil, x_setn, x_sett, x_seti, x_exp, x_ret, x_retN, x_if, next_ite, bind_ite, ofRes_ite, ixt0, ixt1, ixt2, ixt3, ixt4, ixt5, ixt6, ixt7, ixl0, ixl1, ixl2, ixl3, ixl4, ixl5, ixl6, ixl7, exF_one, x_len_tup, x_len_lst, x_isi, x_isN, x_notN, if_false', if_true', x_v, List.getElem?_cons_zero, List.getElem?_cons_succ, List.set_cons_zero, List.set_cons_succ, Res.bind_ok, Res.bind_exc, Res.bind_fail, ofRes_ok, ofRes_exc, ofRes_fail, SRes.next_nx, SRes.next_rt, SRes.next_exc, SRes.next_fail, pAdd_ok, pSub_ok, pLt_ok, pLe_ok, pGt_ok, pGe_ok, pInt_ok, pNeg_ok, pMax_ok, pMin_ok, List.map_cons, List.map_nil, List.cons_append, List.nil_append, List.append_nil])
theorem w_told (n : Nat) (x : Ev.D) (s : Store) : runP prog (n + 3) 24 [.d x] s = .ok (.d (told (fabFault x))) s := by
  rw [rp rfl, run_body rfl]
  show finR _ s (e__law_told _ [some (.d x), none, none] s) = _
  have w := w_check_fabric n x s
  cases h : fabFault x with
  | none =>
    replace w : runP prog (n + 2) 1 [.d x] s = .ok (.d .non) s := by rw [w, h]; rfl
    have b : _law_told_T1 (runP prog (n + 2)) [some (.d x), some (.d (.lst [])), none] s = .nx [some (.d x), some (.d (.lst [])), none] s := by
      simp only [_law_told_T1]; walk_at "h"
    have t := try_nx (c := 0) (o := []) (i := 2) (u := _law_told_H1 (runP prog (n + 2))) b
    simp only [e__law_told]; walk_at "h"
    rfl
  | some p =>
    replace w : runP prog (n + 2) 1 [.d x] s = .exc 0 [("path", p)] s := by rw [w, h]; rfl
    have b : _law_told_T1 (runP prog (n + 2)) [some (.d x), some (.d (.lst [])), none] s = .exc 0 [("path", p)] [some (.d x), some (.d (.lst [])), none] s := by
      simp only [_law_told_T1]; walk_at "h"
    have u : _law_told_H1 (runP prog (n + 2)) [some (.d x), some (.d (.lst [])), some (.exn 0 [("path", p)])] s = .nx [some (.d x), some (.d (.lst [p])), some (.exn 0 [("path", p)])] s := by
      simp only [_law_told_H1]; walk_at "h"
    have t := try_exc (o := []) (i := 2) (u := _law_told_H1 (runP prog (n + 2))) b (by show 2 < 3; decide) u rfl
    simp only [e__law_told]; walk_at "h"
    rfl
theorem due_turn (n : Nat) (val bl : Ev.D) (m : Int) (lo hi : Int) (x : Ev.D) (s : Store) (h : pIx (.d val) (.d (.int m)) s = .ok (.d x) s) (hb : pIx (.d bl) (.d (.int m)) s = .ok (.d (.tup [.int lo, .int hi])) s) :
    _law_due_L1 (runP prog (n + 1)) [some (.d val), some (.d bl), some (.d (.int m))] s = bif inB x lo hi then .nx [some (.d val), some (.d bl), some (.d (.int m))] s else .rt (.d (.lst [.tup [.int m]])) s := by
  have ww := w_is_whole n x
  simp only [_law_due_L1]
  walk_at "h"
  rcases isInt_or x with ⟨i, rfl⟩ | hx
  · simp only [isInt, inB]
    walk_at "h"
    rw [show decide (i < lo) = !decide (lo ≤ i) from dlt, show decide (hi < i) = !decide (i ≤ hi) from dlt]
    cases decide (lo ≤ i) <;> cases decide (i ≤ hi) <;> rfl
  · have e : inB x lo hi = false := by cases x <;> first | rfl | cases hx
    rw [hx, e]
    rfl
theorem rg5 (s : Store) : kR1 (.d (.int 5)) s = .ok (.vals [.d (.int 0), .d (.int 1), .d (.int 2), .d (.int 3), .d (.int 4)]) s := rfl
theorem due_tgt (x : Val) (a b c : Option Val) (s : Store) : tn 2 x [a, b, c] s = some ([a, b, some x], s) := rfl
theorem w_due (n : Nat) (x : Ev.D) (s : Store) : runP prog (n + 2) 25 [.d x] s = .ok (.d (told (fabFault x))) s := by
  rw [rp rfl, run_body rfl]
  show finR _ s (e__law_due _ [some (.d x), none, none] s) = _
  have c5 := c_five x (k (.int 5)) [some (.d x), none, none] s rfl rfl
  cases hf : isFive x with
  | false =>
    rw [notfive hf]
    rw [hf] at c5
    simp only [e__law_due, x_sq, x_if, c5]
    walk_at "s"
    rfl
  | true =>
    obtain ⟨a, b, c, d, e, rfl⟩ := five hf
    rw [hf] at c5
    have t0 := due_turn n (.tup [a, b, c, d, e]) (.lst [.tup [.int 1, .int 16], .tup [.int 1, .int 16], .tup [.int 1, .int 60], .tup [.int 2, .int 6], .tup [.int 1, .int 8]]) 0 1 16 a s ixt0 ixl0
    have t1 := due_turn n (.tup [a, b, c, d, e]) (.lst [.tup [.int 1, .int 16], .tup [.int 1, .int 16], .tup [.int 1, .int 60], .tup [.int 2, .int 6], .tup [.int 1, .int 8]]) 1 1 16 b s ixt1 ixl1
    have t2 := due_turn n (.tup [a, b, c, d, e]) (.lst [.tup [.int 1, .int 16], .tup [.int 1, .int 16], .tup [.int 1, .int 60], .tup [.int 2, .int 6], .tup [.int 1, .int 8]]) 2 1 60 c s ixt2 ixl2
    have t3 := due_turn n (.tup [a, b, c, d, e]) (.lst [.tup [.int 1, .int 16], .tup [.int 1, .int 16], .tup [.int 1, .int 60], .tup [.int 2, .int 6], .tup [.int 1, .int 8]]) 3 2 6 d s ixt3 ixl3
    have t4 := due_turn n (.tup [a, b, c, d, e]) (.lst [.tup [.int 1, .int 16], .tup [.int 1, .int 16], .tup [.int 1, .int 60], .tup [.int 2, .int 6], .tup [.int 1, .int 8]]) 4 1 8 e s ixt4 ixl4
    have bn := rg5
    have tg := due_tgt
    simp only [e__law_due, x_sq, x_if, c5, Bool.not_true, ofRes_ok, if_false', x_nil, SRes.next_nx]
    walk_at "h"
    simp only [fabFault]
    cases inB a 1 16 <;> cases inB b 1 16 <;> cases inB c 1 60 <;> cases inB d 2 6 <;> cases inB e 1 8 <;> rfl
end K61
end
section
set_option linter.all false
set_option autoImplicit false
set_option maxRecDepth 100000
set_option maxHeartbeats 1000000
namespace K61
open PySem L2 Ev
local macro_rules | `(tactic| walk_at "s") => `(tactic| simp only [x_k, x_e1, x_e2, x_a0, x_ac, x_call, x_tup, x_lst, x_raise, kRaise_t, kRaise_p, x_for, kFor_v, kTurn_nx, kTurn_ct, kTurn_bk, kTurn_rt, kTurn_exc, kTurn_ite, x_iSeq, kSeq_t, kSeq_l, x_iEnum, enumS_t, enumS_l, x_iR1, x_iR2, pNe_int, pEq_int, pNe_str, dec_self, decide_true, decide_false, if_not', Bool.not_true, Bool.not_false, Bool.not_not, Bool.false_or, Bool.true_or, Bool.or_false, Bool.or_true, Bool.and_true, Bool.true_and, Bool.false_and, Bool.and_false, finR_bif, finR_rt, finR_nx, finR_exc, forV_nil', forV_cons', List.replicate_succ, List.replicate_zero, Nat.reduceSub, mkT0, mkT1, mkT2, mkT3, mkT4, mkT5, mkT6, mkL0, mkL1, mkL2, mkL3, mkL4, mkL5, mkL6, mkL7, mkL8, mkL9, mkL10, mkL11, x_bb, x_bv, kBb_bl, kBv_bl, kBv_int, kBv_non, x_bnot, x_band, x_bor, ite_and, ite_or, x_yes, x_eand, x_eor, x_enot, kAnd_bl, kOr_bl, kNot_bl, ite_andv, ite_orv, x_chain, kCh_bl, x_eif, x_sq, x_nil, x_setn, x_sett, x_seti, x_exp, x_ret, x_retN, x_if, next_ite, bind_ite, ofRes_ite, ixt0, ixt1, ixt2, ixt3, ixt4, ixt5, ixt6, ixt7, ixl0, ixl1, ixl2, ixl3, ixl4, ixl5, ixl6, ixl7, exF_one, x_len_tup, x_len_lst, x_isi, x_isN, x_notN, if_false', if_true', x_v, List.getElem?_cons_zero, List.getElem?_cons_succ, List.set_cons_zero, List.set_cons_succ, Res.bind_ok, Res.bind_exc, Res.bind_fail, ofRes_ok, ofRes_exc, ofRes_fail, SRes.next_nx, SRes.next_rt, SRes.next_exc, SRes.next_fail, pAdd_ok, pSub_ok, pLt_ok, pLe_ok, pGt_ok, pGe_ok, pInt_ok, pNeg_ok, pMax_ok, pMin_ok, List.map_cons, List.map_nil, List.cons_append, List.nil_append, List.append_nil])
local macro_rules | `(tactic| walk_at "h") => `(tactic| simp only [*, x_k, x_e1, x_e2, x_a0, x_ac, x_call, x_tup, x_lst, x_raise, kRaise_t, kRaise_p, x_for, kFor_v, kTurn_nx, kTurn_ct, kTurn_bk, kTurn_rt, kTurn_exc, kTurn_ite, x_iSeq, kSeq_t, kSeq_l, x_iEnum, enumS_t, enumS_l, x_iR1, x_iR2, pNe_int, pEq_int, pNe_str, dec_self, decide_true, decide_false, if_not', Bool.not_true, Bool.not_false, Bool.not_not, Bool.false_or, Bool.true_or, Bool.or_false, Bool.or_true, Bool.and_true, Bool.true_and, Bool.false_and, Bool.and_false, finR_bif, finR_rt, finR_nx, finR_exc, forV_nil', forV_cons', List.replicate_succ, List.replicate_zero, Nat.reduceSub, mkT0, mkT1, mkT2, mkT3, mkT4, mkT5, mkT6, mkL0, mkL1, mkL2, mkL3, mkL4, mkL5, mkL6, mkL7, mkL8, mkL9, mkL10, mkL11, x_bb, x_bv, kBb_bl, kBv_bl, kBv_int, kBv_non, x_bnot, x_band, x_bor, ite_and, ite_or, x_yes, x_eand, x_eor, x_enot, kAnd_bl, kOr_bl, kNot_bl, ite_andv, ite_orv, x_chain, kCh_bl, x_eif, x_sq, x_nil, x_setn, x_sett, x_seti, x_exp, x_ret, x_retN, x_if, next_ite, bind_ite, ofRes_ite, ixt0, ixt1, ixt2, ixt3, ixt4, ixt5, ixt6, ixt7, ixl0, ixl1, ixl2, ixl3, ixl4, ixl5, ixl6, ixl7, exF_one, x_len_tup, x_len_lst, x_isi, x_isN, x_notN, if_false', if_true', x_v, List.getElem?_cons_zero, List.getElem?_cons_succ, List.set_cons_zero, List.set_cons_succ, Res.bind_ok, Res.bind_exc, Res.bind_fail, ofRes_ok, ofRes_exc, ofRes_fail, SRes.next_nx, SRes.next_rt, SRes.next_exc, SRes.next_fail, pAdd_ok, pSub_ok, pLt_ok, pLe_ok, pGt_ok, pGe_ok, pInt_ok, pNeg_ok, pMax_ok, pMin_ok, List.map_cons, List.map_nil, List.cons_append, List.nil_append, List.append_nil])
def onT (W H x y : Int) : Bool := (decide (0 ≤ x) && decide (x < W)) && (decide (0 ≤ y) && decide (y < H))
abbrev tile (x y : Int) : Ev.D := .tup [.int x, .int y]
def dx (sd : Int) : Int := if sd = 0 then 1 else if sd = 2 then -1 else 0
def dy (sd : Int) : Int := if sd = 1 then 1 else if sd = 3 then -1 else 0
/-- the neighbour on a side -/
def nb (W H x y sd : Int) : Ev.D := bif onT W H (x + dx sd) (y + dy sd) then tile (x + dx sd) (y + dy sd) else .non
theorem w_is_tile (n : Nat) (W H x y : Int) (r : List Ev.D) (s : Store) : runP prog (n + 1) 2 [.d (.tup (.int W :: .int H :: r)), .d (.int x), .d (.int y)] s = .ok (.d (.bl (onT W H x y))) s := by
  rw [rp rfl, run_body rfl]
  simp only [e_is_tile]
  walk_at "s"
  rfl
theorem st0 (s : Store) : pIx (.d c_STEPS) (.d (.int 0)) s = .ok (.d (tile 1 0)) s := rfl
theorem st1 (s : Store) : pIx (.d c_STEPS) (.d (.int 1)) s = .ok (.d (tile 0 1)) s := rfl
theorem st2 (s : Store) : pIx (.d c_STEPS) (.d (.int 2)) s = .ok (.d (tile (-1) 0)) s := rfl
theorem st3 (s : Store) : pIx (.d c_STEPS) (.d (.int 3)) s = .ok (.d (tile 0 (-1))) s := rfl
theorem okv_bif {t : Bool} {p q : Ev.D} {s : Store} : (bif t then Res.ok (Val.d p) s else Res.ok (Val.d q) s) = Res.ok (Val.d (bif t then p else q)) s := by cases t <;> rfl
theorem dx0 : dx 0 = 1 := rfl
theorem dx1 : dx 1 = 0 := rfl
theorem dx2 : dx 2 = -1 := rfl
theorem dx3 : dx 3 = 0 := rfl
theorem dy0 : dy 0 = 0 := rfl
theorem dy1 : dy 1 = 1 := rfl
theorem dy2 : dy 2 = 0 := rfl
theorem dy3 : dy 3 = -1 := rfl
theorem side_cases {sd : Int} (h0 : 0 ≤ sd) (h4 : sd < 4) : sd = 0 ∨ sd = 1 ∨ sd = 2 ∨ sd = 3 := by omega
theorem w_neighbour (n : Nat) (W H x y sd : Int) (r : List Ev.D) (s : Store) (h0 : 0 ≤ sd) (h4 : sd < 4) : runP prog (n + 2) 4 [.d (.tup (.int W :: .int H :: r)), .d (.int x), .d (.int y), .d (.int sd)] s = .ok (.d (nb W H x y sd)) s := by
  rw [rp rfl, run_body rfl]
  have w := w_is_tile n W H
  have q := st0
  have q1 := st1
  have q2 := st2
  have q3 := st3
  simp only [e_neighbour]
  rcases side_cases h0 h4 with rfl | rfl | rfl | rfl
  · walk_at "h"; simp only [nb, dx0, dy0]; cases onT W H (x + 1) (y + 0) <;> rfl
  · walk_at "h"; simp only [nb, dx1, dy1]; cases onT W H (x + 0) (y + 1) <;> rfl
  · walk_at "h"; simp only [nb, dx2, dy2]; cases onT W H (x + -1) (y + 0) <;> rfl
  · walk_at "h"; simp only [nb, dx3, dy3]; cases onT W H (x + 0) (y + -1) <;> rfl
/-- the law's own -/
theorem w_beside (n : Nat) (W H x y sd : Int) (r : List Ev.D) (s : Store) (h0 : 0 ≤ sd) (h4 : sd < 4) : runP prog (n + 1) 19 [.d (.tup (.int W :: .int H :: r)), .d (.int x), .d (.int y), .d (.int sd)] s = .ok (.d (nb W H x y sd)) s := by
  rw [rp rfl, run_body rfl]
  simp only [e__law_beside]
  rcases side_cases h0 h4 with rfl | rfl | rfl | rfl
  · walk_at "h"; simp only [nb, dx0, dy0, Int.add_zero, onT]; exact okv_bif
  · walk_at "h"; simp only [nb, dx1, dy1, Int.add_zero, onT]; exact okv_bif
  · walk_at "h"; simp only [nb, dx2, dy2, Int.add_zero, onT, ← Int.sub_eq_add_neg]; exact okv_bif
  · walk_at "h"; simp only [nb, dx3, dy3, Int.add_zero, onT, ← Int.sub_eq_add_neg]; exact okv_bif
theorem nb_cases (W H x y sd : Int) : nb W H x y sd = .non ∨ nb W H x y sd = tile (x + dx sd) (y + dy sd) := by
  unfold nb; cases onT W H (x + dx sd) (y + dy sd) <;> simp
theorem nb_plain (W H x y sd : Int) : (nb W H x y sd).plain = true := by rcases nb_cases W H x y sd with h | h <;> rw [h] <;> rfl
/-- the wire that comes in -/
def coming (W H x y sd t : Int) : Ev.D := bif onT W H (x + dx sd) (y + dy sd) then .tup [.int (x + dx sd), .int (y + dy sd), .int ((sd + 2) % 4), .int t] else .non
theorem isN_tup (xs : List Ev.D) (s : Store) : pIsN (.d (.tup xs)) s = .ok (.d (.bl false)) s := rfl
theorem isN_non (s : Store) : pIsN (.d .non) s = .ok (.d (.bl true)) s := rfl
theorem mod4 (i : Int) (s : Store) : pMod (.d (.int i)) (.d (.int 4)) s = .ok (.d (.int (i % 4))) s := pMod_ok s (by decide)
theorem w_wire_in (n : Nat) (W H x y sd t : Int) (r : List Ev.D) (s : Store) (h0 : 0 ≤ sd) (h4 : sd < 4) : runP prog (n + 3) 8 [.d (.tup (.int W :: .int H :: r)), .d (.int x), .d (.int y), .d (.int sd), .d (.int t)] s = .ok (.d (coming W H x y sd t)) s := by
  rw [rp rfl, run_body rfl]
  have w := w_neighbour n W H x y sd r s h0 h4
  have m := mod4
  have z := isN_tup
  have z2 := isN_non
  simp only [e_wire_in]
  walk_at "h"
  unfold nb coming
  cases onT W H (x + dx sd) (y + dy sd) with
  | false => walk_at "h"
  | true => walk_at "h"
theorem w_coming (n : Nat) (W H x y sd t : Int) (r : List Ev.D) (s : Store) (h0 : 0 ≤ sd) (h4 : sd < 4) : runP prog (n + 2) 23 [.d (.tup (.int W :: .int H :: r)), .d (.int x), .d (.int y), .d (.int sd), .d (.int t)] s = .ok (.d (coming W H x y sd t)) s := by
  rw [rp rfl, run_body rfl]
  have w := w_beside n W H x y sd r s h0 h4
  have z := isN_tup
  have z2 := isN_non
  simp only [e__law_coming]
  walk_at "h"
  unfold nb coming
  have q : pIx (.d (.lst [.int 2, .int 3, .int 0, .int 1])) (.d (.int sd)) s = .ok (.d (.int ((sd + 2) % 4))) s := by rcases side_cases h0 h4 with rfl | rfl | rfl | rfl <;> rfl
  cases onT W H (x + dx sd) (y + dy sd) with
  | false => walk_at "h"
  | true => walk_at "h"
end K61
end
section
set_option linter.all false
set_option autoImplicit false
set_option maxRecDepth 100000
set_option maxHeartbeats 1000000
namespace K61
open PySem L2 Ev
local macro_rules | `(tactic| walk_at "s") => `(tactic| simp only [x_k, x_e1, x_e2, x_a0, x_ac, x_call, x_tup, x_lst, x_raise, kRaise_t, kRaise_p, x_for, kFor_v, kTurn_nx, kTurn_ct, kTurn_bk, kTurn_rt, kTurn_exc, kTurn_ite, x_iSeq, kSeq_t, kSeq_l, x_iEnum, enumS_t, enumS_l, x_iR1, x_iR2, pNe_int, pEq_int, pNe_str, dec_self, decide_true, decide_false, if_not', Bool.not_true, Bool.not_false, Bool.not_not, Bool.false_or, Bool.true_or, Bool.or_false, Bool.or_true, Bool.and_true, Bool.true_and, Bool.false_and, Bool.and_false, finR_bif, finR_rt, finR_nx, finR_exc, forV_nil', forV_cons', List.replicate_succ, List.replicate_zero, Nat.reduceSub, mkT0, mkT1, mkT2, mkT3, mkT4, mkT5, mkT6, mkL0, mkL1, mkL2, mkL3, mkL4, mkL5, mkL6, mkL7, mkL8, mkL9, mkL10, mkL11, x_bb, x_bv, kBb_bl, kBv_bl, kBv_int, kBv_non, x_bnot, x_band, x_bor, ite_and, ite_or, x_yes, x_eand, x_eor, x_enot, kAnd_bl, kOr_bl, kNot_bl, ite_andv, ite_orv, x_chain, kCh_bl, x_eif, x_sq, x_nil, x_setn, x_sett, x_seti, x_exp, x_ret, x_retN, x_if, next_ite, bind_ite, ofRes_ite, ixt0, ixt1, ixt2, ixt3, ixt4, ixt5, ixt6, ixt7, ixl0, ixl1, ixl2, ixl3, ixl4, ixl5, ixl6, ixl7, exF_one, x_len_tup, x_len_lst, x_isi, x_isN, x_notN, if_false', if_true', x_v, List.getElem?_cons_zero, List.getElem?_cons_succ, List.set_cons_zero, List.set_cons_succ, Res.bind_ok, Res.bind_exc, Res.bind_fail, ofRes_ok, ofRes_exc, ofRes_fail, SRes.next_nx, SRes.next_rt, SRes.next_exc, SRes.next_fail, pAdd_ok, pSub_ok, pLt_ok, pLe_ok, pGt_ok, pGe_ok, pInt_ok, pNeg_ok, pMax_ok, pMin_ok, List.map_cons, List.map_nil, List.cons_append, List.nil_append, List.append_nil])
local macro_rules | `(tactic| walk_at "h") => `(tactic| simp only [*, x_k, x_e1, x_e2, x_a0, x_ac, x_call, x_tup, x_lst, x_raise, kRaise_t, kRaise_p, x_for, kFor_v, kTurn_nx, kTurn_ct, kTurn_bk, kTurn_rt, kTurn_exc, kTurn_ite, x_iSeq, kSeq_t, kSeq_l, x_iEnum, enumS_t, enumS_l, x_iR1, x_iR2, pNe_int, pEq_int, pNe_str, dec_self, decide_true, decide_false, if_not', Bool.not_true, Bool.not_false, Bool.not_not, Bool.false_or, Bool.true_or, Bool.or_false, Bool.or_true, Bool.and_true, Bool.true_and, Bool.false_and, Bool.and_false, finR_bif, finR_rt, finR_nx, finR_exc, forV_nil', forV_cons', List.replicate_succ, List.replicate_zero, Nat.reduceSub, mkT0, mkT1, mkT2, mkT3, mkT4, mkT5, mkT6, mkL0, mkL1, mkL2, mkL3, mkL4, mkL5, mkL6, mkL7, mkL8, mkL9, mkL10, mkL11, x_bb, x_bv, kBb_bl, kBv_bl, kBv_int, kBv_non, x_bnot, x_band, x_bor, ite_and, ite_or, x_yes, x_eand, x_eor, x_enot, kAnd_bl, kOr_bl, kNot_bl, ite_andv, ite_orv, x_chain, kCh_bl, x_eif, x_sq, x_nil, x_setn, x_sett, x_seti, x_exp, x_ret, x_retN, x_if, next_ite, bind_ite, ofRes_ite, ixt0, ixt1, ixt2, ixt3, ixt4, ixt5, ixt6, ixt7, ixl0, ixl1, ixl2, ixl3, ixl4, ixl5, ixl6, ixl7, exF_one, x_len_tup, x_len_lst, x_isi, x_isN, x_notN, if_false', if_true', x_v, List.getElem?_cons_zero, List.getElem?_cons_succ, List.set_cons_zero, List.set_cons_succ, Res.bind_ok, Res.bind_exc, Res.bind_fail, ofRes_ok, ofRes_exc, ofRes_fail, SRes.next_nx, SRes.next_rt, SRes.next_exc, SRes.next_fail, pAdd_ok, pSub_ok, pLt_ok, pLe_ok, pGt_ok, pGe_ok, pInt_ok, pNeg_ok, pMax_ok, pMin_ok, List.map_cons, List.map_nil, List.cons_append, List.nil_append, List.append_nil])
abbrev fab (W H T K P : Int) : Ev.D := .tup [.int W, .int H, .int T, .int K, .int P]
def toI : Ev.D → Int | .int i => i | _ => 0
/-- whether the none is among the neighbours -/
def bord (W H x y : Int) : Bool := inD .non ((rng 0 4).map fun q => nb W H x y (toI q))
theorem w_is_border (n : Nat) (W H x y : Int) (r : List Ev.D) (s : Store) : runP prog (n + 3) 5 [.d (.tup (.int W :: .int H :: r)), .d (.int x), .d (.int y)] s = .ok (.d (.bl (bord W H x y))) s := by
  rw [rp rfl, run_body rfl]
  have l := lc_all (E := [some (.d (.tup (.int W :: .int H :: r))), some (.d (.int x)), some (.d (.int y)), none]) (s := s) (ws := [3]) (g := tn 3) (ic := Ev.iRng1 (k (.int 4))) (c := yes) (e := is_border_x1 (runP prog (n + 2))) (xs := rng 0 4) (fun q => nb W H x y (toI q)) rfl (by rw [rng_len]; exact len_line (by decide)) fun q hq => by
    obtain ⟨sd, rfl, h0, h4⟩ := rng_mem hq
    have w := w_neighbour n W H x y sd r s h0 h4
    refine ⟨[some (.d (.tup (.int W :: .int H :: r))), some (.d (.int x)), some (.d (.int y)), some (.d (.int sd))], rfl, rfl, ?_⟩
    simp only [is_border_x1]
    walk_at "h"
    rfl
  have p := pIn_lst (a := .non) (ys := (rng 0 4).map fun q => nb W H x y (toI q)) (s := s) rfl (plains_all fun z hz => by
    obtain ⟨q, hq, rfl⟩ := List.mem_map.mp hz
    exact nb_plain _ _ _ _ _) rfl
  simp only [e_is_border]
  walk_at "h"
  rfl
theorem bord_is (W H x y : Int) : bord W H x y = !((onT W H (x + 1) y && onT W H x (y + 1)) && (onT W H (x - 1) y && onT W H x (y - 1))) := by
  have e : bord W H x y = (eqD (nb W H x y 0) .non || (eqD (nb W H x y 1) .non || (eqD (nb W H x y 2) .non || (eqD (nb W H x y 3) .non || false)))) := rfl
  have q : ∀ sd, eqD (nb W H x y sd) .non = !onT W H (x + dx sd) (y + dy sd) := fun sd => by unfold nb; cases onT W H (x + dx sd) (y + dy sd) <;> simp [eqD, toPy, PyData.eqv]
  rw [e, q, q, q, q, dx0, dx1, dx2, dx3, dy0, dy1, dy2, dy3, Int.add_zero, Int.add_zero, ← Int.sub_eq_add_neg, ← Int.sub_eq_add_neg]
  cases onT W H (x + 1) y <;> cases onT W H x (y + 1) <;> cases onT W H (x - 1) y <;> cases onT W H x (y - 1) <;> rfl
theorem onT_iff {W H x y : Int} : onT W H x y = true ↔ (0 ≤ x ∧ x < W) ∧ (0 ≤ y ∧ y < H) := by simp [onT]
/-- on a tile, as the law says it -/
theorem bord_law {W H x y : Int} (h : onT W H x y = true) : bord W H x y = ((decide (0 = x) || decide (W - 1 = x)) || (decide (0 = y) || decide (H - 1 = y))) := by
  rw [onT_iff] at h
  have e1 : onT W H (x + 1) y = decide (x + 1 < W) := by rw [Bool.eq_iff_iff, onT_iff, decide_eq_true_eq]; omega
  have e2 : onT W H x (y + 1) = decide (y + 1 < H) := by rw [Bool.eq_iff_iff, onT_iff, decide_eq_true_eq]; omega
  have e3 : onT W H (x - 1) y = decide (1 ≤ x) := by rw [Bool.eq_iff_iff, onT_iff, decide_eq_true_eq]; omega
  have e4 : onT W H x (y - 1) = decide (1 ≤ y) := by rw [Bool.eq_iff_iff, onT_iff, decide_eq_true_eq]; omega
  rw [bord_is, e1, e2, e3, e4, Bool.eq_iff_iff]
  simp only [Bool.not_eq_true', Bool.and_eq_false_iff, Bool.or_eq_true, decide_eq_true_eq, decide_eq_false_iff_not]
  omega
/-! ### all tiles -/
def tilesD (W H : Int) : List Ev.D := (rng 0 H).flatMap fun q => (rng 0 W).map fun r => .tup [r, q]
theorem flat_len {A B : Type} (f : A → List B) (m : Nat) : ∀ xs : List A, (∀ x ∈ xs, (f x).length ≤ m) → (xs.flatMap f).length ≤ xs.length * m
  | [], _ => by simp
  | x :: xs, h => by
    have h1 := h x List.mem_cons_self
    have h2 := flat_len f m xs fun y hy => h y (List.mem_cons_of_mem _ hy)
    rw [List.flatMap_cons, List.length_append, List.length_cons, Nat.add_mul]; omega
theorem tilesD_len {W H : Int} (hW : W ≤ 1000) (hH : H ≤ 1000) : (tilesD W H).length ≤ 1000000 := by
  have h := flat_len (fun q => (rng 0 W).map fun r => Ev.D.tup [r, q]) 1000 (rng 0 H) fun x _ => by rw [List.length_map, rng_len]; omega
  rw [rng_len] at h
  unfold tilesD
  omega
theorem tilesD_mem {W H : Int} {z : Ev.D} (h : z ∈ tilesD W H) : ∃ x y, z = tile x y ∧ onT W H x y = true := by
  simp only [tilesD, List.mem_flatMap, List.mem_map] at h
  obtain ⟨q, hq, r, hr, rfl⟩ := h
  obtain ⟨y, rfl, h1, h2⟩ := rng_mem hq
  obtain ⟨x, rfl, h3, h4⟩ := rng_mem hr
  exact ⟨x, y, rfl, onT_iff.mpr ⟨⟨h3, h4⟩, h1, h2⟩⟩
structure Ok5 (W H T P : Int) : Prop where
  w0 : 1 ≤ W
  w1 : W ≤ 1000
  h0 : 1 ≤ H
  h1 : H ≤ 1000
  t0 : 0 ≤ T
  t1 : T ≤ 1000
  p0 : 0 ≤ P
  p1 : P ≤ 1000
theorem b_tiles (C : Calls) {W H T K P : Int} (o : Ok5 W H T P) (s : Store) : e_tiles_of C [some (.d (fab W H T K P)), none, none] s = .rt (.loc s.length) (s ++ [.lst (tilesD W H)]) := by
  obtain ⟨w0, w1, h0, h1, _, _, _, _⟩ := o
  have h := lc2V_all (E := [some (.d (fab W H T K P)), none, none]) (s := s) (ws := [1, 2]) (ws1 := [2]) (g := tn 1) (g1 := tn 2) (i1 := Ev.iRng1 (e2 pIx (v 0) (k (.int 0)))) (c := yes) (c1 := yes) (e := tiles_of_x1 C) (fun _ => rng 0 W) (fun q r => .tup [r, q]) (rng 0 H) fun q hq => by
    refine ⟨[some (.d (fab W H T K P)), some (.d q), none], rfl, rfl, ?_, fun r hr => ⟨[some (.d (fab W H T K P)), some (.d q), some (.d r)], rfl, rfl, ?_⟩⟩
    · have := kR1_ok (s := s) (small_of (i := W) (by omega) (by omega))
      walk_at "h"
    · simp only [tiles_of_x1]; walk_at "s"
  have i : Ev.iRng1 (e2 pIx (v 0) (k (.int 1))) [some (.d (fab W H T K P)), none, none] s = .ok (.vals ((rng 0 H).map .d)) s := by
    have := kR1_ok (s := s) (small_of (i := H) (by omega) (by omega))
    walk_at "h"
  have z := lc2A_ok i h (len_line' (tilesD_len w1 h1))
  simp only [e_tiles_of, x_sq, x_ret, z, ofRes_ok, SRes.next_rt]
  rfl
theorem w_tiles (n : Nat) {W H T K P : Int} (o : Ok5 W H T P) (s : Store) : runP prog (n + 1) 3 [.d (fab W H T K P)] s = .ok (.d (.lst (tilesD W H))) s := by
  rw [rp rfl, run_body rfl]
  show finR false s (e_tiles_of _ [some (.d (fab W H T K P)), none, none] s) = _
  rw [b_tiles _ o, finR_frz]
theorem k_tiles (n : Nat) {W H T K P : Int} (o : Ok5 W H T P) (s : Store) : runP prog (n + 1) 31 [.d (fab W H T K P)] s = .ok (.loc s.length) (s ++ [.lst (tilesD W H)]) := by
  rw [rp rfl, run_body rfl]
  show finR true s (e_tiles_of _ [some (.d (fab W H T K P)), none, none] s) = _
  rw [b_tiles _ o, finR_kp]
/-- the law's tiles -/
theorem w_ltiles (n : Nat) {W H T K P : Int} (o : Ok5 W H T P) (s : Store) : runP prog (n + 1) 20 [.d (fab W H T K P)] s = .ok (.d (.lst (tilesD W H))) s := by
  obtain ⟨w0, w1, h0, h1, _, _, _, _⟩ := o
  rw [rp rfl, run_body rfl]
  show finR false s (e__law_tiles _ [some (.d (fab W H T K P)), none, none, none] s) = _
  obtain ⟨E', s', hl, ⟨a, b, rfl⟩, rfl⟩ := forV_pre0 (t := tn 2) (b := _law_tiles_L1 (runP prog n)) (fun pre E s' => (∃ a b, E = [some (.d (fab W H T K P)), some (.d (.lst (pre.flatMap fun q => (rng 0 W).map fun r => .tup [r, q]))), a, b]) ∧ s = s') (E := [some (.d (fab W H T K P)), some (.d (.lst [])), none, none]) (s := s) (rng 0 H) ⟨⟨none, none, rfl⟩, rfl⟩ fun pre q post e E s' ⟨⟨a, b, hE⟩, hs⟩ => by
    subst hE hs
    refine ⟨_, s, [some (.d (fab W H T K P)), some (.d (.lst ((pre ++ [q]).flatMap fun q => (rng 0 W).map fun r => .tup [r, q]))), some (.d q), b], s, rfl, ?_, ⟨_, _, rfl⟩, rfl⟩
    have l := lc_all (E := [some (.d (fab W H T K P)), some (.d (.lst (pre.flatMap fun q => (rng 0 W).map fun r => .tup [r, q]))), some (.d q), b]) (s := s) (ws := [3]) (g := tn 3) (ic := Ev.iRng1 (e2 pIx (v 0) (k (.int 0)))) (c := yes) (e := _law_tiles_x1 (runP prog n)) (xs := rng 0 W) (fun r => .tup [r, q]) (by
        have := kR1_ok (s := s) (small_of (i := W) (by omega) (by omega))
        walk_at "h") (by rw [rng_len]; exact len_line (by omega)) fun r hr => ⟨[some (.d (fab W H T K P)), some (.d (.lst (pre.flatMap fun q => (rng 0 W).map fun r => .tup [r, q]))), some (.d q), some (.d r)], rfl, rfl, by simp only [_law_tiles_x1]; walk_at "s"⟩
    have ad := pAdd_lst (s := s) (a := pre.flatMap fun q => (rng 0 W).map fun r => .tup [r, q]) (b := (rng 0 W).map fun r => .tup [r, q]) (by
      have q1 := tilesD_len (W := W) (H := H) w1 h1
      unfold tilesD at q1
      rw [e, List.flatMap_append, List.flatMap_cons, List.length_append, List.length_append] at q1
      exact len_line (by omega))
    simp only [_law_tiles_L1, x_sq, x_setn, x_e2, l, List.set_cons_zero, List.set_cons_succ]
    walk_at "h"
    simp only [List.flatMap_append, List.flatMap_cons, List.flatMap_nil, List.append_nil]
  have i := kR1_ok (s := s) (small_of (i := H) (by omega) (by omega))
  simp only [e__law_tiles]
  walk_at "h"
  rfl
end K61
end
section
set_option linter.all false
set_option autoImplicit false
set_option maxRecDepth 100000
set_option maxHeartbeats 1000000
namespace K61
open PySem L2 Ev
local macro_rules | `(tactic| walk_at "s") => `(tactic| simp only [x_k, x_e1, x_e2, x_a0, x_ac, x_call, x_tup, x_lst, x_raise, kRaise_t, kRaise_p, x_for, kFor_v, kTurn_nx, kTurn_ct, kTurn_bk, kTurn_rt, kTurn_exc, kTurn_ite, x_iSeq, kSeq_t, kSeq_l, x_iEnum, enumS_t, enumS_l, x_iR1, x_iR2, pNe_int, pEq_int, pNe_str, dec_self, decide_true, decide_false, if_not', Bool.not_true, Bool.not_false, Bool.not_not, Bool.false_or, Bool.true_or, Bool.or_false, Bool.or_true, Bool.and_true, Bool.true_and, Bool.false_and, Bool.and_false, finR_bif, finR_rt, finR_nx, finR_exc, forV_nil', forV_cons', List.replicate_succ, List.replicate_zero, Nat.reduceSub, mkT0, mkT1, mkT2, mkT3, mkT4, mkT5, mkT6, mkL0, mkL1, mkL2, mkL3, mkL4, mkL5, mkL6, mkL7, mkL8, mkL9, mkL10, mkL11, x_bb, x_bv, kBb_bl, kBv_bl, kBv_int, kBv_non, x_bnot, x_band, x_bor, ite_and, ite_or, x_yes, x_eand, x_eor, x_enot, kAnd_bl, kOr_bl, kNot_bl, ite_andv, ite_orv, x_chain, kCh_bl, x_eif, x_sq, x_nil, x_setn, x_sett, x_seti, x_exp, x_ret, x_retN, x_if, next_ite, bind_ite, ofRes_ite, ixt0, ixt1, ixt2, ixt3, ixt4, ixt5, ixt6, ixt7, ixl0, ixl1, ixl2, ixl3, ixl4, ixl5, ixl6, ixl7, exF_one, x_len_tup, x_len_lst, x_isi, x_isN, x_notN, if_false', if_true', x_v, List.getElem?_cons_zero, List.getElem?_cons_succ, List.set_cons_zero, List.set_cons_succ, Res.bind_ok, Res.bind_exc, Res.bind_fail, ofRes_ok, ofRes_exc, ofRes_fail, SRes.next_nx, SRes.next_rt, SRes.next_exc, SRes.next_fail, pAdd_ok, pSub_ok, pLt_ok, pLe_ok, pGt_ok, pGe_ok, pInt_ok, pNeg_ok, pMax_ok, pMin_ok, List.map_cons, List.map_nil, List.cons_append, List.nil_append, List.append_nil])
local macro_rules | `(tactic| walk_at "h") => `(tactic| simp only [*, x_k, x_e1, x_e2, x_a0, x_ac, x_call, x_tup, x_lst, x_raise, kRaise_t, kRaise_p, x_for, kFor_v, kTurn_nx, kTurn_ct, kTurn_bk, kTurn_rt, kTurn_exc, kTurn_ite, x_iSeq, kSeq_t, kSeq_l, x_iEnum, enumS_t, enumS_l, x_iR1, x_iR2, pNe_int, pEq_int, pNe_str, dec_self, decide_true, decide_false, if_not', Bool.not_true, Bool.not_false, Bool.not_not, Bool.false_or, Bool.true_or, Bool.or_false, Bool.or_true, Bool.and_true, Bool.true_and, Bool.false_and, Bool.and_false, finR_bif, finR_rt, finR_nx, finR_exc, forV_nil', forV_cons', List.replicate_succ, List.replicate_zero, Nat.reduceSub, mkT0, mkT1, mkT2, mkT3, mkT4, mkT5, mkT6, mkL0, mkL1, mkL2, mkL3, mkL4, mkL5, mkL6, mkL7, mkL8, mkL9, mkL10, mkL11, x_bb, x_bv, kBb_bl, kBv_bl, kBv_int, kBv_non, x_bnot, x_band, x_bor, ite_and, ite_or, x_yes, x_eand, x_eor, x_enot, kAnd_bl, kOr_bl, kNot_bl, ite_andv, ite_orv, x_chain, kCh_bl, x_eif, x_sq, x_nil, x_setn, x_sett, x_seti, x_exp, x_ret, x_retN, x_if, next_ite, bind_ite, ofRes_ite, ixt0, ixt1, ixt2, ixt3, ixt4, ixt5, ixt6, ixt7, ixl0, ixl1, ixl2, ixl3, ixl4, ixl5, ixl6, ixl7, exF_one, x_len_tup, x_len_lst, x_isi, x_isN, x_notN, if_false', if_true', x_v, List.getElem?_cons_zero, List.getElem?_cons_succ, List.set_cons_zero, List.set_cons_succ, Res.bind_ok, Res.bind_exc, Res.bind_fail, ofRes_ok, ofRes_exc, ofRes_fail, SRes.next_nx, SRes.next_rt, SRes.next_exc, SRes.next_fail, pAdd_ok, pSub_ok, pLt_ok, pLe_ok, pGt_ok, pGe_ok, pInt_ok, pNeg_ok, pMax_ok, pMin_ok, List.map_cons, List.map_nil, List.cons_append, List.nil_append, List.append_nil])
def at0 : Ev.D → Int | .tup (.int x :: _) => x | _ => 0
def at1 : Ev.D → Int | .tup (_ :: .int y :: _) => y | _ => 0
def bordD (W H : Int) (z : Ev.D) : Bool := bord W H (at0 z) (at1 z)
def padsOf (P : Int) (z : Ev.D) : List Ev.D := (rng 0 P).map fun r => .tup [.int (at0 z), .int (at1 z), r]
def padsD (W H P : Int) : List Ev.D := ((tilesD W H).filter (bordD W H)).flatMap (padsOf P)
theorem padsD_len {W H T P : Int} (o : Ok5 W H T P) (hb : W * H * P ≤ 1000000) : (padsD W H P).length ≤ 1000000 := by
  have h := flat_len (padsOf P) P.toNat ((tilesD W H).filter (bordD W H)) fun x _ => by unfold padsOf; rw [List.length_map, rng_len]; omega
  have h2 : ((tilesD W H).filter (bordD W H)).length ≤ (tilesD W H).length := List.length_filter_le _ _
  have h3 := flat_len (fun q => (rng 0 W).map fun r => Ev.D.tup [r, q]) W.toNat (rng 0 H) fun x _ => by rw [List.length_map, rng_len]; omega
  rw [rng_len] at h3
  have h4 : (tilesD W H).length ≤ H.toNat * W.toNat := by unfold tilesD; simpa using h3
  have h5 : ((tilesD W H).filter (bordD W H)).length * P.toNat ≤ H.toNat * W.toNat * P.toNat := Nat.mul_le_mul_right _ (Nat.le_trans h2 h4)
  have h6 : ((H.toNat * W.toNat * P.toNat : Nat) : Int) = W * H * P := by
    have := o.w0; have := o.h0; have := o.p0
    rw [Int.natCast_mul, Int.natCast_mul, Int.toNat_of_nonneg (by omega), Int.toNat_of_nonneg (by omega), Int.toNat_of_nonneg (by omega), Int.mul_comm H W]
  unfold padsD
  omega
theorem tgt2 (i j : Ev.D) (a b c d e : Option Val) (s : Store) : tt [tn 2, tn 3] (.d (.tup [i, j])) [a, b, c, d, e] s = some ([a, b, some (.d i), some (.d j), e], s) := rfl
theorem tgt2' (i j : Ev.D) (a b c d : Option Val) (s : Store) : tt [tn 2, tn 3] (.d (.tup [i, j])) [a, b, c, d] s = some ([a, b, some (.d i), some (.d j)], s) := rfl
theorem b_pads (n : Nat) {W H T K P : Int} (o : Ok5 W H T P) (hb : W * H * P ≤ 1000000) (s : Store) : e_pads_of (runP prog (n + 3)) [some (.d (fab W H T K P)), none, none, none, none] s = .rt (.loc s.length) (s ++ [.lst (padsD W H P)]) := by
  have wt := w_tiles (n + 2) (K := K) o s
  have i1 : Ev.iSeq (call (runP prog (n + 3)) 3 (ac (v 0) (a0))) [some (.d (fab W H T K P)), none, none, none, none] s = .ok (.vals ((tilesD W H).map .d)) s := by walk_at "h"
  have l1 := lc_map (E := [some (.d (fab W H T K P)), none, none, none, none]) (s := s) (ws := [2, 3]) (g := tt [tn 2, tn 3]) (c := pads_of_c1 (runP prog (n + 3))) (e := pads_of_x2 (runP prog (n + 3))) (bordD W H) (fun z => z) i1 (len_line (tilesD_len o.w1 o.h1)) fun z hz => by
    obtain ⟨x, y, rfl, _⟩ := tilesD_mem hz
    have w := w_is_border n W H x y [.int T, .int K, .int P] s
    refine ⟨[some (.d (fab W H T K P)), none, some (.d (.int x)), some (.d (.int y)), none], rfl, ?_, fun _ => ?_⟩
    · simp only [pads_of_c1]; walk_at "h"; rfl
    · simp only [pads_of_x2]; walk_at "s"
  rw [List.map_id'] at l1
  have h := lc2V_all (E := [some (.d (fab W H T K P)), some (.d (.lst ((tilesD W H).filter (bordD W H)))), none, none, none]) (s := s) (ws := [2, 3, 4]) (ws1 := [4]) (g := tt [tn 2, tn 3]) (g1 := tn 4) (i1 := Ev.iRng1 (e2 pIx (v 0) (k (.int 4)))) (c := yes) (c1 := yes) (e := pads_of_x1 (runP prog (n + 3))) (fun _ => rng 0 P) (fun z r => .tup [.int (at0 z), .int (at1 z), r]) ((tilesD W H).filter (bordD W H)) fun z hz => by
    obtain ⟨x, y, rfl, _⟩ := tilesD_mem (List.mem_filter.mp hz).1
    refine ⟨[some (.d (fab W H T K P)), some (.d (.lst ((tilesD W H).filter (bordD W H)))), some (.d (.int x)), some (.d (.int y)), none], rfl, rfl, ?_, fun r hr => ⟨[some (.d (fab W H T K P)), some (.d (.lst ((tilesD W H).filter (bordD W H)))), some (.d (.int x)), some (.d (.int y)), some (.d r)], rfl, rfl, ?_⟩⟩
    · have := o.p0; have := o.p1
      have := kR1_ok (s := s) (small_of (i := P) (by omega) (by omega))
      walk_at "h"
    · simp only [pads_of_x1]; walk_at "s"; rfl
  have i2 : Ev.iSeq (v 1) [some (.d (fab W H T K P)), some (.d (.lst ((tilesD W H).filter (bordD W H)))), none, none, none] s = .ok (.vals (((tilesD W H).filter (bordD W H)).map .d)) s := rfl
  have z := lc2A_ok i2 h (len_line' (padsD_len o hb))
  have sw : Ev.wipe [some (Val.d (fab W H T K P)), none, none, none, none] [2, 3] = [some (Val.d (fab W H T K P)), none, none, none, none] := rfl
  simp only [e_pads_of, x_sq, x_setn, l1, ofRes_ok, List.set_cons_zero, List.set_cons_succ, SRes.next_nx, x_ret, z, SRes.next_rt]
  rfl
theorem w_pads (n : Nat) {W H T K P : Int} (o : Ok5 W H T P) (hb : W * H * P ≤ 1000000) (s : Store) : runP prog (n + 4) 6 [.d (fab W H T K P)] s = .ok (.d (.lst (padsD W H P))) s := by
  rw [rp rfl, run_body rfl]
  show finR false s (e_pads_of _ [some (.d (fab W H T K P)), none, none, none, none] s) = _
  rw [b_pads n o hb, finR_frz]
theorem k_pads (n : Nat) {W H T K P : Int} (o : Ok5 W H T P) (hb : W * H * P ≤ 1000000) (s : Store) : runP prog (n + 4) 32 [.d (fab W H T K P)] s = .ok (.loc s.length) (s ++ [.lst (padsD W H P)]) := by
  rw [rp rfl, run_body rfl]
  show finR true s (e_pads_of _ [some (.d (fab W H T K P)), none, none, none, none] s) = _
  rw [b_pads n o hb, finR_kp]
theorem inD2 (x a b : Int) (s : Store) : pIn (.d (.int x)) (.d (.tup [.int a, .int b])) s = .ok (.d (.bl (decide (a = x) || decide (b = x)))) s := by
  rw [pIn_tup rfl rfl (low_int x)]
  simp only [inD, List.any_cons, List.any_nil, eqD_int, Bool.or_false]
def padsBit (W H P : Int) (z : Ev.D) : List Ev.D := bif bordD W H z then padsOf P z else []
theorem padsD_bits (W H P : Int) : padsD W H P = (tilesD W H).flatMap (padsBit W H P) := flat_filter _ _ _
/-- the law's pads -/
theorem w_lpads (n : Nat) {W H T K P : Int} (o : Ok5 W H T P) (hb : W * H * P ≤ 1000000) (s : Store) : runP prog (n + 2) 21 [.d (fab W H T K P)] s = .ok (.d (.lst (padsD W H P))) s := by
  rw [rp rfl, run_body rfl]
  show finR false s (e__law_pads _ [some (.d (fab W H T K P)), none, none, none, none] s) = _
  have wt := w_ltiles n (K := K) o s
  obtain ⟨E', s', hl, ⟨a, b, c, rfl⟩, rfl⟩ := forV_pre0 (t := tt [tn 2, tn 3]) (b := _law_pads_L1 (runP prog (n + 1))) (fun pre E s' => (∃ a b c, E = [some (.d (fab W H T K P)), some (.d (.lst (pre.flatMap (padsBit W H P)))), a, b, c]) ∧ s = s') (E := [some (.d (fab W H T K P)), some (.d (.lst [])), none, none, none]) (s := s) (tilesD W H) ⟨⟨none, none, none, rfl⟩, rfl⟩ fun pre z post e E s' ⟨⟨a, b, c, hE⟩, hs⟩ => by
    subst hE hs
    obtain ⟨x, y, rfl, hon⟩ := tilesD_mem (z := z) (by rw [e]; simp)
    refine ⟨_, s, [some (.d (fab W H T K P)), some (.d (.lst ((pre ++ [tile x y]).flatMap (padsBit W H P)))), some (.d (.int x)), some (.d (.int y)), c], s, tgt2 _ _ _ _ _ _ _ _, ?_, ⟨_, _, _, rfl⟩, rfl⟩
    have l := lc_all (E := [some (.d (fab W H T K P)), some (.d (.lst (pre.flatMap (padsBit W H P)))), some (.d (.int x)), some (.d (.int y)), c]) (s := s) (ws := [4]) (g := tn 4) (ic := Ev.iRng1 (e2 pIx (v 0) (k (.int 4)))) (c := yes) (e := _law_pads_x1 (runP prog (n + 1))) (xs := rng 0 P) (fun r => .tup [.int x, .int y, r]) (by
        have := o.p0; have := o.p1
        have := kR1_ok (s := s) (small_of (i := P) (by omega) (by omega))
        walk_at "h") (by have := o.p1; rw [rng_len]; exact len_line (by omega)) fun r hr => ⟨[some (.d (fab W H T K P)), some (.d (.lst (pre.flatMap (padsBit W H P)))), some (.d (.int x)), some (.d (.int y)), some (.d r)], rfl, rfl, by simp only [_law_pads_x1]; walk_at "s"⟩
    have hbl := bord_law hon
    have i2 := inD2
    rw [List.flatMap_append, List.flatMap_cons, List.flatMap_nil, List.append_nil]
    cases hc : bord W H x y with
    | true =>
      rw [hbl] at hc
      have pb : padsBit W H P (tile x y) = (rng 0 P).map fun r => .tup [.int x, .int y, r] := by
        show (bif bord W H x y then _ else _) = _
        rw [hbl, hc]; rfl
      have ad := pAdd_lst (s := s) (a := pre.flatMap (padsBit W H P)) (b := (rng 0 P).map fun r => .tup [.int x, .int y, r]) (by
        have q1 := padsD_len o hb
        rw [padsD_bits, e, List.flatMap_append, List.flatMap_cons, pb, List.length_append, List.length_append] at q1
        exact len_line (by omega))
      rw [pb]
      simp only [_law_pads_L1, x_sq, x_if]
      have l2 : lc [4] (tn 4) (Ev.iRng1 (e2 pIx (v 0) (k (.int 4)))) yes (_law_pads_x1 (runP prog (n + 1))) = lc [4] (tn 4) (Ev.iRng1 (e2 pIx (v 0) (k (.int 4)))) yes (_law_pads_x1 (runP prog (n + 1))) := rfl
      walk_at "h"
    | false =>
      rw [hbl] at hc
      have pb : padsBit W H P (tile x y) = [] := by
        show (bif bord W H x y then _ else _) = _
        rw [hbl, hc]; rfl
      rw [pb, List.append_nil]
      simp only [_law_pads_L1, x_sq, x_if]
      walk_at "h"
  rw [← padsD_bits] at hl
  simp only [e__law_pads]
  walk_at "h"
end K61
end
section
set_option linter.all false
set_option autoImplicit false
set_option maxRecDepth 100000
set_option maxHeartbeats 1000000
namespace K61
open PySem L2 Ev
local macro_rules | `(tactic| walk_at "s") => `(tactic| simp only [x_k, x_e1, x_e2, x_a0, x_ac, x_call, x_tup, x_lst, x_raise, kRaise_t, kRaise_p, x_for, kFor_v, kTurn_nx, kTurn_ct, kTurn_bk, kTurn_rt, kTurn_exc, kTurn_ite, x_iSeq, kSeq_t, kSeq_l, x_iEnum, enumS_t, enumS_l, x_iR1, x_iR2, pNe_int, pEq_int, pNe_str, dec_self, decide_true, decide_false, if_not', Bool.not_true, Bool.not_false, Bool.not_not, Bool.false_or, Bool.true_or, Bool.or_false, Bool.or_true, Bool.and_true, Bool.true_and, Bool.false_and, Bool.and_false, finR_bif, finR_rt, finR_nx, finR_exc, forV_nil', forV_cons', List.replicate_succ, List.replicate_zero, Nat.reduceSub, mkT0, mkT1, mkT2, mkT3, mkT4, mkT5, mkT6, mkL0, mkL1, mkL2, mkL3, mkL4, mkL5, mkL6, mkL7, mkL8, mkL9, mkL10, mkL11, x_bb, x_bv, kBb_bl, kBv_bl, kBv_int, kBv_non, x_bnot, x_band, x_bor, ite_and, ite_or, x_yes, x_eand, x_eor, x_enot, kAnd_bl, kOr_bl, kNot_bl, ite_andv, ite_orv, x_chain, kCh_bl, x_eif, x_sq, x_nil, x_setn, x_sett, x_seti, x_exp, x_ret, x_retN, x_if, next_ite, bind_ite, ofRes_ite, ixt0, ixt1, ixt2, ixt3, ixt4, ixt5, ixt6, ixt7, ixl0, ixl1, ixl2, ixl3, ixl4, ixl5, ixl6, ixl7, exF_one, x_len_tup, x_len_lst, x_isi, x_isN, x_notN, if_false', if_true', x_v, List.getElem?_cons_zero, List.getElem?_cons_succ, List.set_cons_zero, List.set_cons_succ, Res.bind_ok, Res.bind_exc, Res.bind_fail, ofRes_ok, ofRes_exc, ofRes_fail, SRes.next_nx, SRes.next_rt, SRes.next_exc, SRes.next_fail, pAdd_ok, pSub_ok, pLt_ok, pLe_ok, pGt_ok, pGe_ok, pInt_ok, pNeg_ok, pMax_ok, pMin_ok, List.map_cons, List.map_nil, List.cons_append, List.nil_append, List.append_nil])
local macro_rules | `(tactic| walk_at "h") => `(tactic| simp only [*, x_k, x_e1, x_e2, x_a0, x_ac, x_call, x_tup, x_lst, x_raise, kRaise_t, kRaise_p, x_for, kFor_v, kTurn_nx, kTurn_ct, kTurn_bk, kTurn_rt, kTurn_exc, kTurn_ite, x_iSeq, kSeq_t, kSeq_l, x_iEnum, enumS_t, enumS_l, x_iR1, x_iR2, pNe_int, pEq_int, pNe_str, dec_self, decide_true, decide_false, if_not', Bool.not_true, Bool.not_false, Bool.not_not, Bool.false_or, Bool.true_or, Bool.or_false, Bool.or_true, Bool.and_true, Bool.true_and, Bool.false_and, Bool.and_false, finR_bif, finR_rt, finR_nx, finR_exc, forV_nil', forV_cons', List.replicate_succ, List.replicate_zero, Nat.reduceSub, mkT0, mkT1, mkT2, mkT3, mkT4, mkT5, mkT6, mkL0, mkL1, mkL2, mkL3, mkL4, mkL5, mkL6, mkL7, mkL8, mkL9, mkL10, mkL11, x_bb, x_bv, kBb_bl, kBv_bl, kBv_int, kBv_non, x_bnot, x_band, x_bor, ite_and, ite_or, x_yes, x_eand, x_eor, x_enot, kAnd_bl, kOr_bl, kNot_bl, ite_andv, ite_orv, x_chain, kCh_bl, x_eif, x_sq, x_nil, x_setn, x_sett, x_seti, x_exp, x_ret, x_retN, x_if, next_ite, bind_ite, ofRes_ite, ixt0, ixt1, ixt2, ixt3, ixt4, ixt5, ixt6, ixt7, ixl0, ixl1, ixl2, ixl3, ixl4, ixl5, ixl6, ixl7, exF_one, x_len_tup, x_len_lst, x_isi, x_isN, x_notN, if_false', if_true', x_v, List.getElem?_cons_zero, List.getElem?_cons_succ, List.set_cons_zero, List.set_cons_succ, Res.bind_ok, Res.bind_exc, Res.bind_fail, ofRes_ok, ofRes_exc, ofRes_fail, SRes.next_nx, SRes.next_rt, SRes.next_exc, SRes.next_fail, pAdd_ok, pSub_ok, pLt_ok, pLe_ok, pGt_ok, pGe_ok, pInt_ok, pNeg_ok, pMax_ok, pMin_ok, List.map_cons, List.map_nil, List.cons_append, List.nil_append, List.append_nil])
def near (W H : Int) (z q : Ev.D) : Bool := onT W H (at0 z + dx (toI q)) (at1 z + dy (toI q))
def wf (W H : Int) (z t : Ev.D) : List Ev.D := ((rng 0 4).filter (near W H z)).map fun q => .tup [.int (at0 z), .int (at1 z), q, t]
theorem notN_nb (W H x y sd : Int) (s : Store) : pNotN (.d (nb W H x y sd)) s = .ok (.d (.bl (onT W H (x + dx sd) (y + dy sd)))) s := by
  unfold nb; cases onT W H (x + dx sd) (y + dy sd) <;> rfl
theorem wf_len (W H : Int) (z t : Ev.D) : (wf W H z t).length ≤ 4 := by
  unfold wf; rw [List.length_map]
  exact Nat.le_trans (List.length_filter_le _ _) (by rw [rng_len]; decide)
theorem w_wires_from (n : Nat) (W H x y t : Int) (r : List Ev.D) (s : Store) : runP prog (n + 3) 9 [.d (.tup (.int W :: .int H :: r)), .d (.int x), .d (.int y), .d (.int t)] s = .ok (.d (.lst (wf W H (tile x y) (.int t)))) s := by
  rw [rp rfl, run_body rfl]
  have l := lc_map (E := [some (.d (.tup (.int W :: .int H :: r))), some (.d (.int x)), some (.d (.int y)), some (.d (.int t)), none]) (s := s) (ws := [4]) (g := tn 4) (ic := Ev.iRng1 (k (.int 4))) (c := wires_from_c1 (runP prog (n + 2))) (e := wires_from_x1 (runP prog (n + 2))) (xs := rng 0 4) (near W H (tile x y)) (fun q => .tup [.int x, .int y, q, .int t]) rfl (by rw [rng_len]; exact len_line (by decide)) fun q hq => by
    obtain ⟨sd, rfl, h0, h4⟩ := rng_mem hq
    have w := w_neighbour n W H x y sd r s h0 h4
    have nn := notN_nb W H x y sd
    refine ⟨[some (.d (.tup (.int W :: .int H :: r))), some (.d (.int x)), some (.d (.int y)), some (.d (.int t)), some (.d (.int sd))], rfl, ?_, fun _ => ?_⟩
    · simp only [wires_from_c1]; walk_at "h"; rfl
    · simp only [wires_from_x1]; walk_at "s"
  simp only [e_wires_from]
  walk_at "h"
  rfl
def trackW (W H T : Int) (z : Ev.D) : List Ev.D := (rng 0 T).flatMap (wf W H z)
def progW (W H T : Int) : List Ev.D := (tilesD W H).flatMap (trackW W H T)
theorem trackW_len (W H T : Int) (h0 : 0 ≤ T) (z : Ev.D) : (trackW W H T z).length ≤ T.toNat * 4 := by
  have := flat_len (wf W H z) 4 (rng 0 T) fun t _ => wf_len _ _ _ _
  rw [rng_len] at this
  unfold trackW; simpa using this
theorem tilesD_len2 {W H : Int} : (tilesD W H).length ≤ H.toNat * W.toNat := by
  have h3 := flat_len (fun q => (rng 0 W).map fun r => Ev.D.tup [r, q]) W.toNat (rng 0 H) fun x _ => by rw [List.length_map, rng_len]; omega
  rw [rng_len] at h3
  unfold tilesD; simpa using h3
theorem progW_len {W H T P : Int} (o : Ok5 W H T P) (hb : W * H * (T * 4) ≤ 1000000) : (progW W H T).length ≤ 1000000 := by
  have h := flat_len (trackW W H T) (T.toNat * 4) (tilesD W H) fun z _ => trackW_len W H T o.t0 z
  have h5 : (tilesD W H).length * (T.toNat * 4) ≤ H.toNat * W.toNat * (T.toNat * 4) := Nat.mul_le_mul_right _ tilesD_len2
  have h6 : ((H.toNat * W.toNat * (T.toNat * 4) : Nat) : Int) = W * H * (T * 4) := by
    have := o.w0; have := o.h0; have := o.t0
    rw [Int.natCast_mul, Int.natCast_mul, Int.natCast_mul, Int.toNat_of_nonneg (by omega), Int.toNat_of_nonneg (by omega), Int.toNat_of_nonneg (by omega), Int.mul_comm H W]
    rfl
  unfold progW
  omega
theorem tgt5 (i j : Ev.D) (a b c d e : Option Val) (s : Store) : tt [tn 2, tn 3] (.d (.tup [i, j])) [a, b, c, d, e] s = some ([a, b, some (.d i), some (.d j), e], s) := rfl
end K61
end
section
set_option linter.all false
set_option autoImplicit false
set_option maxRecDepth 100000
set_option maxHeartbeats 1000000
namespace K61
open PySem L2 Ev
local macro_rules | `(tactic| walk_at "s") => `(tactic| simp only [x_k, x_e1, x_e2, x_a0, x_ac, x_call, x_tup, x_lst, x_raise, kRaise_t, kRaise_p, x_for, kFor_v, kTurn_nx, kTurn_ct, kTurn_bk, kTurn_rt, kTurn_exc, kTurn_ite, x_iSeq, kSeq_t, kSeq_l, x_iEnum, enumS_t, enumS_l, x_iR1, x_iR2, pNe_int, pEq_int, pNe_str, dec_self, decide_true, decide_false, if_not', Bool.not_true, Bool.not_false, Bool.not_not, Bool.false_or, Bool.true_or, Bool.or_false, Bool.or_true, Bool.and_true, Bool.true_and, Bool.false_and, Bool.and_false, finR_bif, finR_rt, finR_nx, finR_exc, forV_nil', forV_cons', List.replicate_succ, List.replicate_zero, Nat.reduceSub, mkT0, mkT1, mkT2, mkT3, mkT4, mkT5, mkT6, mkL0, mkL1, mkL2, mkL3, mkL4, mkL5, mkL6, mkL7, mkL8, mkL9, mkL10, mkL11, x_bb, x_bv, kBb_bl, kBv_bl, kBv_int, kBv_non, x_bnot, x_band, x_bor, ite_and, ite_or, x_yes, x_eand, x_eor, x_enot, kAnd_bl, kOr_bl, kNot_bl, ite_andv, ite_orv, x_chain, kCh_bl, x_eif, x_sq, x_nil, x_setn, x_sett, x_seti, x_exp, x_ret, x_retN, x_if, next_ite, bind_ite, ofRes_ite, ixt0, ixt1, ixt2, ixt3, ixt4, ixt5, ixt6, ixt7, ixl0, ixl1, ixl2, ixl3, ixl4, ixl5, ixl6, ixl7, exF_one, x_len_tup, x_len_lst, x_isi, x_isN, x_notN, if_false', if_true', x_v, List.getElem?_cons_zero, List.getElem?_cons_succ, List.set_cons_zero, List.set_cons_succ, Res.bind_ok, Res.bind_exc, Res.bind_fail, ofRes_ok, ofRes_exc, ofRes_fail, SRes.next_nx, SRes.next_rt, SRes.next_exc, SRes.next_fail, pAdd_ok, pSub_ok, pLt_ok, pLe_ok, pGt_ok, pGe_ok, pInt_ok, pNeg_ok, pMax_ok, pMin_ok, List.map_cons, List.map_nil, List.cons_append, List.nil_append, List.append_nil])
local macro_rules | `(tactic| walk_at "h") => `(tactic| simp only [*, x_k, x_e1, x_e2, x_a0, x_ac, x_call, x_tup, x_lst, x_raise, kRaise_t, kRaise_p, x_for, kFor_v, kTurn_nx, kTurn_ct, kTurn_bk, kTurn_rt, kTurn_exc, kTurn_ite, x_iSeq, kSeq_t, kSeq_l, x_iEnum, enumS_t, enumS_l, x_iR1, x_iR2, pNe_int, pEq_int, pNe_str, dec_self, decide_true, decide_false, if_not', Bool.not_true, Bool.not_false, Bool.not_not, Bool.false_or, Bool.true_or, Bool.or_false, Bool.or_true, Bool.and_true, Bool.true_and, Bool.false_and, Bool.and_false, finR_bif, finR_rt, finR_nx, finR_exc, forV_nil', forV_cons', List.replicate_succ, List.replicate_zero, Nat.reduceSub, mkT0, mkT1, mkT2, mkT3, mkT4, mkT5, mkT6, mkL0, mkL1, mkL2, mkL3, mkL4, mkL5, mkL6, mkL7, mkL8, mkL9, mkL10, mkL11, x_bb, x_bv, kBb_bl, kBv_bl, kBv_int, kBv_non, x_bnot, x_band, x_bor, ite_and, ite_or, x_yes, x_eand, x_eor, x_enot, kAnd_bl, kOr_bl, kNot_bl, ite_andv, ite_orv, x_chain, kCh_bl, x_eif, x_sq, x_nil, x_setn, x_sett, x_seti, x_exp, x_ret, x_retN, x_if, next_ite, bind_ite, ofRes_ite, ixt0, ixt1, ixt2, ixt3, ixt4, ixt5, ixt6, ixt7, ixl0, ixl1, ixl2, ixl3, ixl4, ixl5, ixl6, ixl7, exF_one, x_len_tup, x_len_lst, x_isi, x_isN, x_notN, if_false', if_true', x_v, List.getElem?_cons_zero, List.getElem?_cons_succ, List.set_cons_zero, List.set_cons_succ, Res.bind_ok, Res.bind_exc, Res.bind_fail, ofRes_ok, ofRes_exc, ofRes_fail, SRes.next_nx, SRes.next_rt, SRes.next_exc, SRes.next_fail, pAdd_ok, pSub_ok, pLt_ok, pLe_ok, pGt_ok, pGe_ok, pInt_ok, pNeg_ok, pMax_ok, pMin_ok, List.map_cons, List.map_nil, List.cons_append, List.nil_append, List.append_nil])
abbrev w4 (x y sd t : Int) : Ev.D := .tup [.int x, .int y, .int sd, .int t]
structure Wire (W H T : Int) (x y sd t : Int) : Prop where
  on : onT W H x y = true
  s0 : 0 ≤ sd
  s4 : sd < 4
  nx : onT W H (x + dx sd) (y + dy sd) = true
  t0 : 0 ≤ t
  tT : t < T
theorem tilesD_mem' {W H : Int} {z : Ev.D} : z ∈ tilesD W H ↔ ∃ x y, z = tile x y ∧ onT W H x y = true := by
  refine ⟨tilesD_mem, fun ⟨x, y, e, h⟩ => ?_⟩
  rw [onT_iff] at h
  simp only [tilesD, List.mem_flatMap, List.mem_map]
  exact ⟨.int y, rng_mem_iff.mpr ⟨y, rfl, h.2.1, h.2.2⟩, .int x, rng_mem_iff.mpr ⟨x, rfl, h.1.1, h.1.2⟩, e.symm⟩
theorem progW_mem {W H T : Int} {z : Ev.D} : z ∈ progW W H T ↔ ∃ x y sd t, z = w4 x y sd t ∧ Wire W H T x y sd t := by
  simp only [progW, trackW, wf, List.mem_flatMap, List.mem_map, List.mem_filter]
  constructor
  · rintro ⟨a, ha, b, hb, q, ⟨hq, hn⟩, rfl⟩
    obtain ⟨x, y, rfl, h1⟩ := tilesD_mem ha
    obtain ⟨t, rfl, h2, h3⟩ := rng_mem hb
    obtain ⟨sd, rfl, h4, h5⟩ := rng_mem hq
    exact ⟨x, y, sd, t, rfl, h1, h4, h5, hn, h2, h3⟩
  · rintro ⟨x, y, sd, t, rfl, h⟩
    exact ⟨tile x y, tilesD_mem'.mpr ⟨x, y, rfl, h.on⟩, .int t, rng_mem_iff.mpr ⟨t, rfl, h.t0, h.tT⟩, .int sd, ⟨rng_mem_iff.mpr ⟨sd, rfl, h.s0, h.s4⟩, h.nx⟩, rfl⟩
theorem progW_sortable (W H T : Int) : sortable (progW W H T) = true := sortable_tups fun z hz => by
  obtain ⟨x, y, sd, t, rfl, _⟩ := progW_mem.mp hz
  exact ⟨x, [y, sd, t], rfl⟩
theorem sortedA_ok {l : List Ev.D} (s : Store) (h : sortable l = true) : pSortedA (.d (.lst l)) s = .ok (.loc s.length) (s ++ [.lst (sortD l)]) := by
  unfold pSortedA pSorted
  simp only [peek_d, h, if_true, Res.bind_ok, Ev.alloc]
theorem aw_inner (n : Nat) {W H T K P : Int} (o : Ok5 W H T P) (hb : W * H * (T * 4) ≤ 1000000) (s : Store) (x y : Int) (acc : List Ev.D) (ha : acc.length + (trackW W H T (tile x y)).length ≤ 1000000) (c : Option Val) :
    ∃ c', all_wires_L2 (runP prog (n + 3)) [some (.d (fab W H T K P)), some (.d (.lst acc)), some (.d (.int x)), some (.d (.int y)), c] s = .nx [some (.d (fab W H T K P)), some (.d (.lst (acc ++ trackW W H T (tile x y)))), some (.d (.int x)), some (.d (.int y)), c'] s := by
  obtain ⟨E', s', hl, ⟨c', rfl⟩, rfl⟩ := forV_pre0 (t := tn 4) (b := all_wires_L1 (runP prog (n + 3))) (fun pre E s' => (∃ c, E = [some (.d (fab W H T K P)), some (.d (.lst (acc ++ pre.flatMap (wf W H (tile x y))))), some (.d (.int x)), some (.d (.int y)), c]) ∧ s = s') (E := [some (.d (fab W H T K P)), some (.d (.lst acc)), some (.d (.int x)), some (.d (.int y)), c]) (s := s) (rng 0 T) ⟨⟨c, by rw [List.flatMap_nil, List.append_nil]⟩, rfl⟩ fun pre q post e E s' ⟨⟨c, hE⟩, hs⟩ => by
    subst hE hs
    obtain ⟨t, rfl, _, _⟩ := rng_mem (q := q) (by rw [e]; simp)
    refine ⟨_, s, [some (.d (fab W H T K P)), some (.d (.lst (acc ++ (pre ++ [Ev.D.int t]).flatMap (wf W H (tile x y))))), some (.d (.int x)), some (.d (.int y)), some (.d (.int t))], s, rfl, ?_, ⟨_, rfl⟩, rfl⟩
    have w := w_wires_from n W H x y t [.int T, .int K, .int P] s
    have ad := pAdd_lst (s := s) (a := acc ++ pre.flatMap (wf W H (tile x y))) (b := wf W H (tile x y) (.int t)) (by
      unfold trackW at ha
      rw [e, List.flatMap_append, List.flatMap_cons, List.length_append, List.length_append] at ha
      rw [List.length_append]
      exact len_line (by omega))
    rw [List.flatMap_append, List.flatMap_cons, List.flatMap_nil, List.append_nil, ← List.append_assoc]
    simp only [all_wires_L1]
    walk_at "h"
  have i := kR1_ok (s := s) (small_of (i := T) (by have := o.t0; omega) (by have := o.t1; omega))
  refine ⟨c', ?_⟩
  simp only [all_wires_L2]
  walk_at "h"
  rfl
theorem b_wires (n : Nat) {W H T K P : Int} (o : Ok5 W H T P) (hb : W * H * (T * 4) ≤ 1000000) (s : Store) : e_all_wires (runP prog (n + 3)) [some (.d (fab W H T K P)), none, none, none, none] s = .rt (.loc s.length) (s ++ [.lst (sortD (progW W H T))]) := by
  have wt := w_tiles (n + 2) (K := K) o s
  obtain ⟨E', s', hl, ⟨a, b, c, rfl⟩, rfl⟩ := forV_pre0 (t := tt [tn 2, tn 3]) (b := all_wires_L2 (runP prog (n + 3))) (fun pre E s' => (∃ a b c, E = [some (.d (fab W H T K P)), some (.d (.lst (pre.flatMap (trackW W H T)))), a, b, c]) ∧ s = s') (E := [some (.d (fab W H T K P)), some (.d (.lst [])), none, none, none]) (s := s) (tilesD W H) ⟨⟨none, none, none, rfl⟩, rfl⟩ fun pre z post e E s' ⟨⟨a, b, c, hE⟩, hs⟩ => by
    subst hE hs
    obtain ⟨x, y, rfl, hon⟩ := tilesD_mem (z := z) (by rw [e]; simp)
    have q1 := progW_len o hb
    unfold progW at q1
    rw [e, List.flatMap_append, List.flatMap_cons, List.length_append, List.length_append] at q1
    obtain ⟨c', hi⟩ := aw_inner n (K := K) o hb s x y (pre.flatMap (trackW W H T)) (by omega) c
    refine ⟨_, s, _, s, tgt5 _ _ _ _ _ _ _ _, hi, ⟨some (.d (.int x)), some (.d (.int y)), c', ?_⟩, rfl⟩
    rw [List.flatMap_append, List.flatMap_cons, List.flatMap_nil, List.append_nil]
  have so := sortedA_ok s (progW_sortable W H T)
  replace hl : forV (tt [tn 2, tn 3]) (all_wires_L2 (runP prog (n + 3))) ((tilesD W H).map .d) [some (.d (fab W H T K P)), some (.d (.lst [])), none, none, none] s = .nx [some (.d (fab W H T K P)), some (.d (.lst (progW W H T))), a, b, c] s := hl
  simp only [e_all_wires]
  walk_at "h"
theorem w_wires (n : Nat) {W H T K P : Int} (o : Ok5 W H T P) (hb : W * H * (T * 4) ≤ 1000000) (s : Store) : runP prog (n + 4) 10 [.d (fab W H T K P)] s = .ok (.d (.lst (sortD (progW W H T)))) s := by
  rw [rp rfl, run_body rfl]
  show finR false s (e_all_wires _ [some (.d (fab W H T K P)), none, none, none, none] s) = _
  rw [b_wires n o hb, finR_frz]
theorem k_wires (n : Nat) {W H T K P : Int} (o : Ok5 W H T P) (hb : W * H * (T * 4) ≤ 1000000) (s : Store) : runP prog (n + 4) 30 [.d (fab W H T K P)] s = .ok (.loc s.length) (s ++ [.lst (sortD (progW W H T))]) := by
  rw [rp rfl, run_body rfl]
  show finR true s (e_all_wires _ [some (.d (fab W H T K P)), none, none, none, none] s) = _
  rw [b_wires n o hb, finR_kp]
/-! ### the law's wires -/
def sideL (W H T : Int) (x y q : Ev.D) : List Ev.D := bif onT W H (toI x + dx (toI q)) (toI y + dy (toI q)) then (rng 0 T).map fun t => .tup [x, y, q, t] else []
def rowL (W H T : Int) (x y : Ev.D) : List Ev.D := (rng 0 4).flatMap (sideL W H T x y)
def colL (W H T : Int) (x : Ev.D) : List Ev.D := (rng 0 H).flatMap (rowL W H T x)
def lawW (W H T : Int) : List Ev.D := (rng 0 W).flatMap (colL W H T)
theorem lawW_mem {W H T : Int} {z : Ev.D} : z ∈ lawW W H T ↔ ∃ x y sd t, z = w4 x y sd t ∧ Wire W H T x y sd t := by
  simp only [lawW, colL, rowL, sideL, List.mem_flatMap]
  constructor
  · rintro ⟨a, ha, b, hb, q, hq, h⟩
    obtain ⟨x, rfl, h1, h2⟩ := rng_mem ha
    obtain ⟨y, rfl, h3, h4⟩ := rng_mem hb
    obtain ⟨sd, rfl, h5, h6⟩ := rng_mem hq
    simp only [toI] at h
    cases hn : onT W H (x + dx sd) (y + dy sd) with
    | false => rw [hn] at h; cases h
    | true =>
      rw [hn] at h
      obtain ⟨t', ht, rfl⟩ := List.mem_map.mp (show z ∈ (rng 0 T).map _ from h)
      obtain ⟨t, rfl, h7, h8⟩ := rng_mem ht
      exact ⟨x, y, sd, t, rfl, onT_iff.mpr ⟨⟨h1, h2⟩, h3, h4⟩, h5, h6, hn, h7, h8⟩
  · rintro ⟨x, y, sd, t, rfl, h⟩
    have ho := onT_iff.mp h.on
    refine ⟨.int x, rng_mem_iff.mpr ⟨x, rfl, ho.1.1, ho.1.2⟩, .int y, rng_mem_iff.mpr ⟨y, rfl, ho.2.1, ho.2.2⟩, .int sd, rng_mem_iff.mpr ⟨sd, rfl, h.s0, h.s4⟩, ?_⟩
    simp only [toI, h.nx]
    exact List.mem_map.mpr ⟨.int t, rng_mem_iff.mpr ⟨t, rfl, h.t0, h.tT⟩, rfl⟩
end K61
end
section
set_option linter.all false
set_option autoImplicit false
set_option maxRecDepth 100000
set_option maxHeartbeats 1000000
namespace K61
open PySem L2 Ev
local macro_rules | `(tactic| walk_at "s") => `(tactic| simp only [x_k, x_e1, x_e2, x_a0, x_ac, x_call, x_tup, x_lst, x_raise, kRaise_t, kRaise_p, x_for, kFor_v, kTurn_nx, kTurn_ct, kTurn_bk, kTurn_rt, kTurn_exc, kTurn_ite, x_iSeq, kSeq_t, kSeq_l, x_iEnum, enumS_t, enumS_l, x_iR1, x_iR2, pNe_int, pEq_int, pNe_str, dec_self, decide_true, decide_false, if_not', Bool.not_true, Bool.not_false, Bool.not_not, Bool.false_or, Bool.true_or, Bool.or_false, Bool.or_true, Bool.and_true, Bool.true_and, Bool.false_and, Bool.and_false, finR_bif, finR_rt, finR_nx, finR_exc, forV_nil', forV_cons', List.replicate_succ, List.replicate_zero, Nat.reduceSub, mkT0, mkT1, mkT2, mkT3, mkT4, mkT5, mkT6, mkL0, mkL1, mkL2, mkL3, mkL4, mkL5, mkL6, mkL7, mkL8, mkL9, mkL10, mkL11, x_bb, x_bv, kBb_bl, kBv_bl, kBv_int, kBv_non, x_bnot, x_band, x_bor, ite_and, ite_or, x_yes, x_eand, x_eor, x_enot, kAnd_bl, kOr_bl, kNot_bl, ite_andv, ite_orv, x_chain, kCh_bl, x_eif, x_sq, x_nil, x_setn, x_sett, x_seti, x_exp, x_ret, x_retN, x_if, next_ite, bind_ite, ofRes_ite, ixt0, ixt1, ixt2, ixt3, ixt4, ixt5, ixt6, ixt7, ixl0, ixl1, ixl2, ixl3, ixl4, ixl5, ixl6, ixl7, exF_one, x_len_tup, x_len_lst, x_isi, x_isN, x_notN, if_false', if_true', x_v, List.getElem?_cons_zero, List.getElem?_cons_succ, List.set_cons_zero, List.set_cons_succ, Res.bind_ok, Res.bind_exc, Res.bind_fail, ofRes_ok, ofRes_exc, ofRes_fail, SRes.next_nx, SRes.next_rt, SRes.next_exc, SRes.next_fail, pAdd_ok, pSub_ok, pLt_ok, pLe_ok, pGt_ok, pGe_ok, pInt_ok, pNeg_ok, pMax_ok, pMin_ok, List.map_cons, List.map_nil, List.cons_append, List.nil_append, List.append_nil])
local macro_rules | `(tactic| walk_at "h") => `(tactic| simp only [*, x_k, x_e1, x_e2, x_a0, x_ac, x_call, x_tup, x_lst, x_raise, kRaise_t, kRaise_p, x_for, kFor_v, kTurn_nx, kTurn_ct, kTurn_bk, kTurn_rt, kTurn_exc, kTurn_ite, x_iSeq, kSeq_t, kSeq_l, x_iEnum, enumS_t, enumS_l, x_iR1, x_iR2, pNe_int, pEq_int, pNe_str, dec_self, decide_true, decide_false, if_not', Bool.not_true, Bool.not_false, Bool.not_not, Bool.false_or, Bool.true_or, Bool.or_false, Bool.or_true, Bool.and_true, Bool.true_and, Bool.false_and, Bool.and_false, finR_bif, finR_rt, finR_nx, finR_exc, forV_nil', forV_cons', List.replicate_succ, List.replicate_zero, Nat.reduceSub, mkT0, mkT1, mkT2, mkT3, mkT4, mkT5, mkT6, mkL0, mkL1, mkL2, mkL3, mkL4, mkL5, mkL6, mkL7, mkL8, mkL9, mkL10, mkL11, x_bb, x_bv, kBb_bl, kBv_bl, kBv_int, kBv_non, x_bnot, x_band, x_bor, ite_and, ite_or, x_yes, x_eand, x_eor, x_enot, kAnd_bl, kOr_bl, kNot_bl, ite_andv, ite_orv, x_chain, kCh_bl, x_eif, x_sq, x_nil, x_setn, x_sett, x_seti, x_exp, x_ret, x_retN, x_if, next_ite, bind_ite, ofRes_ite, ixt0, ixt1, ixt2, ixt3, ixt4, ixt5, ixt6, ixt7, ixl0, ixl1, ixl2, ixl3, ixl4, ixl5, ixl6, ixl7, exF_one, x_len_tup, x_len_lst, x_isi, x_isN, x_notN, if_false', if_true', x_v, List.getElem?_cons_zero, List.getElem?_cons_succ, List.set_cons_zero, List.set_cons_succ, Res.bind_ok, Res.bind_exc, Res.bind_fail, ofRes_ok, ofRes_exc, ofRes_fail, SRes.next_nx, SRes.next_rt, SRes.next_exc, SRes.next_fail, pAdd_ok, pSub_ok, pLt_ok, pLe_ok, pGt_ok, pGe_ok, pInt_ok, pNeg_ok, pMax_ok, pMin_ok, List.map_cons, List.map_nil, List.cons_append, List.nil_append, List.append_nil])
/-! ### sorted, the same -/
theorem w4_le {x y sd t x' y' sd' t' : Int} : leD (w4 x y sd t) (w4 x' y' sd' t') = true ↔ (x < x' ∨ (x = x' ∧ (y < y' ∨ (y = y' ∧ (sd < sd' ∨ (sd = sd' ∧ t ≤ t')))))) := by
  rw [show w4 x y sd t = .tup ([x, y, sd, t].map .int) from rfl, show w4 x' y' sd' t' = .tup ([x', y', sd', t'].map .int) from rfl, leD_ints]
  simp only [Bool.not_eq_true', decide_eq_false_iff_not, List.cons_lt_cons_iff, List.not_lt_nil, and_false, or_false]
  omega
theorem w4_anti {x y sd t x' y' sd' t' : Int} (h1 : leD (w4 x y sd t) (w4 x' y' sd' t') = true) (h2 : leD (w4 x' y' sd' t') (w4 x y sd t) = true) : w4 x y sd t = w4 x' y' sd' t' := by
  rw [w4_le] at h1 h2
  have a : x = x' := by omega
  have b : y = y' := by omega
  have c : sd = sd' := by omega
  have d : t = t' := by omega
  rw [a, b, c, d]
abbrev LtD (a b : Ev.D) : Prop := leD a b = true ∧ a ≠ b
theorem side_pw (W H T x y : Int) (q : Ev.D) (hq : ∃ sd, q = .int sd) : (sideL W H T (.int x) (.int y) q).Pairwise LtD := by
  obtain ⟨sd, rfl⟩ := hq
  unfold sideL
  cases onT W H (toI (.int x) + dx (toI (.int sd))) (toI (.int y) + dy (toI (.int sd))) with
  | false => exact List.Pairwise.nil
  | true =>
    show ((rng 0 T).map _).Pairwise _
    rw [List.pairwise_map]
    refine List.Pairwise.imp (fun {a b} ⟨t, t', ea, eb, h⟩ => ?_) (rng_lt 0 T)
    subst ea eb
    refine ⟨w4_le.mpr (by omega), fun e => ?_⟩
    simp only [Ev.D.tup.injEq, List.cons.injEq, Ev.D.int.injEq] at e
    omega
theorem sideL_mem {W H T x y sd : Int} {z : Ev.D} (h : z ∈ sideL W H T (.int x) (.int y) (.int sd)) : ∃ t, z = w4 x y sd t := by
  unfold sideL at h
  cases hn : onT W H (toI (.int x) + dx (toI (.int sd))) (toI (.int y) + dy (toI (.int sd))) with
  | false => rw [hn] at h; cases h
  | true =>
    rw [hn] at h
    obtain ⟨t', ht, rfl⟩ := List.mem_map.mp (show z ∈ (rng 0 T).map _ from h)
    obtain ⟨t, rfl, _, _⟩ := rng_mem ht
    exact ⟨t, rfl⟩
theorem rowL_mem {W H T x y : Int} {z : Ev.D} (h : z ∈ rowL W H T (.int x) (.int y)) : ∃ sd t, z = w4 x y sd t := by
  obtain ⟨q, hq, h⟩ := List.mem_flatMap.mp h
  obtain ⟨sd, rfl, _, _⟩ := rng_mem hq
  obtain ⟨t, e⟩ := sideL_mem h
  exact ⟨sd, t, e⟩
theorem colL_mem {W H T x : Int} {z : Ev.D} (h : z ∈ colL W H T (.int x)) : ∃ y sd t, z = w4 x y sd t := by
  obtain ⟨q, hq, h⟩ := List.mem_flatMap.mp h
  obtain ⟨y, rfl, _, _⟩ := rng_mem hq
  obtain ⟨sd, t, e⟩ := rowL_mem h
  exact ⟨y, sd, t, e⟩
theorem ltD_of {x y sd t x' y' sd' t' : Int} (h : x < x' ∨ (x = x' ∧ (y < y' ∨ (y = y' ∧ sd < sd')))) : LtD (w4 x y sd t) (w4 x' y' sd' t') := by
  refine ⟨w4_le.mpr (by omega), fun e => ?_⟩
  simp only [Ev.D.tup.injEq, List.cons.injEq, Ev.D.int.injEq] at e
  omega
theorem lawW_pw (W H T : Int) : (lawW W H T).Pairwise LtD := by
  refine List.pairwise_flatMap.mpr ⟨fun a ha => ?_, List.Pairwise.imp (fun {a b} ⟨x, x', ea, eb, h⟩ u hu v hv => ?_) (rng_lt 0 W)⟩
  · obtain ⟨x, rfl, _, _⟩ := rng_mem ha
    refine List.pairwise_flatMap.mpr ⟨fun b hb => ?_, List.Pairwise.imp (fun {a b} ⟨y, y', ea, eb, h⟩ u hu v hv => ?_) (rng_lt 0 H)⟩
    · obtain ⟨y, rfl, _, _⟩ := rng_mem hb
      refine List.pairwise_flatMap.mpr ⟨fun q hq => ?_, List.Pairwise.imp (fun {a b} ⟨sd, sd', ea, eb, h⟩ u hu v hv => ?_) (rng_lt 0 4)⟩
      · obtain ⟨sd, rfl, _, _⟩ := rng_mem hq
        exact side_pw W H T x y _ ⟨sd, rfl⟩
      · subst ea eb
        obtain ⟨t, rfl⟩ := sideL_mem hu
        obtain ⟨t', rfl⟩ := sideL_mem hv
        exact ltD_of (by omega)
    · subst ea eb
      obtain ⟨sd, t, rfl⟩ := rowL_mem hu
      obtain ⟨sd', t', rfl⟩ := rowL_mem hv
      exact ltD_of (by omega)
  · subst ea eb
    obtain ⟨y, sd, t, rfl⟩ := colL_mem hu
    obtain ⟨y', sd', t', rfl⟩ := colL_mem hv
    exact ltD_of (by omega)
theorem nodup_of {xs : List Ev.D} (h : xs.Pairwise fun a b => a ≠ b) : xs.Nodup := h
theorem tilesD_pw (W H : Int) : (tilesD W H).Pairwise fun a b => a ≠ b := by
  refine List.pairwise_flatMap.mpr ⟨fun a ha => ?_, List.Pairwise.imp (fun {a b} ⟨x, x', ea, eb, h⟩ u hu v hv e => ?_) (rng_lt 0 H)⟩
  · rw [List.pairwise_map]
    refine List.Pairwise.imp (fun {u v} ⟨x, x', ea, eb, h⟩ e => ?_) (rng_lt 0 W)
    subst ea eb
    simp only [Ev.D.tup.injEq, List.cons.injEq, Ev.D.int.injEq] at e
    omega
  · subst ea eb
    obtain ⟨u', hu', rfl⟩ := List.mem_map.mp hu
    obtain ⟨v', hv', rfl⟩ := List.mem_map.mp hv
    simp only [Ev.D.tup.injEq, List.cons.injEq, Ev.D.int.injEq] at e
    omega
theorem wf_mem {W H x y t : Int} {z : Ev.D} (h : z ∈ wf W H (tile x y) (.int t)) : ∃ sd, z = w4 x y sd t := by
  obtain ⟨q, hq, rfl⟩ := List.mem_map.mp h
  obtain ⟨sd, rfl, _, _⟩ := rng_mem (List.mem_filter.mp hq).1
  exact ⟨sd, rfl⟩
theorem progW_nd (W H T : Int) : (progW W H T).Nodup := by
  refine nodup_of (List.pairwise_flatMap.mpr ⟨fun z hz => ?_, ?_⟩)
  · obtain ⟨x, y, rfl, _⟩ := tilesD_mem hz
    refine List.pairwise_flatMap.mpr ⟨fun t ht => ?_, List.Pairwise.imp (fun {a b} ⟨t, t', ea, eb, h⟩ u hu v hv e => ?_) (rng_lt 0 T)⟩
    · obtain ⟨t, rfl, _, _⟩ := rng_mem ht
      unfold wf
      rw [List.pairwise_map]
      refine List.Pairwise.imp (fun {a b} ⟨s1, s2, ea, eb, h⟩ e => ?_) (List.Pairwise.filter _ (rng_lt 0 4))
      subst ea eb
      simp only [Ev.D.tup.injEq, List.cons.injEq, Ev.D.int.injEq] at e
      omega
    · subst ea eb
      obtain ⟨sd, rfl⟩ := wf_mem hu
      obtain ⟨sd', rfl⟩ := wf_mem hv
      simp only [Ev.D.tup.injEq, List.cons.injEq, Ev.D.int.injEq] at e
      omega
  · refine List.Pairwise.imp_of_mem (fun {a b} ha hb hne u hu v hv e => hne ?_) (tilesD_pw W H)
    obtain ⟨x, y, rfl, _⟩ := tilesD_mem ha
    obtain ⟨x', y', rfl, _⟩ := tilesD_mem hb
    obtain ⟨t, ht, hu⟩ := List.mem_flatMap.mp hu
    obtain ⟨t', ht', hv⟩ := List.mem_flatMap.mp hv
    obtain ⟨t, rfl, _, _⟩ := rng_mem ht
    obtain ⟨t', rfl, _, _⟩ := rng_mem ht'
    obtain ⟨sd, rfl⟩ := wf_mem hu
    obtain ⟨sd', rfl⟩ := wf_mem hv
    simp only [Ev.D.tup.injEq, List.cons.injEq, Ev.D.int.injEq] at e
    rw [e.1, e.2.1]
theorem wires_eq (W H T : Int) : sortD (progW W H T) = lawW W H T := by
  refine sortD_eq ((lawW_pw W H T).imp fun h => h.1) ((List.perm_ext_iff_of_nodup (progW_nd W H T) (nodup_of ((lawW_pw W H T).imp fun h => h.2))).mpr fun z => by rw [progW_mem, lawW_mem]) fun a ha b hb h1 h2 => ?_
  obtain ⟨x, y, sd, t, rfl, _⟩ := lawW_mem.mp ha
  obtain ⟨x', y', sd', t', rfl, _⟩ := lawW_mem.mp hb
  exact w4_anti h1 h2
end K61
end
section
set_option linter.all false
set_option autoImplicit false
set_option maxRecDepth 100000
set_option maxHeartbeats 1000000
namespace K61
open PySem L2 Ev
local macro_rules | `(tactic| walk_at "s") => `(tactic| simp only [x_k, x_e1, x_e2, x_a0, x_ac, x_call, x_tup, x_lst, x_raise, kRaise_t, kRaise_p, x_for, kFor_v, kTurn_nx, kTurn_ct, kTurn_bk, kTurn_rt, kTurn_exc, kTurn_ite, x_iSeq, kSeq_t, kSeq_l, x_iEnum, enumS_t, enumS_l, x_iR1, x_iR2, pNe_int, pEq_int, pNe_str, dec_self, decide_true, decide_false, if_not', Bool.not_true, Bool.not_false, Bool.not_not, Bool.false_or, Bool.true_or, Bool.or_false, Bool.or_true, Bool.and_true, Bool.true_and, Bool.false_and, Bool.and_false, finR_bif, finR_rt, finR_nx, finR_exc, forV_nil', forV_cons', List.replicate_succ, List.replicate_zero, Nat.reduceSub, mkT0, mkT1, mkT2, mkT3, mkT4, mkT5, mkT6, mkL0, mkL1, mkL2, mkL3, mkL4, mkL5, mkL6, mkL7, mkL8, mkL9, mkL10, mkL11, x_bb, x_bv, kBb_bl, kBv_bl, kBv_int, kBv_non, x_bnot, x_band, x_bor, ite_and, ite_or, x_yes, x_eand, x_eor, x_enot, kAnd_bl, kOr_bl, kNot_bl, ite_andv, ite_orv, x_chain, kCh_bl, x_eif, x_sq, x_nil, x_setn, x_sett, x_seti, x_exp, x_ret, x_retN, x_if, next_ite, bind_ite, ofRes_ite, ixt0, ixt1, ixt2, ixt3, ixt4, ixt5, ixt6, ixt7, ixl0, ixl1, ixl2, ixl3, ixl4, ixl5, ixl6, ixl7, exF_one, x_len_tup, x_len_lst, x_isi, x_isN, x_notN, if_false', if_true', x_v, List.getElem?_cons_zero, List.getElem?_cons_succ, List.set_cons_zero, List.set_cons_succ, Res.bind_ok, Res.bind_exc, Res.bind_fail, ofRes_ok, ofRes_exc, ofRes_fail, SRes.next_nx, SRes.next_rt, SRes.next_exc, SRes.next_fail, pAdd_ok, pSub_ok, pLt_ok, pLe_ok, pGt_ok, pGe_ok, pInt_ok, pNeg_ok, pMax_ok, pMin_ok, List.map_cons, List.map_nil, List.cons_append, List.nil_append, List.append_nil])
local macro_rules | `(tactic| walk_at "h") => `(tactic| simp only [*, x_k, x_e1, x_e2, x_a0, x_ac, x_call, x_tup, x_lst, x_raise, kRaise_t, kRaise_p, x_for, kFor_v, kTurn_nx, kTurn_ct, kTurn_bk, kTurn_rt, kTurn_exc, kTurn_ite, x_iSeq, kSeq_t, kSeq_l, x_iEnum, enumS_t, enumS_l, x_iR1, x_iR2, pNe_int, pEq_int, pNe_str, dec_self, decide_true, decide_false, if_not', Bool.not_true, Bool.not_false, Bool.not_not, Bool.false_or, Bool.true_or, Bool.or_false, Bool.or_true, Bool.and_true, Bool.true_and, Bool.false_and, Bool.and_false, finR_bif, finR_rt, finR_nx, finR_exc, forV_nil', forV_cons', List.replicate_succ, List.replicate_zero, Nat.reduceSub, mkT0, mkT1, mkT2, mkT3, mkT4, mkT5, mkT6, mkL0, mkL1, mkL2, mkL3, mkL4, mkL5, mkL6, mkL7, mkL8, mkL9, mkL10, mkL11, x_bb, x_bv, kBb_bl, kBv_bl, kBv_int, kBv_non, x_bnot, x_band, x_bor, ite_and, ite_or, x_yes, x_eand, x_eor, x_enot, kAnd_bl, kOr_bl, kNot_bl, ite_andv, ite_orv, x_chain, kCh_bl, x_eif, x_sq, x_nil, x_setn, x_sett, x_seti, x_exp, x_ret, x_retN, x_if, next_ite, bind_ite, ofRes_ite, ixt0, ixt1, ixt2, ixt3, ixt4, ixt5, ixt6, ixt7, ixl0, ixl1, ixl2, ixl3, ixl4, ixl5, ixl6, ixl7, exF_one, x_len_tup, x_len_lst, x_isi, x_isN, x_notN, if_false', if_true', x_v, List.getElem?_cons_zero, List.getElem?_cons_succ, List.set_cons_zero, List.set_cons_succ, Res.bind_ok, Res.bind_exc, Res.bind_fail, ofRes_ok, ofRes_exc, ofRes_fail, SRes.next_nx, SRes.next_rt, SRes.next_exc, SRes.next_fail, pAdd_ok, pSub_ok, pLt_ok, pLe_ok, pGt_ok, pGe_ok, pInt_ok, pNeg_ok, pMax_ok, pMin_ok, List.map_cons, List.map_nil, List.cons_append, List.nil_append, List.append_nil])
theorem sideL_len {W H T : Int} (h0 : 0 ≤ T) (x y q : Ev.D) : (sideL W H T x y q).length ≤ T.toNat := by
  unfold sideL
  cases onT W H (toI x + dx (toI q)) (toI y + dy (toI q)) with
  | false => exact Nat.zero_le _
  | true => show ((rng 0 T).map _).length ≤ _; rw [List.length_map, rng_len]; omega
theorem lawW_len {W H T P : Int} (o : Ok5 W H T P) (hb : W * H * (T * 4) ≤ 1000000) : (lawW W H T).length ≤ 1000000 := by
  rw [← wires_eq, sortD_len]; exact progW_len o hb
abbrev lwE (W H T K P : Int) (acc : List Ev.D) (a b c d : Option Val) : Ev.Env := [some (.d (fab W H T K P)), some (.d (.lst acc)), a, b, c, d]
theorem lw1 (n : Nat) {W H T K P : Int} (o : Ok5 W H T P) (s : Store) (x y sd : Int) (h0 : 0 ≤ sd) (h4 : sd < 4) (acc : List Ev.D) (d : Option Val) (hl : acc.length + (sideL W H T (.int x) (.int y) (.int sd)).length ≤ 1000000) :
    _law_wires_L1 (runP prog (n + 1)) (lwE W H T K P acc (some (.d (.int x))) (some (.d (.int y))) (some (.d (.int sd))) d) s = .nx (lwE W H T K P (acc ++ sideL W H T (.int x) (.int y) (.int sd)) (some (.d (.int x))) (some (.d (.int y))) (some (.d (.int sd))) d) s := by
  have w := w_beside n W H x y sd [.int T, .int K, .int P] s h0 h4
  have nn := notN_nb W H x y sd
  have l := lc_all (E := lwE W H T K P acc (some (.d (.int x))) (some (.d (.int y))) (some (.d (.int sd))) d) (s := s) (ws := [5]) (g := tn 5) (ic := Ev.iRng1 (e2 pIx (v 0) (k (.int 2)))) (c := yes) (e := _law_wires_x1 (runP prog (n + 1))) (xs := rng 0 T) (fun t => .tup [.int x, .int y, .int sd, t]) (by
        have := o.t0; have := o.t1
        have := kR1_ok (s := s) (small_of (i := T) (by omega) (by omega))
        walk_at "h") (by have := o.t1; rw [rng_len]; exact len_line (by omega)) fun r hr => ⟨lwE W H T K P acc (some (.d (.int x))) (some (.d (.int y))) (some (.d (.int sd))) (some (.d r)), rfl, rfl, by simp only [_law_wires_x1]; walk_at "s"⟩
  simp only [_law_wires_L1]
  cases hn : onT W H (x + dx sd) (y + dy sd) with
  | false =>
    have e : sideL W H T (.int x) (.int y) (.int sd) = [] := by unfold sideL; simp only [toI, hn]; rfl
    rw [e, List.append_nil]
    walk_at "h"
  | true =>
    have e : sideL W H T (.int x) (.int y) (.int sd) = (rng 0 T).map fun t => .tup [.int x, .int y, .int sd, t] := by unfold sideL; simp only [toI, hn]; rfl
    rw [e] at hl ⊢
    have ad := pAdd_lst (s := s) (len_line hl)
    walk_at "h"
theorem lw2 (n : Nat) {W H T K P : Int} (o : Ok5 W H T P) (s : Store) (x y : Int) (acc : List Ev.D) (c d : Option Val) (hl : acc.length + (rowL W H T (.int x) (.int y)).length ≤ 1000000) :
    ∃ c' d', _law_wires_L2 (runP prog (n + 1)) (lwE W H T K P acc (some (.d (.int x))) (some (.d (.int y))) c d) s = .nx (lwE W H T K P (acc ++ rowL W H T (.int x) (.int y)) (some (.d (.int x))) (some (.d (.int y))) c' d') s := by
  obtain ⟨c1, c2, c3, c4, h⟩ := grow (t := tn 4) (b := _law_wires_L1 (runP prog (n + 1))) (fun acc c d _ _ => lwE W H T K P acc (some (.d (.int x))) (some (.d (.int y))) c d) (sideL W H T (.int x) (.int y)) s acc (rng 0 4) hl c d none none fun q hq acc' c d _ _ hl' => by
    obtain ⟨sd, rfl, h0, h4⟩ := rng_mem hq
    exact ⟨_, some (.d (.int sd)), d, none, none, rfl, lw1 n o s x y sd h0 h4 acc' d hl'⟩
  refine ⟨c1, c2, ?_⟩
  have i := kR1_ok (s := s) (i := 4) rfl
  simp only [_law_wires_L2]
  walk_at "h"
  rfl
theorem lw3 (n : Nat) {W H T K P : Int} (o : Ok5 W H T P) (s : Store) (x : Int) (acc : List Ev.D) (b c d : Option Val) (hl : acc.length + (colL W H T (.int x)).length ≤ 1000000) :
    ∃ b' c' d', _law_wires_L3 (runP prog (n + 1)) (lwE W H T K P acc (some (.d (.int x))) b c d) s = .nx (lwE W H T K P (acc ++ colL W H T (.int x)) (some (.d (.int x))) b' c' d') s := by
  obtain ⟨c1, c2, c3, c4, h⟩ := grow (t := tn 3) (b := _law_wires_L2 (runP prog (n + 1))) (fun acc b c d _ => lwE W H T K P acc (some (.d (.int x))) b c d) (rowL W H T (.int x)) s acc (rng 0 H) hl b c d none fun q hq acc' b c d _ hl' => by
    obtain ⟨y, rfl, h0, h4⟩ := rng_mem hq
    obtain ⟨c', d', h⟩ := lw2 n (K := K) o s x y acc' c d hl'
    exact ⟨_, some (.d (.int y)), c', d', none, rfl, h⟩
  refine ⟨c1, c2, c3, ?_⟩
  have i := kR1_ok (s := s) (small_of (i := H) (by have := o.h0; omega) (by have := o.h1; omega))
  simp only [_law_wires_L3]
  walk_at "h"
  rfl
theorem w_lwires (n : Nat) {W H T K P : Int} (o : Ok5 W H T P) (hb : W * H * (T * 4) ≤ 1000000) (s : Store) : runP prog (n + 2) 22 [.d (fab W H T K P)] s = .ok (.d (.lst (lawW W H T))) s := by
  rw [rp rfl, run_body rfl]
  show finR false s (e__law_wires _ [some (.d (fab W H T K P)), none, none, none, none, none] s) = _
  obtain ⟨c1, c2, c3, c4, h⟩ := grow (t := tn 2) (b := _law_wires_L3 (runP prog (n + 1))) (fun acc a b c d => lwE W H T K P acc a b c d) (colL W H T) s [] (rng 0 W) (by rw [List.length_nil, Nat.zero_add]; exact lawW_len o hb) none none none none fun q hq acc' a b c d hl' => by
    obtain ⟨x, rfl, h0, h4⟩ := rng_mem hq
    obtain ⟨b', c', d', h⟩ := lw3 n (K := K) o s x acc' b c d hl'
    exact ⟨_, some (.d (.int x)), b', c', d', rfl, h⟩
  rw [List.nil_append] at h
  have i := kR1_ok (s := s) (small_of (i := W) (by have := o.w0; omega) (by have := o.w1; omega))
  simp only [e__law_wires]
  walk_at "h"
  rfl
end K61
end
section
set_option linter.all false
set_option autoImplicit false
set_option maxRecDepth 100000
set_option maxHeartbeats 1000000
namespace K61
open PySem L2 Ev
local macro_rules | `(tactic| walk_at "s") => `(tactic| simp only [x_k, x_e1, x_e2, x_a0, x_ac, x_call, x_tup, x_lst, x_raise, kRaise_t, kRaise_p, x_for, kFor_v, kTurn_nx, kTurn_ct, kTurn_bk, kTurn_rt, kTurn_exc, kTurn_ite, x_iSeq, kSeq_t, kSeq_l, x_iEnum, enumS_t, enumS_l, x_iR1, x_iR2, pNe_int, pEq_int, pNe_str, dec_self, decide_true, decide_false, if_not', Bool.not_true, Bool.not_false, Bool.not_not, Bool.false_or, Bool.true_or, Bool.or_false, Bool.or_true, Bool.and_true, Bool.true_and, Bool.false_and, Bool.and_false, finR_bif, finR_rt, finR_nx, finR_exc, forV_nil', forV_cons', List.replicate_succ, List.replicate_zero, Nat.reduceSub, mkT0, mkT1, mkT2, mkT3, mkT4, mkT5, mkT6, mkL0, mkL1, mkL2, mkL3, mkL4, mkL5, mkL6, mkL7, mkL8, mkL9, mkL10, mkL11, x_bb, x_bv, kBb_bl, kBv_bl, kBv_int, kBv_non, x_bnot, x_band, x_bor, ite_and, ite_or, x_yes, x_eand, x_eor, x_enot, kAnd_bl, kOr_bl, kNot_bl, ite_andv, ite_orv, x_chain, kCh_bl, x_eif, x_sq, x_nil, x_setn, x_sett, x_seti, x_exp, x_ret, x_retN, x_if, next_ite, bind_ite, ofRes_ite, ixt0, ixt1, ixt2, ixt3, ixt4, ixt5, ixt6, ixt7, ixl0, ixl1, ixl2, ixl3, ixl4, ixl5, ixl6, ixl7, exF_one, x_len_tup, x_len_lst, x_isi, x_isN, x_notN, if_false', if_true', x_v, List.getElem?_cons_zero, List.getElem?_cons_succ, List.set_cons_zero, List.set_cons_succ, Res.bind_ok, Res.bind_exc, Res.bind_fail, ofRes_ok, ofRes_exc, ofRes_fail, SRes.next_nx, SRes.next_rt, SRes.next_exc, SRes.next_fail, pAdd_ok, pSub_ok, pLt_ok, pLe_ok, pGt_ok, pGe_ok, pInt_ok, pNeg_ok, pMax_ok, pMin_ok, List.map_cons, List.map_nil, List.cons_append, List.nil_append, List.append_nil])
local macro_rules | `(tactic| walk_at "h") => `(tactic| simp only [*, x_k, x_e1, x_e2, x_a0, x_ac, x_call, x_tup, x_lst, x_raise, kRaise_t, kRaise_p, x_for, kFor_v, kTurn_nx, kTurn_ct, kTurn_bk, kTurn_rt, kTurn_exc, kTurn_ite, x_iSeq, kSeq_t, kSeq_l, x_iEnum, enumS_t, enumS_l, x_iR1, x_iR2, pNe_int, pEq_int, pNe_str, dec_self, decide_true, decide_false, if_not', Bool.not_true, Bool.not_false, Bool.not_not, Bool.false_or, Bool.true_or, Bool.or_false, Bool.or_true, Bool.and_true, Bool.true_and, Bool.false_and, Bool.and_false, finR_bif, finR_rt, finR_nx, finR_exc, forV_nil', forV_cons', List.replicate_succ, List.replicate_zero, Nat.reduceSub, mkT0, mkT1, mkT2, mkT3, mkT4, mkT5, mkT6, mkL0, mkL1, mkL2, mkL3, mkL4, mkL5, mkL6, mkL7, mkL8, mkL9, mkL10, mkL11, x_bb, x_bv, kBb_bl, kBv_bl, kBv_int, kBv_non, x_bnot, x_band, x_bor, ite_and, ite_or, x_yes, x_eand, x_eor, x_enot, kAnd_bl, kOr_bl, kNot_bl, ite_andv, ite_orv, x_chain, kCh_bl, x_eif, x_sq, x_nil, x_setn, x_sett, x_seti, x_exp, x_ret, x_retN, x_if, next_ite, bind_ite, ofRes_ite, ixt0, ixt1, ixt2, ixt3, ixt4, ixt5, ixt6, ixt7, ixl0, ixl1, ixl2, ixl3, ixl4, ixl5, ixl6, ixl7, exF_one, x_len_tup, x_len_lst, x_isi, x_isN, x_notN, if_false', if_true', x_v, List.getElem?_cons_zero, List.getElem?_cons_succ, List.set_cons_zero, List.set_cons_succ, Res.bind_ok, Res.bind_exc, Res.bind_fail, ofRes_ok, ofRes_exc, ofRes_fail, SRes.next_nx, SRes.next_rt, SRes.next_exc, SRes.next_fail, pAdd_ok, pSub_ok, pLt_ok, pLe_ok, pGt_ok, pGe_ok, pInt_ok, pNeg_ok, pMax_ok, pMin_ok, List.map_cons, List.map_nil, List.cons_append, List.nil_append, List.append_nil])
def wireI (W H T : Int) : List Int → Bool
  | [a, b, c, d] => onT W H a b && ((decide (0 ≤ c) && decide (c < 4)) && ((decide (0 ≤ d) && decide (d < T)) && onT W H (a + dx c) (b + dy c)))
  | _ => false
/-- whether anything is a wire -/
def wireB (W H T : Int) (x : Ev.D) : Bool := match x with
  | .tup xs => match allInt xs with | some is => wireI W H T is | none => false
  | _ => false
theorem all4 (p q r t : Bool) (s : Store) : pAll (.d (.lst [.bl p, .bl q, .bl r, .bl t])) s = .ok (.d (.bl (p && (q && (r && t))))) s := by
  have : pAll (.d (.lst [.bl p, .bl q, .bl r, .bl t])) s = .ok (.d (.bl (p && (q && (r && (t && true)))))) s := rfl
  rw [this, Bool.and_true]
theorem allInt_map : ∀ is : List Int, allInt (is.map Ev.D.int) = some is
  | [] => rfl
  | i :: is => by simp only [List.map_cons, allInt, allInt_map is, Option.map_some]
theorem allInt_some : ∀ {xs : List Ev.D} {is : List Int}, allInt xs = some is → xs = is.map .int
  | [], is, h => by simp only [allInt, Option.some.injEq] at h; subst h; rfl
  | x :: xs, is, h => by
    cases x with
    | int i =>
      simp only [allInt, Option.map_eq_some_iff] at h
      obtain ⟨js, h1, rfl⟩ := h
      rw [allInt_some h1]; rfl
    | _ => simp [allInt] at h
theorem allInt_none : ∀ {xs : List Ev.D}, allInt xs = none → ∃ x ∈ xs, isInt x = false
  | [], h => by simp [allInt] at h
  | x :: xs, h => by
    cases x with
    | int i =>
      simp only [allInt, Option.map_eq_none_iff] at h
      obtain ⟨z, h1, h2⟩ := allInt_none h
      exact ⟨z, List.mem_cons_of_mem _ h1, h2⟩
    | _ => exact ⟨_, List.mem_cons_self, rfl⟩
theorem len_ne (xs : List Ev.D) (h : xs.length ≠ 4) : decide ((xs.length : Int) = 4) = false := decide_eq_false (by omega)
theorem wireI_len {W H T : Int} {is : List Int} (h : is.length ≠ 4) : wireI W H T is = false := by
  match is, h with
  | [_, _, _, _], h => simp at h
  | [], h | [_], h | [_, _], h | [_, _, _], h => rfl
  | _ :: _ :: _ :: _ :: _ :: _, h => rfl
theorem wireB_len {W H T : Int} {xs : List Ev.D} (h : xs.length ≠ 4) : wireB W H T (.tup xs) = false := by
  show (match allInt xs with | some is => wireI W H T is | none => false) = false
  cases e : allInt xs with
  | none => rfl
  | some is => exact wireI_len (by have := allInt_some e; rw [this, List.length_map] at h; exact h)
theorem four {xs : List Ev.D} (h : xs.length = 4) : ∃ a b c d, xs = [a, b, c, d] := by
  match xs, h with
  | [a, b, c, d], _ => exact ⟨a, b, c, d, rfl⟩
theorem b_ints (n : Nat) (W H T K P : Int) (a b c d : Ev.D) (E3 E4 E5 E6 : Option Val) (s : Store) : lc [2] (tn 2) (Ev.iSeq (v 1)) yes (is_wire_x1 (runP prog (n + 1))) [some (.d (fab W H T K P)), some (.d (.tup [a, b, c, d])), none, E3, E4, E5, E6] s = .ok (.d (.lst [.bl (isInt a), .bl (isInt b), .bl (isInt c), .bl (isInt d)])) s :=
  lc_all (E := [some (.d (fab W H T K P)), some (.d (.tup [a, b, c, d])), none, E3, E4, E5, E6]) (s := s) (ws := [2]) (g := tn 2) (ic := Ev.iSeq (v 1)) (c := yes) (e := is_wire_x1 (runP prog (n + 1))) (xs := [a, b, c, d]) (fun q => .bl (isInt q)) rfl (le_lineN rfl) fun q hq => by
    have w := w_is_integer n q s
    refine ⟨[some (.d (fab W H T K P)), some (.d (.tup [a, b, c, d])), some (.d q), E3, E4, E5, E6], rfl, rfl, ?_⟩
    simp only [is_wire_x1]
    walk_at "h"
theorem isT_tup (x : Ev.D) (h : ∀ xs, x ≠ .tup xs) : isT [.tuple] (tyD x) = false := by
  cases x with
  | tup xs => exact absurd rfl (h xs)
  | _ => rfl
theorem w_is_wire (n : Nat) (W H T K P : Int) (x : Ev.D) (s : Store) : runP prog (n + 3) 7 [.d (fab W H T K P), .d x] s = .ok (.d (.bl (wireB W H T x))) s := by
  rw [rp rfl, run_body rfl]
  show finR false s (e_is_wire _ [some (.d (fab W H T K P)), some (.d x), none, none, none, none, none] s) = _
  by_cases ht : ∃ xs, x = .tup xs
  · obtain ⟨xs, rfl⟩ := ht
    have it : isT [.tuple] (tyD (.tup xs)) = true := rfl
    by_cases h4 : xs.length = 4
    · obtain ⟨a, b, c, d, rfl⟩ := four h4
      clear h4
      have l := b_ints (n + 1) W H T K P a b c d none none none none s
      have q := all4 (isInt a) (isInt b) (isInt c) (isInt d) s
      have l4 : decide ((([a, b, c, d] : List Ev.D).length : Int) = 4) = true := rfl
      by_cases hi : (isInt a && (isInt b && (isInt c && isInt d))) = true
      · simp only [Bool.and_eq_true] at hi
        obtain ⟨ha, hb, hc, hd⟩ := hi
        rcases isInt_or a with ⟨a, rfl⟩ | z
        rotate_left
        · rw [z] at ha; cases ha
        rcases isInt_or b with ⟨b, rfl⟩ | z
        rotate_left
        · rw [z] at hb; cases hb
        rcases isInt_or c with ⟨c, rfl⟩ | z
        rotate_left
        · rw [z] at hc; cases hc
        rcases isInt_or d with ⟨d, rfl⟩ | z
        rotate_left
        · rw [z] at hd; cases hd
        replace q : pAll (.d (.lst [.bl true, .bl true, .bl true, .bl true])) s = .ok (.d (.bl true)) s := q
        have wt := w_is_tile (n + 1) W H a b [.int T, .int K, .int P] s
        have tg : tt [tn 3, tn 4, tn 5, tn 6] (.d (.tup [.int a, .int b, .int c, .int d])) [some (.d (fab W H T K P)), some (.d (.tup [.int a, .int b, .int c, .int d])), none, none, none, none, none] s = some ([some (.d (fab W H T K P)), some (.d (.tup [.int a, .int b, .int c, .int d])), none, some (.d (.int a)), some (.d (.int b)), some (.d (.int c)), some (.d (.int d))], s) := rfl
        have e : wireB W H T (.tup [.int a, .int b, .int c, .int d]) = (onT W H a b && ((decide (0 ≤ c) && decide (c < 4)) && ((decide (0 ≤ d) && decide (d < T)) && onT W H (a + dx c) (b + dy c)))) := rfl
        rw [e]
        simp only [e_is_wire]
        by_cases hc : (decide (0 ≤ c) && decide (c < 4)) = true
        · have hc' := hc
          simp only [Bool.and_eq_true, decide_eq_true_eq] at hc'
          have wn := w_neighbour n W H a b c [.int T, .int K, .int P] s hc'.1 hc'.2
          have nn := notN_nb W H a b c s
          clear hc'
          walk_at "h"
          cases onT W H a b <;> cases (decide (0 ≤ d) && decide (d < T)) <;> rfl
        · rw [Bool.not_eq_true] at hc
          walk_at "h"
      · rw [Bool.not_eq_true] at hi
        rw [hi] at q
        have e : wireB W H T (.tup [a, b, c, d]) = false := by
          show (match allInt [a, b, c, d] with | some is => wireI W H T is | none => false) = false
          cases h : allInt [a, b, c, d] with
          | none => rfl
          | some is =>
            exfalso
            have h2 := allInt_some h
            match is, h2 with
            | [i, j, k, l], h2 =>
              simp only [List.map_cons, List.map_nil, List.cons.injEq, and_true] at h2
              obtain ⟨rfl, rfl, rfl, rfl⟩ := h2
              cases hi
        rw [e]
        simp only [e_is_wire]
        walk_at "h"
    · rw [wireB_len h4]
      have l4 := len_ne xs h4
      simp only [e_is_wire]
      walk_at "h"
  · have it := isT_tup x fun xs e => ht ⟨xs, e⟩
    have e : wireB W H T x = false := by cases x with
      | tup xs => exact absurd ⟨xs, rfl⟩ ht
      | _ => rfl
    rw [e]
    simp only [e_is_wire]
    walk_at "h"
end K61
end
section
set_option linter.all false
set_option autoImplicit false
set_option maxRecDepth 100000
set_option maxHeartbeats 1000000
namespace K61
open PySem L2 Ev
local macro_rules | `(tactic| walk_at "s") => `(tactic| simp only [x_k, x_e1, x_e2, x_a0, x_ac, x_call, x_tup, x_lst, x_raise, kRaise_t, kRaise_p, x_for, kFor_v, kTurn_nx, kTurn_ct, kTurn_bk, kTurn_rt, kTurn_exc, kTurn_ite, x_iSeq, kSeq_t, kSeq_l, x_iEnum, enumS_t, enumS_l, x_iR1, x_iR2, pNe_int, pEq_int, pNe_str, dec_self, decide_true, decide_false, if_not', Bool.not_true, Bool.not_false, Bool.not_not, Bool.false_or, Bool.true_or, Bool.or_false, Bool.or_true, Bool.and_true, Bool.true_and, Bool.false_and, Bool.and_false, finR_bif, finR_rt, finR_nx, finR_exc, forV_nil', forV_cons', List.replicate_succ, List.replicate_zero, Nat.reduceSub, mkT0, mkT1, mkT2, mkT3, mkT4, mkT5, mkT6, mkL0, mkL1, mkL2, mkL3, mkL4, mkL5, mkL6, mkL7, mkL8, mkL9, mkL10, mkL11, x_bb, x_bv, kBb_bl, kBv_bl, kBv_int, kBv_non, x_bnot, x_band, x_bor, ite_and, ite_or, x_yes, x_eand, x_eor, x_enot, kAnd_bl, kOr_bl, kNot_bl, ite_andv, ite_orv, x_chain, kCh_bl, x_eif, x_sq, x_nil, x_setn, x_sett, x_seti, x_exp, x_ret, x_retN, x_if, next_ite, bind_ite, ofRes_ite, ixt0, ixt1, ixt2, ixt3, ixt4, ixt5, ixt6, ixt7, ixl0, ixl1, ixl2, ixl3, ixl4, ixl5, ixl6, ixl7, exF_one, x_len_tup, x_len_lst, x_isi, x_isN, x_notN, if_false', if_true', x_v, List.getElem?_cons_zero, List.getElem?_cons_succ, List.set_cons_zero, List.set_cons_succ, Res.bind_ok, Res.bind_exc, Res.bind_fail, ofRes_ok, ofRes_exc, ofRes_fail, SRes.next_nx, SRes.next_rt, SRes.next_exc, SRes.next_fail, pAdd_ok, pSub_ok, pLt_ok, pLe_ok, pGt_ok, pGe_ok, pInt_ok, pNeg_ok, pMax_ok, pMin_ok, List.map_cons, List.map_nil, List.cons_append, List.nil_append, List.append_nil])
local macro_rules | `(tactic| walk_at "h") => `(tactic| simp only [*, x_k, x_e1, x_e2, x_a0, x_ac, x_call, x_tup, x_lst, x_raise, kRaise_t, kRaise_p, x_for, kFor_v, kTurn_nx, kTurn_ct, kTurn_bk, kTurn_rt, kTurn_exc, kTurn_ite, x_iSeq, kSeq_t, kSeq_l, x_iEnum, enumS_t, enumS_l, x_iR1, x_iR2, pNe_int, pEq_int, pNe_str, dec_self, decide_true, decide_false, if_not', Bool.not_true, Bool.not_false, Bool.not_not, Bool.false_or, Bool.true_or, Bool.or_false, Bool.or_true, Bool.and_true, Bool.true_and, Bool.false_and, Bool.and_false, finR_bif, finR_rt, finR_nx, finR_exc, forV_nil', forV_cons', List.replicate_succ, List.replicate_zero, Nat.reduceSub, mkT0, mkT1, mkT2, mkT3, mkT4, mkT5, mkT6, mkL0, mkL1, mkL2, mkL3, mkL4, mkL5, mkL6, mkL7, mkL8, mkL9, mkL10, mkL11, x_bb, x_bv, kBb_bl, kBv_bl, kBv_int, kBv_non, x_bnot, x_band, x_bor, ite_and, ite_or, x_yes, x_eand, x_eor, x_enot, kAnd_bl, kOr_bl, kNot_bl, ite_andv, ite_orv, x_chain, kCh_bl, x_eif, x_sq, x_nil, x_setn, x_sett, x_seti, x_exp, x_ret, x_retN, x_if, next_ite, bind_ite, ofRes_ite, ixt0, ixt1, ixt2, ixt3, ixt4, ixt5, ixt6, ixt7, ixl0, ixl1, ixl2, ixl3, ixl4, ixl5, ixl6, ixl7, exF_one, x_len_tup, x_len_lst, x_isi, x_isN, x_notN, if_false', if_true', x_v, List.getElem?_cons_zero, List.getElem?_cons_succ, List.set_cons_zero, List.set_cons_succ, Res.bind_ok, Res.bind_exc, Res.bind_fail, ofRes_ok, ofRes_exc, ofRes_fail, SRes.next_nx, SRes.next_rt, SRes.next_exc, SRes.next_fail, pAdd_ok, pSub_ok, pLt_ok, pLe_ok, pGt_ok, pGe_ok, pInt_ok, pNeg_ok, pMax_ok, pMin_ok, List.map_cons, List.map_nil, List.cons_append, List.nil_append, List.append_nil])
theorem w_pick (n many : Nat) (hm : many ≤ 1000000) {s r : Store} (h : Sc s r) : ∃ (k : Nat) (s' : Store), runP prog (n + 1) 14 [.loc 1, .d (.int many)] s = .ok (.d (.int k)) s' ∧ k < max 1 many ∧ Sc s' r := by
  obtain ⟨cs, l, m, t, hc, rfl⟩ := h
  obtain ⟨k, cs', l', m', t', h1, h2, h3⟩ := pick_ok many cs l m t r (Fits.small (Nat.le_trans hm (by decide))) hc
  refine ⟨k, _, ?_, h2, cs', l', m', t', Nat.lt_of_le_of_lt h3 hc, rfl⟩
  rw [rp rfl]
  exact h1
theorem w_of (n : Nat) {xs : List Ev.D} (h0 : xs ≠ []) (hl : xs.length ≤ 1000000) {s r : Store} (h : Sc s r) : ∃ (x : Ev.D) (s' : Store), runP prog (n + 2) 15 [.loc 1, .d (.lst xs)] s = .ok (.d x) s' ∧ x ∈ xs ∧ Sc s' r := by
  obtain ⟨k, s', w, hk, h'⟩ := w_pick n xs.length hl h
  have hk' : k < xs.length := by
    have : 0 < xs.length := List.length_pos_iff.mpr h0
    omega
  have hx : xs[k]? = some xs[k] := List.getElem?_eq_getElem hk'
  refine ⟨xs[k], s', ?_, List.getElem_mem hk', h'⟩
  have ix : pIx (.d (.lst xs)) (.d (.int (k : Int))) s' = .ok (.d xs[k]) s' := by
    have e : Ev.ixN xs.length (k : Int) = some k := by
      unfold Ev.ixN
      rw [if_pos (Int.natCast_nonneg k), if_pos (by omega), Int.toNat_natCast]
    simp only [pIx, e, Option.bind_some, hx]
  have fl := finR_len (kp := false) (s := s) (s' := s') (x := .d xs[k]) (by rw [h.len, h'.len])
  rw [rp rfl, run_body rfl]
  show finR false s (e__law_of _ [some (.loc 1), some (.d (.lst xs))] s) = _
  clear hx
  simp only [e__law_of]
  walk_at "h"
def oddA : List Ev.D := [.non, .bl true, .bl false, .int (-1), .int 0, .int 1, .int 2, .int 7, .int (10 ^ 30), .str "", .str "cell", .str "0", .tup [], .lst [], .dct [], .tup [.non], .lst [.tup []], .tup [.int 0], .tup [.str "cell"], .tup [.str "pad", .int 0]]
def oddB : List Ev.D := [.dct [(.inr "a", .int 1)], .tup [.str "wire", .int 0, .int 0], .tup [.int 0, .int 0], .tup [.int 0, .int 0, .int 0]]
theorem sc_dead {s r : Store} (h : Sc s r) : Sc (s ++ [.dead]) (r ++ [.dead]) := by
  obtain ⟨cs, l, m, t, hc, rfl⟩ := h
  exact ⟨cs, l, m, t, hc, rfl⟩
theorem frz_a (E : Ev.Env) (s : Store) : frz (dctA ["a"] (acs [k (.int 1)])) E s = .ok (.d (.dct [(.inr "a", .int 1)])) (s ++ [.dead]) := by
  have h1 : dctA ["a"] (acs [k (.int 1)]) E s = .ok (.loc s.length) (s ++ [.dct [(.inr "a", .d (.int 1))]]) := rfl
  unfold frz
  rw [x_e1, h1]
  simp only [Res.bind_ok, frz1, List.getElem?_concat_length, allKd, Option.map_some]
  congr 1
  simp
theorem w_odd (n : Nat) {s r : Store} (h : Sc s r) (ok : okR r) : ∃ (x : Ev.D) (s' : Store), runP prog (n + 3) 17 [.loc 1] s = .ok (.d x) s' ∧ x ∈ oddA ++ oddB ∧ Sc s' r := by
  obtain ⟨x, s1, w, hx, h1⟩ := w_of n (xs := oddA ++ oddB) (by simp [oddA]) (by decide) (sc_dead h)
  obtain ⟨s2, w2, h2⟩ := finR_cut (kp := false) (d := x) h h1 ok
  refine ⟨x, s2, ?_, hx, h2⟩
  rw [rp rfl, run_body rfl]
  show finR false s (e__law_odd _ [some (.loc 1), none] s) = _
  have q1 : (sSet (tn 1) (lst (ac (k .non) (ac (k (.bl true)) (ac (k (.bl false)) (ac (Ev.e1 pNeg (k (.int 1))) (ac (k (.int 0)) (ac (k (.int 1)) (ac (k (.int 2)) (ac (k (.int 7)) (ac (e2 pPow (k (.int 10)) (k (.int 30))) (ac (k (.str "")) (ac (k (.str "cell")) (ac (k (.str "0")) (ac (tup (a0)) (ac (lst (a0)) (ac (k (.dct [])) (ac (tup (ac (k .non) (a0))) (ac (lst (ac (tup (a0)) (a0))) (ac (tup (ac (k (.int 0)) (a0))) (ac (tup (ac (k (.str "cell")) (a0))) (ac (tup (ac (k (.str "pad")) (ac (k (.int 0)) (a0)))) (a0)))))))))))))))))))))) : SC) [some (.loc 1), none] s = .nx [some (.loc 1), some (.d (.lst oddA))] s := rfl
  have ad := pAdd_lst (a := oddA) (b := oddB) (s := s ++ [.dead]) (le_lineN rfl)
  have q2 : lst (ac (frz (dctA ["a"] (acs [k (.int 1)]))) (ac (tup (ac (k (.str "wire")) (ac (k (.int 0)) (ac (k (.int 0)) (a0))))) (ac (tup (ac (k (.int 0)) (ac (k (.int 0)) (a0)))) (ac (tup (ac (k (.int 0)) (ac (k (.int 0)) (ac (k (.int 0)) (a0))))) (a0))))) [some (.loc 1), some (.d (.lst oddA))] s = .ok (.d (.lst oddB)) (s ++ [.dead]) := by
    rw [x_lst, x_ac, frz_a]; rfl
  simp only [e__law_odd, x_sq, q1, SRes.next_nx, x_ret, x_call, x_ac, x_a0, x_e2, x_v, q2, List.getElem?_cons_zero, List.getElem?_cons_succ, Res.bind_ok, ad, w, ofRes_ok, SRes.next_rt, w2]
end K61
end
section
set_option linter.all false
set_option autoImplicit false
set_option maxRecDepth 100000
set_option maxHeartbeats 1000000
namespace K61
open PySem L2 Ev
local macro_rules | `(tactic| walk_at "s") => `(tactic| simp only [x_k, x_e1, x_e2, x_a0, x_ac, x_call, x_tup, x_lst, x_raise, kRaise_t, kRaise_p, x_for, kFor_v, kTurn_nx, kTurn_ct, kTurn_bk, kTurn_rt, kTurn_exc, kTurn_ite, x_iSeq, kSeq_t, kSeq_l, x_iEnum, enumS_t, enumS_l, x_iR1, x_iR2, pNe_int, pEq_int, pNe_str, dec_self, decide_true, decide_false, if_not', Bool.not_true, Bool.not_false, Bool.not_not, Bool.false_or, Bool.true_or, Bool.or_false, Bool.or_true, Bool.and_true, Bool.true_and, Bool.false_and, Bool.and_false, finR_bif, finR_rt, finR_nx, finR_exc, forV_nil', forV_cons', List.replicate_succ, List.replicate_zero, Nat.reduceSub, mkT0, mkT1, mkT2, mkT3, mkT4, mkT5, mkT6, mkL0, mkL1, mkL2, mkL3, mkL4, mkL5, mkL6, mkL7, mkL8, mkL9, mkL10, mkL11, x_bb, x_bv, kBb_bl, kBv_bl, kBv_int, kBv_non, x_bnot, x_band, x_bor, ite_and, ite_or, x_yes, x_eand, x_eor, x_enot, kAnd_bl, kOr_bl, kNot_bl, ite_andv, ite_orv, x_chain, kCh_bl, x_eif, x_sq, x_nil, x_setn, x_sett, x_seti, x_exp, x_ret, x_retN, x_if, next_ite, bind_ite, ofRes_ite, ixt0, ixt1, ixt2, ixt3, ixt4, ixt5, ixt6, ixt7, ixl0, ixl1, ixl2, ixl3, ixl4, ixl5, ixl6, ixl7, exF_one, x_len_tup, x_len_lst, x_isi, x_isN, x_notN, if_false', if_true', x_v, List.getElem?_cons_zero, List.getElem?_cons_succ, List.set_cons_zero, List.set_cons_succ, Res.bind_ok, Res.bind_exc, Res.bind_fail, ofRes_ok, ofRes_exc, ofRes_fail, SRes.next_nx, SRes.next_rt, SRes.next_exc, SRes.next_fail, pAdd_ok, pSub_ok, pLt_ok, pLe_ok, pGt_ok, pGe_ok, pInt_ok, pNeg_ok, pMax_ok, pMin_ok, List.map_cons, List.map_nil, List.cons_append, List.nil_append, List.append_nil])
local macro_rules | `(tactic| walk_at "h") => `(tactic| simp only [*, x_k, x_e1, x_e2, x_a0, x_ac, x_call, x_tup, x_lst, x_raise, kRaise_t, kRaise_p, x_for, kFor_v, kTurn_nx, kTurn_ct, kTurn_bk, kTurn_rt, kTurn_exc, kTurn_ite, x_iSeq, kSeq_t, kSeq_l, x_iEnum, enumS_t, enumS_l, x_iR1, x_iR2, pNe_int, pEq_int, pNe_str, dec_self, decide_true, decide_false, if_not', Bool.not_true, Bool.not_false, Bool.not_not, Bool.false_or, Bool.true_or, Bool.or_false, Bool.or_true, Bool.and_true, Bool.true_and, Bool.false_and, Bool.and_false, finR_bif, finR_rt, finR_nx, finR_exc, forV_nil', forV_cons', List.replicate_succ, List.replicate_zero, Nat.reduceSub, mkT0, mkT1, mkT2, mkT3, mkT4, mkT5, mkT6, mkL0, mkL1, mkL2, mkL3, mkL4, mkL5, mkL6, mkL7, mkL8, mkL9, mkL10, mkL11, x_bb, x_bv, kBb_bl, kBv_bl, kBv_int, kBv_non, x_bnot, x_band, x_bor, ite_and, ite_or, x_yes, x_eand, x_eor, x_enot, kAnd_bl, kOr_bl, kNot_bl, ite_andv, ite_orv, x_chain, kCh_bl, x_eif, x_sq, x_nil, x_setn, x_sett, x_seti, x_exp, x_ret, x_retN, x_if, next_ite, bind_ite, ofRes_ite, ixt0, ixt1, ixt2, ixt3, ixt4, ixt5, ixt6, ixt7, ixl0, ixl1, ixl2, ixl3, ixl4, ixl5, ixl6, ixl7, exF_one, x_len_tup, x_len_lst, x_isi, x_isN, x_notN, if_false', if_true', x_v, List.getElem?_cons_zero, List.getElem?_cons_succ, List.set_cons_zero, List.set_cons_succ, Res.bind_ok, Res.bind_exc, Res.bind_fail, ofRes_ok, ofRes_exc, ofRes_fail, SRes.next_nx, SRes.next_rt, SRes.next_exc, SRes.next_fail, pAdd_ok, pSub_ok, pLt_ok, pLe_ok, pGt_ok, pGe_ok, pInt_ok, pNeg_ok, pMax_ok, pMin_ok, List.map_cons, List.map_nil, List.cons_append, List.nil_append, List.append_nil])
structure Sm5 (W H T P : Int) : Prop where
  w0 : 1 ≤ W
  w1 : W ≤ 4
  h0 : 1 ≤ H
  h1 : H ≤ 4
  t0 : 1 ≤ T
  t1 : T ≤ 3
  p0 : 1 ≤ P
  p1 : P ≤ 3
theorem Sm5.ok {W H T P : Int} (o : Sm5 W H T P) : Ok5 W H T P := ⟨o.w0, by have := o.w1; omega, o.h0, by have := o.h1; omega, by have := o.t0; omega, by have := o.t1; omega, by have := o.p0; omega, by have := o.p1; omega⟩
theorem mul_le {a b c d e : Int} (h1 : a ≤ c) (h2 : b ≤ d) (h3 : 0 ≤ b) (h4 : 0 ≤ c) (h5 : c * d ≤ e) : a * b ≤ e := Int.le_trans (Int.mul_le_mul h1 h2 h3 h4) h5
theorem Sm5.wh {W H T P : Int} (o : Sm5 W H T P) : W * H ≤ 16 := mul_le o.w1 o.h1 (by have := o.h0; omega) (by decide) (by decide)
theorem Sm5.hp {W H T P : Int} (o : Sm5 W H T P) : W * H * P ≤ 1000000 := mul_le o.wh o.p1 (by have := o.p0; omega) (by decide) (by decide)
theorem Sm5.ht {W H T P : Int} (o : Sm5 W H T P) : W * H * (T * 4) ≤ 1000000 := mul_le (d := 12) o.wh (by have := o.t1; omega) (by have := o.t0; omega) (by decide) (by decide)
theorem good_int {i : Int} (h0 : -1000000 ≤ i) (h1 : i ≤ 1000000) : good (.int i) = true := decide_eq_true (Nat.lt_of_le_of_lt (show i.natAbs ≤ 1000000 by omega) (by decide))
theorem good_ints {is : List Int} (h : ∀ i ∈ is, -1000000 ≤ i ∧ i ≤ 1000000) : good (.tup (is.map .int)) = true := by
  rw [good]
  exact goods_all fun x hx => by obtain ⟨i, hi, rfl⟩ := List.mem_map.mp hx; exact good_int (h i hi).1 (h i hi).2
theorem wt_ints (is : List Int) : wt (.tup (is.map .int)) = is.length * 63 + 3 := by
  have : ∀ is : List Int, wts (is.map .int) = is.length * 63 := fun is => by
    induction is with
    | nil => rfl
    | cons i is ih => simp only [List.map_cons, wts, wt, ih, List.length_cons]; omega
  rw [wt, this]
theorem depth_tup_ints (is : List Int) : (toPy (.tup (is.map .int))).depth = 1 := by simp only [toPy, PyData.depth, depth_ints]
theorem nb_ok {W H : Int} (hW : W ≤ 1000) (hH : H ≤ 1000) (x y sd : Int) : good (nb W H x y sd) = true ∧ wt (nb W H x y sd) ≤ 129 ∧ (toPy (nb W H x y sd)).depth ≤ 1 := by
  unfold nb
  cases h : onT W H (x + dx sd) (y + dy sd) with
  | false => exact ⟨rfl, by show wt .non ≤ 129; rw [wt]; decide, by show (toPy .non).depth ≤ 1; simp [toPy, PyData.depth]⟩
  | true =>
    rw [onT_iff] at h
    refine ⟨good_ints (is := [x + dx sd, y + dy sd]) fun i hi => ?_, Nat.le_of_eq (wt_ints [x + dx sd, y + dy sd]), Nat.le_of_eq (depth_tup_ints [x + dx sd, y + dy sd])⟩
    simp only [List.mem_cons, List.not_mem_nil, or_false] at hi
    omega
theorem coming_ok {W H : Int} (hW : W ≤ 1000) (hH : H ≤ 1000) (x y sd t : Int) (t0 : 0 ≤ t) (t1 : t ≤ 1000) : good (coming W H x y sd t) = true ∧ wt (coming W H x y sd t) ≤ 255 ∧ (toPy (coming W H x y sd t)).depth ≤ 1 := by
  unfold coming
  cases h : onT W H (x + dx sd) (y + dy sd) with
  | false => exact ⟨rfl, by show wt .non ≤ 255; rw [wt]; decide, by show (toPy .non).depth ≤ 1; simp [toPy, PyData.depth]⟩
  | true =>
    rw [onT_iff] at h
    refine ⟨good_ints (is := [x + dx sd, y + dy sd, (sd + 2) % 4, t]) fun i hi => ?_, Nat.le_of_eq (wt_ints [x + dx sd, y + dy sd, (sd + 2) % 4, t]), Nat.le_of_eq (depth_tup_ints [x + dx sd, y + dy sd, (sd + 2) % 4, t])⟩
    simp only [List.mem_cons, List.not_mem_nil, or_false] at hi
    omega
theorem sm_pair {W H : Int} (hW : W ≤ 1000) (hH : H ≤ 1000) (x y sd t : Int) (t0 : 0 ≤ t) (t1 : t ≤ 1000) : Sm (.lst [nb W H x y sd, coming W H x y sd t]) := by
  obtain ⟨a1, a2, a3⟩ := nb_ok hW hH x y sd
  obtain ⟨b1, b2, b3⟩ := coming_ok hW hH x y sd t t0 t1
  refine Sm.lst (fun z hz => ?_) (by simp only [wts]; omega)
  simp only [List.mem_cons, List.not_mem_nil, or_false] at hz
  rcases hz with rfl | rfl
  · exact ⟨a1, by omega⟩
  · exact ⟨b1, by omega⟩
/-! ### the border -/
def borderL (W H P : Int) : List Ev.D := (padsD W H P).map fun z => tile (at0 z) (at1 z)
theorem padsD_mem {W H P : Int} {z : Ev.D} : z ∈ padsD W H P ↔ ∃ x y p, z = .tup [.int x, .int y, .int p] ∧ onT W H x y = true ∧ bord W H x y = true ∧ 0 ≤ p ∧ p < P := by
  simp only [padsD, padsOf, List.mem_flatMap, List.mem_filter, List.mem_map]
  constructor
  · rintro ⟨a, ⟨ha, hb⟩, q, hq, rfl⟩
    obtain ⟨x, y, rfl, h1⟩ := tilesD_mem ha
    obtain ⟨p, rfl, h2, h3⟩ := rng_mem hq
    exact ⟨x, y, p, rfl, h1, hb, h2, h3⟩
  · rintro ⟨x, y, p, rfl, h1, h2, h3, h4⟩
    exact ⟨tile x y, ⟨tilesD_mem'.mpr ⟨x, y, rfl, h1⟩, h2⟩, .int p, rng_mem_iff.mpr ⟨p, rfl, h3, h4⟩, rfl⟩
theorem inD_ints {is : List Int} {ys : List Ev.D} (h : ∀ y ∈ ys, ∃ js : List Int, y = .tup (js.map .int)) : inD (.tup (is.map .int)) ys = true ↔ .tup (is.map .int) ∈ ys := by
  simp only [inD, List.any_eq_true]
  constructor
  · rintro ⟨y, hy, he⟩
    obtain ⟨js, rfl⟩ := h y hy
    rw [eqD_ints, decide_eq_true_eq] at he
    rw [← he]; exact hy
  · intro hm
    exact ⟨_, hm, by rw [eqD_ints, decide_eq_true_eq]⟩
theorem borderL_ints {W H P : Int} : ∀ y ∈ borderL W H P, ∃ js : List Int, y = .tup (js.map .int) := fun y hy => by
  obtain ⟨z, hz, rfl⟩ := List.mem_map.mp hy
  exact ⟨[at0 z, at1 z], rfl⟩
theorem borderL_is {W H P x y : Int} (hP : 1 ≤ P) (h : onT W H x y = true) : inD (tile x y) (borderL W H P) = bord W H x y := by
  rw [Bool.eq_iff_iff, show tile x y = .tup ([x, y].map .int) from rfl, inD_ints borderL_ints]
  simp only [borderL, List.mem_map]
  constructor
  · rintro ⟨z, hz, e⟩
    obtain ⟨x', y', p, rfl, _, h2, _, _⟩ := padsD_mem.mp hz
    simp only [at0, at1, List.map_cons, List.map_nil, Ev.D.tup.injEq, List.cons.injEq, Ev.D.int.injEq, and_true] at e
    rw [← e.1, ← e.2]; exact h2
  · intro hb
    exact ⟨.tup [.int x, .int y, .int 0], padsD_mem.mpr ⟨x, y, 0, rfl, h, hb, Int.le_refl _, by omega⟩, rfl⟩
theorem plains_of_ints {ys : List Ev.D} (h : ∀ y ∈ ys, ∃ js : List Int, y = .tup (js.map .int)) : D.plains ys = true := plains_all fun y hy => by
  obtain ⟨js, rfl⟩ := h y hy
  rw [D.plain]; exact plain_ints js
/-! ### a side, a tile -/
abbrev teE (W H T P : Int) (a4 a5 a6 a7 a8 : Option Val) : Ev.Env := [some (.loc 1), some (.d (fab W H T 2 P)), some (.d (.lst (borderL W H P))), none, a4, a5, a6, a7, a8, none, none, none, none, none, none, none]
theorem te5 (n : Nat) {W H T P : Int} (o : Sm5 W H T P) (x y sd : Int) (s0 : 0 ≤ sd) (s4 : sd < 4) (a7 a8 : Option Val) {s r : Store} (h : Sc s r) :
    ∃ a7' a8' s', _law_tiles_right_L5 (runP prog (n + 3)) (teE W H T P (some (.d (.int x))) (some (.d (.int y))) (some (.d (.int sd))) a7 a8) s = .nx (teE W H T P (some (.d (.int x))) (some (.d (.int y))) (some (.d (.int sd))) a7' a8') s' ∧ Sc s' r := by
  obtain ⟨t, s', w, hk, h'⟩ := w_pick (n + 2) T.toNat (by have := o.t1; omega) h
  rw [Int.toNat_of_nonneg (by have := o.t0; omega)] at w
  have wn := w_neighbour (n + 1) W H x y sd [.int T, .int 2, .int P] s' s0 s4
  have wi := w_wire_in n W H x y sd t [.int T, .int 2, .int P] s' s0 s4
  have wb := w_beside (n + 2) W H x y sd [.int T, .int 2, .int P] s' s0 s4
  have wc := w_coming (n + 1) W H x y sd t [.int T, .int 2, .int P] s' s0 s4
  have sm := (sm_pair (W := W) (H := H) (by have := o.w1; omega) (by have := o.h1; omega) x y sd t (by omega) (by have := o.t1; omega)).repr s'
  refine ⟨some (.d (.int t)), some (.d (.lst [nb W H x y sd, coming W H x y sd t])), s', ?_, h'⟩
  clear hk
  simp only [_law_tiles_right_L5]
  walk_at "h"
theorem te6 (n : Nat) {W H T P : Int} (o : Sm5 W H T P) (x y : Int) (hon : onT W H x y = true) (a6 a7 a8 : Option Val) {s r : Store} (h : Sc s r) :
    ∃ a6' a7' a8' s', _law_tiles_right_L6 (runP prog (n + 3)) (teE W H T P (some (.d (.int x))) (some (.d (.int y))) a6 a7 a8) s = .nx (teE W H T P (some (.d (.int x))) (some (.d (.int y))) a6' a7' a8') s' ∧ Sc s' r := by
  obtain ⟨E', s', hl, ⟨b6, b7, b8, rfl⟩, h'⟩ := forV_pre0 (t := tn 6) (b := _law_tiles_right_L5 (runP prog (n + 3))) (fun _ E s' => (∃ a6 a7 a8, E = teE W H T P (some (.d (.int x))) (some (.d (.int y))) a6 a7 a8) ∧ Sc s' r) (E := teE W H T P (some (.d (.int x))) (some (.d (.int y))) a6 a7 a8) (s := s) (rng 0 4) ⟨⟨a6, a7, a8, rfl⟩, h⟩ fun pre q post e E s1 ⟨⟨a6, a7, a8, hE⟩, h1⟩ => by
    subst hE
    obtain ⟨sd, rfl, s0, s4⟩ := rng_mem (q := q) (by rw [e]; simp)
    obtain ⟨a7', a8', s2, w, h2⟩ := te5 n o x y sd s0 s4 a7 a8 h1
    exact ⟨_, s1, _, s2, rfl, w, ⟨_, _, _, rfl⟩, h2⟩
  have wb := w_is_border n W H x y [.int T, .int 2, .int P] s
  have pi := pIn_lst (a := tile x y) (ys := borderL W H P) (s := s) rfl (plains_of_ints borderL_ints) (low_tup_ints [x, y])
  rw [borderL_is o.p0 hon] at pi
  have sm := (Sm.bl (bord W H x y)).repr s
  have i := kR1_ok (s := s) (i := 4) rfl
  refine ⟨b6, b7, b8, s', ?_, h'⟩
  clear hon
  simp only [_law_tiles_right_L6]
  walk_at "h"
end K61
end
section
set_option linter.all false
set_option autoImplicit false
set_option maxRecDepth 100000
set_option maxHeartbeats 1000000
namespace K61
open PySem L2 Ev
local macro_rules | `(tactic| walk_at "s") => `(tactic| simp only [x_k, x_e1, x_e2, x_a0, x_ac, x_call, x_tup, x_lst, x_raise, kRaise_t, kRaise_p, x_for, kFor_v, kTurn_nx, kTurn_ct, kTurn_bk, kTurn_rt, kTurn_exc, kTurn_ite, x_iSeq, kSeq_t, kSeq_l, x_iEnum, enumS_t, enumS_l, x_iR1, x_iR2, pNe_int, pEq_int, pNe_str, dec_self, decide_true, decide_false, if_not', Bool.not_true, Bool.not_false, Bool.not_not, Bool.false_or, Bool.true_or, Bool.or_false, Bool.or_true, Bool.and_true, Bool.true_and, Bool.false_and, Bool.and_false, finR_bif, finR_rt, finR_nx, finR_exc, forV_nil', forV_cons', List.replicate_succ, List.replicate_zero, Nat.reduceSub, mkT0, mkT1, mkT2, mkT3, mkT4, mkT5, mkT6, mkL0, mkL1, mkL2, mkL3, mkL4, mkL5, mkL6, mkL7, mkL8, mkL9, mkL10, mkL11, x_bb, x_bv, kBb_bl, kBv_bl, kBv_int, kBv_non, x_bnot, x_band, x_bor, ite_and, ite_or, x_yes, x_eand, x_eor, x_enot, kAnd_bl, kOr_bl, kNot_bl, ite_andv, ite_orv, x_chain, kCh_bl, x_eif, x_sq, x_nil, x_setn, x_sett, x_seti, x_exp, x_ret, x_retN, x_if, next_ite, bind_ite, ofRes_ite, ixt0, ixt1, ixt2, ixt3, ixt4, ixt5, ixt6, ixt7, ixl0, ixl1, ixl2, ixl3, ixl4, ixl5, ixl6, ixl7, exF_one, x_len_tup, x_len_lst, x_isi, x_isN, x_notN, if_false', if_true', x_v, List.getElem?_cons_zero, List.getElem?_cons_succ, List.set_cons_zero, List.set_cons_succ, Res.bind_ok, Res.bind_exc, Res.bind_fail, ofRes_ok, ofRes_exc, ofRes_fail, SRes.next_nx, SRes.next_rt, SRes.next_exc, SRes.next_fail, pAdd_ok, pSub_ok, pLt_ok, pLe_ok, pGt_ok, pGe_ok, pInt_ok, pNeg_ok, pMax_ok, pMin_ok, List.map_cons, List.map_nil, List.cons_append, List.nil_append, List.append_nil])
local macro_rules | `(tactic| walk_at "h") => `(tactic| simp only [*, x_k, x_e1, x_e2, x_a0, x_ac, x_call, x_tup, x_lst, x_raise, kRaise_t, kRaise_p, x_for, kFor_v, kTurn_nx, kTurn_ct, kTurn_bk, kTurn_rt, kTurn_exc, kTurn_ite, x_iSeq, kSeq_t, kSeq_l, x_iEnum, enumS_t, enumS_l, x_iR1, x_iR2, pNe_int, pEq_int, pNe_str, dec_self, decide_true, decide_false, if_not', Bool.not_true, Bool.not_false, Bool.not_not, Bool.false_or, Bool.true_or, Bool.or_false, Bool.or_true, Bool.and_true, Bool.true_and, Bool.false_and, Bool.and_false, finR_bif, finR_rt, finR_nx, finR_exc, forV_nil', forV_cons', List.replicate_succ, List.replicate_zero, Nat.reduceSub, mkT0, mkT1, mkT2, mkT3, mkT4, mkT5, mkT6, mkL0, mkL1, mkL2, mkL3, mkL4, mkL5, mkL6, mkL7, mkL8, mkL9, mkL10, mkL11, x_bb, x_bv, kBb_bl, kBv_bl, kBv_int, kBv_non, x_bnot, x_band, x_bor, ite_and, ite_or, x_yes, x_eand, x_eor, x_enot, kAnd_bl, kOr_bl, kNot_bl, ite_andv, ite_orv, x_chain, kCh_bl, x_eif, x_sq, x_nil, x_setn, x_sett, x_seti, x_exp, x_ret, x_retN, x_if, next_ite, bind_ite, ofRes_ite, ixt0, ixt1, ixt2, ixt3, ixt4, ixt5, ixt6, ixt7, ixl0, ixl1, ixl2, ixl3, ixl4, ixl5, ixl6, ixl7, exF_one, x_len_tup, x_len_lst, x_isi, x_isN, x_notN, if_false', if_true', x_v, List.getElem?_cons_zero, List.getElem?_cons_succ, List.set_cons_zero, List.set_cons_succ, Res.bind_ok, Res.bind_exc, Res.bind_fail, ofRes_ok, ofRes_exc, ofRes_fail, SRes.next_nx, SRes.next_rt, SRes.next_exc, SRes.next_fail, pAdd_ok, pSub_ok, pLt_ok, pLe_ok, pGt_ok, pGe_ok, pInt_ok, pNeg_ok, pMax_ok, pMin_ok, List.map_cons, List.map_nil, List.cons_append, List.nil_append, List.append_nil])
/-! ### a value judged -/
structure Vl (x : Ev.D) : Prop where
  p : ∀ xs, x = .tup xs → x.plain = true ∧ low x = true
  l : ∀ xs, x = .tup xs → xs.length ≤ 1000
theorem lawW_ints {W H T : Int} : ∀ y ∈ lawW W H T, ∃ js : List Int, y = .tup (js.map .int) := fun y hy => by
  obtain ⟨a, b, c, d, rfl, _⟩ := lawW_mem.mp hy
  exact ⟨[a, b, c, d], rfl⟩
theorem plains_mem : ∀ {xs : List Ev.D}, D.plains xs = true → ∀ z ∈ xs, z.plain = true
  | [], _, z, h => by cases h
  | x :: xs, hp, z, h => by
    rw [D.plains, Bool.and_eq_true] at hp
    rcases List.mem_cons.mp h with rfl | h
    · exact hp.1
    · exact plains_mem hp.2 z h
theorem in_wires {W H T : Int} {is : List Int} : inD (.tup (is.map .int)) (lawW W H T) = wireI W H T is := by
  rw [Bool.eq_iff_iff, inD_ints lawW_ints, lawW_mem]
  constructor
  · rintro ⟨a, b, c, d, e, h⟩
    have e2 : is = [a, b, c, d] := by
      have e3 := allInt_map is
      have e4 : is.map Ev.D.int = [a, b, c, d].map .int := by simpa using e
      rw [e4, allInt_map] at e3
      exact (Option.some.inj e3).symm
    subst e2
    simp only [wireI, Bool.and_eq_true, decide_eq_true_eq]
    exact ⟨h.on, ⟨h.s0, h.s4⟩, ⟨h.t0, h.tT⟩, h.nx⟩
  · intro h
    match is, h with
    | [a, b, c, d], h =>
      simp only [wireI, Bool.and_eq_true, decide_eq_true_eq] at h
      exact ⟨a, b, c, d, rfl, h.1, h.2.1.1, h.2.1.2, h.2.2.2, h.2.2.1.1, h.2.2.1.2⟩
    | [], h | [_], h | [_, _], h | [_, _, _], h => cases h
    | _ :: _ :: _ :: _ :: _ :: _, h => cases h
def nonInts (xs : List Ev.D) : List Ev.D := xs.filter fun q => !isInt q
theorem nonInts_nil {xs : List Ev.D} : (nonInts xs).isEmpty = (allInt xs).isSome := by
  cases h : allInt xs with
  | some is =>
    have := allInt_some h
    subst this
    have e : nonInts (is.map Ev.D.int) = [] := List.filter_eq_nil_iff.mpr fun q hq => by obtain ⟨i, _, rfl⟩ := List.mem_map.mp hq; simp [isInt]
    rw [e]; rfl
  | none =>
    obtain ⟨z, h1, h2⟩ := allInt_none h
    cases e : nonInts xs with
    | cons _ _ => rfl
    | nil =>
      have := List.filter_eq_nil_iff.mp e z h1
      rw [h2] at this; exact absurd rfl this
abbrev vE (W H T P : Int) (x : Ev.D) (q2 q3 q4 q5 q6 q7 q8 q10 q11 q12 q13 q15 : Option Val) : Ev.Env := [some (.loc 1), some (.d (fab W H T 2 P)), q2, q3, q4, q5, q6, q7, q8, some (.d (.lst (lawW W H T))), q10, q11, q12, q13, some (.d x), q15]
theorem te1 (n : Nat) (W H T P : Int) (x : Ev.D) (hv : Vl x) (q2 q3 q4 q5 q6 q7 q8 q10 q11 q12 q13 q15 : Option Val) (s : Store) :
    _law_tiles_right_L1 (runP prog (n + 3)) (vE W H T P x q2 q3 q4 q5 q6 q7 q8 q10 q11 q12 q13 q15) s = .nx (vE W H T P x q2 q3 q4 q5 q6 q7 q8 q10 q11 q12 q13 q15) s := by
  have w := w_is_wire n W H T 2 P x s
  have sm := fun b => (Sm.bl b).repr s
  by_cases ht : ∃ xs, x = .tup xs
  · obtain ⟨xs, rfl⟩ := ht
    obtain ⟨hp, hl⟩ := hv.p xs rfl
    have hlen := hv.l xs rfl
    have it : isT [.tuple] (tyD (.tup xs)) = true := rfl
    have pi := pIn_lst (a := .tup xs) (ys := lawW W H T) (s := s) hp (plains_of_ints lawW_ints) hl
    have l := lc_map (E := vE W H T P (.tup xs) q2 q3 q4 q5 q6 q7 q8 q10 q11 q12 q13 q15) (s := s) (ws := [15]) (g := tn 15) (ic := Ev.iSeq (v 14)) (c := _law_tiles_right_c1 (runP prog (n + 3))) (e := v 15) (xs := xs) (fun q => !isInt q) (fun q => q) rfl (len_line (by omega)) fun q hq => by
      have w := w_is_whole (n + 2) q s
      refine ⟨vE W H T P (.tup xs) q2 q3 q4 q5 q6 q7 q8 q10 q11 q12 q13 (some (.d q)), rfl, ?_, fun _ => rfl⟩
      simp only [_law_tiles_right_c1]
      walk_at "h"
    rw [List.map_id'] at l
    have pl : D.plains (nonInts xs) = true := plains_all fun z hz => by
      exact plains_mem (by rw [D.plain] at hp; exact hp) z (List.mem_filter.mp hz).1
    have pe := pEq_lst_nil (s := s) pl
    have e : (inD (.tup xs) (lawW W H T) && (nonInts xs).isEmpty) = wireB W H T (.tup xs) := by
      rw [nonInts_nil]
      show _ = (match allInt xs with | some is => wireI W H T is | none => false)
      cases h : allInt xs with
      | none => simp
      | some is =>
        have := allInt_some h
        subst this
        rw [in_wires]; simp
    rw [← e] at w
    replace l : lc [15] (tn 15) (Ev.iSeq (v 14)) (_law_tiles_right_c1 (runP prog (n + 3))) (v 15) (vE W H T P (.tup xs) q2 q3 q4 q5 q6 q7 q8 q10 q11 q12 q13 q15) s = .ok (.d (.lst (nonInts xs))) s := l
    clear e hp hl
    simp only [_law_tiles_right_L1]
    walk_at "h"
  · have it := isT_tup x fun xs e => ht ⟨xs, e⟩
    have e : wireB W H T x = false := by cases x with
      | tup xs => exact absurd ⟨xs, rfl⟩ ht
      | _ => rfl
    rw [e] at w
    simp only [_law_tiles_right_L1]
    walk_at "h"
end K61
end
section
set_option linter.all false
set_option autoImplicit false
set_option maxRecDepth 100000
set_option maxHeartbeats 1000000
namespace K61
open PySem L2 Ev
local macro_rules | `(tactic| walk_at "s") => `(tactic| simp only [x_k, x_e1, x_e2, x_a0, x_ac, x_call, x_tup, x_lst, x_raise, kRaise_t, kRaise_p, x_for, kFor_v, kTurn_nx, kTurn_ct, kTurn_bk, kTurn_rt, kTurn_exc, kTurn_ite, x_iSeq, kSeq_t, kSeq_l, x_iEnum, enumS_t, enumS_l, x_iR1, x_iR2, pNe_int, pEq_int, pNe_str, dec_self, decide_true, decide_false, if_not', Bool.not_true, Bool.not_false, Bool.not_not, Bool.false_or, Bool.true_or, Bool.or_false, Bool.or_true, Bool.and_true, Bool.true_and, Bool.false_and, Bool.and_false, finR_bif, finR_rt, finR_nx, finR_exc, forV_nil', forV_cons', List.replicate_succ, List.replicate_zero, Nat.reduceSub, mkT0, mkT1, mkT2, mkT3, mkT4, mkT5, mkT6, mkL0, mkL1, mkL2, mkL3, mkL4, mkL5, mkL6, mkL7, mkL8, mkL9, mkL10, mkL11, x_bb, x_bv, kBb_bl, kBv_bl, kBv_int, kBv_non, x_bnot, x_band, x_bor, ite_and, ite_or, x_yes, x_eand, x_eor, x_enot, kAnd_bl, kOr_bl, kNot_bl, ite_andv, ite_orv, x_chain, kCh_bl, x_eif, x_sq, x_nil, x_setn, x_sett, x_seti, x_exp, x_ret, x_retN, x_if, next_ite, bind_ite, ofRes_ite, ixt0, ixt1, ixt2, ixt3, ixt4, ixt5, ixt6, ixt7, ixl0, ixl1, ixl2, ixl3, ixl4, ixl5, ixl6, ixl7, exF_one, x_len_tup, x_len_lst, x_isi, x_isN, x_notN, if_false', if_true', x_v, List.getElem?_cons_zero, List.getElem?_cons_succ, List.set_cons_zero, List.set_cons_succ, Res.bind_ok, Res.bind_exc, Res.bind_fail, ofRes_ok, ofRes_exc, ofRes_fail, SRes.next_nx, SRes.next_rt, SRes.next_exc, SRes.next_fail, pAdd_ok, pSub_ok, pLt_ok, pLe_ok, pGt_ok, pGe_ok, pInt_ok, pNeg_ok, pMax_ok, pMin_ok, List.map_cons, List.map_nil, List.cons_append, List.nil_append, List.append_nil])
local macro_rules | `(tactic| walk_at "h") => `(tactic| simp only [*, x_k, x_e1, x_e2, x_a0, x_ac, x_call, x_tup, x_lst, x_raise, kRaise_t, kRaise_p, x_for, kFor_v, kTurn_nx, kTurn_ct, kTurn_bk, kTurn_rt, kTurn_exc, kTurn_ite, x_iSeq, kSeq_t, kSeq_l, x_iEnum, enumS_t, enumS_l, x_iR1, x_iR2, pNe_int, pEq_int, pNe_str, dec_self, decide_true, decide_false, if_not', Bool.not_true, Bool.not_false, Bool.not_not, Bool.false_or, Bool.true_or, Bool.or_false, Bool.or_true, Bool.and_true, Bool.true_and, Bool.false_and, Bool.and_false, finR_bif, finR_rt, finR_nx, finR_exc, forV_nil', forV_cons', List.replicate_succ, List.replicate_zero, Nat.reduceSub, mkT0, mkT1, mkT2, mkT3, mkT4, mkT5, mkT6, mkL0, mkL1, mkL2, mkL3, mkL4, mkL5, mkL6, mkL7, mkL8, mkL9, mkL10, mkL11, x_bb, x_bv, kBb_bl, kBv_bl, kBv_int, kBv_non, x_bnot, x_band, x_bor, ite_and, ite_or, x_yes, x_eand, x_eor, x_enot, kAnd_bl, kOr_bl, kNot_bl, ite_andv, ite_orv, x_chain, kCh_bl, x_eif, x_sq, x_nil, x_setn, x_sett, x_seti, x_exp, x_ret, x_retN, x_if, next_ite, bind_ite, ofRes_ite, ixt0, ixt1, ixt2, ixt3, ixt4, ixt5, ixt6, ixt7, ixl0, ixl1, ixl2, ixl3, ixl4, ixl5, ixl6, ixl7, exF_one, x_len_tup, x_len_lst, x_isi, x_isN, x_notN, if_false', if_true', x_v, List.getElem?_cons_zero, List.getElem?_cons_succ, List.set_cons_zero, List.set_cons_succ, Res.bind_ok, Res.bind_exc, Res.bind_fail, ofRes_ok, ofRes_exc, ofRes_fail, SRes.next_nx, SRes.next_rt, SRes.next_exc, SRes.next_fail, pAdd_ok, pSub_ok, pLt_ok, pLe_ok, pGt_ok, pGe_ok, pInt_ok, pNeg_ok, pMax_ok, pMin_ok, List.map_cons, List.map_nil, List.cons_append, List.nil_append, List.append_nil])
theorem good_tile {W H : Int} (hW : W ≤ 1000) (hH : H ≤ 1000) {z : Ev.D} (hz : z ∈ tilesD W H) : good z = true ∧ wt z ≤ 300 ∧ (toPy z).depth ≤ 1 := by
  obtain ⟨x, y, rfl, h⟩ := tilesD_mem hz
  rw [onT_iff] at h
  refine ⟨good_ints (is := [x, y]) fun i hi => ?_, by rw [show tile x y = .tup ([x, y].map .int) from rfl, wt_ints]; simp, Nat.le_of_eq (depth_tup_ints [x, y])⟩
  simp only [List.mem_cons, List.not_mem_nil, or_false] at hi
  omega
theorem good_pad {W H P : Int} (hW : W ≤ 1000) (hH : H ≤ 1000) (hP : P ≤ 1000) {z : Ev.D} (hz : z ∈ padsD W H P) : good z = true ∧ wt z ≤ 300 ∧ (toPy z).depth ≤ 1 := by
  obtain ⟨x, y, p, rfl, h, _, p0, p1⟩ := padsD_mem.mp hz
  rw [onT_iff] at h
  refine ⟨good_ints (is := [x, y, p]) fun i hi => ?_, by rw [show Ev.D.tup [.int x, .int y, .int p] = .tup ([x, y, p].map .int) from rfl, wt_ints]; simp, Nat.le_of_eq (depth_tup_ints [x, y, p])⟩
  simp only [List.mem_cons, List.not_mem_nil, or_false] at hi
  omega
theorem good_wire {W H T : Int} (hW : W ≤ 1000) (hH : H ≤ 1000) (hT : T ≤ 1000) {z : Ev.D} (hz : z ∈ lawW W H T) : good z = true ∧ wt z ≤ 300 ∧ (toPy z).depth ≤ 1 := by
  obtain ⟨x, y, sd, t, rfl, h⟩ := lawW_mem.mp hz
  have ho := onT_iff.mp h.on
  have := h.s0; have := h.s4; have := h.t0; have := h.tT
  refine ⟨good_ints (is := [x, y, sd, t]) fun i hi => ?_, by rw [show w4 x y sd t = .tup ([x, y, sd, t].map .int) from rfl, wt_ints]; simp, Nat.le_of_eq (depth_tup_ints [x, y, sd, t])⟩
  simp only [List.mem_cons, List.not_mem_nil, or_false] at hi
  omega
theorem sm_list {xs : List Ev.D} (h : ∀ z ∈ xs, good z = true ∧ wt z ≤ 300 ∧ (toPy z).depth ≤ 1) (hl : xs.length ≤ 800) : good (.lst xs) = true ∧ wt (.lst xs) ≤ 250000 ∧ (toPy (.lst xs)).depth ≤ 2 := by
  refine ⟨by rw [good]; exact goods_all fun x hx => (h x hx).1, ?_, ?_⟩
  · rw [wt]
    have := wts_le (m := 300) fun x hx => (h x hx).2.1
    omega
  · simp only [toPy, PyData.depth]
    have := depths_le (m := 1) fun x hx => (h x hx).2.2
    omega
theorem Sm5.lens {W H T P : Int} (o : Sm5 W H T P) : (tilesD W H).length ≤ 800 ∧ (padsD W H P).length ≤ 800 ∧ (lawW W H T).length ≤ 800 := by
  have h1 := tilesD_len2 (W := W) (H := H)
  have e : ((H.toNat * W.toNat : Nat) : Int) = W * H := by
    have := o.w0; have := o.h0
    rw [Int.natCast_mul, Int.toNat_of_nonneg (by omega), Int.toNat_of_nonneg (by omega), Int.mul_comm]
  have h2 := o.wh
  have ht : (tilesD W H).length ≤ 16 := by omega
  refine ⟨by omega, ?_, ?_⟩
  · have h := flat_len (padsOf P) 3 ((tilesD W H).filter (bordD W H)) fun x _ => by unfold padsOf; rw [List.length_map, rng_len]; have := o.p1; omega
    have h3 : ((tilesD W H).filter (bordD W H)).length ≤ (tilesD W H).length := List.length_filter_le _ _
    unfold padsD; omega
  · rw [← wires_eq, sortD_len]
    have h := flat_len (trackW W H T) 12 (tilesD W H) fun z _ => by
      have := trackW_len W H T (by have := o.t0; omega) z
      have := o.t1; omega
    unfold progW; omega
theorem sm_three {W H T P : Int} (o : Sm5 W H T P) : Sm (.lst [.lst (lawW W H T), .lst (tilesD W H), .lst (padsD W H P)]) := by
  obtain ⟨l1, l2, l3⟩ := o.lens
  obtain ⟨a1, a2, a3⟩ := sm_list (fun z hz => good_wire (by have := o.w1; omega) (by have := o.h1; omega) (by have := o.t1; omega) hz) l3
  obtain ⟨b1, b2, b3⟩ := sm_list (fun z hz => good_tile (W := W) (H := H) (by have := o.w1; omega) (by have := o.h1; omega) hz) l1
  obtain ⟨c1, c2, c3⟩ := sm_list (fun z hz => good_pad (W := W) (H := H) (P := P) (by have := o.w1; omega) (by have := o.h1; omega) (by have := o.p1; omega) hz) l2
  refine Sm.lst (fun z hz => ?_) (by simp only [wts]; omega)
  simp only [List.mem_cons, List.not_mem_nil, or_false] at hz
  rcases hz with rfl | rfl | rfl
  · exact ⟨a1, by omega⟩
  · exact ⟨b1, by omega⟩
  · exact ⟨c1, by omega⟩
abbrev bE (W H T P : Int) (a4 a5 a6 a7 a8 a10 a11 : Option Val) : Ev.Env := [some (.loc 1), some (.d (fab W H T 2 P)), some (.d (.lst (borderL W H P))), none, a4, a5, a6, a7, a8, some (.d (.lst (lawW W H T))), a10, a11, none, none, none, none]
theorem te3 (C : Calls) (W H T P : Int) (a4 a5 a6 a7 a8 a10 : Option Val) (s q : Store) (i : Nat) (ds : List Ev.D) (h : q[i]? = some (.lst ds)) (hl : ds.length ≤ 1000000) :
    _law_tiles_right_L3 C (bE W H T P a4 a5 a6 a7 a8 a10 (some (.loc (s.length + i)))) (s ++ q) = .nx (bE W H T P a4 a5 a6 a7 a8 a10 (some (.loc (s.length + i)))) (s ++ q.set i (.lst (ds ++ [.non]))) := by
  have e : ∀ E, kM1 pApp (k .non) E (.loc (s.length + i)) (s ++ q) = .ok (.d .non) (s ++ q.set i (.lst (ds ++ [.non]))) := fun E => by
    rw [kM1_ok (isL_app h), x_k, Res.bind_ok, pApp_app h hl]
  simp only [_law_tiles_right_L3, x_sq, x_exp, x_m1]
  walk_at "h"
theorem te4 (n : Nat) {W H T P : Int} (o : Sm5 W H T P) (a4 a5 a6 a7 a8 a10 a11 : Option Val) {s r : Store} (h : Sc s r) (ok : okR r) :
    ∃ a8' a11' s' q, _law_tiles_right_L4 (runP prog (n + 4)) (bE W H T P a4 a5 a6 a7 a8 a10 a11) s = .nx (bE W H T P a4 a5 a6 a7 a8' a10 a11') s' ∧ Sc s' (r ++ q) ∧ okR (r ++ q) := by
  have kw := k_wires n (K := 2) o.ok o.ht s
  have kt := k_tiles (n + 3) (K := 2) o.ok (s ++ [.lst (lawW W H T)])
  have kp := k_pads n (K := 2) o.ok o.hp (s ++ [.lst (lawW W H T)] ++ [.lst (tilesD W H)])
  rw [wires_eq] at kw
  have hlen := h.len
  -- the list of the three
  have l1 : lstA (ac (call (runP prog (n + 4)) 30 (ac (v 1) (a0))) (ac (call (runP prog (n + 4)) 31 (ac (v 1) (a0))) (ac (call (runP prog (n + 4)) 32 (ac (v 1) (a0))) (a0)))) (bE W H T P a4 a5 a6 a7 a8 a10 a11) s =
      .ok (.loc (s.length + 3)) (s ++ [.lst (lawW W H T), .lst (tilesD W H), .lst (padsD W H P), .lv [.loc s.length, .loc (s.length + 1), .loc (s.length + 2)]]) := by
    have e1 : ac (call (runP prog (n + 4)) 30 (ac (v 1) (a0))) (ac (call (runP prog (n + 4)) 31 (ac (v 1) (a0))) (ac (call (runP prog (n + 4)) 32 (ac (v 1) (a0))) (a0))) (bE W H T P a4 a5 a6 a7 a8 a10 a11) s = .ok [.loc s.length, .loc (s.length + 1), .loc (s.length + 2)] (s ++ [.lst (lawW W H T)] ++ [.lst (tilesD W H)] ++ [.lst (padsD W H P)]) := by
      clear hlen
      simp only [List.length_append, List.length_singleton] at kt kp
      walk_at "h"
    rw [lstA_vals e1 rfl rfl]
    simp
  obtain ⟨m1, m2, m3⟩ := o.lens
  have g0 : (s ++ [Obj.lst (lawW W H T), .lst (tilesD W H), .lst (padsD W H P), .lv [.loc s.length, .loc (s.length + 1), .loc (s.length + 2)]])[s.length]? = some (.lst (lawW W H T)) := get_app 0
  have dv : deepV (.loc (s.length + 3)) (s ++ [.lst (lawW W H T), .lst (tilesD W H), .lst (padsD W H P), .lv [.loc s.length, .loc (s.length + 1), .loc (s.length + 2)]]) = some (.lst [.lst (lawW W H T), .lst (tilesD W H), .lst (padsD W H P)]) := by
    simp only [deepV, get_app, List.getElem?_cons_succ, List.getElem?_cons_zero, peeks, peek, get_app, g0, Option.map_some]
  have sm := sm_three o
  have rp1 : pRepr (.loc (s.length + 3)) (s ++ [.lst (lawW W H T), .lst (tilesD W H), .lst (padsD W H P), .lv [.loc s.length, .loc (s.length + 1), .loc (s.length + 2)]]) = .ok (.d (.str (shown (.lst [.lst (lawW W H T), .lst (tilesD W H), .lst (padsD W H P)])))) (s ++ [.lst (lawW W H T), .lst (tilesD W H), .lst (padsD W H P), .lv [.loc s.length, .loc (s.length + 1), .loc (s.length + 2)]]) := by
    have := sm.repr (s ++ [.lst (lawW W H T), .lst (tilesD W H), .lst (padsD W H P), .lv [.loc s.length, .loc (s.length + 1), .loc (s.length + 2)]])
    unfold pRepr at this ⊢
    rw [dv]
    exact this
  have lo : ((s ++ [Obj.lst (lawW W H T), .lst (tilesD W H), .lst (padsD W H P), .lv [.loc s.length, .loc (s.length + 1), .loc (s.length + 2)]])[s.length + 3]?).bind obItems = some [.loc s.length, .loc (s.length + 1), .loc (s.length + 2)] := by rw [get_app]; rfl
  have t3 := te3 (runP prog (n + 4)) W H T P a4 a5 a6 a7 (some (.loc (s.length + 3))) a10 s
  -- the three turns
  have f1 := t3 [.lst (lawW W H T), .lst (tilesD W H), .lst (padsD W H P), .lv [.loc s.length, .loc (s.length + 1), .loc (s.length + 2)]] 0 _ rfl (by omega)
  have f2 := t3 [.lst (lawW W H T ++ [.non]), .lst (tilesD W H), .lst (padsD W H P), .lv [.loc s.length, .loc (s.length + 1), .loc (s.length + 2)]] 1 _ rfl (by omega)
  have f3 := t3 [.lst (lawW W H T ++ [.non]), .lst (tilesD W H ++ [.non]), .lst (padsD W H P), .lv [.loc s.length, .loc (s.length + 1), .loc (s.length + 2)]] 2 _ rfl (by omega)
  have lv : ∀ a b c : Ev.Obj, ((s ++ [a, b, c, .lv [.loc s.length, .loc (s.length + 1), .loc (s.length + 2)]])[s.length + 3]?).bind obItems = some [.loc s.length, .loc (s.length + 1), .loc (s.length + 2)] := fun a b c => by rw [get_app]; rfl
  have fo : forN (tn 11) (_law_tiles_right_L3 (runP prog (n + 4))) (s.length + 3) most 0 (bE W H T P a4 a5 a6 a7 (some (.loc (s.length + 3))) a10 a11) (s ++ [.lst (lawW W H T), .lst (tilesD W H), .lst (padsD W H P), .lv [.loc s.length, .loc (s.length + 1), .loc (s.length + 2)]]) =
      .nx (bE W H T P a4 a5 a6 a7 (some (.loc (s.length + 3))) a10 (some (.loc (s.length + 2)))) (s ++ [.lst (lawW W H T ++ [.non]), .lst (tilesD W H ++ [.non]), .lst (padsD W H P ++ [.non]), .lv [.loc s.length, .loc (s.length + 1), .loc (s.length + 2)]]) := by
    rw [most_4]
    exact forN_step (lv _ _ _) rfl rfl f1 (forN_step (lv _ _ _) rfl rfl f2 (forN_step (lv _ _ _) rfl rfl f3 (forN_end (lv _ _ _) rfl)))
  refine ⟨some (.loc (s.length + 3)), some (.loc (s.length + 2)), _, [.lst (lawW W H T ++ [.non]), .lst (tilesD W H ++ [.non]), .lst (padsD W H P ++ [.non]), .lv [.loc s.length, .loc (s.length + 1), .loc (s.length + 2)]], ?_, h.app _, okR_app ok (by
    rw [hlen]; simp only [List.all_cons, List.all_nil, cloO, cloV, Bool.true_and, Bool.and_true, List.length_cons, List.length_nil, Bool.and_eq_true, decide_eq_true_eq]; omega)⟩
  have wt := w_ltiles (n + 3) (K := 2) o.ok
  have wp := w_lpads (n + 2) (K := 2) o.ok o.hp
  have ks : kSeq (.loc (s.length + 3)) (s ++ [.lst (lawW W H T), .lst (tilesD W H), .lst (padsD W H P), .lv [.loc s.length, .loc (s.length + 1), .loc (s.length + 2)]]) = .ok (.live (s.length + 3)) (s ++ [.lst (lawW W H T), .lst (tilesD W H), .lst (padsD W H P), .lv [.loc s.length, .loc (s.length + 1), .loc (s.length + 2)]]) := by
    simp only [kSeq, lo]
  have sr := fun s => sm.repr s
  have kl := @kFor_l
  simp only [_law_tiles_right_L4, x_sq, x_setn, l1, ofRes_ok, List.set_cons_zero, List.set_cons_succ, SRes.next_nx]
  clear t3 f1 f2 f3 kw kt kp dv g0 lv lo hlen m1 m2 m3
  walk_at "h"
end K61
end
section
set_option linter.all false
set_option autoImplicit false
set_option maxRecDepth 100000
set_option maxHeartbeats 1000000
namespace K61
open PySem L2 Ev
local macro_rules | `(tactic| walk_at "s") => `(tactic| simp only [x_k, x_e1, x_e2, x_a0, x_ac, x_call, x_tup, x_lst, x_raise, kRaise_t, kRaise_p, x_for, kFor_v, kTurn_nx, kTurn_ct, kTurn_bk, kTurn_rt, kTurn_exc, kTurn_ite, x_iSeq, kSeq_t, kSeq_l, x_iEnum, enumS_t, enumS_l, x_iR1, x_iR2, pNe_int, pEq_int, pNe_str, dec_self, decide_true, decide_false, if_not', Bool.not_true, Bool.not_false, Bool.not_not, Bool.false_or, Bool.true_or, Bool.or_false, Bool.or_true, Bool.and_true, Bool.true_and, Bool.false_and, Bool.and_false, finR_bif, finR_rt, finR_nx, finR_exc, forV_nil', forV_cons', List.replicate_succ, List.replicate_zero, Nat.reduceSub, mkT0, mkT1, mkT2, mkT3, mkT4, mkT5, mkT6, mkL0, mkL1, mkL2, mkL3, mkL4, mkL5, mkL6, mkL7, mkL8, mkL9, mkL10, mkL11, x_bb, x_bv, kBb_bl, kBv_bl, kBv_int, kBv_non, x_bnot, x_band, x_bor, ite_and, ite_or, x_yes, x_eand, x_eor, x_enot, kAnd_bl, kOr_bl, kNot_bl, ite_andv, ite_orv, x_chain, kCh_bl, x_eif, x_sq, x_nil, x_setn, x_m1, x_sl, x_pn, x_ps, kPs_i, pSl_l, pSl_t, pTup_t, pTup_l, pList_t, pList_l, x_sett, x_seti, x_exp, x_ret, x_retN, x_if, next_ite, bind_ite, ofRes_ite, ixt0, ixt1, ixt2, ixt3, ixt4, ixt5, ixt6, ixt7, ixl0, ixl1, ixl2, ixl3, ixl4, ixl5, ixl6, ixl7, exF_one, x_len_tup, x_len_lst, x_isi, x_isN, x_notN, if_false', if_true', x_v, List.getElem?_cons_zero, List.getElem?_cons_succ, List.set_cons_zero, List.set_cons_succ, Res.bind_ok, Res.bind_exc, Res.bind_fail, ofRes_ok, ofRes_exc, ofRes_fail, SRes.next_nx, SRes.next_rt, SRes.next_exc, SRes.next_fail, pAdd_ok, pSub_ok, pLt_ok, pLe_ok, pGt_ok, pGe_ok, pInt_ok, pNeg_ok, pMax_ok, pMin_ok, List.map_cons, List.map_nil, List.cons_append, List.nil_append, List.append_nil])
local macro_rules | `(tactic| walk_at "h") => `(tactic| simp only [*, x_k, x_e1, x_e2, x_a0, x_ac, x_call, x_tup, x_lst, x_raise, kRaise_t, kRaise_p, x_for, kFor_v, kTurn_nx, kTurn_ct, kTurn_bk, kTurn_rt, kTurn_exc, kTurn_ite, x_iSeq, kSeq_t, kSeq_l, x_iEnum, enumS_t, enumS_l, x_iR1, x_iR2, pNe_int, pEq_int, pNe_str, dec_self, decide_true, decide_false, if_not', Bool.not_true, Bool.not_false, Bool.not_not, Bool.false_or, Bool.true_or, Bool.or_false, Bool.or_true, Bool.and_true, Bool.true_and, Bool.false_and, Bool.and_false, finR_bif, finR_rt, finR_nx, finR_exc, forV_nil', forV_cons', List.replicate_succ, List.replicate_zero, Nat.reduceSub, mkT0, mkT1, mkT2, mkT3, mkT4, mkT5, mkT6, mkL0, mkL1, mkL2, mkL3, mkL4, mkL5, mkL6, mkL7, mkL8, mkL9, mkL10, mkL11, x_bb, x_bv, kBb_bl, kBv_bl, kBv_int, kBv_non, x_bnot, x_band, x_bor, ite_and, ite_or, x_yes, x_eand, x_eor, x_enot, kAnd_bl, kOr_bl, kNot_bl, ite_andv, ite_orv, x_chain, kCh_bl, x_eif, x_sq, x_nil, x_setn, x_m1, x_sl, x_pn, x_ps, kPs_i, pSl_l, pSl_t, pTup_t, pTup_l, pList_t, pList_l, x_sett, x_seti, x_exp, x_ret, x_retN, x_if, next_ite, bind_ite, ofRes_ite, ixt0, ixt1, ixt2, ixt3, ixt4, ixt5, ixt6, ixt7, ixl0, ixl1, ixl2, ixl3, ixl4, ixl5, ixl6, ixl7, exF_one, x_len_tup, x_len_lst, x_isi, x_isN, x_notN, if_false', if_true', x_v, List.getElem?_cons_zero, List.getElem?_cons_succ, List.set_cons_zero, List.set_cons_succ, Res.bind_ok, Res.bind_exc, Res.bind_fail, ofRes_ok, ofRes_exc, ofRes_fail, SRes.next_nx, SRes.next_rt, SRes.next_exc, SRes.next_fail, pAdd_ok, pSub_ok, pLt_ok, pLe_ok, pGt_ok, pGe_ok, pInt_ok, pNeg_ok, pMax_ok, pMin_ok, List.map_cons, List.map_nil, List.cons_append, List.nil_append, List.append_nil])
abbrev gE (W H T P : Int) (a4 a5 a6 a7 a8 a10 a11 a14 : Option Val) : Ev.Env := [some (.loc 1), some (.d (fab W H T 2 P)), some (.d (.lst (borderL W H P))), none, a4, a5, a6, a7, a8, some (.d (.lst (lawW W H T))), a10, a11, none, none, a14, none]
theorem te4s (n : Nat) {W H T P : Int} (o : Sm5 W H T P) (a4 a5 a6 a7 a8 a10 a11 : Option Val) {s r : Store} (h : Sc s r) (ok : okR r) :
    ∃ a8' a10' a11' s' q, sFor (tn 10) (Ev.iRng1 (k (.int 2))) (_law_tiles_right_L4 (runP prog (n + 4))) (bE W H T P a4 a5 a6 a7 a8 a10 a11) s = .nx (bE W H T P a4 a5 a6 a7 a8' a10' a11') s' ∧ Sc s' (r ++ q) ∧ okR (r ++ q) := by
  obtain ⟨E', s', hl, ⟨b8, b10, b11, rfl⟩, r', h', ok'⟩ := forV_pre0 (t := tn 10) (b := _law_tiles_right_L4 (runP prog (n + 4))) (fun _ E s' => (∃ a8 a10 a11, E = bE W H T P a4 a5 a6 a7 a8 a10 a11) ∧ ∃ q, Sc s' (r ++ q) ∧ okR (r ++ q)) (E := bE W H T P a4 a5 a6 a7 a8 a10 a11) (s := s) (rng 0 2) ⟨⟨a8, a10, a11, rfl⟩, [], by rw [List.append_nil]; exact h, by rw [List.append_nil]; exact ok⟩ fun pre q post e E s1 ⟨⟨a8, a10, a11, hE⟩, r1, h1, ok1⟩ => by
    subst hE
    obtain ⟨a8', a11', s2, q2, w, h2, ok2⟩ := te4 n o a4 a5 a6 a7 a8 (some (.d q)) a11 h1 ok1
    exact ⟨_, s1, _, s2, rfl, w, ⟨_, _, _, rfl⟩, r1 ++ q2, by rw [← List.append_assoc]; exact h2, by rw [← List.append_assoc]; exact ok2⟩
  refine ⟨b8, b10, b11, s', r', ?_, h', ok'⟩
  have i := kR1_ok (s := s) (i := 2) rfl
  rw [x_for, x_iR1, x_k, Res.bind_ok, i, ofRes_ok, kFor_v]
  exact hl
def Qi (y : Ev.D) : Prop := ∃ is : List Int, y = .tup (is.map .int) ∧ is.length ≤ 1000
theorem Qi.vl {y : Ev.D} (h : Qi y) : Vl y := by
  obtain ⟨is, rfl, hl⟩ := h
  refine ⟨fun xs _ => ⟨?_, low_tup_ints is⟩, fun xs e => ?_⟩
  · rw [D.plain]; exact plain_ints is
  · rw [← Ev.D.tup.inj e, List.length_map]; exact hl
theorem int_of_mem {is : List Int} {x : Ev.D} (h : x ∈ is.map Ev.D.int) : ∃ i, x = .int i := by
  obtain ⟨i, _, rfl⟩ := List.mem_map.mp h
  exact ⟨i, rfl⟩
theorem tgt4 (i j c d : Ev.D) (e0 e1 e2 e3 e4 e5 e6 e7 e8 e9 e10 e11 e12 e13 e14 e15 : Option Val) (s : Store) : tt [tn 4, tn 5, tn 12, tn 13] (.d (.tup [i, j, c, d])) [e0, e1, e2, e3, e4, e5, e6, e7, e8, e9, e10, e11, e12, e13, e14, e15] s = some ([e0, e1, e2, e3, some (.d i), some (.d j), e6, e7, e8, e9, e10, e11, some (.d c), some (.d d), e14, e15], s) := rfl
theorem te_s5 (n : Nat) {W H T P : Int} (o : Sm5 W H T P) (a4 a5 a6 a7 a8 a10 a11 : Option Val) {s r : Store} (h : Sc s r) :
    ∃ ys s', sSet (tn 11) (lcA [4, 5, 12, 13] (tt [tn 4, tn 5, tn 12, tn 13]) (Ev.iSeq (sl (v 9) (pn) (ps (k (.int 6))))) (yes) (_law_tiles_right_x1 (runP prog (n + 2)))) (bE W H T P a4 a5 a6 a7 a8 a10 a11) s = .nx (bE W H T P a4 a5 a6 a7 a8 a10 (some (.loc s'.length))) (s' ++ [.lst ys]) ∧ Sc s' r ∧ (∀ y ∈ ys, Qi y) ∧ ys.length ≤ 800 := by
  obtain ⟨ys, s', w, hq, h', hlen⟩ := lcA_inv (E := bE W H T P a4 a5 a6 a7 a8 a10 a11) (ws := [4, 5, 12, 13]) (g := tt [tn 4, tn 5, tn 12, tn 13]) (ic := Ev.iSeq (sl (v 9) (pn) (ps (k (.int 6))))) (c := yes) (e := _law_tiles_right_x1 (runP prog (n + 2))) (xs := cut (lawW W H T) none (some 6)) (s := s) (s0 := s) (fun s => Sc s r) Qi rfl (len_line (by have := cut_le (lawW W H T) none (some 6); have := o.lens.2.2; omega)) h fun q hq s h => by
    obtain ⟨x, y, sd, t, rfl, _⟩ := lawW_mem.mp (cut_mem hq)
    obtain ⟨d, s1, w, hd, h1⟩ := w_of n (xs := [-1, 0, T - 1, T].map Ev.D.int) (by simp) (by simp) h
    obtain ⟨i, rfl⟩ := int_of_mem hd
    clear hd
    replace w : runP prog (n + 2) 15 [.loc 1, .d (.lst [.int (-1), .int 0, .int (T - 1), .int T])] s = .ok (.d (.int i)) s1 := w
    refine ⟨[some (.loc 1), some (.d (fab W H T 2 P)), some (.d (.lst (borderL W H P))), none, some (.d (.int x)), some (.d (.int y)), a6, a7, a8, some (.d (.lst (lawW W H T))), a10, a11, some (.d (.int sd)), some (.d (.int t)), none, none], .tup [.int (x - 1), .int (y - 1), .int (sd - 1), .int i], s1, tgt4 _ _ _ _ _ _ _ _ _ _ _ _ _ _ _ _ _ _ _ _ _, rfl, ?_, ⟨[x - 1, y - 1, sd - 1, i], rfl, by simp⟩, h1⟩
    simp only [_law_tiles_right_x1]
    walk_at "h"
  refine ⟨ys, s', ?_, h', hq, ?_⟩
  · rw [x_setn, w, ofRes_ok]; rfl
  · have := cut_le (lawW W H T) none (some 6); have := o.lens.2.2; omega
theorem tilesD_ne {W H T P : Int} (o : Sm5 W H T P) : tilesD W H ≠ [] := fun e => by
  have : tile 0 0 ∈ tilesD W H := tilesD_mem'.mpr ⟨0, 0, rfl, onT_iff.mpr ⟨⟨Int.le_refl _, by have := o.w0; omega⟩, Int.le_refl _, by have := o.h0; omega⟩⟩
  rw [e] at this; cases this
theorem tgt45 (i j : Ev.D) (e0 e1 e2 e3 e4 e5 e6 e7 e8 e9 e10 e11 e12 e13 e14 e15 : Option Val) (s : Store) : tt [tn 4, tn 5] (.d (.tup [i, j])) [e0, e1, e2, e3, e4, e5, e6, e7, e8, e9, e10, e11, e12, e13, e14, e15] s = some ([e0, e1, e2, e3, some (.d i), some (.d j), e6, e7, e8, e9, e10, e11, e12, e13, e14, e15], s) := rfl
theorem te2 (n : Nat) {W H T P : Int} (o : Sm5 W H T P) (a4 a5 a6 a7 a8 a10 : Option Val) {s r : Store} {xs : List Ev.D} (h : Sc s (r ++ [.lst xs])) (hl : xs.length ≤ 1000000) :
    ∃ a4' a5' z s', _law_tiles_right_L2 (runP prog (n + 2)) (bE W H T P a4 a5 a6 a7 a8 a10 (some (.loc (r.length + 2)))) s = .nx (bE W H T P a4' a5' a6 a7 a8 a10 (some (.loc (r.length + 2)))) s' ∧ Sc s' (r ++ [.lst (xs ++ [z])]) ∧ Qi z := by
  have wt := w_ltiles (n + 1) (K := 2) o.ok s
  obtain ⟨d, s1, w1, hd, h1⟩ := w_of n (tilesD_ne o) (by have := o.lens.1; omega) h
  obtain ⟨x, y, rfl, _⟩ := tilesD_mem hd
  obtain ⟨kk, s2, w2, _, h2⟩ := w_pick (n + 1) 6 (by decide) h1
  obtain ⟨d, s3, w3, hd, h3⟩ := w_of n (xs := [-1, 0, 0, T - 1, T].map Ev.D.int) (by simp) (by simp) h2
  obtain ⟨i, rfl⟩ := int_of_mem hd
  replace w3 : runP prog (n + 2) 15 [.loc 1, .d (.lst [.int (-1), .int 0, .int 0, .int (T - 1), .int T])] s2 = .ok (.d (.int i)) s3 := w3
  replace w2 : runP prog (n + 2) 14 [.loc 1, .d (.int 6)] s1 = .ok (.d (.int kk)) s2 := w2
  obtain ⟨t1, rfl, q1⟩ := h1.split
  obtain ⟨t3, rfl, q3⟩ := h3.split
  have il : isL (.loc (r.length + 2)) (t1 ++ [.lst xs]) = true := by rw [← q1.len]; exact isL_app (i := 0) rfl
  have ap : pApp (.loc (r.length + 2)) (.d (.tup [.int x, .int y, .int (kk - 1), .int i])) (t3 ++ [.lst xs]) = .ok (.d .non) (t3 ++ [.lst (xs ++ [.tup [.int x, .int y, .int (kk - 1), .int i]])]) := by
    rw [← q3.len]; exact pApp_app (i := 0) rfl hl
  refine ⟨some (.d (.int x)), some (.d (.int y)), .tup [.int x, .int y, .int (kk - 1), .int i], t3 ++ [.lst (xs ++ [.tup [.int x, .int y, .int (kk - 1), .int i]])], ?_, q3.app _, ⟨[x, y, kk - 1, i], rfl, by simp⟩⟩
  have tg := tgt45
  have km := fun b E => kM1_ok (p := pApp) (b := b) (E := E) il
  clear hd h h1 h2 h3 q1 q3 hl
  simp only [_law_tiles_right_L2]
  walk_at "h"
end K61
end
section
set_option linter.all false
set_option autoImplicit false
set_option maxRecDepth 100000
set_option maxHeartbeats 1000000
namespace K61
open PySem L2 Ev
local macro_rules | `(tactic| walk_at "s") => `(tactic| simp only [x_k, x_e1, x_e2, x_a0, x_ac, x_call, x_tup, x_lst, x_raise, kRaise_t, kRaise_p, x_for, kFor_v, kTurn_nx, kTurn_ct, kTurn_bk, kTurn_rt, kTurn_exc, kTurn_ite, x_iSeq, kSeq_t, kSeq_l, x_iEnum, enumS_t, enumS_l, x_iR1, x_iR2, pNe_int, pEq_int, pNe_str, dec_self, decide_true, decide_false, if_not', Bool.not_true, Bool.not_false, Bool.not_not, Bool.false_or, Bool.true_or, Bool.or_false, Bool.or_true, Bool.and_true, Bool.true_and, Bool.false_and, Bool.and_false, finR_bif, finR_rt, finR_nx, finR_exc, forV_nil', forV_cons', List.replicate_succ, List.replicate_zero, Nat.reduceSub, mkT0, mkT1, mkT2, mkT3, mkT4, mkT5, mkT6, mkL0, mkL1, mkL2, mkL3, mkL4, mkL5, mkL6, mkL7, mkL8, mkL9, mkL10, mkL11, x_bb, x_bv, kBb_bl, kBv_bl, kBv_int, kBv_non, x_bnot, x_band, x_bor, ite_and, ite_or, x_yes, x_eand, x_eor, x_enot, kAnd_bl, kOr_bl, kNot_bl, ite_andv, ite_orv, x_chain, kCh_bl, x_eif, x_sq, x_nil, x_setn, x_m1, x_sl, x_pn, x_ps, kPs_i, pSl_l, pSl_t, pTup_t, pTup_l, pList_t, pList_l, x_sett, x_seti, x_exp, x_ret, x_retN, x_if, next_ite, bind_ite, ofRes_ite, ixt0, ixt1, ixt2, ixt3, ixt4, ixt5, ixt6, ixt7, ixl0, ixl1, ixl2, ixl3, ixl4, ixl5, ixl6, ixl7, exF_one, x_len_tup, x_len_lst, x_isi, x_isN, x_notN, if_false', if_true', x_v, List.getElem?_cons_zero, List.getElem?_cons_succ, List.set_cons_zero, List.set_cons_succ, Res.bind_ok, Res.bind_exc, Res.bind_fail, ofRes_ok, ofRes_exc, ofRes_fail, SRes.next_nx, SRes.next_rt, SRes.next_exc, SRes.next_fail, pAdd_ok, pSub_ok, pLt_ok, pLe_ok, pGt_ok, pGe_ok, pInt_ok, pNeg_ok, pMax_ok, pMin_ok, List.map_cons, List.map_nil, List.cons_append, List.nil_append, List.append_nil])
local macro_rules | `(tactic| walk_at "h") => `(tactic| simp only [*, x_k, x_e1, x_e2, x_a0, x_ac, x_call, x_tup, x_lst, x_raise, kRaise_t, kRaise_p, x_for, kFor_v, kTurn_nx, kTurn_ct, kTurn_bk, kTurn_rt, kTurn_exc, kTurn_ite, x_iSeq, kSeq_t, kSeq_l, x_iEnum, enumS_t, enumS_l, x_iR1, x_iR2, pNe_int, pEq_int, pNe_str, dec_self, decide_true, decide_false, if_not', Bool.not_true, Bool.not_false, Bool.not_not, Bool.false_or, Bool.true_or, Bool.or_false, Bool.or_true, Bool.and_true, Bool.true_and, Bool.false_and, Bool.and_false, finR_bif, finR_rt, finR_nx, finR_exc, forV_nil', forV_cons', List.replicate_succ, List.replicate_zero, Nat.reduceSub, mkT0, mkT1, mkT2, mkT3, mkT4, mkT5, mkT6, mkL0, mkL1, mkL2, mkL3, mkL4, mkL5, mkL6, mkL7, mkL8, mkL9, mkL10, mkL11, x_bb, x_bv, kBb_bl, kBv_bl, kBv_int, kBv_non, x_bnot, x_band, x_bor, ite_and, ite_or, x_yes, x_eand, x_eor, x_enot, kAnd_bl, kOr_bl, kNot_bl, ite_andv, ite_orv, x_chain, kCh_bl, x_eif, x_sq, x_nil, x_setn, x_m1, x_sl, x_pn, x_ps, kPs_i, pSl_l, pSl_t, pTup_t, pTup_l, pList_t, pList_l, x_sett, x_seti, x_exp, x_ret, x_retN, x_if, next_ite, bind_ite, ofRes_ite, ixt0, ixt1, ixt2, ixt3, ixt4, ixt5, ixt6, ixt7, ixl0, ixl1, ixl2, ixl3, ixl4, ixl5, ixl6, ixl7, exF_one, x_len_tup, x_len_lst, x_isi, x_isN, x_notN, if_false', if_true', x_v, List.getElem?_cons_zero, List.getElem?_cons_succ, List.set_cons_zero, List.set_cons_succ, Res.bind_ok, Res.bind_exc, Res.bind_fail, ofRes_ok, ofRes_exc, ofRes_fail, SRes.next_nx, SRes.next_rt, SRes.next_exc, SRes.next_fail, pAdd_ok, pSub_ok, pLt_ok, pLe_ok, pGt_ok, pGe_ok, pInt_ok, pNeg_ok, pMax_ok, pMin_ok, List.map_cons, List.map_nil, List.cons_append, List.nil_append, List.append_nil])
noncomputable def valsX (C : Calls) : EC := e2 pAdd (e2 pAdd (e2 pAdd (sl (v 9) (pn) (ps (k (.int 8)))) (sl (v 9) (ps (e1 pNeg (k (.int 4)))) (pn))) (v 11)) (lst (ac (call C 17 (ac (v 0) (a0))) (ac (eif (bb (e2 pNe (v 9) (lst (a0)))) (e1 pList (e2 pIx (v 9) (k (.int 0)))) (lst (a0))) (ac (tup (ac (k (.int 0)) (ac (k (.int 0)) (ac (k (.bl true)) (ac (k (.int 0)) (a0)))))) (ac (tup (ac (k (.int 0)) (ac (k (.int 0)) (ac (k (.int 0)) (a0))))) (ac (tup (ac (k (.int 0)) (ac (k (.int 0)) (ac (k (.str "0")) (ac (k (.int 0)) (a0)))))) (ac (e2 pAdd (e1 pTuple (eif (bb (e2 pNe (v 9) (lst (a0)))) (e2 pIx (v 9) (k (.int 0))) (tup (a0)))) (tup (ac (k (.int 0)) (a0)))) (a0))))))))
theorem gE_b (W H T P : Int) (a4 a5 a6 a7 a8 a10 a11 : Option Val) : bE W H T P a4 a5 a6 a7 a8 a10 a11 = gE W H T P a4 a5 a6 a7 a8 a10 a11 none := rfl
def vlB (x : Ev.D) : Bool := match x with | .tup xs => (x.plain && low x) && decide (xs.length ≤ 1000) | _ => true
theorem vlB_ok {x : Ev.D} (h : vlB x = true) : Vl x := by
  refine ⟨fun xs e => ?_, fun xs e => ?_⟩
  · subst e
    simp only [vlB, Bool.and_eq_true] at h
    exact h.1
  · subst e
    simp only [vlB, Bool.and_eq_true, decide_eq_true_eq] at h
    exact h.2
theorem odd_vl : ∀ x ∈ oddA ++ oddB, Vl x := by
  have h : (oddA ++ oddB).all vlB = true := by decide +kernel
  exact fun x hx => vlB_ok (List.all_eq_true.mp h x hx)
theorem lawW_qi {W H T : Int} {y : Ev.D} (h : y ∈ lawW W H T) : Qi y := by
  obtain ⟨a, b, c, d, rfl, _⟩ := lawW_mem.mp h
  exact ⟨[a, b, c, d], rfl, by simp⟩
theorem lawW_plains {W H T : Int} : D.plains (lawW W H T) = true := plains_of_ints lawW_ints
theorem vals_ok (n : Nat) {W H T P : Int} (o : Sm5 W H T P) (a4 a5 a6 a7 a8 a10 : Option Val) {s r : Store} {xs : List Ev.D} (h : Sc s (r ++ [.lst xs])) (ok : okR (r ++ [.lst xs])) (hl : xs.length ≤ 1000) (hq : ∀ x ∈ xs, Qi x) :
    ∃ vs s', valsX (runP prog (n + 3)) (bE W H T P a4 a5 a6 a7 a8 a10 (some (.loc (r.length + 2)))) s = .ok (.d (.lst vs)) s' ∧ Sc s' (r ++ [.lst xs]) ∧ (∀ x ∈ vs, Vl x) := by
  obtain ⟨d, s', w, hd, h'⟩ := w_odd n h ok
  have hlw := o.lens.2.2
  have c1 := cut_le (lawW W H T) none (some 8)
  have c2 := cut_le (lawW W H T) (some (-4)) none
  have ad1 := pAdd_lst (s := s) (a := cut (lawW W H T) none (some 8)) (b := cut (lawW W H T) (some (-4)) none) (len_line (by omega))
  have hx : s[r.length + 2]? = some (.lst xs) := by
    obtain ⟨s0, rfl, h0⟩ := h.split
    rw [← h0.len]; exact get_app 0
  have ad2 := pAdd_ll (s := s) (a := cut (lawW W H T) none (some 8) ++ cut (lawW W H T) (some (-4)) none) hx (by rw [List.length_append]; omega)
  have vA : ∀ z ∈ (cut (lawW W H T) none (some 8) ++ cut (lawW W H T) (some (-4)) none) ++ xs, Vl z := fun z hz => by
    rcases List.mem_append.mp hz with hz | hz
    · rcases List.mem_append.mp hz with hz | hz
      · exact (lawW_qi (cut_mem hz)).vl
      · exact (lawW_qi (cut_mem hz)).vl
    · exact (hq z hz).vl
  have pn0 := pNe_lst_nil (s := s') (lawW_plains (W := W) (H := H) (T := T))
  have two : ∃ u1 u2, Vl u1 ∧ Vl u2 ∧ valsX (runP prog (n + 3)) (bE W H T P a4 a5 a6 a7 a8 a10 (some (.loc (r.length + 2)))) s = (pAdd (.d (.lst ((cut (lawW W H T) none (some 8) ++ cut (lawW W H T) (some (-4)) none) ++ xs))) (.d (.lst [d, u1, .tup [.int 0, .int 0, .bl true, .int 0], .tup [.int 0, .int 0, .int 0], .tup [.int 0, .int 0, .str "0", .int 0], u2])) s') := by
    cases hL : lawW W H T with
    | nil =>
      rw [hL] at ad1 ad2 pn0
      have pt := pAdd_tup (s := s') (a := []) (b := [.int 0]) (le_lineN rfl)
      refine ⟨.lst [], .tup [.int 0], vlB_ok rfl, vlB_ok (by decide +kernel), ?_⟩
      replace pn0 : pNe (.d (.lst [])) (.d (.lst [])) s' = .ok (.d (.bl false)) s' := pn0
      clear h ok hl hq h' hd hlw c1 c2 vA
      simp only [valsX]
      rw [show bE W H T P a4 a5 a6 a7 a8 a10 (some (.loc (r.length + 2))) = [some (.loc 1), some (.d (fab W H T 2 P)), some (.d (.lst (borderL W H P))), none, a4, a5, a6, a7, a8, some (.d (.lst [])), a10, some (.loc (r.length + 2)), none, none, none, none] from by rw [← hL]]
      walk_at "h"
    | cons z zs =>
      obtain ⟨a, b, c, e, rfl, _⟩ := lawW_mem.mp (show z ∈ lawW W H T by rw [hL]; exact List.mem_cons_self)
      rw [hL] at ad1 ad2 pn0
      have pt := pAdd_tup (s := s') (a := [.int a, .int b, .int c, .int e]) (b := [.int 0]) (le_lineN rfl)
      refine ⟨.lst [.int a, .int b, .int c, .int e], .tup [.int a, .int b, .int c, .int e, .int 0], vlB_ok rfl, Qi.vl ⟨[a, b, c, e, 0], rfl, by simp⟩, ?_⟩
      replace pn0 : pNe (.d (.lst (w4 a b c e :: zs))) (.d (.lst [])) s' = .ok (.d (.bl true)) s' := pn0
      replace pt : pAdd (.d (.tup [.int a, .int b, .int c, .int e])) (.d (.tup [.int 0])) s' = .ok (.d (.tup [.int a, .int b, .int c, .int e, .int 0])) s' := pt
      clear h ok hl hq h' hd hlw c1 c2 vA
      simp only [valsX]
      rw [show bE W H T P a4 a5 a6 a7 a8 a10 (some (.loc (r.length + 2))) = [some (.loc 1), some (.d (fab W H T 2 P)), some (.d (.lst (borderL W H P))), none, a4, a5, a6, a7, a8, some (.d (.lst (w4 a b c e :: zs))), a10, some (.loc (r.length + 2)), none, none, none, none] from by rw [← hL]]
      walk_at "h"
  obtain ⟨u1, u2, v1, v2, e⟩ := two
  refine ⟨_, s', e.trans (pAdd_lst (len_line (by simp only [List.length_append, List.length_cons, List.length_nil]; omega))), h', fun z hz => ?_⟩
  rcases List.mem_append.mp hz with hz | hz
  · exact vA z hz
  · simp only [List.mem_cons, List.not_mem_nil, or_false] at hz
    rcases hz with rfl | rfl | rfl | rfl | rfl | rfl
    · exact odd_vl _ hd
    · exact v1
    · exact vlB_ok (by decide +kernel)
    · exact vlB_ok (by decide +kernel)
    · exact vlB_ok (by decide +kernel)
    · exact v2
end K61
end
section
set_option linter.all false
set_option autoImplicit false
set_option maxRecDepth 100000
set_option maxHeartbeats 1000000
namespace K61
open PySem L2 Ev
local macro_rules | `(tactic| walk_at "s") => `(tactic| simp only [x_k, x_e1, x_e2, x_a0, x_ac, x_call, x_tup, x_lst, x_raise, kRaise_t, kRaise_p, x_for, kFor_v, kTurn_nx, kTurn_ct, kTurn_bk, kTurn_rt, kTurn_exc, kTurn_ite, x_iSeq, kSeq_t, kSeq_l, x_iEnum, enumS_t, enumS_l, x_iR1, x_iR2, pNe_int, pEq_int, pNe_str, dec_self, decide_true, decide_false, if_not', Bool.not_true, Bool.not_false, Bool.not_not, Bool.false_or, Bool.true_or, Bool.or_false, Bool.or_true, Bool.and_true, Bool.true_and, Bool.false_and, Bool.and_false, finR_bif, finR_rt, finR_nx, finR_exc, forV_nil', forV_cons', List.replicate_succ, List.replicate_zero, Nat.reduceSub, mkT0, mkT1, mkT2, mkT3, mkT4, mkT5, mkT6, mkL0, mkL1, mkL2, mkL3, mkL4, mkL5, mkL6, mkL7, mkL8, mkL9, mkL10, mkL11, x_bb, x_bv, kBb_bl, kBv_bl, kBv_int, kBv_non, x_bnot, x_band, x_bor, ite_and, ite_or, x_yes, x_eand, x_eor, x_enot, kAnd_bl, kOr_bl, kNot_bl, ite_andv, ite_orv, x_chain, kCh_bl, x_eif, x_sq, x_nil, x_setn, x_m1, x_sl, x_pn, x_ps, kPs_i, pSl_l, pSl_t, pTup_t, pTup_l, pList_t, pList_l, x_sett, x_seti, x_exp, x_ret, x_retN, x_if, next_ite, bind_ite, ofRes_ite, ixt0, ixt1, ixt2, ixt3, ixt4, ixt5, ixt6, ixt7, ixl0, ixl1, ixl2, ixl3, ixl4, ixl5, ixl6, ixl7, exF_one, x_len_tup, x_len_lst, x_isi, x_isN, x_notN, if_false', if_true', x_v, List.getElem?_cons_zero, List.getElem?_cons_succ, List.set_cons_zero, List.set_cons_succ, Res.bind_ok, Res.bind_exc, Res.bind_fail, ofRes_ok, ofRes_exc, ofRes_fail, SRes.next_nx, SRes.next_rt, SRes.next_exc, SRes.next_fail, pAdd_ok, pSub_ok, pLt_ok, pLe_ok, pGt_ok, pGe_ok, pInt_ok, pNeg_ok, pMax_ok, pMin_ok, List.map_cons, List.map_nil, List.cons_append, List.nil_append, List.append_nil])
local macro_rules | `(tactic| walk_at "h") => `(tactic| simp only [*, x_k, x_e1, x_e2, x_a0, x_ac, x_call, x_tup, x_lst, x_raise, kRaise_t, kRaise_p, x_for, kFor_v, kTurn_nx, kTurn_ct, kTurn_bk, kTurn_rt, kTurn_exc, kTurn_ite, x_iSeq, kSeq_t, kSeq_l, x_iEnum, enumS_t, enumS_l, x_iR1, x_iR2, pNe_int, pEq_int, pNe_str, dec_self, decide_true, decide_false, if_not', Bool.not_true, Bool.not_false, Bool.not_not, Bool.false_or, Bool.true_or, Bool.or_false, Bool.or_true, Bool.and_true, Bool.true_and, Bool.false_and, Bool.and_false, finR_bif, finR_rt, finR_nx, finR_exc, forV_nil', forV_cons', List.replicate_succ, List.replicate_zero, Nat.reduceSub, mkT0, mkT1, mkT2, mkT3, mkT4, mkT5, mkT6, mkL0, mkL1, mkL2, mkL3, mkL4, mkL5, mkL6, mkL7, mkL8, mkL9, mkL10, mkL11, x_bb, x_bv, kBb_bl, kBv_bl, kBv_int, kBv_non, x_bnot, x_band, x_bor, ite_and, ite_or, x_yes, x_eand, x_eor, x_enot, kAnd_bl, kOr_bl, kNot_bl, ite_andv, ite_orv, x_chain, kCh_bl, x_eif, x_sq, x_nil, x_setn, x_m1, x_sl, x_pn, x_ps, kPs_i, pSl_l, pSl_t, pTup_t, pTup_l, pList_t, pList_l, x_sett, x_seti, x_exp, x_ret, x_retN, x_if, next_ite, bind_ite, ofRes_ite, ixt0, ixt1, ixt2, ixt3, ixt4, ixt5, ixt6, ixt7, ixl0, ixl1, ixl2, ixl3, ixl4, ixl5, ixl6, ixl7, exF_one, x_len_tup, x_len_lst, x_isi, x_isN, x_notN, if_false', if_true', x_v, List.getElem?_cons_zero, List.getElem?_cons_succ, List.set_cons_zero, List.set_cons_succ, Res.bind_ok, Res.bind_exc, Res.bind_fail, ofRes_ok, ofRes_exc, ofRes_fail, SRes.next_nx, SRes.next_rt, SRes.next_exc, SRes.next_fail, pAdd_ok, pSub_ok, pLt_ok, pLe_ok, pGt_ok, pGe_ok, pInt_ok, pNeg_ok, pMax_ok, pMin_ok, List.map_cons, List.map_nil, List.cons_append, List.nil_append, List.append_nil])
theorem te7 (n : Nat) (W H T P : Int) (a4 a5 a6 a7 a8 a10 a11 : Option Val) (s : Store) (vs : List Ev.D) (hv : ∀ x ∈ vs, Vl x) :
    ∃ a14, forV (tn 14) (_law_tiles_right_L1 (runP prog (n + 3))) (vs.map .d) (gE W H T P a4 a5 a6 a7 a8 a10 a11 none) s = .nx (gE W H T P a4 a5 a6 a7 a8 a10 a11 a14) s := by
  obtain ⟨E', s', hl, ⟨b, rfl⟩, rfl⟩ := forV_pre0 (t := tn 14) (b := _law_tiles_right_L1 (runP prog (n + 3))) (fun _ E s' => (∃ a14, E = gE W H T P a4 a5 a6 a7 a8 a10 a11 a14) ∧ s = s') (E := gE W H T P a4 a5 a6 a7 a8 a10 a11 none) (s := s) vs ⟨⟨none, rfl⟩, rfl⟩ fun pre x post e E s1 ⟨⟨a14, hE⟩, hs⟩ => by
    subst hE hs
    exact ⟨_, s, _, s, rfl, te1 n W H T P x (hv x (by rw [e]; simp)) _ _ _ _ _ _ _ _ _ _ _ _ s, ⟨_, rfl⟩, rfl⟩
  exact ⟨b, hl⟩
theorem te6s (n : Nat) {W H T P : Int} (o : Sm5 W H T P) {s r : Store} (h : Sc s r) :
    ∃ a4 a5 a6 a7 a8 s', forV (tt [tn 4, tn 5]) (_law_tiles_right_L6 (runP prog (n + 3))) ((tilesD W H).map .d) (teE W H T P none none none none none) s = .nx (teE W H T P a4 a5 a6 a7 a8) s' ∧ Sc s' r := by
  obtain ⟨E', s', hl, ⟨b4, b5, b6, b7, b8, rfl⟩, h'⟩ := forV_pre0 (t := tt [tn 4, tn 5]) (b := _law_tiles_right_L6 (runP prog (n + 3))) (fun _ E s' => (∃ a4 a5 a6 a7 a8, E = teE W H T P a4 a5 a6 a7 a8) ∧ Sc s' r) (E := teE W H T P none none none none none) (s := s) (tilesD W H) ⟨⟨none, none, none, none, none, rfl⟩, h⟩ fun pre z post e E s1 ⟨⟨a4, a5, a6, a7, a8, hE⟩, h1⟩ => by
    subst hE
    obtain ⟨x, y, rfl, hon⟩ := tilesD_mem (z := z) (by rw [e]; simp)
    obtain ⟨a6', a7', a8', s2, w, h2⟩ := te6 n o x y hon a6 a7 a8 h1
    exact ⟨_, s1, _, s2, tgt45 _ _ _ _ _ _ _ _ _ _ _ _ _ _ _ _ _ _ _, w, ⟨_, _, _, _, _, rfl⟩, h2⟩
  exact ⟨b4, b5, b6, b7, b8, s', hl, h'⟩
theorem te2s (n : Nat) {W H T P : Int} (o : Sm5 W H T P) (a4 a5 a6 a7 a8 a10 : Option Val) {s r : Store} {xs : List Ev.D} (h : Sc s (r ++ [.lst xs])) (hl : xs.length ≤ 800) (hq : ∀ x ∈ xs, Qi x) :
    ∃ a4' a5' a10' ys s', forV (tn 10) (_law_tiles_right_L2 (runP prog (n + 2))) ((rng 0 9).map .d) (bE W H T P a4 a5 a6 a7 a8 a10 (some (.loc (r.length + 2)))) s = .nx (bE W H T P a4' a5' a6 a7 a8 a10' (some (.loc (r.length + 2)))) s' ∧ Sc s' (r ++ [.lst ys]) ∧ ys.length ≤ 1000 ∧ ∀ x ∈ ys, Qi x := by
  obtain ⟨E', s', hw, ⟨b4, b5, b10, rfl⟩, ys, h', hl', hq'⟩ := forV_pre0 (t := tn 10) (b := _law_tiles_right_L2 (runP prog (n + 2))) (fun pre E s' => (∃ a4 a5 a10, E = bE W H T P a4 a5 a6 a7 a8 a10 (some (.loc (r.length + 2)))) ∧ ∃ ys, Sc s' (r ++ [.lst ys]) ∧ ys.length ≤ 800 + pre.length ∧ ∀ x ∈ ys, Qi x) (E := bE W H T P a4 a5 a6 a7 a8 a10 (some (.loc (r.length + 2)))) (s := s) (rng 0 9) ⟨⟨a4, a5, a10, rfl⟩, xs, h, by simpa using hl, hq⟩ fun pre q post e E s1 ⟨⟨a4, a5, a10, hE⟩, ys, h1, hl1, hq1⟩ => by
    subst hE
    have hlen : pre.length ≤ 9 := by
      have := congrArg List.length e
      rw [rng_len, List.length_append] at this
      have e9 : (9 - 0 : Int).toNat = 9 := rfl
      omega
    obtain ⟨a4', a5', z, s2, w, h2, hz⟩ := te2 n o a4 a5 a6 a7 a8 (some (.d q)) h1 (by omega)
    refine ⟨_, s1, _, s2, rfl, w, ⟨_, _, _, rfl⟩, _, h2, by rw [List.length_append, List.length_append, List.length_singleton, List.length_singleton]; omega, fun x hx => ?_⟩
    rcases List.mem_append.mp hx with hx | hx
    · exact hq1 x hx
    · rw [List.mem_singleton.mp hx]; exact hz
  refine ⟨b4, b5, b10, ys, s', hw, h', ?_, hq'⟩
  rw [rng_len] at hl'
  have e9 : (9 - 0 : Int).toNat = 9 := rfl
  omega
theorem te_s1 (n : Nat) {W H T P : Int} (o : Sm5 W H T P) (s : Store) : sSet (tn 2) (lc [3] (tn 3) (Ev.iSeq (call (runP prog (n + 2)) 21 (ac (v 1) (a0)))) (yes) (_law_tiles_right_x2 (runP prog (n + 2)))) [some (.loc 1), some (.d (fab W H T 2 P)), none, none, none, none, none, none, none, none, none, none, none, none, none, none] s = .nx (teE W H T P none none none none none) s := by
  have w := w_lpads n (K := 2) o.ok o.hp s
  have i : Ev.iSeq (call (runP prog (n + 2)) 21 (ac (v 1) (a0))) [some (.loc 1), some (.d (fab W H T 2 P)), none, none, none, none, none, none, none, none, none, none, none, none, none, none] s = .ok (.vals ((padsD W H P).map .d)) s := by walk_at "h"
  have l := lc_all (E := [some (.loc 1), some (.d (fab W H T 2 P)), none, none, none, none, none, none, none, none, none, none, none, none, none, none]) (s := s) (ws := [3]) (g := tn 3) (c := yes) (e := _law_tiles_right_x2 (runP prog (n + 2))) (xs := padsD W H P) (fun z => tile (at0 z) (at1 z)) i (len_line (by have := o.lens.2.1; omega)) fun q hq => by
    obtain ⟨x, y, p, rfl, _⟩ := padsD_mem.mp hq
    exact ⟨[some (.loc 1), some (.d (fab W H T 2 P)), none, some (.d (.tup [.int x, .int y, .int p])), none, none, none, none, none, none, none, none, none, none, none, none], rfl, rfl, rfl⟩
  rw [x_setn, l, ofRes_ok]
  rfl
theorem w_tiles_right (n : Nat) {W H T P : Int} (o : Sm5 W H T P) {s r : Store} (h : Sc s r) (ok : okR r) : ∃ s', runP prog (n + 5) 26 [.loc 1, .d (fab W H T 2 P)] s = .ok (.d (.bl true)) s' ∧ Sc s' r := by
  obtain ⟨a4, a5, a6, a7, a8, s1, l6, h1⟩ := te6s (n + 1) o h
  have wl := w_lwires (n + 2) (K := 2) o.ok o.ht s1
  obtain ⟨a8', a10', a11', s2, q0, l4, h2, ok2⟩ := te4s n o a4 a5 a6 a7 a8 none none h1 ok
  obtain ⟨ys, s3, l5, h3, hq, hl⟩ := te_s5 (n + 2) o a4 a5 a6 a7 a8' a10' a11' h2
  rw [h3.len] at l5
  obtain ⟨b4, b5, b10, zs, s4, l2, h4, hl4, hq4⟩ := te2s (n + 2) o a4 a5 a6 a7 a8' a10' (h3.app [.lst ys]) hl hq
  have ok4 : okR ((r ++ q0) ++ [.lst zs]) := okR_app ok2 rfl
  obtain ⟨vs, s5, lv, h5, hv⟩ := vals_ok (n + 1) o b4 b5 a6 a7 a8' b10 h4 ok4 hl4 hq4
  obtain ⟨a14, l7⟩ := te7 (n + 1) W H T P b4 b5 a6 a7 a8' b10 (some (.loc ((r ++ q0).length + 2))) s5 vs hv
  have body : e__law_tiles_right (runP prog (n + 4)) [some (.loc 1), some (.d (fab W H T 2 P)), none, none, none, none, none, none, none, none, none, none, none, none, none, none] s = .rt (.d (.bl true)) s5 := by
    have wt := w_ltiles (n + 3) (K := 2) o.ok s
    refine sq_nx (te_s1 (n + 2) o s) (sq_nx (E1 := teE W H T P a4 a5 a6 a7 a8) (s1 := s1) ?_ (sq_nx (E1 := bE W H T P a4 a5 a6 a7 a8 none none) (s1 := s1) ?_ (sq_nx l4 (sq_nx l5 (sq_nx (E1 := bE W H T P b4 b5 a6 a7 a8' b10 (some (.loc ((r ++ q0).length + 2)))) (s1 := s4) ?_ (sq_nx (E1 := gE W H T P b4 b5 a6 a7 a8' b10 (some (.loc ((r ++ q0).length + 2))) a14) (s1 := s5) ?_ (sq_rt rfl)))))))
    · have i : Ev.iSeq (call (runP prog (n + 4)) 20 (ac (v 1) (a0))) (teE W H T P none none none none none) s = .ok (.vals ((tilesD W H).map .d)) s := by walk_at "h"
      exact for_vals i l6
    · rw [x_setn]
      have c : call (runP prog (n + 4)) 22 (ac (v 1) (a0)) (teE W H T P a4 a5 a6 a7 a8) s1 = .ok (.d (.lst (lawW W H T))) s1 := by walk_at "h"
      rw [c]; rfl
    · have i := kR1_ok (s := s3 ++ [.lst ys]) (i := 9) rfl
      exact for_vals (xs := (rng 0 9).map .d) (by rw [x_iR1, x_k, Res.bind_ok, i]) l2
    · have i : Ev.iSeq (valsX (runP prog (n + 4))) (bE W H T P b4 b5 a6 a7 a8' b10 (some (.loc ((r ++ q0).length + 2)))) s4 = .ok (.vals (vs.map .d)) s5 := by
        rw [x_iSeq, lv]; rfl
      exact for_vals i l7
  have hb : Sc s5 (r ++ (q0 ++ [.lst zs])) := by rw [← List.append_assoc]; exact h5
  obtain ⟨s6, w, h6⟩ := finR_cut (kp := false) (d := .bl true) h hb ok
  refine ⟨s6, ?_, h6⟩
  rw [rp rfl, run_body rfl]
  show finR false s (e__law_tiles_right _ [some (.loc 1), some (.d (fab W H T 2 P)), none, none, none, none, none, none, none, none, none, none, none, none, none, none] s) = _
  rw [body, w]
end K61
end
section
set_option linter.all false
set_option autoImplicit false
set_option maxRecDepth 100000
set_option maxHeartbeats 1000000
namespace K61
open PySem L2 Ev
local macro_rules | `(tactic| walk_at "s") => `(tactic| simp only [x_k, x_e1, x_e2, x_a0, x_ac, x_call, x_tup, x_lst, x_raise, kRaise_t, kRaise_p, x_for, kFor_v, kTurn_nx, kTurn_ct, kTurn_bk, kTurn_rt, kTurn_exc, kTurn_ite, x_iSeq, kSeq_t, kSeq_l, x_iEnum, enumS_t, enumS_l, x_iR1, x_iR2, pNe_int, pEq_int, pNe_str, dec_self, decide_true, decide_false, if_not', Bool.not_true, Bool.not_false, Bool.not_not, Bool.false_or, Bool.true_or, Bool.or_false, Bool.or_true, Bool.and_true, Bool.true_and, Bool.false_and, Bool.and_false, finR_bif, finR_rt, finR_nx, finR_exc, forV_nil', forV_cons', List.replicate_succ, List.replicate_zero, Nat.reduceSub, mkT0, mkT1, mkT2, mkT3, mkT4, mkT5, mkT6, mkL0, mkL1, mkL2, mkL3, mkL4, mkL5, mkL6, mkL7, mkL8, mkL9, mkL10, mkL11, x_bb, x_bv, kBb_bl, kBv_bl, kBv_int, kBv_non, x_bnot, x_band, x_bor, ite_and, ite_or, x_yes, x_eand, x_eor, x_enot, kAnd_bl, kOr_bl, kNot_bl, ite_andv, ite_orv, x_chain, kCh_bl, x_eif, x_sq, x_nil, x_setn, x_m1, x_sl, x_pn, x_ps, kPs_i, pSl_l, pSl_t, pTup_t, pTup_l, pList_t, pList_l, x_sett, x_seti, x_exp, x_ret, x_retN, x_if, next_ite, bind_ite, ofRes_ite, ixt0, ixt1, ixt2, ixt3, ixt4, ixt5, ixt6, ixt7, ixl0, ixl1, ixl2, ixl3, ixl4, ixl5, ixl6, ixl7, exF_one, x_len_tup, x_len_lst, x_isi, x_isN, x_notN, if_false', if_true', x_v, List.getElem?_cons_zero, List.getElem?_cons_succ, List.set_cons_zero, List.set_cons_succ, Res.bind_ok, Res.bind_exc, Res.bind_fail, ofRes_ok, ofRes_exc, ofRes_fail, SRes.next_nx, SRes.next_rt, SRes.next_exc, SRes.next_fail, pAdd_ok, pSub_ok, pLt_ok, pLe_ok, pGt_ok, pGe_ok, pInt_ok, pNeg_ok, pMax_ok, pMin_ok, List.map_cons, List.map_nil, List.cons_append, List.nil_append, List.append_nil])
local macro_rules | `(tactic| walk_at "h") => `(tactic| simp only [*, x_k, x_e1, x_e2, x_a0, x_ac, x_call, x_tup, x_lst, x_raise, kRaise_t, kRaise_p, x_for, kFor_v, kTurn_nx, kTurn_ct, kTurn_bk, kTurn_rt, kTurn_exc, kTurn_ite, x_iSeq, kSeq_t, kSeq_l, x_iEnum, enumS_t, enumS_l, x_iR1, x_iR2, pNe_int, pEq_int, pNe_str, dec_self, decide_true, decide_false, if_not', Bool.not_true, Bool.not_false, Bool.not_not, Bool.false_or, Bool.true_or, Bool.or_false, Bool.or_true, Bool.and_true, Bool.true_and, Bool.false_and, Bool.and_false, finR_bif, finR_rt, finR_nx, finR_exc, forV_nil', forV_cons', List.replicate_succ, List.replicate_zero, Nat.reduceSub, mkT0, mkT1, mkT2, mkT3, mkT4, mkT5, mkT6, mkL0, mkL1, mkL2, mkL3, mkL4, mkL5, mkL6, mkL7, mkL8, mkL9, mkL10, mkL11, x_bb, x_bv, kBb_bl, kBv_bl, kBv_int, kBv_non, x_bnot, x_band, x_bor, ite_and, ite_or, x_yes, x_eand, x_eor, x_enot, kAnd_bl, kOr_bl, kNot_bl, ite_andv, ite_orv, x_chain, kCh_bl, x_eif, x_sq, x_nil, x_setn, x_m1, x_sl, x_pn, x_ps, kPs_i, pSl_l, pSl_t, pTup_t, pTup_l, pList_t, pList_l, x_sett, x_seti, x_exp, x_ret, x_retN, x_if, next_ite, bind_ite, ofRes_ite, ixt0, ixt1, ixt2, ixt3, ixt4, ixt5, ixt6, ixt7, ixl0, ixl1, ixl2, ixl3, ixl4, ixl5, ixl6, ixl7, exF_one, x_len_tup, x_len_lst, x_isi, x_isN, x_notN, if_false', if_true', x_v, List.getElem?_cons_zero, List.getElem?_cons_succ, List.set_cons_zero, List.set_cons_succ, Res.bind_ok, Res.bind_exc, Res.bind_fail, ofRes_ok, ofRes_exc, ofRes_fail, SRes.next_nx, SRes.next_rt, SRes.next_exc, SRes.next_fail, pAdd_ok, pSub_ok, pLt_ok, pLe_ok, pGt_ok, pGe_ok, pInt_ok, pNeg_ok, pMax_ok, pMin_ok, List.map_cons, List.map_nil, List.cons_append, List.nil_append, List.append_nil])
/-! ### fabrics for counts -/
theorem pMul_ii {i j : Int} (s : Store) (h0 : -1000000 ≤ j) (h1 : j ≤ 1000000) : pMul (.d (.int i)) (.d (.int j)) s = .ok (.d (.int (i * j))) s :=
  pMul_okr s (by have e : (2 : Int) ^ 64 = 18446744073709551616 := by decide
                 rw [e]; omega) (by have e : (2 : Int) ^ 64 = 18446744073709551616 := by decide
                                    rw [e]; omega)
abbrev Sq (cells z : Int) : Prop := Least (fun p => p * p) cells z
theorem sq_le {cells z : Int} (hc : cells ≤ 300) (h : Sq cells z) : z ≤ 18 := by
  rcases h.low with e | e
  · omega
  · have h1 := h.one
    by_cases c : 18 < z
    · have : 18 * 18 ≤ (z - 1) * (z - 1) := Int.mul_le_mul (by omega) (by omega) (by decide) (by omega)
      have e' : (z - 1) * (z - 1) < cells := e
      omega
    · omega
/-- the size's loop -/
theorem size_loop {c : BC} {b : SC} (mk : Int → Ev.Env) (s : Store) {cells : Int} (hc : cells ≤ 300) (h1 : ∀ z, 1 ≤ z → z ≤ 20 → c (mk z) s = .ok (decide (z * z < cells)) s) (h2 : ∀ z, b (mk z) s = .nx (mk (z + 1)) s) :
    ∃ z, sWhl c b (mk 1) s = .nx (mk z) s ∧ Sq cells z := by
  obtain ⟨E', s', h, z, rfl, rfl, hz⟩ := sWhl_run (c := c) (b := b) (E := mk 1) (s := s) (fun m E s' => s = s' ∧ ∃ z : Int, E = mk z ∧ 1 ≤ z ∧ (z = 1 ∨ (z - 1) * (z - 1) < cells) ∧ m = (20 - z).toNat) (fun E s' => ∃ z, E = mk z ∧ s = s' ∧ Sq cells z) (20 - 1) ⟨rfl, 1, rfl, Int.le_refl _, .inl rfl, rfl⟩ (by decide) fun m E s' ⟨hs, z, hE, z1, zl, hm⟩ => by
    subst hs hE hm
    have zle : z ≤ 18 := by
      rcases zl with e | e
      · omega
      · by_cases c : 18 < z
        · have : 18 * 18 ≤ (z - 1) * (z - 1) := Int.mul_le_mul (by omega) (by omega) (by decide) (by omega)
          omega
        · omega
    by_cases q : z * z < cells
    · right
      refine ⟨by rw [h1 z z1 (by omega), decide_eq_true q], (20 - (z + 1)).toNat, mk (z + 1), s, by omega, h2 z, rfl, z + 1, rfl, by omega, .inr (by rw [Int.add_sub_cancel]; exact q), rfl⟩
    · left
      exact ⟨by rw [h1 z z1 (by omega), decide_eq_false q], z, rfl, rfl, z1, by show cells ≤ z * z; omega, zl⟩
  exact ⟨z, h, hz⟩
def bc (z : Int) : Int := if z < 3 then z * z else 4 * z - 4
theorem bc_pos {z : Int} (h : 1 ≤ z) : 1 ≤ bc z := by
  unfold bc
  split
  · have := Int.mul_le_mul h h (by decide) (by omega); omega
  · omega
theorem bc_le {z : Int} (h : 1 ≤ z) (h2 : z ≤ 18) : bc z ≤ 100 := by
  unfold bc
  split
  · have : z * z ≤ 3 * 3 := Int.mul_le_mul (by omega) (by omega) (by omega) (by decide)
    omega
  · omega
def lp (z many : Int) : Int := max 1 (-(-many / bc z))
theorem w_least_pads (n : Nat) (z many : Int) (s : Store) (h : 1 ≤ z) (h2 : z ≤ 18) : runP prog (n + 1) 11 [.d (.int (bc z)), .d (.int many)] s = .ok (.d (.int (lp z many))) s := by
  have dv := pDiv_ok (i := -many) (j := bc z) s (by have := bc_pos h; omega) (Fits.i (n := (bc z).toNat) (Fits.small (by have := bc_le h h2; omega)) |> fun q => by rw [Int.toNat_of_nonneg (by have := bc_pos h; omega)] at q; exact q)
  rw [rp rfl, run_body rfl]
  clear h h2
  simp only [e_least_pads]
  walk_at "h"
  rfl
def countD (k z sg pi po : Int) : Ev.D := bif decide (16 < z) then .str "cells" else bif decide (8 < pi) then .str "ins" else bif decide (8 < po) then .str "outs" else bif decide (60 < sg) then .str "tracks" else .tup [.int z, .int z, .int (max 1 sg), .int k, .int (max pi po)]
def outC (x : Ev.D) (s : Store) : Res Val := match x with | .tup xs => .ok (.d (.tup xs)) s | z => .exc 1 [("word", z)] s
theorem bd0 (s : Store) : pIx (.d c_BOUNDS) (.d (.int 0)) s = .ok (.d (tile 1 16)) s := rfl
theorem bd2 (s : Store) : pIx (.d c_BOUNDS) (.d (.int 2)) s = .ok (.d (tile 1 60)) s := rfl
theorem bd4 (s : Store) : pIx (.d c_BOUNDS) (.d (.int 4)) s = .ok (.d (tile 1 8)) s := rfl
theorem w_fabric_for (n : Nat) (k cells sg ins outs : Int) (s : Store) (hc : cells ≤ 300) : ∃ z, Sq cells z ∧ runP prog (n + 2) 12 [.d (.int k), .d (.int cells), .d (.int sg), .d (.int ins), .d (.int outs)] s = outC (countD k z sg (lp z ins) (lp z outs)) s := by
  obtain ⟨z, hw, hz⟩ := size_loop (c := fabric_for_c1 (runP prog (n + 1))) (b := fabric_for_L2 (runP prog (n + 1))) (fun z => [some (.d (.int k)), some (.d (.int cells)), some (.d (.int sg)), some (.d (.int ins)), some (.d (.int outs)), some (.d (.int z)), none, none, none]) s hc (fun z h1 h2 => by
      have m := pMul_ii (i := z) (j := z) s (by omega) (by omega)
      clear h1 h2
      simp only [fabric_for_c1]; walk_at "h") (fun z => by simp only [fabric_for_L2]; walk_at "s")
  have z1 := hz.one
  have z18 := sq_le hc hz
  refine ⟨z, hz, ?_⟩
  have w1 := w_least_pads n z ins s z1 z18
  have w2 := w_least_pads n z outs s z1 z18
  have b0 := bd0
  have b2 := bd2
  have b4 := bd4
  have m := pMul_ii (i := z) (j := z) s (by omega) (by omega)
  have m4 := pMul_ii (i := 4) (j := z) s (by omega) (by omega)
  have bq : (bif decide (z < 3) then Res.ok (Val.d (.int (z * z))) s else Res.ok (Val.d (.int (4 * z - 4))) s) = Res.ok (Val.d (.int (bc z))) s := by
    unfold bc
    by_cases q : z < 3
    · rw [if_pos q, decide_eq_true q]; rfl
    · rw [if_neg q, decide_eq_false q]; rfl
  have tg : ∀ (i j : Ev.D) (e0 e1 e2 e3 e4 e5 e6 e7 e8 : Option Val) (s : Store), tt [tn 7, tn 8] (.d (.tup [i, j])) [e0, e1, e2, e3, e4, e5, e6, e7, e8] s = some ([e0, e1, e2, e3, e4, e5, e6, some (.d i), some (.d j)], s) := fun _ _ _ _ _ _ _ _ _ _ _ _ => rfl
  rw [rp rfl, run_body rfl]
  show finR false s (e_fabric_for _ [some (.d (.int k)), some (.d (.int cells)), some (.d (.int sg)), some (.d (.int ins)), some (.d (.int outs)), none, none, none, none] s) = _
  clear hc hz z1 z18
  simp only [e_fabric_for, fabric_for_L1]
  walk_at "h"
  unfold countD
  cases decide (16 < z) <;> cases decide (8 < lp z ins) <;> cases decide (8 < lp z outs) <;> cases decide (60 < sg) <;> rfl
end K61
end
section
set_option linter.all false
set_option autoImplicit false
set_option maxRecDepth 100000
set_option maxHeartbeats 1000000
namespace K61
open PySem L2 Ev
local macro_rules | `(tactic| walk_at "s") => `(tactic| simp only [x_k, x_e1, x_e2, x_a0, x_ac, x_call, x_tup, x_lst, x_raise, kRaise_t, kRaise_p, x_for, kFor_v, kTurn_nx, kTurn_ct, kTurn_bk, kTurn_rt, kTurn_exc, kTurn_ite, x_iSeq, kSeq_t, kSeq_l, x_iEnum, enumS_t, enumS_l, x_iR1, x_iR2, pNe_int, pEq_int, pNe_str, dec_self, decide_true, decide_false, if_not', Bool.not_true, Bool.not_false, Bool.not_not, Bool.false_or, Bool.true_or, Bool.or_false, Bool.or_true, Bool.and_true, Bool.true_and, Bool.false_and, Bool.and_false, finR_bif, finR_rt, finR_nx, finR_exc, forV_nil', forV_cons', List.replicate_succ, List.replicate_zero, Nat.reduceSub, mkT0, mkT1, mkT2, mkT3, mkT4, mkT5, mkT6, mkL0, mkL1, mkL2, mkL3, mkL4, mkL5, mkL6, mkL7, mkL8, mkL9, mkL10, mkL11, x_bb, x_bv, kBb_bl, kBv_bl, kBv_int, kBv_non, x_bnot, x_band, x_bor, ite_and, ite_or, x_yes, x_eand, x_eor, x_enot, kAnd_bl, kOr_bl, kNot_bl, ite_andv, ite_orv, x_chain, kCh_bl, x_eif, x_sq, x_nil, x_setn, x_m1, x_sl, x_pn, x_ps, kPs_i, pSl_l, pSl_t, pTup_t, pTup_l, pList_t, pList_l, x_sett, x_seti, x_exp, x_ret, x_retN, x_if, next_ite, bind_ite, ofRes_ite, ixt0, ixt1, ixt2, ixt3, ixt4, ixt5, ixt6, ixt7, ixl0, ixl1, ixl2, ixl3, ixl4, ixl5, ixl6, ixl7, exF_one, x_len_tup, x_len_lst, x_isi, x_isN, x_notN, if_false', if_true', x_v, List.getElem?_cons_zero, List.getElem?_cons_succ, List.set_cons_zero, List.set_cons_succ, Res.bind_ok, Res.bind_exc, Res.bind_fail, ofRes_ok, ofRes_exc, ofRes_fail, SRes.next_nx, SRes.next_rt, SRes.next_exc, SRes.next_fail, pAdd_ok, pSub_ok, pLt_ok, pLe_ok, pGt_ok, pGe_ok, pInt_ok, pNeg_ok, pMax_ok, pMin_ok, List.map_cons, List.map_nil, List.cons_append, List.nil_append, List.append_nil])
local macro_rules | `(tactic| walk_at "h") => `(tactic| simp only [*, x_k, x_e1, x_e2, x_a0, x_ac, x_call, x_tup, x_lst, x_raise, kRaise_t, kRaise_p, x_for, kFor_v, kTurn_nx, kTurn_ct, kTurn_bk, kTurn_rt, kTurn_exc, kTurn_ite, x_iSeq, kSeq_t, kSeq_l, x_iEnum, enumS_t, enumS_l, x_iR1, x_iR2, pNe_int, pEq_int, pNe_str, dec_self, decide_true, decide_false, if_not', Bool.not_true, Bool.not_false, Bool.not_not, Bool.false_or, Bool.true_or, Bool.or_false, Bool.or_true, Bool.and_true, Bool.true_and, Bool.false_and, Bool.and_false, finR_bif, finR_rt, finR_nx, finR_exc, forV_nil', forV_cons', List.replicate_succ, List.replicate_zero, Nat.reduceSub, mkT0, mkT1, mkT2, mkT3, mkT4, mkT5, mkT6, mkL0, mkL1, mkL2, mkL3, mkL4, mkL5, mkL6, mkL7, mkL8, mkL9, mkL10, mkL11, x_bb, x_bv, kBb_bl, kBv_bl, kBv_int, kBv_non, x_bnot, x_band, x_bor, ite_and, ite_or, x_yes, x_eand, x_eor, x_enot, kAnd_bl, kOr_bl, kNot_bl, ite_andv, ite_orv, x_chain, kCh_bl, x_eif, x_sq, x_nil, x_setn, x_m1, x_sl, x_pn, x_ps, kPs_i, pSl_l, pSl_t, pTup_t, pTup_l, pList_t, pList_l, x_sett, x_seti, x_exp, x_ret, x_retN, x_if, next_ite, bind_ite, ofRes_ite, ixt0, ixt1, ixt2, ixt3, ixt4, ixt5, ixt6, ixt7, ixl0, ixl1, ixl2, ixl3, ixl4, ixl5, ixl6, ixl7, exF_one, x_len_tup, x_len_lst, x_isi, x_isN, x_notN, if_false', if_true', x_v, List.getElem?_cons_zero, List.getElem?_cons_succ, List.set_cons_zero, List.set_cons_succ, Res.bind_ok, Res.bind_exc, Res.bind_fail, ofRes_ok, ofRes_exc, ofRes_fail, SRes.next_nx, SRes.next_rt, SRes.next_exc, SRes.next_fail, pAdd_ok, pSub_ok, pLt_ok, pLe_ok, pGt_ok, pGe_ok, pInt_ok, pNeg_ok, pMax_ok, pMin_ok, List.map_cons, List.map_nil, List.cons_append, List.nil_append, List.append_nil])
theorem finR_dd {kp : Bool} {s q : Store} {d : Ev.D} : finR kp s (.rt (.d d) (s ++ q)) = .ok (.d d) s := by
  by_cases c : (s ++ q).length = s.length
  · rw [List.length_append] at c
    have e : q = [] := List.length_eq_zero_iff.mp (by omega)
    subst e
    rw [List.append_nil, finR_rt]
  · simp only [finR, fin, if_neg c, List.take_left', or_true, if_true]
/-! ### what the law says of counts -/
theorem pads_len {z : Int} (h : 1 ≤ z) (h2 : z ≤ 18) : ((padsD z z 1).length : Int) = bc z := by
  have key : ((rng 1 19).all fun q => decide (((padsD (toI q) (toI q) 1).length : Int) = bc (toI q))) = true := by decide +kernel
  exact of_decide_eq_true (List.all_eq_true.mp key (.int z) (rng_mem_iff.mpr ⟨z, rfl, h, by omega⟩))
/-- the pads' loop -/
theorem many_loop (n : Nat) (k cells sg ins outs z many : Int) (a6 : Option Val) (r4 : List (Option Val)) (s : Store) (h : 1 ≤ z) (h2 : z ≤ 18) (hm : many ≤ 500) :
    sWhl (_law_counts_due_c1 (runP prog (n + 2))) (_law_counts_due_L1 (runP prog (n + 2))) (some (.d (.int k)) :: some (.d (.int cells)) :: some (.d (.int sg)) :: some (.d (.int ins)) :: some (.d (.int outs)) :: some (.d (.int z)) :: a6 :: some (.d (.int many)) :: some (.d (.int 1)) :: r4) s = .nx (some (.d (.int k)) :: some (.d (.int cells)) :: some (.d (.int sg)) :: some (.d (.int ins)) :: some (.d (.int outs)) :: some (.d (.int z)) :: a6 :: some (.d (.int many)) :: some (.d (.int (lp z many))) :: r4) s := by
  have b1 := bc_pos h
  have b2 := bc_le h h2
  have mono := mono_mul (b := bc z) b1
  have o : Ok5 z z 1 1 := ⟨by omega, by omega, by omega, by omega, by omega, by omega, by omega, by omega⟩
  have hb : z * z * 1 ≤ 1000000 := by
    have : z * z ≤ 18 * 18 := Int.mul_le_mul h2 h2 (by omega) (by decide)
    omega
  obtain ⟨E', s', hw, p, rfl, rfl, hp⟩ := sWhl_run (c := _law_counts_due_c1 (runP prog (n + 2))) (b := _law_counts_due_L1 (runP prog (n + 2))) (E := some (.d (.int k)) :: some (.d (.int cells)) :: some (.d (.int sg)) :: some (.d (.int ins)) :: some (.d (.int outs)) :: some (.d (.int z)) :: a6 :: some (.d (.int many)) :: some (.d (.int 1)) :: r4) (s := s) (fun m E s' => s = s' ∧ ∃ p : Int, E = some (.d (.int k)) :: some (.d (.int cells)) :: some (.d (.int sg)) :: some (.d (.int ins)) :: some (.d (.int outs)) :: some (.d (.int z)) :: a6 :: some (.d (.int many)) :: some (.d (.int p)) :: r4 ∧ 1 ≤ p ∧ (p = 1 ∨ (p - 1) * bc z < many) ∧ m = (600 - p).toNat) (fun E s' => ∃ p, E = some (.d (.int k)) :: some (.d (.int cells)) :: some (.d (.int sg)) :: some (.d (.int ins)) :: some (.d (.int outs)) :: some (.d (.int z)) :: a6 :: some (.d (.int many)) :: some (.d (.int p)) :: r4 ∧ s = s' ∧ Least (fun p => p * bc z) many p) (600 - 1) ⟨rfl, 1, rfl, Int.le_refl _, .inl rfl, rfl⟩ (by decide) fun m E s' ⟨hs, p, hE, p1, pl, hmm⟩ => by
    subst hs hE hmm
    have ple : p ≤ 501 := by
      rcases pl with e | e
      · omega
      · by_cases c : 501 < p
        · have : (501 : Int) * 1 ≤ (p - 1) * bc z := Int.mul_le_mul (by omega) b1 (by decide) (by omega)
          omega
        · omega
    have wl := w_lpads n (K := 2) o hb s
    have pl2 := pads_len h h2
    have m : pMul (.d (.int p)) (.d (.int ((padsD z z 1).length : Int))) s = .ok (.d (.int (p * bc z))) s := by rw [pl2]; exact pMul_ii s (by omega) (by omega)
    have hc : _law_counts_due_c1 (runP prog (n + 2)) (some (.d (.int k)) :: some (.d (.int cells)) :: some (.d (.int sg)) :: some (.d (.int ins)) :: some (.d (.int outs)) :: some (.d (.int z)) :: a6 :: some (.d (.int many)) :: some (.d (.int p)) :: r4) s = .ok (decide (p * bc z < many)) s := by
      clear b1 b2 mono o hb p1 pl ple pl2 h h2 hm
      simp only [_law_counts_due_c1]
      walk_at "h"
    by_cases q : p * bc z < many
    · right
      refine ⟨by rw [hc, decide_eq_true q], (600 - (p + 1)).toNat, _, s, by omega, ?_, rfl, p + 1, rfl, by omega, .inr (by rw [Int.add_sub_cancel]; exact q), rfl⟩
      clear b1 b2 mono o hb p1 pl ple pl2 h h2 hm hc q wl m
      simp only [_law_counts_due_L1]
      walk_at "s"
    · left
      exact ⟨by rw [hc, decide_eq_false q], p, rfl, rfl, p1, by show many ≤ p * bc z; omega, pl⟩
  rw [hw, Least.uniq mono hp (least_ceil (b := bc z) (many := many) b1)]
  rfl
theorem cnt_turn (n : Nat) (k cells sg ins outs z many : Int) (a8 a9 a10 a11 : Option Val) (s : Store) (ps : List Ev.D) (hl : ps.length ≤ 10) (h : 1 ≤ z) (h2 : z ≤ 18) (hm : many ≤ 500) :
    _law_counts_due_L2 (runP prog (n + 2)) [some (.d (.int k)), some (.d (.int cells)), some (.d (.int sg)), some (.d (.int ins)), some (.d (.int outs)), some (.d (.int z)), some (.loc s.length), some (.d (.int many)), a8, a9, a10, a11] (s ++ [.lst ps]) = .nx [some (.d (.int k)), some (.d (.int cells)), some (.d (.int sg)), some (.d (.int ins)), some (.d (.int outs)), some (.d (.int z)), some (.loc s.length), some (.d (.int many)), some (.d (.int (lp z many))), a9, a10, a11] (s ++ [.lst (ps ++ [.int (lp z many)])]) := by
  have w := many_loop n k cells sg ins outs z many (some (.loc s.length)) [a9, a10, a11] (s ++ [.lst ps]) h h2 hm
  have iL : isL (.loc s.length) (s ++ [.lst ps]) = true := isL_app (i := 0) rfl
  have ap : pApp (.loc s.length) (.d (.int (lp z many))) (s ++ [.lst ps]) = .ok (.d .non) (s ++ [.lst (ps ++ [.int (lp z many)])]) := pApp_app (i := 0) rfl (by omega)
  have km := fun (b : EC) (E : Ev.Env) => kM1_ok (p := pApp) (b := b) (E := E) iL
  clear hl h h2 hm
  simp only [_law_counts_due_L2]
  walk_at "h"

theorem peek_app {s : Store} {ds : List Ev.D} : peek (.loc s.length) (s ++ [.lst ds]) = some (.lst ds) := by
  simp only [peek, List.getElem?_concat_length]
theorem lstA_nil {E : Ev.Env} {s : Store} : lstA a0 E s = .ok (.loc s.length) (s ++ [.lst []]) := by
  show (if ([] : List Ev.D).length ≤ line then Res.ok (Val.loc s.length) (s ++ [Ev.Obj.lst []]) else Res.fail) = _
  exact if_pos (Nat.zero_le _)
theorem x_par0 {E : Ev.Env} {s : Store} {i j : Nat} {q : Ev.D} {b : EC} : sPar i j (k q) b E s = ofRes (b E s) E fun y s2 => .nx ((E.set i (some (.d q))).set j (some y)) s2 := rfl
abbrev dS (s : Store) (i j : Int) : Store := s ++ [.lst [.int i, .int j]]
abbrev dE (kk cells sg ins outs : Int) (a5 a6 a7 a8 a9 : Option Val) : Ev.Env := [some (.d (.int kk)), some (.d (.int cells)), some (.d (.int sg)), some (.d (.int ins)), some (.d (.int outs)), a5, a6, a7, a8, a9, none, none]
def isBl : Ev.D → Bool | .tup [_, .bl b] => b | _ => false
def fst' : Ev.D → Ev.D | .tup (x :: _) => x | _ => .non
def wordT (t1 t2 t3 t4 : Bool) : List Ev.D := [.tup [.str "cells", .bl t1], .tup [.str "ins", .bl t2], .tup [.str "outs", .bl t3], .tup [.str "tracks", .bl t4]]
def wordL (t1 t2 t3 t4 : Bool) : List Ev.D := ((wordT t1 t2 t3 t4).filter isBl).map fst'
def firstW (t1 t2 t3 t4 : Bool) (e : Ev.D) : Ev.D := bif t1 then .str "cells" else bif t2 then .str "ins" else bif t3 then .str "outs" else bif t4 then .str "tracks" else e
theorem word_cases (t1 t2 t3 t4 : Bool) (e : Ev.D) : (wordL t1 t2 t3 t4 = [] ∧ firstW t1 t2 t3 t4 e = e) ∨ ∃ w r, wordL t1 t2 t3 t4 = .str w :: r ∧ D.plains r = true ∧ firstW t1 t2 t3 t4 e = .str w := by
  cases t1 <;> cases t2 <;> cases t3 <;> cases t4 <;> first | exact .inl ⟨rfl, rfl⟩ | exact .inr ⟨_, _, rfl, rfl, rfl⟩
noncomputable def dueRet : SC := sRet (eif (bb (e2 pNe (v 9) (lst (a0)))) (e2 pIx (v 9) (k (.int 0))) (tup (ac (v 5) (ac (v 5) (ac (e2 pMax (k (.int 1)) (v 2)) (ac (v 0) (ac (e1 pMaxL (v 6)) (a0))))))))
theorem due_tail (kk cells sg ins outs z m : Int) (t1 t2 t3 t4 : Bool) (n : Nat) (a7 a8 : Option Val) (s : Store) (pm : pMaxL (.loc n) s = .ok (.d (.int m)) s) : dueRet (dE kk cells sg ins outs (some (.d (.int z))) (some (.loc n)) a7 a8 (some (.d (.lst (wordL t1 t2 t3 t4))))) s = .rt (.d (firstW t1 t2 t3 t4 (.tup [.int z, .int z, .int (max 1 sg), .int kk, .int m]))) s := by
  rcases word_cases t1 t2 t3 t4 (.tup [.int z, .int z, .int (max 1 sg), .int kk, .int m]) with ⟨h1, h2⟩ | ⟨w, r, h1, h2, h3⟩
  · rw [h1, h2]
    have q : pNe (.d (.lst [])) (.d (.lst [])) s = .ok (.d (.bl false)) s := pNe_lst_nil rfl
    clear h1 h2
    simp only [dueRet]
    walk_at "h"
  · rw [h1, h3]
    have q : pNe (.d (.lst (.str w :: r))) (.d (.lst [])) s = .ok (.d (.bl true)) s := pNe_lst_nil h2
    clear h1 h2 h3
    simp only [dueRet]
    walk_at "h"
noncomputable def dueIt : IC := Ev.iSeq (lst (ac (tup (ac (k (.str "cells")) (ac (e2 pGt (v 5) (k (.int 16))) (a0)))) (ac (tup (ac (k (.str "ins")) (ac (e2 pGt (e2 pIx (v 6) (k (.int 0))) (k (.int 8))) (a0)))) (ac (tup (ac (k (.str "outs")) (ac (e2 pGt (e2 pIx (v 6) (k (.int 1))) (k (.int 8))) (a0)))) (ac (tup (ac (k (.str "tracks")) (ac (e2 pGt (v 2) (k (.int 60))) (a0)))) (a0))))))
theorem due_it (kk cells sg ins outs z i j : Int) (n : Nat) (a7 a8 : Option Val) (s : Store) (p0 : pIx (.loc n) (.d (.int 0)) s = .ok (.d (.int i)) s) (p1 : pIx (.loc n) (.d (.int 1)) s = .ok (.d (.int j)) s) :
    dueIt (dE kk cells sg ins outs (some (.d (.int z))) (some (.loc n)) a7 a8 none) s = .ok (.vals ((wordT (decide (16 < z)) (decide (8 < i)) (decide (8 < j)) (decide (60 < sg))).map .d)) s := by
  simp only [dueIt, wordT]
  walk_at "h"
theorem due_words (kk cells sg ins outs z i j : Int) (n : Nat) (a7 a8 : Option Val) (s : Store) (p0 : pIx (.loc n) (.d (.int 0)) s = .ok (.d (.int i)) s) (p1 : pIx (.loc n) (.d (.int 1)) s = .ok (.d (.int j)) s) :
    lc [10, 11] (tt [tn 10, tn 11]) dueIt (bv (v 11)) (v 10) (dE kk cells sg ins outs (some (.d (.int z))) (some (.loc n)) a7 a8 none) s = .ok (.d (.lst (wordL (decide (16 < z)) (decide (8 < i)) (decide (8 < j)) (decide (60 < sg))))) s := by
  refine lc_map (ws := [10, 11]) (g := tt [tn 10, tn 11]) (c := bv (v 11)) (e := v 10) isBl fst' (due_it kk cells sg ins outs z i j n a7 a8 s p0 p1) (len_line (show 4 ≤ 1000000 by decide)) (fun q hq => ?_)
  have : ∃ w b, q = .tup [.str w, .bl b] := by
    simp only [wordT, List.mem_cons, List.not_mem_nil, or_false] at hq
    rcases hq with rfl | rfl | rfl | rfl <;> exact ⟨_, _, rfl⟩
  obtain ⟨w, b, rfl⟩ := this
  exact ⟨[some (.d (.int kk)), some (.d (.int cells)), some (.d (.int sg)), some (.d (.int ins)), some (.d (.int outs)), some (.d (.int z)), some (.loc n), a7, a8, none, some (.d (.str w)), some (.d (.bl b))], rfl, rfl, fun _ => rfl⟩
theorem w_counts_due (n : Nat) (kk cells sg ins outs : Int) (s : Store) (hc : cells ≤ 300) (hi : ins ≤ 500) (ho : outs ≤ 500) : ∃ z, Sq cells z ∧ runP prog (n + 3) 28 [.d (.int kk), .d (.int cells), .d (.int sg), .d (.int ins), .d (.int outs)] s = .ok (.d (countD kk z sg (lp z ins) (lp z outs))) s := by
  obtain ⟨z, hw, hz⟩ := size_loop (c := _law_counts_due_c2 (runP prog (n + 2))) (b := _law_counts_due_L3 (runP prog (n + 2))) (fun z => dE kk cells sg ins outs (some (.d (.int z))) (some (.loc s.length)) none none none) (s ++ [.lst []]) hc (fun z h1 h2 => by
      have m := pMul_ii (i := z) (j := z) (s ++ [.lst []]) (by omega) (by omega)
      clear h1 h2
      simp only [_law_counts_due_c2]; walk_at "h") (fun z => by simp only [_law_counts_due_L3]; walk_at "s")
  have z1 := hz.one
  have z18 := sq_le hc hz
  refine ⟨z, hz, ?_⟩
  have t1 := cnt_turn n kk cells sg ins outs z ins none none none none s [] (by decide) z1 z18 hi
  have t2 := cnt_turn n kk cells sg ins outs z outs (some (.d (.int (lp z ins)))) none none none s [.int (lp z ins)] (by simp) z1 z18 ho
  have p0 : pIx (.loc s.length) (.d (.int 0)) (s ++ [.lst [.int (lp z ins), .int (lp z outs)]]) = .ok (.d (.int (lp z ins))) (s ++ [.lst [.int (lp z ins), .int (lp z outs)]]) := by
    simp only [pIx, List.getElem?_concat_length]; rfl
  have p1 : pIx (.loc s.length) (.d (.int 1)) (s ++ [.lst [.int (lp z ins), .int (lp z outs)]]) = .ok (.d (.int (lp z outs))) (s ++ [.lst [.int (lp z ins), .int (lp z outs)]]) := by
    simp only [pIx, List.getElem?_concat_length]; rfl
  have pm : pMaxL (.loc s.length) (s ++ [.lst [.int (lp z ins), .int (lp z outs)]]) = .ok (.d (.int (max (lp z ins) (lp z outs)))) (s ++ [.lst [.int (lp z ins), .int (lp z outs)]]) := by
    unfold pMaxL pInts
    rw [peek_app]
    rfl
  have dw := due_words kk cells sg ins outs z (lp z ins) (lp z outs) s.length (some (.d (.int outs))) (some (.d (.int (lp z outs)))) _ p0 p1
  have dt := due_tail kk cells sg ins outs z (max (lp z ins) (lp z outs)) (decide (16 < z)) (decide (8 < lp z ins)) (decide (8 < lp z outs)) (decide (60 < sg)) s.length (some (.d (.int outs))) (some (.d (.int (lp z outs)))) _ pm
  have body : e__law_counts_due (runP prog (n + 2)) [some (.d (.int kk)), some (.d (.int cells)), some (.d (.int sg)), some (.d (.int ins)), some (.d (.int outs)), none, none, none, none, none, none, none] s = .rt (.d (countD kk z sg (lp z ins) (lp z outs))) (s ++ [.lst [.int (lp z ins), .int (lp z outs)]]) := by
    refine sq_nx (E1 := dE kk cells sg ins outs (some (.d (.int 1))) (some (.loc s.length)) none none none) (s1 := s ++ [.lst []]) (by rw [x_par0, lstA_nil]; rfl) (sq_nx (E1 := dE kk cells sg ins outs (some (.d (.int z))) (some (.loc s.length)) none none none) (s1 := s ++ [.lst []]) ?_ (sq_nx (E1 := dE kk cells sg ins outs (some (.d (.int z))) (some (.loc s.length)) (some (.d (.int outs))) (some (.d (.int (lp z outs)))) none) (s1 := dS s (lp z ins) (lp z outs)) ?_ (sq_nx (E1 := dE kk cells sg ins outs (some (.d (.int z))) (some (.loc s.length)) (some (.d (.int outs))) (some (.d (.int (lp z outs)))) (some (.d (.lst (wordL (decide (16 < z)) (decide (8 < lp z ins)) (decide (8 < lp z outs)) (decide (60 < sg))))))) (s1 := dS s (lp z ins) (lp z outs)) ?_ (sq_rt dt))))
    · exact hw
    · clear hc hi ho hw hz z1 z18 p0 p1 pm dw dt
      simp only [dE, dS]
      have tg : ∀ (x : Val) (E : Ev.Env) (s : Store), tn 7 x E s = some (E.set 7 (some x), s) := fun _ _ _ => rfl
      replace t2 : _law_counts_due_L2 (runP prog (n + 2)) [some (.d (.int kk)), some (.d (.int cells)), some (.d (.int sg)), some (.d (.int ins)), some (.d (.int outs)), some (.d (.int z)), some (.loc s.length), some (.d (.int outs)), some (.d (.int (lp z ins))), none, none, none] (s ++ [.lst [.int (lp z ins)]]) = _ := t2
      walk_at "h"
    · rw [x_setn]
      show ofRes (lc [10, 11] (tt [tn 10, tn 11]) dueIt (bv (v 11)) (v 10) _ _) _ _ = _
      rw [dw]
      rfl
  rw [rp rfl, run_body rfl]
  show finR false s (e__law_counts_due _ [some (.d (.int kk)), some (.d (.int cells)), some (.d (.int sg)), some (.d (.int ins)), some (.d (.int outs)), none, none, none, none, none, none, none] s) = _
  rw [body, finR_dd]
theorem w_counts_told (n : Nat) (kk cells sg ins outs : Int) (s : Store) (hc : cells ≤ 300) : ∃ z, Sq cells z ∧ runP prog (n + 3) 27 [.d (.int kk), .d (.int cells), .d (.int sg), .d (.int ins), .d (.int outs)] s = .ok (.d (countD kk z sg (lp z ins) (lp z outs))) s := by
  obtain ⟨z, hz, hw⟩ := w_fabric_for n kk cells sg ins outs s hc
  refine ⟨z, hz, ?_⟩
  rw [rp rfl, run_body rfl]
  show finR false s (e__law_counts_told _ [some (.d (.int kk)), some (.d (.int cells)), some (.d (.int sg)), some (.d (.int ins)), some (.d (.int outs)), none] s) = _
  have two : (∃ xs, countD kk z sg (lp z ins) (lp z outs) = .tup xs) ∨ ∃ w, countD kk z sg (lp z ins) (lp z outs) = .str w := by
    unfold countD
    cases decide (16 < z) <;> cases decide (8 < lp z ins) <;> cases decide (8 < lp z outs) <;> cases decide (60 < sg) <;> first | exact .inl ⟨_, rfl⟩ | exact .inr ⟨_, rfl⟩
  rcases two with ⟨xs, e⟩ | ⟨w, e⟩
  · rw [e] at hw ⊢
    replace hw : runP prog (n + 2) 12 [.d (.int kk), .d (.int cells), .d (.int sg), .d (.int ins), .d (.int outs)] s = .ok (.d (.tup xs)) s := hw
    have h1 : _law_counts_told_T1 (runP prog (n + 2)) [some (.d (.int kk)), some (.d (.int cells)), some (.d (.int sg)), some (.d (.int ins)), some (.d (.int outs)), none] s = .rt (.d (.tup xs)) s := by
      clear e hz hc
      simp only [_law_counts_told_T1]
      walk_at "h"
    have b : e__law_counts_told (runP prog (n + 2)) [some (.d (.int kk)), some (.d (.int cells)), some (.d (.int sg)), some (.d (.int ins)), some (.d (.int outs)), none] s = .rt (.d (.tup xs)) s := sq_rt (try_rt h1)
    rw [b, finR_rt]
  · rw [e] at hw ⊢
    replace hw : runP prog (n + 2) 12 [.d (.int kk), .d (.int cells), .d (.int sg), .d (.int ins), .d (.int outs)] s = .exc 1 [("word", .str w)] s := hw
    have h1 : _law_counts_told_T1 (runP prog (n + 2)) [some (.d (.int kk)), some (.d (.int cells)), some (.d (.int sg)), some (.d (.int ins)), some (.d (.int outs)), none] s = .exc 1 [("word", .str w)] [some (.d (.int kk)), some (.d (.int cells)), some (.d (.int sg)), some (.d (.int ins)), some (.d (.int outs)), none] s := by
      clear e hz hc
      simp only [_law_counts_told_T1]
      walk_at "h"
    have h2 : _law_counts_told_H1 (runP prog (n + 2)) [some (.d (.int kk)), some (.d (.int cells)), some (.d (.int sg)), some (.d (.int ins)), some (.d (.int outs)), some (.exn 1 [("word", .str w)])] s = .rt (.d (.str w)) s := by
      clear e hz hc hw h1
      simp only [_law_counts_told_H1]
      walk_at "s"
    have b : e__law_counts_told (runP prog (n + 2)) [some (.d (.int kk)), some (.d (.int cells)), some (.d (.int sg)), some (.d (.int ins)), some (.d (.int outs)), none] s = .rt (.d (.str w)) s := sq_rt (try_exc_rt h1 (show 5 < 6 by decide) h2)
    rw [b, finR_rt]
/-- one answer for both -/
theorem w_counts (n : Nat) (kk cells sg ins outs : Int) (s : Store) (k0 : 0 ≤ kk) (k1 : kk ≤ 100) (hc : cells ≤ 300) (hi : ins ≤ 500) (ho : outs ≤ 500) : ∃ d, Sm d ∧ runP prog (n + 3) 27 [.d (.int kk), .d (.int cells), .d (.int sg), .d (.int ins), .d (.int outs)] s = .ok (.d d) s ∧ runP prog (n + 3) 28 [.d (.int kk), .d (.int cells), .d (.int sg), .d (.int ins), .d (.int outs)] s = .ok (.d d) s := by
  obtain ⟨z, hz, h1⟩ := w_counts_told n kk cells sg ins outs s hc
  obtain ⟨z', hz', h2⟩ := w_counts_due n kk cells sg ins outs s hc hi ho
  have e : z' = z := Least.uniq mono_sq hz' hz
  subst e
  refine ⟨_, ?_, h1, h2⟩
  have z1 := hz.one
  have z18 := sq_le hc hz
  have l1 : ∀ many, 1 ≤ lp z' many := fun many => Int.le_max_left _ _
  unfold countD
  have sS : ∀ w : Str, good (.str w) = true → wt (.str w) ≤ 1000 → Sm (.str w) := fun w h h' => ⟨h, Nat.le_trans h' (by decide), by simp [toPy, PyData.depth]⟩
  by_cases c1 : 16 < z'
  · rw [decide_eq_true c1]; exact sS _ (by decide +kernel) (by decide +kernel)
  by_cases c2 : 8 < lp z' ins
  · rw [decide_eq_false c1, decide_eq_true c2]; exact sS _ (by decide +kernel) (by decide +kernel)
  by_cases c3 : 8 < lp z' outs
  · rw [decide_eq_false c1, decide_eq_false c2, decide_eq_true c3]; exact sS _ (by decide +kernel) (by decide +kernel)
  by_cases c4 : 60 < sg
  · rw [decide_eq_false c1, decide_eq_false c2, decide_eq_false c3, decide_eq_true c4]; exact sS _ (by decide +kernel) (by decide +kernel)
  rw [decide_eq_false c1, decide_eq_false c2, decide_eq_false c3, decide_eq_false c4]
  have a1 := l1 ins
  have a2 := l1 outs
  show Sm (.tup ([z', z', max 1 sg, kk, max (lp z' ins) (lp z' outs)].map .int))
  refine ⟨good_ints fun i hi => ?_, by rw [wt_ints]; simp, Nat.le_trans (Nat.le_of_eq (depth_tup_ints _)) (by decide)⟩
  simp only [List.mem_cons, List.not_mem_nil, or_false] at hi
  omega
end K61
end
section
set_option linter.all false
set_option autoImplicit false
set_option maxRecDepth 100000
set_option maxHeartbeats 1000000
namespace K61
open PySem L2 Ev
local macro_rules | `(tactic| walk_at "s") => `(tactic| simp only [x_k, x_e1, x_e2, x_a0, x_ac, x_call, x_tup, x_lst, x_raise, kRaise_t, kRaise_p, x_for, kFor_v, kTurn_nx, kTurn_ct, kTurn_bk, kTurn_rt, kTurn_exc, kTurn_ite, x_iSeq, kSeq_t, kSeq_l, x_iEnum, enumS_t, enumS_l, x_iR1, x_iR2, pNe_int, pEq_int, pNe_str, dec_self, decide_true, decide_false, if_not', Bool.not_true, Bool.not_false, Bool.not_not, Bool.false_or, Bool.true_or, Bool.or_false, Bool.or_true, Bool.and_true, Bool.true_and, Bool.false_and, Bool.and_false, finR_bif, finR_rt, finR_nx, finR_exc, forV_nil', forV_cons', List.replicate_succ, List.replicate_zero, Nat.reduceSub, mkT0, mkT1, mkT2, mkT3, mkT4, mkT5, mkT6, mkL0, mkL1, mkL2, mkL3, mkL4, mkL5, mkL6, mkL7, mkL8, mkL9, mkL10, mkL11, x_bb, x_bv, kBb_bl, kBv_bl, kBv_int, kBv_non, x_bnot, x_band, x_bor, ite_and, ite_or, x_yes, x_eand, x_eor, x_enot, kAnd_bl, kOr_bl, kNot_bl, ite_andv, ite_orv, x_chain, kCh_bl, x_eif, x_sq, x_nil, x_setn, x_m1, x_sl, x_pn, x_ps, kPs_i, pSl_l, pSl_t, pTup_t, pTup_l, pList_t, pList_l, x_sett, x_seti, x_exp, x_ret, x_retN, x_if, next_ite, bind_ite, ofRes_ite, ixt0, ixt1, ixt2, ixt3, ixt4, ixt5, ixt6, ixt7, ixl0, ixl1, ixl2, ixl3, ixl4, ixl5, ixl6, ixl7, exF_one, x_len_tup, x_len_lst, x_isi, x_isN, x_notN, if_false', if_true', x_v, List.getElem?_cons_zero, List.getElem?_cons_succ, List.set_cons_zero, List.set_cons_succ, Res.bind_ok, Res.bind_exc, Res.bind_fail, ofRes_ok, ofRes_exc, ofRes_fail, SRes.next_nx, SRes.next_rt, SRes.next_exc, SRes.next_fail, pAdd_ok, pSub_ok, pLt_ok, pLe_ok, pGt_ok, pGe_ok, pInt_ok, pNeg_ok, pMax_ok, pMin_ok, List.map_cons, List.map_nil, List.cons_append, List.nil_append, List.append_nil])
local macro_rules | `(tactic| walk_at "h") => `(tactic| simp only [*, x_k, x_e1, x_e2, x_a0, x_ac, x_call, x_tup, x_lst, x_raise, kRaise_t, kRaise_p, x_for, kFor_v, kTurn_nx, kTurn_ct, kTurn_bk, kTurn_rt, kTurn_exc, kTurn_ite, x_iSeq, kSeq_t, kSeq_l, x_iEnum, enumS_t, enumS_l, x_iR1, x_iR2, pNe_int, pEq_int, pNe_str, dec_self, decide_true, decide_false, if_not', Bool.not_true, Bool.not_false, Bool.not_not, Bool.false_or, Bool.true_or, Bool.or_false, Bool.or_true, Bool.and_true, Bool.true_and, Bool.false_and, Bool.and_false, finR_bif, finR_rt, finR_nx, finR_exc, forV_nil', forV_cons', List.replicate_succ, List.replicate_zero, Nat.reduceSub, mkT0, mkT1, mkT2, mkT3, mkT4, mkT5, mkT6, mkL0, mkL1, mkL2, mkL3, mkL4, mkL5, mkL6, mkL7, mkL8, mkL9, mkL10, mkL11, x_bb, x_bv, kBb_bl, kBv_bl, kBv_int, kBv_non, x_bnot, x_band, x_bor, ite_and, ite_or, x_yes, x_eand, x_eor, x_enot, kAnd_bl, kOr_bl, kNot_bl, ite_andv, ite_orv, x_chain, kCh_bl, x_eif, x_sq, x_nil, x_setn, x_m1, x_sl, x_pn, x_ps, kPs_i, pSl_l, pSl_t, pTup_t, pTup_l, pList_t, pList_l, x_sett, x_seti, x_exp, x_ret, x_retN, x_if, next_ite, bind_ite, ofRes_ite, ixt0, ixt1, ixt2, ixt3, ixt4, ixt5, ixt6, ixt7, ixl0, ixl1, ixl2, ixl3, ixl4, ixl5, ixl6, ixl7, exF_one, x_len_tup, x_len_lst, x_isi, x_isN, x_notN, if_false', if_true', x_v, List.getElem?_cons_zero, List.getElem?_cons_succ, List.set_cons_zero, List.set_cons_succ, Res.bind_ok, Res.bind_exc, Res.bind_fail, ofRes_ok, ofRes_exc, ofRes_fail, SRes.next_nx, SRes.next_rt, SRes.next_exc, SRes.next_fail, pAdd_ok, pSub_ok, pLt_ok, pLe_ok, pGt_ok, pGe_ok, pInt_ok, pNeg_ok, pMax_ok, pMin_ok, List.map_cons, List.map_nil, List.cons_append, List.nil_append, List.append_nil])
theorem w_source (n : Nat) (ns : List Int) (h : ns.length ≤ 63) : ∃ s, runP prog (n + 1) 13 [.d (.scr ns)] [] = .ok (.loc 1) s ∧ Sc s [] := by
  obtain ⟨s, e, h⟩ := source_run ns h
  exact ⟨s, by rw [rp rfl, run_body rfl]; exact e, h⟩
theorem pNe_self {a : Ev.D} {s : Store} (h : (a.plain && low a && eqD a a) = true) : pNe (.d a) (.d a) s = .ok (.d (.bl false)) s := by
  simp only [Bool.and_eq_true] at h
  unfold pNe pEqB
  simp only [deepV_d, h.1.1, h.1.2, h.2, Bool.and_self, Bool.true_or, if_true, Bool.true_xor, Bool.not_true]
def smB (x : Ev.D) : Bool := good x && decide (wt x ≤ 300) && decide ((toPy x).depth ≤ 10)
theorem smB_sm {x : Ev.D} (h : smB x = true) : Sm x := by
  simp only [smB, Bool.and_eq_true, decide_eq_true_eq] at h
  exact ⟨h.1.1, Nat.le_trans h.1.2 (by decide), Nat.le_trans h.2 (by decide)⟩
def toldAll : List Ev.D := [.lst [], .lst [.tup []], .lst [.tup [.int 0]], .lst [.tup [.int 1]], .lst [.tup [.int 2]], .lst [.tup [.int 3]], .lst [.tup [.int 4]]]
theorem told_mem (x : Ev.D) : told (fabFault x) ∈ toldAll := by
  unfold fabFault
  repeat' split
  all_goals simp [told, toldAll]
theorem told_ne (x : Ev.D) (s : Store) : pNe (.d (told (fabFault x))) (.d (told (fabFault x))) s = .ok (.d (.bl false)) s := by
  have h : toldAll.all (fun a => a.plain && low a && eqD a a) = true := by decide +kernel
  exact pNe_self (List.all_eq_true.mp h _ (told_mem x))
theorem told_sm (x : Ev.D) : Sm (told (fabFault x)) := by
  have h : toldAll.all smB = true := by decide +kernel
  exact smB_sm (List.all_eq_true.mp h _ (told_mem x))
/-- the law's places -/
abbrev lE (x lap f n o v kp c t lt so : Option Val) : Ev.Env := [x, some (.loc 1), lap, f, n, o, v, kp, c, t, lt, so]
theorem lw_L1 (n : Nat) (x lap f m o kp c t lt so : Option Val) (z : Ev.D) (s : Store) : law_L1 (runP prog (n + 3)) (lE x lap f m o (some (.d z)) kp c t lt so) s = .nx (lE x lap f m o (some (.d z)) kp c t lt so) s := by
  have w1 := w_told n z s
  have w2 := w_due (n + 1) z s
  have w3 := told_ne z s
  simp only [law_L1, lE]
  walk_at "h"
def oddC : List Ev.D := [.int 0, .int 1, .int 2, .int (-1), .int 7, .int 9, .int 17, .int 61, .int (10 ^ 30)]
theorem odd_sm {x : Ev.D} (h : x ∈ oddC ++ (oddA ++ oddB)) : smB x = true := by
  have h' : (oddC ++ (oddA ++ oddB)).all smB = true := by decide +kernel
  exact List.all_eq_true.mp h' _ h
theorem pPow_30 (s : Store) : pPow (.d (.int 10)) (.d (.int 30)) s = .ok (.d (.int (10 ^ 30))) s := rfl
theorem w_member (n : Nat) (x lap f m o v' kp c t lt so : Option Val) {s : Store} (h : Sc s []) : ∃ y s', call (runP prog (n + 3)) 15 (ac (v 1) (ac (lst (ac (k (.int 0)) (ac (k (.int 1)) (ac (k (.int 2)) (ac (e1 pNeg (k (.int 1))) (ac (k (.int 7)) (ac (k (.int 9)) (ac (k (.int 17)) (ac (k (.int 61)) (ac (e2 pPow (k (.int 10)) (k (.int 30))) (ac (call (runP prog (n + 3)) 17 (ac (v 1) (a0))) (a0)))))))))))) (a0))) (lE x lap f m o v' kp c t lt so) s = .ok (.d y) s' ∧ smB y = true ∧ Sc s' [] := by
  obtain ⟨d, s1, w, hd, h1⟩ := w_odd n h okR_nil
  have pw := pPow_30
  obtain ⟨y, s2, w2, hy, h2⟩ := w_of (n + 1) (xs := [.int 0, .int 1, .int 2, .int (-1), .int 7, .int 9, .int 17, .int 61, .int (10 ^ 30), d]) (by simp) (by simp) h1
  refine ⟨y, s2, ?_, odd_sm ?_, h2⟩
  · clear hd hy h h1 h2
    simp only [lE]
    walk_at "h"
  · simp only [List.mem_cons, List.not_mem_nil, or_false] at hy
    rcases hy with rfl | rfl | rfl | rfl | rfl | rfl | rfl | rfl | rfl | rfl
    all_goals first | exact List.mem_append_right _ hd | simp [oddC]
/-- a fabric's numbers -/
structure Fb (W H T K P : Int) : Prop where
  w0 : 1 ≤ W
  w1 : W ≤ 16
  h0 : 1 ≤ H
  h1 : H ≤ 16
  t0 : 1 ≤ T
  t1 : T ≤ 60
  k0 : 2 ≤ K
  k1 : K ≤ 6
  p0 : 1 ≤ P
  p1 : P ≤ 8
theorem Fb.none {W H T K P : Int} (o : Fb W H T K P) : fabFault (fab W H T K P) = .none := by
  obtain ⟨w0, w1, h0, h1, t0, t1, k0, k1, p0, p1⟩ := o
  have e1 : inB (.int W) 1 16 = true := by simp [inB, *]
  have e2 : inB (.int H) 1 16 = true := by simp [inB, *]
  have e3 : inB (.int T) 1 60 = true := by simp [inB, *]
  have e4 : inB (.int K) 2 6 = true := by simp [inB, *]
  have e5 : inB (.int P) 1 8 = true := by simp [inB, *]
  simp only [fabFault, e1, e2, e3, e4, e5, if_true]
theorem pAdd_tA {a b : List Ev.D} {s : Store} (h : a.length + b.length ≤ 1000) : pAdd (.d (.tup a)) (.d (.tup b)) s = .ok (.d (.tup (a ++ b))) s := pAdd_tup (Nat.le_trans h (le_lineN rfl))
theorem sm_value {W H T K P : Int} (o : Fb W H T K P) {y : Ev.D} (hy : smB y = true) (i : Int) : Sm (.tup (cut [.int W, .int H, .int T, .int K, .int P] none (some i) ++ [y] ++ cut [.int W, .int H, .int T, .int K, .int P] (some (i + 1)) none)) := by
  have l1 := cut_le [Ev.D.int W, .int H, .int T, .int K, .int P] none (some i)
  have l2 := cut_le [Ev.D.int W, .int H, .int T, .int K, .int P] (some (i + 1)) none
  have a : ∀ z ∈ cut [Ev.D.int W, .int H, .int T, .int K, .int P] none (some i) ++ [y] ++ cut [.int W, .int H, .int T, .int K, .int P] (some (i + 1)) none, smB z = true := fun z hz => by
    have five : z ∈ [Ev.D.int W, .int H, .int T, .int K, .int P] → smB z = true := fun h => by
      have : ∃ j : Int, z = .int j ∧ 0 ≤ j ∧ j ≤ 100 := by
        obtain ⟨w0, w1, h0, h1, t0, t1, k0, k1, p0, p1⟩ := o
        simp only [List.mem_cons, List.not_mem_nil, or_false] at h
        rcases h with rfl | rfl | rfl | rfl | rfl <;> exact ⟨_, rfl, by omega, by omega⟩
      obtain ⟨j, rfl, j0, j1⟩ := this
      unfold smB
      rw [good_int (by omega) (by omega), show wt (.int j) = 61 by rw [wt], show (toPy (.int j)).depth = 0 by simp [toPy, PyData.depth]]
      decide
    rcases List.mem_append.mp hz with hz | hz
    · rcases List.mem_append.mp hz with hz | hz
      · exact five (cut_mem hz)
      · rw [List.mem_singleton.mp hz]; exact hy
    · exact five (cut_mem hz)
  have a' : ∀ z ∈ cut [Ev.D.int W, .int H, .int T, .int K, .int P] none (some i) ++ [y] ++ cut [.int W, .int H, .int T, .int K, .int P] (some (i + 1)) none, good z = true ∧ wt z ≤ 300 ∧ (toPy z).depth ≤ 10 := fun z hz => by
    have := a z hz
    simp only [smB, Bool.and_eq_true, decide_eq_true_eq] at this
    exact ⟨this.1.1, this.1.2, this.2⟩
  refine Sm.tup (fun z hz => ⟨(a' z hz).1, Nat.le_trans (a' z hz).2.2 (by decide)⟩) ?_
  have w := wts_le (m := 300) fun z hz => (a' z hz).2.1
  rw [List.length_append, List.length_append, List.length_singleton] at w
  have e5 : [Ev.D.int W, .int H, .int T, .int K, .int P].length = 5 := rfl
  rw [e5] at l1 l2
  have : wts (cut [Ev.D.int W, .int H, .int T, .int K, .int P] none (some i) ++ [y] ++ cut [.int W, .int H, .int T, .int K, .int P] (some (i + 1)) none) ≤ 11 * 302 := Nat.le_trans w (Nat.mul_le_mul_right _ (by omega))
  omega
theorem lw_L2 (n : Nat) {W H T K P : Int} (o : Fb W H T K P) (x lap a5 a6 a7 c t lt so : Option Val) (i : Int) {s : Store} (h : Sc s []) :
    ∃ b5 b6 b7 s', law_L2 (runP prog (n + 3)) (lE x lap (some (.d (fab W H T K P))) (some (.d (.int i))) a5 a6 a7 c t lt so) s = .nx (lE x lap (some (.d (fab W H T K P))) (some (.d (.int i))) b5 b6 b7 c t lt so) s' ∧ Sc s' [] := by
  obtain ⟨y, s1, w, hy, h1⟩ := w_member n x lap (some (.d (fab W H T K P))) (some (.d (.int i))) a5 a6 a7 c t lt so h
  have l1 := cut_le [Ev.D.int W, .int H, .int T, .int K, .int P] none (some i)
  have l2 := cut_le [Ev.D.int W, .int H, .int T, .int K, .int P] (some (i + 1)) none
  have e5 : [Ev.D.int W, .int H, .int T, .int K, .int P].length = 5 := rfl
  rw [e5] at l1 l2
  have p1 := pAdd_tA (s := s1) (a := cut [Ev.D.int W, .int H, .int T, .int K, .int P] none (some i)) (b := [y]) (by rw [List.length_singleton]; omega)
  have p2 := pAdd_tA (s := s1) (a := cut [Ev.D.int W, .int H, .int T, .int K, .int P] none (some i) ++ [y]) (b := cut [.int W, .int H, .int T, .int K, .int P] (some (i + 1)) none) (by rw [List.length_append, List.length_singleton]; omega)
  have sv := (sm_value o hy i).repr s1
  generalize hV : (cut [Ev.D.int W, .int H, .int T, .int K, .int P] none (some i) ++ [y] ++ cut [.int W, .int H, .int T, .int K, .int P] (some (i + 1)) none) = V at p2 sv
  have w1 := w_told n (.tup V) s1
  have w2 := w_due (n + 1) (.tup V) s1
  have ts := (told_sm (.tup V)).repr s1
  refine ⟨some (.d y), some (.d (.tup V)), some (.d (.str (shown (.tup V)))), s1, ?_, h1⟩
  unfold law_L2
  refine sq_nx (E1 := lE x lap (some (.d (fab W H T K P))) (some (.d (.int i))) (some (.d y)) a6 a7 c t lt so) (s1 := s1) (by rw [x_setn, w]; rfl) ?_
  clear l1 l2 e5 hV hy h h1 w o
  simp only [lE, fab]
  walk_at "h"
end K61
end
section
set_option linter.all false
set_option autoImplicit false
set_option maxRecDepth 100000
set_option maxHeartbeats 1000000
namespace K61
open PySem L2 Ev
local macro_rules | `(tactic| walk_at "s") => `(tactic| simp only [x_k, x_e1, x_e2, x_a0, x_ac, x_call, x_tup, x_lst, x_raise, kRaise_t, kRaise_p, x_for, kFor_v, kTurn_nx, kTurn_ct, kTurn_bk, kTurn_rt, kTurn_exc, kTurn_ite, x_iSeq, kSeq_t, kSeq_l, x_iEnum, enumS_t, enumS_l, x_iR1, x_iR2, pNe_int, pEq_int, pNe_str, dec_self, decide_true, decide_false, if_not', Bool.not_true, Bool.not_false, Bool.not_not, Bool.false_or, Bool.true_or, Bool.or_false, Bool.or_true, Bool.and_true, Bool.true_and, Bool.false_and, Bool.and_false, finR_bif, finR_rt, finR_nx, finR_exc, forV_nil', forV_cons', List.replicate_succ, List.replicate_zero, Nat.reduceSub, mkT0, mkT1, mkT2, mkT3, mkT4, mkT5, mkT6, mkL0, mkL1, mkL2, mkL3, mkL4, mkL5, mkL6, mkL7, mkL8, mkL9, mkL10, mkL11, x_bb, x_bv, kBb_bl, kBv_bl, kBv_int, kBv_non, x_bnot, x_band, x_bor, ite_and, ite_or, x_yes, x_eand, x_eor, x_enot, kAnd_bl, kOr_bl, kNot_bl, ite_andv, ite_orv, x_chain, kCh_bl, x_eif, x_sq, x_nil, x_setn, x_m1, x_sl, x_pn, x_ps, kPs_i, pSl_l, pSl_t, pTup_t, pTup_l, pList_t, pList_l, x_sett, x_seti, x_exp, x_ret, x_retN, x_if, next_ite, bind_ite, ofRes_ite, ixt0, ixt1, ixt2, ixt3, ixt4, ixt5, ixt6, ixt7, ixl0, ixl1, ixl2, ixl3, ixl4, ixl5, ixl6, ixl7, exF_one, x_len_tup, x_len_lst, x_isi, x_isN, x_notN, if_false', if_true', x_v, List.getElem?_cons_zero, List.getElem?_cons_succ, List.set_cons_zero, List.set_cons_succ, Res.bind_ok, Res.bind_exc, Res.bind_fail, ofRes_ok, ofRes_exc, ofRes_fail, SRes.next_nx, SRes.next_rt, SRes.next_exc, SRes.next_fail, pAdd_ok, pSub_ok, pLt_ok, pLe_ok, pGt_ok, pGe_ok, pInt_ok, pNeg_ok, pMax_ok, pMin_ok, List.map_cons, List.map_nil, List.cons_append, List.nil_append, List.append_nil])
local macro_rules | `(tactic| walk_at "h") => `(tactic| simp only [*, x_k, x_e1, x_e2, x_a0, x_ac, x_call, x_tup, x_lst, x_raise, kRaise_t, kRaise_p, x_for, kFor_v, kTurn_nx, kTurn_ct, kTurn_bk, kTurn_rt, kTurn_exc, kTurn_ite, x_iSeq, kSeq_t, kSeq_l, x_iEnum, enumS_t, enumS_l, x_iR1, x_iR2, pNe_int, pEq_int, pNe_str, dec_self, decide_true, decide_false, if_not', Bool.not_true, Bool.not_false, Bool.not_not, Bool.false_or, Bool.true_or, Bool.or_false, Bool.or_true, Bool.and_true, Bool.true_and, Bool.false_and, Bool.and_false, finR_bif, finR_rt, finR_nx, finR_exc, forV_nil', forV_cons', List.replicate_succ, List.replicate_zero, Nat.reduceSub, mkT0, mkT1, mkT2, mkT3, mkT4, mkT5, mkT6, mkL0, mkL1, mkL2, mkL3, mkL4, mkL5, mkL6, mkL7, mkL8, mkL9, mkL10, mkL11, x_bb, x_bv, kBb_bl, kBv_bl, kBv_int, kBv_non, x_bnot, x_band, x_bor, ite_and, ite_or, x_yes, x_eand, x_eor, x_enot, kAnd_bl, kOr_bl, kNot_bl, ite_andv, ite_orv, x_chain, kCh_bl, x_eif, x_sq, x_nil, x_setn, x_m1, x_sl, x_pn, x_ps, kPs_i, pSl_l, pSl_t, pTup_t, pTup_l, pList_t, pList_l, x_sett, x_seti, x_exp, x_ret, x_retN, x_if, next_ite, bind_ite, ofRes_ite, ixt0, ixt1, ixt2, ixt3, ixt4, ixt5, ixt6, ixt7, ixl0, ixl1, ixl2, ixl3, ixl4, ixl5, ixl6, ixl7, exF_one, x_len_tup, x_len_lst, x_isi, x_isN, x_notN, if_false', if_true', x_v, List.getElem?_cons_zero, List.getElem?_cons_succ, List.set_cons_zero, List.set_cons_succ, Res.bind_ok, Res.bind_exc, Res.bind_fail, ofRes_ok, ofRes_exc, ofRes_fail, SRes.next_nx, SRes.next_rt, SRes.next_exc, SRes.next_fail, pAdd_ok, pSub_ok, pLt_ok, pLe_ok, pGt_ok, pGe_ok, pInt_ok, pNeg_ok, pMax_ok, pMin_ok, List.map_cons, List.map_nil, List.cons_append, List.nil_append, List.append_nil])
theorem st_fab (n : Nat) (x lap f m o v' kp c t lt so : Option Val) {s : Store} (h : Sc s []) :
    ∃ W H T K P s', Fb W H T K P ∧ sSet (tn 3) (tup (ac (e2 pAdd (k (.int 1)) (call (runP prog (n + 1)) 14 (ac (v 1) (ac (k (.int 16)) (a0))))) (ac (e2 pAdd (k (.int 1)) (call (runP prog (n + 1)) 14 (ac (v 1) (ac (k (.int 16)) (a0))))) (ac (e2 pAdd (k (.int 1)) (call (runP prog (n + 1)) 14 (ac (v 1) (ac (k (.int 60)) (a0))))) (ac (e2 pAdd (k (.int 2)) (call (runP prog (n + 1)) 14 (ac (v 1) (ac (k (.int 5)) (a0))))) (ac (e2 pAdd (k (.int 1)) (call (runP prog (n + 1)) 14 (ac (v 1) (ac (k (.int 8)) (a0))))) (a0)))))))
      (lE x lap f m o v' kp c t lt so) s = .nx (lE x lap (some (.d (fab W H T K P))) m o v' kp c t lt so) s' ∧ Sc s' [] := by
  obtain ⟨k1, s1, w1, b1, h1⟩ := w_pick n 16 (by decide) h
  obtain ⟨k2, s2, w2, b2, h2⟩ := w_pick n 16 (by decide) h1
  obtain ⟨k3, s3, w3, b3, h3⟩ := w_pick n 60 (by decide) h2
  obtain ⟨k4, s4, w4, b4, h4⟩ := w_pick n 5 (by decide) h3
  obtain ⟨k5, s5, w5, b5, h5⟩ := w_pick n 8 (by decide) h4
  replace w1 : runP prog (n + 1) 14 [.loc 1, .d (.int 16)] s = .ok (.d (.int k1)) s1 := w1
  replace w2 : runP prog (n + 1) 14 [.loc 1, .d (.int 16)] s1 = .ok (.d (.int k2)) s2 := w2
  replace w3 : runP prog (n + 1) 14 [.loc 1, .d (.int 60)] s2 = .ok (.d (.int k3)) s3 := w3
  replace w4 : runP prog (n + 1) 14 [.loc 1, .d (.int 5)] s3 = .ok (.d (.int k4)) s4 := w4
  replace w5 : runP prog (n + 1) 14 [.loc 1, .d (.int 8)] s4 = .ok (.d (.int k5)) s5 := w5
  refine ⟨1 + k1, 1 + k2, 1 + k3, 2 + k4, 1 + k5, s5, ⟨by omega, by omega, by omega, by omega, by omega, by omega, by omega, by omega, by omega, by omega⟩, ?_, h5⟩
  clear h h1 h2 h3 h4 h5 b1 b2 b3 b4 b5
  simp only [lE]
  walk_at "h"
theorem lw_L2s (n : Nat) {W H T K P : Int} (o : Fb W H T K P) (x lap a4 a5 a6 a7 c t lt so : Option Val) {s : Store} (h : Sc s []) :
    ∃ b4 b5 b6 b7 s', forV (tn 4) (law_L2 (runP prog (n + 3))) ((rng 0 5).map .d) (lE x lap (some (.d (fab W H T K P))) a4 a5 a6 a7 c t lt so) s = .nx (lE x lap (some (.d (fab W H T K P))) b4 b5 b6 b7 c t lt so) s' ∧ Sc s' [] := by
  obtain ⟨E', s', hw, ⟨b4, b5, b6, b7, rfl⟩, h'⟩ := forV_pre0 (t := tn 4) (b := law_L2 (runP prog (n + 3))) (fun _ E s' => (∃ a4 a5 a6 a7, E = lE x lap (some (.d (fab W H T K P))) a4 a5 a6 a7 c t lt so) ∧ Sc s' []) (E := lE x lap (some (.d (fab W H T K P))) a4 a5 a6 a7 c t lt so) (s := s) (rng 0 5) ⟨⟨a4, a5, a6, a7, rfl⟩, h⟩ fun pre q post e E s1 ⟨⟨a4, a5, a6, a7, hE⟩, h1⟩ => by
    subst hE
    obtain ⟨i, rfl, _, _⟩ := rng_mem (show q ∈ rng 0 5 by rw [e]; simp)
    obtain ⟨b5, b6, b7, s2, w, h2⟩ := lw_L2 n o x lap a5 a6 a7 c t lt so i h1
    exact ⟨_, s1, _, s2, rfl, w, ⟨_, _, _, _, rfl⟩, h2⟩
  exact ⟨b4, b5, b6, b7, s', hw, h'⟩
theorem lw_L1s (n : Nat) (x lap f m o a6 kp c t lt so : Option Val) (s : Store) (zs : List Ev.D) :
    ∃ b6, forV (tn 6) (law_L1 (runP prog (n + 3))) (zs.map .d) (lE x lap f m o a6 kp c t lt so) s = .nx (lE x lap f m o b6 kp c t lt so) s := by
  obtain ⟨E', s', hw, ⟨b6, rfl⟩, rfl⟩ := forV_pre0 (t := tn 6) (b := law_L1 (runP prog (n + 3))) (fun _ E s' => (∃ a6, E = lE x lap f m o a6 kp c t lt so) ∧ s = s') (E := lE x lap f m o a6 kp c t lt so) (s := s) zs ⟨⟨a6, rfl⟩, rfl⟩ fun pre q post e E s1 ⟨⟨a6, hE⟩, h1⟩ => by
    subst hE h1
    exact ⟨_, s, _, s, rfl, lw_L1 n x lap f m o kp c t lt so q s, ⟨_, rfl⟩, rfl⟩
  exact ⟨b6, hw⟩
/-- the list of the values for the second loop -/
theorem lw_vals (n : Nat) (W H T K P : Int) (x lap m o a6 kp c t lt so : Option Val) {s : Store} (h : Sc s []) :
    ∃ (zs : List Ev.D) (s' : Store), Ev.iSeq (lst (ac (e1 pList (v 3)) (ac (e2 pAdd (v 3) (tup (ac (k (.int 1)) (a0)))) (ac (sl (v 3) (pn) (ps (k (.int 4)))) (ac (call (runP prog (n + 3)) 17 (ac (v 1) (a0))) (ac (tup (ac (v 3) (a0))) (a0))))))) (lE x lap (some (.d (fab W H T K P))) m o a6 kp c t lt so) s = .ok (.vals (zs.map .d)) s' ∧ Sc s' [] := by
  obtain ⟨d, s1, w, _, h1⟩ := w_odd n h okR_nil
  have p1 := pAdd_tA (s := s) (a := [.int W, .int H, .int T, .int K, .int P]) (b := [.int 1]) (by simp)
  refine ⟨[.lst [.int W, .int H, .int T, .int K, .int P], .tup [.int W, .int H, .int T, .int K, .int P, .int 1], .tup (cut [.int W, .int H, .int T, .int K, .int P] none (some 4)), d, .tup [fab W H T K P]], s1, ?_, h1⟩
  clear h h1
  replace p1 : pAdd (.d (.tup [.int W, .int H, .int T, .int K, .int P])) (.d (.tup [.int 1])) s = .ok (.d (.tup [.int W, .int H, .int T, .int K, .int P, .int 1])) s := p1
  simp only [lE, fab]
  walk_at "h"
theorem st_counts (n : Nat) (x lap f m o v' kp a8 t lt so : Option Val) {s : Store} (h : Sc s []) :
    ∃ c g s', c ≤ 300 ∧ sSet (tn 8) (lst (ac (call (runP prog (n + 2)) 15 (ac (v 1) (ac (lst (ac (k (.int 0)) (ac (k (.int 1)) (ac (k (.int 4)) (ac (k (.int 5)) (ac (k (.int 9)) (ac (k (.int 10)) (ac (k (.int 100)) (ac (k (.int 101)) (ac (k (.int 256)) (ac (k (.int 257)) (ac (call (runP prog (n + 2)) 14 (ac (v 1) (ac (k (.int 300)) (a0)))) (a0))))))))))))) (a0)))) (ac (call (runP prog (n + 2)) 15 (ac (v 1) (ac (lst (ac (k (.int 0)) (ac (k (.int 1)) (ac (k (.int 60)) (ac (k (.int 61)) (ac (call (runP prog (n + 2)) 14 (ac (v 1) (ac (k (.int 70)) (a0)))) (a0))))))) (a0)))) (a0))))
      (lE x lap f m o v' kp a8 t lt so) s = .nx (lE x lap f m o v' kp (some (.d (.lst [.int c, .int g]))) t lt so) s' ∧ Sc s' [] := by
  obtain ⟨k1, s1, w1, b1, h1⟩ := w_pick (n + 1) 300 (by decide) h
  obtain ⟨y, s2, w2, hy, h2⟩ := w_of n (xs := [.int 0, .int 1, .int 4, .int 5, .int 9, .int 10, .int 100, .int 101, .int 256, .int 257, .int k1]) (by simp) (by simp) h1
  obtain ⟨k2, s3, w3, b3, h3⟩ := w_pick (n + 1) 70 (by decide) h2
  obtain ⟨z, s4, w4, hz, h4⟩ := w_of n (xs := [.int 0, .int 1, .int 60, .int 61, .int k2]) (by simp) (by simp) h3
  have ey : ∃ c : Int, y = .int c ∧ c ≤ 300 := by
    simp only [List.mem_cons, List.not_mem_nil, or_false] at hy
    rcases hy with rfl | rfl | rfl | rfl | rfl | rfl | rfl | rfl | rfl | rfl | rfl <;> exact ⟨_, rfl, by omega⟩
  have ez : ∃ c : Int, z = .int c := by
    simp only [List.mem_cons, List.not_mem_nil, or_false] at hz
    rcases hz with rfl | rfl | rfl | rfl | rfl <;> exact ⟨_, rfl⟩
  obtain ⟨c, rfl, hc⟩ := ey
  obtain ⟨g, rfl⟩ := ez
  replace w1 : runP prog (n + 2) 14 [.loc 1, .d (.int 300)] s = .ok (.d (.int k1)) s1 := w1
  replace w3 : runP prog (n + 2) 14 [.loc 1, .d (.int 70)] s2 = .ok (.d (.int k2)) s3 := w3
  refine ⟨c, g, s4, hc, ?_, h4⟩
  clear h h1 h2 h3 h4 hy hz b1 b3 hc
  simp only [lE]
  walk_at "h"
theorem st_turns (n : Nat) (x lap f m o v' kp t lt so : Option Val) (c g : Int) {s : Store} (h : Sc s []) :
    ∃ i j s', i ≤ 500 ∧ j ≤ 500 ∧ sSet (tn 8) (e2 pAdd (v 8) (lc [9] (tn 9) (iRng1 (k (.int 2))) (yes) (law_x2 (runP prog (n + 2))))) (lE x lap f m o v' kp (some (.d (.lst [.int c, .int g]))) t lt so) s = .nx (lE x lap f m o v' kp (some (.d (.lst [.int c, .int g, .int i, .int j]))) t lt so) s' ∧ Sc s' [] := by
  have i0 := kR1_ok (s := s) (i := 2) rfl
  obtain ⟨ys, s1, w, hq, h1, hl⟩ := lc_inv (E := lE x lap f m o v' kp (some (.d (.lst [.int c, .int g]))) t lt so) (ws := [9]) (g := tn 9) (ic := iRng1 (k (.int 2))) (c := yes) (e := law_x2 (runP prog (n + 2))) (xs := rng 0 2) (s := s) (s0 := s) (fun s => Sc s []) (fun y => ∃ i : Int, y = .int i ∧ i ≤ 500) (by rw [x_iR1, x_k, Res.bind_ok, i0]) (by rw [rng_len]; exact len_line (by decide)) h fun q hq s h => by
    obtain ⟨k1, s1, w1, b1, h1⟩ := w_pick (n + 1) 500 (by decide) h
    obtain ⟨y, s2, w2, hy, h2⟩ := w_of n (xs := [.int 0, .int 1, .int 8, .int 9, .int 96, .int 97, .int k1]) (by simp) (by simp) h1
    have ey : ∃ c : Int, y = .int c ∧ c ≤ 500 := by
      simp only [List.mem_cons, List.not_mem_nil, or_false] at hy
      rcases hy with rfl | rfl | rfl | rfl | rfl | rfl | rfl <;> exact ⟨_, rfl, by omega⟩
    replace w1 : runP prog (n + 2) 14 [.loc 1, .d (.int 500)] s = .ok (.d (.int k1)) s1 := w1
    refine ⟨[x, some (.loc 1), lap, f, m, o, v', kp, some (.d (.lst [.int c, .int g])), some (.d q), lt, so], y, s2, rfl, rfl, ?_, ey, h2⟩
    clear hq h h1 h2 hy b1 ey i0
    simp only [law_x2]
    walk_at "h"
  rw [rng_len] at hl
  obtain ⟨a, b, rfl⟩ : ∃ a b, ys = [a, b] := by
    match ys, hl with
    | [a, b], _ => exact ⟨a, b, rfl⟩
  obtain ⟨i, rfl, hi⟩ := hq a (by simp)
  obtain ⟨j, rfl, hj⟩ := hq b (by simp)
  have pa := pAdd_lst (a := [.int c, .int g]) (b := [.int i, .int j]) (s := s1) (le_lineN rfl)
  refine ⟨i, j, s1, hi, hj, ?_, h1⟩
  rw [x_setn, x_e2, x_v]
  simp only [lE, List.getElem?_cons_zero, List.getElem?_cons_succ, Res.bind_ok]
  rw [w, Res.bind_ok, pa]
  rfl
theorem st_check (n : Nat) (x f m o v' kp t lt so : Option Val) (lap c g i j : Int) (s : Store) (hc : c ≤ 300) (hi : i ≤ 500) (hj : j ≤ 500) :
    sIf (bb (e2 pNe (e1 pRepr (call (runP prog (n + 3)) 27 (ac (e2 pAdd (k (.int 2)) (e2 pMod (v 2) (k (.int 5)))) (ac (e2 pIx (v 8) (k (.int 0))) (ac (e2 pIx (v 8) (k (.int 1))) (ac (e2 pIx (v 8) (k (.int 2))) (ac (e2 pIx (v 8) (k (.int 3))) (a0)))))))) (e1 pRepr (call (runP prog (n + 3)) 28 (ac (e2 pAdd (k (.int 2)) (e2 pMod (v 2) (k (.int 5)))) (ac (e2 pIx (v 8) (k (.int 0))) (ac (e2 pIx (v 8) (k (.int 1))) (ac (e2 pIx (v 8) (k (.int 2))) (ac (e2 pIx (v 8) (k (.int 3))) (a0)))))))))) (sq (sRet (k (.bl false))) (sNil)) (sNil)
      (lE x (some (.d (.int lap))) f m o v' kp (some (.d (.lst [.int c, .int g, .int i, .int j]))) t lt so) s = .nx (lE x (some (.d (.int lap))) f m o v' kp (some (.d (.lst [.int c, .int g, .int i, .int j]))) t lt so) s := by
  obtain ⟨d, sm, w1, w2⟩ := w_counts n (2 + lap % 5) c g i j s (by omega) (by omega) hc hi hj
  have md := pMod_ok (i := lap) (j := 5) s (by decide)
  have r := sm.repr s
  clear hc hi hj sm
  simp only [lE]
  walk_at "h"
theorem st_little (n : Nat) (x lap f m o v' kp c t lt so : Option Val) {s : Store} (h : Sc s []) :
    ∃ W H T P s', Sm5 W H T P ∧ sSet (tn 10) (tup (ac (e2 pAdd (k (.int 1)) (call (runP prog (n + 1)) 14 (ac (v 1) (ac (k (.int 4)) (a0))))) (ac (e2 pAdd (k (.int 1)) (call (runP prog (n + 1)) 14 (ac (v 1) (ac (k (.int 4)) (a0))))) (ac (e2 pAdd (k (.int 1)) (call (runP prog (n + 1)) 14 (ac (v 1) (ac (k (.int 3)) (a0))))) (ac (k (.int 2)) (ac (e2 pAdd (k (.int 1)) (call (runP prog (n + 1)) 14 (ac (v 1) (ac (k (.int 3)) (a0))))) (a0)))))))
      (lE x lap f m o v' kp c t lt so) s = .nx (lE x lap f m o v' kp c t (some (.d (fab W H T 2 P))) so) s' ∧ Sc s' [] := by
  obtain ⟨k1, s1, w1, b1, h1⟩ := w_pick n 4 (by decide) h
  obtain ⟨k2, s2, w2, b2, h2⟩ := w_pick n 4 (by decide) h1
  obtain ⟨k3, s3, w3, b3, h3⟩ := w_pick n 3 (by decide) h2
  obtain ⟨k4, s4, w4, b4, h4⟩ := w_pick n 3 (by decide) h3
  replace w1 : runP prog (n + 1) 14 [.loc 1, .d (.int 4)] s = .ok (.d (.int k1)) s1 := w1
  replace w2 : runP prog (n + 1) 14 [.loc 1, .d (.int 4)] s1 = .ok (.d (.int k2)) s2 := w2
  replace w3 : runP prog (n + 1) 14 [.loc 1, .d (.int 3)] s2 = .ok (.d (.int k3)) s3 := w3
  replace w4 : runP prog (n + 1) 14 [.loc 1, .d (.int 3)] s3 = .ok (.d (.int k4)) s4 := w4
  refine ⟨1 + k1, 1 + k2, 1 + k3, 1 + k4, s4, ⟨by omega, by omega, by omega, by omega, by omega, by omega, by omega, by omega⟩, ?_, h4⟩
  clear h h1 h2 h3 h4 b1 b2 b3 b4
  simp only [lE]
  walk_at "h"
theorem lw_L3 (n : Nat) (x f m o v' kp a8 t lt so : Option Val) (lap : Int) {s : Store} (h : Sc s []) :
    ∃ f' m' o' v'' kp' a8' t' lt' s', law_L3 (runP prog (n + 5)) (lE x (some (.d (.int lap))) f m o v' kp a8 t lt so) s = .nx (lE x (some (.d (.int lap))) f' m' o' v'' kp' a8' t' lt' so) s' ∧ Sc s' [] := by
  obtain ⟨W, H, T, K, P, s1, fb, e1, h1⟩ := st_fab (n + 4) x (some (.d (.int lap))) f m o v' kp a8 t lt so h
  obtain ⟨b4, b5, b6, b7, s2, e2, h2⟩ := lw_L2s (n + 2) fb x (some (.d (.int lap))) m o v' kp a8 t lt so h1
  obtain ⟨zs, s3, e3, h3⟩ := lw_vals (n + 2) W H T K P x (some (.d (.int lap))) b4 b5 b6 b7 a8 t lt so h2
  obtain ⟨b6', e4⟩ := lw_L1s (n + 2) x (some (.d (.int lap))) (some (.d (fab W H T K P))) b4 b5 b6 b7 a8 t lt so s3 zs
  obtain ⟨c, g, s5, hc, e5, h5⟩ := st_counts (n + 3) x (some (.d (.int lap))) (some (.d (fab W H T K P))) b4 b5 b6' b7 a8 t lt so h3
  obtain ⟨i, j, s6, hi, hj, e6, h6⟩ := st_turns (n + 3) x (some (.d (.int lap))) (some (.d (fab W H T K P))) b4 b5 b6' b7 t lt so c g h5
  have e7 := st_check (n + 2) x (some (.d (fab W H T K P))) b4 b5 b6' b7 t lt so lap c g i j s6 hc hi hj
  obtain ⟨W', H', T', P', s8, sm, e8, h8⟩ := st_little (n + 4) x (some (.d (.int lap))) (some (.d (fab W H T K P))) b4 b5 b6' b7 (some (.d (.lst [.int c, .int g, .int i, .int j]))) t lt so h6
  obtain ⟨s9, w9, h9⟩ := w_tiles_right n sm h8 okR_nil
  refine ⟨some (.d (fab W H T K P)), b4, b5, b6', b7, some (.d (.lst [.int c, .int g, .int i, .int j])), t, some (.d (fab W' H' T' 2 P')), s9, ?_, h9⟩
  refine sq_nx e1 (sq_nx (E1 := lE x (some (.d (.int lap))) (some (.d (fab W H T K P))) m o v' kp a8 t lt so) (s1 := s1) ?_ (sq_nx (for_vals (xs := (rng 0 5).map .d) (by rw [x_iR1, x_k, Res.bind_ok, kR1_ok rfl]) e2) (sq_nx (for_vals e3 e4) (sq_nx e5 (sq_nx e6 (sq_nx e7 (sq_nx e8 ?_)))))))
  · have w1 := w_told (n + 2) (fab W H T K P) s1
    rw [fb.none] at w1
    replace w1 : runP prog (n + 5) 24 [.d (.tup [.int W, .int H, .int T, .int K, .int P])] s1 = .ok (.d (.lst [])) s1 := w1
    have w2 : pNe (.d (.lst [])) (.d (.lst [])) s1 = .ok (.d (.bl false)) s1 := pNe_lst_nil rfl
    clear e1 e2 e3 e4 e5 e6 e7 e8 w9 h h1 h2 h3 h5 h6 h8 h9 hc hi hj sm fb
    simp only [lE, fab]
    walk_at "h"
  · clear e1 e2 e3 e4 e5 e6 e7 e8 h h1 h2 h3 h5 h6 h8 h9 hc hi hj sm fb
    simp only [lE, fab] at w9 ⊢
    walk_at "h"
end K61
end
section
set_option linter.all false
set_option autoImplicit false
set_option maxRecDepth 100000
set_option maxHeartbeats 1000000
namespace K61
open PySem L2 Ev
local macro_rules | `(tactic| walk_at "s") => `(tactic| simp only [x_k, x_e1, x_e2, x_a0, x_ac, x_call, x_tup, x_lst, x_raise, kRaise_t, kRaise_p, x_for, kFor_v, kTurn_nx, kTurn_ct, kTurn_bk, kTurn_rt, kTurn_exc, kTurn_ite, x_iSeq, kSeq_t, kSeq_l, x_iEnum, enumS_t, enumS_l, x_iR1, x_iR2, pNe_int, pEq_int, pNe_str, dec_self, decide_true, decide_false, if_not', Bool.not_true, Bool.not_false, Bool.not_not, Bool.false_or, Bool.true_or, Bool.or_false, Bool.or_true, Bool.and_true, Bool.true_and, Bool.false_and, Bool.and_false, finR_bif, finR_rt, finR_nx, finR_exc, forV_nil', forV_cons', List.replicate_succ, List.replicate_zero, Nat.reduceSub, mkT0, mkT1, mkT2, mkT3, mkT4, mkT5, mkT6, mkL0, mkL1, mkL2, mkL3, mkL4, mkL5, mkL6, mkL7, mkL8, mkL9, mkL10, mkL11, x_bb, x_bv, kBb_bl, kBv_bl, kBv_int, kBv_non, x_bnot, x_band, x_bor, ite_and, ite_or, x_yes, x_eand, x_eor, x_enot, kAnd_bl, kOr_bl, kNot_bl, ite_andv, ite_orv, x_chain, kCh_bl, x_eif, x_sq, x_nil, x_setn, x_m1, x_sl, x_pn, x_ps, kPs_i, pSl_l, pSl_t, pTup_t, pTup_l, pList_t, pList_l, x_sett, x_seti, x_exp, x_ret, x_retN, x_if, next_ite, bind_ite, ofRes_ite, ixt0, ixt1, ixt2, ixt3, ixt4, ixt5, ixt6, ixt7, ixl0, ixl1, ixl2, ixl3, ixl4, ixl5, ixl6, ixl7, exF_one, x_len_tup, x_len_lst, x_isi, x_isN, x_notN, if_false', if_true', x_v, List.getElem?_cons_zero, List.getElem?_cons_succ, List.set_cons_zero, List.set_cons_succ, Res.bind_ok, Res.bind_exc, Res.bind_fail, ofRes_ok, ofRes_exc, ofRes_fail, SRes.next_nx, SRes.next_rt, SRes.next_exc, SRes.next_fail, pAdd_ok, pSub_ok, pLt_ok, pLe_ok, pGt_ok, pGe_ok, pInt_ok, pNeg_ok, pMax_ok, pMin_ok, List.map_cons, List.map_nil, List.cons_append, List.nil_append, List.append_nil])
local macro_rules | `(tactic| walk_at "h") => `(tactic| simp only [*, x_k, x_e1, x_e2, x_a0, x_ac, x_call, x_tup, x_lst, x_raise, kRaise_t, kRaise_p, x_for, kFor_v, kTurn_nx, kTurn_ct, kTurn_bk, kTurn_rt, kTurn_exc, kTurn_ite, x_iSeq, kSeq_t, kSeq_l, x_iEnum, enumS_t, enumS_l, x_iR1, x_iR2, pNe_int, pEq_int, pNe_str, dec_self, decide_true, decide_false, if_not', Bool.not_true, Bool.not_false, Bool.not_not, Bool.false_or, Bool.true_or, Bool.or_false, Bool.or_true, Bool.and_true, Bool.true_and, Bool.false_and, Bool.and_false, finR_bif, finR_rt, finR_nx, finR_exc, forV_nil', forV_cons', List.replicate_succ, List.replicate_zero, Nat.reduceSub, mkT0, mkT1, mkT2, mkT3, mkT4, mkT5, mkT6, mkL0, mkL1, mkL2, mkL3, mkL4, mkL5, mkL6, mkL7, mkL8, mkL9, mkL10, mkL11, x_bb, x_bv, kBb_bl, kBv_bl, kBv_int, kBv_non, x_bnot, x_band, x_bor, ite_and, ite_or, x_yes, x_eand, x_eor, x_enot, kAnd_bl, kOr_bl, kNot_bl, ite_andv, ite_orv, x_chain, kCh_bl, x_eif, x_sq, x_nil, x_setn, x_m1, x_sl, x_pn, x_ps, kPs_i, pSl_l, pSl_t, pTup_t, pTup_l, pList_t, pList_l, x_sett, x_seti, x_exp, x_ret, x_retN, x_if, next_ite, bind_ite, ofRes_ite, ixt0, ixt1, ixt2, ixt3, ixt4, ixt5, ixt6, ixt7, ixl0, ixl1, ixl2, ixl3, ixl4, ixl5, ixl6, ixl7, exF_one, x_len_tup, x_len_lst, x_isi, x_isN, x_notN, if_false', if_true', x_v, List.getElem?_cons_zero, List.getElem?_cons_succ, List.set_cons_zero, List.set_cons_succ, Res.bind_ok, Res.bind_exc, Res.bind_fail, ofRes_ok, ofRes_exc, ofRes_fail, SRes.next_nx, SRes.next_rt, SRes.next_exc, SRes.next_fail, pAdd_ok, pSub_ok, pLt_ok, pLe_ok, pGt_ok, pGe_ok, pInt_ok, pNeg_ok, pMax_ok, pMin_ok, List.map_cons, List.map_nil, List.cons_append, List.nil_append, List.append_nil])
theorem lw_L3s (n : Nat) (x f m o v' kp a8 t lt so : Option Val) {s : Store} (h : Sc s []) :
    ∃ lap' f' m' o' v'' kp' a8' t' lt' s', forV (tn 2) (law_L3 (runP prog (n + 5))) ((rng 0 6).map .d) (lE x none f m o v' kp a8 t lt so) s = .nx (lE x lap' f' m' o' v'' kp' a8' t' lt' so) s' ∧ Sc s' [] := by
  obtain ⟨E', s', hw, ⟨a2, a3, a4, a5, a6, a7, a8', a9, a10, rfl⟩, h'⟩ := forV_pre0 (t := tn 2) (b := law_L3 (runP prog (n + 5))) (fun _ E s' => (∃ lap f m o v' kp a8 t lt, E = lE x lap f m o v' kp a8 t lt so) ∧ Sc s' []) (E := lE x none f m o v' kp a8 t lt so) (s := s) (rng 0 6) ⟨⟨none, f, m, o, v', kp, a8, t, lt, rfl⟩, h⟩ fun pre q post e E s1 ⟨⟨lap, f, m, o, v', kp, a8, t, lt, hE⟩, h1⟩ => by
    subst hE
    obtain ⟨i, rfl, _, _⟩ := rng_mem (show q ∈ rng 0 6 by rw [e]; simp)
    obtain ⟨f', m', o', v'', kp', a8', t', lt', s2, w, h2⟩ := lw_L3 n x f m o v' kp a8 t lt so i h1
    exact ⟨_, s1, _, s2, rfl, w, ⟨_, _, _, _, _, _, _, _, _, rfl⟩, h2⟩
  exact ⟨a2, a3, a4, a5, a6, a7, a8', a9, a10, s', hw, h'⟩
def six : List Ev.D := [fab 1 1 1 2 1, fab 16 16 60 6 8, fab 16 17 60 6 8, fab 16 16 61 1 8, fab 1 1 1 2 0, .tup [.bl true, .int 1, .int 1, .int 2, .int 1]]
def sixT : List Ev.D := [.lst [], .lst [], .lst [.tup [.int 1]], .lst [.tup [.int 2]], .lst [.tup [.int 4]], .lst [.tup [.int 0]]]
theorem pEq_self {a : Ev.D} {s : Store} (h : (a.plain && low a && eqD a a) = true) : pEq (.d a) (.d a) s = .ok (.d (.bl true)) s := by
  simp only [Bool.and_eq_true] at h
  unfold pEq pEqB
  simp only [deepV_d, h.1.1, h.1.2, h.2, Bool.and_self, Bool.true_or, if_true, Bool.false_xor]
theorem st_told (n : Nat) (x lap f m o v' kp c t lt : Option Val) (s : Store) : lc [6] (tn 6) (Ev.iSeq (v 11)) (yes) (law_x1 (runP prog (n + 3))) (lE x lap f m o v' kp c t lt (some (.d (.lst six)))) s = .ok (.d (.lst sixT)) s := by
  have := lc_all (E := lE x lap f m o v' kp c t lt (some (.d (.lst six)))) (ws := [6]) (g := tn 6) (ic := Ev.iSeq (v 11)) (c := yes) (e := law_x1 (runP prog (n + 3))) (xs := six) (s := s) (fun q => told (fabFault q)) rfl (len_line (show 6 ≤ 1000000 by decide)) fun q _ => by
    have w := w_told n q s
    refine ⟨lE x lap f m o (some (.d q)) kp c t lt (some (.d (.lst six))), rfl, rfl, ?_⟩
    simp only [law_x1, lE]
    walk_at "h"
  rw [this]
  rfl
theorem st_some (x lap f m o v' kp c t lt so : Option Val) (s : Store) : sSet (tn 11) (lst (ac (tup (ac (k (.int 1)) (ac (k (.int 1)) (ac (k (.int 1)) (ac (k (.int 2)) (ac (k (.int 1)) (a0))))))) (ac (tup (ac (k (.int 16)) (ac (k (.int 16)) (ac (k (.int 60)) (ac (k (.int 6)) (ac (k (.int 8)) (a0))))))) (ac (tup (ac (k (.int 16)) (ac (k (.int 17)) (ac (k (.int 60)) (ac (k (.int 6)) (ac (k (.int 8)) (a0))))))) (ac (tup (ac (k (.int 16)) (ac (k (.int 16)) (ac (k (.int 61)) (ac (k (.int 1)) (ac (k (.int 8)) (a0))))))) (ac (tup (ac (k (.int 1)) (ac (k (.int 1)) (ac (k (.int 1)) (ac (k (.int 2)) (ac (k (.int 0)) (a0))))))) (ac (tup (ac (k (.bl true)) (ac (k (.int 1)) (ac (k (.int 1)) (ac (k (.int 2)) (ac (k (.int 1)) (a0))))))) (a0)))))))) (lE x lap f m o v' kp c t lt so) s = .nx (lE x lap f m o v' kp c t lt (some (.d (.lst six)))) s := by
  simp only [six, fab, lE]
  walk_at "s"
def wires4 : List Ev.D := [.tup [.int 0, .int 0, .int 0, .int 0], .tup [.int 0, .int 0, .int 0, .int 1], .tup [.int 1, .int 0, .int 2, .int 0], .tup [.int 1, .int 0, .int 2, .int 1]]
theorem st_end (n : Nat) (x lap f m o v' kp c t lt : Option Val) (s : Store) : (sq (sIf (bb (e2 pNe (lc [6] (tn 6) (Ev.iSeq (v 11)) (yes) (law_x1 (runP prog (n + 4)))) (lst (ac (lst (a0)) (ac (lst (a0)) (ac (lst (ac (tup (ac (k (.int 1)) (a0))) (a0))) (ac (lst (ac (tup (ac (k (.int 2)) (a0))) (a0))) (ac (lst (ac (tup (ac (k (.int 4)) (a0))) (a0))) (ac (lst (ac (tup (ac (k (.int 0)) (a0))) (a0))) (a0)))))))))) (sq (sRet (k (.bl false))) (sNil)) (sNil)) (sq (sIf (bor (bb (e2 pNe (call (runP prog (n + 4)) 10 (ac (tup (ac (k (.int 2)) (ac (k (.int 1)) (ac (k (.int 2)) (ac (k (.int 2)) (ac (k (.int 1)) (a0))))))) (a0))) (lst (ac (tup (ac (k (.int 0)) (ac (k (.int 0)) (ac (k (.int 0)) (ac (k (.int 0)) (a0)))))) (ac (tup (ac (k (.int 0)) (ac (k (.int 0)) (ac (k (.int 0)) (ac (k (.int 1)) (a0)))))) (ac (tup (ac (k (.int 1)) (ac (k (.int 0)) (ac (k (.int 2)) (ac (k (.int 0)) (a0)))))) (ac (tup (ac (k (.int 1)) (ac (k (.int 0)) (ac (k (.int 2)) (ac (k (.int 1)) (a0)))))) (a0)))))))) (bb (e2 pNe (call (runP prog (n + 4)) 10 (ac (tup (ac (k (.int 1)) (ac (k (.int 1)) (ac (k (.int 60)) (ac (k (.int 6)) (ac (k (.int 8)) (a0))))))) (a0))) (lst (a0))))) (sq (sRet (k (.bl false))) (sNil)) (sNil)) (sq (sRet (eand (e2 pEq (call (runP prog (n + 4)) 8 (ac (tup (ac (k (.int 2)) (ac (k (.int 1)) (ac (k (.int 2)) (ac (k (.int 2)) (ac (k (.int 1)) (a0))))))) (ac (k (.int 0)) (ac (k (.int 0)) (ac (k (.int 0)) (ac (k (.int 1)) (a0))))))) (tup (ac (k (.int 1)) (ac (k (.int 0)) (ac (k (.int 2)) (ac (k (.int 1)) (a0))))))) (eand (e1 pIsN (call (runP prog (n + 4)) 8 (ac (tup (ac (k (.int 2)) (ac (k (.int 1)) (ac (k (.int 2)) (ac (k (.int 2)) (ac (k (.int 1)) (a0))))))) (ac (k (.int 0)) (ac (k (.int 0)) (ac (k (.int 1)) (ac (k (.int 1)) (a0)))))))) (e2 pEq (e1 pLen (call (runP prog (n + 4)) 10 (ac (tup (ac (k (.int 10)) (ac (k (.int 10)) (ac (k (.int 1)) (ac (k (.int 2)) (ac (k (.int 1)) (a0))))))) (a0)))) (k (.int 360)))))) (sNil)))) (lE x lap f m o v' kp c t lt (some (.d (.lst six)))) s = .rt (.d (.bl true)) s := by
  have e1 := st_told (n + 1) x lap f m o v' kp c t lt s
  have p1 : pNe (.d (.lst sixT)) (.d (.lst sixT)) s = .ok (.d (.bl false)) s := pNe_self (by decide +kernel)
  have w1 : runP prog (n + 4) 10 [.d (.tup [.int 2, .int 1, .int 2, .int 2, .int 1])] s = .ok (.d (.lst wires4)) s := by
    rw [show Ev.D.tup [.int 2, .int 1, .int 2, .int 2, .int 1] = fab 2 1 2 2 1 from rfl, w_wires n ⟨by decide, by decide, by decide, by decide, by decide, by decide, by decide, by decide⟩ (by decide), wires_eq]
    rfl
  have w2 : runP prog (n + 4) 10 [.d (.tup [.int 1, .int 1, .int 60, .int 6, .int 8])] s = .ok (.d (.lst [])) s := by
    rw [show Ev.D.tup [.int 1, .int 1, .int 60, .int 6, .int 8] = fab 1 1 60 6 8 from rfl, w_wires n ⟨by decide, by decide, by decide, by decide, by decide, by decide, by decide, by decide⟩ (by decide), wires_eq]
    rfl
  have w3 : runP prog (n + 4) 10 [.d (.tup [.int 10, .int 10, .int 1, .int 2, .int 1])] s = .ok (.d (.lst (lawW 10 10 1))) s := by
    rw [show Ev.D.tup [.int 10, .int 10, .int 1, .int 2, .int 1] = fab 10 10 1 2 1 from rfl, w_wires n ⟨by decide, by decide, by decide, by decide, by decide, by decide, by decide, by decide⟩ (by decide), wires_eq]
  have l3 : (((lawW 10 10 1).length : Nat) : Int) = 360 := by decide +kernel
  have w4 : runP prog (n + 4) 8 [.d (.tup [.int 2, .int 1, .int 2, .int 2, .int 1]), .d (.int 0), .d (.int 0), .d (.int 0), .d (.int 1)] s = .ok (.d (.tup [.int 1, .int 0, .int 2, .int 1])) s := w_wire_in (n + 1) 2 1 0 0 0 1 _ s (by decide) (by decide)
  have w5 : runP prog (n + 4) 8 [.d (.tup [.int 2, .int 1, .int 2, .int 2, .int 1]), .d (.int 0), .d (.int 0), .d (.int 1), .d (.int 1)] s = .ok (.d .non) s := w_wire_in (n + 1) 2 1 0 0 1 1 _ s (by decide) (by decide)
  have q1 : pNe (.d (.lst wires4)) (.d (.lst wires4)) s = .ok (.d (.bl false)) s := pNe_self (by decide +kernel)
  have q2 : pNe (.d (.lst [])) (.d (.lst [])) s = .ok (.d (.bl false)) s := pNe_lst_nil rfl
  have q3 : pEq (.d (.tup [.int 1, .int 0, .int 2, .int 1])) (.d (.tup [.int 1, .int 0, .int 2, .int 1])) s = .ok (.d (.bl true)) s := pEq_self (by decide +kernel)
  have q5 : pIsN (.d .non) s = .ok (.d (.bl true)) s := rfl
  unfold sixT at e1 p1
  unfold wires4 at w1 q1
  simp only [lE] at e1 ⊢
  walk_at "h"
theorem plain_law (ns : List Int) (h : ns.length ≤ 63) : ∃ s, runP prog 30 29 [.d (.scr ns)] [] = .ok (.d (.bl true)) s := by
  obtain ⟨s1, w1, h1⟩ := w_source 28 ns h
  obtain ⟨a2, a3, a4, a5, a6, a7, a8, a9, a10, s2, w2, h2⟩ := lw_L3s 24 (some (.d (.scr ns))) none none none none none none none none none h1
  have body : e_law (runP prog 29) [some (.d (.scr ns)), none, none, none, none, none, none, none, none, none, none, none] [] = .rt (.d (.bl true)) s2 := by
    refine sq_nx (E1 := lE (some (.d (.scr ns))) none none none none none none none none none none) (s1 := s1) ?_ (sq_nx (for_vals (xs := (rng 0 6).map .d) (by rw [x_iR1, x_k, Res.bind_ok, kR1_ok rfl]) w2) (sq_nx (st_some _ _ _ _ _ _ _ _ _ _ _ _) (st_end 25 _ _ _ _ _ _ _ _ _ _ _)))
    rw [x_setn, x_call, x_ac, x_v]
    simp only [List.getElem?_cons_zero, Res.bind_ok, x_a0]
    rw [w1]
    rfl
  rw [rp rfl, run_body rfl]
  show ∃ s, finR false [] (e_law _ [some (.d (.scr ns)), none, none, none, none, none, none, none, none, none, none, none] []) = _
  rw [body]
  unfold finR fin
  simp only []
  split
  · exact ⟨_, rfl⟩
  · rw [if_pos (.inr rfl)]
    exact ⟨_, rfl⟩
end K61
end
set_option Elab.async false
set_option linter.all false
set_option autoImplicit false
set_option maxRecDepth 100000
set_option maxHeartbeats 4000000
namespace K61
open PySem PySem.Spec PyProof.Rows L2 Ev
theorem ends {w : World} {K : PySem.W.Frag} {mg : Str → Option Value} {fa' : Addr} {h : Heap} (KX : K.In h) (N : h.Ns mainGlobals mg) (hmg : mg ("law" : Str) = some (.ref fa')) (c : SaysL pg fa fn ins xfs cons K) :
    ∃ (G : Gd) (C : Calls) (fd : FuncData), G.K.In h ∧ (∀ (s : Shared) (u : Value), BindsTo s fd ⟨[u], []⟩ [("_law_script", u)]) ∧
        (∀ base : Heap, G.K.In base → base.Ns mainGlobals mg → FnG pg w G.K mg base (30 + 3) fa' fd ["_law_script"] (spF G C 29)) ∧ ∀ ns : List Int, ns.length ≤ 63 → ∃ s, C 29 [.d (.scr ns)] [] = .ok (.d (.bl true)) s := by
  obtain ⟨fd, D⟩ := c.d.def_ 29 (d := d_law)
  have b := FunD.bindsA (ps := ["_law_script"]) D fun _ _ _ _ _ _ us hl => match us, hl with | [_], _ => rfl
  refine ⟨Gk K, runP prog 30, fd, KX, fun s v => b s [v] rfl, fun base X N' => ?_, plain_law⟩
  obtain ⟨f, fd', F, _, kp, hm, lk⟩ := (lib (w := w) c X N' 30).at_ 29
  rw [hmg] at hm
  cases hm
  have e2 := He.glo_ok X N' (c.d.fact 29 (f := .glo "law") rfl)
  rw [hmg] at e2
  have lk2 := fun_at D
  have e3 : He.fAd K d_law.at_ = fa' := by
    have e4 := Option.some.inj e2
    injection e4 with e5
    exact e5.symm
  rw [e3] at lk2
  rw [← fun_one lk lk2]
  exact F
end K61
open PySem PySem.W PySem.Calls PyProof.Rows in
theorem PySem.Challenge.cw_bitloom_k61_fabrics_holds : PySem.Challenge.rw_bitloom_k61_fabrics.Holds := by
  w_on; o_law
  refine HandSHeadRun.head_any (r := OpenLaw.row PySem.Challenge.rw_bitloom_k61_fabrics) (q := view (OpenLaw.row PySem.Challenge.rw_bitloom_k61_fabrics).prog [37]) (H := K61.hk) (ob := K61.ob) (M := 4000) (loose := K61.loose) (d := HandSHeadRun.topDef (OpenLaw.row PySem.Challenge.rw_bitloom_k61_fabrics).prog 37) (kwd := []) K61.ob_eq
    (by kernel_rfl) (fun s => by kernel_rfl) K61.run (by kernel_rfl) (by kernel_rfl) (by kernel_rfl) (by rfl) (by first | assumption | decide +kernel) (by decide +kernel) ⟨rfl, rfl, rfl, rfl, rfl, by decide +kernel⟩ ?hw ?hc
  case hw => w_witness2
  case hc =>
    refine Ev.walk_ev (l := PySem.Challenge.rw_bitloom_k61_fabrics) (n := 63) (k := 30 + 3) (x := "_law_script") (lawf := 29) rfl (by decide) (by kernel_rfl) ⟨rfl, by decide, by decide⟩ ?_
    intro w mg fa h Y N hmg0
    obtain ⟨K, KX, c⟩ := Y
    have hmg : mg ("law" : PySem.Str) = some (.ref fa) := by
      have e : (HandSHeadRun.topDef (OpenLaw.row PySem.Challenge.rw_bitloom_k61_fabrics).prog 37).name = ("law" : PySem.Str) := by kernel_rfl
      rw [← e]
      exact hmg0
    exact K61.ends KX N hmg c
