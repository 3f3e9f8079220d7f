import PyProof.Rows.All
import PyProof.ReprReads
import PyProof.P3Statements
import Wide.All
import OpenK.AllK
import Wide.FinOn
import HandS.ForMost
import HandS.ForExc
import HandS.Flow
import HandS.Wide
import HandS.IsInst
import HandS.Conv
import KE.DataEq
import HandS.Style
import HandS.RaiseMore
import KE.GoesMore
import KE.GoesEnum
import HandS.TryOnly
import HandS.ExcOwn
import HandS.Defaults
import HandS.ExcInit
import HandS.ExcField
import KE.KExcSuper
import HandS.HeadHook2
import HandS.Head2
import HandS.Ends
import PySem.Challenge.RW_bitloom_k51_nets_judged
section
set_option autoImplicit false
set_option maxRecDepth 10000
/-! A small evaluator of Python over plain data. -/
namespace Ev
open PySem

abbrev Key := Sum Int Str

/-- plain data that nobody changes -/
inductive D where
  | non | bl (b : Bool) | int (i : Int) | str (x : Str)
  | tup (xs : List D) | lst (xs : List D) | dct (kvs : List (Key × D)) | scr (ns : List Int)

/-- a value: data, a place of the store, a caught error -/
inductive Val where
  | d (x : D) | loc (n : Nat) | exn (c : Nat) (fs : List (Str × D))

/-- what stands at a place of the store -/
inductive Obj where
  | lst (xs : List D) | lv (xs : List Val) | dct (kvs : List (Key × Val)) | ins (c : Nat) (fs : List (Str × Val)) | dead

abbrev Store := List Obj
abbrev Env := List (Option Val)

inductive Res (A : Type) where
  | ok (a : A) (s : Store) | exc (c : Nat) (fs : List (Str × D)) (s : Store) | fail

namespace Res
variable {A B : Type}
def bind (r : Res A) (f : A → Store → Res B) : Res B :=
  match r with
  | .ok a s => f a s
  | .exc c fs s => .exc c fs s
  | .fail => .fail
@[simp] theorem bind_ok (a : A) (s : Store) (f : A → Store → Res B) : (Res.ok a s).bind f = f a s := rfl
@[simp] theorem bind_exc (c : Nat) (fs : List (Str × D)) (s : Store) (f : A → Store → Res B) : (Res.exc c fs s : Res A).bind f = .exc c fs s := rfl
@[simp] theorem bind_fail (f : A → Store → Res B) : (Res.fail : Res A).bind f = .fail := rfl
/-- errors are not let out (a comprehension) -/
def shut (r : Res A) : Res A := match r with | .exc _ _ _ => .fail | r => r
@[simp] theorem shut_ok (a : A) (s : Store) : (Res.ok a s).shut = .ok a s := rfl
@[simp] theorem shut_fail : (Res.fail : Res A).shut = .fail := rfl
@[simp] theorem shut_exc (c : Nat) (fs : List (Str × D)) (s : Store) : (Res.exc c fs s : Res A).shut = .fail := rfl
end Res

abbrev EC := Env → Store → Res Val
abbrev BC := Env → Store → Res Bool
abbrev AC := Env → Store → Res (List Val)
abbrev TC := Val → Env → Store → Option (Env × Store)

/-- the longest list -/
abbrev line : Nat := 16777216

/-! ### data -/
def allD : List Val → Option (List D)
  | [] => some []
  | .d x :: r => (allD r).map (x :: ·)
  | _ :: _ => none
@[simp] theorem allD_nil : allD [] = some [] := rfl
@[simp] theorem allD_cons (x : D) (r : List Val) : allD (.d x :: r) = (allD r).map (x :: ·) := rfl
@[simp] theorem allD_map (xs : List D) : allD (xs.map .d) = some xs := by
  induction xs with
  | nil => rfl
  | cons x xs ih => simp [ih]

mutual
def toPy : D → PyData
  | .non => .none
  | .bl b => .bool b
  | .int i => .int i
  | .str x => .str x
  | .tup xs => .tuple (toPys xs)
  | .lst xs => .list (toPys xs)
  | .dct kvs => .dict (toPyKv kvs)
  | .scr ns => .list (ns.map .int)
def toPys : List D → List PyData
  | [] => []
  | x :: xs => toPy x :: toPys xs
def toPyKv : List (Key × D) → List (PyData × PyData)
  | [] => []
  | (k, x) :: r => ((match k with | .inl i => .int i | .inr z => .str z), toPy x) :: toPyKv r
end

mutual
/-- no dict within -/
def D.plain : D → Bool
  | .non | .bl _ | .int _ | .str _ => true
  | .tup xs | .lst xs => D.plains xs
  | .dct _ | .scr _ => false
def D.plains : List D → Bool
  | [] => true
  | x :: xs => D.plain x && D.plains xs
end

mutual
/-- the script is not within -/
def D.noscr : D → Bool
  | .non | .bl _ | .int _ | .str _ => true
  | .tup xs | .lst xs => D.noscrs xs
  | .dct kvs => D.noscrk kvs
  | .scr _ => false
def D.noscrs : List D → Bool
  | [] => true
  | x :: xs => D.noscr x && D.noscrs xs
def D.noscrk : List (Key × D) → Bool
  | [] => true
  | (_, x) :: xs => D.noscr x && D.noscrk xs
end

/-- a value as data, looked up in the store (one deep) -/
def peek (v : Val) (s : Store) : Option D :=
  match v with
  | .d x => some x
  | .loc n => match s[n]? with | some (.lst xs) => some (.lst xs) | _ => none
  | _ => none
@[simp] theorem peek_d (x : D) (s : Store) : peek (.d x) s = some x := rfl

/-- the items of a sequence -/
def items (v : Val) (s : Store) : Option (List Val) :=
  match v with
  | .d (.tup xs) => some (xs.map .d)
  | .d (.lst xs) => some (xs.map .d)
  | .loc n => match s[n]? with | some (.lst xs) => some (xs.map .d) | some (.lv xs) => some xs | _ => none
  | _ => none
@[simp] theorem items_tup (xs : List D) (s : Store) : items (.d (.tup xs)) s = some (xs.map .d) := rfl
@[simp] theorem items_lst (xs : List D) (s : Store) : items (.d (.lst xs)) s = some (xs.map .d) := rfl

def truth (v : Val) (s : Store) : Option Bool :=
  match v with
  | .d .non => some false
  | .d (.bl b) => some b
  | .d (.int i) => some (i != 0)
  | .d (.tup xs) => some (!xs.isEmpty)
  | .d (.lst xs) => some (!xs.isEmpty)
  | .loc n => match s[n]? with | some (.lst xs) => some (!xs.isEmpty) | some (.lv xs) => some (!xs.isEmpty) | some (.dct k) => some (!k.isEmpty) | _ => none
  | _ => none

/-! ### expressions -/
def k (x : D) : EC := fun _ s => .ok (.d x) s
def v (i : Nat) : EC := fun E s => match E[i]? with | some (some x) => .ok x s | _ => .fail
def e1 (p : Val → Store → Res Val) (a : EC) : EC := fun E s => (a E s).bind p
def e2 (p : Val → Val → Store → Res Val) (a b : EC) : EC := fun E s => (a E s).bind fun x s => (b E s).bind fun y s => p x y s
def a0 : AC := fun _ s => .ok [] s
def ac (a : EC) (r : AC) : AC := fun E s => (a E s).bind fun x s => (r E s).bind fun xs s => .ok (x :: xs) s
def ea (p : List Val → Store → Res Val) (r : AC) : EC := fun E s => (r E s).bind p
def mkT (xs : List Val) (s : Store) : Res Val := match allD xs with | some ds => if ds.length ≤ line then .ok (.d (.tup ds)) s else .fail | none => .fail
def mkL (xs : List Val) (s : Store) : Res Val := match allD xs with | some ds => if ds.length ≤ line then .ok (.d (.lst ds)) s else .fail | none => .fail
def tup (r : AC) : EC := ea mkT r
def lst (r : AC) : EC := ea mkL r
/-- a new list that may be changed -/
def lstA (r : AC) : EC := fun E s => (r E s).bind fun xs s => match allD xs with
  | some ds => if ds.length ≤ line then .ok (.loc s.length) (s ++ [.lst ds]) else .fail
  | none => if xs.length ≤ line then .ok (.loc s.length) (s ++ [.lv xs]) else .fail
/-- a fresh list or dict may be changed from now on -/
def alloc (x : Val) (s : Store) : Res Val := match x with
  | .d (.lst ds) => .ok (.loc s.length) (s ++ [.lst ds])
  | _ => .fail
/-- what may be changed is changed no more -/
def frz1 (x : Val) (s : Store) : Res Val := match x with
  | .d z => .ok (.d z) s
  | .loc n => match s[n]? with | some (.lst ds) => .ok (.d (.lst ds)) (s.set n .dead) | _ => .fail
  | _ => .fail
def frz (a : EC) : EC := e1 frz1 a
def bv (a : EC) : BC := fun E s => (a E s).bind fun x s => match truth x s with | some b => .ok b s | none => .fail
def band (a b : BC) : BC := fun E s => (a E s).bind fun x s => if x then b E s else .ok false s
def bor (a b : BC) : BC := fun E s => (a E s).bind fun x s => if x then .ok true s else b E s
def bnot (a : BC) : BC := fun E s => (a E s).bind fun x s => .ok (!x) s
def eif (c : BC) (a b : EC) : EC := fun E s => (c E s).bind fun x s => if x then a E s else b E s
def eand (a b : EC) : EC := fun E s => (a E s).bind fun x s => match truth x s with | some true => b E s | some false => .ok x s | none => .fail
def eor (a b : EC) : EC := fun E s => (a E s).bind fun x s => match truth x s with | some true => .ok x s | some false => b E s | none => .fail
def enot (a : EC) : EC := fun E s => (a E s).bind fun x s => match truth x s with | some t => .ok (.d (.bl (!t))) s | none => .fail
/-- a p b q c -/
def chain (p q : Val → Val → Store → Res Val) (a b c : EC) : EC := fun E s => (a E s).bind fun x s => (b E s).bind fun y s => (p x y s).bind fun r s =>
  match r with | .d (.bl true) => (c E s).bind fun z s => q y z s | .d (.bl false) => .ok (.d (.bl false)) s | _ => .fail

/-! ### operations -/
def pI (f : Int → Int → D) (x y : Val) (s : Store) : Res Val := match x, y with | .d (.int i), .d (.int j) => .ok (.d (f i j)) s | _, _ => .fail
def pIc (c : Int → Int → Bool) (f : Int → Int → D) (x y : Val) (s : Store) : Res Val := match x, y with
  | .d (.int i), .d (.int j) => if c i j then .ok (.d (f i j)) s else .fail
  | _, _ => .fail
def pAdd (x y : Val) (s : Store) : Res Val := match x, y with
  | .d (.int i), .d (.int j) => .ok (.d (.int (i + j))) s
  | .d (.bl b), .d (.int j) => .ok (.d (.int ((if b = true then 1 else 0) + j))) s
  | .d (.tup a), .d (.tup b) => if a.length + b.length ≤ line then .ok (.d (.tup (a ++ b))) s else .fail
  | .d (.str a), .d (.str b) => if a.length + b.length ≤ line then .ok (.d (.str (a ++ b))) s else .fail
  | x, y => match peek x s, peek y s with
    | some (.lst a), some (.lst b) => if a.length + b.length ≤ line then .ok (.d (.lst (a ++ b))) s else .fail
    | _, _ => .fail
def pSub := pI fun i j => .int (i - j)
def pMul := pIc (fun i j => (decide (-(2 ^ 64) < i) && decide (i < 2 ^ 64)) || (decide (-(2 ^ 64) < j) && decide (j < 2 ^ 64))) fun i j => .int (i * j)
def pDiv := pIc (fun _ j => decide (0 < j) && decide (j < 2 ^ 1000)) fun i j => .int (i / j)
def pMod := pIc (fun _ j => decide (0 < j)) fun i j => .int (i % j)
def pPow := pIc (fun i j => decide (0 ≤ j) && decide (j ≤ 1000000) && decide (i.natAbs < 2 ^ 64)) fun i j => .int (i ^ j.toNat)
def pShl := pIc (fun i j => decide (0 ≤ j) && decide (j ≤ 1000000) && decide (i.natAbs < 2 ^ 64)) fun i j => .int (i * 2 ^ j.toNat)
def pShr := pIc (fun _ j => decide (0 ≤ j)) fun i j => .int (i / 2 ^ j.toNat)
def pNeg (x : Val) (s : Store) : Res Val := match x with | .d (.int i) => .ok (.d (.int (-i))) s | _ => .fail
def pLt := pI fun i j => .bl (decide (i < j))
def pLe := pI fun i j => .bl (decide (i ≤ j))
def pGt := pI fun i j => .bl (decide (j < i))
def pGe := pI fun i j => .bl (decide (j ≤ i))
/-- what == tells of data -/
def eqD (x y : D) : Bool := (toPy x).eqv (toPy y)
def low (x : D) : Bool := decide ((toPy x).depth ≤ 60)
def eqLen (neg : Bool) (a b : D) (s : Store) : Res Val := match a, b with
  | .tup xs, .tup ys => if xs.isEmpty || ys.isEmpty then .ok (.d (.bl (neg ^^ (xs.isEmpty && ys.isEmpty)))) s else .fail
  | .lst xs, .lst ys => if xs.length = ys.length then .fail else .ok (.d (.bl (neg ^^ false))) s
  | _, _ => .fail
def pEqB (neg : Bool) (x y : Val) (s : Store) : Res Val := match peek x s, peek y s with
  | some a, some b => if a.plain && b.plain && (low a || low b) then .ok (.d (.bl (neg ^^ eqD a b))) s else eqLen neg a b s
  | _, _ => .fail
def pEq := pEqB false
def pNe := pEqB true
def inD (x : D) (ys : List D) : Bool := ys.any fun y => eqD y x
def pInB (neg : Bool) (x y : Val) (s : Store) : Res Val := match x, peek y s with
  | .d a, some (.tup ys) => if a.plain && D.plains ys && low a then .ok (.d (.bl (neg ^^ inD a ys))) s else .fail
  | .d a, some (.lst ys) => if a.plain && D.plains ys && low a then .ok (.d (.bl (neg ^^ inD a ys))) s else .fail
  | _, _ => .fail
def pIn := pInB false
def pNotIn := pInB true
def pIsN (x : Val) (s : Store) : Res Val := match x with | .d .non => .ok (.d (.bl true)) s | _ => .ok (.d (.bl false)) s
def pNotN (x : Val) (s : Store) : Res Val := match x with | .d .non => .ok (.d (.bl false)) s | _ => .ok (.d (.bl true)) s
/-- the built-in type of a value -/
inductive Ty where | int | bool | str | tuple | list | dict | none deriving DecidableEq
def tyD : D → Ty
  | .non => .none | .bl _ => .bool | .int _ => .int | .str _ => .str | .tup _ => .tuple | .lst _ => .list | .dct _ => .dict | .scr _ => .list
def tyOf (x : Val) (s : Store) : Option Ty := match x with
  | .d z => some (tyD z)
  | .loc n => match s[n]? with | some (.lst _) => some .list | some (.lv _) => some .list | some (.dct _) => some .dict | _ => none
  | _ => none
/-- isinstance by built-in types -/
def isT (ts : List Ty) (t : Ty) : Bool := ts.contains t || (t == .bool && ts.contains .int)
def pIsi (ts : List Ty) (x : Val) (s : Store) : Res Val := match tyOf x s with | some t => .ok (.d (.bl (isT ts t))) s | none => .fail
def pLen (x : Val) (s : Store) : Res Val := match x with
  | .d (.tup xs) => .ok (.d (.int xs.length)) s
  | .d (.lst xs) => .ok (.d (.int xs.length)) s
  | .loc n => match s[n]? with | some (.lst xs) => .ok (.d (.int xs.length)) s | some (.lv xs) => .ok (.d (.int xs.length)) s | some (.dct k) => .ok (.d (.int k.length)) s | _ => .fail
  | _ => .fail
def pInt (x : Val) (s : Store) : Res Val := match x with | .d (.int i) => .ok (.d (.int i)) s | _ => .fail
def pAbs (x : Val) (s : Store) : Res Val := match x with | .d (.int i) => .ok (.d (.int (i.natAbs : Int))) s | _ => .fail
def pMax := pI fun i j => .int (max i j)
def pMin := pI fun i j => .int (min i j)
def pTuple (x : Val) (s : Store) : Res Val := match peek x s with
  | some (.tup xs) => .ok (.d (.tup xs)) s
  | some (.lst xs) => .ok (.d (.tup xs)) s
  | _ => .fail
def pList (x : Val) (s : Store) : Res Val := match peek x s with
  | some (.tup xs) => .ok (.d (.lst xs)) s
  | some (.lst xs) => .ok (.d (.lst xs)) s
  | _ => .fail
def pRepr (x : Val) (s : Store) : Res Val := match x with
  | .d a => if (toPy a).showable && low a && a.noscr && decide ((toPy a).shown.length ≤ line) then .ok (.d (.str (toPy a).shown)) s else .fail
  | _ => .fail
def ixN (n : Nat) (i : Int) : Option Nat := if 0 ≤ i then (if i < n then some i.toNat else none) else if -(n : Int) ≤ i then some (i + n).toNat else none
def lookK (kvs : List (Key × Val)) (q : Key) : Option Val := (kvs.find? fun p => decide (p.1 = q)).map (·.2)
def putK (kvs : List (Key × Val)) (q : Key) (x : Val) : List (Key × Val) :=
  if (kvs.any fun p => decide (p.1 = q)) = true then kvs.map (fun p => if p.1 = q then (p.1, x) else p) else kvs ++ [(q, x)]
def keyOf : Val → Option Key | .d (.int i) => some (.inl i) | .d (.str z) => some (.inr z) | _ => none
def pIx (x y : Val) (s : Store) : Res Val :=
  match x, y with
  | .d (.tup xs), .d (.int i) => (match (ixN xs.length i).bind (xs[·]?) with | some z => .ok (.d z) s | none => .fail)
  | .d (.lst xs), .d (.int i) => (match (ixN xs.length i).bind (xs[·]?) with | some z => .ok (.d z) s | none => .fail)
  | .loc n, y => match s[n]? with
    | some (.lst xs) => (match y with | .d (.int i) => (match (ixN xs.length i).bind (xs[·]?) with | some z => .ok (.d z) s | none => .fail) | _ => .fail)
    | some (.lv xs) => (match y with | .d (.int i) => (match (ixN xs.length i).bind (xs[·]?) with | some z => .ok z s | none => .fail) | _ => .fail)
    | some (.dct kvs) => match (keyOf y).bind (lookK kvs) with | some z => .ok z s | none => .fail
    | _ => .fail
  | _, _ => .fail
def sIx (n dflt : Nat) : Option Int → Nat
  | none => dflt
  | some i => if i < 0 then (i + (n : Int)).toNat else min i.toNat n
def cut {A : Type} (xs : List A) (lo hi : Option Int) : List A := (xs.drop (sIx xs.length 0 lo)).take (sIx xs.length xs.length hi - sIx xs.length 0 lo)
def pSl (x : Val) (lo hi : Option Int) (s : Store) : Res Val := match peek x s with
  | some (.tup xs) => .ok (.d (.tup (cut xs lo hi))) s
  | some (.lst xs) => .ok (.d (.lst (cut xs lo hi))) s
  | _ => .fail
/-- an optional part of a slice -/
abbrev PC := Env → Store → Res (Option Int)
def pn : PC := fun _ s => .ok none s
def ps (a : EC) : PC := fun E s => (a E s).bind fun x s => match x with | .d (.int i) => .ok (some i) s | _ => .fail
def sl (a : EC) (lo hi : PC) : EC := fun E s => (a E s).bind fun x s => (lo E s).bind fun l s => (hi E s).bind fun h s => pSl x l h s
def pRev (x : Val) (s : Store) : Res Val := match peek x s with
  | some (.lst xs) => .ok (.d (.lst xs.reverse)) s
  | _ => .fail
def isL (x : Val) (s : Store) : Bool := match x with
  | .loc n => match s[n]? with | some (.lst _) => true | some (.lv _) => true | _ => false
  | _ => false
/-- xs.append(y) -/
def pApp (x y : Val) (s : Store) : Res Val := match x with
  | .loc n => match s[n]? with
    | some (.lst xs) => match y with | .d z => if xs.length < line then .ok (.d .non) (s.set n (.lst (xs ++ [z]))) else .fail | _ => .fail
    | _ => .fail
  | _ => .fail
/-- x.m(y) of a list -/
def m1 (p : Val → Val → Store → Res Val) (a b : EC) : EC := fun E s => (a E s).bind fun x s => if isL x s then (b E s).bind fun y s => p x y s else .fail
/-- xs.pop() -/
def pPop (x : Val) (s : Store) : Res Val := match x with
  | .loc n => match s[n]? with
    | some (.lst xs) => match xs.getLast? with | some z => .ok (.d z) (s.set n (.lst xs.dropLast)) | none => .fail
    | _ => .fail
  | _ => .fail
/-- xs.pop(i) -/
def pPopAt (x y : Val) (s : Store) : Res Val := match x, y with
  | .loc n, .d (.int i) => match s[n]? with
    | some (.lst xs) => match ixN xs.length i with
      | some j => match xs[j]? with | some z => .ok (.d z) (s.set n (.lst (xs.eraseIdx j))) | none => .fail
      | none => .fail
    | _ => .fail
  | _, _ => .fail
/-- o[i] = x -/
def pPut (o i x : Val) (s : Store) : Option Store := match o with
  | .loc n => match s[n]? with
    | some (.dct kvs) => match keyOf i with | some q => if kvs.length < line then some (s.set n (.dct (putK kvs q x))) else none | none => none
    | some (.lst xs) => match i, x with
      | .d (.int j), .d z => match ixN xs.length j with | some m => some (s.set n (.lst (xs.set m z))) | none => none
      | _, _ => none
    | _ => none
  | _ => none

/-! ### comprehensions, loops -/
/-- what a loop walks -/
inductive Src where | vals (xs : List Val) | live (n : Nat)
abbrev IC := Env → Store → Res Src
def iSeq (a : EC) : IC := fun E s => (a E s).bind fun x s => match x with
  | .d (.tup xs) => .ok (.vals (xs.map .d)) s
  | .d (.lst xs) => .ok (.vals (xs.map .d)) s
  | .d (.scr ns) => .ok (.vals (ns.map fun i => .d (.int i))) s
  | .loc n => match s[n]? with | some (.lst _) => .ok (.live n) s | _ => .fail
  | _ => .fail
def small (i : Int) : Bool := decide (-(2 ^ 62) ≤ i) && decide (i < 2 ^ 62)
def rng (lo hi : Int) : List D := (List.range (hi - lo).toNat).map fun (j : Nat) => .int (lo + (j : Int))
def iRng1 (a : EC) : IC := fun E s => (a E s).bind fun x s => match x with | .d (.int i) => if small i then .ok (.vals ((rng 0 i).map .d)) s else .fail | _ => .fail
def iRng2 (a b : EC) : IC := fun E s => (a E s).bind fun x s => (b E s).bind fun y s => match x, y with
  | .d (.int i), .d (.int j) => if small i && small j then .ok (.vals ((rng i j).map .d)) s else .fail
  | _, _ => .fail
/-- list(range(..)) -/
def pLRng1 (x : Val) (s : Store) : Res Val := match x with | .d (.int j) => if small j && decide (j.toNat ≤ line) then .ok (.d (.lst (rng 0 j))) s else .fail | _ => .fail
def pLRng2 (x y : Val) (s : Store) : Res Val := match x, y with
  | .d (.int i), .d (.int j) => if small i && small j && decide ((j - i).toNat ≤ line) then .ok (.d (.lst (rng i j))) s else .fail
  | _, _ => .fail
def enumD (i : Nat) : List D → List D
  | [] => []
  | x :: r => .tup [.int (i : Int), x] :: enumD (i + 1) r
def enumS (x : Val) (s : Store) : Res Src := match x with
  | .d (.tup xs) => .ok (.vals ((enumD 0 xs).map .d)) s
  | .d (.lst xs) => .ok (.vals ((enumD 0 xs).map .d)) s
  | _ => .fail
/-- enumerate over data -/
def iEnum (a : EC) : IC := fun E s => (a E s).bind enumS

def tn (i : Nat) : TC := fun x E s => some (E.set i (some x), s)
def ts (ts : List TC) : List Val → Env → Store → Option (Env × Store) := fun xs E s =>
  match ts, xs with
  | [], [] => some (E, s)
  | t :: ts', x :: xs' => match t x E s with | some (E1, s1) => Ev.ts ts' xs' E1 s1 | none => none
  | _, _ => none
def tt (l : List TC) : TC := fun x E s => match items x s with | some xs => ts l xs E s | none => none
/-- o[i] = .. (o, i: no errors) -/
def ti (o i : EC) : TC := fun x E s => match o E s with
  | .ok ov s1 => match i E s1 with
    | .ok iv s2 => (pPut ov iv x s2).map fun s3 => (E, s3)
    | _ => none
  | _ => none

def wipe (E : Env) : List Nat → Env
  | [] => E
  | i :: r => (wipe E r).set i none
/-- a turn of a comprehension -/
def lcT (ws : List Nat) (t : TC) (c : BC) (e : EC) (E : Env) (x : Val) (s : Store) (nxt : Store → Res (List Val)) : Res (List Val) :=
  match t x (wipe E ws) s with
  | some p => (c p.1 p.2).bind fun b s2 => if b then (e p.1 s2).bind fun y s3 => (nxt s3).bind fun ys s4 => .ok (y :: ys) s4 else nxt s2
  | none => .fail
/-- .. over values -/
def lcV (ws : List Nat) (t : TC) (c : BC) (e : EC) (E : Env) : List Val → Store → Res (List Val)
  | [], s => .ok [] s
  | x :: xs, s => lcT ws t c e E x s fun s' => lcV ws t c e E xs s'
/-- .. over a list that may be changed -/
def lcN (ws : List Nat) (t : TC) (c : BC) (e : EC) (E : Env) (n : Nat) : Nat → Nat → Store → Res (List Val)
  | 0, _, _ => .fail
  | f + 1, i, s => match s[n]? with
    | some (.lst xs) => match xs[i]? with
      | none => .ok [] s
      | some x => if i < line then lcT ws t c e E (.d x) s fun s' => lcN ws t c e E n f (i + 1) s' else .fail
    | _ => .fail
def lcS (ws : List Nat) (t : TC) (c : BC) (e : EC) (E : Env) (sr : Src) (s : Store) : Res (List Val) := match sr with
  | .vals xs => if xs.length ≤ line then (lcV ws t c e E xs s).shut else .fail
  | .live n => (lcN ws t c e E n (line + 2) 0 s).shut
def lcG (mk : List Val → Store → Res Val) (ws : List Nat) (t : TC) (i : IC) (c : BC) (e : EC) : EC := fun E s => (i E s).bind fun sr s1 => (lcS ws t c e E sr s1).bind mk
def lc := lcG mkL
/-- .. a list that may be changed -/
def mkLA (xs : List Val) (s : Store) : Res Val := match allD xs with
  | some ds => .ok (.loc s.length) (s ++ [.lst ds])
  | none => .ok (.loc s.length) (s ++ [.lv xs])
def lcA := lcG mkLA
def yes : BC := fun _ s => .ok true s

/-! ### statements -/
inductive SRes where
  | nx (E : Env) (s : Store) | rt (x : Val) (s : Store) | bk (E : Env) (s : Store) | ct (E : Env) (s : Store) | exc (c : Nat) (fs : List (Str × D)) (E : Env) (s : Store) | fail
abbrev SC := Env → Store → SRes
def SRes.next (r : SRes) (f : Env → Store → SRes) : SRes := match r with | .nx E s => f E s | r => r
@[simp] theorem SRes.next_nx (E : Env) (s : Store) (f : Env → Store → SRes) : (SRes.nx E s).next f = f E s := rfl
@[simp] theorem SRes.next_rt (x : Val) (s : Store) (f : Env → Store → SRes) : (SRes.rt x s).next f = .rt x s := rfl
@[simp] theorem SRes.next_bk (E : Env) (s : Store) (f : Env → Store → SRes) : (SRes.bk E s).next f = .bk E s := rfl
@[simp] theorem SRes.next_ct (E : Env) (s : Store) (f : Env → Store → SRes) : (SRes.ct E s).next f = .ct E s := rfl
@[simp] theorem SRes.next_exc (c : Nat) (fs : List (Str × D)) (E : Env) (s : Store) (f : Env → Store → SRes) : (SRes.exc c fs E s).next f = .exc c fs E s := rfl
@[simp] theorem SRes.next_fail (f : Env → Store → SRes) : SRes.fail.next f = .fail := rfl
/-- from an expression's end -/
def ofRes {A : Type} (r : Res A) (E : Env) (f : A → Store → SRes) : SRes := match r with | .ok a s => f a s | .exc c fs s => .exc c fs E s | .fail => .fail
@[simp] theorem ofRes_ok {A : Type} (a : A) (s : Store) (E : Env) (f : A → Store → SRes) : ofRes (.ok a s) E f = f a s := rfl
@[simp] theorem ofRes_exc {A : Type} (c : Nat) (fs : List (Str × D)) (s : Store) (E : Env) (f : A → Store → SRes) : ofRes (.exc c fs s) E f = .exc c fs E s := rfl
@[simp] theorem ofRes_fail {A : Type} (E : Env) (f : A → Store → SRes) : ofRes (.fail) E f = .fail := rfl

def sNil : SC := fun E s => .nx E s
def sBk : SC := fun E s => .bk E s
def sCt : SC := fun E s => .ct E s
def sq (a b : SC) : SC := fun E s => (a E s).next b
def sSet (t : TC) (e : EC) : SC := fun E s => ofRes (e E s) E fun x s1 => match t x E s1 with | some (E2, s2) => .nx E2 s2 | none => .fail
def sExp (e : EC) : SC := fun E s => ofRes (e E s) E fun _ s1 => .nx E s1
def sRet (e : EC) : SC := fun E s => ofRes (e E s) E fun x s1 => .rt x s1
def sRetN : SC := fun _ s => .rt (.d .non) s
def sIf (c : BC) (a b : SC) : SC := fun E s => ofRes (c E s) E fun x s1 => if x then a E s1 else b E s1
/-- x op= e at a name -/
def sAug (i : Nat) (p : Val → Val → Store → Res Val) (e : EC) : SC := fun E s => match E[i]? with
  | some (some x) => ofRes (e E s) E fun y s1 => ofRes (p x y s1) E fun z s2 => .nx (E.set i (some z)) s2
  | _ => .fail
/-- a, b = x, y with plain names -/
def sPar (i j : Nat) (a b : EC) : SC := fun E s => ofRes (a E s) E fun x s1 => ofRes (b E s1) E fun y s2 => .nx ((E.set i (some x)).set j (some y)) s2
def forV (t : TC) (b : SC) : List Val → SC
  | [], E, s => .nx E s
  | x :: xs, E, s => match t x E s with
    | none => .fail
    | some (E1, s1) => match b E1 s1 with
      | .nx E2 s2 => forV t b xs E2 s2
      | .ct E2 s2 => forV t b xs E2 s2
      | .bk E2 s2 => .nx E2 s2
      | r => r
def forN (t : TC) (b : SC) (n : Nat) : Nat → Nat → SC
  | 0, _, _, _ => .fail
  | f + 1, i, E, s => match s[n]? with
    | some (.lst xs) => match xs[i]? with
      | none => .nx E s
      | some x => match t (.d x) E s with
        | none => .fail
        | some (E1, s1) => match b E1 s1 with
          | .nx E2 s2 => forN t b n f (i + 1) E2 s2
          | .ct E2 s2 => forN t b n f (i + 1) E2 s2
          | .bk E2 s2 => .nx E2 s2
          | r => r
    | _ => .fail
/-- the most turns of a while -/
def most : Nat := 1000000000
def sFor (t : TC) (i : IC) (b : SC) : SC := fun E s => ofRes (i E s) E fun sr s1 => match sr with
  | .vals xs => forV t b xs E s1
  | .live n => forN t b n most 0 E s1
def whl (c : BC) (b : SC) : Nat → SC
  | 0, _, _ => .fail
  | n + 1, E, s => ofRes (c E s) E fun x s1 => if x then match b E s1 with
      | .nx E2 s2 => whl c b n E2 s2
      | .ct E2 s2 => whl c b n E2 s2
      | .bk E2 s2 => .nx E2 s2
      | r => r
    else .nx E s1
def sWhl (c : BC) (b : SC) : SC := whl c b most
/-- how an own error keeps its argument: as it is, or as a tuple -/
inductive How where | plain | tuple
def keepAs (h : How) (f : Str) (x : Val) (s : Store) : Option (List (Str × D)) := match h, x with
  | .plain, .d z => some [(f, z)]
  | .tuple, .d (.tup xs) => some [(f, .tup xs)]
  | .tuple, .d (.lst xs) => some [(f, .tup xs)]
  | _, _ => none
/-- raise C(e) -/
def sRaise (c : Nat) (h : How) (f : Str) (e : EC) : SC := fun E s => ofRes (e E s) E fun x s1 => match keepAs h f x s1 with | some fs => .exc c fs E s1 | none => .fail
def noExV : Val → Bool | .exn _ _ => false | _ => true
def noExn : Option Val → Bool | some x => noExV x | none => true
def noExO : Obj → Bool
  | .lv xs => xs.all noExV | .dct kvs => kvs.all fun p => noExV p.2 | .ins _ fs => fs.all fun p => noExV p.2 | _ => true
noncomputable instance noExDec (s s1 : Store) : Decidable (s.all noExO = true ∨ s = s1) :=
  if h : s.all noExO = true then .isTrue (.inl h) else Classical.propDecidable _
/-- try: b except C as n: u (n in slot i); others: classes that pass -/
noncomputable def sTry (b : SC) (c : Nat) (others : List Nat) (i : Nat) (u : SC) : SC := fun E s => match b E s with
  | .exc c' fs E1 s1 => if c' = c then (if i < E1.length then match u (E1.set i (some (.exn c fs))) s1 with
      | .nx E2 s2 => if (E2.set i none).all noExn = true then (if s2.all noExO = true ∨ s2 = s1 then .nx (E2.set i none) s2 else .fail) else .fail
      | .rt (.d x) s2 => if s2.all noExO = true ∨ s2 = s1 then .rt (.d x) s2 else .fail
      | _ => .fail
    else .fail) else if c' ∈ others then .exc c' fs E1 s1 else .fail
  | r => r
/-- n.f of a caught error of the class c -/
def exF (c : Nat) (f : Str) (x : Val) (s : Store) : Res Val := match x with
  | .exn c' fs => if c' = c then (match fs.lookup f with | some z => .ok (.d z) s | none => .fail) else .fail
  | _ => .fail

/-! ### calls -/
abbrev Calls := Nat → List Val → Store → Res Val
def call (P : Calls) (f : Nat) (r : AC) : EC := fun E s => (r E s).bind fun xs s1 => P f xs s1
def cloV (n : Nat) : Val → Bool | .loc m => decide (m < n) | _ => true
def cloO (n : Nat) : Obj → Bool
  | .lst _ => true | .lv xs => xs.all (cloV n) | .dct kvs => kvs.all fun p => cloV n p.2 | .ins _ fs => fs.all fun p => cloV n p.2 | .dead => true
def clo (n : Nat) (s : Store) : Bool := s.all (cloO n)
noncomputable instance cloDec (n : Nat) (s s0 : Store) : Decidable (clo n s = true ∨ s = s0) :=
  if h : clo n s = true then .isTrue (.inl h) else Classical.propDecidable _
/-- a call's end: what was made within and is told is frozen, all else made within is forgotten -/
noncomputable def fin (s0 : Store) (x : Val) (s : Store) : Val × Store :=
  if s.length = s0.length then (x, s)
  else if clo s0.length (s.take s0.length) = true ∨ s.take s0.length = s0 then
    match x with
    | .d z => (.d z, s.take s0.length)
    | .loc n => if n < s0.length then (.loc n, s.take s0.length) else match s[n]? with | some (.lst ds) => (.d (.lst ds), s.take s0.length) | _ => (.loc n, s)
    | .exn c fs => (.exn c fs, s)
  else (x, s)
structure Fn where
  pars : Nat
  slots : Nat
  body : SC
noncomputable def runFn (f : Fn) (xs : List Val) (s : Store) : Res Val :=
  if xs.length = f.pars then
    match f.body (xs.map some ++ List.replicate (f.slots - f.pars) none) s with
    | .nx _ s1 => let r := fin s (.d .non) s1; .ok r.1 r.2
    | .rt x s1 => let r := fin s x s1; .ok r.1 r.2
    | .exc c fs _ s1 => .exc c fs (fin s (.d .non) s1).2
    | _ => .fail
  else .fail
/-- a program: its defs by their numbers, each over the calls one level lower -/
noncomputable def runP (prog : Calls → Nat → Option Fn) : Nat → Calls
  | 0, _, _, _ => .fail
  | n + 1, f, xs, s => match prog (runP prog n) f with | some g => runFn g xs s | none => .fail
end Ev
end
section
set_option Elab.async false
set_option linter.all false
set_option autoImplicit false
set_option maxRecDepth 100000
set_option maxHeartbeats 4000000
/-! The evaluator's states and the abstract heaps that they stand for. -/
namespace Ev
open PySem L2

theorem line_eq : sizeLine = line := sizeLine_eq

/-- what the text says: its written part, its classes by their numbers, the errors that are being handled -/
structure Gd where
  K : PySem.W.Frag
  ca : Nat → Addr
  ex : Addr → Option Addr → Nat → Prop

mutual
def RepD (K : PySem.W.Frag) (M : Addr → Prop) (H : Hp) : D → V → Prop
  | .non, x => x = .non
  | .bl b, x => x = .bl b
  | .int i, x => x = .int i
  | .str z, x => x = .str z
  | .tup ds, x => ∃ a xs, x = .ref a ∧ SqT K H a xs ∧ ds.length ≤ sizeLine ∧ RepDs K M H ds xs
  | .lst ds, x => ∃ a xs, x = .ref a ∧ ¬ M a ∧ H a = some (.lst xs) ∧ ds.length ≤ sizeLine ∧ RepDs K M H ds xs
  | .dct kvs, x => ∃ a ks, x = .ref a ∧ ¬ M a ∧ H a = some (.dK ks) ∧ kvs.length ≤ sizeLine ∧ RepKs K M H kvs ks
  | .scr ns, x => ∃ a, x = .ref a ∧ ((∃ o, H a = some (.frz o (.lst (ns.map V.int)))) ∨ SqL K (fun _ => none) a (ns.map V.int)) ∧ ns.length ≤ sizeLine
def RepDs (K : PySem.W.Frag) (M : Addr → Prop) (H : Hp) : List D → List V → Prop
  | [], [] => True
  | d :: ds, x :: xs => RepD K M H d x ∧ RepDs K M H ds xs
  | [], _ :: _ => False
  | _ :: _, [] => False
def RepKs (K : PySem.W.Frag) (M : Addr → Prop) (H : Hp) : List (Key × D) → List (Key × V) → Prop
  | [], [] => True
  | (q, d) :: ds, p :: xs => (q = p.1 ∧ RepD K M H d p.2) ∧ RepKs K M H ds xs
  | [], _ :: _ => False
  | _ :: _, [] => False
end

/-- M: what may be changed; ρ: the addresses of the store's places -/
def RepV (G : Gd) (ρ : List Addr) (M : Addr → Prop) (H : Hp) : Val → V → Prop
  | .d d, x => RepD G.K M H d x
  | .loc n, x => ∃ a, ρ[n]? = some a ∧ x = .ref a
  | .exn c fs, x => ∃ a d xs, x = .ref a ∧ G.ex a (some d) c ∧ H d = some (.xd xs) ∧ ∀ f z, fs.lookup f = some z → ∃ y, xs.lookup f = some y ∧ RepD G.K M H z y
def RepVs (G : Gd) (ρ : List Addr) (M : Addr → Prop) (H : Hp) : List Val → List V → Prop
  | [], [] => True
  | d :: ds, x :: xs => RepV G ρ M H d x ∧ RepVs G ρ M H ds xs
  | [], _ :: _ => False
  | _ :: _, [] => False
def RepF {κ : Type} (G : Gd) (ρ : List Addr) (M : Addr → Prop) (H : Hp) : List (κ × Val) → List (κ × V) → Prop
  | [], [] => True
  | p :: ds, q :: xs => (p.1 = q.1 ∧ RepV G ρ M H p.2 q.2) ∧ RepF G ρ M H ds xs
  | [], _ :: _ => False
  | _ :: _, [] => False
def RepO (G : Gd) (ρ : List Addr) (M : Addr → Prop) (H : Hp) (a : Addr) : Obj → Prop
  | .lst ds => ∃ xs, H a = some (.lst xs) ∧ ds.length ≤ sizeLine ∧ RepDs G.K M H ds xs
  | .lv vs => ∃ xs, H a = some (.lst xs) ∧ vs.length ≤ sizeLine ∧ RepVs G ρ M H vs xs
  | .dct kvs => ∃ ks, H a = some (.dK ks) ∧ kvs.length ≤ sizeLine ∧ RepF G ρ M H kvs ks
  | .ins c fs => ∃ dx xs, H a = some (.ins (G.ca c) dx xs) ∧ RepF G ρ M H fs xs
  | .dead => True

def live (s : Store) (n : Nat) : Prop := ∃ o, s[n]? = some o ∧ o ≠ .dead
/-- what may be changed -/
def Mu (ρ : List Addr) (s : Store) (F : Addr → Prop) (a : Addr) : Prop := F a ∨ ∃ n : Nat, ρ[n]? = some a ∧ live s n

structure Rel (G : Gd) (F : Addr → Prop) (ρ : List Addr) (s : Store) (H : Hp) : Prop where
  len : ρ.length = s.length
  nd : ρ.Nodup
  nf : ∀ (n : Nat) a, ρ[n]? = some a → live s n → ¬ F a
  tr : ∀ (n : Nat) a, ρ[n]? = some a → ∃ o, H a = some o
  ft : ∀ a, F a → ∃ o, H a = some o
  ob : ∀ (n : Nat) o a, s[n]? = some o → ρ[n]? = some a → RepO G ρ (Mu ρ s F) H a o

/-- from one state to a later one: only what stands in the store was changed -/
structure Go (ρ : List Addr) (s : Store) (H : Hp) (ρ' : List Addr) (s' : Store) (H' : Hp) : Prop where
  pre : ∃ m, ρ' = ρ ++ m ∧ ∀ a ∈ m, H a = none
  liv : ∀ n : Nat, n < ρ.length → live s' n → live s n
  keep : ∀ a o, H a = some o → (∀ n : Nat, ρ[n]? = some a → ¬ live s n) → H' a = some o
  there : ∀ a o, H a = some o → ∃ o', H' a = some o'

theorem Go.refl {ρ : List Addr} {s : Store} {H : Hp} : Go ρ s H ρ s H :=
  ⟨⟨[], by simp, by simp⟩, fun _ _ h => h, fun _ _ h _ => h, fun _ o h => ⟨o, h⟩⟩
theorem Go.get {ρ ρ' : List Addr} {s s' : Store} {H H' : Hp} (g : Go ρ s H ρ' s' H') {n : Nat} {a : Addr} (h : ρ[n]? = some a) : ρ'[n]? = some a := by
  obtain ⟨m, rfl, _⟩ := g.pre
  rw [List.getElem?_append_left (List.getElem?_eq_some_iff.mp h).1]; exact h
theorem Go.back {ρ ρ' : List Addr} {s s' : Store} {H H' : Hp} (g : Go ρ s H ρ' s' H') {n : Nat} {a : Addr} (h : ρ'[n]? = some a) : ρ[n]? = some a ∨ (ρ.length ≤ n ∧ H a = none) := by
  obtain ⟨m, rfl, hm⟩ := g.pre
  by_cases hn : n < ρ.length
  · rw [List.getElem?_append_left hn] at h; exact .inl h
  · rw [List.getElem?_append_right (by omega)] at h
    exact .inr ⟨by omega, hm a (List.mem_of_getElem? h)⟩
theorem Go.trans {ρ ρ1 ρ2 : List Addr} {s s1 s2 : Store} {H H1 H2 : Hp} (g : Go ρ s H ρ1 s1 H1) (g' : Go ρ1 s1 H1 ρ2 s2 H2) : Go ρ s H ρ2 s2 H2 := by
  obtain ⟨m, e, hm⟩ := id g.pre
  obtain ⟨m', e', hm'⟩ := id g'.pre
  refine ⟨⟨m ++ m', by rw [e', e, List.append_assoc], fun a ha => ?_⟩, fun n hn h => ?_, fun a o h hl => ?_, fun a o h => ?_⟩
  · rcases List.mem_append.mp ha with h | h
    · exact hm a h
    · cases q : H a with
      | none => rfl
      | some o =>
        obtain ⟨o', e2⟩ := g.there a o q
        rw [hm' a h] at e2; cases e2
  · exact g.liv n hn (g'.liv n (by rw [e, List.length_append]; omega) h)
  · refine g'.keep a o (g.keep a o h hl) fun n hn hv => ?_
    rcases g.back hn with q | ⟨_, q⟩
    · exact hl n q (g.liv n (List.getElem?_eq_some_iff.mp q).1 hv)
    · rw [h] at q; cases q
  · obtain ⟨o1, h1⟩ := g.there a o h
    exact g'.there a o1 h1

/-- what is tracked and not changed stays so -/
theorem Go.mu {F : Addr → Prop} {ρ ρ' : List Addr} {s s' : Store} {H H' : Hp} (g : Go ρ s H ρ' s' H') {a : Addr} {o : HO} (h : H a = some o) (n : ¬ Mu ρ s F a) : H' a = some o ∧ ¬ Mu ρ' s' F a := by
  refine ⟨g.keep a o h fun m hm hl => n (.inr ⟨m, hm, hl⟩), fun q => ?_⟩
  rcases q with q | ⟨m, hm, hl⟩
  · exact n (.inl q)
  · rcases g.back hm with e | ⟨_, e⟩
    · exact n (.inr ⟨m, e, g.liv m (List.getElem?_eq_some_iff.mp e).1 hl⟩)
    · rw [h] at e; cases e

/-- from (M, H) to (M', H'): what is frozen stays -/
structure Still (M : Addr → Prop) (H : Hp) (M' : Addr → Prop) (H' : Hp) : Prop where
  fz : ∀ a o, H a = some o → ¬ M a → H' a = some o ∧ ¬ M' a
  tp : ∀ a xs, H a = some (.tup xs) → H' a = some (.tup xs)
  lk : ∀ a o u, H a = some (.frz o u) → H' a = some (.frz o u)
  xd : ∀ a xs, H a = some (.xd xs) → H' a = some (.xd xs)
theorem Still.sqT {K : PySem.W.Frag} {M M' : Addr → Prop} {H H' : Hp} (t : Still M H M' H') {a : Addr} {xs : List V} (h : SqT K H a xs) : SqT K H' a xs := by
  rcases h with (h | ⟨o, h⟩) | h
  · exact .inl (.inl (t.tp _ _ h))
  · exact .inl (.inr ⟨o, t.lk _ _ _ h⟩)
  · exact .inr h

section
variable {K : PySem.W.Frag} {M M' : Addr → Prop} {H H' : Hp}
mutual
theorem RepD.still (t : Still M H M' H') : ∀ (d : D) (x : V), RepD K M H d x → RepD K M' H' d x
  | .non, _, h => h
  | .bl _, _, h => h
  | .int _, _, h => h
  | .str _, _, h => h
  | .tup ds, x, h => by
    simp only [RepD] at h ⊢
    obtain ⟨a, xs, e, q, l, r⟩ := h
    exact ⟨a, xs, e, t.sqT q, l, RepDs.still t ds xs r⟩
  | .lst ds, x, h => by
    simp only [RepD] at h ⊢
    obtain ⟨a, xs, e, n, q, l, r⟩ := h
    obtain ⟨q', n'⟩ := t.fz a _ q n
    exact ⟨a, xs, e, n', q', l, RepDs.still t ds xs r⟩
  | .dct ds, x, h => by
    simp only [RepD] at h ⊢
    obtain ⟨a, xs, e, n, q, l, r⟩ := h
    obtain ⟨q', n'⟩ := t.fz a _ q n
    exact ⟨a, xs, e, n', q', l, RepKs.still t ds xs r⟩
  | .scr ns, x, h => by
    simp only [RepD] at h ⊢
    obtain ⟨a, e, q, l⟩ := h
    refine ⟨a, e, ?_, l⟩
    rcases q with ⟨o, q⟩ | q
    · exact .inl ⟨o, t.lk _ _ _ q⟩
    · exact .inr q
theorem RepDs.still (t : Still M H M' H') : ∀ (ds : List D) (xs : List V), RepDs K M H ds xs → RepDs K M' H' ds xs
  | [], [], _ => trivial
  | d :: ds, x :: xs, h => by
    simp only [RepDs] at h ⊢
    exact ⟨RepD.still t d x h.1, RepDs.still t ds xs h.2⟩
  | [], _ :: _, h => by simp [RepDs] at h
  | _ :: _, [], h => by simp [RepDs] at h
theorem RepKs.still (t : Still M H M' H') : ∀ (ds : List (Key × D)) (xs : List (Key × V)), RepKs K M H ds xs → RepKs K M' H' ds xs
  | [], [], _ => trivial
  | (q, d) :: ds, p :: xs, h => by
    simp only [RepKs] at h ⊢
    exact ⟨⟨h.1.1, RepD.still t d p.2 h.1.2⟩, RepKs.still t ds xs h.2⟩
  | [], _ :: _, h => by simp [RepKs] at h
  | _ :: _, [], h => by simp [RepKs] at h
end
end

theorem RepV.still {G : Gd} {ρ ρ' : List Addr} {M M' : Addr → Prop} {H H' : Hp} (t : Still M H M' H') (p : ∀ (n : Nat) a, ρ[n]? = some a → ρ'[n]? = some a) :
    ∀ (v : Val) (y : V), RepV G ρ M H v y → RepV G ρ' M' H' v y
  | .d d, y, h => RepD.still t d y h
  | .loc n, y, ⟨a, h, e⟩ => ⟨a, p n a h, e⟩
  | .exn c fs, y, ⟨a, d, xs, e, g, h, r⟩ => ⟨a, d, xs, e, g, t.xd d xs h, fun f z hz => let ⟨w, hw, rw'⟩ := r f z hz; ⟨w, hw, RepD.still t z w rw'⟩⟩
theorem RepVs.still {G : Gd} {ρ ρ' : List Addr} {M M' : Addr → Prop} {H H' : Hp} (t : Still M H M' H') (p : ∀ (n : Nat) a, ρ[n]? = some a → ρ'[n]? = some a) :
    ∀ (vs : List Val) (ys : List V), RepVs G ρ M H vs ys → RepVs G ρ' M' H' vs ys
  | [], [], _ => trivial
  | v :: vs, y :: ys, h => ⟨RepV.still t p v y h.1, RepVs.still t p vs ys h.2⟩
  | [], _ :: _, h => h
  | _ :: _, [], h => h
theorem RepF.still {κ : Type} {G : Gd} {ρ ρ' : List Addr} {M M' : Addr → Prop} {H H' : Hp} (t : Still M H M' H') (p : ∀ (n : Nat) a, ρ[n]? = some a → ρ'[n]? = some a) :
    ∀ (vs : List (κ × Val)) (ys : List (κ × V)), RepF G ρ M H vs ys → RepF G ρ' M' H' vs ys
  | [], [], _ => trivial
  | v :: vs, y :: ys, h => ⟨⟨h.1.1, RepV.still t p v.2 y.2 h.1.2⟩, RepF.still t p vs ys h.2⟩
  | [], _ :: _, h => h
  | _ :: _, [], h => h

/-- what stands at a live place is a list, a dict, an instance -/
theorem Rel.kind {G : Gd} {F : Addr → Prop} {ρ : List Addr} {s : Store} {H : Hp} (r : Rel G F ρ s H) {n : Nat} {a : Addr} (h : ρ[n]? = some a) (l : live s n) :
    (∃ xs, H a = some (.lst xs)) ∨ (∃ ks, H a = some (.dK ks)) ∨ ∃ C dx xs, H a = some (.ins C dx xs) := by
  obtain ⟨o, ho, hd⟩ := l
  have q := r.ob n o a ho h
  cases o with
  | lst ds => obtain ⟨xs, e, _⟩ := q; exact .inl ⟨xs, e⟩
  | lv ds => obtain ⟨xs, e, _⟩ := q; exact .inl ⟨xs, e⟩
  | dct ds => obtain ⟨xs, e, _⟩ := q; exact .inr (.inl ⟨xs, e⟩)
  | ins c fs => obtain ⟨dx, xs, e, _⟩ := q; exact .inr (.inr ⟨_, dx, xs, e⟩)
  | dead => exact absurd rfl hd
theorem Rel.still {G : Gd} {F : Addr → Prop} {ρ ρ' : List Addr} {s s' : Store} {H H' : Hp} (r : Rel G F ρ s H) (g : Go ρ s H ρ' s' H') : Still (Mu ρ s F) H (Mu ρ' s' F) H' := by
  have nl : ∀ {a : Addr} {o : HO}, H a = some o → (∀ xs, o ≠ .lst xs) → (∀ xs, o ≠ .dK xs) → (∀ C dx xs, o ≠ .ins C dx xs) → H' a = some o := fun {a o} h h1 h2 h3 => by
    refine g.keep a o h fun n hn hl => ?_
    rcases r.kind hn hl with ⟨xs, e⟩ | ⟨xs, e⟩ | ⟨C, dx, xs, e⟩
    · rw [h] at e; exact h1 _ (Option.some.inj e)
    · rw [h] at e; exact h2 _ (Option.some.inj e)
    · rw [h] at e; exact h3 _ _ _ (Option.some.inj e)
  refine ⟨fun a o h n => g.mu h n, fun a xs h => nl h ?_ ?_ ?_, fun a o u h => nl h ?_ ?_ ?_, fun a xs h => nl h ?_ ?_ ?_⟩
  all_goals intros; intro z; cases z

/-- the slots -/
structure RepE (G : Gd) (ρ : List Addr) (M : Addr → Prop) (H : Hp) (E : Env) (σ : St) : Prop where
  len : E.length = σ.length
  get : ∀ (i : Nat) v, E[i]? = some (some v) → ∃ x, σ[i]? = some (some x) ∧ RepV G ρ M H v x
theorem RepE.still {G : Gd} {ρ ρ' : List Addr} {M M' : Addr → Prop} {H H' : Hp} {E : Env} {σ : St} (h : RepE G ρ M H E σ) (t : Still M H M' H') (p : ∀ (n : Nat) a, ρ[n]? = some a → ρ'[n]? = some a) : RepE G ρ' M' H' E σ :=
  ⟨h.len, fun i v e => let ⟨x, e', r⟩ := h.get i v e; ⟨x, e', RepV.still t p v x r⟩⟩
theorem RepE.set {G : Gd} {ρ : List Addr} {M : Addr → Prop} {H : Hp} {E : Env} {σ : St} (h : RepE G ρ M H E σ) {v : Val} {x : V} (r : RepV G ρ M H v x) (i : Nat) : RepE G ρ M H (E.set i (some v)) (σ.set i (some x)) := by
  refine ⟨by simp [h.len], fun j w e => ?_⟩
  by_cases hj : i = j
  · subst hj
    by_cases hi : i < E.length
    · rw [List.getElem?_set_self hi] at e; cases e
      exact ⟨x, List.getElem?_set_self (by rw [← h.len]; exact hi), r⟩
    · rw [List.getElem?_eq_none (by simp; omega)] at e; cases e
  · rw [List.getElem?_set_ne hj] at e
    rw [List.getElem?_set_ne hj]; exact h.get j w e
theorem RepE.unset {G : Gd} {ρ : List Addr} {M : Addr → Prop} {H : Hp} {E : Env} {σ : St} (h : RepE G ρ M H E σ) (i : Nat) : RepE G ρ M H (E.set i none) (σ.set i none) := by
  refine ⟨by simp [h.len], fun j w e => ?_⟩
  by_cases hj : i = j
  · subst hj
    by_cases hi : i < E.length
    · rw [List.getElem?_set_self hi] at e; cases e
    · rw [List.getElem?_eq_none (by simp; omega)] at e; cases e
  · rw [List.getElem?_set_ne hj] at e
    rw [List.getElem?_set_ne hj]; exact h.get j w e
theorem RepE.wipe {G : Gd} {ρ : List Addr} {M : Addr → Prop} {H : Hp} {E : Env} {σ : St} (h : RepE G ρ M H E σ) : ∀ ws : List Nat, RepE G ρ M H (Ev.wipe E ws) (L2.wipe σ ws)
  | [] => h
  | i :: ws => (RepE.wipe h ws).unset i

/-- a state, its slots -/
structure At (G : Gd) (F : Addr → Prop) (ρ : List Addr) (s : Store) (H : Hp) (E : Env) (σ : St) : Prop where
  rel : Rel G F ρ s H
  env : RepE G ρ (Mu ρ s F) H E σ
theorem At.go {G : Gd} {F : Addr → Prop} {ρ ρ' : List Addr} {s s' : Store} {H H' : Hp} {E : Env} {σ : St} (a : At G F ρ s H E σ) (g : Go ρ s H ρ' s' H') (r : Rel G F ρ' s' H') : At G F ρ' s' H' E σ :=
  ⟨r, a.env.still (a.rel.still g) fun _ _ h => g.get h⟩
theorem Rel.val {G : Gd} {F : Addr → Prop} {ρ ρ' : List Addr} {s s' : Store} {H H' : Hp} (r : Rel G F ρ s H) (g : Go ρ s H ρ' s' H') {v : Val} {x : V} (h : RepV G ρ (Mu ρ s F) H v x) : RepV G ρ' (Mu ρ' s' F) H' v x :=
  RepV.still (r.still g) (fun _ _ h => g.get h) v x h
theorem Rel.vals {G : Gd} {F : Addr → Prop} {ρ ρ' : List Addr} {s s' : Store} {H H' : Hp} (r : Rel G F ρ s H) (g : Go ρ s H ρ' s' H') {v : List Val} {x : List V} (h : RepVs G ρ (Mu ρ s F) H v x) : RepVs G ρ' (Mu ρ' s' F) H' v x :=
  RepVs.still (r.still g) (fun _ _ h => g.get h) v x h

/-- what stands for a result -/
abbrev RR (A B : Type) := List Addr → (Addr → Prop) → Hp → A → B → Prop
def rB : RR Bool Bool := fun _ _ _ a b => a = b
def ErrOk (G : Gd) (F : Addr → Prop) (ρ : List Addr) (s : Store) (H : Hp) (c : Nat) (fs : List (Str × D)) (s' : Store) (Z : Value → Option Addr → Hp → Prop) : Prop :=
  ∀ ρ' H' d xs, Go ρ s H ρ' s' H' → Rel G F ρ' s' H' → H' d = some (.xd xs) → (∀ f z, fs.lookup f = some z → ∃ y, xs.lookup f = some y ∧ RepD G.K (Mu ρ' s' F) H' z y) → Z (.ref (G.ca c)) (some d) H'
def Out {A B : Type} (G : Gd) (F : Addr → Prop) (ρ : List Addr) (s : Store) (H : Hp) (Z : Value → Option Addr → Hp → Prop) (R : RR A B) (r : Res A) (Q : B → Hp → Prop) : Prop :=
  match r with
  | .ok a s' => ∀ b ρ' H', Go ρ s H ρ' s' H' → Rel G F ρ' s' H' → R ρ' (Mu ρ' s' F) H' a b → Q b H'
  | .exc c fs s' => ErrOk G F ρ s H c fs s' Z
  | .fail => False
section
variable {A B C E : Type} {G : Gd} {F : Addr → Prop} {ρ ρ1 : List Addr} {s s1 : Store} {H H1 : Hp} {Z : Value → Option Addr → Hp → Prop} {R : RR A B} {R' : RR C E} {r : Res A}
theorem Out.mono {Q Q' : B → Hp → Prop} (h : Out G F ρ s H Z R r Q) (q : ∀ b H, Q b H → Q' b H) : Out G F ρ s H Z R r Q' := by
  cases r with
  | ok a s' => exact fun b ρ' H' g l x => q _ _ (h b ρ' H' g l x)
  | exc c fs s' => exact h
  | fail => exact h
theorem Out.shift {Q : B → Hp → Prop} (g : Go ρ s H ρ1 s1 H1) (h : Out G F ρ s H Z R r Q) : Out G F ρ1 s1 H1 Z R r Q := by
  cases r with
  | ok a s' => exact fun b ρ' H' g' l x => h b ρ' H' (g.trans g') l x
  | exc c fs s' => exact fun ρ' H' d xs g' => h ρ' H' d xs (g.trans g')
  | fail => exact h
theorem Out.bind {f : A → Store → Res C} {Q : E → Hp → Prop} (h : Out G F ρ s H Z R' (r.bind f) Q) :
    Out G F ρ s H Z R r fun b H1 => ∃ ρ1 s1 a, Go ρ s H ρ1 s1 H1 ∧ Rel G F ρ1 s1 H1 ∧ R ρ1 (Mu ρ1 s1 F) H1 a b ∧ Out G F ρ1 s1 H1 Z R' (f a s1) Q := by
  cases r with
  | ok a s' => exact fun b ρ' H' g l x => ⟨ρ', s', a, g, l, x, Out.shift g h⟩
  | exc c fs s' => exact h
  | fail => exact h
theorem Out.ret {Q : B → Hp → Prop} {a : A} (h : Out G F ρ s H Z R (.ok a s) Q) (l : Rel G F ρ s H) {b : B} (x : R ρ (Mu ρ s F) H a b) : Q b H := h b ρ H .refl l x
end

/-- the readings -/
def tE (G : Gd) (W : WX) (c : EC) : TE := fun σ H Q => ∃ F ρ s E, At G F ρ s H E σ ∧ Out G F ρ s H (fun C d H' => W C d σ H') (RepV G) (c E s) Q
def tT (G : Gd) (W : WX) (c : BC) : TT := fun σ H Q => ∃ F ρ s E, At G F ρ s H E σ ∧ Out G F ρ s H (fun C d H' => W C d σ H') rB (c E s) Q
def tA (G : Gd) (W : WX) (c : AC) : TA := fun σ H Q => ∃ F ρ s E, At G F ρ s H E σ ∧ Out G F ρ s H (fun C d H' => W C d σ H') (RepVs G) (c E s) Q
abbrev SE (G : Gd) (W : WX) (X : Cx) (c : EC) (e : Expr) : Prop := PE X e (tE G W c)
abbrev ST (G : Gd) (W : WX) (X : Cx) (c : BC) (e : Expr) : Prop := PT X e (tT G W c)
abbrev SW (G : Gd) (W : WX) (X : Cx) (c : BC) (e : Expr) : Prop := PW X e (tT G W c)
abbrev SA (G : Gd) (W : WX) (X : Cx) (c : AC) (es : List Expr) : Prop := PA X es (tA G W c)

theorem PE.imp {X : Cx} {e : Expr} {t t' : TE} (h : PE X e t) (i : ∀ σ H Q, t' σ H Q → t σ H Q) : PE X e t' := ⟨fun pins s σ H Q I q => h.run pins s σ H Q I (i σ H Q q)⟩
theorem PT.imp {X : Cx} {e : Expr} {t t' : TT} (h : PT X e t) (i : ∀ σ H Q, t' σ H Q → t σ H Q) : PT X e t' := ⟨fun pins s σ H Q I q => h.run pins s σ H Q I (i σ H Q q)⟩
theorem PW.imp {X : Cx} {e : Expr} {t t' : TT} (h : PW X e t) (i : ∀ σ H Q, t' σ H Q → t σ H Q) : PW X e t' := ⟨fun wh pins s σ H Q I q => h.run wh pins s σ H Q I (i σ H Q q)⟩
theorem PA.imp {X : Cx} {e : List Expr} {t t' : TA} (h : PA X e t) (i : ∀ σ H Q, t' σ H Q → t σ H Q) : PA X e t' := ⟨fun pos pins s σ H Q I q => h.run pos pins s σ H Q I (i σ H Q q)⟩
theorem PS.imp {X : Cx} {e : Stmt} {t t' : TS} (h : PS X e t) (i : ∀ D σ H, t' D σ H → t D σ H) : PS X e t' := ⟨fun pins s σ H D I q => h.run pins s σ H D I (i D σ H q)⟩
theorem PSs.imp {X : Cx} {e : List Stmt} {t t' : TS} (h : PSs X e t) (i : ∀ D σ H, t' D σ H → t D σ H) : PSs X e t' := ⟨fun pins s σ H D I q => h.run pins s σ H D I (i D σ H q)⟩

section
variable {G : Gd} {W : WX} {X : Cx} {a b c : Expr} {ca cb cc : EC} {ba bb : BC} {pos : Pos}
theorem tE.one {c : EC} {σ : St} {H : Hp} {Q : VK} {Q' : VK} (h : tE G W c σ H Q) (q : ∀ b H, Q b H → Q' b H) : tE G W c σ H Q' := by
  obtain ⟨F, ρ, s, E, a, o⟩ := h
  exact ⟨F, ρ, s, E, a, o.mono q⟩

/-! ### names, constants -/
theorem se_v {i : Nat} {x : Str} (hN : X.N[i]? = some x := by rfl) (hv : Vis X.env.scope x := by first | exact .inl rfl | exact .inr (.inl rfl) | exact .inr (.inr rfl))
    (hd : (x == ("__debug__" : Str)) = false := by decide +kernel) (hcd : (x == ("__classdict__" : Str)) = false := by decide +kernel) : SE G W X (v i) (.Name x pos) :=
  PE.imp (pe_var (i := i) hN hv hd hcd) fun σ H Q ⟨F, ρ, s, E, at_, o⟩ => by
    unfold v at o
    cases e : E[i]? with
    | none => rw [e] at o; exact o.elim
    | some w =>
      cases w with
      | none => rw [e] at o; exact o.elim
      | some y =>
        rw [e] at o
        obtain ⟨x, hx, r⟩ := at_.env.get i y e
        exact ⟨x, hx, Out.ret o at_.rel r⟩
theorem se_int {i : Int} {j : Nat} : SE G W X (k (.int i)) (.Constant (.int i) j pos) := PE.imp pe_int fun σ H Q ⟨F, ρ, s, E, at_, o⟩ => Out.ret (R := RepV G) (b := .int i) o at_.rel (by simp [RepV, RepD])
theorem se_bl {i : Bool} {j : Nat} : SE G W X (k (.bl i)) (.Constant (.bool i) j pos) := PE.imp pe_bl fun σ H Q ⟨F, ρ, s, E, at_, o⟩ => Out.ret (R := RepV G) (b := .bl i) o at_.rel (by simp [RepV, RepD])
theorem se_non {j : Nat} : SE G W X (k .non) (.Constant .none j pos) := PE.imp pe_non fun σ H Q ⟨F, ρ, s, E, at_, o⟩ => Out.ret (R := RepV G) (b := .non) o at_.rel (by simp [RepV, RepD])
theorem se_str {x : Str} {j : Nat} : SE G W X (k (.str x)) (.Constant (.str x) j pos) := PE.imp pe_str fun σ H Q ⟨F, ρ, s, E, at_, o⟩ => Out.ret (R := RepV G) (b := .str x) o at_.rel (by simp [RepV, RepD])

/-! ### operators by values -/
/-- a two-place operation does what p says -/
def rP (G : Gd) (p : Val → Val → Store → Res Val) : R2 := fun x y H Q => ∃ F ρ s Z v1 v2, Rel G F ρ s H ∧ RepV G ρ (Mu ρ s F) H v1 x ∧ RepV G ρ (Mu ρ s F) H v2 y ∧ Out G F ρ s H Z (RepV G) (p v1 v2 s) Q
abbrev OpP (G : Gd) (X : Cx) (f : Value → Value → Sem Value) (p : Val → Val → Store → Res Val) : Prop := OpR X f (rP G p)
theorem op_to {f : Value → Value → Sem Value} {p : Val → Val → Store → Res Val} {σ : St} {H : Hp} {Q : VK} (h : tE G W (e2 p ca cb) σ H Q) : tOp (rP G p) (tE G W ca) (tE G W cb) σ H Q := by
  obtain ⟨F, ρ, s, E, at_, o⟩ := h
  refine ⟨F, ρ, s, E, at_, (Out.bind (R := RepV G) o).mono ?_⟩
  rintro x H1 ⟨ρ1, s1, v1, g1, l1, x1, o1⟩
  refine ⟨F, ρ1, s1, E, at_.go g1 l1, (Out.bind (R := RepV G) o1).mono ?_⟩
  rintro y H2 ⟨ρ2, s2, v2, g2, l2, x2, o2⟩
  exact ⟨F, ρ2, s2, _, v1, v2, l2, l1.val g2 x1, x2, o2⟩
theorem se_bin {op : Operator} {p : Val → Val → Store → Res Val} (ho : OpP G X (binaryOp op) p) (ha : SE G W X ca a) (hb : SE G W X cb b) : SE G W X (e2 p ca cb) (.BinOp a op b pos) :=
  PE.imp (pe_op ho ha hb) fun σ H Q h => op_to (f := binaryOp op) h
theorem se_cmp {op : CmpOp} {p : Val → Val → Store → Res Val} (ho : OpP G X (compareOp op) p) (ha : SE G W X ca a) (hb : SE G W X cb b) (hm : behindInMarks op b = false := by first | exact nomark _ | rfl | with_unfolding_all rfl) : SE G W X (e2 p ca cb) (.Compare a [op] [b] pos) :=
  PE.imp (pe_cmpR ho ha hb hm) fun σ H Q h => op_to (f := compareOp op) h
end
end Ev
end
section
set_option Elab.async false
set_option linter.all false
set_option autoImplicit false
set_option maxRecDepth 100000
set_option maxHeartbeats 4000000
/-! States that change; tests, arguments, displays. -/
namespace Ev
open PySem L2

section
variable {G : Gd} {F : Addr → Prop} {ρ ρ' : List Addr} {s s' : Store} {H H' : Hp}
theorem RepO.still {M M' : Addr → Prop} {a : Addr} (t : Still M H M' H') (p : ∀ (n : Nat) a, ρ[n]? = some a → ρ'[n]? = some a) (e : ∀ o, H a = some o → H' a = some o) : ∀ o : Obj, RepO G ρ M H a o → RepO G ρ' M' H' a o
  | .lst ds, ⟨xs, h, l, r⟩ => ⟨xs, e _ h, l, RepDs.still t ds xs r⟩
  | .lv vs, ⟨xs, h, l, r⟩ => ⟨xs, e _ h, l, RepVs.still t p vs xs r⟩
  | .dct vs, ⟨xs, h, l, r⟩ => ⟨xs, e _ h, l, RepF.still t p vs xs r⟩
  | .ins c fs, ⟨dx, xs, h, r⟩ => ⟨dx, xs, e _ h, RepF.still t p fs xs r⟩
  | .dead, _ => trivial
/-- a new address is nobody's -/
theorem Rel.free (r : Rel G F ρ s H) {p : Addr} (n : H p = none) : ¬ Mu ρ s F p := fun q => by
  rcases q with q | ⟨m, hm, _⟩
  · obtain ⟨o, e⟩ := r.ft p q; rw [n] at e; cases e
  · obtain ⟨o, e⟩ := r.tr m p hm; rw [n] at e; cases e
theorem Rel.nin (r : Rel G F ρ s H) {p : Addr} (n : H p = none) : p ∉ ρ := fun q => by
  obtain ⟨m, hm, e⟩ := List.getElem_of_mem q
  obtain ⟨o, e⟩ := r.tr m p (by rw [List.getElem?_eq_getElem hm, e]); rw [n] at e; cases e

theorem go_new {p : Addr} {o : HO} (n : H p = none) : Go ρ s H ρ s (upd H p o) :=
  ⟨⟨[], by simp, by simp⟩, fun _ _ h => h, fun a u h _ => by rw [upd_ne (ne_of_none h n)]; exact h, fun a u h => ⟨u, by rw [upd_ne (ne_of_none h n)]; exact h⟩⟩
/-- something new stands at p -/
theorem Rel.new (r : Rel G F ρ s H) {p : Addr} {o : HO} (n : H p = none) : Rel G F ρ s (upd H p o) := by
  have g : Go ρ s H ρ s (upd H p o) := go_new n
  have t := r.still g
  refine ⟨r.len, r.nd, r.nf, fun m a h => ?_, fun a h => ?_, fun m u a h1 h2 => ?_⟩
  · obtain ⟨u, e⟩ := r.tr m a h; exact ⟨u, by rw [upd_ne (ne_of_none e n)]; exact e⟩
  · obtain ⟨u, e⟩ := r.ft a h; exact ⟨u, by rw [upd_ne (ne_of_none e n)]; exact e⟩
  · exact RepO.still t (fun _ _ h => h) (fun u e => by rw [upd_ne (ne_of_none e n)]; exact e) u (r.ob m u a h1 h2)
theorem live_push {o : Obj} {n : Nat} (h : n < s.length) : live (s ++ [o]) n ↔ live s n := by
  unfold live; rw [List.getElem?_append_left h]
theorem go_push {p : Addr} {u : HO} {o : Obj} (l : ρ.length = s.length) (n : H p = none) : Go ρ s H (ρ ++ [p]) (s ++ [o]) (upd H p u) :=
  ⟨⟨[p], rfl, fun a h => by rw [List.mem_singleton.mp h]; exact n⟩, fun m hm h => (live_push (by omega)).mp h, fun a u h _ => by rw [upd_ne (ne_of_none h n)]; exact h, fun a u h => ⟨u, by rw [upd_ne (ne_of_none h n)]; exact h⟩⟩
/-- a new place of the store -/
theorem Rel.push (r : Rel G F ρ s H) {p : Addr} {u : HO} {o : Obj} (n : H p = none) (ho : ∀ M', Still (Mu ρ s F) H M' (upd H p u) → RepO G (ρ ++ [p]) M' (upd H p u) p o) : Rel G F (ρ ++ [p]) (s ++ [o]) (upd H p u) := by
  have g : Go ρ s H (ρ ++ [p]) (s ++ [o]) (upd H p u) := go_push r.len n
  have t := r.still g
  refine ⟨by simp [r.len], ?_, fun m a h l => ?_, fun m a h => ?_, fun a h => ?_, fun m v a h1 h2 => ?_⟩
  · rw [List.nodup_append]
    exact ⟨r.nd, by simp, fun a ha b hb => by rw [List.mem_singleton.mp hb]; intro e; subst e; exact r.nin n ha⟩
  · by_cases hm : m < ρ.length
    · rw [List.getElem?_append_left hm] at h
      exact r.nf m a h ((live_push (by rw [← r.len]; exact hm)).mp l)
    · rw [List.getElem?_append_right (by omega)] at h
      have := List.mem_of_getElem? h
      rw [List.mem_singleton] at this; subst this
      intro hf
      obtain ⟨o, e⟩ := r.ft _ hf; rw [n] at e; cases e
  · by_cases hm : m < ρ.length
    · rw [List.getElem?_append_left hm] at h
      obtain ⟨u, e⟩ := r.tr m a h; exact ⟨u, by rw [upd_ne (ne_of_none e n)]; exact e⟩
    · rw [List.getElem?_append_right (by omega)] at h
      have := List.mem_of_getElem? h
      rw [List.mem_singleton] at this; subst this
      exact ⟨_, upd_same⟩
  · obtain ⟨u, e⟩ := r.ft a h; exact ⟨u, by rw [upd_ne (ne_of_none e n)]; exact e⟩
  · by_cases hm : m < ρ.length
    · rw [List.getElem?_append_left hm] at h2
      rw [List.getElem?_append_left (by rw [← r.len]; exact hm)] at h1
      exact RepO.still t (fun k b h => by rw [List.getElem?_append_left (List.getElem?_eq_some_iff.mp h).1]; exact h) (fun u e => by rw [upd_ne (ne_of_none e n)]; exact e) v (r.ob m v a h1 h2)
    · have hl := r.len
      have e : m = ρ.length := by have := (List.getElem?_eq_some_iff.mp h2).1; simp at this; omega
      subst e
      rw [List.getElem?_append_right (by omega)] at h2
      rw [List.getElem?_append_right (by omega)] at h1
      have q := List.mem_of_getElem? h2
      rw [List.mem_singleton] at q; subst q
      have q := List.mem_of_getElem? h1
      rw [List.mem_singleton] at q; subst q
      exact ho _ t
theorem live_set {o : Obj} {n m : Nat} (h : live s n) (h' : live (s.set n o) m) : live s m := by
  obtain ⟨u, e, d⟩ := h'
  by_cases q : n = m
  · subst q; exact h
  · rw [List.getElem?_set_ne q] at e; exact ⟨u, e, d⟩
theorem go_set {n : Nat} {a : Addr} {o : Obj} {u : HO} (ha : ρ[n]? = some a) (l : live s n) (ht : ∃ w, H a = some w) : Go ρ s H ρ (s.set n o) (upd H a u) :=
  ⟨⟨[], by simp, by simp⟩, fun m _ h => live_set l h, fun b v h hl => by
    rw [upd_ne (fun e => hl n (by rw [e]; exact ha) l)]; exact h, fun b v h => by
    by_cases e : b = a
    · subst e; exact ⟨_, upd_same⟩
    · exact ⟨v, by rw [upd_ne e]; exact h⟩⟩
/-- a place of the store is changed -/
theorem Rel.set (r : Rel G F ρ s H) {n : Nat} {a : Addr} {o : Obj} {u : HO} (ha : ρ[n]? = some a) (l : live s n)
    (ho : ∀ M', Still (Mu ρ s F) H M' (upd H a u) → RepO G ρ M' (upd H a u) a o) : Rel G F ρ (s.set n o) (upd H a u) := by
  have g : Go ρ s H ρ (s.set n o) (upd H a u) := go_set ha l (r.tr n a ha)
  have t := r.still g
  refine ⟨by simp [r.len], r.nd, fun m b h l' => r.nf m b h (live_set l l'), fun m b h => ?_, fun b h => ?_, fun m v b h1 h2 => ?_⟩
  · obtain ⟨w, e⟩ := r.tr m b h; exact g.there b w e
  · obtain ⟨w, e⟩ := r.ft b h; exact g.there b w e
  · by_cases q : n = m
    · subst q
      rw [ha] at h2; cases h2
      rw [List.getElem?_set_self (by rw [← r.len]; exact (List.getElem?_eq_some_iff.mp ha).1)] at h1
      cases h1
      exact ho _ t
    · rw [List.getElem?_set_ne q] at h1
      have ne : b ≠ a := fun e => q (by
        obtain ⟨h3, e3⟩ := List.getElem?_eq_some_iff.mp ha
        obtain ⟨h4, e4⟩ := List.getElem?_eq_some_iff.mp h2
        exact (List.getElem_inj r.nd).mp (by rw [e3, e4, e]))
      exact RepO.still t (fun _ _ h => h) (fun u e => by rw [upd_ne ne]; exact e) v (r.ob m v b h1 h2)
theorem go_kill {n : Nat} (l : live s n) : Go ρ s H ρ (s.set n .dead) H :=
  ⟨⟨[], by simp, by simp⟩, fun m _ h => live_set l h, fun b v h hl => h, fun b v h => ⟨v, h⟩⟩
theorem not_live_kill {n : Nat} : ¬ live (s.set n .dead) n := fun ⟨o, e, d⟩ => by
  by_cases q : n < s.length
  · rw [List.getElem?_set_self q] at e; cases e; exact d rfl
  · rw [List.getElem?_eq_none (by simp; omega)] at e; cases e
theorem Rel.kill (r : Rel G F ρ s H) {n : Nat} (l : live s n) : Rel G F ρ (s.set n .dead) H := by
  have g : Go ρ s H ρ (s.set n .dead) H := go_kill l
  have t := r.still g
  refine ⟨by simp [r.len], r.nd, fun m b h l' => r.nf m b h (live_set l l'), r.tr, r.ft, fun m v b h1 h2 => ?_⟩
  by_cases q : n = m
  · subst q
    by_cases q : n < s.length
    · rw [List.getElem?_set_self q] at h1; cases h1; trivial
    · rw [List.getElem?_eq_none (by simp; omega)] at h1; cases h1
  · rw [List.getElem?_set_ne q] at h1
    exact RepO.still t (fun _ _ h => h) (fun u e => e) v (r.ob m v b h1 h2)
theorem Rel.of_live (r : Rel G F ρ s H) {n : Nat} {o : Obj} (h : s[n]? = some o) : ∃ a, ρ[n]? = some a := by
  have := (List.getElem?_eq_some_iff.mp h).1
  exact ⟨ρ[n]'(by rw [r.len]; exact this), List.getElem?_eq_getElem _⟩

/-! ### data -/
theorem RepDs.len {K : PySem.W.Frag} {M : Addr → Prop} : ∀ {ds : List D} {xs : List V}, RepDs K M H ds xs → ds.length = xs.length
  | [], [], _ => rfl
  | _ :: _, _ :: _, h => by simp only [RepDs] at h; simp [RepDs.len h.2]
  | [], _ :: _, h => by simp [RepDs] at h
  | _ :: _, [], h => by simp [RepDs] at h
theorem RepDs.append {K : PySem.W.Frag} {M : Addr → Prop} : ∀ {ds es : List D} {xs ys : List V}, RepDs K M H ds xs → RepDs K M H es ys → RepDs K M H (ds ++ es) (xs ++ ys)
  | [], _, [], _, _, h => h
  | _ :: _, _, _ :: _, _, h, h' => by simp only [RepDs, List.cons_append] at h ⊢; exact ⟨h.1, RepDs.append h.2 h'⟩
  | [], _, _ :: _, _, h, _ => by simp [RepDs] at h
  | _ :: _, _, [], _, h, _ => by simp [RepDs] at h
theorem RepDs.get {K : PySem.W.Frag} {M : Addr → Prop} : ∀ {ds : List D} {xs : List V} {i : Nat} {d : D}, RepDs K M H ds xs → ds[i]? = some d → ∃ x, xs[i]? = some x ∧ RepD K M H d x
  | d :: ds, x :: xs, 0, _, h, e => by simp only [RepDs] at h; simp at e; subst e; exact ⟨x, by simp, h.1⟩
  | d :: ds, x :: xs, i + 1, _, h, e => by simp only [RepDs] at h; simp at e; obtain ⟨y, hy, r⟩ := RepDs.get h.2 e; exact ⟨y, by simpa using hy, r⟩
  | [], _, _, _, _, e => by simp at e
  | _ :: _, [], _, _, h, _ => by simp [RepDs] at h
theorem RepDs.take {K : PySem.W.Frag} {M : Addr → Prop} : ∀ {ds : List D} {xs : List V} (n : Nat), RepDs K M H ds xs → RepDs K M H (ds.take n) (xs.take n)
  | _, _, 0, _ => by simp [RepDs]
  | [], [], _ + 1, _ => by simp [RepDs]
  | _ :: _, _ :: _, n + 1, h => by simp only [RepDs, List.take_succ_cons] at h ⊢; exact ⟨h.1, RepDs.take n h.2⟩
  | [], _ :: _, _ + 1, h => by simp [RepDs] at h
  | _ :: _, [], _ + 1, h => by simp [RepDs] at h
theorem RepDs.drop {K : PySem.W.Frag} {M : Addr → Prop} : ∀ {ds : List D} {xs : List V} (n : Nat), RepDs K M H ds xs → RepDs K M H (ds.drop n) (xs.drop n)
  | _, _, 0, h => by simpa using h
  | [], [], _ + 1, _ => by simp [RepDs]
  | _ :: _, _ :: _, n + 1, h => by simp only [RepDs, List.drop_succ_cons] at h ⊢; exact RepDs.drop n h.2
  | [], _ :: _, _ + 1, h => by simp [RepDs] at h
  | _ :: _, [], _ + 1, h => by simp [RepDs] at h
theorem RepDs.set {K : PySem.W.Frag} {M : Addr → Prop} {d : D} {x : V} (r : RepD K M H d x) : ∀ {ds : List D} {xs : List V} (n : Nat), RepDs K M H ds xs → RepDs K M H (ds.set n d) (xs.set n x)
  | [], [], _, h => by simp [RepDs]
  | _ :: _, _ :: _, 0, h => by simp only [RepDs, List.set_cons_zero] at h ⊢; exact ⟨r, h.2⟩
  | _ :: _, _ :: _, n + 1, h => by simp only [RepDs, List.set_cons_succ] at h ⊢; exact ⟨h.1, RepDs.set r n h.2⟩
  | [], _ :: _, _, h => by simp [RepDs] at h
  | _ :: _, [], _, h => by simp [RepDs] at h
theorem RepDs.eraseIdx {K : PySem.W.Frag} {M : Addr → Prop} : ∀ {ds : List D} {xs : List V} (n : Nat), RepDs K M H ds xs → RepDs K M H (ds.eraseIdx n) (xs.eraseIdx n)
  | [], [], _, h => by simp [RepDs]
  | _ :: _, _ :: _, 0, h => by simp only [RepDs, List.eraseIdx_cons_zero] at h ⊢; exact h.2
  | _ :: _, _ :: _, n + 1, h => by simp only [RepDs, List.eraseIdx_cons_succ] at h ⊢; exact ⟨h.1, RepDs.eraseIdx n h.2⟩
  | [], _ :: _, _, h => by simp [RepDs] at h
  | _ :: _, [], _, h => by simp [RepDs] at h
theorem RepDs.reverse {K : PySem.W.Frag} {M : Addr → Prop} : ∀ {ds : List D} {xs : List V}, RepDs K M H ds xs → RepDs K M H ds.reverse xs.reverse
  | [], [], _ => by simp [RepDs]
  | d :: ds, x :: xs, h => by
    simp only [RepDs, List.reverse_cons] at h ⊢
    exact RepDs.append (RepDs.reverse h.2) (by simp only [RepDs]; exact ⟨h.1, trivial⟩)
  | [], _ :: _, h => by simp [RepDs] at h
  | _ :: _, [], h => by simp [RepDs] at h
theorem RepDs.dropLast {K : PySem.W.Frag} {M : Addr → Prop} {ds : List D} {xs : List V} (h : RepDs K M H ds xs) : RepDs K M H ds.dropLast xs.dropLast := by
  rw [List.dropLast_eq_take, List.dropLast_eq_take, ← h.len]
  exact h.take _
theorem RepVs.len {M : Addr → Prop} : ∀ {ds : List Val} {xs : List V}, RepVs G ρ M H ds xs → ds.length = xs.length
  | [], [], _ => rfl
  | _ :: _, _ :: _, h => by simp [RepVs.len h.2]
  | [], _ :: _, h => h.elim
  | _ :: _, [], h => h.elim
theorem RepVs.get {M : Addr → Prop} : ∀ {ds : List Val} {xs : List V} {i : Nat} {d : Val}, RepVs G ρ M H ds xs → ds[i]? = some d → ∃ x, xs[i]? = some x ∧ RepV G ρ M H d x
  | d :: ds, x :: xs, 0, _, h, e => by simp at e; subst e; exact ⟨x, by simp, h.1⟩
  | d :: ds, x :: xs, i + 1, _, h, e => by simp at e; obtain ⟨y, hy, r⟩ := RepVs.get h.2 e; exact ⟨y, by simpa using hy, r⟩
  | [], _, _, _, _, e => by simp at e
  | _ :: _, [], _, _, h, _ => h.elim
theorem RepVs.ds {M : Addr → Prop} : ∀ {vs : List Val} {xs : List V} {ds : List D}, RepVs G ρ M H vs xs → allD vs = some ds → RepDs G.K M H ds xs
  | [], [], ds, _, e => by simp at e; subst e; simp [RepDs]
  | .d x :: vs, y :: ys, ds, h, e => by
    simp only [allD_cons, Option.map_eq_some_iff] at e
    obtain ⟨es, e1, rfl⟩ := e
    simp only [RepDs]
    exact ⟨h.1, RepVs.ds h.2 e1⟩
  | .loc _ :: _, _ :: _, _, _, e => by simp [allD] at e
  | .exn _ _ :: _, _ :: _, _, _, e => by simp [allD] at e
  | [], _ :: _, _, h, _ => h.elim
  | _ :: _, [], _, h, _ => h.elim
theorem RepDs.vs {M : Addr → Prop} : ∀ {ds : List D} {xs : List V}, RepDs G.K M H ds xs → RepVs G ρ M H (ds.map .d) xs
  | [], [], _ => trivial
  | _ :: _, _ :: _, h => by simp only [RepDs] at h; exact ⟨h.1, RepDs.vs h.2⟩
  | [], _ :: _, h => by simp [RepDs] at h
  | _ :: _, [], h => by simp [RepDs] at h
/-- a new frozen list, a new tuple -/
theorem Rel.newL (r : Rel G F ρ s H) {p : Addr} (n : H p = none) {ds : List D} {xs : List V} (l : ds.length ≤ sizeLine) (h : RepDs G.K (Mu ρ s F) H ds xs) : RepV G ρ (Mu ρ s F) (upd H p (.lst xs)) (.d (.lst ds)) (.ref p) := by
  simp only [RepV, RepD]
  exact ⟨p, xs, rfl, r.free n, upd_same, l, RepDs.still (r.still (go_new n)) ds xs h⟩
theorem Rel.newT (r : Rel G F ρ s H) {p : Addr} (n : H p = none) {ds : List D} {xs : List V} (l : ds.length ≤ sizeLine) (h : RepDs G.K (Mu ρ s F) H ds xs) : RepV G ρ (Mu ρ s F) (upd H p (.tup xs)) (.d (.tup ds)) (.ref p) := by
  simp only [RepV, RepD]
  exact ⟨p, xs, rfl, .inl (.inl upd_same), l, RepDs.still (r.still (go_new n)) ds xs h⟩
/-- an end with a new frozen list -/
theorem Out.newL {Z : Value → Option Addr → Hp → Prop} {Q : VK} {ds : List D} {xs : List V} (o : Out G F ρ s H Z (RepV G) (.ok (.d (.lst ds)) s) Q) (r : Rel G F ρ s H) (l : ds.length ≤ sizeLine) (h : RepDs G.K (Mu ρ s F) H ds xs) :
    ∀ p, H p = none → Q (.ref p) (upd H p (.lst xs)) := fun p n => o _ _ _ (go_new n) (r.new n) (r.newL n l h)
theorem Out.newT {Z : Value → Option Addr → Hp → Prop} {Q : VK} {ds : List D} {xs : List V} (o : Out G F ρ s H Z (RepV G) (.ok (.d (.tup ds)) s) Q) (r : Rel G F ρ s H) (l : ds.length ≤ sizeLine) (h : RepDs G.K (Mu ρ s F) H ds xs) :
    ∀ p, H p = none → Q (.ref p) (upd H p (.tup xs)) := fun p n => o _ _ _ (go_new n) (r.new n) (r.newT n l h)
end

section
variable {G : Gd} {W : WX} {X : Cx} {a b c : Expr} {ca cb cc : EC} {ba bb' : BC} {pos : Pos} {rest es : List Expr} {cr : AC}

/-! ### tests -/
/-- the test of an expression whose value is a bool -/
def bb (a : EC) : BC := fun E s => (a E s).bind fun x s => match x with | .d (.bl b) => .ok b s | _ => .fail
theorem bb_to {ca : EC} {σ : St} {H : Hp} {Q : Bool → Hp → Prop} (h : tT G W (bb ca) σ H Q) : tE G W ca σ H fun x H1 => ∃ k, x = .bl k ∧ Q k H1 := by
  obtain ⟨F, ρ, s, E, at_, o⟩ := h
  refine ⟨F, ρ, s, E, at_, (Out.bind (R := RepV G) o).mono ?_⟩
  rintro x H1 ⟨ρ1, s1, v1, g1, l1, x1, o1⟩
  cases v1 with
  | d z =>
    cases z with
    | bl t => simp only [RepV, RepD] at x1; exact ⟨t, x1, Out.ret (R := rB) o1 l1 rfl⟩
    | _ => exact o1.elim
  | _ => exact o1.elim
theorem st_cmp {op : CmpOp} {p : Val → Val → Store → Res Val} (ho : OpP G X (compareOp op) p) (ha : SE G W X ca a) (hb : SE G W X cb b) (hm : behindInMarks op b = false := by first | exact nomark _ | rfl | with_unfolding_all rfl) : ST G W X (bb (e2 p ca cb)) (.Compare a [op] [b] pos) :=
  PT.imp (pt_cmpR ho ha hb hm) fun σ H Q h => op_to (f := compareOp op) (bb_to h)
/-- the value of a call, a name .. is a bool -/
theorem st_bool (ha : SE G W X ca a) (he : ∀ whole, isTrue a X.env whole = (do let v ← whole; standAt a.pos; holding [v] (truthy v)) := by intro _; rfl) : ST G W X (bb ca) a :=
  PT.imp (pt_val ha he) fun σ H Q h => bb_to h

/-! ### truth -/
theorem tru {F : Addr → Prop} {ρ : List Addr} {s : Store} {H : Hp} {v : Val} {x : V} {t : Bool} (r : Rel G F ρ s H) (h : RepV G ρ (Mu ρ s F) H v x) (e : truth v s = some t) : TruV G.K x H t := by
  have emp : ∀ {ds : List D} {xs : List V}, RepDs G.K (Mu ρ s F) H ds xs → ds.isEmpty = xs.isEmpty := fun {ds xs} q => by
    have := q.len
    cases ds <;> cases xs <;> simp_all
  cases v with
  | d z =>
    cases z with
    | non => simp only [RepV, RepD] at h; subst h; simp [truth] at e; exact e
    | bl b => simp only [RepV, RepD] at h; subst h; simp [truth] at e; exact e.symm
    | int i => simp only [RepV, RepD] at h; subst h; simp only [truth, Option.some.injEq] at e; exact e.symm
    | str z => simp [truth] at e
    | tup ds =>
      simp only [RepV, RepD] at h
      obtain ⟨a, xs, rfl, q, _, rr⟩ := h
      simp only [truth, Option.some.injEq] at e
      exact .inr (.inl ⟨xs, q, by rw [← e, emp rr]⟩)
    | lst ds =>
      simp only [RepV, RepD] at h
      obtain ⟨a, xs, rfl, _, q, _, rr⟩ := h
      simp only [truth, Option.some.injEq] at e
      exact .inl ⟨xs, .inl (.inl q), by rw [← e, emp rr]⟩
    | dct _ => simp [truth] at e
    | scr _ => simp [truth] at e
  | loc n =>
    obtain ⟨a, ha, rfl⟩ := h
    simp only [truth] at e
    cases ho : s[n]? with
    | none => rw [ho] at e; cases e
    | some o =>
      rw [ho] at e
      have q := r.ob n o a ho ha
      cases o with
      | lst ds =>
        obtain ⟨xs, hx, _, rr⟩ := q
        simp only [Option.some.injEq] at e
        exact .inl ⟨xs, .inl (.inl hx), by rw [← e, emp rr]⟩
      | lv ds =>
        obtain ⟨xs, hx, _, rr⟩ := q
        simp only [Option.some.injEq] at e
        have := rr.len
        exact .inl ⟨xs, .inl (.inl hx), by rw [← e]; cases ds <;> cases xs <;> simp_all⟩
      | dct ds =>
        obtain ⟨xs, hx, _, rr⟩ := q
        simp only [Option.some.injEq] at e
        refine .inr (.inr ⟨xs, hx, ?_⟩)
        rw [← e]
        cases ds <;> cases xs <;> first | rfl | exact rr.elim
      | ins _ _ => cases e
      | dead => cases e
  | exn _ _ => simp [truth] at e
theorem bv_to {ca : EC} {σ : St} {H : Hp} {Q : Bool → Hp → Prop} (h : tT G W (bv ca) σ H Q) : tE G W ca σ H fun x H1 => ∃ k, TruV G.K x H1 k ∧ Q k H1 := by
  obtain ⟨F, ρ, s, E, at_, o⟩ := h
  refine ⟨F, ρ, s, E, at_, (Out.bind (R := RepV G) o).mono ?_⟩
  rintro x H1 ⟨ρ1, s1, v1, g1, l1, x1, o1⟩
  cases e : truth v1 s1 with
  | none => simp only [e] at o1; exact o1.elim
  | some t => simp only [e] at o1; exact ⟨t, tru l1 x1 e, Out.ret (R := rB) o1 l1 rfl⟩
theorem st_val (hK : X.K = G.K) (ha : SE G W X ca a) (he : ∀ whole, isTrue a X.env whole = (do let v ← whole; standAt a.pos; holding [v] (truthy v)) := by intro _; rfl) : ST G W X (bv ca) a := by
  refine PT.imp (pt_truth ha he) fun σ H Q h => ?_
  rw [hK]; exact bv_to h

theorem sw_and1 (ha : ST G W X ba a) : SW G W X ba (.BoolOp .And [a] pos) := pw_and1 ha
theorem sw_or1 (ha : ST G W X ba a) : SW G W X ba (.BoolOp .Or [a] pos) := pw_or1 ha
theorem sw_and (ha : ST G W X ba a) (hb : SW G W X bb' (.BoolOp .And (b :: rest) pos)) : SW G W X (band ba bb') (.BoolOp .And (a :: b :: rest) pos) :=
  PW.imp (pw_and ha hb) fun σ H Q ⟨F, ρ, s, E, at_, o⟩ => by
    refine ⟨F, ρ, s, E, at_, (Out.bind (R := rB) o).mono ?_⟩
    rintro x H1 ⟨ρ1, s1, v1, g1, l1, rfl, o1⟩
    cases v1 with
    | true => exact ⟨F, ρ1, s1, E, at_.go g1 l1, o1⟩
    | false => exact Out.ret (R := rB) o1 l1 rfl
theorem sw_or (ha : ST G W X ba a) (hb : SW G W X bb' (.BoolOp .Or (b :: rest) pos)) : SW G W X (bor ba bb') (.BoolOp .Or (a :: b :: rest) pos) :=
  PW.imp (pw_or ha hb) fun σ H Q ⟨F, ρ, s, E, at_, o⟩ => by
    refine ⟨F, ρ, s, E, at_, (Out.bind (R := rB) o).mono ?_⟩
    rintro x H1 ⟨ρ1, s1, v1, g1, l1, rfl, o1⟩
    cases v1 with
    | false => exact ⟨F, ρ1, s1, E, at_.go g1 l1, o1⟩
    | true => exact Out.ret (R := rB) o1 l1 rfl
theorem st_w (h : SW G W X ba a) : ST G W X ba a := PW.pt h
theorem st_not (ha : ST G W X ba a) : ST G W X (bnot ba) (.UnaryOp .Not a pos) :=
  PT.imp (pt_not ha) fun σ H Q ⟨F, ρ, s, E, at_, o⟩ => by
    refine ⟨F, ρ, s, E, at_, (Out.bind (R := rB) o).mono ?_⟩
    rintro x H1 ⟨ρ1, s1, v1, g1, l1, rfl, o1⟩
    exact Out.ret (R := rB) o1 l1 rfl
theorem se_if (hc : ST G W X ba c) (ha : SE G W X ca a) (hb : SE G W X cb b) : SE G W X (eif ba ca cb) (.IfExp c a b pos) :=
  PE.imp (pe_ifExp hc ha hb) fun σ H Q ⟨F, ρ, s, E, at_, o⟩ => by
    refine ⟨F, ρ, s, E, at_, (Out.bind (R := rB) o).mono ?_⟩
    rintro x H1 ⟨ρ1, s1, v1, g1, l1, rfl, o1⟩
    cases v1 with
    | true => exact ⟨F, ρ1, s1, E, at_.go g1 l1, o1⟩
    | false => exact ⟨F, ρ1, s1, E, at_.go g1 l1, o1⟩
/-! ### and, or, not by value -/
theorem se_one {op} (h : SE G W X ca a) : SE G W X ca (.BoolOp op [a] pos) := pe_one h
theorem se_and (hK : X.K = G.K) (ha : SE G W X ca a) (hb : SE G W X cb (.BoolOp .And (b :: rest) pos)) : SE G W X (eand ca cb) (.BoolOp .And (a :: b :: rest) pos) :=
  PE.imp (pe_andT ha hb) fun σ H Q ⟨F, ρ, s, E, at_, o⟩ => by
    refine ⟨F, ρ, s, E, at_, (Out.bind (R := RepV G) o).mono ?_⟩
    rintro x H1 ⟨ρ1, s1, v1, g1, l1, x1, o1⟩
    cases e : truth v1 s1 with
    | none => simp only [e] at o1; exact o1.elim
    | some t =>
      simp only [e] at o1
      refine ⟨t, by rw [hK]; exact tru l1 x1 e, ?_⟩
      cases t with
      | true => exact ⟨F, ρ1, s1, E, at_.go g1 l1, o1⟩
      | false => exact Out.ret (R := RepV G) o1 l1 x1
theorem se_or (hK : X.K = G.K) (ha : SE G W X ca a) (hb : SE G W X cb (.BoolOp .Or (b :: rest) pos)) : SE G W X (eor ca cb) (.BoolOp .Or (a :: b :: rest) pos) :=
  PE.imp (pe_orT ha hb) fun σ H Q ⟨F, ρ, s, E, at_, o⟩ => by
    refine ⟨F, ρ, s, E, at_, (Out.bind (R := RepV G) o).mono ?_⟩
    rintro x H1 ⟨ρ1, s1, v1, g1, l1, x1, o1⟩
    cases e : truth v1 s1 with
    | none => simp only [e] at o1; exact o1.elim
    | some t =>
      simp only [e] at o1
      refine ⟨t, by rw [hK]; exact tru l1 x1 e, ?_⟩
      cases t with
      | false => exact ⟨F, ρ1, s1, E, at_.go g1 l1, o1⟩
      | true => exact Out.ret (R := RepV G) o1 l1 x1
theorem se_not (hK : X.K = G.K) (ha : SE G W X ca a) : SE G W X (enot ca) (.UnaryOp .Not a pos) :=
  PE.imp (pe_notT ha) fun σ H Q ⟨F, ρ, s, E, at_, o⟩ => by
    refine ⟨F, ρ, s, E, at_, (Out.bind (R := RepV G) o).mono ?_⟩
    rintro x H1 ⟨ρ1, s1, v1, g1, l1, x1, o1⟩
    cases e : truth v1 s1 with
    | none => simp only [e] at o1; exact o1.elim
    | some t =>
      simp only [e] at o1
      exact ⟨t, by rw [hK]; exact tru l1 x1 e, Out.ret (R := RepV G) o1 l1 (b := .bl (!t)) (by simp [RepV, RepD])⟩
/-! ### a p b q c -/
theorem chain_to {p q : Val → Val → Store → Res Val} {σ : St} {H : Hp} {Q : VK} (h : tE G W (chain p q ca cb cc) σ H Q) : tChain (rP G p) (rP G q) (tE G W ca) (tE G W cb) (tE G W cc) σ H Q := by
  obtain ⟨F, ρ, s, E, at_, o⟩ := h
  refine ⟨F, ρ, s, E, at_, (Out.bind (R := RepV G) o).mono ?_⟩
  rintro x H1 ⟨ρ1, s1, v1, g1, l1, x1, o1⟩
  refine ⟨F, ρ1, s1, E, at_.go g1 l1, (Out.bind (R := RepV G) o1).mono ?_⟩
  rintro y H2 ⟨ρ2, s2, v2, g2, l2, x2, o2⟩
  refine ⟨F, ρ2, s2, _, v1, v2, l2, l1.val g2 x1, x2, (Out.bind (R := RepV G) o2).mono ?_⟩
  rintro z H3 ⟨ρ3, s3, v3, g3, l3, x3, o3⟩
  cases v3 with
  | d w =>
    cases w with
    | bl t =>
      simp only [RepV, RepD] at x3
      refine ⟨t, x3, ?_⟩
      cases t with
      | false => exact Out.ret (R := RepV G) (b := .bl false) o3 l3 (by simp [RepV, RepD])
      | true =>
        refine ⟨F, ρ3, s3, E, ((at_.go g1 l1).go g2 l2).go g3 l3, (Out.bind (R := RepV G) o3).mono ?_⟩
        rintro w H4 ⟨ρ4, s4, v4, g4, l4, x4, o4⟩
        exact ⟨F, ρ4, s4, _, v2, v4, l4, l3.val g4 (l2.val g3 x2), x4, o4⟩
    | _ => exact o3.elim
  | _ => exact o3.elim
theorem se_chain {op op' : CmpOp} {p q : Val → Val → Store → Res Val} (ho : OpP G X (compareOp op) p) (ho' : OpP G X (compareOp op') q) (ha : SE G W X ca a) (hb : SE G W X cb b) (hc : SE G W X cc c)
    (hm : lastMarks [op, op'] [b, c] = false := by with_unfolding_all rfl) : SE G W X (chain p q ca cb cc) (.Compare a [op, op'] [b, c] pos) :=
  PE.imp (pe_chain ho ho' ha hb hc hm) fun σ H Q h => chain_to h
theorem st_chain {op op' : CmpOp} {p q : Val → Val → Store → Res Val} (ho : OpP G X (compareOp op) p) (ho' : OpP G X (compareOp op') q) (ha : SE G W X ca a) (hb : SE G W X cb b) (hc : SE G W X cc c)
    (hm : lastMarks [op, op'] [b, c] = false := by with_unfolding_all rfl) : ST G W X (bb (chain p q ca cb cc)) (.Compare a [op, op'] [b, c] pos) :=
  PT.imp (pt_chain ho ho' ha hb hc hm) fun σ H Q h => chain_to (bb_to h)

/-! ### arguments, displays -/
theorem sa_nil : SA G W X a0 [] := PA.imp pa_nil fun σ H Q ⟨F, ρ, s, E, at_, o⟩ => Out.ret (R := RepVs G) (b := []) o at_.rel trivial
theorem sa_cons (ha : SE G W X ca a) (hr : SA G W X cr es) (hs : starEach (a :: es) X.env = (false, eval a X.env) :: starEach es X.env := by rfl) : SA G W X (ac ca cr) (a :: es) :=
  PA.imp (pa_cons ha hr hs) fun σ H Q ⟨F, ρ, s, E, at_, o⟩ => by
    refine ⟨F, ρ, s, E, at_, (Out.bind (R := RepV G) o).mono ?_⟩
    rintro x H1 ⟨ρ1, s1, v1, g1, l1, x1, o1⟩
    refine ⟨F, ρ1, s1, E, at_.go g1 l1, (Out.bind (R := RepVs G) o1).mono ?_⟩
    rintro y H2 ⟨ρ2, s2, v2, g2, l2, x2, o2⟩
    exact Out.ret (R := RepVs G) (b := x :: y) o2 l2 ⟨l1.val g2 x1, x2⟩
theorem se_tup {x1} (h : SA G W X cr es) : SE G W X (tup cr) (.Tuple es x1 pos) :=
  PE.imp (pe_tup h) fun σ H Q ⟨F, ρ, s, E, at_, o⟩ => by
    refine ⟨F, ρ, s, E, at_, (Out.bind (R := RepVs G) o).mono ?_⟩
    rintro xs H1 ⟨ρ1, s1, vs, g1, l1, x1, o1⟩
    unfold mkT at o1
    cases e : allD vs with
    | none => rw [e] at o1; exact o1.elim
    | some ds =>
      rw [e] at o1
      by_cases hl : ds.length ≤ line
      · simp only [if_pos hl] at o1
        have r := x1.ds e
        refine ⟨by rw [← r.len, line_eq]; exact hl, Out.newT o1 l1 (by rw [line_eq]; exact hl) r⟩
      · simp only [if_neg hl] at o1; exact o1.elim
theorem se_lst (h : SA G W X cr es) : SE G W X (lst cr) (.List es pos) :=
  PE.imp (pe_lst h) fun σ H Q ⟨F, ρ, s, E, at_, o⟩ => by
    refine ⟨F, ρ, s, E, at_, (Out.bind (R := RepVs G) o).mono ?_⟩
    rintro xs H1 ⟨ρ1, s1, vs, g1, l1, x1, o1⟩
    unfold mkL at o1
    cases e : allD vs with
    | none => rw [e] at o1; exact o1.elim
    | some ds =>
      rw [e] at o1
      by_cases hl : ds.length ≤ line
      · simp only [if_pos hl] at o1
        have r := x1.ds e
        refine ⟨by rw [← r.len, line_eq]; exact hl, Out.newL o1 l1 (by rw [line_eq]; exact hl) r⟩
      · simp only [if_neg hl] at o1; exact o1.elim
theorem se_lstA (h : SA G W X cr es) : SE G W X (lstA cr) (.List es pos) :=
  PE.imp (pe_lst h) fun σ H Q ⟨F, ρ, s, E, at_, o⟩ => by
    refine ⟨F, ρ, s, E, at_, (Out.bind (R := RepVs G) o).mono ?_⟩
    rintro xs H1 ⟨ρ1, s1, vs, g1, l1, x1, o1⟩
    have hp : ∀ {p : Addr}, H1 p = none → (ρ1 ++ [p])[s1.length]? = some p := fun {p} n => by
      rw [List.getElem?_append_right (by rw [l1.len]; exact Nat.le_refl _), l1.len]; simp
    cases e : allD vs with
    | none =>
      simp only [e] at o1
      by_cases hl : vs.length ≤ line
      · simp only [if_pos hl] at o1
        refine ⟨by rw [← x1.len, line_eq]; exact hl, fun p n => o1 _ _ _ (go_push l1.len n) (l1.push n fun M' t => ⟨xs, upd_same, by rw [line_eq]; exact hl, RepVs.still t (fun k b h => ?_) _ _ x1⟩) ⟨p, hp n, rfl⟩⟩
        rw [List.getElem?_append_left (List.getElem?_eq_some_iff.mp h).1]; exact h
      · simp only [if_neg hl] at o1; exact o1.elim
    | some ds =>
      simp only [e] at o1
      have r := x1.ds e
      by_cases hl : ds.length ≤ line
      · simp only [if_pos hl] at o1
        exact ⟨by rw [← r.len, line_eq]; exact hl, fun p n => o1 _ _ _ (go_push l1.len n) (l1.push n fun M' t => ⟨xs, upd_same, by rw [line_eq]; exact hl, RepDs.still t _ _ r⟩) ⟨p, hp n, rfl⟩⟩
      · simp only [if_neg hl] at o1; exact o1.elim
end
end Ev
end
section
set_option Elab.async false
set_option linter.all false
set_option autoImplicit false
set_option maxRecDepth 100000
set_option maxHeartbeats 4000000
/-! Operations. -/
namespace Ev
open PySem L2

section
variable {G : Gd} {X : Cx}
/-- a one-place operation, a call of one value -/
def rP1 (G : Gd) (p : Val → Store → Res Val) : V → Hp → VK → Prop := fun x H Q => ∃ F ρ s Z v1, Rel G F ρ s H ∧ RepV G ρ (Mu ρ s F) H v1 x ∧ Out G F ρ s H Z (RepV G) (p v1 s) Q

/-! ### ints -/
theorem int_of {F : Addr → Prop} {ρ : List Addr} {H : Hp} {s : Store} {i : Int} {x : V} (h : RepV G ρ (Mu ρ s F) H (.d (.int i)) x) : x = .int i := by simpa [RepV, RepD] using h
theorem opp_I {f : Value → Value → Sem Value} {g : Int → Int → D} {gv : Int → Int → V} (h : OpR X f (rI0 gv)) (hg : ∀ i j K M H, RepD K M H (g i j) (gv i j)) : OpP G X f (pI g) := by
  intro pins s σ H x y v u Q I rx ry ⟨F, ρ, st, Z, v1, v2, l, x1, x2, o⟩
  unfold pI at o
  split at o
  · rename_i i j
    obtain rfl := int_of x1
    obtain rfl := int_of x2
    exact h pins s σ H _ _ v u Q I rx ry ⟨i, j, rfl, rfl, Out.ret (R := RepV G) o l (hg i j _ _ _)⟩
  · exact o.elim
theorem opp_Ic {f : Value → Value → Sem Value} {c : Int → Int → Bool} {g : Int → Int → D} {C : Int → Int → Prop} {gv : Int → Int → V} (h : OpR X f (rI C gv)) (hc : ∀ i j, c i j = true → C i j) (hg : ∀ i j K M H, RepD K M H (g i j) (gv i j)) : OpP G X f (pIc c g) := by
  intro pins s σ H x y v u Q I rx ry ⟨F, ρ, st, Z, v1, v2, l, x1, x2, o⟩
  unfold pIc at o
  split at o
  · rename_i i j
    obtain rfl := int_of x1
    obtain rfl := int_of x2
    by_cases e : c i j = true
    · rw [if_pos e] at o
      exact h pins s σ H _ _ v u Q I rx ry ⟨i, j, rfl, rfl, hc i j e, Out.ret (R := RepV G) o l (hg i j _ _ _)⟩
    · rw [if_neg e] at o; exact o.elim
  · exact o.elim
theorem rdi {K : PySem.W.Frag} {M : Addr → Prop} {H : Hp} (i : Int) : RepD K M H (.int i) (.int i) := by simp [RepD]
theorem rdb {K : PySem.W.Frag} {M : Addr → Prop} {H : Hp} (i : Bool) : RepD K M H (.bl i) (.bl i) := by simp [RepD]
theorem opp_sub : OpP G X (binaryOp .Sub) pSub := opp_I op_sub fun _ _ _ _ _ => rdi _
theorem opp_lt : OpP G X (compareOp .Lt) pLt := opp_I op_lt fun _ _ _ _ _ => rdb _
theorem opp_le : OpP G X (compareOp .LtE) pLe := opp_I op_le fun _ _ _ _ _ => rdb _
theorem opp_gt : OpP G X (compareOp .Gt) pGt := opp_I op_gt fun _ _ _ _ _ => rdb _
theorem opp_ge : OpP G X (compareOp .GtE) pGe := opp_I op_ge fun _ _ _ _ _ => rdb _
theorem opp_mul : OpP G X (binaryOp .Mult) pMul := opp_Ic op_mul (fun i j h => by
  simp only [Bool.or_eq_true, Bool.and_eq_true, decide_eq_true_eq] at h; exact h) fun _ _ _ _ _ => rdi _
theorem opp_div : OpP G X (binaryOp .FloorDiv) pDiv := opp_Ic op_fdivW (fun i j h => by
  simp only [Bool.and_eq_true, decide_eq_true_eq] at h
  exact wide_div (b := 1000) h.1 (by omega) (by decide) (by decide)) fun _ _ _ _ _ => rdi _
theorem opp_mod : OpP G X (binaryOp .Mod) pMod := opp_Ic op_mod (fun i j h => by simpa using h) fun _ _ _ _ _ => rdi _
theorem opp_pow : OpP G X (binaryOp .Pow) pPow := opp_Ic op_pow (fun i j h => by
  simp only [Bool.and_eq_true, decide_eq_true_eq] at h; exact ⟨h.1.1, h.1.2, h.2⟩) fun _ _ _ _ _ => rdi _
theorem opp_shl : OpP G X (binaryOp .LShift) pShl := opp_Ic op_shl (fun i j h => by
  simp only [Bool.and_eq_true, decide_eq_true_eq] at h; exact ⟨h.1.1, h.1.2, h.2⟩) fun _ _ _ _ _ => rdi _
theorem opp_shr : OpP G X (binaryOp .RShift) pShr := opp_Ic op_shr (fun i j h => by simpa using h) fun _ _ _ _ _ => rdi _
theorem se_neg {W : WX} {ca : EC} {a : Expr} {pos : Pos} (ha : SE G W X ca a) : SE G W X (e1 pNeg ca) (.UnaryOp .USub a pos) :=
  PE.imp (pe_un un_neg ha) fun σ H Q ⟨F, ρ, s, E, at_, o⟩ => by
    refine ⟨F, ρ, s, E, at_, (Out.bind (R := RepV G) o).mono ?_⟩
    rintro x H1 ⟨ρ1, s1, v1, g1, l1, x1, o1⟩
    unfold pNeg at o1
    split at o1
    · rename_i i
      exact ⟨i, int_of x1, Out.ret (R := RepV G) (b := .int (-i)) o1 l1 (by simp [RepV, RepD])⟩
    · exact o1.elim

/-! ### sequences by values -/
theorem peek_L {F : Addr → Prop} {ρ : List Addr} {H : Hp} {s : Store} {v : Val} {x : V} {ds : List D} (l : Rel G F ρ s H) (h : RepV G ρ (Mu ρ s F) H v x) (e : peek v s = some (.lst ds)) : ∃ a xs, x = .ref a ∧ H a = some (.lst xs) ∧ ds.length ≤ sizeLine ∧ RepDs G.K (Mu ρ s F) H ds xs := by
  cases v with
  | d z => simp at e; subst e; simp only [RepV, RepD] at h; obtain ⟨a, xs, e, _, q, z, r⟩ := h; exact ⟨a, xs, e, q, z, r⟩
  | loc n =>
    obtain ⟨a, ha, rfl⟩ := h
    simp only [peek] at e
    cases ho : s[n]? with
    | none => rw [ho] at e; cases e
    | some o =>
      rw [ho] at e
      cases o with
      | lst es => simp at e; subst e; obtain ⟨xs, hx, z, r⟩ := l.ob n _ a ho ha; exact ⟨a, xs, rfl, hx, z, r⟩
      | _ => cases e
  | exn _ _ => cases e
theorem peek_T {F : Addr → Prop} {ρ : List Addr} {H : Hp} {s : Store} {v : Val} {x : V} {ds : List D} (h : RepV G ρ (Mu ρ s F) H v x) (e : peek v s = some (.tup ds)) : ∃ a xs, x = .ref a ∧ SqT G.K H a xs ∧ ds.length ≤ sizeLine ∧ RepDs G.K (Mu ρ s F) H ds xs := by
  cases v with
  | d z => simp at e; subst e; simp only [RepV, RepD] at h; obtain ⟨a, xs, e, q, z, r⟩ := h; exact ⟨a, xs, e, q, z, r⟩
  | loc n =>
    simp only [peek] at e
    cases ho : s[n]? with
    | none => rw [ho] at e; cases e
    | some o => rw [ho] at e; cases o <;> simp at e
  | exn _ _ => cases e
/-- a peeked value as data -/
theorem peek_D {F : Addr → Prop} {ρ : List Addr} {H : Hp} {s : Store} {v : Val} {x : V} {z : D} (l : Rel G F ρ s H) (h : RepV G ρ (Mu ρ s F) H v x) (e : peek v s = some z) : ∃ M, RepD G.K M H z x ∧ ∀ a, M a → False := by
  have sub : ∀ {M : Addr → Prop}, Still M H (fun _ => False) H := fun {M} => ⟨fun a o h _ => ⟨h, fun z => z⟩, fun _ _ h => h, fun _ _ _ h => h, fun _ _ h => h⟩
  refine ⟨fun _ => False, ?_, fun _ z => z⟩
  cases v with
  | d w => simp at e; subst e; exact RepD.still sub _ _ h
  | loc n =>
    obtain ⟨a, ha, rfl⟩ := h
    simp only [peek] at e
    cases ho : s[n]? with
    | none => rw [ho] at e; cases e
    | some o =>
      rw [ho] at e
      cases o with
      | lst es =>
        simp at e; subst e
        obtain ⟨xs, hx, z, r⟩ := l.ob n _ a ho ha
        simp only [RepD]
        exact ⟨a, xs, rfl, fun z => z, hx, z, RepDs.still sub _ _ r⟩
      | _ => cases e
  | exn _ _ => cases e

/-- t + u where t is empty -/
theorem cat_nil {prog : Program} {w : World} {A : Around} {E : Value → Shared → Prop} {s : Shared} {t b : Addr} {vs ws : List Value} {Q : Value → Shared → Prop} (ht : PyProof.Rows.IsTup s.heap t vs.toArray) (hb : PyProof.Rows.IsTup s.heap b ws.toArray) (hv : vs = [])
    (h1 : Q (.ref b) s) : wpAny (model prog w) A (binaryOp .Add (.ref t) (.ref b)) Q E s := by
  obtain ⟨⟨cls, dd, data, sl⟩, ho, hc, n, hd⟩ := id ht
  obtain ⟨⟨cls2, dd2, data2, sl2⟩, ho2, hc2, n2, hd2⟩ := id hb
  simp only at hc hd hc2 hd2
  subst hc hd hc2 hd2
  exact concat_meets ⟨_, ho, rfl⟩ ⟨_, ho2, rfl⟩ noFill_tuple_add seq_tuple_add PySem.F.slot_tuple_add PySem.F.entry_tuple_add (PySem.F.args_tuple_add_2 _ _)
      (PyProof.Rows.tuple_addW0 t b vs.toArray ws.toArray n n2 dd dd2 sl sl2 (by simp [hv])) ⟨ho, ho2, h1⟩
theorem opp_add (hK : X.K = G.K) : OpP G X (binaryOp .Add) pAdd := by
  intro pins s σ H x y v u Q I rx ry ⟨F, ρ, st, Z, v1, v2, l, x1, x2, o⟩
  have lists : ∀ {a b : List D}, peek v1 st = some (.lst a) → peek v2 st = some (.lst b) → a.length + b.length ≤ line → Out G F ρ st H Z (RepV G) (.ok (.d (.lst (a ++ b))) st) Q → wpAny (model X.prog X.w) X.A (binaryOp .Add v u) (EP X pins σ Q) X.xe s := by
    intro a b e1 e2 hl o
    obtain ⟨p, xs, rfl, hp, _, r1⟩ := peek_L l x1 e1
    obtain ⟨q, ys, rfl, hq, _, r2⟩ := peek_L l x2 e2
    refine op_cat pins s σ H _ _ v u Q I rx ry ⟨p, q, xs, ys, rfl, rfl, hp, hq, by rw [← r1.len, ← r2.len, line_eq]; exact hl, ?_⟩
    exact Out.newL o l (by rw [List.length_append, line_eq]; exact hl) (r1.append r2)
  unfold pAdd at o
  split at o
  · rename_i i j
    obtain rfl := int_of x1
    obtain rfl := int_of x2
    exact op_add pins s σ H _ _ v u Q I rx ry ⟨i, j, rfl, rfl, Out.ret (R := RepV G) (b := .int (i + j)) o l (by simp [RepV, RepD])⟩
  · rename_i b j
    obtain rfl : x = .bl b := by simpa [RepV, RepD] using x1
    obtain rfl := int_of x2
    obtain ⟨t, rfl⟩ := ry
    obtain rfl : v = .bool b := rx
    exact PySem.IntBool.add_bool_int ⟨.int ((if b = true then 1 else 0) + j), H, I.tok _, ⟨_, rfl⟩, Out.ret (R := RepV G) o l (by simp [RepV, RepD])⟩
  · rename_i a b
    by_cases hl : a.length + b.length ≤ line
    · rw [if_pos hl] at o
      obtain ⟨p, xs, rfl, hp, _, r1⟩ := peek_T x1 (ds := a) rfl
      obtain ⟨q, ys, rfl, hq, lb, r2⟩ := peek_T x2 (ds := b) rfl
      have e1 := r1.len
      have e2 := r2.len
      by_cases hx : xs = []
      · subst hx
        obtain rfl : a = [] := by cases a; rfl; simp at e1
        obtain ⟨its, q1, p1, _⟩ := I.tuple (by rw [hK]; exact hp)
        obtain ⟨its2, q2, p2, _⟩ := I.tuple (by rw [hK]; exact hq)
        cases rx; cases ry; cases q1
        exact cat_nil p1 p2 rfl ⟨.ref q, H, I, rfl, Out.ret (R := RepV G) o l x2⟩
      · refine op_catT pins s σ H _ _ v u Q I rx ry ⟨p, q, xs, ys, rfl, rfl, by rw [hK]; exact hp, by rw [hK]; exact hq, hx, by rw [← e1, ← e2, line_eq]; exact hl, fun hy => ?_, fun _ => ?_⟩
        · subst hy
          obtain rfl : b = [] := by cases b; rfl; simp at e2
          rw [List.append_nil] at o
          exact Out.ret (R := RepV G) o l x1
        · exact Out.newT o l (by rw [List.length_append, line_eq]; exact hl) (r1.append r2)
    · rw [if_neg hl] at o; exact o.elim
  · rename_i a b
    by_cases hl : a.length + b.length ≤ line
    · rw [if_pos hl] at o
      simp only [RepV, RepD] at x1 x2
      subst x1 x2
      exact op_add_str pins s σ H _ _ v u Q I rx ry ⟨a, b, rfl, rfl, by rw [line_eq]; exact hl, Out.ret (R := RepV G) o l (b := .str (a ++ b)) (by simp [RepV, RepD])⟩
    · rw [if_neg hl] at o; exact o.elim
  · split at o
    · rename_i a b e1 e2
      by_cases hl : a.length + b.length ≤ line
      · rw [if_pos hl] at o
        exact lists e1 e2 hl o
      · rw [if_neg hl] at o; exact o.elim
    · exact o.elim

/-! ### data as the library reads it -/
theorem KVx.pairs {P : Program} {w : World} : ∀ {ks : List (Key × V)} {vs : List (Key × Value)}, L2.KV ks vs → ks.map (·.1) = vs.map (·.1)
  | [], [], _ => rfl
  | _ :: _, _ :: _, .cons r t => by simp [r.1, KVx.pairs (P := P) (w := w) t]
section
variable {pins : List (Addr × PySem.Obj)} {σ : St} {H : Hp} {s : Shared} {M : Addr → Prop}
theorem reads_ints : ∀ {ns : List Int} {us : List Value}, Vals (ns.map V.int) us → ∃ as, ReadsAll s.heap us (ns.map PyData.int) as
  | [], _, .nil => ⟨_, .nil⟩
  | n :: ns, _, .cons r t => by
    obtain ⟨u, rfl⟩ := r
    obtain ⟨as, h⟩ := reads_ints t
    exact ⟨_, .cons (.int n u) h⟩
mutual
theorem reads_of (I : L2.Inv X pins σ H s) : ∀ (d : D) (x : V) (u : Value), RepD X.K M H d x → RelV x u → ∃ as, Reads s.heap u (toPy d) as
  | .non, x, u, h, r => by simp only [RepD] at h; subst h; cases r; exact ⟨_, .none⟩
  | .bl b, x, u, h, r => by simp only [RepD] at h; subst h; cases r; exact ⟨_, .bool b⟩
  | .int i, x, u, h, r => by simp only [RepD] at h; subst h; obtain ⟨t, rfl⟩ := r; exact ⟨_, .int i t⟩
  | .str z, x, u, h, r => by simp only [RepD] at h; subst h; obtain ⟨t, rfl⟩ := r; exact ⟨_, .str z t⟩
  | .tup ds, x, u, h, r => by
    simp only [RepD] at h
    obtain ⟨a, xs, rfl, q, _, rr⟩ := h
    cases r
    obtain ⟨its, rv, ⟨o, h1, h2, n, h3⟩, _⟩ := I.tuple q
    obtain ⟨as, ra⟩ := reads_all I ds xs its rr rv
    exact ⟨_, .tuple h1 h2 h3 ra⟩
  | .lst ds, x, u, h, r => by
    simp only [RepD] at h
    obtain ⟨a, xs, rfl, _, q, _, rr⟩ := h
    cases r
    obtain ⟨its, rv, pl, _⟩ := I.list (.inl (.inl q))
    obtain ⟨o, h1, h2, n, h3⟩ := pl.isList
    obtain ⟨as, ra⟩ := reads_all I ds xs its rr rv
    exact ⟨_, .list h1 h2 h3 ra⟩
  | .scr ns, x, u, h, r => by
    simp only [RepD] at h
    obtain ⟨a, rfl, q, _⟩ := h
    cases r
    have q' : SqL X.K H a (ns.map V.int) := by
      rcases q with ⟨o, q⟩ | q
      · exact .inl (.inr ⟨o, q⟩)
      · rcases q with (q | ⟨_, q⟩) | q
        · cases q
        · cases q
        · exact .inr q
    obtain ⟨its, rv, pl, _⟩ := I.list q'
    obtain ⟨o, h1, h2, n, h3⟩ := pl.isList
    obtain ⟨as, ra⟩ := reads_ints (s := s) rv
    exact ⟨_, .list h1 h2 h3 (by simpa using ra)⟩
  | .dct kvs, x, u, h, r => by
    simp only [RepD] at h
    obtain ⟨a, ks, rfl, _, q, _, rr⟩ := h
    cases r
    obtain ⟨_, _, vs, kv, o, es, ep, h1, h2, h3, h4, hp, h5⟩ := I.hok a _ q
    have ⟨as, bs, ra, rb⟩ := reads_kv I kvs ks vs es.toList rr kv hp
    exact ⟨_, .dict h1 h2.1 h3 ra rb⟩
theorem reads_all (I : L2.Inv X pins σ H s) : ∀ (ds : List D) (xs : List V) (us : List Value), RepDs X.K M H ds xs → Vals xs us → ∃ as, ReadsAll s.heap us (toPys ds) as
  | [], [], _, _, .nil => ⟨_, .nil⟩
  | d :: ds, x :: xs, _, h, .cons r t => by
    simp only [RepDs] at h
    obtain ⟨as, ra⟩ := reads_of I d x _ h.1 r
    obtain ⟨bs, rb⟩ := reads_all I ds xs _ h.2 t
    exact ⟨_, .cons ra rb⟩
  | [], _ :: _, _, h, _ => by simp [RepDs] at h
  | _ :: _, [], _, h, _ => by simp [RepDs] at h
theorem reads_kv (I : L2.Inv X pins σ H s) : ∀ (ds : List (Key × D)) (xs : List (Key × V)) (us : List (Key × Value)) (es : List DictEntry), RepKs X.K M H ds xs → L2.KV xs us → Pairs (mixKind X.prog X.w) es us →
    ∃ as bs, ReadsAll s.heap (es.map (·.key)) ((toPyKv ds).map (·.1)) as ∧ ReadsAll s.heap (es.map (·.val)) ((toPyKv ds).map (·.2)) bs
  | [], [], _, _, _, .nil, .nil => ⟨_, _, .nil, .nil⟩
  | (k, d) :: ds, x :: xs, _, _, h, .cons r t, .cons h1 h2 h3 => by
    simp only [RepKs] at h
    obtain ⟨⟨e, hd⟩, hh⟩ := h
    obtain ⟨as, ra⟩ := reads_of I d x.2 _ hd r.2
    obtain ⟨bs, cs, rb, rc⟩ := reads_kv I ds xs _ _ hh t h3
    have hk := h1
    rw [mixKind_is, ← r.1, ← e] at hk
    refine ⟨[] ++ bs, as ++ cs, ?_, ?_⟩
    · simp only [toPyKv, List.map_cons]
      refine .cons ?_ rb
      cases k with
      | inl i => obtain ⟨i', t', e1, e2⟩ | ⟨_, _, e1, _⟩ := keyIs_shape hk
                 · cases e1; rw [e2]; exact .int _ _
                 · cases e1
      | inr z => obtain ⟨_, _, e1, _⟩ | ⟨i', t', e1, e2⟩ := keyIs_shape hk
                 · cases e1
                 · cases e1; rw [e2]; exact .str _ _
    · simp only [toPyKv, List.map_cons]
      rw [h2]
      exact .cons ra rc
  | [], _ :: _, _, _, h, _, _ => by simp [RepKs] at h
  | _ :: _, [], _, _, h, _, _ => by simp [RepKs] at h
end
end

mutual
theorem plain_toPy : ∀ d : D, d.plain = true → (toPy d).plain = true
  | .non, _ => rfl
  | .bl _, _ => rfl
  | .int _, _ => rfl
  | .str _, _ => rfl
  | .tup xs, h => by simp only [toPy, PyData.plain]; exact plains_toPy xs (by simpa [D.plain] using h)
  | .lst xs, h => by simp only [toPy, PyData.plain]; exact plains_toPy xs (by simpa [D.plain] using h)
  | .dct _, h => by simp [D.plain] at h
  | .scr _, h => by simp [D.plain] at h
theorem plains_toPy : ∀ ds : List D, D.plains ds = true → PyData.plainAll (toPys ds) = true
  | [], _ => rfl
  | d :: ds, h => by
    simp only [D.plains, Bool.and_eq_true] at h
    simp only [toPys, PyData.plainAll, plain_toPy d h.1, plains_toPy ds h.2, Bool.and_self]
end
theorem low_le {d : D} (h : low d = true) : (toPy d).depth ≤ 60 := by simpa [low] using h
theorem opp_eqB (hK : X.K = G.K) (hu : X.A.units + 64 < cLine) (neg : Bool) : OpP G X (compareOp (if neg then .NotEq else .Eq)) (pEqB neg) := by
  intro pins s σ H x y v u Q I rx ry ⟨F, ρ, st, Z, v1, v2, l, x1, x2, o⟩
  unfold pEqB at o
  split at o
  · rename_i a b e1 e2
    by_cases c : (a.plain && b.plain && (low a || low b)) = true
    · rw [if_pos c] at o
      simp only [Bool.and_eq_true, Bool.or_eq_true] at c
      obtain ⟨M1, r1, _⟩ := peek_D l x1 e1
      obtain ⟨M2, r2, _⟩ := peek_D l x2 e2
      rw [← hK] at r1 r2
      obtain ⟨as, q1⟩ := reads_of I a x v r1 rx
      obtain ⟨bs, q2⟩ := reads_of I b y u r2 ry
      have hm : X.A.units + min (toPy a).depth (toPy b).depth < cLine := by
        rcases c.2 with h | h
        · have := low_le h; omega
        · have := low_le h; omega
      have fin : ∀ r, Out G F ρ st H Z (RepV G) (.ok (.d (.bl r)) st) Q → EP X pins σ Q (.bool r) s := fun r o => ⟨.bl r, H, I, rfl, Out.ret (R := RepV G) (b := .bl r) o l (by simp [RepV, RepD])⟩
      cases neg with
      | false =>
        have o' : Out G F ρ st H Z (RepV G) (.ok (.d (.bl (PyData.eqv (toPy a) (toPy b)))) st) Q := by simpa [eqD] using o
        exact SeqAt.eq_plain q1 q2 (plain_toPy a c.1.1) (plain_toPy b c.1.2) hm (fin _ o')
      | true =>
        have o' : Out G F ρ st H Z (RepV G) (.ok (.d (.bl (!PyData.eqv (toPy a) (toPy b)))) st) Q := by simpa [eqD] using o
        exact SeqAt.ne_plain q1 q2 (plain_toPy a c.1.1) (plain_toPy b c.1.2) hm (fin _ o')
    · rw [if_neg c] at o
      have fin : ∀ r, Out G F ρ st H Z (RepV G) (.ok (.d (.bl r)) st) Q → EP X pins σ Q (.bool r) s := fun r o => ⟨.bl r, H, I, rfl, Out.ret (R := RepV G) (b := .bl r) o l (by simp [RepV, RepD])⟩
      unfold eqLen at o
      split at o
      · rename_i as bs
        split at o
        · rename_i he
          obtain ⟨p, xs, rfl, hp, _, r1⟩ := peek_T x1 e1
          obtain ⟨q, ys, rfl, hq, _, r2⟩ := peek_T x2 e2
          obtain ⟨its, q1, p1, _⟩ := I.tuple (by rw [hK]; exact hp)
          obtain ⟨its2, q2, p2, _⟩ := I.tuple (by rw [hK]; exact hq)
          cases rx; cases ry
          have l1 : as.length = its.length := by rw [r1.len, q1.length]
          have l2 : bs.length = its2.length := by rw [r2.len, q2.length]
          have hz : min its.length its2.length = 0 := by
            simp only [Bool.or_eq_true, List.isEmpty_iff] at he
            rcases he with he | he
            · rw [he] at l1; simp at l1; omega
            · rw [he] at l2; simp at l2; omega
          have ev : ((List.range (min its.toArray.size its2.toArray.size)).all (fun _ => true) && its.toArray.size == its2.toArray.size) = (as.isEmpty && bs.isEmpty) := by
            simp only [List.size_toArray]
            rw [hz]
            simp only [List.range_zero, List.all_nil, Bool.true_and]
            rw [Bool.eq_iff_iff]
            simp only [beq_iff_eq, Bool.and_eq_true, List.isEmpty_iff, ← List.length_eq_zero_iff, l1, l2]
            omega
          have items : ∀ j (h1 : j < its.toArray.size) (h2 : j < its2.toArray.size), SeqAt.EqAt X.A.in1 s its.toArray[j] its2.toArray[j] true := fun j h1 h2 => by
            simp only [List.size_toArray] at h1 h2; omega
          cases neg with
          | false =>
            have z := SeqAt.RcAt.tuples (e := fun _ => true) p1 p2 (by omega) items
            rw [ev] at z
            exact z X.prog X.w X.xe _ (fin _ (by simpa using o))
          | true =>
            have z := SeqAt.RcNeAt.tuples (e := fun _ => true) p1 p2 (by omega) items
            rw [ev] at z
            exact z X.prog X.w X.xe _ (fin _ (by simpa using o))
        · exact o.elim
      · rename_i as bs
        split at o
        · exact o.elim
        · rename_i he
          obtain ⟨p, xs, rfl, hp, _, r1⟩ := peek_L l x1 e1
          obtain ⟨q, ys, rfl, hq, _, r2⟩ := peek_L l x2 e2
          obtain ⟨its, q1, p1, _⟩ := I.list (.inl (.inl hp))
          obtain ⟨its2, q2, p2, _⟩ := I.list (.inl (.inl hq))
          cases rx; cases ry
          have l1 : as.length = its.length := by rw [r1.len, q1.length]
          have l2 : bs.length = its2.length := by rw [r2.len, q2.length]
          have hs : (its.toArray.size != its2.toArray.size) = true := by simp only [List.size_toArray, bne_iff_ne]; omega
          cases neg with
          | false => exact SeqAt.RcAt.lists_lengths p1.isList p2.isList hs (by omega) X.prog X.w X.xe _ (fin _ (by simpa using o))
          | true => exact SeqAt.RcNeAt.lists_lengths p1.isList p2.isList hs (by omega) X.prog X.w X.xe _ (fin _ (by simpa using o))
      · exact o.elim
  · exact o.elim
theorem opp_eq (hK : X.K = G.K) (hu : X.A.units + 64 < cLine) : OpP G X (compareOp .Eq) pEq := opp_eqB hK hu false
theorem opp_ne (hK : X.K = G.K) (hu : X.A.units + 64 < cLine) : OpP G X (compareOp .NotEq) pNe := opp_eqB hK hu true
theorem any_inD (a : D) : ∀ ys : List D, ((toPys ys).any fun y => PyData.eqv y (toPy a)) = inD a ys
  | [] => rfl
  | y :: ys => by simp only [toPys, List.any_cons, inD, eqD]; rw [any_inD a ys]; rfl
theorem opp_inB (hK : X.K = G.K) (hu : X.A.units + 64 < cLine) (neg : Bool) : OpP G X (compareOp (if neg then .NotIn else .In)) (pInB neg) := by
  intro pins s σ H x y v u Q I rx ry ⟨F, ρ, st, Z, v1, v2, l, x1, x2, o⟩
  have fin : ∀ r, Out G F ρ st H Z (RepV G) (.ok (.d (.bl r)) st) Q → EP X pins σ Q (.bool r) s := fun r o => ⟨.bl r, H, I, rfl, Out.ret (R := RepV G) (b := .bl r) o l (by simp [RepV, RepD])⟩
  unfold pInB at o
  split at o
  · rename_i a ys e2
    by_cases c : (a.plain && D.plains ys && low a) = true
    · rw [if_pos c] at o
      simp only [Bool.and_eq_true] at c
      obtain ⟨M1, r1, _⟩ := peek_D l x1 (z := a) rfl
      obtain ⟨M2, r2, _⟩ := peek_D l x2 e2
      rw [← hK] at r1 r2
      obtain ⟨as, q1⟩ := reads_of I a x v r1 rx
      obtain ⟨bs, q2⟩ := reads_of I (.tup ys) y u r2 ry
      have hm : X.A.units + 1 + min (PyData.depthAll (toPys ys)) (toPy a).depth < cLine := by have := low_le c.2; omega
      cases neg with
      | false => exact SeqAt.in_tuple_data (by simpa [toPy] using q2) q1 (plains_toPy ys c.1.2) (plain_toPy a c.1.1) hm (fin _ (by rw [any_inD]; simpa using o))
      | true => exact SeqAt.notIn_tuple_data (by simpa [toPy] using q2) q1 (plains_toPy ys c.1.2) (plain_toPy a c.1.1) hm (fin _ (by rw [any_inD]; simpa using o))
    · rw [if_neg c] at o; exact o.elim
  · rename_i a ys e2
    by_cases c : (a.plain && D.plains ys && low a) = true
    · rw [if_pos c] at o
      simp only [Bool.and_eq_true] at c
      obtain ⟨M1, r1, _⟩ := peek_D l x1 (z := a) rfl
      obtain ⟨M2, r2, _⟩ := peek_D l x2 e2
      rw [← hK] at r1 r2
      obtain ⟨as, q1⟩ := reads_of I a x v r1 rx
      obtain ⟨bs, q2⟩ := reads_of I (.lst ys) y u r2 ry
      have hm : X.A.units + 1 + min (PyData.depthAll (toPys ys)) (toPy a).depth < cLine := by have := low_le c.2; omega
      cases neg with
      | false => exact SeqAt.in_list_data (by simpa [toPy] using q2) q1 (plains_toPy ys c.1.2) (plain_toPy a c.1.1) hm (fin _ (by rw [any_inD]; simpa using o))
      | true => exact SeqAt.notIn_list_data (by simpa [toPy] using q2) q1 (plains_toPy ys c.1.2) (plain_toPy a c.1.1) hm (fin _ (by rw [any_inD]; simpa using o))
    · rw [if_neg c] at o; exact o.elim
  · exact o.elim
theorem opp_in (hK : X.K = G.K) (hu : X.A.units + 64 < cLine) : OpP G X (compareOp .In) pIn := opp_inB hK hu false
theorem opp_notin (hK : X.K = G.K) (hu : X.A.units + 64 < cLine) : OpP G X (compareOp .NotIn) pNotIn := opp_inB hK hu true
end
end Ev
end
section
set_option Elab.async false
set_option linter.all false
set_option autoImplicit false
set_option maxRecDepth 100000
set_option maxHeartbeats 4000000
/-! Calls of built-ins, subscripts, slices. -/
namespace Ev
open PySem L2

section
variable {G : Gd} {X : Cx} {W : WX} {a b c : Expr} {ca cb cc : EC} {pos pp : Pos}

/-! ### built-ins of one and two values -/
abbrev CallP1 (G : Gd) (X : Cx) (f : Value) (p : Val → Store → Res Val) : Prop := CallR X f (fun xs H Q => ∃ x, xs = [x] ∧ rP1 G p x H Q)
abbrev CallP2 (G : Gd) (X : Cx) (f : Value) (p : Val → Val → Store → Res Val) : Prop := CallR X f (fun xs H Q => ∃ x y, xs = [x, y] ∧ rP G p x y H Q)
theorem c1_to {p : Val → Store → Res Val} {σ : St} {H : Hp} {Q : VK} (h : tE G W (e1 p ca) σ H Q) : tCB (fun xs H Q => ∃ x, xs = [x] ∧ rP1 G p x H Q) (tCons (tE G W ca) tNil) σ H Q := by
  obtain ⟨F, ρ, s, E, at_, o⟩ := h
  refine ⟨F, ρ, s, E, at_, (Out.bind (R := RepV G) o).mono ?_⟩
  rintro x H1 ⟨ρ1, s1, v1, g1, l1, x1, o1⟩
  exact ⟨x, rfl, F, ρ1, s1, _, v1, l1, x1, o1⟩
theorem c2_to {p : Val → Val → Store → Res Val} {σ : St} {H : Hp} {Q : VK} (h : tE G W (e2 p ca cb) σ H Q) : tCB (fun xs H Q => ∃ x y, xs = [x, y] ∧ rP G p x y H Q) (tCons (tE G W ca) (tCons (tE G W cb) tNil)) σ H Q := by
  obtain ⟨F, ρ, s, E, at_, o⟩ := h
  refine ⟨F, ρ, s, E, at_, (Out.bind (R := RepV G) o).mono ?_⟩
  rintro x H1 ⟨ρ1, s1, v1, g1, l1, x1, o1⟩
  refine ⟨F, ρ1, s1, E, at_.go g1 l1, (Out.bind (R := RepV G) o1).mono ?_⟩
  rintro y H2 ⟨ρ2, s2, v2, g2, l2, x2, o2⟩
  exact ⟨x, y, rfl, F, ρ2, s2, _, v1, v2, l2, l1.val g2 x1, x2, o2⟩
theorem se_cb1 {x : Str} {id : String} {p : Val → Store → Res Val} (hc : CallP1 G X (.builtin id) p) (hm : X.mg x = none) (hv : bootBuiltins x = some (.builtin id)) (ha : SE G W X ca a) (hg : Gl X x := by rfl)
    (hn : x ≠ "__name__" := by decide +kernel) (hdb : (x == ("__debug__" : Str)) = false := by decide +kernel) (hs : starEach [a] X.env = (false, eval a X.env) :: starEach [] X.env := by rfl) : SE G W X (e1 p ca) (.Call (.Name x pp) [a] [] pos) :=
  PE.imp (pe_callB hc hg hm hv (pa_cons ha pa_nil hs) hn hdb hs rfl) fun σ H Q h => c1_to h
theorem se_ct1 {x : Str} {T : String} {p : Val → Store → Res Val} (hc : CallP1 G X (.type T) p) (hm : X.mg x = none) (hv : bootBuiltins x = some (.type T)) (ha : SE G W X ca a) (hg : Gl X x := by rfl)
    (hn : x ≠ "__name__" := by decide +kernel) (hdb : (x == ("__debug__" : Str)) = false := by decide +kernel) (hs : starEach [a] X.env = (false, eval a X.env) :: starEach [] X.env := by rfl) : SE G W X (e1 p ca) (.Call (.Name x pp) [a] [] pos) :=
  PE.imp (pe_callTy hc hg hm hv (pa_cons ha pa_nil hs) hn hdb hs rfl) fun σ H Q h => c1_to h
theorem se_cb2 {x : Str} {id : String} {p : Val → Val → Store → Res Val} (hc : CallP2 G X (.builtin id) p) (hm : X.mg x = none) (hv : bootBuiltins x = some (.builtin id)) (ha : SE G W X ca a) (hb : SE G W X cb b) (hg : Gl X x := by rfl)
    (hn : x ≠ "__name__" := by decide +kernel) (hdb : (x == ("__debug__" : Str)) = false := by decide +kernel) (hs : starEach (a :: [b]) X.env = (false, eval a X.env) :: starEach [b] X.env := by rfl) (hs2 : starEach [b] X.env = (false, eval b X.env) :: starEach [] X.env := by rfl)
    (hpl : (backTo pos (starEach [b] X.env)).any (·.1) = false := by rfl) : SE G W X (e2 p ca cb) (.Call (.Name x pp) [a, b] [] pos) :=
  PE.imp (pe_callB hc hg hm hv (pa_cons ha (pa_cons hb pa_nil hs2) hs) hn hdb hs hpl) fun σ H Q h => c2_to h

/-- the sequence of a value -/
theorem seq_of {F : Addr → Prop} {ρ : List Addr} {H : Hp} {s : Store} {v : Val} {x : V} {n : Nat} (hK : X.K = G.K) (l : Rel G F ρ s H) (h : RepV G ρ (Mu ρ s F) H v x) (e : (items v s).map List.length = some n) :
    ∃ a xs, x = .ref a ∧ (SqL X.K H a xs ∨ SqT X.K H a xs) ∧ xs.length = n := by
  cases v with
  | d z =>
    cases z with
    | tup ds => simp at e; simp only [RepV, RepD] at h; obtain ⟨a, xs, rfl, q, z, r⟩ := h; exact ⟨a, xs, rfl, .inr (by rw [hK]; exact q), by rw [← r.len, e]⟩
    | lst ds => simp at e; simp only [RepV, RepD] at h; obtain ⟨a, xs, rfl, _, q, z, r⟩ := h; exact ⟨a, xs, rfl, .inl (.inl (.inl q)), by rw [← r.len, e]⟩
    | _ => simp [items] at e
  | loc m =>
    obtain ⟨a, ha, rfl⟩ := h
    simp only [items] at e
    cases ho : s[m]? with
    | none => simp [ho] at e
    | some o =>
      have q := l.ob m o a ho ha
      cases o with
      | lst ds => simp [ho] at e; obtain ⟨xs, hx, z, r⟩ := q; exact ⟨a, xs, rfl, .inl (.inl (.inl hx)), by rw [← r.len, e]⟩
      | lv ds => simp [ho] at e; obtain ⟨xs, hx, z, r⟩ := q; exact ⟨a, xs, rfl, .inl (.inl (.inl hx)), by rw [← r.len, e]⟩
      | _ => simp [ho] at e
  | exn _ _ => simp [items] at e
theorem RepF_len {κ : Type} {ρ : List Addr} {M : Addr → Prop} {H : Hp} : ∀ {ds : List (κ × Val)} {xs : List (κ × V)}, RepF G ρ M H ds xs → ds.length = xs.length
  | [], [], _ => rfl
  | _ :: _, _ :: _, h => by simp [RepF_len h.2]
  | [], _ :: _, h => h.elim
  | _ :: _, [], h => h.elim
theorem cp_len (hK : X.K = G.K) : CallP1 G X (.builtin "len") pLen := by
  intro pins s σ H xs us Q I r ⟨x, e, F, ρ, st, Z, v1, l, x1, o⟩
  subst e
  have go : ∀ n : Nat, (items v1 st).map List.length = some n → Out G F ρ st H Z (RepV G) (.ok (.d (.int n)) st) Q → wpAny (model X.prog X.w) X.A (PySem.call (.builtin "len") us) (EP X pins σ Q) X.xe s := fun n e o => by
    obtain ⟨a, ys, rfl, q, hn⟩ := seq_of hK l x1 e
    exact call_len_seq pins s σ H _ us Q I r ⟨a, ys, rfl, q, Out.ret (R := RepV G) o l (by simp [RepV, RepD, hn])⟩
  unfold pLen at o
  cases v1 with
  | d z =>
    cases z with
    | tup ds => exact go _ (by simp) o
    | lst ds => exact go _ (by simp) o
    | _ => exact o.elim
  | loc m =>
    simp only at o
    cases ho : st[m]? with
    | none => rw [ho] at o; exact o.elim
    | some ob =>
      rw [ho] at o
      cases ob with
      | lst ds => exact go _ (by simp [items, ho]) o
      | lv ds => exact go _ (by simp [items, ho]) o
      | dct ds =>
        obtain ⟨a, ha, rfl⟩ := x1
        obtain ⟨ks, hk, z, rr⟩ := l.ob m _ a ho ha
        exact call_lenD pins s σ H _ us Q I r ⟨a, ks, rfl, hk, Out.ret (R := RepV G) o l (by simp [RepV, RepD, RepF_len rr])⟩
      | _ => exact o.elim
  | exn _ _ => exact o.elim
theorem cp_abs : CallP1 G X (.builtin "abs") pAbs := by
  intro pins s σ H xs us Q I r ⟨x, e, F, ρ, st, Z, v1, l, x1, o⟩
  subst e
  unfold pAbs at o
  split at o
  · rename_i i
    obtain rfl := int_of x1
    refine call_abs pins s σ H _ us Q I r ⟨i, rfl, ?_⟩
    have e : (if i < 0 then -i else i) = (i.natAbs : Int) := by split <;> omega
    rw [e]
    exact Out.ret (R := RepV G) o l (by simp [RepV, RepD])
  · exact o.elim
theorem cp_int : CallP1 G X (.type "int") pInt := by
  intro pins s σ H xs us Q I r ⟨x, e, F, ρ, st, Z, v1, l, x1, o⟩
  subst e
  unfold pInt at o
  split at o
  · rename_i i
    obtain rfl := int_of x1
    exact call_int1 pins s σ H _ us Q I r (.inl ⟨i, rfl, Out.ret (R := RepV G) o l (by simp [RepV, RepD])⟩)
  · exact o.elim
theorem cp_max (hc : X.calm = true) : CallP2 G X (.builtin "max") pMax := by
  intro pins s σ H xs us Q I r ⟨x, y, e, F, ρ, st, Z, v1, v2, l, x1, x2, o⟩
  subst e
  unfold pMax pI at o
  split at o
  · rename_i i j
    obtain rfl := int_of x1
    obtain rfl := int_of x2
    refine call_max2 hc pins s σ H _ us Q I r ⟨i, j, rfl, ?_⟩
    have e : (if j > i then j else i) = max i j := by split <;> omega
    rw [e]
    exact Out.ret (R := RepV G) o l (by simp [RepV, RepD])
  · exact o.elim
theorem cp_min (hc : X.calm = true) : CallP2 G X (.builtin "min") pMin := by
  intro pins s σ H xs us Q I r ⟨x, y, e, F, ρ, st, Z, v1, v2, l, x1, x2, o⟩
  subst e
  unfold pMin pI at o
  split at o
  · rename_i i j
    obtain rfl := int_of x1
    obtain rfl := int_of x2
    refine call_min2 hc pins s σ H _ us Q I r ⟨i, j, rfl, ?_⟩
    have e : (if j < i then j else i) = min i j := by split <;> omega
    rw [e]
    exact Out.ret (R := RepV G) o l (by simp [RepV, RepD])
  · exact o.elim
theorem cp_tuple (hK : X.K = G.K) : CallP1 G X (.type "tuple") pTuple := by
  intro pins s σ H xs us Q I r ⟨x, e, F, ρ, st, Z, v1, l, x1, o⟩
  subst e
  unfold pTuple at o
  split at o
  · rename_i ds e1
    obtain ⟨a, ys, rfl, q, z, rr⟩ := peek_T x1 e1
    exact call_tuple_of pins s σ H _ us Q I r ⟨a, ys, rfl, .inr ⟨by rw [hK]; exact q, Out.ret (R := RepV G) o l (by simp only [RepV, RepD]; exact ⟨a, ys, rfl, q, z, rr⟩)⟩⟩
  · rename_i ds e1
    obtain ⟨a, ys, rfl, q, z, rr⟩ := peek_L l x1 e1
    exact call_tuple_of pins s σ H _ us Q I r ⟨a, ys, rfl, .inl ⟨.inl (.inl q), Out.newT o l z rr⟩⟩
  · exact o.elim
theorem cp_list (hK : X.K = G.K) : CallP1 G X (.type "list") pList := by
  intro pins s σ H xs us Q I r ⟨x, e, F, ρ, st, Z, v1, l, x1, o⟩
  subst e
  unfold pList at o
  split at o
  · rename_i ds e1
    obtain ⟨a, ys, rfl, q, z, rr⟩ := peek_T x1 e1
    exact call_list_of pins s σ H _ us Q I r ⟨a, ys, rfl, .inr (by rw [hK]; exact q), Out.newL o l z rr⟩
  · rename_i ds e1
    obtain ⟨a, ys, rfl, q, z, rr⟩ := peek_L l x1 e1
    exact call_list_of pins s σ H _ us Q I r ⟨a, ys, rfl, .inl (.inl (.inl q)), Out.newL o l z rr⟩
  · exact o.elim
/-- x = list(..), the list changed afterwards -/
def pListA (x : Val) (s : Store) : Res Val := (pList x s).bind alloc
theorem Out.newA {F : Addr → Prop} {ρ : List Addr} {s : Store} {H : Hp} {Z : Value → Option Addr → Hp → Prop} {Q : VK} {ds : List D} {xs : List V} (o : Out G F ρ s H Z (RepV G) (.ok (.loc s.length) (s ++ [.lst ds])) Q) (l1 : Rel G F ρ s H) (hl : ds.length ≤ sizeLine) (r : RepDs G.K (Mu ρ s F) H ds xs) :
    ∀ p, H p = none → Q (.ref p) (upd H p (.lst xs)) := fun p n =>
  o _ _ _ (go_push l1.len n) (l1.push n fun M' t => ⟨xs, upd_same, hl, RepDs.still t _ _ r⟩) ⟨p, by rw [List.getElem?_append_right (by rw [l1.len]; exact Nat.le_refl _), l1.len]; simp, rfl⟩
theorem cp_listA (hK : X.K = G.K) : CallP1 G X (.type "list") pListA := by
  intro pins s σ H xs us Q I r ⟨x, e, F, ρ, st, Z, v1, l, x1, o⟩
  subst e
  unfold pListA pList at o
  split at o
  · rename_i ds e1
    obtain ⟨a, ys, rfl, q, z, rr⟩ := peek_T x1 e1
    exact call_list_of pins s σ H _ us Q I r ⟨a, ys, rfl, .inr (by rw [hK]; exact q), Out.newA o l z rr⟩
  · rename_i ds e1
    obtain ⟨a, ys, rfl, q, z, rr⟩ := peek_L l x1 e1
    exact call_list_of pins s σ H _ us Q I r ⟨a, ys, rfl, .inl (.inl (.inl q)), Out.newA o l z rr⟩
  · exact o.elim
/-! ### repr -/
theorem reads_int_nil {h : Heap} {v : Value} {i : Int} {as : List Addr} (q : Reads h v (.int i) as) : as = [] := by cases q; rfl
theorem reads_str_nil {h : Heap} {v : Value} {i : Str} {as : List Addr} (q : Reads h v (.str i) as) : as = [] := by cases q; rfl
mutual
theorem dict_sys {pins : List (Addr × PySem.Obj)} {σ : St} {H : Hp} {s : Shared} {M : Addr → Prop} (I : L2.Inv X pins σ H s) (hsys : H sysModules = none) : ∀ (d : D) (x : V) (u : Value) (as : List Addr), d.noscr = true → RepD X.K M H d x → RelV x u → Reads s.heap u (toPy d) as → sysModules ∉ as
  | .non, x, u, as, _, h, r, q => by simp only [toPy] at q; cases q; simp
  | .bl b, x, u, as, _, h, r, q => by simp only [toPy] at q; cases q; simp
  | .int i, x, u, as, _, h, r, q => by simp only [toPy] at q; cases q; simp
  | .str z, x, u, as, _, h, r, q => by simp only [toPy] at q; cases q; simp
  | .scr ns, x, u, as, c, _, _, _ => by simp [D.noscr] at c
  | .tup ds, x, u, as, c, h, r, q => by
    simp only [RepD] at h
    obtain ⟨a, xs, rfl, k, _, rr⟩ := h
    cases r
    obtain ⟨its, rv, ⟨o, h1, h2, n, h3⟩, _⟩ := I.tuple k
    simp only [toPy] at q
    cases q with
    | tuple k1 k2 k3 k4 =>
      rw [h1] at k1; cases k1
      rw [h3] at k3; cases k3
      exact dict_syss I hsys ds xs its _ (by simpa [D.noscr] using c) rr rv (by simpa using k4)
  | .lst ds, x, u, as, c, h, r, q => by
    simp only [RepD] at h
    obtain ⟨a, xs, rfl, _, k, _, rr⟩ := h
    cases r
    obtain ⟨its, rv, pl, _⟩ := I.list (.inl (.inl k))
    obtain ⟨o, h1, h2, n, h3⟩ := pl.isList
    simp only [toPy] at q
    cases q with
    | list k1 k2 k3 k4 =>
      rw [h1] at k1; cases k1
      rw [h3] at k3; cases k3
      have z := dict_syss I hsys ds xs its _ (by simpa [D.noscr] using c) rr rv (by simpa using k4)
      intro hm
      rcases List.mem_cons.mp hm with e | e
      · rw [← e, hsys] at k; cases k
      · exact z e
  | .dct kvs, x, u, as, c, h, r, q => by
    simp only [RepD] at h
    obtain ⟨a, ks, rfl, _, k, _, rr⟩ := h
    cases r
    obtain ⟨_, _, vs, kv, o, es, ep, h1, h2, h3, h4, hp, h5⟩ := I.hok a _ k
    simp only [toPy] at q
    cases q with
    | dict k1 k2 k3 k4 k5 =>
      rw [h1] at k1; cases k1
      rw [h3] at k3; cases k3
      have z := dict_sysk I hsys kvs ks vs _ _ _ (by simpa [D.noscr] using c) rr kv hp k4 k5
      intro hm
      rcases List.mem_append.mp hm with hm | hm
      · rcases List.mem_cons.mp hm with e | e
        · rw [← e, hsys] at k; cases k
        · exact z.1 e
      · exact z.2 hm
theorem dict_syss {pins : List (Addr × PySem.Obj)} {σ : St} {H : Hp} {s : Shared} {M : Addr → Prop} (I : L2.Inv X pins σ H s) (hsys : H sysModules = none) : ∀ (ds : List D) (xs : List V) (us : List Value) (as : List Addr), D.noscrs ds = true → RepDs X.K M H ds xs → Vals xs us → ReadsAll s.heap us (toPys ds) as → sysModules ∉ as
  | [], [], _, as, _, _, .nil, q => by simp only [toPys] at q; cases q; simp
  | d :: ds, x :: xs, _, as, c, h, .cons r t, q => by
    simp only [RepDs] at h
    simp only [D.noscrs, Bool.and_eq_true] at c
    simp only [toPys] at q
    cases q with
    | cons q1 q2 =>
      intro hm
      rcases List.mem_append.mp hm with e | e
      · exact dict_sys I hsys d x _ _ c.1 h.1 r q1 e
      · exact dict_syss I hsys ds xs _ _ c.2 h.2 t q2 e
  | [], _ :: _, _, _, _, h, _, _ => by simp [RepDs] at h
  | _ :: _, [], _, _, _, h, _, _ => by simp [RepDs] at h
theorem dict_sysk {pins : List (Addr × PySem.Obj)} {σ : St} {H : Hp} {s : Shared} {M : Addr → Prop} (I : L2.Inv X pins σ H s) (hsys : H sysModules = none) : ∀ (ds : List (Key × D)) (xs : List (Key × V)) (us : List (Key × Value)) (es : List DictEntry) (as bs : List Addr),
    D.noscrk ds = true → RepKs X.K M H ds xs → L2.KV xs us → Pairs (mixKind X.prog X.w) es us → ReadsAll s.heap (es.map (·.key)) ((toPyKv ds).map (·.1)) as → ReadsAll s.heap (es.map (·.val)) ((toPyKv ds).map (·.2)) bs → sysModules ∉ as ∧ sysModules ∉ bs
  | [], [], _, _, as, bs, _, _, .nil, .nil, q, q' => by simp only [toPyKv, List.map_nil] at q q'; cases q; cases q'; simp
  | (k, d) :: ds, x :: xs, _, _, as, bs, c, h, .cons r t, .cons h1 h2 h3, q, q' => by
    simp only [RepKs] at h
    simp only [D.noscrk, Bool.and_eq_true] at c
    simp only [toPyKv, List.map_cons] at q q'
    cases q with
    | cons q1 q2 =>
      cases q' with
      | cons q3 q4 =>
        have z := dict_sysk I hsys ds xs _ _ _ _ c.2 h.2 t h3 q2 q4
        rw [h2] at q3
        have z2 := dict_sys I hsys d x.2 _ _ c.1 h.1.2 r.2 q3
        refine ⟨fun hm => ?_, fun hm => ?_⟩
        · rcases List.mem_append.mp hm with e | e
          · cases k with
            | inl i => rw [reads_int_nil q1] at e; simp at e
            | inr i => rw [reads_str_nil q1] at e; simp at e
          · exact z.1 e
        · rcases List.mem_append.mp hm with e | e
          · exact z2 e
          · exact z.2 e
  | [], _ :: _, _, _, _, _, _, h, _, _, _, _ => by simp [RepKs] at h
  | _ :: _, [], _, _, _, _, _, h, _, _, _, _ => by simp [RepKs] at h
end
theorem cp_repr (hK : X.K = G.K) (hu : X.A.units + 64 < cLine) (hg : X.A.guards = some []) (hsys : ∀ (pins : List (Addr × PySem.Obj)) (σ : St) (H : Hp) (s : Shared), L2.Inv X pins σ H s → H sysModules = none) : CallP1 G X (.builtin "repr") pRepr := by
  intro pins s σ H xs us Q I r ⟨x, e, F, ρ, st, Z, v1, l, x1, o⟩
  subst e
  unfold pRepr at o
  cases v1 with
  | d a =>
    simp only at o
    by_cases c : ((toPy a).showable && low a && a.noscr && decide ((toPy a).shown.length ≤ line)) = true
    · rw [if_pos c] at o
      simp only [Bool.and_eq_true, decide_eq_true_eq] at c
      obtain ⟨⟨⟨c1, c2⟩, c3⟩, c4⟩ := c
      obtain ⟨u, rfl, ru⟩ := vals1 r
      have hr : RepD X.K (Mu ρ st F) H a x := by rw [hK]; exact x1
      have hq : Q (.str (toPy a).shown) H := Out.ret (R := RepV G) (b := .str _) o l (by simp [RepV, RepD])
      obtain ⟨as, q⟩ := reads_of I a x u hr ru
      have hsz : (toPy a).shown.length ≤ sizeLine := by rw [line_eq]; exact c4
      have hlo := low_le c2
      cases x with
      | ref p =>
        cases ru
        refine repr_of_reads' (h₀ := s.heap) q c1 (fun _ => dict_sys I (hsys _ _ _ _ I) a _ _ as c3 hr rfl q) hg (by omega) (fun _ _ e => e) (fun h' u tk hk => ?_) hsz
        exact ⟨.str _, H, I.kept (t' := tk) hk, ⟨_, rfl⟩, hq⟩
      | non =>
        cases ru
        cases a <;> simp [RepD] at hr
        exact PySem.P.repr_of_none ⟨.str _, H, I.tok _, ⟨_, rfl⟩, by simpa [toPy, PyData.shown] using hq⟩
      | bl b =>
        cases ru
        cases a <;> simp [RepD] at hr
        subst hr
        exact PySem.P.repr_of_bool ⟨.str _, H, I.tok _, ⟨_, rfl⟩, by simpa [toPy, PyData.shown] using hq⟩
      | int i =>
        obtain ⟨t, rfl⟩ := ru
        cases a <;> simp [RepD] at hr
        subst hr
        exact PySem.P.repr_of_int (by simpa [toPy, PyData.showable] using c1) ⟨.str _, H, I.tok _, ⟨_, rfl⟩, by simpa [toPy, PyData.shown] using hq⟩
      | str z =>
        obtain ⟨t, rfl⟩ := ru
        cases a <;> simp [RepD] at hr
        subst hr
        exact PySem.P.repr_of_str ⟨.str _, H, I.tok _, ⟨_, rfl⟩, by simpa [toPy, PyData.shown] using hq⟩ (by simpa [toPy, PyData.shown] using hsz)
      | byt z => cases a <;> simp [RepD] at hr
      | flt z => cases a <;> simp [RepD] at hr
      | ty z => cases a <;> simp [RepD] at hr
    · rw [if_neg c] at o; exact o.elim
  | _ => exact o.elim
/-! ### is None -/
theorem non_iff {F : Addr → Prop} {ρ : List Addr} {H : Hp} {s : Store} {v : Val} {x : V} (h : RepV G ρ (Mu ρ s F) H v x) : pIsN v s = .ok (.d (.bl (decide (x = .non)))) s ∧ pNotN v s = .ok (.d (.bl (!decide (x = .non)))) s := by
  cases v with
  | d z =>
    cases z with
    | non => simp only [RepV, RepD] at h; subst h; exact ⟨rfl, rfl⟩
    | bl b => simp only [RepV, RepD] at h; subst h; exact ⟨rfl, rfl⟩
    | int b => simp only [RepV, RepD] at h; subst h; exact ⟨rfl, rfl⟩
    | str b => simp only [RepV, RepD] at h; subst h; exact ⟨rfl, rfl⟩
    | tup b => simp only [RepV, RepD] at h; obtain ⟨a, xs, rfl, _⟩ := h; exact ⟨rfl, rfl⟩
    | lst b => simp only [RepV, RepD] at h; obtain ⟨a, xs, rfl, _⟩ := h; exact ⟨rfl, rfl⟩
    | dct b => simp only [RepV, RepD] at h; obtain ⟨a, xs, rfl, _⟩ := h; exact ⟨rfl, rfl⟩
    | scr b => simp only [RepV, RepD] at h; obtain ⟨a, rfl, _⟩ := h; exact ⟨rfl, rfl⟩
  | loc n => obtain ⟨a, _, rfl⟩ := h; exact ⟨rfl, rfl⟩
  | exn c fs => obtain ⟨a, _, _, rfl, _⟩ := h; exact ⟨rfl, rfl⟩
theorem isN_to {σ : St} {H : Hp} {Q : VK} (h : tE G W (e1 pIsN ca) σ H Q) : tIsN (tE G W ca) σ H Q := by
  obtain ⟨F, ρ, s, E, at_, o⟩ := h
  refine ⟨F, ρ, s, E, at_, (Out.bind (R := RepV G) o).mono ?_⟩
  rintro x H1 ⟨ρ1, s1, v1, g1, l1, x1, o1⟩
  rw [(non_iff x1).1] at o1
  exact Out.ret (R := RepV G) (b := .bl (decide (x = .non))) o1 l1 (by simp [RepV, RepD])
theorem notN_to {σ : St} {H : Hp} {Q : VK} (h : tE G W (e1 pNotN ca) σ H Q) : tNotN (tE G W ca) σ H Q := by
  obtain ⟨F, ρ, s, E, at_, o⟩ := h
  refine ⟨F, ρ, s, E, at_, (Out.bind (R := RepV G) o).mono ?_⟩
  rintro x H1 ⟨ρ1, s1, v1, g1, l1, x1, o1⟩
  rw [(non_iff x1).2] at o1
  exact Out.ret (R := RepV G) (b := .bl (!decide (x = .non))) o1 l1 (by simp [RepV, RepD])
theorem se_isN {j : Nat} {p' : Pos} (ha : SE G W X ca a) : SE G W X (e1 pIsN ca) (.Compare a [.Is] [.Constant .none j p'] pos) := PE.imp (pe_cmp (pc_isN ha)) fun σ H Q h => isN_to h
theorem se_notN {j : Nat} {p' : Pos} (ha : SE G W X ca a) : SE G W X (e1 pNotN ca) (.Compare a [.IsNot] [.Constant .none j p'] pos) := PE.imp (pe_cmp (pc_notN ha)) fun σ H Q h => notN_to h
theorem st_isN {j : Nat} {p' : Pos} (ha : SE G W X ca a) : ST G W X (bb (e1 pIsN ca)) (.Compare a [.Is] [.Constant .none j p'] pos) := PT.imp (pt_cmp (pc_isN ha)) fun σ H Q h => isN_to (bb_to h)
theorem st_notN {j : Nat} {p' : Pos} (ha : SE G W X ca a) : ST G W X (bb (e1 pNotN ca)) (.Compare a [.IsNot] [.Constant .none j p'] pos) := PT.imp (pt_cmp (pc_notN ha)) fun σ H Q h => notN_to (bb_to h)

/-! ### isinstance -/
def tyN : Ty → String | .int => "int" | .bool => "bool" | .str => "str" | .tuple => "tuple" | .list => "list" | .dict => "dict" | .none => "NoneType"
theorem kitT (t : Ty) : ∀ b : Ty, b ≠ .none → kitB (tyN t) (tyN b) = some (isT [b] t) := by
  cases t <;> intro b hb <;> cases b <;> first | (exact absurd rfl hb) | decide +kernel
theorem ty_of {F : Addr → Prop} {ρ : List Addr} {H : Hp} {s : Store} {v : Val} {x : V} {t : Ty} (hK : X.K = G.K) (l : Rel G F ρ s H) (h : RepV G ρ (Mu ρ s F) H v x) (e : tyOf v s = some t) : TyX X.K H x (.type (tyN t)) := by
  cases v with
  | d z =>
    simp only [tyOf, Option.some.injEq] at e
    subst e
    cases z with
    | non => simp only [RepV, RepD] at h; subst h; exact .base .non
    | bl b => simp only [RepV, RepD] at h; subst h; exact .base (.bl _)
    | int b => simp only [RepV, RepD] at h; subst h; exact .base (.int _)
    | str b => simp only [RepV, RepD] at h; subst h; exact .base (.str _)
    | tup b =>
      simp only [RepV, RepD] at h; obtain ⟨a, xs, rfl, q, _⟩ := h
      rcases q with (q | ⟨o, q⟩) | ⟨o, its, n, q, c, _⟩
      · exact .base (.tup q)
      · exact .fTuple q
      · rw [hK]; exact .kTuple q c
    | lst b => simp only [RepV, RepD] at h; obtain ⟨a, xs, rfl, _, q, _⟩ := h; exact .base (.lst q)
    | dct b => simp only [RepV, RepD] at h; obtain ⟨a, xs, rfl, _, q, _⟩ := h; exact .base (.dK q)
    | scr b =>
      simp only [RepV, RepD] at h; obtain ⟨a, rfl, q, _⟩ := h
      rcases q with ⟨o, q⟩ | ((q | ⟨_, q⟩) | ⟨o, its, n, q, c, _⟩)
      · exact .base (.frz q)
      · cases q
      · cases q
      · rw [hK]; exact .kList q c
  | loc n =>
    obtain ⟨a, ha, rfl⟩ := h
    simp only [tyOf] at e
    cases ho : s[n]? with
    | none => rw [ho] at e; cases e
    | some o =>
      rw [ho] at e
      have q := l.ob n o a ho ha
      cases o with
      | lst ds => cases e; obtain ⟨xs, hx, _⟩ := q; exact .base (.lst hx)
      | lv ds => cases e; obtain ⟨xs, hx, _⟩ := q; exact .base (.lst hx)
      | dct ds => cases e; obtain ⟨xs, hx, _⟩ := q; exact .base (.dK hx)
      | _ => cases e
  | exn _ _ => simp [tyOf] at e
theorem se_isi1 {t : Ty} {nm : Str} {p2 : Pos} (hK : X.K = G.K) (hm : X.mg "isinstance" = none) (hmt : X.mg nm = none) (hv : bootBuiltins nm = some (.type (tyN t))) (hne : t ≠ .none) (ha : SE G W X ca a) (hg : Gl X "isinstance" := by rfl) (hgt : Gl X nm := by rfl)
    (hn : nm ≠ "__name__" := by decide +kernel) (hdb : (nm == ("__debug__" : Str)) = false := by decide +kernel)
    (hs : starEach [a, .Name nm p2] X.env = (false, eval a X.env) :: starEach [.Name nm p2] X.env := by rfl) (hs2 : starEach [.Name nm p2] X.env = (false, eval (.Name nm p2) X.env) :: starEach [] X.env := by rfl)
    (hpl : (backTo pos (starEach [.Name nm p2] X.env)).any (·.1) = false := by rfl) : SE G W X (e1 (pIsi [t]) ca) (.Call (.Name "isinstance" pp) [a, .Name nm p2] [] pos) :=
  PE.imp (pe_callB call_isi hg hm (by decide +kernel) (pa_cons ha (pa_cons (pe_bltn (v := .ty (tyN t)) hgt hmt hv rfl hn hdb) pa_nil hs2) hs) (by decide +kernel) (by decide +kernel) hs hpl) fun σ H Q ⟨F, ρ, s, E, at_, o⟩ => by
    refine ⟨F, ρ, s, E, at_, (Out.bind (R := RepV G) o).mono ?_⟩
    rintro x H1 ⟨ρ1, s1, v1, g1, l1, x1, o1⟩
    unfold pIsi at o1
    cases e : tyOf v1 s1 with
    | none => rw [e] at o1; exact o1.elim
    | some t' =>
      rw [e] at o1
      exact ⟨x, .ty (tyN t), _, _, _, rfl, .ty _, ty_of hK l1 x1 e, kit_ty (kitT t' t hne), Out.ret (R := RepV G) o1 l1 (by simp [RepV, RepD])⟩
theorem se_isi2 {t t2 : Ty} {nm nm2 : Str} {p2 p3 p4 : Pos} {kt} (hK : X.K = G.K) (hm : X.mg "isinstance" = none) (hmt : X.mg nm = none) (hmt2 : X.mg nm2 = none) (hv : bootBuiltins nm = some (.type (tyN t))) (hv2 : bootBuiltins nm2 = some (.type (tyN t2))) (hne : t ≠ .none) (hne2 : t2 ≠ .none) (ha : SE G W X ca a)
    (hg : Gl X "isinstance" := by rfl) (hgt : Gl X nm := by rfl) (hgt2 : Gl X nm2 := by rfl) (hn : nm ≠ "__name__" := by decide +kernel) (hdb : (nm == ("__debug__" : Str)) = false := by decide +kernel) (hn2 : nm2 ≠ "__name__" := by decide +kernel) (hdb2 : (nm2 == ("__debug__" : Str)) = false := by decide +kernel)
    (hs : starEach [a, .Tuple [.Name nm p2, .Name nm2 p3] kt p4] X.env = (false, eval a X.env) :: starEach [.Tuple [.Name nm p2, .Name nm2 p3] kt p4] X.env := by rfl) (hs2 : starEach [.Tuple [.Name nm p2, .Name nm2 p3] kt p4] X.env = (false, eval (.Tuple [.Name nm p2, .Name nm2 p3] kt p4) X.env) :: starEach [] X.env := by rfl)
    (hpl : (backTo pos (starEach [.Tuple [.Name nm p2, .Name nm2 p3] kt p4] X.env)).any (·.1) = false := by rfl)
    (hs3 : starEach [.Name nm p2, .Name nm2 p3] X.env = (false, eval (.Name nm p2) X.env) :: starEach [.Name nm2 p3] X.env := by rfl) (hs4 : starEach [.Name nm2 p3] X.env = (false, eval (.Name nm2 p3) X.env) :: starEach [] X.env := by rfl) :
    SE G W X (e1 (pIsi [t, t2]) ca) (.Call (.Name "isinstance" pp) [a, .Tuple [.Name nm p2, .Name nm2 p3] kt p4] [] pos) :=
  PE.imp (pe_callB call_isiT hg hm (by decide +kernel) (pa_cons ha (pa_cons (pe_tup (pa_cons (pe_bltn (v := .ty (tyN t)) hgt hmt hv rfl hn hdb) (pa_cons (pe_bltn (v := .ty (tyN t2)) hgt2 hmt2 hv2 rfl hn2 hdb2) pa_nil hs4) hs3)) pa_nil hs2) hs) (by decide +kernel) (by decide +kernel) hs hpl) fun σ H Q ⟨F, ρ, s, E, at_, o⟩ => by
    refine ⟨F, ρ, s, E, at_, (Out.bind (R := RepV G) o).mono ?_⟩
    rintro x H1 ⟨ρ1, s1, v1, g1, l1, x1, o1⟩
    refine ⟨by show 2 ≤ sizeLine; rw [sizeLine_eq]; decide, fun p n => ?_⟩
    unfold pIsi at o1
    have g : Go ρ1 s1 H1 ρ1 s1 (upd H1 p (.tup [.ty (tyN t), .ty (tyN t2)])) := go_new n
    have l2 := l1.new (o := .tup [.ty (tyN t), .ty (tyN t2)]) n
    cases e : tyOf v1 s1 with
    | none => rw [e] at o1; exact o1.elim
    | some t' =>
      rw [e] at o1
      refine ⟨x, p, _, .type (tyN t'), [.type (tyN t), .type (tyN t2)], isT [t, t2] t', rfl, upd_same, .cons (.ty _) (.cons (.ty _) .nil), ty_of hK l2 (l1.val g x1) e, ?_, o1 _ _ _ g l2 (by simp [RepV, RepD])⟩
      have f : ∀ b : Bool, (if b then some true else some false) = some b := fun b => by cases b <;> rfl
      refine kitAny_cons (kit_ty (kitT t' t hne)) (fun h => kitAny_cons (kit_ty (kitT t' t2 hne2)) (fun h2 => ?_) (fun h2 => ?_)) (fun h => ?_)
      · have : isT [t, t2] t' = false := by
          simp only [isT, List.contains_cons, List.contains_nil, Bool.or_false] at h h2 ⊢
          revert h h2
          cases (t' == t) <;> cases (t' == t2) <;> cases (t' == Ty.bool) <;> cases (Ty.int == t) <;> cases (Ty.int == t2) <;> simp
        rw [this]; rfl
      · simp only [isT, List.contains_cons, List.contains_nil, Bool.or_false] at h2 ⊢
        revert h2
        cases (t' == t) <;> cases (t' == t2) <;> cases (t' == Ty.bool) <;> cases (Ty.int == t) <;> cases (Ty.int == t2) <;> simp
      · simp only [isT, List.contains_cons, List.contains_nil, Bool.or_false] at h ⊢
        revert h
        cases (t' == t) <;> cases (t' == t2) <;> cases (t' == Ty.bool) <;> cases (Ty.int == t) <;> cases (Ty.int == t2) <;> simp
end
end Ev
end
section
set_option Elab.async false
set_option linter.all false
set_option autoImplicit false
set_option maxRecDepth 100000
set_option maxHeartbeats 4000000
/-! Subscripts, slices, methods of lists, ranges as lists. -/
namespace Ev
open PySem L2

section
variable {G : Gd} {X : Cx} {W : WX} {a b c : Expr} {ca cb cc : EC} {pos pp : Pos}

theorem RepF.look {κ : Type} [DecidableEq κ] {ρ : List Addr} {M : Addr → Prop} {H : Hp} (q : κ) : ∀ {ds : List (κ × Val)} {xs : List (κ × V)} {z : Val}, RepF G ρ M H ds xs → (ds.find? fun p => decide (p.1 = q)).map (·.2) = some z → ∃ y, valV xs q = some y ∧ RepV G ρ M H z y
  | [], [], _, _, e => by simp at e
  | p :: ds, p' :: xs, z, h, e => by
    by_cases c : p.1 = q
    · rw [List.find?_cons, decide_eq_true c] at e
      simp at e
      subst e
      exact ⟨p'.2, valV_pos (by rw [← h.1.1, c]), h.1.2⟩
    · rw [List.find?_cons, decide_eq_false c] at e
      obtain ⟨y, h1, h2⟩ := RepF.look q h.2 e
      exact ⟨y, by rw [valV_neg (by rw [← h.1.1]; exact c)]; exact h1, h2⟩
  | [], _ :: _, _, h, _ => h.elim
  | _ :: _, [], _, h, _ => h.elim
theorem RepF.any {κ : Type} [DecidableEq κ] {ρ : List Addr} {M : Addr → Prop} {H : Hp} (q : κ) : ∀ {ds : List (κ × Val)} {xs : List (κ × V)}, RepF G ρ M H ds xs → (ds.any fun p => decide (p.1 = q)) = xs.any fun p => decide (p.1 = q)
  | [], [], _ => rfl
  | p :: ds, p' :: xs, h => by rw [List.any_cons, List.any_cons, RepF.any q h.2, h.1.1]
  | [], _ :: _, h => h.elim
  | _ :: _, [], h => h.elim
theorem RepF.append {κ : Type} {ρ : List Addr} {M : Addr → Prop} {H : Hp} : ∀ {ds es : List (κ × Val)} {xs ys : List (κ × V)}, RepF G ρ M H ds xs → RepF G ρ M H es ys → RepF G ρ M H (ds ++ es) (xs ++ ys)
  | [], _, [], _, _, h => h
  | _ :: _, _, _ :: _, _, h, h' => ⟨h.1, RepF.append h.2 h'⟩
  | [], _, _ :: _, _, h, _ => h.elim
  | _ :: _, _, [], _, h, _ => h.elim
theorem RepF.map {κ : Type} [DecidableEq κ] {ρ : List Addr} {M : Addr → Prop} {H : Hp} (q : κ) {z : Val} {y : V} (r : RepV G ρ M H z y) : ∀ {ds : List (κ × Val)} {xs : List (κ × V)}, RepF G ρ M H ds xs →
    RepF G ρ M H (ds.map fun p => if p.1 = q then (p.1, z) else p) (xs.map fun p => if p.1 = q then (p.1, y) else p)
  | [], [], _ => trivial
  | p :: ds, p' :: xs, h => by
    refine ⟨?_, RepF.map q r h.2⟩
    by_cases c : p.1 = q
    · simp only [if_pos c, if_pos (show p'.1 = q by rw [← h.1.1]; exact c)]; exact ⟨h.1.1, r⟩
    · simp only [if_neg c, if_neg (show ¬ p'.1 = q by rw [← h.1.1]; exact c)]; exact h.1
  | [], _ :: _, h => h.elim
  | _ :: _, [], h => h.elim
theorem RepF.put {ρ : List Addr} {M : Addr → Prop} {H : Hp} (q : Key) {z : Val} {y : V} (r : RepV G ρ M H z y) {ds : List (Key × Val)} {xs : List (Key × V)} (h : RepF G ρ M H ds xs) : RepF G ρ M H (putK ds q z) (L2.putK xs q y) := by
  unfold putK L2.putK
  rw [RepF.any q h]
  split
  · exact RepF.map q r h
  · exact RepF.append h ⟨⟨rfl, r⟩, trivial⟩
theorem key_of' {F : Addr → Prop} {ρ : List Addr} {H : Hp} {s : Store} {v : Val} {x : V} {q : Key} (h : RepV G ρ (Mu ρ s F) H v x) (e : keyOf v = some q) : x = kV q := by
  unfold keyOf at e
  split at e
  · cases e; simpa [RepV, RepD, kV] using h
  · cases e; simpa [RepV, RepD, kV] using h
  · cases e

/-! ### o[i] -/
theorem ixp (hK : X.K = G.K) (hu : X.A.units + 64 < cLine) : IxR X (rP G pIx) := by
  intro value slice pins s σ H x y v u Q I rx ry ⟨F, ρ, st, Z, v1, v2, l, x1, x2, o⟩ hs
  have onL : ∀ {p : Addr} {xs : List V} {ds : List D} {i : Int} {z : D}, x = .ref p → y = .int i → (SqL X.K H p xs ∨ SqT X.K H p xs) → RepDs G.K (Mu ρ st F) H ds xs → (ixN ds.length i).bind (ds[·]?) = some z → Out G F ρ st H Z (RepV G) (.ok (.d z) st) Q →
      wpAny (model X.prog X.w) X.A (PyProof.Rows.subscriptTail value slice v u) (EP X pins σ Q) X.xe s := fun {p xs ds i z} ex ey hq rr e o => by
    cases hj : ixN ds.length i with
    | none => rw [hj] at e; cases e
    | some j =>
      rw [hj] at e
      obtain ⟨w, hw, rw'⟩ := rr.get (show ds[j]? = some z from e)
      have ha : atI xs i = some w := by
        show (L2.ixN xs.length i).bind (fun j => xs[j]?) = some w
        have : L2.ixN xs.length i = some j := by rw [← rr.len]; exact hj
        rw [this]; exact hw
      rcases hq with hq | hq
      · exact ix_list value slice pins s σ H x y v u Q I rx ry ⟨p, xs, i, w, ex, ey, hq, ha, Out.ret (R := RepV G) o l rw'⟩ hs
      · exact ix_tup value slice pins s σ H x y v u Q I rx ry ⟨p, xs, i, w, ex, ey, hq, ha, Out.ret (R := RepV G) o l rw'⟩ hs
  unfold pIx at o
  split at o
  · rename_i ds i
    split at o
    · rename_i z e
      obtain ⟨p, xs, ex, hq, _, rr⟩ := peek_T x1 (ds := ds) rfl
      exact onL ex (int_of x2) (.inr (by rw [hK]; exact hq)) rr e o
    · exact o.elim
  · rename_i ds i
    split at o
    · rename_i z e
      obtain ⟨p, xs, ex, hq, _, rr⟩ := peek_L l x1 (ds := ds) rfl
      exact onL ex (int_of x2) (.inl (.inl (.inl hq))) rr e o
    · exact o.elim
  · rename_i n
    obtain ⟨p, hp, ex⟩ := x1
    split at o
    · rename_i ds ho
      obtain ⟨xs, hx, _, rr⟩ := l.ob n _ p ho hp
      split at o
      · rename_i i
        split at o
        · rename_i z e
          exact onL ex (int_of x2) (.inl (.inl (.inl hx))) rr e o
        · exact o.elim
      · exact o.elim
    · rename_i ds ho
      obtain ⟨xs, hx, _, rr⟩ := l.ob n _ p ho hp
      split at o
      · rename_i i
        split at o
        · rename_i z e
          cases hj : ixN ds.length i with
          | none => rw [hj] at e; cases e
          | some j =>
            rw [hj] at e
            obtain ⟨w, hw, rw'⟩ := rr.get (show ds[j]? = some z from e)
            have ha : atI xs i = some w := by
              show (L2.ixN xs.length i).bind (fun j => xs[j]?) = some w
              have : L2.ixN xs.length i = some j := by rw [← rr.len]; exact hj
              rw [this]; exact hw
            exact ix_list value slice pins s σ H x y v u Q I rx ry ⟨p, xs, i, w, ex, int_of x2, .inl (.inl hx), ha, Out.ret (R := RepV G) o l rw'⟩ hs
        · exact o.elim
      · exact o.elim
    · rename_i kvs ho
      obtain ⟨ks, hk, _, rr⟩ := l.ob n _ p ho hp
      split at o
      · rename_i z e
        cases hq : keyOf v2 with
        | none => rw [hq] at e; cases e
        | some q =>
          rw [hq] at e
          obtain ⟨w, hw, rw'⟩ := RepF.look q rr (show (kvs.find? fun p => decide (p.1 = q)).map (·.2) = some z from e)
          have ey := key_of' x2 hq
          subst ex ey
          cases rx
          have g : DGet H p (kV q) (some w) := by rw [← hw]; exact DGet.k hk
          refine PyProof.Rows.tail_any (dict_typeIs I g) PySem.F.slot_dict_getitem.lookup (d_getItem (by omega) I g ry fun w' s3 I3 r3 => ?_) hs
          exact ⟨w, H, I3, r3, Out.ret (R := RepV G) o l rw'⟩
      · exact o.elim
    · exact o.elim
  · exact o.elim
theorem se_ix (hK : X.K = G.K) (hu : X.A.units + 64 < cLine) (ha : SE G W X ca a) (hb : SE G W X cb b) (hs : PlainIx b := by exact fun _ _ => rfl) : SE G W X (e2 pIx ca cb) (.Subscript a b pos) :=
  PE.imp (pe_ix (ixp hK hu) ha hb hs) fun σ H Q h => op_to (f := fun _ _ => pure .none) h

/-! ### slices -/
abbrev rI : RR (Option Int) (Option Int) := fun _ _ _ a b => a = b
def tO (G : Gd) (W : WX) (c : PC) : TO := fun σ H Q => ∃ F ρ s E, At G F ρ s H E σ ∧ Out G F ρ s H (fun C d H' => W C d σ H') rI (c E s) Q
abbrev SO (G : Gd) (W : WX) (X : Cx) (c : PC) (e : Option Expr) : Prop := PO X e (tO G W c)
theorem so_n : SO G W X pn none := ⟨fun pins s σ H Q I ⟨F, ρ, st, E, at_, o⟩ => po_none.run pins s σ H Q I (Out.ret (R := rI) (b := none) o at_.rel rfl)⟩
theorem so_s (ha : SE G W X ca a) : SO G W X (ps ca) (some a) := ⟨fun pins s σ H Q I ⟨F, ρ, st, E, at_, o⟩ => (po_some ha).run pins s σ H Q I (by
  refine ⟨F, ρ, st, E, at_, (Out.bind (R := RepV G) o).mono ?_⟩
  rintro x H1 ⟨ρ1, s1, v1, g1, l1, x1, o1⟩
  split at o1
  · rename_i i
    exact ⟨i, int_of x1, Out.ret (R := rI) o1 l1 rfl⟩
  · exact o1.elim)⟩
theorem whole_tup {prog : Program} {w : World} {A : Around} {E : Value → Shared → Prop} {s : Shared} {t sl : Addr} {items : Array Value} {vl vu : Value} {lo hi : Option Int} {Q : Value → Shared → Prop} (ht : PyProof.Rows.IsTup s.heap t items) (hs : s.heap.IsSliceOf sl vl vu .none) (pl : IsPart vl lo) (pu : IsPart vu hi)
    (hw : HT.sIx items.size 0 lo = 0 ∧ HT.sIx items.size items.size hi = items.size)
    (h : Q (.ref t) s) : wpAny (model prog w) A (getItem (.ref t) (.ref sl)) Q E s := by
  obtain ⟨os, hos, hcs, hds⟩ := id hs
  have hTs : s.TypeIs (.ref sl) "slice" := ⟨os, hos, hcs⟩
  unfold getItem
  try with_reducible refine wpAny_holding ?_
  first | refine wpAny_bind (wpAny_pure ?_) | skip
  refine wpAny_bind (wpAny_sequenceKey ht.typeIs (by decide) ?_)
  refine wpAny_bind (wpAny_callSpecial?_slot (name := Str.ofString "__getitem__") ht.typeIs PyProof.Rows.slot_tuple_getitem
    (wpAny_call_entry PyProof.Rows.slot_tuple_getitem ht.typeIs PyProof.Rows.entry_tuple_getitem ?_ (PyProof.Rows.args_tuple_getitem _ _)))
  show wpAny _ _ (Builtin.Tuple.tupleItemsOf (.ref t) >>= _) _ _ s
  refine wpAny_bind (PyProof.Rows.tupleItemsOf_ ht ?_)
  refine wpAny_bind (wpAny_typeOf hTs ?_)
  rw [if_pos (by decide)]
  refine wpAny_bind (HT.sliceApplied_gen hs pl pu ?_)
  have hyes : (((HT.sIx items.size 0 lo : Nat) : Int) == 0 && (1 : Int) == 1 && (HT.sIx items.size items.size hi - HT.sIx items.size 0 lo) == items.size) = true := by
    rw [hw.1, hw.2]; simp
  show wpAny _ _ (if (((HT.sIx items.size 0 lo : Nat) : Int) == 0 && (1 : Int) == 1 && (HT.sIx items.size items.size hi - HT.sIx items.size 0 lo) == items.size) = true then _ else _) _ _ s
  rw [if_pos hyes]
  refine wpAny_bind (m := Builtin.Tuple.tupleIsExact _) ?_
  unfold Builtin.Tuple.tupleIsExact
  refine wpAny_bind (wpAny_typeOf ht.typeIs (wpAny_pure ?_))
  rw [if_pos (by decide)]
  exact wpAny_bind (wpAny_rule (wpAny_pure ⟨_, rfl, wpAny_pure h⟩))
theorem cut_whole {A : Type} {xs : List A} {lo hi : Option Int} (h : sIx xs.length 0 lo = 0 ∧ sIx xs.length xs.length hi = xs.length) : cut xs lo hi = xs := by
  unfold cut; rw [h.1, h.2]; simp
theorem RepDs.cut {H : Hp} {K : PySem.W.Frag} {M : Addr → Prop} {ds : List D} {xs : List V} (r : RepDs K M H ds xs) (lo hi : Option Int) : RepDs K M H (Ev.cut ds lo hi) (cutV xs lo hi) := by
  show RepDs K M H ((ds.drop (sIx ds.length 0 lo)).take _) ((xs.drop (sIx xs.length 0 lo)).take (sIx xs.length xs.length hi - sIx xs.length 0 lo))
  rw [r.len]
  exact (r.drop _).take _
theorem cut_len {A : Type} (xs : List A) (lo hi : Option Int) : (cut xs lo hi).length ≤ xs.length := by
  unfold cut; rw [List.length_take, List.length_drop]; omega
def rPS (G : Gd) : V → Option Int → Option Int → Hp → VK → Prop := fun x lo hi H Q => ∃ F ρ s Z v1, Rel G F ρ s H ∧ RepV G ρ (Mu ρ s F) H v1 x ∧ Out G F ρ s H Z (RepV G) (pSl v1 lo hi s) Q
theorem slp (hK : X.K = G.K) : SlR X (rPS G) := by
  intro pins s σ H x v vl vu lo hi sl Q I rx hs pl pu ⟨F, ρ, st, Z, v1, l, x1, o⟩
  unfold pSl at o
  split at o
  · rename_i ds e
    obtain ⟨p, xs, rfl, hq, z, rr⟩ := peek_T x1 e
    by_cases hw : sIx xs.length 0 lo = 0 ∧ sIx xs.length xs.length hi = xs.length
    · cases rx
      obtain ⟨its, r, ht, hz⟩ := I.tuple (by rw [hK]; exact hq)
      refine ⟨"tuple", _, PyProof.Rows.slot_tuple_getitem.lookup, ht.typeIs, whole_tup ht hs pl pu ?_ ?_⟩
      · rw [List.size_toArray, ← r.length]; exact hw
      · rw [cut_whole (by rw [rr.len]; exact hw)] at o
        exact ⟨.ref p, H, I, rfl, Out.ret (R := RepV G) o l (by simp only [RepV, RepD]; exact ⟨p, xs, rfl, hq, z, rr⟩)⟩
    · exact sl_tup pins s σ H _ v vl vu lo hi sl Q I rx hs pl pu ⟨p, xs, rfl, by rw [hK]; exact hq, hw, Out.newT o l (Nat.le_trans (cut_len _ _ _) z) (rr.cut lo hi)⟩
  · rename_i ds e
    obtain ⟨p, xs, rfl, hq, z, rr⟩ := peek_L l x1 e
    exact sl_list pins s σ H _ v vl vu lo hi sl Q I rx hs pl pu ⟨p, xs, rfl, .inl (.inl hq), Out.newL o l (Nat.le_trans (cut_len _ _ _) z) (rr.cut lo hi)⟩
  · exact o.elim
theorem se_sl {lo hi : Option Expr} {cl ch : PC} {p2 : Pos} (hK : X.K = G.K) (ha : SE G W X ca a) (hl : SO G W X cl lo) (hh : SO G W X ch hi) : SE G W X (sl ca cl ch) (.Subscript a (.Slice lo hi none p2) pos) :=
  PE.imp (pe_slice (slp hK) ha hl hh) fun σ H Q ⟨F, ρ, s, E, at_, o⟩ => by
    refine ⟨F, ρ, s, E, at_, (Out.bind (R := RepV G) o).mono ?_⟩
    rintro x H1 ⟨ρ1, s1, v1, g1, l1, x1, o1⟩
    refine ⟨F, ρ1, s1, E, at_.go g1 l1, (Out.bind (R := rI) o1).mono ?_⟩
    rintro y H2 ⟨ρ2, s2, v2, g2, l2, rfl, o2⟩
    refine ⟨F, ρ2, s2, E, (at_.go g1 l1).go g2 l2, (Out.bind (R := rI) o2).mono ?_⟩
    rintro y H3 ⟨ρ3, s3, v3, g3, l3, rfl, o3⟩
    exact ⟨F, ρ3, s3, _, v1, l3, l2.val g3 (l1.val g2 x1), o3⟩
/-- xs[::-1] -/
theorem se_rev {kk : Nat} {p1 p2 p3 : Pos} (ha : SE G W X ca a) : SE G W X (e1 pRev ca) (.Subscript a (.Slice none none (some (.UnaryOp .USub (.Constant (.int 1) kk p1) p2)) p3) pos) :=
  PE.imp (pe_revL ha) fun σ H Q ⟨F, ρ, s, E, at_, o⟩ => by
    refine ⟨F, ρ, s, E, at_, (Out.bind (R := RepV G) o).mono ?_⟩
    rintro x H1 ⟨ρ1, s1, v1, g1, l1, x1, o1⟩
    unfold pRev at o1
    split at o1
    · rename_i ds e
      obtain ⟨p, xs, rfl, hq, z, rr⟩ := peek_L l1 x1 e
      exact ⟨p, xs, rfl, .inl (.inl hq), Out.newL o1 l1 (by rw [List.length_reverse]; exact z) rr.reverse⟩
    · exact o1.elim
def pRevA (x : Val) (s : Store) : Res Val := (pRev x s).bind alloc
theorem se_revA {kk : Nat} {p1 p2 p3 : Pos} (ha : SE G W X ca a) : SE G W X (e1 pRevA ca) (.Subscript a (.Slice none none (some (.UnaryOp .USub (.Constant (.int 1) kk p1) p2)) p3) pos) :=
  PE.imp (pe_revL ha) fun σ H Q ⟨F, ρ, s, E, at_, o⟩ => by
    refine ⟨F, ρ, s, E, at_, (Out.bind (R := RepV G) o).mono ?_⟩
    rintro x H1 ⟨ρ1, s1, v1, g1, l1, x1, o1⟩
    unfold pRevA pRev at o1
    split at o1
    · rename_i ds e
      obtain ⟨p, xs, rfl, hq, z, rr⟩ := peek_L l1 x1 e
      exact ⟨p, xs, rfl, .inl (.inl hq), Out.newA o1 l1 (by rw [List.length_reverse]; exact z) rr.reverse⟩
    · exact o1.elim

/-! ### methods of lists -/
theorem isL_ty {F : Addr → Prop} {ρ : List Addr} {H : Hp} {s : Store} {v : Val} {x : V} {K : PySem.W.Frag} (l : Rel G F ρ s H) (h : RepV G ρ (Mu ρ s F) H v x) (e : isL v s = true) : tyV K "list" x H := by
  cases v with
  | d z => simp [isL] at e
  | exn _ _ => simp [isL] at e
  | loc n =>
    obtain ⟨a, ha, rfl⟩ := h
    simp only [isL] at e
    cases ho : s[n]? with
    | none => rw [ho] at e; cases e
    | some o =>
      rw [ho] at e
      have q := l.ob n o a ho ha
      cases o with
      | lst ds => obtain ⟨xs, hx, _⟩ := q; exact .inl ⟨rfl, xs, .inl (.inl hx)⟩
      | lv ds => obtain ⟨xs, hx, _⟩ := q; exact .inl ⟨rfl, xs, .inl (.inl hx)⟩
      | _ => cases e
abbrev MtP2 (G : Gd) (X : Cx) (id : String) (p : Val → Val → Store → Res Val) : Prop := MtR X id (fun x xs H Q => ∃ y, xs = [y] ∧ rP G p x y H Q)
abbrev MtP1 (G : Gd) (X : Cx) (id : String) (p : Val → Store → Res Val) : Prop := MtR X id (fun x xs H Q => xs = [] ∧ rP1 G p x H Q)
theorem live_of {s : Store} {n : Nat} {o : Obj} (h : s[n]? = some o) (d : o ≠ .dead) : live s n := ⟨o, h, d⟩
theorem mp_app : MtP2 G X "list.append" pApp := by
  intro pins s σ H x xs v us Q I rx rs ⟨y, e, F, ρ, st, Z, v1, v2, l, x1, x2, o⟩
  subst e
  unfold pApp at o
  cases v1 with
  | loc n =>
    obtain ⟨p, hp, rfl⟩ := x1
    simp only at o
    split at o
    · rename_i ds ho
      obtain ⟨xs, hx, z, rr⟩ := l.ob n _ p ho hp
      split at o
      · rename_i w
        by_cases hl : ds.length < line
        · rw [if_pos hl] at o
          have lv := live_of ho (by simp)
          refine mt_append pins s σ H _ _ v us Q I rx rs ⟨p, xs, y, rfl, rfl, hx, by rw [← rr.len, line_eq]; exact hl, ?_⟩
          refine o _ _ _ (go_set hp lv ⟨_, hx⟩) (l.set hp lv fun M' t => ⟨_, upd_same, by rw [List.length_append, List.length_singleton, line_eq]; exact hl, ?_⟩) (by simp [RepV, RepD])
          exact (RepDs.still t _ _ rr).append (by simp only [RepDs]; exact ⟨RepD.still t _ _ x2, trivial⟩)
        · rw [if_neg hl] at o; exact o.elim
      · exact o.elim
    · exact o.elim
  | _ => exact o.elim
theorem mp_pop : MtP1 G X "list.pop" pPop := by
  intro pins s σ H x xs v us Q I rx rs ⟨e, F, ρ, st, Z, v1, l, x1, o⟩
  subst e
  unfold pPop at o
  cases v1 with
  | loc n =>
    obtain ⟨p, hp, rfl⟩ := x1
    simp only at o
    split at o
    · rename_i ds ho
      obtain ⟨xs, hx, z, rr⟩ := l.ob n _ p ho hp
      split at o
      · rename_i w hw
        have lv := live_of ho (by simp)
        rw [List.getLast?_eq_getElem?] at hw
        obtain ⟨y, hy, ry⟩ := rr.get hw
        refine mt_pop pins s σ H _ _ v us Q I rx rs ⟨p, xs, y, rfl, rfl, hx, by rw [← rr.len]; exact hy, ?_⟩
        have g := go_set (s := st) (o := .lst ds.dropLast) (u := .lst xs.dropLast) hp lv ⟨_, hx⟩
        exact o _ _ _ g (l.set hp lv fun M' t => ⟨_, upd_same, by rw [List.length_dropLast]; omega, (RepDs.still t _ _ rr).dropLast⟩) (l.val g (show RepV G ρ (Mu ρ st F) H (.d w) y from ry))
      · exact o.elim
    · exact o.elim
  | _ => exact o.elim
theorem ixN_seq' {n : Nat} {i : Int} {j : Nat} (h : ixN n i = some j) : seqIndex? i n = some j ∧ j < n ∧ -(n : Int) ≤ i ∧ i < n := ixN_seq h
theorem mp_popAt : MtP2 G X "list.pop" pPopAt := by
  intro pins s σ H x xs v us Q I rx rs ⟨y, e, F, ρ, st, Z, v1, v2, l, x1, x2, o⟩
  subst e
  unfold pPopAt at o
  split at o
  · rename_i n i
    obtain ⟨p, hp, rfl⟩ := x1
    obtain rfl := int_of x2
    split at o
    · rename_i ds ho
      obtain ⟨xs, hx, z, rr⟩ := l.ob n _ p ho hp
      split at o
      · rename_i j hj
        split at o
        · rename_i w hw
          have lv := live_of ho (by simp)
          obtain ⟨y, hy, ry⟩ := rr.get hw
          obtain ⟨h1, h2, h3, h4⟩ := ixN_seq' hj
          have hz : ds.length ≤ 16777216 := by rw [sizeLine_eq] at z; exact z
          refine mt_popAt pins s σ H _ _ v us Q I rx rs ⟨p, xs, i, j, y, rfl, rfl, hx, by omega, by omega, by rw [← rr.len]; exact h1, hy, ?_⟩
          have g := go_set (s := st) (o := .lst (ds.eraseIdx j)) (u := .lst (xs.eraseIdx j)) hp lv ⟨_, hx⟩
          exact o _ _ _ g (l.set hp lv fun M' t => ⟨_, upd_same, by rw [List.length_eraseIdx]; split <;> omega, (RepDs.still t _ _ rr).eraseIdx j⟩) (l.val g (show RepV G ρ (Mu ρ st F) H (.d w) y from ry))
        · exact o.elim
      · exact o.elim
    · exact o.elim
  · exact o.elim
/-- x.m(y) -/
theorem se_m1 {name : Str} {id : String} {p : Val → Val → Store → Res Val} {apos : Pos} (slot : PySem.Slot "list" name id) (hty : typeOf (.builtin id) = pure (.type "method_descriptor")) (hm : MtP2 G X id p) (ha : SE G W X ca a) (hb : SE G W X cb b)
    (hbase : attributeBase a name X.env (eval a X.env) = eval a X.env := by rfl)
    (hfew : ((backTo pos (starEach [b] X.env)).all (fun x => !x.1) && (backToKw pos (keywordEach [] X.env)).all (fun x => x.1.isSome)
      && decide (([b] : List Expr).length + ([] : List Keyword).length + (if ([] : List Keyword).isEmpty then 0 else 1) < 30)) = true := by rfl)
    (hline : (apos.endLine == pos.line) = true := by rfl) (hs : starEach [b] X.env = (false, eval b X.env) :: starEach [] X.env := by rfl) :
    SE G W X (m1 p ca cb) (.Call (.Attribute a name apos) [b] [] pos) :=
  PE.imp (pe_bm PySem.F.plainAttrs_list slot hty hm ha (pa_cons hb pa_nil hs) hbase hfew hline hs rfl) fun σ H Q ⟨F, ρ, s, E, at_, o⟩ => by
    refine ⟨F, ρ, s, E, at_, (Out.bind (R := RepV G) o).mono ?_⟩
    rintro x H1 ⟨ρ1, s1, v1, g1, l1, x1, o1⟩
    by_cases c : isL v1 s1 = true
    · simp only [if_pos c] at o1
      refine ⟨isL_ty l1 x1 c, F, ρ1, s1, E, at_.go g1 l1, (Out.bind (R := RepV G) o1).mono ?_⟩
      rintro y H2 ⟨ρ2, s2, v2, g2, l2, x2, o2⟩
      exact ⟨y, rfl, F, ρ2, s2, _, v1, v2, l2, l1.val g2 x1, x2, o2⟩
    · simp only [if_neg c] at o1; exact o1.elim
/-- x.m() -/
def m0 (p : Val → Store → Res Val) (a : EC) : EC := fun E s => (a E s).bind fun x s => if isL x s then p x s else .fail
theorem se_m0 {name : Str} {id : String} {p : Val → Store → Res Val} {apos : Pos} (slot : PySem.Slot "list" name id) (hty : typeOf (.builtin id) = pure (.type "method_descriptor")) (hm : MtP1 G X id p) (ha : SE G W X ca a)
    (hbase : attributeBase a name X.env (eval a X.env) = eval a X.env := by rfl) (hline : (apos.endLine == pos.line) = true := by rfl) : SE G W X (m0 p ca) (.Call (.Attribute a name apos) [] [] pos) :=
  PE.imp (pe_bm0 PySem.F.plainAttrs_list slot hty hm ha hbase hline) fun σ H Q ⟨F, ρ, s, E, at_, o⟩ => by
    refine ⟨F, ρ, s, E, at_, (Out.bind (R := RepV G) o).mono ?_⟩
    rintro x H1 ⟨ρ1, s1, v1, g1, l1, x1, o1⟩
    by_cases c : isL v1 s1 = true
    · simp only [if_pos c] at o1
      exact ⟨isL_ty l1 x1 c, rfl, F, ρ1, s1, _, v1, l1, x1, o1⟩
    · simp only [if_neg c] at o1; exact o1.elim

/-! ### list(range(..)) -/
theorem reps_rng {K : PySem.W.Frag} {M : Addr → Prop} {H : Hp} (lo hi : Int) : RepDs K M H (rng lo hi) (rgV lo hi) := by
  unfold rng rgV
  generalize List.range (hi - lo).toNat = l
  induction l with
  | nil => simp [RepDs]
  | cons x l ih => simp only [List.map_cons, RepDs, RepD]; exact ⟨trivial, ih⟩
theorem rng_len (lo hi : Int) : (rng lo hi).length = (hi - lo).toNat := by simp [rng]
theorem small_iff {i : Int} : small i = true ↔ -(2 ^ 62) ≤ i ∧ i < 2 ^ 62 := by simp [small]
theorem se_lrng1 {p1 p2 : Pos} (hc : X.calm = true) (hm : X.mg "list" = none) (hm2 : X.mg "range" = none) (ha : SE G W X ca a) (hg : Gl X "list" := by rfl) (hg2 : Gl X "range" := by rfl)
    (hs : starEach [a] X.env = (false, eval a X.env) :: starEach [] X.env := by rfl) (hs2 : starEach [.Call (.Name "range" p1) [a] [] p2] X.env = (false, eval (.Call (.Name "range" p1) [a] [] p2) X.env) :: starEach [] X.env := by rfl) :
    SE G W X (e1 pLRng1 ca) (.Call (.Name "list" pp) [.Call (.Name "range" p1) [a] [] p2] [] pos) :=
  PE.imp (pe_listRg hc hg hm (prg_1 hg2 hm2 ha hs) hs2) fun σ H Q ⟨F, ρ, s, E, at_, o⟩ => by
    refine ⟨F, ρ, s, E, at_, (Out.bind (R := RepV G) o).mono ?_⟩
    rintro x H1 ⟨ρ1, s1, v1, g1, l1, x1, o1⟩
    unfold pLRng1 at o1
    split at o1
    · rename_i j
      by_cases c : (small j && decide (j.toNat ≤ line)) = true
      · rw [if_pos c] at o1
        simp only [Bool.and_eq_true, small_iff, decide_eq_true_eq] at c
        refine ⟨j, int_of x1, ⟨by omega, by omega, c.1.1, c.1.2, by simp only [line] at c; omega⟩, Out.newL o1 l1 (by rw [rng_len, line_eq]; simp only [line] at c ⊢; omega) (reps_rng _ _)⟩
      · rw [if_neg c] at o1; exact o1.elim
    · exact o1.elim
theorem se_lrng2 {p1 p2 : Pos} (hc : X.calm = true) (hm : X.mg "list" = none) (hm2 : X.mg "range" = none) (ha : SE G W X ca a) (hb : SE G W X cb b) (hg : Gl X "list" := by rfl) (hg2 : Gl X "range" := by rfl)
    (hs : starEach [a, b] X.env = (false, eval a X.env) :: starEach [b] X.env := by rfl) (hs3 : starEach [b] X.env = (false, eval b X.env) :: starEach [] X.env := by rfl) (hpl : (backTo p2 (starEach [b] X.env)).any (·.1) = false := by rfl)
    (hs2 : starEach [.Call (.Name "range" p1) [a, b] [] p2] X.env = (false, eval (.Call (.Name "range" p1) [a, b] [] p2) X.env) :: starEach [] X.env := by rfl) :
    SE G W X (e2 pLRng2 ca cb) (.Call (.Name "list" pp) [.Call (.Name "range" p1) [a, b] [] p2] [] pos) :=
  PE.imp (pe_listRg hc hg hm (prg_2 hg2 hm2 ha hb hs hs3 hpl) hs2) fun σ H Q ⟨F, ρ, s, E, at_, o⟩ => by
    refine ⟨F, ρ, s, E, at_, (Out.bind (R := RepV G) o).mono ?_⟩
    rintro x H1 ⟨ρ1, s1, v1, g1, l1, x1, o1⟩
    refine ⟨F, ρ1, s1, E, at_.go g1 l1, (Out.bind (R := RepV G) o1).mono ?_⟩
    rintro y H2 ⟨ρ2, s2, v2, g2, l2, x2, o2⟩
    unfold pLRng2 at o2
    split at o2
    · rename_i i j
      by_cases c : (small i && small j && decide ((j - i).toNat ≤ line)) = true
      · rw [if_pos c] at o2
        simp only [Bool.and_eq_true, small_iff, decide_eq_true_eq] at c
        exact ⟨i, j, int_of x1, int_of x2, ⟨c.1.1.1, c.1.1.2, c.1.2.1, c.1.2.2, by simp only [line] at c; omega⟩, Out.newL o2 l2 (by rw [rng_len, line_eq]; exact c.2) (reps_rng _ _)⟩
      · rw [if_neg c] at o2; exact o2.elim
    · exact o2.elim
end
end Ev
end
section
set_option Elab.async false
set_option linter.all false
set_option autoImplicit false
set_option maxRecDepth 100000
set_option maxHeartbeats 4000000
/-! What is walked, comprehensions, dict displays, statements, loops. -/
namespace Ev
open PySem L2

section
variable {G : Gd} {F F' : Addr → Prop} {ρ ρ' : List Addr} {s s' : Store} {H H' : Hp}
/-! ### what may not be changed, for a while -/
theorem still_sub {M M' : Addr → Prop} (h : ∀ a, M' a → M a) : Still M H M' H := ⟨fun a o e n => ⟨e, fun z => n (h a z)⟩, fun _ _ e => e, fun _ _ _ e => e, fun _ _ e => e⟩
theorem mu_sub (h : ∀ a, F a → F' a) : ∀ a, Mu ρ s F a → Mu ρ s F' a := fun a q => q.elim (fun z => .inl (h a z)) .inr
theorem Rel.sub (r : Rel G F' ρ s H) (h : ∀ a, F a → F' a) : Rel G F ρ s H :=
  ⟨r.len, r.nd, fun n a e l q => r.nf n a e l (h a q), r.tr, fun a q => r.ft a (h a q), fun n o a h1 h2 => RepO.still (still_sub (mu_sub h)) (fun _ _ e => e) (fun _ e => e) o (r.ob n o a h1 h2)⟩
abbrev FP (F : Addr → Prop) (p : Addr) : Addr → Prop := fun a => F a ∨ a = p
theorem Rel.guard (r : Rel G F ρ s H) {p : Addr} {o : HO} (n : H p = none) : Rel G (FP F p) ρ s (upd H p o) := by
  have r' := r.new (o := o) n
  have t : Still (Mu ρ s F) H (Mu ρ s (FP F p)) (upd H p o) := ⟨fun a u e z => ⟨by rw [upd_ne (ne_of_none e n)]; exact e, fun q => by
      rcases q with (q | q) | q
      · exact z (.inl q)
      · rw [q, n] at e; cases e
      · exact z (.inr q)⟩,
    fun a xs e => by rw [upd_ne (ne_of_none e n)]; exact e, fun a xs u e => by rw [upd_ne (ne_of_none e n)]; exact e, fun a xs e => by rw [upd_ne (ne_of_none e n)]; exact e⟩
  refine ⟨r'.len, r'.nd, fun m a e l q => ?_, r'.tr, fun a q => ?_, fun m u a h1 h2 => ?_⟩
  · rcases q with q | q
    · exact r'.nf m a e l q
    · subst q
      obtain ⟨w, hw⟩ := r.tr m _ e; rw [n] at hw; cases hw
  · rcases q with q | q
    · exact r'.ft a q
    · exact ⟨o, by rw [q]; exact upd_same⟩
  · refine RepO.still t (fun _ _ e => e) (fun w e => ?_) u (r.ob m u a h1 h2)
    rw [upd_ne (ne_of_none e n)]; exact e
theorem guard_still (r : Rel G F ρ s H) {p : Addr} {o : HO} (n : H p = none) : Still (Mu ρ s F) H (Mu ρ s (FP F p)) (upd H p o) :=
  ⟨fun a u e z => ⟨by rw [upd_ne (ne_of_none e n)]; exact e, fun q => by
      rcases q with (q | q) | q
      · exact z (.inl q)
      · rw [q, n] at e; cases e
      · exact z (.inr q)⟩,
    fun a xs e => by rw [upd_ne (ne_of_none e n)]; exact e, fun a xs u e => by rw [upd_ne (ne_of_none e n)]; exact e, fun a xs e => by rw [upd_ne (ne_of_none e n)]; exact e⟩
theorem At.guard {E : Env} {σ : St} (a : At G F ρ s H E σ) {p : Addr} {o : HO} (n : H p = none) : At G (FP F p) ρ s (upd H p o) E σ := by
  have t : Still (Mu ρ s F) H (Mu ρ s (FP F p)) (upd H p o) := ⟨fun a u e z => ⟨by rw [upd_ne (ne_of_none e n)]; exact e, fun q => by
      rcases q with (q | q) | q
      · exact z (.inl q)
      · rw [q, n] at e; cases e
      · exact z (.inr q)⟩,
    fun a xs e => by rw [upd_ne (ne_of_none e n)]; exact e, fun a xs u e => by rw [upd_ne (ne_of_none e n)]; exact e, fun a xs e => by rw [upd_ne (ne_of_none e n)]; exact e⟩
  exact ⟨a.rel.guard n, a.env.still t fun _ _ e => e⟩
theorem RepV.sub {M M' : Addr → Prop} (h : ∀ a, M' a → M a) {v : Val} {x : V} (r : RepV G ρ M H v x) : RepV G ρ M' H v x := RepV.still (still_sub h) (fun _ _ e => e) v x r
theorem RepVs.sub {M M' : Addr → Prop} (h : ∀ a, M' a → M a) {v : List Val} {x : List V} (r : RepVs G ρ M H v x) : RepVs G ρ M' H v x := RepVs.still (still_sub h) (fun _ _ e => e) v x r
theorem ErrOk.sub {Z : Value → Option Addr → Hp → Prop} {c : Nat} {fs : List (Str × D)} (h : ∀ a, F a → F' a) (o : ErrOk G F ρ s H c fs s' Z) : ErrOk G F' ρ s H c fs s' Z :=
  fun ρ' H' d xs g r e q => o ρ' H' d xs g (r.sub h) e fun f z hz => let ⟨y, h1, h2⟩ := q f z hz; ⟨y, h1, RepD.still (still_sub (mu_sub h)) z y h2⟩
theorem Out.subV {Z : Value → Option Addr → Hp → Prop} {r : Res Val} {Q : VK} (h : ∀ a, F a → F' a) (o : Out G F ρ s H Z (RepV G) r Q) : Out G F' ρ s H Z (RepV G) r Q := by
  cases r with
  | ok a s' => exact fun b ρ' H' g l x => o b ρ' H' g (l.sub h) (x.sub (mu_sub h))
  | exc c fs s' => exact ErrOk.sub h o
  | fail => exact o
theorem Out.subB {Z : Value → Option Addr → Hp → Prop} {r : Res Bool} {Q : Bool → Hp → Prop} (h : ∀ a, F a → F' a) (o : Out G F ρ s H Z rB r Q) : Out G F' ρ s H Z rB r Q := by
  cases r with
  | ok a s' => exact fun b ρ' H' g l x => o b ρ' H' g (l.sub h) x
  | exc c fs s' => exact ErrOk.sub h o
  | fail => exact o
/-- what p holds goes into the store -/
theorem go_adopt {H0 : Hp} {p : Addr} {u u0 : HO} {o : Obj} {ρ0 : List Addr} {s0 : Store} (n : H0 p = none) (l0 : ρ0.length = s0.length) (l : ρ.length = s.length) (g : Go ρ0 s0 (upd H0 p u0) ρ s H) : Go ρ0 s0 H0 (ρ ++ [p]) (s ++ [o]) (upd H p u) := by
  obtain ⟨m, e, hm⟩ := g.pre
  refine ⟨⟨m ++ [p], by rw [e, List.append_assoc], fun a ha => ?_⟩, fun k hk h => ?_, fun a w h hl => ?_, fun a w h => ?_⟩
  · rcases List.mem_append.mp ha with h | h
    · have q := hm a h
      by_cases c : a = p
      · rw [c] at q; rw [upd_same] at q; cases q
      · rwa [upd_ne c] at q
    · rw [List.mem_singleton.mp h]; exact n
  · refine g.liv k hk ((live_push ?_).mp h)
    have : ρ0.length ≤ ρ.length := by rw [e, List.length_append]; omega
    omega
  · have ne := ne_of_none h n
    rw [upd_ne ne]
    exact g.keep a w (by rw [upd_ne ne]; exact h) hl
  · have ne := ne_of_none h n
    obtain ⟨w', h'⟩ := g.there a w (by rw [upd_ne ne]; exact h)
    exact ⟨w', by rw [upd_ne ne]; exact h'⟩
theorem go_under {H0 : Hp} {p : Addr} {u u0 : HO} {ρ0 : List Addr} {s0 : Store} (n : H0 p = none) (g : Go ρ0 s0 (upd H0 p u0) ρ s H) : Go ρ0 s0 H0 ρ s (upd H p u) := by
  obtain ⟨m, e, hm⟩ := g.pre
  refine ⟨⟨m, e, fun a ha => ?_⟩, g.liv, fun a w h hl => ?_, fun a w h => ?_⟩
  · have q := hm a ha
    by_cases c : a = p
    · rw [c] at q; rw [upd_same] at q; cases q
    · rwa [upd_ne c] at q
  · have ne := ne_of_none h n
    rw [upd_ne ne]
    exact g.keep a w (by rw [upd_ne ne]; exact h) hl
  · have ne := ne_of_none h n
    obtain ⟨w', h'⟩ := g.there a w (by rw [upd_ne ne]; exact h)
    exact ⟨w', by rw [upd_ne ne]; exact h'⟩
theorem go_hold {H0 : Hp} {p : Addr} {u0 : HO} {ρ0 : List Addr} {s0 : Store} (n : H0 p = none) (g : Go ρ0 s0 (upd H0 p u0) ρ s H) : Go ρ0 s0 H0 ρ s H := by
  obtain ⟨m, e, hm⟩ := g.pre
  refine ⟨⟨m, e, fun a ha => ?_⟩, g.liv, fun a w h hl => ?_, fun a w h => ?_⟩
  · have q := hm a ha
    by_cases c : a = p
    · rw [c] at q; rw [upd_same] at q; cases q
    · rwa [upd_ne c] at q
  · exact g.keep a w (by rw [upd_ne (ne_of_none h n)]; exact h) hl
  · exact g.there a w (by rw [upd_ne (ne_of_none h n)]; exact h)
/-- .. its content does not matter to anybody -/
theorem still_pen {p : Addr} {u : HO} (nt : ∀ xs, H p ≠ some (.tup xs)) (nf : ∀ o v, H p ≠ some (.frz o v)) (nx : ∀ xs, H p ≠ some (.xd xs)) : Still (Mu ρ s (FP F p)) H (Mu ρ s (FP F p)) (upd H p u) :=
  ⟨fun a o e n => ⟨by rw [upd_ne (fun q => n (.inl (.inr q)))]; exact e, n⟩,
   fun a xs e => by rw [upd_ne (show a ≠ p from fun q => nt xs (by rw [← q]; exact e))]; exact e, fun a o v e => by rw [upd_ne (show a ≠ p from fun q => nf o v (by rw [← q]; exact e))]; exact e, fun a xs e => by rw [upd_ne (show a ≠ p from fun q => nx xs (by rw [← q]; exact e))]; exact e⟩
theorem rel_pen {p : Addr} {u : HO} (r : Rel G (FP F p) ρ s H) (nt : ∀ xs, H p ≠ some (.tup xs)) (nf : ∀ o v, H p ≠ some (.frz o v)) (nx : ∀ xs, H p ≠ some (.xd xs)) : Rel G (FP F p) ρ s (upd H p u) := by
  have t := still_pen (ρ := ρ) (s := s) (F := F) (u := u) nt nf nx
  have th : ∀ a w, H a = some w → ∃ w', upd H p u a = some w' := fun a w e => by
    by_cases c : a = p
    · exact ⟨u, by rw [c, upd_same]⟩
    · exact ⟨w, by rw [upd_ne c]; exact e⟩
  refine ⟨r.len, r.nd, r.nf, fun n a e => ?_, fun a q => ?_, fun n o a h1 h2 => ?_⟩
  · obtain ⟨w, hw⟩ := r.tr n a e; exact th a w hw
  · obtain ⟨w, hw⟩ := r.ft a q; exact th a w hw
  · by_cases d : o = .dead
    · subst d; trivial
    · have lv : live s n := ⟨o, h1, d⟩
      refine RepO.still t (fun _ _ e => e) (fun w e => ?_) o (r.ob n o a h1 h2)
      rw [upd_ne (fun q => r.nf n a h2 lv (.inr q))]; exact e
theorem At.pen {E : Env} {σ : St} {p : Addr} {u : HO} (a : At G (FP F p) ρ s H E σ) (nt : ∀ xs, H p ≠ some (.tup xs)) (nf : ∀ o v, H p ≠ some (.frz o v)) (nx : ∀ xs, H p ≠ some (.xd xs)) : At G (FP F p) ρ s (upd H p u) E σ :=
  ⟨rel_pen a.rel nt nf nx, a.env.still (still_pen nt nf nx) fun _ _ e => e⟩
/-- the guarded thing becomes a place of the store -/
theorem Rel.adopt {p : Addr} {u : HO} {o : Obj} (r : Rel G (FP F p) ρ s H) (hp : p ∉ ρ) (nF : ¬ F p) (nt : ∀ xs, H p ≠ some (.tup xs)) (nf : ∀ o v, H p ≠ some (.frz o v)) (nx : ∀ xs, H p ≠ some (.xd xs))
    (ho : ∀ M', Still (Mu ρ s (FP F p)) H M' (upd H p u) → RepO G (ρ ++ [p]) M' (upd H p u) p o) : Rel G F (ρ ++ [p]) (s ++ [o]) (upd H p u) := by
  have r1 := rel_pen (u := u) r nt nf nx
  have pre : ∀ (n : Nat) a, ρ[n]? = some a → (ρ ++ [p])[n]? = some a := fun n a h => by rw [List.getElem?_append_left (List.getElem?_eq_some_iff.mp h).1]; exact h
  have sub : ∀ a, Mu (ρ ++ [p]) (s ++ [o]) F a → Mu ρ s (FP F p) a := fun a q => by
    rcases q with q | ⟨n, hn, hl⟩
    · exact .inl (.inl q)
    · by_cases c : n < ρ.length
      · rw [List.getElem?_append_left c] at hn
        exact .inr ⟨n, hn, (live_push (by rw [← r.len]; exact c)).mp hl⟩
      · rw [List.getElem?_append_right (by omega)] at hn
        have := List.mem_of_getElem? hn
        rw [List.mem_singleton] at this
        exact .inl (.inr this)
  refine ⟨by simp [r.len], ?_, fun n a h l q => ?_, fun n a h => ?_, fun a q => r1.ft a (.inl q), fun n v a h1 h2 => ?_⟩
  · rw [List.nodup_append]
    exact ⟨r.nd, by simp, fun a ha b hb => by rw [List.mem_singleton.mp hb]; intro e; subst e; exact hp ha⟩
  · by_cases c : n < ρ.length
    · rw [List.getElem?_append_left c] at h
      exact r.nf n a h ((live_push (by rw [← r.len]; exact c)).mp l) (.inl q)
    · rw [List.getElem?_append_right (by omega)] at h
      have := List.mem_of_getElem? h
      rw [List.mem_singleton] at this; subst this
      exact nF q
  · by_cases c : n < ρ.length
    · rw [List.getElem?_append_left c] at h
      exact r1.tr n a h
    · rw [List.getElem?_append_right (by omega)] at h
      have := List.mem_of_getElem? h
      rw [List.mem_singleton] at this; subst this
      exact ⟨u, upd_same⟩
  · by_cases c : n < ρ.length
    · rw [List.getElem?_append_left c] at h2
      rw [List.getElem?_append_left (by rw [← r.len]; exact c)] at h1
      exact RepO.still (still_sub sub) pre (fun _ e => e) v (r1.ob n v a h1 h2)
    · have hl := r.len
      have e : n = ρ.length := by have := (List.getElem?_eq_some_iff.mp h2).1; simp at this; omega
      subst e
      rw [List.getElem?_append_right (by omega)] at h2
      rw [List.getElem?_append_right (by omega)] at h1
      have q := List.mem_of_getElem? h2
      rw [List.mem_singleton] at q; subst q
      have q := List.mem_of_getElem? h1
      rw [List.mem_singleton] at q; subst q
      refine ho _ ?_
      have t := still_pen (ρ := ρ) (s := s) (F := F) (u := u) nt nf nx
      exact ⟨fun a w e n => let ⟨e', n'⟩ := t.fz a w e n; ⟨e', fun z => n' (sub a z)⟩, t.tp, t.lk, t.xd⟩
end

section
variable {G : Gd} {X : Cx} {W : WX} {a b c : Expr} {ca cb cc : EC} {pos pp : Pos}
/-! ### {k: v, ..}, to be changed: keys are texts -/
def mergeV : List (Key × Val) → List (Key × Val) → List (Key × Val)
  | kvs, [] => kvs
  | kvs, p :: r => mergeV (putK kvs p.1 p.2) r
def dctA (keys : List Str) (r : AC) : EC := fun E s => (r E s).bind fun xs s => if xs.length = keys.length ∧ keys.length ≤ 15 then .ok (.loc s.length) (s ++ [.dct (mergeV [] ((keys.map Sum.inr).zip xs))]) else .fail
theorem RepF.merge {ρ : List Addr} {M : Addr → Prop} {H : Hp} : ∀ {ps : List (Key × Val)} {qs : List (Key × V)} {ds : List (Key × Val)} {xs : List (Key × V)}, RepF G ρ M H ps qs → RepF G ρ M H ds xs → RepF G ρ M H (mergeV ds ps) (mergeK xs qs)
  | [], [], _, _, _, h => h
  | p :: ps, q :: qs, _, _, h, h' => by
    show RepF G ρ M H (mergeV (putK _ p.1 p.2) ps) (mergeK (L2.putK _ q.1 q.2) qs)
    refine RepF.merge h.2 ?_
    rw [← h.1.1]
    exact RepF.put p.1 h.1.2 h'
  | [], _ :: _, _, _, h, _ => h.elim
  | _ :: _, [], _, _, h, _ => h.elim
theorem RepF.zip {ρ : List Addr} {M : Addr → Prop} {H : Hp} : ∀ {ks : List Key} {vs : List Val} {xs : List V}, RepVs G ρ M H vs xs → RepF G ρ M H (ks.zip vs) (ks.zip xs)
  | [], _, _, _ => by simp [RepF]
  | _ :: _, [], [], _ => by simp [RepF]
  | _ :: _, _ :: _, _ :: _, h => ⟨⟨rfl, h.1⟩, RepF.zip h.2⟩
  | _ :: _, [], _ :: _, h => h.elim
  | _ :: _, _ :: _, [], h => h.elim
theorem mergeV_len : ∀ (ps ds : List (Key × Val)), (mergeV ds ps).length ≤ ds.length + ps.length
  | [], _ => by simp [mergeV]
  | p :: ps, ds => by
    have h := mergeV_len ps (putK ds p.1 p.2)
    have : (putK ds p.1 p.2).length ≤ ds.length + 1 := by unfold putK; split <;> simp
    simp only [mergeV, List.length_cons]; omega
/-- the trees of a display's pairs: constants, values -/
def trsOf (G : Gd) (W : WX) : List Str → List EC → List (TE × TE)
  | k :: ks, c :: cs => (tC (.str k), tE G W c) :: trsOf G W ks cs
  | _, _ => []
def acs : List EC → AC
  | [] => a0
  | c :: cs => ac c (acs cs)
theorem pairs_to {F : Addr → Prop} {σ : St} {E : Env} : ∀ (ks : List Str) (cs : List EC) {ρ : List Addr} {s : Store} {H : Hp} {Q : List (V × V) → Hp → Prop}, ks.length = cs.length → At G F ρ s H E σ →
    Out G F ρ s H (fun C d H' => W C d σ H') (RepVs G) (acs cs E s) (fun xs H' => Q ((ks.map V.str).zip xs) H') → tPairs (trsOf G W ks cs) σ H Q
  | [], [], ρ, s, H, Q, _, at_, o => Out.ret (R := RepVs G) (b := []) o at_.rel trivial
  | k :: ks, c :: cs, ρ, s, H, Q, hl, at_, o => by
    refine ⟨F, ρ, s, E, at_, (Out.bind (R := RepV G) o).mono ?_⟩
    rintro x H1 ⟨ρ1, s1, v1, g1, l1, x1, o1⟩
    refine pairs_to ks cs (by simpa using hl) (at_.go g1 l1) ((Out.bind (R := RepVs G) o1).mono ?_)
    rintro y H2 ⟨ρ2, s2, v2, g2, l2, x2, o2⟩
    exact Out.ret (R := RepVs G) (b := x :: y) o2 l2 ⟨l1.val g2 x1, x2⟩
  | [], _ :: _, _, _, _, _, h, _, _ => by simp at h
  | _ :: _, [], _, _, _, _, h, _, _ => by simp at h
theorem zipstr : ∀ (ks : List Str) (xs : List V), xs.length = ks.length → (ks.map V.str).zip xs = ((ks.map (Sum.inr : Str → Key)).zip xs).map fun kv => (kV kv.1, kv.2)
  | [], _, _ => by simp
  | _ :: _, [], h => by simp at h
  | k :: ks, x :: xs, h => by simp only [List.map_cons, List.zip_cons_cons]; rw [zipstr ks xs (by simpa using h)]; rfl
theorem se_dctA {ks : List Str} {cs : List EC} {keys : List (Option Expr)} {values : List Expr} (h : PPs X pos keys values (trsOf G W ks cs)) (hk : ks.length = cs.length) (hall : keys.all (·.isSome) = true := by rfl) (hl : keys.length = values.length := by rfl) (h0 : keys ≠ [] := by simp)
    (h15 : keys.length ≤ 15 := by decide) : SE G W X (dctA ks (acs cs)) (.Dict keys values pos) :=
  PE.imp (pe_disp h hall hl h0 h15) fun σ H Q ⟨F, ρ, s, E, at_, o⟩ => by
    intro p n
    have atG := at_.guard (p := p) (o := .dK []) n
    refine pairs_to (F := FP F p) ks cs hk atG ?_
    -- the values
    cases hr : acs cs E s with
    | fail => simp only [dctA, hr, Res.bind_fail] at o; exact o.elim
    | exc c fs s' =>
      simp only [dctA, hr, Res.bind_exc] at o
      intro ρ' H' d xs g l e q
      exact o ρ' H' d xs (go_hold n g) (l.sub fun _ z => .inl z) e fun f z hz => let ⟨y, h1, h2⟩ := q f z hz; ⟨y, h1, RepD.still (still_sub (mu_sub fun _ z => .inl z)) z y h2⟩
    | ok vs s' =>
      simp only [dctA, hr, Res.bind_ok] at o
      intro xs ρ' H' g l x
      split at o
      · rename_i c
        obtain ⟨c1, c2⟩ := c
        have hpn : p ∉ ρ' := fun hm => by
          obtain ⟨m, e, hm'⟩ := g.pre
          rw [e] at hm
          rcases List.mem_append.mp hm with q | q
          · exact at_.rel.nin n q
          · have := hm' p q; rw [upd_same] at this; cases this
        have hpd : H' p = some (.dK []) := g.keep p _ upd_same fun m hm _ => by
          have := List.mem_of_getElem? hm
          exact at_.rel.nin n this
        have el : xs.length = ks.length := by rw [← x.len, c1]
        refine ⟨hpd, (ks.map Sum.inr).zip xs, ?_, by rw [List.length_zip, List.length_map]; omega, ?_⟩
        · exact zipstr _ _ el
        · have nF : ¬ F p := fun q => by obtain ⟨w, hw⟩ := at_.rel.ft p q; rw [n] at hw; cases hw
          have l' : Rel G F (ρ' ++ [p]) (s' ++ [.dct (mergeV [] ((ks.map Sum.inr).zip vs))]) (upd H' p (.dK (mergeK [] ((ks.map Sum.inr).zip xs)))) :=
            l.adopt hpn nF (by rw [hpd]; simp) (by rw [hpd]; simp) (by rw [hpd]; simp) fun M' t => by
              refine ⟨_, upd_same, ?_, ?_⟩
              · have q := mergeV_len ((ks.map Sum.inr).zip vs) []
                have q2 : ((ks.map (Sum.inr : Str → Key)).zip vs).length ≤ ks.length := by rw [List.length_zip, List.length_map]; omega
                rw [sizeLine_eq]; simp only [List.length_nil] at q; omega
              · refine RepF.merge (RepF.zip (RepVs.still t (fun k b h => ?_) _ _ x)) trivial
                rw [List.getElem?_append_left (List.getElem?_eq_some_iff.mp h).1]; exact h
          refine o _ _ _ (go_adopt n at_.rel.len l.len g) l' ⟨p, ?_, rfl⟩
          rw [List.getElem?_append_right (by rw [l.len]; exact Nat.le_refl _), l.len]; simp
      · exact o.elim
theorem pp_nil : PPs X pos [] [] (trsOf G W [] []) := pps_nil
theorem pp_cons {kx : Str} {j : Nat} {p1 : Pos} {v : Expr} {ks : List (Option Expr)} {vs : List Expr} {cv : EC} {kk : List Str} {cs : List EC} (hv : SE G W X cv v) (hr : PPs X pos ks vs (trsOf G W kk cs)) :
    PPs X pos (some (.Constant (.str kx) j p1) :: ks) (v :: vs) (trsOf G W (kx :: kk) (cv :: cs)) := pps_cons pe_str hv hr
/-- {} as data, {} to be changed -/
theorem se_dct0 : SE G W X (k (.dct [])) (.Dict [] [] pos) := PE.imp pe_dnewK fun σ H Q ⟨F, ρ, s, E, at_, o⟩ => by
  intro p n
  exact o _ _ _ (go_new n) (at_.rel.new n) (by simp only [RepV, RepD]; exact ⟨p, [], rfl, at_.rel.free n, upd_same, Nat.zero_le _, by simp [RepKs]⟩)
def dctA0 : EC := fun _ s => .ok (.loc s.length) (s ++ [.dct []])
theorem se_dctA0 : SE G W X dctA0 (.Dict [] [] pos) := PE.imp pe_dnewK fun σ H Q ⟨F, ρ, s, E, at_, o⟩ => by
  intro p n
  refine o _ _ _ (go_push at_.rel.len n) (at_.rel.push n fun M' t => ⟨[], upd_same, Nat.zero_le _, trivial⟩) ⟨p, ?_, rfl⟩
  rw [List.getElem?_append_right (by rw [at_.rel.len]; exact Nat.le_refl _), at_.rel.len]; simp
end
end Ev
end
section
set_option Elab.async false
set_option linter.all false
set_option autoImplicit false
set_option maxRecDepth 100000
set_option maxHeartbeats 4000000
/-! What is walked. -/
namespace PySem
open Sem (wp)
open AutoSeq1 (wpAny_loadPart')
set_option maxHeartbeats 4000000 in
/-- enumerate(v), v anything that begins -/
theorem meets_enum_new1 {v : Value} {o : Obj} {H : Heap → Prop} (B : Begins v o H) :
    Meets (Builtin.«enumerate.__new__» ⟨[.type "enumerate", v], []⟩) (fun _ R s => H s.heap ∧
      R (.ok (.ret (.ref (s.heap.push o).objs.size))) { s with heap := (s.heap.push o).push { cls := .type "enumerate", data := .fields #[.none, .bool false, .ref s.heap.objs.size, rawInt 0, .none, .none] } }) :=
  .of_wp fun prog w A R s h => by
    obtain ⟨hp, g, d, tk, os⟩ := s; obtain ⟨h1, h⟩ := h
    have hsub := sub_enumerate
    have q1 : ∀ {A' : Around} {E : Value → Shared → Prop} {Q : Value → Shared → Prop}, Q (.ref hp.objs.size) ⟨hp.push o, g, d, tk, os⟩ → wpAny (model prog w) A' (pyIter v) Q E ⟨hp, g, d, tk, os⟩ :=
      fun q => B.iter prog w _ _ ⟨hp, g, d, tk, os⟩ _ h1 q
    wp_walk using q1
    refine wpAny_stack_any fun st => wpAny_pure ?_
    split
    · rename_i c _ _ _ _ _
      cases (c == Value.type "enumerate")
      · wp_walk using q1
        exact ⟨_, rfl, h⟩
      · wp_walk using q1
        exact ⟨_, rfl, h⟩
    · wp_walk using q1
      exact ⟨_, rfl, h⟩
theorem enum_begin1 {prog : Program} {w : World} {A : Around} {E : Value → Shared → Prop} {s : Shared} {v : Value} {o : Obj} {H : Heap → Prop} {Q : Value → Shared → Prop} (B : Begins v o H) (h1 : H s.heap)
    (h : ∀ h', IsEnum h' (s.heap.objs.size + 1) s.heap.objs.size 0 .none → h'.get? s.heap.objs.size = some o → h'.objs.size = s.heap.objs.size + 2 →
      (∀ b o, s.heap.get? b = some o → h'.get? b = some o) → Q (.ref (s.heap.objs.size + 1)) { s with heap := h' }) :
    wpAny (model prog w) A (call (.type "enumerate") [v]) Q E s := by
  refine callType_new F.called_enumerate (by decide) (F.typeCall_enumerate_1 _) (F.newCall_enumerate_1 _) (fun obj => F.args_object_init_2 obj _) F.entry_enumerate_new
    (meets_enum_new1 B) ⟨h1, ?_⟩
  have hz : (s.heap.push o).objs.size = s.heap.objs.size + 1 := Heap.size_push ..
  show _ ∧ _
  rw [hz]
  have he : IsEnum ((s.heap.push o).push { cls := .type "enumerate", data := .fields #[.none, .bool false, .ref s.heap.objs.size, rawInt 0, .none, .none] }) (s.heap.objs.size + 1) s.heap.objs.size 0 .none := by
    have := Heap.get?_push_size (s.heap.push o) (o := { cls := .type "enumerate", data := .fields #[.none, .bool false, .ref s.heap.objs.size, rawInt 0, .none, .none] }) rfl
    rw [hz] at this; exact this
  refine ⟨⟨_, he, rfl⟩, h _ he (Heap.get?_push_of_some _ (Heap.get?_push_size _ B.free)) (by rw [Heap.size_push, hz]) fun b o x => Heap.get?_push_of_some _ (Heap.get?_push_of_some _ x)⟩
theorem enumT_end {prog : Program} {w : World} {A : Around} {E : Value → Shared → Prop} {s : Shared} {e it t : Addr} {i : Nat} {items : Array Value} {old : Value} {Q : Option Value → Shared → Prop} (hh : A.handled = none)
    (he : IsEnum s.heap e it i old) (hit : s.heap.IsTupleIter it t i) (hl : s.heap.IsTuple t items) (hx : items[i]? = none)
    (hQ : ∀ h', Heap.ExtBut it s.heap h' → Q none { s with heap := h' }) : wpAny (model prog w) A (pyNext (.ref e)) Q E s := by
  have hT : s.TypeIs (.ref e) "enumerate" := ⟨_, he, rfl⟩
  unfold pyNext
  refine wpAny_bind (wpAny_attempt (wpAny_callSpecial?_slot (name := Str.ofString "__next__") hT F.slot_enumerate_next
    (wpAny_call_entry F.slot_enumerate_next hT F.entry_enumerate_next ?_ (F.args_enumerate_next_1 _))))
  show wpAny _ _ (field (.ref e) 2 >>= _) _ _ _
  refine wpAny_bind (wpAny_field he rfl (x := .ref it) rfl ?_)
  refine wpAny_bind (wpAny_nextOf_tuple_end hh hit hl hx fun h' x he' hx' => ?_)
  obtain ⟨o, ho, hc⟩ := hx'
  refine wpAny_bind (wpAny_isInstance (T := "StopIteration") (b := true) ⟨o, ho, hc⟩ isSubtype_stop ?_)
  exact wpAny_pure (hQ _ he')
end PySem
namespace L2
open PySem PySem.Spec PyProof.Rows
/-- enumerate over a tuple -/
def Iet (K : PySem.W.Frag) (a : Addr) : It :=
  ⟨fun i H => ∃ (xs : List V) (x : V), SqT K H a xs ∧ xs[i]? = some x, fun i H v H' => ∃ T x, v = .ref T ∧ H T = none ∧ H' = upd H T (.tup [.int (i : Nat), x]) ∧ ∀ xs, SqT K H a xs → xs[i]? = some x, fun i H => ∃ xs : List V, SqT K H a xs ∧ xs.length ≤ i⟩
theorem turn_enumT {P : Program} {w : World} {K : PySem.W.Frag} {elts : List Expr} {kk : Nat} {tpos : Pos} (a e it : Addr) :
    Turn P w K (.Tuple elts kk tpos) (Iet K a) [e, it] e (fun i h => (∃ old, IsEnum h e it ((i : Nat) : Int) old) ∧ h.IsTupleIter it a i ∧ e ≠ it ∧ a ≠ it ∧ a ≠ e) where
  mem := by simp
  obj := fun i h st b hb => by
    obtain ⟨⟨old, he⟩, ⟨o, ho, hc, hd⟩, _⟩ := st
    have e' : b = e ∨ b = it := by simpa using hb
    rcases e' with z | z
    · rw [z]; exact ⟨_, he, fun v q => nomatch q⟩
    · rw [z]; exact ⟨o, ho, fun v q => by rw [hd] at q; cases q⟩
  keep := fun i h h' st k => let ⟨⟨old, he⟩, hi, hr⟩ := st; ⟨⟨old, k e (by simp) _ he⟩, hi.at fun o q => k it (by simp) o q, hr⟩
  item := by
    intro X hP hw hK hc i pins s σ H E I hf st hg
    subst hP hw hK
    obtain ⟨⟨old, he⟩, hit, hne, hai, hae⟩ := st
    obtain ⟨xs, x, hq, hx⟩ := hg
    obtain ⟨its, rv, p, hz⟩ := I.tuple hq
    obtain ⟨u, hu, ru⟩ := rv.get hx
    have hel : e < s.heap.objs.size := Heap.lt_size he
    have hil : it < s.heap.objs.size := by obtain ⟨_, q, _⟩ := hit; exact Heap.lt_size q
    have hp : s.heap.IsTuple a its.toArray := p
    have hlt : i < its.toArray.size := by rw [List.size_toArray]; exact (List.getElem?_eq_some_iff.mp hu).1
    refine wpAny_pyNext_enum_itemC (P := fun i v => its.toArray[i]? = some v) (St := fun i h => h.IsTupleIter it a i ∧ h.IsTuple a its.toArray) (fp := [it, a]) (Draws.tuple (A := X.A.in1) (I.ok.hd hc) it a hai its.toArray) he ⟨hit, hp⟩ hlt hne (by simp [hne, Ne.symm hae]) fun x' h' tk hP ho hit' hT hsz hk => ?_
    have ex' : x' = u := by
      rw [List.getElem?_toArray, hu] at hP
      exact (Option.some.inj hP).symm
    subst ex'
    refine ⟨_, rfl, wpAny_letOwnedTupleGo_enum (s := { s with heap := h', toks := tk + 1 }) ho fun h'' he' sb => ?_⟩
    have hT2 : h''.get? s.heap.objs.size = some { cls := .type "tuple", data := .seq #[.int i tk, x'] } := (sb.2 _ (Nat.ne_of_gt hel)).trans hT
    have new : ObjOk X.prog X.w (upd H s.heap.objs.size (.tup [.int (i : Nat), x])) h'' s.heap.objs.size (.tup [.int (i : Nat), x]) :=
      ⟨by show 2 ≤ sizeLine; decide, [.int i tk, x'], .cons ⟨_, rfl⟩ (.cons ru .nil), ⟨_, hT2, rfl, _, rfl⟩⟩
    have I1 : Inv X pins σ (upd H s.heap.objs.size (.tup [.int (i : Nat), x])) { s with heap := h'', toks := tk + 1 } :=
      I.turnedNew (ch := [e, it]) (fun b ob hb q => (sb.2 b (fun z => hb (by simp [z]))).trans (hk b ob (fun z => hb (by simp [z])) (fun z => hb (by simp [z])) q)) hf (Nat.le_refl _) new
    refine ⟨.ref s.heap.objs.size, _, I1, rfl, ⟨_, x, rfl, I.hok.fresh (Nat.le_refl _), rfl, fun ys hy => by rw [I.tuple_inj hy hq]; exact hx⟩, ⟨⟨x', ?_⟩, hit'.1.at fun o q => (sb.2 it (Ne.symm hne)).trans q, hne, hai, hae⟩, fun b hb => ?_⟩
    · have e1 : ((i + 1 : Nat) : Int) = (i : Int) + 1 := by omega
      rw [e1]; exact he'
    · have hb' : b < s.heap.objs.size := by
        have e' : b = e ∨ b = it := by simpa using hb
        rcases e' with z | z
        · rw [z]; exact hel
        · rw [z]; exact hil
      rw [upd_ne (Nat.ne_of_lt hb')]
      exact (hf b hb).1
  done := by
    intro X hP hw hK hc i pins s σ H E I hf st hg
    subst hP hw hK
    obtain ⟨⟨old, he⟩, hit, hne, hai, hae⟩ := st
    obtain ⟨xs, hq, hx⟩ := hg
    obtain ⟨its, rv, p, hz⟩ := I.tuple hq
    have hp : s.heap.IsTuple a its.toArray := p
    obtain ⟨f0, f1, f2, f3, f4, f5⟩ := hf it (by simp)
    have hl := rv.length
    exact enumT_end (I.ok.hd hc) he hit hp (by simp; omega) fun h' eb => ⟨rfl, I.turned (t' := s.toks) (fun b o hb q => eb b o hb q) f0 f1 f3 f4 f5⟩
  self := fun A i s Q E st h => let ⟨⟨_, he⟩, _⟩ := st; wpAny_pyIter_enum he h
end L2

namespace Ev
open PySem L2
section
variable {G : Gd} {X : Cx} {W : WX} {a b c tg : Expr} {ca cb cc : EC} {pos pp : Pos}
/-- at most a new tuple more -/
def NewT (H H' : Hp) : Prop := H' = H ∨ ∃ p xs, H p = none ∧ H' = upd H p (.tup xs)
/-- an iterator walks a source -/
def JOk (G : Gd) : RR Src It := fun ρ M H sr J => match sr with
  | .vals xs => ∀ ρ2 M2 H2, Still M H M2 H2 → (∀ (n : Nat) a, ρ[n]? = some a → ρ2[n]? = some a) → ∀ i : Nat,
      (∀ x, xs[i]? = some x → J.go i H2 ∧ ∀ y H3, J.yld i H2 y H3 → NewT H2 H3 ∧ ∀ M3, Still M2 H2 M3 H3 → RepV G ρ2 M3 H3 x y) ∧ (xs.length ≤ i → J.stop i H2)
  | .live n => ∃ a, ρ[n]? = some a ∧ ∀ H2 xs, H2 a = some (.lst xs) → ∀ i : Nat, (∀ y, xs[i]? = some y → J.go i H2 ∧ ∀ z H3, J.yld i H2 z H3 → H3 = H2 ∧ z = y) ∧ (xs.length ≤ i → J.stop i H2)
def tI (G : Gd) (W : WX) (c : IC) : TI := fun σ H R => ∃ F ρ s E, At G F ρ s H E σ ∧ Out G F ρ s H (fun C d H' => W C d σ H') (JOk G) (c E s) R
abbrev SI (G : Gd) (W : WX) (X : Cx) (tg : Expr) (c : IC) (e : Expr) : Prop := PI X tg e (tI G W c)

theorem joT {M : Addr → Prop} {H : Hp} {ρ : List Addr} {p : Addr} {xs : List V} {ds : List D} (hq : SqT G.K H p xs) (rr : RepDs G.K M H ds xs) : JOk G ρ M H (.vals (ds.map .d)) (Itt G.K p) := by
  intro ρ2 M2 H2 t _ i
  refine ⟨fun x hx => ?_, fun hi => ⟨xs, t.sqT hq, by rw [← rr.len]; simpa using hi⟩⟩
  rw [List.getElem?_map, Option.map_eq_some_iff] at hx
  obtain ⟨d, hd, rfl⟩ := hx
  obtain ⟨y, hy, ry⟩ := rr.get hd
  refine ⟨⟨xs, y, t.sqT hq, hy⟩, fun z H3 ⟨e, hz⟩ => ⟨.inl e, fun M3 t3 => ?_⟩⟩
  have := hz xs (t.sqT hq)
  rw [hy] at this; cases this
  exact RepD.still t3 d y (RepD.still t d y ry)
theorem joL {M : Addr → Prop} {H : Hp} {ρ : List Addr} {p : Addr} {xs : List V} {ds : List D} (nM : ¬ M p) (hq : H p = some (.lst xs)) (rr : RepDs G.K M H ds xs) : JOk G ρ M H (.vals (ds.map .d)) (Itl G.K p) := by
  intro ρ2 M2 H2 t _ i
  have hq2 : SqL G.K H2 p xs := .inl (.inl (t.fz _ _ hq nM).1)
  refine ⟨fun x hx => ?_, fun hi => ⟨xs, hq2, by rw [← rr.len]; simpa using hi⟩⟩
  rw [List.getElem?_map, Option.map_eq_some_iff] at hx
  obtain ⟨d, hd, rfl⟩ := hx
  obtain ⟨y, hy, ry⟩ := rr.get hd
  refine ⟨⟨xs, y, hq2, hy⟩, fun z H3 ⟨e, hz⟩ => ⟨.inl e, fun M3 t3 => ?_⟩⟩
  have := hz xs hq2
  rw [hy] at this; cases this
  exact RepD.still t3 d y (RepD.still t d y ry)
/-- for x in e: a list, a tuple -/
theorem si_seq (hK : X.K = G.K) (ha : SE G W X ca a) : SI G W X tg (iSeq ca) a := by
  refine ⟨fun pins s σ H R I ⟨F, ρ, st, E, at_, o⟩ => ?_⟩
  refine thn (ha.run pins s σ H _ I ⟨F, ρ, st, E, at_, Out.bind (R := RepV G) o⟩) fun v s1 ⟨x, H1, I1, r1, ρ1, t1, v1, g1, l1, x1, o1⟩ => ?_
  have onL : ∀ {p : Addr} {xs : List V}, x = .ref p → SqL X.K H1 p xs → R (Itl X.K p) H1 → wpAny (model X.prog X.w) X.A (pyIter v) (PIE X pins σ tg R) X.xe s1 := fun {p xs} e hq q => by
    subst e
    cases r1
    obtain ⟨its, rv, pl, hz⟩ := I1.list hq
    refine wpAny_pyIter_list pl.isList ?_
    refine ⟨s1.heap.objs.size, [s1.heap.objs.size], _, _, H1, rfl, I1.kept (t' := s1.toks) fun b o e => Heap.get?_push_of_some _ e, turn_list p _, ⟨_, Heap.get?_push_size _ rfl, rfl, rfl⟩, fun b hb => ?_, q⟩
    have e : b = s1.heap.objs.size := by simpa using hb
    subst e
    exact I1.fpOk (Nat.le_refl _) (I1.hok.fresh (Nat.le_refl _))
  have onT : ∀ {p : Addr} {xs : List V}, x = .ref p → SqT X.K H1 p xs → R (Itt X.K p) H1 → wpAny (model X.prog X.w) X.A (pyIter v) (PIE X pins σ tg R) X.xe s1 := fun {p xs} e hq q => by
    subst e
    cases r1
    obtain ⟨its, rv, pl, hz⟩ := I1.tuple hq
    refine wpAny_pyIter_tuple (show s1.heap.IsTuple p its.toArray from pl) ?_
    refine ⟨s1.heap.objs.size, [s1.heap.objs.size], _, _, H1, rfl, I1.kept (t' := s1.toks) fun b o e => Heap.get?_push_of_some _ e, turn_tuple p _, ⟨_, Heap.get?_push_size _ rfl, rfl, rfl⟩, fun b hb => ?_, q⟩
    have e : b = s1.heap.objs.size := by simpa using hb
    subst e
    exact I1.fpOk (Nat.le_refl _) (I1.hok.fresh (Nat.le_refl _))
  cases v1 with
  | d z =>
    cases z with
    | tup ds =>
      simp only [RepV, RepD] at x1
      obtain ⟨p, xs, ex, hq, _, rr⟩ := x1
      exact onT ex (by rw [hK]; exact hq) (by rw [hK]; exact Out.ret (R := JOk G) o1 l1 (joT hq rr))
    | lst ds =>
      simp only [RepV, RepD] at x1
      obtain ⟨p, xs, ex, nM, hq, _, rr⟩ := x1
      exact onL ex (.inl (.inl hq)) (by rw [hK]; exact Out.ret (R := JOk G) o1 l1 (joL nM hq rr))
    | scr ns =>
      simp only [RepV, RepD] at x1
      obtain ⟨p, ex, hq, _⟩ := x1
      have sq : ∀ {M2 : Addr → Prop} {H2 : Hp}, Still (Mu ρ1 t1 F) H1 M2 H2 → SqL G.K H2 p (ns.map V.int) := fun {M2 H2} t => by
        rcases hq with ⟨ob, hq⟩ | ((hq | ⟨_, hq⟩) | hq)
        · exact .inl (.inr ⟨ob, t.lk _ _ _ hq⟩)
        · cases hq
        · cases hq
        · exact .inr hq
      have sq0 : SqL G.K H1 p (ns.map V.int) := sq (M2 := Mu ρ1 t1 F) (still_sub fun _ h => h)
      have jo : JOk G ρ1 (Mu ρ1 t1 F) H1 (.vals (ns.map fun i => .d (.int i))) (Itl G.K p) := by
        intro ρ2 M2 H2 t _ i
        refine ⟨fun x hx => ?_, fun hi => ⟨_, sq t, by simpa using hi⟩⟩
        rw [List.getElem?_map, Option.map_eq_some_iff] at hx
        obtain ⟨n, hn, rfl⟩ := hx
        have hy : (ns.map V.int)[i]? = some (.int n) := by rw [List.getElem?_map, hn]; rfl
        refine ⟨⟨_, _, sq t, hy⟩, fun z H3 ⟨e, hz⟩ => ⟨.inl e, fun M3 t3 => ?_⟩⟩
        have := hz _ (sq t)
        rw [hy] at this; cases this
        simp [RepV, RepD]
      exact onL ex (by rw [hK]; exact sq0) (by rw [hK]; exact Out.ret (R := JOk G) o1 l1 jo)
    | _ => exact o1.elim
  | loc n =>
    obtain ⟨p, hp, ex⟩ := x1
    have hl : ∃ xs, H1 p = some (.lst xs) := by
      simp only at o1
      split at o1
      · rename_i ds ho
        obtain ⟨xs, hx, _⟩ := l1.ob n _ p ho hp
        exact ⟨xs, hx⟩
      · exact o1.elim
    obtain ⟨xs, hx⟩ := hl
    have o2 : Out G F ρ1 t1 H1 (fun C d H' => W C d σ H') (JOk G) (.ok (.live n) t1) R := by
      simp only at o1
      split at o1
      · exact o1
      · exact o1.elim
    have jo : JOk G ρ1 (Mu ρ1 t1 F) H1 (.live n) (Itl G.K p) := by
      refine ⟨p, hp, fun H2 ys hy i => ?_⟩
      have hq2 : SqL G.K H2 p ys := .inl (.inl hy)
      refine ⟨fun y hyi => ⟨⟨ys, y, hq2, hyi⟩, fun z H3 ⟨e, hz⟩ => ⟨e, ?_⟩⟩, fun hi => ⟨ys, hq2, hi⟩⟩
      have := hz ys hq2
      rw [hyi] at this; exact (Option.some.inj this).symm
    exact onL ex (.inl (.inl hx)) (by rw [hK]; exact Out.ret (R := JOk G) o2 l1 jo)
  | exn _ _ => exact o1.elim
theorem joR {M : Addr → Prop} {H : Hp} {ρ : List Addr} (lo hi : Int) : JOk G ρ M H (.vals ((rng lo hi).map .d)) (Itr lo (hi - lo).toNat) := by
  intro ρ2 M2 H2 t _ i
  refine ⟨fun x hx => ?_, fun hi' => ?_⟩
  rotate_left
  · show (hi - lo).toNat ≤ i
    simpa [rng] using hi'
  simp only [rng, List.map_map, List.getElem?_map, Option.map_eq_some_iff] at hx
  obtain ⟨j, hj, rfl⟩ := hx
  obtain ⟨h1, h2⟩ := List.getElem?_eq_some_iff.mp hj
  simp only [List.length_range] at h1
  rw [List.getElem_range] at h2
  subst h2
  refine ⟨h1, fun z H3 ⟨e, hz⟩ => ⟨.inl e, fun M3 t3 => ?_⟩⟩
  subst hz
  simp [RepV, RepD]
theorem si_rng1 {p1 : Pos} (hm : X.mg "range" = none) (ha : SE G W X ca a) (hg : Gl X "range" := by rfl) (hs : starEach [a] X.env = [(false, eval a X.env)] := by rfl) : SI G W X tg (iRng1 ca) (.Call (.Name "range" p1) [a] [] pos) := by
  refine ⟨fun pins s σ H R I ⟨F, ρ, st, E, at_, o⟩ => (pi_range1 hg hm (pa_cons ha pa_nil hs) hs).run pins s σ H R I ⟨F, ρ, st, E, at_, (Out.bind (R := RepV G) o).mono ?_⟩⟩
  rintro x H1 ⟨ρ1, s1, v1, g1, l1, x1, o1⟩
  split at o1
  · rename_i i
    by_cases c : small i = true
    · rw [if_pos c] at o1
      have c' := small_iff.mp c
      refine ⟨i, by rw [int_of x1], c'.1, c'.2, ?_⟩
      have := joR (G := G) (ρ := ρ1) (M := Mu ρ1 s1 F) (H := H1) 0 i
      rw [Int.sub_zero] at this
      exact Out.ret (R := JOk G) o1 l1 this
    · rw [if_neg c] at o1; exact o1.elim
  · exact o1.elim
theorem si_rng2 {p1 : Pos} (hm : X.mg "range" = none) (ha : SE G W X ca a) (hb : SE G W X cb b) (hg : Gl X "range" := by rfl) (hs : starEach [a, b] X.env = [(false, eval a X.env), (false, eval b X.env)] := by rfl) (hs2 : starEach [b] X.env = [(false, eval b X.env)] := by rfl) :
    SI G W X tg (iRng2 ca cb) (.Call (.Name "range" p1) [a, b] [] pos) := by
  refine ⟨fun pins s σ H R I ⟨F, ρ, st, E, at_, o⟩ => (pi_range2 hg hm (pa_cons ha (pa_cons hb pa_nil hs2) (by rw [hs, hs2])) hs hs2).run pins s σ H R I ⟨F, ρ, st, E, at_, (Out.bind (R := RepV G) o).mono ?_⟩⟩
  rintro x H1 ⟨ρ1, s1, v1, g1, l1, x1, o1⟩
  refine ⟨F, ρ1, s1, E, at_.go g1 l1, (Out.bind (R := RepV G) o1).mono ?_⟩
  rintro y H2 ⟨ρ2, s2, v2, g2, l2, x2, o2⟩
  split at o2
  · rename_i i j
    by_cases c : (small i && small j) = true
    · rw [if_pos c] at o2
      simp only [Bool.and_eq_true, small_iff] at c
      exact ⟨i, j, by rw [int_of x1, int_of x2], ⟨c.1.1, c.1.2, c.2.1, c.2.2⟩, Out.ret (R := JOk G) o2 l2 (joR i j)⟩
    · rw [if_neg c] at o2; exact o2.elim
  · exact o2.elim
theorem enumD_get : ∀ (ds : List D) (k i : Nat) (x : D), (enumD k ds)[i]? = some x → ∃ d, ds[i]? = some d ∧ x = .tup [.int ((k + i : Nat) : Int), d]
  | [], _, _, _, h => by simp [enumD] at h
  | d :: ds, k, 0, x, h => by simp [enumD] at h; exact ⟨d, by simp, by simp [h]⟩
  | d :: ds, k, i + 1, x, h => by
    simp only [enumD, List.getElem?_cons_succ] at h
    obtain ⟨e, h1, h2⟩ := enumD_get ds (k + 1) i x h
    exact ⟨e, by simpa using h1, by rw [h2, show k + 1 + i = k + (i + 1) by omega]⟩
theorem enumD_len : ∀ (ds : List D) (k : Nat), (enumD k ds).length = ds.length
  | [], _ => rfl
  | _ :: ds, k => by simp [enumD, enumD_len ds]
theorem joE {M : Addr → Prop} {H : Hp} {ρ : List Addr} {xs : List V} {ds : List D} {J : It} (rr : RepDs G.K M H ds xs)
    (hJ : ∀ M2 H2, Still M H M2 H2 → ∀ i : Nat, (∀ y, xs[i]? = some y → J.go i H2 ∧ ∀ v H3, J.yld i H2 v H3 → ∃ T, v = .ref T ∧ H2 T = none ∧ H3 = upd H2 T (.tup [.int (i : Nat), y])) ∧ (xs.length ≤ i → J.stop i H2)) : JOk G ρ M H (.vals ((enumD 0 ds).map .d)) J := by
  intro ρ2 M2 H2 t _ i
  refine ⟨fun x hx => ?_, fun hi => (hJ M2 H2 t i).2 (by rw [← rr.len]; simpa [enumD_len] using hi)⟩
  rw [List.getElem?_map, Option.map_eq_some_iff] at hx
  obtain ⟨d, hd, rfl⟩ := hx
  obtain ⟨e, he, rfl⟩ := enumD_get ds 0 i d hd
  obtain ⟨y, hy, ry⟩ := rr.get he
  obtain ⟨hg, hyl⟩ := (hJ M2 H2 t i).1 y hy
  refine ⟨hg, fun z H3 hz => ?_⟩
  obtain ⟨T, rfl, hT, rfl⟩ := hyl z H3 hz
  refine ⟨.inr ⟨T, _, hT, rfl⟩, fun M3 t3 => ?_⟩
  have hr := RepD.still t3 e y (RepD.still t e y ry)
  show RepD G.K M3 (upd H2 T (HO.tup [V.int (i : Nat), y])) (.tup [.int ((0 + i : Nat) : Int), e]) (.ref T)
  rw [RepD]
  refine ⟨T, _, rfl, .inl (.inl upd_same), by rw [sizeLine_eq]; simp, ?_⟩
  simp only [RepDs, RepD, Nat.zero_add]
  exact ⟨trivial, hr, trivial⟩
theorem si_enum {p1 tpos : Pos} {elts : List Expr} {kk : Nat} (hK : X.K = G.K) (hm : X.mg "enumerate" = none) (ha : SE G W X ca a) (hg : Gl X "enumerate" := by rfl) (hs : starEach [a] X.env = [(false, eval a X.env)] := by rfl) :
    SI G W X (.Tuple elts kk tpos) (iEnum ca) (.Call (.Name "enumerate" p1) [a] [] pos) := by
  refine ⟨fun pins s σ H R I ⟨F, ρ, st, E, at_, o⟩ => ?_⟩
  refine PyProof.Rows.Call_ (ld_blt I hg hm PyProof.Rows.boot_enumerate (PyProof.Rows.callWith_type1 (thn ((pa_cons ha pa_nil hs).run pos pins s σ H (fun vs H1 => ∃ x, vs = [x] ∧ ∃ ρ1 s1 v1, Go ρ st H ρ1 s1 H1 ∧ Rel G F ρ1 s1 H1 ∧ RepV G ρ1 (Mu ρ1 s1 F) H1 v1 x ∧ Out G F ρ1 s1 H1 (fun C d H' => W C d σ H') (JOk G) (enumS v1 s1) R) I
    ⟨F, ρ, st, E, at_, (Out.bind (R := RepV G) o).mono fun x H1 h => ⟨x, rfl, h⟩⟩) fun us s1 ⟨vs, H1, I1, r1, q1⟩ => ?_) hs rfl))
  obtain ⟨x, rfl, ρ1, t1, v1, g1, l1, x1, o1⟩ := q1
  obtain ⟨u, rfl, ru⟩ := vals1 r1
  cases v1 with
  | d z =>
    cases z with
    | tup ds =>
      simp only [RepV, RepD] at x1
      obtain ⟨p, xs, rfl, hq, _, rr⟩ := x1
      cases ru
      obtain ⟨its, rv, p', hz⟩ := I1.tuple (by rw [hK]; exact hq)
      have hpT : s1.heap.IsTuple p its.toArray := p'
      have hpl : p < s1.heap.objs.size := by obtain ⟨ob, h1, _⟩ := hpT; exact Heap.lt_size h1
      refine enum_begin1 (begins_tuple p its.toArray) hpT fun h' he hit hsz hk => wpAny_pyIter_enum he ?_
      have I2 : L2.Inv X pins σ H1 { s1 with heap := h' } := I1.kept (t' := s1.toks) hk
      refine ⟨s1.heap.objs.size + 1, [s1.heap.objs.size + 1, s1.heap.objs.size], _, _, H1, rfl, I2, turn_enumT p (s1.heap.objs.size + 1) s1.heap.objs.size, ⟨⟨.none, he⟩, ⟨_, hit, rfl, rfl⟩, Nat.succ_ne_self _, Nat.ne_of_lt hpl, Nat.ne_of_lt (Nat.lt_succ_of_lt hpl)⟩, fun b hb => ?_, ?_⟩
      · have e' : b = s1.heap.objs.size + 1 ∨ b = s1.heap.objs.size := by simpa using hb
        have hle : s1.heap.objs.size ≤ b := by
          rcases e' with z | z
          · rw [z]; exact Nat.le_add_right _ _
          · rw [z]; exact Nat.le_refl _
        exact I1.fpOk hle (I1.hok.fresh hle)
      · rw [hK]
        refine Out.ret (R := JOk G) o1 l1 (joE rr fun M2 H2 t i => ⟨fun y hy => ⟨⟨xs, y, t.sqT hq, hy⟩, ?_⟩, fun hi => ⟨xs, t.sqT hq, hi⟩⟩)
        rintro v H3 ⟨T, x, e1, e2, e3, e4⟩
        have := e4 xs (t.sqT hq)
        rw [hy] at this; cases this
        exact ⟨T, e1, e2, e3⟩
    | lst ds =>
      simp only [RepV, RepD] at x1
      obtain ⟨p, xs, rfl, nM, hq, _, rr⟩ := x1
      cases ru
      obtain ⟨its, rv, p', hz⟩ := I1.list (.inl (.inl hq))
      refine call_enumerate_list p'.isList fun h' he hit hsz hk => wpAny_pyIter_enum he ?_
      have I2 : L2.Inv X pins σ H1 { s1 with heap := h' } := I1.kept (t' := s1.toks) hk
      refine ⟨s1.heap.objs.size + 1, [s1.heap.objs.size + 1, s1.heap.objs.size], _, _, H1, rfl, I2, turn_enum p (s1.heap.objs.size + 1) s1.heap.objs.size, ⟨⟨.none, he⟩, hit, Nat.succ_ne_self _⟩, fun b hb => ?_, ?_⟩
      · have e' : b = s1.heap.objs.size + 1 ∨ b = s1.heap.objs.size := by simpa using hb
        have hle : s1.heap.objs.size ≤ b := by
          rcases e' with z | z
          · rw [z]; exact Nat.le_add_right _ _
          · rw [z]; exact Nat.le_refl _
        exact I1.fpOk hle (I1.hok.fresh hle)
      · rw [hK]
        have sq : ∀ {M2 : Addr → Prop} {H2 : Hp}, Still (Mu ρ1 t1 F) H1 M2 H2 → SqL G.K H2 p xs := fun t => .inl (.inl (t.fz _ _ hq nM).1)
        refine Out.ret (R := JOk G) o1 l1 (joE rr fun M2 H2 t i => ⟨fun y hy => ⟨⟨xs, y, sq t, hy⟩, ?_⟩, fun hi => ⟨xs, sq t, hi⟩⟩)
        rintro v H3 ⟨T, x, e1, e2, e3, e4⟩
        have := e4 xs (sq t)
        rw [hy] at this; cases this
        exact ⟨T, e1, e2, e3⟩
    | _ => exact o1.elim
  | _ => exact o1.elim
end
end Ev
end
section
set_option Elab.async false
set_option linter.all false
set_option autoImplicit false
set_option maxRecDepth 100000
set_option maxHeartbeats 4000000
/-! Targets, statements, loops, comprehensions. -/
namespace Ev
open PySem L2
section
variable {G : Gd} {X : Cx} {W : WX} {a b c tg : Expr} {ca cb cc : EC} {ba : BC} {pos pp : Pos}

/-! ### targets -/
def tG (G : Gd) (t : TC) : TG := fun x σ H Q => ∃ F ρ s E v, At G F ρ s H E σ ∧ RepV G ρ (Mu ρ s F) H v x ∧ match t v E s with
  | some (E', s') => ∀ σ' ρ' H', Go ρ s H ρ' s' H' → At G F ρ' s' H' E' σ' → Q σ' H'
  | none => False
def tGs (G : Gd) (ts : List TC) : TGs := fun xs σ H Q => ∃ F ρ s E vs, At G F ρ s H E σ ∧ RepVs G ρ (Mu ρ s F) H vs xs ∧ match Ev.ts ts vs E s with
  | some (E', s') => ∀ σ' ρ' H', Go ρ s H ρ' s' H' → At G F ρ' s' H' E' σ' → Q σ' H'
  | none => False
abbrev SG (G : Gd) (X : Cx) (t : TC) (e : Expr) : Prop := PG X e (tG G t)
abbrev SGs (G : Gd) (X : Cx) (t : List TC) (e : List Expr) : Prop := PGs X e (tGs G t)
theorem PG.imp {e : Expr} {t t' : TG} (h : PG X e t) (i : ∀ v σ H Q, t' v σ H Q → t v σ H Q) : PG X e t' := ⟨fun pins s σ H v u Q I r q => h.run pins s σ H v u Q I r (i v σ H Q q)⟩
theorem PG.or {e : Expr} {t t' : TG} (h : PG X e t) (h' : PG X e t') : PG X e (fun v σ H Q => t v σ H Q ∨ t' v σ H Q) := ⟨fun pins s σ H v u Q I r q => q.elim (fun q => h.run pins s σ H v u Q I r q) fun q => h'.run pins s σ H v u Q I r q⟩
theorem PGs.imp {e : List Expr} {t t' : TGs} (h : PGs X e t) (i : ∀ v σ H Q, t' v σ H Q → t v σ H Q) : PGs X e t' := ⟨fun pins s σ H v u Q I r q => h.run pins s σ H v u Q I r (i v σ H Q q)⟩
theorem sg_n {i : Nat} {x : Str} (hN : X.N.Nodup) (hi : X.N[i]? = some x := by rfl) (hx : Loc X.env.scope x := by first | exact .inl rfl | exact .inr rfl) (hf : X.fn x = true ∨ X.env.scope.names.lookup x = some .local := by first | exact .inl rfl | exact .inr rfl) : SG G X (tn i) (.Name x pos) :=
  PG.imp (pg_name hN hi hx hf) fun v σ H Q ⟨F, ρ, s, E, w, at_, r, o⟩ => o _ ρ H .refl ⟨at_.rel, at_.env.set r i⟩
theorem sgs_nil : SGs G X [] [] := PGs.imp pgs_nil fun vs σ H Q ⟨F, ρ, s, E, ws, at_, r, o⟩ => by
  cases ws with
  | nil => cases vs with
    | nil => exact ⟨rfl, o σ ρ H .refl at_⟩
    | cons _ _ => exact r.elim
  | cons _ _ => exact o.elim
theorem sgs_cons {e : Expr} {es : List Expr} {t : TC} {l : List TC} (h1 : SG G X t e) (h2 : SGs G X l es) (hs : (assignEach (e :: es) X.env).map (·.2) = assign e X.env :: (assignEach es X.env).map (·.2) := by rfl) : SGs G X (t :: l) (e :: es) :=
  PGs.imp (pgs_cons h1 h2 hs) fun vs σ H Q ⟨F, ρ, s, E, ws, at_, r, o⟩ => by
    cases ws with
    | nil => exact o.elim
    | cons w ws =>
      cases vs with
      | nil => exact r.elim
      | cons v vs =>
        refine ⟨v, vs, rfl, F, ρ, s, E, w, at_, r.1, ?_⟩
        simp only [Ev.ts] at o
        cases e1 : t w E s with
        | none => rw [e1] at o; exact o.elim
        | some p =>
          rw [e1] at o
          intro σ1 ρ1 H1 g1 at1
          refine ⟨F, ρ1, p.2, p.1, ws, at1, at_.rel.vals g1 r.2, ?_⟩
          cases e2 : Ev.ts l ws p.1 p.2 with
          | none => simp only [e2] at o
          | some q =>
            simp only [e2] at o
            exact fun σ' ρ' H' g at' => o σ' ρ' H' (g1.trans g) at'
theorem sg_t {es : List Expr} {kk : Nat} {l : List TC} (hK : X.K = G.K) (hc : X.calm = true) (h : SGs G X l es) (hn : (assignEach es X.env).length = l.length := by rfl) (hst : (assignEach es X.env).findIdx? (·.1) = none := by rfl) : SG G X (tt l) (.Tuple es kk pos) :=
  PG.imp (PG.or (pg_tup hc h hn hst) (pg_lst hc h hn hst)) fun v σ H Q ⟨F, ρ, s, E, w, at_, r, o⟩ => by
    have len : ∀ (l : List TC) (ws : List Val) E s p, Ev.ts l ws E s = some p → ws.length = l.length := by
      intro l
      induction l with
      | nil => intro ws E s p h; cases ws with
        | nil => rfl
        | cons _ _ => cases h
      | cons t l ih => intro ws E s p h; cases ws with
        | nil => cases h
        | cons w ws =>
          simp only [Ev.ts] at h
          split at h
          · simp [ih _ _ _ _ h]
          · cases h
    unfold tt at o
    cases ei : items w s with
    | none => rw [ei] at o; exact o.elim
    | some ws =>
      rw [ei] at o
      simp only at o
      have el : ws.length = l.length := by
        cases e2 : Ev.ts l ws E s with
        | none => rw [e2] at o; exact o.elim
        | some p => exact len _ _ _ _ _ e2
      cases w with
      | d z =>
        cases z with
        | tup ds =>
          simp at ei
          subst ei
          have r' := r
          simp only [RepV, RepD] at r'
          obtain ⟨p, xs, rfl, hq, _, rr⟩ := r'
          exact .inl ⟨p, xs, rfl, by rw [hK]; exact hq, by rw [← rr.len]; simpa using el, F, ρ, s, E, _, at_, rr.vs, o⟩
        | lst ds =>
          simp at ei
          subst ei
          have r' := r
          simp only [RepV, RepD] at r'
          obtain ⟨p, xs, rfl, _, hq, _, rr⟩ := r'
          exact .inr ⟨p, xs, rfl, .inl (.inl hq), by rw [← rr.len]; simpa using el, F, ρ, s, E, _, at_, rr.vs, o⟩
        | _ => simp [items] at ei
      | loc n =>
        obtain ⟨p, hp, rfl⟩ := r
        simp only [items] at ei
        split at ei
        · rename_i ds ho
          obtain ⟨xs, hx, _, rr⟩ := at_.rel.ob n _ p ho hp
          cases ei
          exact .inr ⟨p, xs, rfl, .inl (.inl hx), by rw [← rr.len]; simpa using el, F, ρ, s, E, _, at_, rr.vs, o⟩
        · rename_i ds ho
          obtain ⟨xs, hx, _, rr⟩ := at_.rel.ob n _ p ho hp
          cases ei
          exact .inr ⟨p, xs, rfl, .inl (.inl hx), by rw [← rr.len]; exact el, F, ρ, s, E, _, at_, rr, o⟩
        · cases ei
      | exn _ _ => cases ei
/-! ### o[i] = x -/
def rPut (G : Gd) : TSet := fun o i v H Q => ∃ F ρ s vo vi vv, Rel G F ρ s H ∧ RepV G ρ (Mu ρ s F) H vo o ∧ RepV G ρ (Mu ρ s F) H vi i ∧ RepV G ρ (Mu ρ s F) H vv v ∧ match pPut vo vi vv s with
  | some s' => ∀ ρ' H', Go ρ s H ρ' s' H' → Rel G F ρ' s' H' → Q H'
  | none => False
theorem putp (hu : X.A.units + 64 < cLine) : PSet X (rPut G) := by
  intro pins s σ H x i v ov iv u Q I ro ri rv ⟨F, ρ, st, vo, vi, vv, l, x1, x2, x3, o⟩
  unfold pPut at o
  cases vo with
  | loc n =>
    obtain ⟨p, hp, rfl⟩ := x1
    simp only at o
    cases ho : st[n]? with
    | none => rw [ho] at o; exact o.elim
    | some ob =>
      rw [ho] at o
      have q := l.ob n _ p ho hp
      cases ob with
      | dct kvs =>
        obtain ⟨ks, hk, z, rr⟩ := q
        simp only at o
        cases hq : keyOf vi with
        | none => rw [hq] at o; exact o.elim
        | some q =>
          rw [hq] at o
          simp only at o
          by_cases hl : kvs.length < line
          · rw [if_pos hl] at o
            have lv := live_of ho (by simp)
            have ei := key_of' x2 hq
            subst ei
            cases ro
            have g : DPut H p (kV q) v (upd H p (.dK (L2.putK ks q v))) := DPut.k hk (by rw [← RepF_len rr, line_eq]; exact hl)
            refine d_setItem (by omega) I g ri rv fun s4 I4 => ⟨_, I4, o _ _ (go_set hp lv ⟨_, hk⟩) (l.set hp lv fun M' t => ⟨_, upd_same, ?_, ?_⟩)⟩
            · have : (putK kvs q vv).length ≤ kvs.length + 1 := by unfold putK; split <;> simp
              rw [line_eq]; omega
            · exact RepF.put q (RepV.still t (fun _ _ h => h) _ _ x3) (RepF.still t (fun _ _ h => h) _ _ rr)
          · rw [if_neg hl] at o; exact o.elim
      | lst ds =>
        obtain ⟨xs, hx, z, rr⟩ := q
        simp only at o
        split at o
        · rename_i s' he
          split at he
          · rename_i j w
            split at he
            · rename_i m hm
              cases he
              have lv := live_of ho (by simp)
              obtain rfl := int_of x2
              refine set_list pins s σ H _ _ v ov iv u Q I ro ri rv ⟨p, xs, j, m, rfl, rfl, hx, by rw [← rr.len]; exact hm, o _ _ (go_set hp lv ⟨_, hx⟩) (l.set hp lv fun M' t => ⟨_, upd_same, by rw [List.length_set]; exact z, ?_⟩)⟩
              exact RepDs.set (RepD.still t _ _ x3) m (RepDs.still t _ _ rr)
            · cases he
          · cases he
        · exact o.elim
      | _ => exact o.elim
  | _ => exact o.elim
theorem sg_i (hu : X.A.units + 64 < cLine) (ha : SE G W X ca a) (hb : SE G W X cb b)
    (hs : ∀ v, assign (.Subscript a b pos) X.env v = (do
      let ov ← holding [v] (eval a X.env)
      let iv ← holding [v, ov] (eval b X.env)
      standAt pos
      holding [v, ov, iv] (setItem ov iv v)
      release [v, ov, iv] []) := by intro _; rfl) : SG G X (ti ca cb) (.Subscript a b pos) :=
  PG.imp (pg_sub ha hb (putp hu) hs) fun v σ H Q ⟨F, ρ, s, E, w, at_, r, o⟩ => by
    unfold ti at o
    refine ⟨F, ρ, s, E, at_, ?_⟩
    cases e1 : ca E s with
    | fail => rw [e1] at o; exact o.elim
    | exc _ _ _ => rw [e1] at o; exact o.elim
    | ok ov s1 =>
      rw [e1] at o
      simp only at o
      intro x ρ1 H1 g1 l1 x1
      have at1 := at_.go g1 l1
      refine ⟨F, ρ1, s1, E, at1, ?_⟩
      cases e2 : cb E s1 with
      | fail => rw [e2] at o; exact o.elim
      | exc _ _ _ => rw [e2] at o; exact o.elim
      | ok iv s2 =>
        rw [e2] at o
        simp only at o
        intro y ρ2 H2 g2 l2 x2
        refine ⟨F, ρ2, s2, ov, iv, w, l2, l1.val g2 x1, x2, l1.val g2 (at_.rel.val g1 r), ?_⟩
        cases e3 : pPut ov iv w s2 with
        | none => rw [e3] at o; exact o.elim
        | some s3 =>
          rw [e3] at o
          simp only [Option.map_some] at o
          exact fun ρ' H' g l => o σ ρ' H' ((g1.trans g2).trans g) ((at1.go g2 l2).go g l)

/-! ### statements -/
def SOut (G : Gd) (F : Addr → Prop) (ρ : List Addr) (s : Store) (H : Hp) (W : WX) (r : SRes) (D : Ends) : Prop :=
  match r with
  | .nx E s' => ∀ σ' ρ' H', Go ρ s H ρ' s' H' → At G F ρ' s' H' E σ' → D.nx σ' H'
  | .bk E s' => ∀ σ' ρ' H', Go ρ s H ρ' s' H' → At G F ρ' s' H' E σ' → D.bk σ' H'
  | .ct E s' => ∀ σ' ρ' H', Go ρ s H ρ' s' H' → At G F ρ' s' H' E σ' → D.ct σ' H'
  | .rt v s' => ∀ x ρ' H', Go ρ s H ρ' s' H' → Rel G F ρ' s' H' → RepV G ρ' (Mu ρ' s' F) H' v x → D.rt x H'
  | .exc c fs E s' => ∀ σ' ρ' H' d xs, Go ρ s H ρ' s' H' → At G F ρ' s' H' E σ' → H' d = some (.xd xs) → (∀ f z, fs.lookup f = some z → ∃ y, xs.lookup f = some y ∧ RepD G.K (Mu ρ' s' F) H' z y) → W (.ref (G.ca c)) (some d) σ' H'
  | .fail => False
theorem SOut.shift {F : Addr → Prop} {ρ ρ1 : List Addr} {s s1 : Store} {H H1 : Hp} {r : SRes} {D : Ends} (g : Go ρ s H ρ1 s1 H1) (o : SOut G F ρ s H W r D) : SOut G F ρ1 s1 H1 W r D := by
  cases r with
  | nx E s' => exact fun σ' ρ' H' g' at' => o σ' ρ' H' (g.trans g') at'
  | bk E s' => exact fun σ' ρ' H' g' at' => o σ' ρ' H' (g.trans g') at'
  | ct E s' => exact fun σ' ρ' H' g' at' => o σ' ρ' H' (g.trans g') at'
  | rt v s' => exact fun x ρ' H' g' => o x ρ' H' (g.trans g')
  | exc c fs E s' => exact fun σ' ρ' H' d xs g' => o σ' ρ' H' d xs (g.trans g')
  | fail => exact o
def tS (G : Gd) (W : WX) (c : SC) : TS := fun D σ H => ∃ F ρ s E, At G F ρ s H E σ ∧ SOut G F ρ s H W (c E s) D
abbrev S1 (G : Gd) (W : WX) (X : Cx) (c : SC) (e : Stmt) : Prop := PS X e (tS G W c)
abbrev SS (G : Gd) (W : WX) (X : Cx) (c : SC) (e : List Stmt) : Prop := PSs X e (tS G W c)
theorem ss_nil : SS G W X sNil [] := PSs.imp pss_nil fun D σ H ⟨F, ρ, s, E, at_, o⟩ => o σ ρ H .refl at_
theorem ss_cons {st : Stmt} {rest : List Stmt} {x y : SC} (h : S1 G W X x st) (h2 : SS G W X y rest) : SS G W X (sq x y) (st :: rest) :=
  PSs.imp (pss_cons h h2) fun D σ H ⟨F, ρ, s, E, at_, o⟩ => by
    refine ⟨F, ρ, s, E, at_, ?_⟩
    unfold sq at o
    cases e : x E s with
    | nx E1 s1 => rw [e] at o; exact fun σ' ρ' H' g at' => ⟨F, ρ', s1, E1, at', SOut.shift g o⟩
    | bk E1 s1 => rw [e] at o; exact o
    | ct E1 s1 => rw [e] at o; exact o
    | rt E1 s1 => rw [e] at o; exact o
    | exc c fs E1 s1 => rw [e] at o; exact o
    | fail => rw [e] at o; exact o
/-- from an expression -/
theorem SOut.of {A B : Type} {F : Addr → Prop} {ρ : List Addr} {s : Store} {H : Hp} {E : Env} {σ : St} {R : RR A B} {r : Res A} {f : A → Store → SRes} {D : Ends} (at_ : At G F ρ s H E σ) (o : SOut G F ρ s H W (ofRes r E f) D) :
    Out G F ρ s H (fun C d H' => W C d σ H') R r fun b H1 => ∃ ρ1 s1 a, Go ρ s H ρ1 s1 H1 ∧ At G F ρ1 s1 H1 E σ ∧ R ρ1 (Mu ρ1 s1 F) H1 a b ∧ SOut G F ρ1 s1 H1 W (f a s1) D := by
  cases r with
  | ok a s1 => exact fun b ρ1 H1 g l x => ⟨ρ1, s1, a, g, at_.go g l, x, SOut.shift g o⟩
  | exc c fs s1 => exact fun ρ' H' d xs g l e q => o σ ρ' H' d xs g (at_.go g l) e q
  | fail => exact o
theorem s_pass : S1 G W X sNil (.Pass pos) := PS.imp ps_pass fun D σ H ⟨F, ρ, s, E, at_, o⟩ => o σ ρ H .refl at_
theorem s_break : S1 G W X sBk (.Break pos) := PS.imp ps_break fun D σ H ⟨F, ρ, s, E, at_, o⟩ => o σ ρ H .refl at_
theorem s_cont : S1 G W X sCt (.Continue pos) := PS.imp ps_continue fun D σ H ⟨F, ρ, s, E, at_, o⟩ => o σ ρ H .refl at_
theorem set_to {t : TC} {D : Ends} {σ : St} {H : Hp} (h : tS G W (sSet t ca) D σ H) : tAsg (tE G W ca) (tG G t) D σ H := by
  obtain ⟨F, ρ, s, E, at_, o⟩ := h
  refine ⟨F, ρ, s, E, at_, (SOut.of (R := RepV G) at_ o).mono ?_⟩
  rintro x H1 ⟨ρ1, s1, v1, g1, at1, x1, o1⟩
  refine ⟨F, ρ1, s1, E, v1, at1, x1, ?_⟩
  cases e : t v1 E s1 with
  | none => rw [e] at o1; exact o1
  | some p => rw [e] at o1; exact o1
/-- x = e -/
theorem s_set {i : Nat} {x : Str} {pos' : Pos} (hN : X.N.Nodup) (ha : SE G W X ca a) (hi : X.N[i]? = some x := by rfl) (hx : Loc X.env.scope x := by first | exact .inl rfl | exact .inr rfl) (hs : swapsWith a (some (.Name x pos')) pos.line X.env = pure false := by rfl) (hf : X.fn x = true ∨ X.env.scope.names.lookup x = some .local := by first | exact .inl rfl | exact .inr rfl) :
    S1 G W X (sSet (tn i) ca) (.Assign [.Name x pos'] a pos) :=
  PS.imp (ps_set hN hi hx ha hs hf) fun D σ H h => by
    obtain ⟨F, ρ, s, E, at_, o⟩ := h
    refine ⟨F, ρ, s, E, at_, (SOut.of (R := RepV G) at_ o).mono ?_⟩
    rintro x H1 ⟨ρ1, s1, v1, g1, at1, x1, o1⟩
    exact o1 _ ρ1 H1 .refl ⟨at1.rel, at1.env.set x1 i⟩
/-- any other target -/
theorem s_asg {t : TC} (ha : SE G W X ca a) (hg : SG G X t tg) (hs : swapsWithSole [tg] a pos.line X.env = pure false := by rfl) (hw : swappedStores [tg] a X.env = pure none := by rfl) (h1 : (assignEach [tg] X.env).map (·.2) = [assign tg X.env] := by rfl) :
    S1 G W X (sSet t ca) (.Assign [tg] a pos) := PS.imp (ps_asg ha hg hs hw h1) fun D σ H h => set_to h
theorem s_par {i j : Nat} {x y : Str} {px py pt : Pos} {kt k2 pt2} (hc : X.calm = true) (hN : X.N.Nodup) (ha : SE G W X ca a) (hb : SE G W X cb b) (hw : swappedStores [.Tuple [.Name x px, .Name y py] kt pt] (.Tuple [a, b] k2 pt2) X.env = pure (some [x, y])) (hij : i ≠ j := by decide) (hi : X.N[i]? = some x := by rfl) (hj : X.N[j]? = some y := by rfl)
    (hx : X.env.scope.names.lookup x = some .local := by rfl) (hy : X.env.scope.names.lookup y = some .local := by rfl) (hs : swapsWithSole [.Tuple [.Name x px, .Name y py] kt pt] (.Tuple [a, b] k2 pt2) pos.line X.env = pure false := by rfl)
    (h1 : starEach [a, b] X.env = (false, eval a X.env) :: starEach [b] X.env := by rfl) (h2 : starEach [b] X.env = (false, eval b X.env) :: starEach [] X.env := by rfl) :
    S1 G W X (sPar i j ca cb) (.Assign [.Tuple [.Name x px, .Name y py] kt pt] (.Tuple [a, b] k2 pt2) pos) :=
  PS.imp (ps_par hc hN hi hj hij hx hy (pa_cons ha (pa_cons hb pa_nil h2) h1) hw hs) fun D σ H ⟨F, ρ, s, E, at_, o⟩ => by
    refine ⟨F, ρ, s, E, at_, (SOut.of (R := RepV G) at_ o).mono ?_⟩
    rintro x H1 ⟨ρ1, s1, v1, g1, at1, x1, o1⟩
    refine ⟨F, ρ1, s1, E, at1, (SOut.of (R := RepV G) at1 o1).mono ?_⟩
    rintro y H2 ⟨ρ2, s2, v2, g2, at2, x2, o2⟩
    exact ⟨x, y, rfl, o2 _ ρ2 H2 .refl ⟨at2.rel, (at2.env.set (at1.rel.val g2 x1) i).set x2 j⟩⟩
def sPar3 (i j l : Nat) (a b c : EC) : SC := fun E s => ofRes (a E s) E fun x s1 => ofRes (b E s1) E fun y s2 => ofRes (c E s2) E fun z s3 => .nx (((E.set i (some x)).set j (some y)).set l (some z)) s3
theorem s_par3 {i j l : Nat} {x y z : Str} {px py pz pt : Pos} {kt k2 pt2} (hc : X.calm = true) (hN : X.N.Nodup) (ha : SE G W X ca a) (hb : SE G W X cb b) (hd : SE G W X cc c) (hw : swappedStores [.Tuple [.Name x px, .Name y py, .Name z pz] kt pt] (.Tuple [a, b, c] k2 pt2) X.env = pure (some [x, y, z])) (hij : i ≠ j := by decide) (hil : i ≠ l := by decide) (hjl : j ≠ l := by decide)
    (hi : X.N[i]? = some x := by rfl) (hj : X.N[j]? = some y := by rfl) (hl : X.N[l]? = some z := by rfl)
    (hx : X.env.scope.names.lookup x = some .local := by rfl) (hy : X.env.scope.names.lookup y = some .local := by rfl) (hz : X.env.scope.names.lookup z = some .local := by rfl) (hs : swapsWithSole [.Tuple [.Name x px, .Name y py, .Name z pz] kt pt] (.Tuple [a, b, c] k2 pt2) pos.line X.env = pure false := by rfl)
    (h1 : starEach [a, b, c] X.env = (false, eval a X.env) :: starEach [b, c] X.env := by rfl) (h2 : starEach [b, c] X.env = (false, eval b X.env) :: starEach [c] X.env := by rfl) (h3 : starEach [c] X.env = (false, eval c X.env) :: starEach [] X.env := by rfl) :
    S1 G W X (sPar3 i j l ca cb cc) (.Assign [.Tuple [.Name x px, .Name y py, .Name z pz] kt pt] (.Tuple [a, b, c] k2 pt2) pos) :=
  PS.imp (ps_par3 hc hN hi hj hl hij hil hjl hx hy hz (pa_cons ha (pa_cons hb (pa_cons hd pa_nil h3) h2) h1) hw hs) fun D σ H ⟨F, ρ, s, E, at_, o⟩ => by
    refine ⟨F, ρ, s, E, at_, (SOut.of (R := RepV G) at_ o).mono ?_⟩
    rintro x H1 ⟨ρ1, s1, v1, g1, at1, x1, o1⟩
    refine ⟨F, ρ1, s1, E, at1, (SOut.of (R := RepV G) at1 o1).mono ?_⟩
    rintro y H2 ⟨ρ2, s2, v2, g2, at2, x2, o2⟩
    refine ⟨F, ρ2, s2, E, at2, (SOut.of (R := RepV G) at2 o2).mono ?_⟩
    rintro z H3 ⟨ρ3, s3, v3, g3, at3, x3, o3⟩
    exact ⟨x, y, z, rfl, o3 _ ρ3 H3 .refl ⟨at3.rel, ((at3.env.set (at2.rel.val g3 (at1.rel.val g2 x1)) i).set (at2.rel.val g3 x2) j).set x3 l⟩⟩
theorem s_exp (ha : SE G W X ca a) (hs : swapsWith a none pos.line X.env = pure false := by rfl) : S1 G W X (sExp ca) (.Expr a pos) :=
  PS.imp (ps_expr ha hs) fun D σ H ⟨F, ρ, s, E, at_, o⟩ => by
    refine ⟨F, ρ, s, E, at_, (SOut.of (R := RepV G) at_ o).mono ?_⟩
    rintro x H1 ⟨ρ1, s1, v1, g1, at1, x1, o1⟩
    exact o1 σ ρ1 H1 .refl at1
theorem s_ret (ha : SE G W X ca a) : S1 G W X (sRet ca) (.Return (some a) pos) :=
  PS.imp (ps_ret ha) fun D σ H ⟨F, ρ, s, E, at_, o⟩ => by
    refine ⟨F, ρ, s, E, at_, (SOut.of (R := RepV G) at_ o).mono ?_⟩
    rintro x H1 ⟨ρ1, s1, v1, g1, at1, x1, o1⟩
    exact o1 x ρ1 H1 .refl at1.rel x1
theorem s_retN : S1 G W X sRetN (.Return none pos) := PS.imp ps_retN fun D σ H ⟨F, ρ, s, E, at_, o⟩ => o .non ρ H .refl at_.rel (by simp [RepV, RepD])
theorem s_if {x y : SC} {l l' : List Stmt} (hc : ST G W X ba c) (ha : SS G W X x l) (hb : SS G W X y l') : S1 G W X (sIf ba x y) (.If c l l' pos) :=
  PS.imp (ps_if hc ha hb) fun D σ H ⟨F, ρ, s, E, at_, o⟩ => by
    refine ⟨F, ρ, s, E, at_, (SOut.of (R := rB) at_ o).mono ?_⟩
    rintro x H1 ⟨ρ1, s1, v1, g1, at1, rfl, o1⟩
    cases v1 with
    | true => exact ⟨F, ρ1, s1, E, at1, o1⟩
    | false => exact ⟨F, ρ1, s1, E, at1, o1⟩
theorem s_aug {i : Nat} {x : Str} {op : Operator} {p : Val → Val → Store → Res Val} {pos' : Pos} (hN : X.N.Nodup) (ho : OpP G X (inplaceOp op) p) (ha : SE G W X ca a) (hi : X.N[i]? = some x := by rfl) (hx : Loc X.env.scope x := by first | exact .inl rfl | exact .inr rfl) (hf : X.fn x = true ∨ X.env.scope.names.lookup x = some .local := by first | exact .inl rfl | exact .inr rfl) :
    S1 G W X (sAug i p ca) (.AugAssign (.Name x pos') op a pos) :=
  PS.imp (ps_aug (ti := rP G p) hN hi hx ha ho hf) fun D σ H ⟨F, ρ, s, E, at_, o⟩ => by
    unfold sAug at o
    cases e : E[i]? with
    | none => rw [e] at o; exact o.elim
    | some w =>
      cases w with
      | none => rw [e] at o; exact o.elim
      | some w =>
        rw [e] at o
        obtain ⟨y, hy, ry⟩ := at_.env.get i w e
        refine ⟨y, hy, F, ρ, s, E, at_, (SOut.of (R := RepV G) at_ o).mono ?_⟩
        rintro x H1 ⟨ρ1, s1, v1, g1, at1, x1, o1⟩
        refine ⟨F, ρ1, s1, _, w, v1, at1.rel, at_.rel.val g1 ry, x1, (SOut.of (R := RepV G) at1 o1).mono ?_⟩
        rintro z H2 ⟨ρ2, s2, v2, g2, at2, x2, o2⟩
        exact o2 _ ρ2 H2 .refl ⟨at2.rel, at2.env.set x2 i⟩

/-! ### loops -/
theorem NewT.go {F : Addr → Prop} {ρ : List Addr} {s : Store} {H H' : Hp} {E : Env} {σ : St} (n : NewT H H') (at_ : At G F ρ s H E σ) : Go ρ s H ρ s H' ∧ At G F ρ s H' E σ := by
  rcases n with rfl | ⟨p, xs, hp, rfl⟩
  · exact ⟨.refl, at_⟩
  · exact ⟨go_new hp, at_.go (go_new hp) (at_.rel.new hp)⟩
theorem whl_to {tb : SC} {D : Ends} {F : Addr → Prop} : ∀ (n : Nat) {ρ : List Addr} {s : Store} {H : Hp} {E : Env} {σ : St}, At G F ρ s H E σ → SOut G F ρ s H W (whl ba tb n E s) D → tWhile (tT G W ba) (tS G W tb) D σ H := by
  intro n ρ s H E σ at_ o
  refine ⟨fun m σ H => ∃ ρ s E, At G F ρ s H E σ ∧ SOut G F ρ s H W (whl ba tb m E s) D, ⟨n, ρ, s, E, at_, o⟩, ?_⟩
  rintro m σ H ⟨ρ, s, E, at_, o⟩
  cases m with
  | zero => exact o.elim
  | succ m =>
    refine ⟨F, ρ, s, E, at_, (SOut.of (R := rB) at_ o).mono ?_⟩
    rintro x H1 ⟨ρ1, s1, v1, g1, at1, rfl, o1⟩
    cases v1 with
    | false =>
      rw [if_neg Bool.false_ne_true]
      exact o1 σ ρ1 H1 .refl at1
    | true =>
      rw [if_pos rfl]
      refine ⟨fun σ H => ∃ ρ s E, At G F ρ s H E σ ∧ SOut G F ρ s H W (whl ba tb m E s) D, fun σ' H' h => ⟨m, Nat.lt_succ_self _, h⟩, F, ρ1, s1, E, at1, ?_⟩
      simp only [if_true] at o1
      cases e : tb E s1 with
      | nx E2 s2 => rw [e] at o1; exact fun σ' ρ' H' g at' => ⟨ρ', s2, E2, at', SOut.shift g o1⟩
      | ct E2 s2 => rw [e] at o1; exact fun σ' ρ' H' g at' => ⟨ρ', s2, E2, at', SOut.shift g o1⟩
      | bk E2 s2 => rw [e] at o1; exact o1
      | rt v s2 => rw [e] at o1; exact o1
      | exc c fs E2 s2 => rw [e] at o1; exact o1
      | fail => rw [e] at o1; exact o1
theorem s_while {x : SC} {l : List Stmt} (hp : PassesOwn (model X.prog X.w) X.A X.env X.xe) (hc : ST G W X ba c) (hb : SS G W X x l) : S1 G W X (sWhl ba x) (.While c l [] pos) :=
  PS.imp (ps_while hp hc hb) fun D σ H ⟨F, ρ, s, E, at_, o⟩ => whl_to _ at_ o
theorem for_to {ic : IC} {t : TC} {tb : SC} {D : Ends} {σ : St} {H : Hp} (h : tS G W (sFor t ic tb) D σ H) : tFor (tI G W ic) (tG G t) (tS G W tb) D σ H := by
  obtain ⟨F, ρ, s, E, at_, o⟩ := h
  refine ⟨F, ρ, s, E, at_, (SOut.of (R := JOk G) at_ o).mono ?_⟩
  rintro J H0 ⟨ρ0, s0, sr, g0, at0, jo, o0⟩
  -- a turn's body
  have body : ∀ {ρ2 : List Addr} {s2 : Store} {H2 : Hp} {E2 : Env} {σ2 : St} {N : St → Hp → Prop} {y : V} {v : Val} {H3 : Hp} {K2 : Env → Store → SRes}, At G F ρ2 s2 H2 E2 σ2 → NewT H2 H3 → (∀ M3, Still (Mu ρ2 s2 F) H2 M3 H3 → RepV G ρ2 M3 H3 v y) →
      SOut G F ρ2 s2 H2 W (match t v E2 s2 with | none => .fail | some (E1, s1) => match tb E1 s1 with | .nx E2 s2 => K2 E2 s2 | .ct E2 s2 => K2 E2 s2 | .bk E2 s2 => .nx E2 s2 | r => r) D →
      (∀ ρ4 s4 H4 E4 σ4, Go ρ2 s2 H2 ρ4 s4 H4 → At G F ρ4 s4 H4 E4 σ4 → SOut G F ρ4 s4 H4 W (K2 E4 s4) D → N σ4 H4) →
      tG G t y σ2 H3 fun σ3 H3 => tS G W tb { D with nx := N, ct := N, bk := D.nx } σ3 H3 := by
    intro ρ2 s2 H2 E2 σ2 N y v H3 K2 at2 nt rv o2 hN
    obtain ⟨g3, at3⟩ := nt.go at2
    refine ⟨F, ρ2, s2, E2, v, at3, rv _ (at2.rel.still g3), ?_⟩
    cases e : t v E2 s2 with
    | none => rw [e] at o2; exact o2
    | some p =>
      rw [e] at o2
      simp only at o2
      intro σ4 ρ4 H4 g4 at4
      refine ⟨F, ρ4, p.2, p.1, at4, ?_⟩
      have g34 := g3.trans g4
      cases eb : tb p.1 p.2 with
      | nx E5 s5 => rw [eb] at o2; exact fun σ' ρ' H' g at' => hN ρ' s5 H' E5 σ' (g34.trans g) at' (SOut.shift (g34.trans g) o2)
      | ct E5 s5 => rw [eb] at o2; exact fun σ' ρ' H' g at' => hN ρ' s5 H' E5 σ' (g34.trans g) at' (SOut.shift (g34.trans g) o2)
      | bk E5 s5 => rw [eb] at o2; exact fun σ' ρ' H' g at' => o2 σ' ρ' H' (g34.trans g) at'
      | rt x5 s5 => rw [eb] at o2; exact fun x ρ' H' g => o2 x ρ' H' (g34.trans g)
      | exc c5 f5 E5 s5 => rw [eb] at o2; exact fun σ' ρ' H' d xs g => o2 σ' ρ' H' d xs (g34.trans g)
      | fail => rw [eb] at o2; exact o2
  cases sr with
  | vals xs =>
    simp only at o0
    refine ⟨fun i m σ H => m = xs.length - i ∧ i ≤ xs.length ∧ ∃ ρ s E, At G F ρ s H E σ ∧ Go ρ0 s0 H0 ρ s H ∧ SOut G F ρ s H W (forV t tb (xs.drop i) E s) D, ⟨_, rfl, Nat.zero_le _, ρ0, s0, E, at0, .refl, o0⟩, ?_⟩
    rintro i m σ2 H2 ⟨rfl, hi, ρ2, s2, E2, at2, g2, o2⟩
    have J2 := jo ρ2 (Mu ρ2 s2 F) H2 (at0.rel.still g2) (fun _ _ h => g2.get h) i
    by_cases hlt : i < xs.length
    · obtain ⟨hgo, hy⟩ := J2.1 xs[i] (by simp [hlt])
      rw [List.drop_eq_getElem_cons hlt] at o2
      refine .inr ⟨hgo, fun σ H => ∃ ρ s E, At G F ρ s H E σ ∧ Go ρ0 s0 H0 ρ s H ∧ SOut G F ρ s H W (forV t tb (xs.drop (i + 1)) E s) D, fun σ' H' h => ⟨xs.length - (i + 1), by omega, rfl, hlt, h⟩, fun y H3 yl => ?_⟩
      obtain ⟨nt, rv⟩ := hy y H3 yl
      exact body at2 nt rv o2 fun ρ4 s4 H4 E4 σ4 g4 at4 o4 => ⟨ρ4, s4, E4, at4, g2.trans g4, o4⟩
    · rw [List.drop_eq_nil_of_le (by omega)] at o2
      exact .inl ⟨J2.2 (by omega), o2 σ2 ρ2 H2 .refl at2⟩
  | live n =>
    simp only at o0
    obtain ⟨p, hp, jp⟩ := jo
    refine ⟨fun i m σ H => ∃ ρ s E, At G F ρ s H E σ ∧ Go ρ0 s0 H0 ρ s H ∧ SOut G F ρ s H W (forN t tb n m i E s) D, ⟨most, ρ0, s0, E, at0, .refl, o0⟩, ?_⟩
    rintro i m σ2 H2 ⟨ρ2, s2, E2, at2, g2, o2⟩
    cases m with
    | zero => exact o2.elim
    | succ m =>
      simp only [forN] at o2
      cases ho : s2[n]? with
      | none => rw [ho] at o2; exact o2.elim
      | some ob =>
        cases ob with
        | lst ds =>
          rw [ho] at o2
          simp only at o2
          obtain ⟨xs, hx, _, rr⟩ := at2.rel.ob n _ p ho (g2.get hp)
          have J2 := jp H2 xs hx i
          cases hd : ds[i]? with
          | none =>
            rw [hd] at o2
            refine .inl ⟨J2.2 ?_, o2 σ2 ρ2 H2 .refl at2⟩
            rw [← rr.len]
            exact List.getElem?_eq_none_iff.mp hd
          | some d =>
            rw [hd] at o2
            obtain ⟨y, hy, ry⟩ := rr.get hd
            obtain ⟨hgo, hyl⟩ := J2.1 y hy
            refine .inr ⟨hgo, fun σ H => ∃ ρ s E, At G F ρ s H E σ ∧ Go ρ0 s0 H0 ρ s H ∧ SOut G F ρ s H W (forN t tb n m (i + 1) E s) D, fun σ' H' h => ⟨m, Nat.lt_succ_self _, h⟩, fun z H3 yl => ?_⟩
            obtain ⟨rfl, rfl⟩ := hyl z H3 yl
            exact body (v := .d d) at2 (.inl rfl) (fun M3 t3 => RepD.still t3 d z ry) o2 fun ρ4 s4 H4 E4 σ4 g4 at4 o4 => ⟨ρ4, s4, E4, at4, g2.trans g4, o4⟩
        | _ => rw [ho] at o2; exact o2.elim
theorem s_for {ic : IC} {t : TC} {x : SC} {l : List Stmt} (hp : PassesOwn (model X.prog X.w) X.A X.env X.xe) (hc : X.calm = true) (hi : SI G W X tg ic a) (hg : SG G X t tg) (hb : SS G W X x l) (hs : ∀ x, foldedSetIterable a X.env x = pure x := by intro _; rfl) : S1 G W X (sFor t ic x) (.For tg a l [] pos) :=
  PS.imp (ps_for hp hc hi hg hb hs) fun D σ H h => for_to h
end
end Ev
end
section
set_option Elab.async false
set_option linter.all false
set_option autoImplicit false
set_option maxRecDepth 100000
set_option maxHeartbeats 4000000
/-! Comprehensions. -/
namespace Ev
open PySem L2
section
variable {G : Gd} {X : Cx} {W : WX} {a b c tg : Expr} {ca cb cc : EC} {ba : BC} {pos pp : Pos}

/-! ### targets that set some slots alone -/
def tH (G : Gd) (is : List Nat) (t : TC) : TG := fun x σ H Q => ∃ F ρ s E v, At G F ρ s H E σ ∧ RepV G ρ (Mu ρ s F) H v x ∧ match t v E s with
  | some (E', s') => ∀ σ' ρ' H', Go ρ s H ρ' s' H' → At G F ρ' s' H' E' σ' → (σ'.length = σ.length ∧ ∀ j, j ∉ is → σ'[j]? = σ[j]?) → Q σ' H'
  | none => False
def tHs (G : Gd) (is : List Nat) (ts : List TC) : TGs := fun xs σ H Q => ∃ F ρ s E vs, At G F ρ s H E σ ∧ RepVs G ρ (Mu ρ s F) H vs xs ∧ match Ev.ts ts vs E s with
  | some (E', s') => ∀ σ' ρ' H', Go ρ s H ρ' s' H' → At G F ρ' s' H' E' σ' → (σ'.length = σ.length ∧ ∀ j, j ∉ is → σ'[j]? = σ[j]?) → Q σ' H'
  | none => False
abbrev SH (G : Gd) (X : Cx) (is : List Nat) (t : TC) (e : Expr) : Prop := PG X e (tH G is t)
abbrev SHs (G : Gd) (X : Cx) (is : List Nat) (t : List TC) (e : List Expr) : Prop := PGs X e (tHs G is t)
theorem sh_n {i : Nat} {x : Str} {is : List Nat} (hN : X.N.Nodup) (hi : X.N[i]? = some x := by rfl) (hx : Loc X.env.scope x := by first | exact .inl rfl | exact .inr rfl) (hf : X.fn x = true ∨ X.env.scope.names.lookup x = some .local := by first | exact .inl rfl | exact .inr rfl) (hm : i ∈ is := by simp) : SH G X is (tn i) (.Name x pos) :=
  PG.imp (pg_name hN hi hx hf) fun v σ H Q ⟨F, ρ, s, E, w, at_, r, o⟩ => o _ ρ H .refl ⟨at_.rel, at_.env.set r i⟩ ⟨by simp, fun j hj => List.getElem?_set_ne (fun e => hj (by rw [← e]; exact hm))⟩
theorem shs_nil {is : List Nat} : SHs G X is [] [] := PGs.imp pgs_nil fun vs σ H Q ⟨F, ρ, s, E, ws, at_, r, o⟩ => by
  cases ws with
  | nil => cases vs with
    | nil => exact ⟨rfl, o σ ρ H .refl at_ ⟨rfl, fun _ _ => rfl⟩⟩
    | cons _ _ => exact r.elim
  | cons _ _ => exact o.elim
theorem shs_cons {is : List Nat} {e : Expr} {es : List Expr} {t : TC} {l : List TC} (h1 : SH G X is t e) (h2 : SHs G X is l es) (hs : (assignEach (e :: es) X.env).map (·.2) = assign e X.env :: (assignEach es X.env).map (·.2) := by rfl) : SHs G X is (t :: l) (e :: es) :=
  PGs.imp (pgs_cons h1 h2 hs) fun vs σ H Q ⟨F, ρ, s, E, ws, at_, r, o⟩ => by
    cases ws with
    | nil => exact o.elim
    | cons w ws =>
      cases vs with
      | nil => exact r.elim
      | cons v vs =>
        refine ⟨v, vs, rfl, F, ρ, s, E, w, at_, r.1, ?_⟩
        simp only [Ev.ts] at o
        cases e1 : t w E s with
        | none => rw [e1] at o; exact o.elim
        | some p =>
          rw [e1] at o
          intro σ1 ρ1 H1 g1 at1 k1
          refine ⟨F, ρ1, p.2, p.1, ws, at1, at_.rel.vals g1 r.2, ?_⟩
          cases e2 : Ev.ts l ws p.1 p.2 with
          | none => simp only [e2] at o
          | some q =>
            simp only [e2] at o
            exact fun σ' ρ' H' g at' k' => o σ' ρ' H' (g1.trans g) at' ⟨k'.1.trans k1.1, fun j hj => (k'.2 j hj).trans (k1.2 j hj)⟩
theorem ts_len : ∀ (l : List TC) (ws : List Val) E s p, Ev.ts l ws E s = some p → ws.length = l.length := by
  intro l
  induction l with
  | nil => intro ws E s p h; cases ws with
    | nil => rfl
    | cons _ _ => cases h
  | cons t l ih => intro ws E s p h; cases ws with
    | nil => cases h
    | cons w ws =>
      simp only [Ev.ts] at h
      split at h
      · simp [ih _ _ _ _ h]
      · cases h
theorem sh_t {is : List Nat} {es : List Expr} {kk : Nat} {l : List TC} (hK : X.K = G.K) (hc : X.calm = true) (h : SHs G X is l es) (hn : (assignEach es X.env).length = l.length := by rfl) (hst : (assignEach es X.env).findIdx? (·.1) = none := by rfl) : SH G X is (tt l) (.Tuple es kk pos) :=
  PG.imp (PG.or (pg_tup hc h hn hst) (pg_lst hc h hn hst)) fun v σ H Q ⟨F, ρ, s, E, w, at_, r, o⟩ => by
    unfold tt at o
    cases ei : items w s with
    | none => rw [ei] at o; exact o.elim
    | some ws =>
      rw [ei] at o
      simp only at o
      have el : ws.length = l.length := by
        cases e2 : Ev.ts l ws E s with
        | none => rw [e2] at o; exact o.elim
        | some p => exact ts_len _ _ _ _ _ e2
      cases w with
      | d z =>
        cases z with
        | tup ds =>
          simp at ei
          subst ei
          have r' := r
          simp only [RepV, RepD] at r'
          obtain ⟨p, xs, rfl, hq, _, rr⟩ := r'
          exact .inl ⟨p, xs, rfl, by rw [hK]; exact hq, by rw [← rr.len]; simpa using el, F, ρ, s, E, _, at_, rr.vs, o⟩
        | lst ds =>
          simp at ei
          subst ei
          have r' := r
          simp only [RepV, RepD] at r'
          obtain ⟨p, xs, rfl, _, hq, _, rr⟩ := r'
          exact .inr ⟨p, xs, rfl, .inl (.inl hq), by rw [← rr.len]; simpa using el, F, ρ, s, E, _, at_, rr.vs, o⟩
        | _ => simp [items] at ei
      | loc n =>
        obtain ⟨p, hp, rfl⟩ := r
        simp only [items] at ei
        split at ei
        · rename_i ds ho
          obtain ⟨xs, hx, _, rr⟩ := at_.rel.ob n _ p ho hp
          cases ei
          exact .inr ⟨p, xs, rfl, .inl (.inl hx), by rw [← rr.len]; simpa using el, F, ρ, s, E, _, at_, rr.vs, o⟩
        · rename_i ds ho
          obtain ⟨xs, hx, _, rr⟩ := at_.rel.ob n _ p ho hp
          cases ei
          exact .inr ⟨p, xs, rfl, .inl (.inl hx), by rw [← rr.len]; exact el, F, ρ, s, E, _, at_, rr, o⟩
        · cases ei
      | exn _ _ => cases ei

/-! ### the block's slots -/
theorem wipe_get (σ : St) : ∀ (vs : List Nat) (j : Nat), (L2.wipe σ vs)[j]? = if j ∈ vs ∧ j < σ.length then some none else σ[j]?
  | [], j => by simp [L2.wipe]
  | v :: vs, j => by
    simp only [L2.wipe]
    by_cases hv : v = j
    · subst hv
      by_cases hl : v < σ.length
      · rw [List.getElem?_set_self (by rw [wipe_length]; exact hl), if_pos ⟨by simp, hl⟩]
      · rw [List.getElem?_eq_none (by rw [List.length_set, wipe_length]; omega), if_neg (fun h => hl h.2), List.getElem?_eq_none (by omega)]
    · rw [List.getElem?_set_ne hv, wipe_get σ vs j]
      have : j ≠ v := fun e => hv e.symm
      simp [this]
theorem wipe_agree {σ σ2 : St} {vs is : List Nat} (hs : ∀ i ∈ is, i ∈ vs) (h : σ2.length = (L2.wipe σ vs).length ∧ ∀ j, j ∉ is → σ2[j]? = (L2.wipe σ vs)[j]?) : L2.wipe σ2 vs = L2.wipe σ vs := by
  refine List.ext_getElem? fun j => ?_
  rw [wipe_get]
  have hl : σ2.length = σ.length := by rw [h.1, wipe_length]
  by_cases c : j ∈ vs ∧ j < σ2.length
  · rw [if_pos c, wipe_get, if_pos ⟨c.1, by omega⟩]
  · rw [if_neg c]
    by_cases q : j ∈ vs
    · have : ¬ j < σ2.length := fun z => c ⟨q, z⟩
      rw [List.getElem?_eq_none (by omega), List.getElem?_eq_none (by rw [wipe_length]; omega)]
    · exact h.2 j fun z => q (hs j z)

theorem go_pen {ρ0 ρ : List Addr} {s0 s : Store} {H0 H : Hp} {p : Addr} {u : HO} (g : Go ρ0 s0 H0 ρ s H) (n : H0 p = none) : Go ρ0 s0 H0 ρ s (upd H p u) := by
  refine ⟨g.pre, g.liv, fun a w h hl => ?_, fun a w h => ?_⟩
  · rw [upd_ne (ne_of_none h n)]; exact g.keep a w h hl
  · obtain ⟨w', h'⟩ := g.there a w h
    exact ⟨w', by rw [upd_ne (ne_of_none h n)]; exact h'⟩
theorem go_into {ρ0 ρ : List Addr} {s0 s : Store} {H0 H : Hp} {p : Addr} {o : Obj} (g : Go ρ0 s0 H0 ρ s H) (n : H0 p = none) (l0 : ρ0.length = s0.length) (l : ρ.length = s.length) : Go ρ0 s0 H0 (ρ ++ [p]) (s ++ [o]) H := by
  obtain ⟨m, e, hm⟩ := g.pre
  refine ⟨⟨m ++ [p], by rw [e, List.append_assoc], fun a ha => ?_⟩, fun k hk h => ?_, g.keep, g.there⟩
  · rcases List.mem_append.mp ha with h | h
    · exact hm a h
    · rw [List.mem_singleton.mp h]; exact n
  · refine g.liv k hk ((live_push ?_).mp h)
    have : ρ0.length ≤ ρ.length := by rw [e, List.length_append]; omega
    omega
theorem upd_id {H : Hp} {p : Addr} {u : HO} (h : H p = some u) : upd H p u = H := by
  funext a
  by_cases c : a = p
  · rw [c, upd_same, h]
  · rw [upd_ne c]
theorem RepVs.snoc {ρ : List Addr} {M : Addr → Prop} {H : Hp} : ∀ {vs : List Val} {xs : List V} {v : Val} {x : V}, RepVs G ρ M H vs xs → RepV G ρ M H v x → RepVs G ρ M H (vs ++ [v]) (xs ++ [x])
  | [], [], _, _, _, h => ⟨h, trivial⟩
  | _ :: _, _ :: _, _, _, h, h' => ⟨h.1, RepVs.snoc h.2 h'⟩
  | [], _ :: _, _, _, h, _ => h.elim
  | _ :: _, [], _, _, h, _ => h.elim
abbrev Shut : WX := fun _ _ _ _ => False

/-! ### a turn -/
theorem bind_ok' {A B : Type} {r : Res A} {f : A → Store → Res B} {y : B} {s' : Store} (h : r.bind f = .ok y s') : ∃ x s1, r = .ok x s1 ∧ f x s1 = .ok y s' := by
  cases r with
  | ok x s1 => exact ⟨x, s1, rfl, h⟩
  | exc _ _ _ => cases h
  | fail => cases h
theorem notin {ρ ρ' : List Addr} {s s' : Store} {H H' : Hp} {p : Addr} {u : HO} (g : Go ρ s H ρ' s' H') (n : p ∉ ρ) (h : H p = some u) : p ∉ ρ' := fun q => by
  obtain ⟨m, e, hm⟩ := g.pre
  rw [e] at q
  rcases List.mem_append.mp q with q | q
  · exact n q
  · have := hm p q; rw [h] at this; cases this
theorem lc_body {F : Addr → Prop} {is ws : List Nat} {t : TC} {c : BC} {e : EC} {E : Env} {σ : St} {D : Addr} {acc : List V} {vs vF : List Val} {x : Val} {y : V} {ρ : List Addr} {s sF : Store} {H H' : Hp} {Nx : Hp → Prop} {nxt : Store → Res (List Val)}
    (hsub : ∀ i ∈ is, i ∈ ws) (at_ : At G (FP F D) ρ s H (wipe E ws) (L2.wipe σ ws)) (hD : H D = some (.lst acc)) (nD : D ∉ ρ) (rv : RepVs G ρ (Mu ρ s (FP F D)) H vs acc) (nt : NewT H H')
    (ry : ∀ M3, Still (Mu ρ s (FP F D)) H M3 H' → RepV G ρ M3 H' x y) (hlen : vs.length < sizeLine) (htot : ((lcT ws t c e E x s nxt).bind fun ys s' => .ok (vs ++ ys) s') = .ok vF sF)
    (hN : ∀ ρ4 s4 H4 acc4 vs4, At G (FP F D) ρ4 s4 H4 (wipe E ws) (L2.wipe σ ws) → H4 D = some (.lst acc4) → D ∉ ρ4 → RepVs G ρ4 (Mu ρ4 s4 (FP F D)) H4 vs4 acc4 → (∀ H0 ρ0 s0, H0 D = none → Go ρ0 s0 H0 ρ s H → Go ρ0 s0 H0 ρ4 s4 H4) → vs4.length ≤ vs.length + 1 →
      ((nxt s4).bind fun ys s' => .ok (vs4 ++ ys) s') = .ok vF sF → Nx H4) :
    tH G is t y (L2.wipe σ ws) H' fun σ2 H2 => L2.wipe σ2 ws = L2.wipe σ ws ∧ tT G Shut c σ2 H2 fun b H3 => if b = true then tE G Shut e σ2 H3 fun y H4 => ∃ acc, H4 D = some (.lst acc) ∧ acc.length < sizeLine ∧ Nx (upd H4 D (.lst (acc ++ [y]))) else Nx H3 := by
  obtain ⟨g1, at1⟩ := nt.go at_
  have rl : vs.length = acc.length := rv.len
  refine ⟨FP F D, ρ, s, wipe E ws, x, at1, ry _ (at_.rel.still g1), ?_⟩
  obtain ⟨ys0, s0, h1, h2⟩ := bind_ok' htot
  unfold lcT at h1
  cases e1 : t x (wipe E ws) s with
  | none => rw [e1] at h1; cases h1
  | some p =>
    rw [e1] at h1
    simp only at h1 ⊢
    intro σ' ρ2 H2 g2 at2 kk
    have k := wipe_agree hsub kk
    refine ⟨k, FP F D, ρ2, p.2, p.1, at2, ?_⟩
    obtain ⟨b, s3, e2, h3⟩ := bind_ok' h1
    rw [e2]
    rintro b' ρ3 H3 g3 l3 rfl
    have at3 := at2.go g3 l3
    have g13 := (g1.trans g2).trans g3
    have hD3 : H3 D = some (.lst acc) := g13.keep D _ hD fun n hn _ => nD (List.mem_of_getElem? hn)
    have nD3 : D ∉ ρ3 := notin g13 nD hD
    have base3 : At G (FP F D) ρ3 s3 H3 (wipe E ws) (L2.wipe σ ws) := at_.go g13 l3
    cases b with
    | false =>
      rw [if_neg Bool.false_ne_true]
      simp only [Bool.false_eq_true, if_false] at h3
      refine hN ρ3 s3 H3 acc vs base3 hD3 nD3 (at_.rel.vals g13 rv) (fun H0 ρ0 s0 n g => g.trans g13) (by omega) ?_
      rw [h3]; exact h2
    | true =>
      rw [if_pos rfl]
      simp only [if_true] at h3
      obtain ⟨z, s4, e3, h4⟩ := bind_ok' h3
      obtain ⟨zs, s5, h5, h6⟩ := bind_ok' h4
      refine ⟨FP F D, ρ3, s3, p.1, at3, ?_⟩
      rw [e3]
      intro yv ρ4 H4 g4 l4 x4
      have g14 := g13.trans g4
      have hD4 : H4 D = some (.lst acc) := g14.keep D _ hD fun n hn _ => nD (List.mem_of_getElem? hn)
      have nD4 : D ∉ ρ4 := notin g14 nD hD
      have n1 : ∀ xs, H4 D ≠ some (.tup xs) := by rw [hD4]; simp
      have n2 : ∀ o v, H4 D ≠ some (.frz o v) := by rw [hD4]; simp
      have n3 : ∀ xs, H4 D ≠ some (.xd xs) := by rw [hD4]; simp
      refine ⟨acc, hD4, by omega, ?_⟩
      have st := still_pen (ρ := ρ4) (s := s4) (F := F) (p := D) (u := .lst (acc ++ [yv])) n1 n2 n3
      refine hN ρ4 s4 _ (acc ++ [yv]) (vs ++ [z]) ((at_.go g14 l4).pen n1 n2 n3) upd_same nD4 ?_ (fun H0 ρ0 s0 n g => go_pen (g.trans g14) n) (by simp) ?_
      · exact (RepVs.still st (fun _ _ h => h) _ _ (at_.rel.vals g14 rv)).snoc (RepV.still st (fun _ _ h => h) _ _ x4)
      · rw [h5]
        cases h6
        simpa using h2
/-! ### the list -/
theorem lc_to {F : Addr → Prop} {is ws : List Nat} {t : TC} {ic : IC} {c : BC} {e : EC} {mk : List Val → Store → Res Val} {σ : St} {H : Hp} {Q : VK} (hsub : ∀ i ∈ is, i ∈ ws)
    (hmk : ∀ (F : Addr → Prop) ρ0 s0 H0 ρ s H D acc vs, Rel G F ρ0 s0 H0 → H0 D = none → Out G F ρ0 s0 H0 (fun C d H' => W C d σ H') (RepV G) (mk vs s) Q → Rel G (FP F D) ρ s H → H D = some (.lst acc) → D ∉ ρ → RepVs G ρ (Mu ρ s (FP F D)) H vs acc → Go ρ0 s0 H0 ρ s H → vs.length ≤ sizeLine → Q (.ref D) H)
    (h : tE G W (lcG mk ws t ic c e) σ H Q) : tLc (tI G W ic) (tH G is t) (tT G Shut c) (tE G Shut e) ws σ H Q := by
  obtain ⟨F, ρ, s, E, at_, o⟩ := h
  refine ⟨F, ρ, s, E, at_, (Out.bind (R := JOk G) o).mono ?_⟩
  rintro J H0 ⟨ρ0, s0, sr, g0, l0, jo, o0⟩ D nD0
  have at0 := at_.go g0 l0
  have atG := at0.guard (p := D) (o := .lst []) nD0
  have atW : At G (FP F D) ρ0 s0 (upd H0 D (.lst [])) (wipe E ws) (L2.wipe σ ws) := ⟨atG.rel, atG.env.wipe ws⟩
  have gW : Go ρ0 s0 H0 ρ0 s0 (upd H0 D (.lst [])) := go_pen .refl nD0
  have nDr : D ∉ ρ0 := l0.nin nD0
  have tot : ∃ vF sF, lcS ws t c e E sr s0 = .ok vF sF := by
    cases q : lcS ws t c e E sr s0 with
    | ok a b => exact ⟨a, b, rfl⟩
    | fail => rw [q] at o0; exact o0.elim
    | exc c' fs s' =>
      exfalso
      unfold lcS at q
      cases sr with
      | vals xs =>
        simp only at q
        split at q
        · cases z : lcV ws t c e E xs s0 with
          | ok _ _ => rw [z] at q; cases q
          | exc _ _ _ => rw [z] at q; cases q
          | fail => rw [z] at q; cases q
        · cases q
      | live n =>
        simp only at q
        cases z : lcN ws t c e E n (line + 2) 0 s0 with
        | ok _ _ => rw [z] at q; cases q
        | exc _ _ _ => rw [z] at q; cases q
        | fail => rw [z] at q; cases q
  obtain ⟨vF, sF, tot⟩ := tot
  rw [tot] at o0
  simp only [Res.bind_ok] at o0
  have stG : ∀ {ρ2 : List Addr} {s2 : Store} {H2 : Hp}, Go ρ0 s0 H0 ρ2 s2 H2 → Still (Mu ρ0 s0 F) H0 (Mu ρ2 s2 (FP F D)) H2 := fun g => by
    have st := l0.still g
    refine ⟨fun a o e n => ⟨(st.fz a o e n).1, fun q => ?_⟩, st.tp, st.lk, st.xd⟩
    rcases q with (q | q) | q
    · exact (st.fz a o e n).2 (.inl q)
    · rw [q, nD0] at e; cases e
    · exact (st.fz a o e n).2 (.inr q)
  have shut_ok' : ∀ {r : Res (List Val)}, r.shut = .ok vF sF → r = .ok vF sF := fun {r} h => by
    cases r with
    | ok _ _ => exact h
    | exc _ _ _ => cases h
    | fail => cases h
  cases sr with
  | vals xs =>
    simp only [lcS] at tot
    split at tot
    · rename_i hxl
      have tot := shut_ok' tot
      refine ⟨fun i m H => m = xs.length - i ∧ i ≤ xs.length ∧ ∃ ρ s acc vs, At G (FP F D) ρ s H (wipe E ws) (L2.wipe σ ws) ∧ H D = some (.lst acc) ∧ D ∉ ρ ∧ RepVs G ρ (Mu ρ s (FP F D)) H vs acc ∧ Go ρ0 s0 H0 ρ s H ∧ vs.length ≤ i ∧ ((lcV ws t c e E (xs.drop i) s).bind fun ys s' => .ok (vs ++ ys) s') = .ok vF sF,
        ⟨_, rfl, Nat.zero_le _, ρ0, s0, [], [], atW, upd_same, nDr, trivial, gW, Nat.le_refl _, by simp [tot]⟩, ?_⟩
      rintro i m H2 ⟨rfl, hi, ρ2, s2, acc, vs, at2, hD2, nD2, rv2, g2, hl2, e2⟩
      have J2 := jo ρ2 _ H2 (stG g2) (fun _ _ h => g2.get h) i
      by_cases hlt : i < xs.length
      · obtain ⟨hgo, hy⟩ := J2.1 xs[i] (by simp [hlt])
        rw [List.drop_eq_getElem_cons hlt] at e2
        refine .inr ⟨hgo, fun H => ∃ ρ s acc vs, At G (FP F D) ρ s H (wipe E ws) (L2.wipe σ ws) ∧ H D = some (.lst acc) ∧ D ∉ ρ ∧ RepVs G ρ (Mu ρ s (FP F D)) H vs acc ∧ Go ρ0 s0 H0 ρ s H ∧ vs.length ≤ i + 1 ∧ ((lcV ws t c e E (xs.drop (i + 1)) s).bind fun ys s' => .ok (vs ++ ys) s') = .ok vF sF,
          fun H' h => ⟨xs.length - (i + 1), by omega, rfl, hlt, h⟩, fun y H3 yl => ?_⟩
        obtain ⟨nt, rv⟩ := hy y H3 yl
        refine lc_body (nxt := fun s' => lcV ws t c e E (xs.drop (i + 1)) s') hsub at2 hD2 nD2 rv2 nt rv (by rw [line_eq]; omega) e2 fun ρ4 s4 H4 acc4 vs4 a4 h4 n4 r4 g4 l4 e4 => ⟨ρ4, s4, acc4, vs4, a4, h4, n4, r4, g4 _ _ _ nD0 g2, by omega, e4⟩
      · rw [List.drop_eq_nil_of_le (by omega)] at e2
        simp only [lcV, Res.bind_ok, List.append_nil] at e2
        cases e2
        exact .inl ⟨J2.2 (by omega), hmk F ρ0 s0 H0 ρ2 sF H2 D acc vF l0 nD0 o0 at2.rel hD2 nD2 rv2 g2 (by rw [line_eq]; omega)⟩
    · cases tot
  | live n =>
    simp only [lcS] at tot
    have tot := shut_ok' tot
    obtain ⟨p, hp, jp⟩ := jo
    have n0 : n < ρ0.length := (List.getElem?_eq_some_iff.mp hp).1
    refine ⟨fun i m H => ∃ ρ s acc vs, At G (FP F D) ρ s H (wipe E ws) (L2.wipe σ ws) ∧ H D = some (.lst acc) ∧ D ∉ ρ ∧ RepVs G ρ (Mu ρ s (FP F D)) H vs acc ∧ Go ρ0 s0 H0 ρ s H ∧ vs.length ≤ i ∧ i ≤ line ∧ ((lcN ws t c e E n m i s).bind fun ys s' => .ok (vs ++ ys) s') = .ok vF sF,
      ⟨line + 2, ρ0, s0, [], [], atW, upd_same, nDr, trivial, gW, Nat.le_refl _, Nat.zero_le _, by simp [tot]⟩, ?_⟩
    rintro i m H2 ⟨ρ2, s2, acc, vs, at2, hD2, nD2, rv2, g2, hl2, hl, e2⟩
    cases m with
    | zero => cases e2
    | succ m =>
      simp only [lcN] at e2
      cases ho : s2[n]? with
      | none => rw [ho] at e2; cases e2
      | some ob =>
        cases ob with
        | lst ds =>
          rw [ho] at e2
          simp only at e2
          obtain ⟨xs, hx, _, rr⟩ := at2.rel.ob n _ p ho (g2.get hp)
          have J2 := jp H2 xs hx i
          cases hd : ds[i]? with
          | none =>
            rw [hd] at e2
            simp only [Res.bind_ok, List.append_nil] at e2
            cases e2
            refine .inl ⟨J2.2 ?_, hmk F ρ0 s0 H0 ρ2 sF H2 D acc vF l0 nD0 o0 at2.rel hD2 nD2 rv2 g2 (by rw [line_eq]; omega)⟩
            rw [← rr.len]
            exact List.getElem?_eq_none_iff.mp hd
          | some d =>
            rw [hd] at e2
            simp only at e2
            by_cases hil : i < line
            · rw [if_pos hil] at e2
              obtain ⟨y, hy, ry⟩ := rr.get hd
              obtain ⟨hgo, hyl⟩ := J2.1 y hy
              refine .inr ⟨hgo, fun H => ∃ ρ s acc vs, At G (FP F D) ρ s H (wipe E ws) (L2.wipe σ ws) ∧ H D = some (.lst acc) ∧ D ∉ ρ ∧ RepVs G ρ (Mu ρ s (FP F D)) H vs acc ∧ Go ρ0 s0 H0 ρ s H ∧ vs.length ≤ i + 1 ∧ i + 1 ≤ line ∧ ((lcN ws t c e E n m (i + 1) s).bind fun ys s' => .ok (vs ++ ys) s') = .ok vF sF,
                fun H' h => ⟨m, Nat.lt_succ_self _, h⟩, fun z H3 yl => ?_⟩
              obtain ⟨rfl, rfl⟩ := hyl z H3 yl
              exact lc_body (nxt := fun s' => lcN ws t c e E n m (i + 1) s') hsub at2 hD2 nD2 rv2 (.inl rfl) (x := .d d) (fun M3 t3 => RepD.still t3 d z ry) (by rw [line_eq]; omega) e2 fun ρ4 s4 H4 acc4 vs4 a4 h4 n4 r4 g4 l4 e4 => ⟨ρ4, s4, acc4, vs4, a4, h4, n4, r4, g4 _ _ _ nD0 g2, by omega, by omega, e4⟩
            · rw [if_neg hil] at e2; cases e2
        | _ => rw [ho] at e2; cases e2
theorem PTs.imp {ifs : List Expr} {t t' : TT} (h : PTs X ifs t) (i : ∀ σ H Q, t' σ H Q → t σ H Q) : PTs X ifs t' := ⟨fun pins s σ H Q I q => h.run pins s σ H Q I (i σ H Q q)⟩
abbrev STs (G : Gd) (W : WX) (X : Cx) (c : BC) (es : List Expr) : Prop := PTs X es (tT G W c)
theorem sts_nil : STs G W X yes [] := PTs.imp pts_nil fun σ H Q ⟨F, ρ, s, E, at_, o⟩ => Out.ret (R := rB) o at_.rel rfl
theorem sts_one (h : ST G W X ba c) : STs G W X ba [c] := pts_one h
theorem allD_some : ∀ {vs : List Val} {ds : List D}, allD vs = some ds → vs = ds.map .d
  | [], ds, h => by cases h; rfl
  | .d x :: r, ds, h => by
    simp only [allD_cons, Option.map_eq_some_iff] at h
    obtain ⟨e, h1, rfl⟩ := h
    rw [allD_some h1]; rfl
  | .loc _ :: _, _, h => by cases h
  | .exn _ _ :: _, _, h => by cases h
theorem mk_frz {Q : VK} {σ : St} (F : Addr → Prop) (ρ0 : List Addr) (s0 : Store) (H0 : Hp) (ρ : List Addr) (s : Store) (H : Hp) (D : Addr) (acc : List V) (vs : List Val) (l0 : Rel G F ρ0 s0 H0) (nD : H0 D = none) (o : Out G F ρ0 s0 H0 (fun C d H' => W C d σ H') (RepV G) (mkL vs s) Q) (r : Rel G (FP F D) ρ s H) (hD : H D = some (.lst acc)) (nDr : D ∉ ρ)
    (rv : RepVs G ρ (Mu ρ s (FP F D)) H vs acc) (g : Go ρ0 s0 H0 ρ s H) (hl : vs.length ≤ sizeLine) : Q (.ref D) H := by
  unfold mkL at o
  cases e : allD vs with
  | none => rw [e] at o; exact o.elim
  | some ds =>
    rw [e] at o
    simp only at o
    split at o
    · have ev := allD_some e
      subst ev
      refine o _ ρ H g (r.sub fun _ z => .inl z) ?_
      simp only [RepV, RepD]
      refine ⟨D, acc, rfl, fun q => ?_, hD, by simpa using hl, RepDs.still (still_sub (mu_sub fun _ z => .inl z)) _ _ (rv.ds e)⟩
      rcases q with q | ⟨n, hn, _⟩
      · obtain ⟨w, hw⟩ := l0.ft D q; rw [nD] at hw; cases hw
      · exact nDr (List.mem_of_getElem? hn)
    · exact o.elim
theorem mk_new {Q : VK} {σ : St} (F : Addr → Prop) (ρ0 : List Addr) (s0 : Store) (H0 : Hp) (ρ : List Addr) (s : Store) (H : Hp) (D : Addr) (acc : List V) (vs : List Val) (l0 : Rel G F ρ0 s0 H0) (nD : H0 D = none) (o : Out G F ρ0 s0 H0 (fun C d H' => W C d σ H') (RepV G) (mkLA vs s) Q) (r : Rel G (FP F D) ρ s H) (hD : H D = some (.lst acc)) (nDr : D ∉ ρ)
    (rv : RepVs G ρ (Mu ρ s (FP F D)) H vs acc) (g : Go ρ0 s0 H0 ρ s H) (hl : vs.length ≤ sizeLine) : Q (.ref D) H := by
  have nF : ¬ F D := fun q => by obtain ⟨w, hw⟩ := l0.ft D q; rw [nD] at hw; cases hw
  have fin : ∀ ob, (∀ M', Still (Mu ρ s (FP F D)) H M' (upd H D (.lst acc)) → RepO G (ρ ++ [D]) M' (upd H D (.lst acc)) D ob) → Out G F ρ0 s0 H0 (fun C d H' => W C d σ H') (RepV G) (.ok (.loc s.length) (s ++ [ob])) Q → Q (.ref D) H := fun ob h o => by
    have r' := r.adopt (u := .lst acc) nDr nF (by rw [hD]; simp) (by rw [hD]; simp) (by rw [hD]; simp) h
    rw [upd_id hD] at r'
    refine o _ _ _ (go_into g nD l0.len r.len) r' ⟨D, ?_, rfl⟩
    rw [List.getElem?_append_right (by rw [r.len]; exact Nat.le_refl _), r.len]; simp
  have pre : ∀ (n : Nat) a, ρ[n]? = some a → (ρ ++ [D])[n]? = some a := fun n a h => by rw [List.getElem?_append_left (List.getElem?_eq_some_iff.mp h).1]; exact h
  unfold mkLA at o
  cases e : allD vs with
  | none =>
    rw [e] at o
    exact fin (.lv vs) (fun M' t => ⟨acc, upd_same, hl, RepVs.still t pre _ _ rv⟩) o
  | some ds =>
    rw [e] at o
    have ev := allD_some e
    subst ev
    exact fin (.lst ds) (fun M' t => ⟨acc, upd_same, by simpa using hl, RepDs.still t _ _ (rv.ds e)⟩) o
section
variable {ic : IC} {iter elt : Expr} {ifs : List Expr} {scope : Scope} {own : List (Str × Nat)} {is : List Nat} {t : TC} {bc : BC} {ce : EC}
/-- a block that runs in X -/
abbrev InBlk (X : Cx) (scope : Scope) (P : Cx → Prop) : Prop := ∀ (s : Shared) (H : Hp) (C : Addr) (cl : List (Str × Addr)) (fp : List Addr), P (X.blk s H scope (compEnvC scope cl C X.env) fp)
theorem se_lc (hc : X.calm = true) (hN : X.N.Nodup) (hi : SI G W X tg ic iter) (ok : BlkOk X.N X.env.scope scope own) (hg : InBlk X scope fun X => SH G X is t tg) (ht : InBlk X scope fun X => STs G Shut X bc ifs) (he : InBlk X scope fun X => SE G Shut X ce elt)
    (hsub : ∀ i ∈ is, i ∈ own.map (·.2) := by decide) (hs : ∀ x, foldedSetIterable iter X.env x = pure x := by intro _; rfl) : SE G W X (lc (own.map (·.2)) t ic bc ce) (.ListComp elt [⟨tg, iter, ifs, 0⟩] scope pos) :=
  PE.imp (pe_lc hc hN hi ok hg ht he hs) fun σ H Q h => lc_to (F := fun _ => False) hsub mk_frz h
theorem se_lcA (hc : X.calm = true) (hN : X.N.Nodup) (hi : SI G W X tg ic iter) (ok : BlkOk X.N X.env.scope scope own) (hg : InBlk X scope fun X => SH G X is t tg) (ht : InBlk X scope fun X => STs G Shut X bc ifs) (he : InBlk X scope fun X => SE G Shut X ce elt)
    (hsub : ∀ i ∈ is, i ∈ own.map (·.2) := by decide) (hs : ∀ x, foldedSetIterable iter X.env x = pure x := by intro _; rfl) : SE G W X (lcA (own.map (·.2)) t ic bc ce) (.ListComp elt [⟨tg, iter, ifs, 0⟩] scope pos) :=
  PE.imp (pe_lc hc hN hi ok hg ht he hs) fun σ H Q h => lc_to (F := fun _ => False) hsub mk_new h
/-- x = [..] on one line -/
theorem lc_set {i : Nat} {mk : List Val → Store → Res Val} (hsub : ∀ i ∈ is, i ∈ own.map (·.2))
    (hmk : ∀ {Q : VK} {σ : St} (F : Addr → Prop) ρ0 s0 H0 ρ s H D acc vs, Rel G F ρ0 s0 H0 → H0 D = none → Out G F ρ0 s0 H0 (fun C d H' => W C d σ H') (RepV G) (mk vs s) Q → Rel G (FP F D) ρ s H → H D = some (.lst acc) → D ∉ ρ → RepVs G ρ (Mu ρ s (FP F D)) H vs acc → Go ρ0 s0 H0 ρ s H → vs.length ≤ sizeLine → Q (.ref D) H)
    {D : Ends} {σ : St} {H : Hp} (h : tS G W (sSet (tn i) (lcG mk (own.map (·.2)) t ic bc ce)) D σ H) : tAsg (tLc (tI G W ic) (tH G is t) (tT G Shut bc) (tE G Shut ce) (own.map (·.2))) (gName i) D σ H := by
  obtain ⟨F, ρ, s, E, at_, o⟩ := h
  refine lc_to (G := G) (W := W) (F := F) (mk := mk) hsub hmk ⟨F, ρ, s, E, at_, (SOut.of (R := RepV G) at_ o).mono ?_⟩
  rintro x H1 ⟨ρ1, s1, v1, g1, at1, x1, o1⟩
  exact o1 _ ρ1 H1 .refl ⟨at1.rel, at1.env.set x1 i⟩
theorem s_setLc {i : Nat} {y : Str} {py spos : Pos} (hc : X.calm = true) (hN : X.N.Nodup) (hi : SI G W X tg ic iter) (ok : BlkOk X.N X.env.scope scope own) (hg : InBlk X scope fun X => SH G X is t tg) (ht : InBlk X scope fun X => STs G Shut X bc ifs) (he : InBlk X scope fun X => SE G Shut X ce elt)
    (hsw : swapsWith (.ListComp elt [⟨tg, iter, ifs, 0⟩] scope pos) (some (.Name y py)) spos.line X.env = pure true) (hy : X.N[i]? = some y := by rfl) (hyl : X.env.scope.names.lookup y = some .local := by rfl)
    (hsub : ∀ i ∈ is, i ∈ own.map (·.2) := by decide) (hs : ∀ x, foldedSetIterable iter X.env x = pure x := by intro _; rfl) : S1 G W X (sSet (tn i) (lc (own.map (·.2)) t ic bc ce)) (.Assign [.Name y py] (.ListComp elt [⟨tg, iter, ifs, 0⟩] scope pos) spos) :=
  PS.imp (ps_setLc hc hN hy hyl hsw hi ok hg ht he hs) fun D σ H h => lc_set hsub mk_frz h
theorem s_setLcA {i : Nat} {y : Str} {py spos : Pos} (hc : X.calm = true) (hN : X.N.Nodup) (hi : SI G W X tg ic iter) (ok : BlkOk X.N X.env.scope scope own) (hg : InBlk X scope fun X => SH G X is t tg) (ht : InBlk X scope fun X => STs G Shut X bc ifs) (he : InBlk X scope fun X => SE G Shut X ce elt)
    (hsw : swapsWith (.ListComp elt [⟨tg, iter, ifs, 0⟩] scope pos) (some (.Name y py)) spos.line X.env = pure true) (hy : X.N[i]? = some y := by rfl) (hyl : X.env.scope.names.lookup y = some .local := by rfl)
    (hsub : ∀ i ∈ is, i ∈ own.map (·.2) := by decide) (hs : ∀ x, foldedSetIterable iter X.env x = pure x := by intro _; rfl) : S1 G W X (sSet (tn i) (lcA (own.map (·.2)) t ic bc ce)) (.Assign [.Name y py] (.ListComp elt [⟨tg, iter, ifs, 0⟩] scope pos) spos) :=
  PS.imp (ps_setLc hc hN hy hyl hsw hi ok hg ht he hs) fun D σ H h => lc_set hsub mk_new h
end
end
end Ev
end
section
set_option Elab.async false
set_option linter.all false
set_option autoImplicit false
set_option maxRecDepth 100000
set_option maxHeartbeats 4000000
/-! Calls of the text's own defs. -/
namespace Ev
open PySem L2
section
variable {G : Gd} {F : Addr → Prop} {ρ ρ' : List Addr} {s s' : Store} {H H' : Hp}

/-! ### a call's end -/
theorem cloV_keep {n : Nat} {ρ1 : List Addr} {M : Addr → Prop} {H : Hp} (hp : ∀ (m : Nat) a, m < n → ρ'[m]? = some a → ρ1[m]? = some a) : ∀ {v : Val} {x : V}, cloV n v = true → RepV G ρ' M H v x → RepV G ρ1 M H v x
  | .d z, x, _, h => h
  | .loc m, x, c, ⟨a, h, e⟩ => ⟨a, hp m a (by simpa [cloV] using c) h, e⟩
  | .exn c fs, x, _, h => h
theorem cloVs_keep {n : Nat} {ρ1 : List Addr} {M : Addr → Prop} {H : Hp} (hp : ∀ (m : Nat) a, m < n → ρ'[m]? = some a → ρ1[m]? = some a) : ∀ {v : List Val} {x : List V}, v.all (cloV n) = true → RepVs G ρ' M H v x → RepVs G ρ1 M H v x
  | [], [], _, h => h
  | v :: vs, x :: xs, c, h => by
    simp only [List.all_cons, Bool.and_eq_true] at c
    exact ⟨cloV_keep hp c.1 h.1, cloVs_keep hp c.2 h.2⟩
  | [], _ :: _, _, h => h
  | _ :: _, [], _, h => h
theorem cloF_keep {κ : Type} {n : Nat} {ρ1 : List Addr} {M : Addr → Prop} {H : Hp} (hp : ∀ (m : Nat) a, m < n → ρ'[m]? = some a → ρ1[m]? = some a) : ∀ {v : List (κ × Val)} {x : List (κ × V)}, (v.all fun p => cloV n p.2) = true → RepF G ρ' M H v x → RepF G ρ1 M H v x
  | [], [], _, h => h
  | v :: vs, x :: xs, c, h => by
    simp only [List.all_cons, Bool.and_eq_true] at c
    exact ⟨⟨h.1.1, cloV_keep hp c.1 h.1.2⟩, cloF_keep hp c.2 h.2⟩
  | [], _ :: _, _, h => h
  | _ :: _, [], _, h => h
theorem cloO_keep {n : Nat} {ρ1 : List Addr} {M : Addr → Prop} {H : Hp} {a : Addr} (hp : ∀ (m : Nat) a, m < n → ρ'[m]? = some a → ρ1[m]? = some a) : ∀ {o : Obj}, cloO n o = true → RepO G ρ' M H a o → RepO G ρ1 M H a o
  | .lst _, _, h => h
  | .lv vs, c, ⟨xs, h1, h2, h3⟩ => ⟨xs, h1, h2, cloVs_keep hp c h3⟩
  | .dct vs, c, ⟨xs, h1, h2, h3⟩ => ⟨xs, h1, h2, cloF_keep hp c h3⟩
  | .ins cc vs, c, ⟨dx, xs, h1, h3⟩ => ⟨dx, xs, h1, cloF_keep hp c h3⟩
  | .dead, _, _ => trivial
theorem clo_V {M : Addr → Prop} {H : Hp} (n : Nat) (hl : ρ.length ≤ n) : ∀ {v : Val} {x : V}, RepV G ρ M H v x → cloV n v = true
  | .d z, x, _ => rfl
  | .loc m, x, ⟨a, h, e⟩ => by
    have := (List.getElem?_eq_some_iff.mp h).1
    simp only [cloV, decide_eq_true_eq]; omega
  | .exn c fs, x, _ => rfl
theorem clo_Vs {M : Addr → Prop} {H : Hp} (n : Nat) (hl : ρ.length ≤ n) : ∀ {v : List Val} {x : List V}, RepVs G ρ M H v x → v.all (cloV n) = true
  | [], [], _ => rfl
  | v :: vs, x :: xs, h => by simp only [List.all_cons, Bool.and_eq_true]; exact ⟨clo_V n hl h.1, clo_Vs n hl h.2⟩
  | [], _ :: _, h => h.elim
  | _ :: _, [], h => h.elim
theorem clo_F {κ : Type} {M : Addr → Prop} {H : Hp} (n : Nat) (hl : ρ.length ≤ n) : ∀ {v : List (κ × Val)} {x : List (κ × V)}, RepF G ρ M H v x → (v.all fun p => cloV n p.2) = true
  | [], [], _ => rfl
  | v :: vs, x :: xs, h => by simp only [List.all_cons, Bool.and_eq_true]; exact ⟨clo_V n hl h.1.2, clo_F n hl h.2⟩
  | [], _ :: _, h => h.elim
  | _ :: _, [], h => h.elim
theorem Rel.clo (l : Rel G F ρ s H) : clo s.length s = true := by
  unfold Ev.clo
  refine List.all_eq_true.mpr fun o ho => ?_
  obtain ⟨n, hn⟩ := List.mem_iff_getElem?.mp ho
  have hl : n < ρ.length := by rw [l.len]; exact (List.getElem?_eq_some_iff.mp hn).1
  have q := l.ob n o _ hn (List.getElem?_eq_getElem hl)
  cases o with
  | lst ds => rfl
  | lv vs => obtain ⟨xs, _, _, r⟩ := q; exact clo_Vs _ (Nat.le_of_eq l.len) r
  | dct vs => obtain ⟨xs, _, _, r⟩ := q; exact clo_F _ (Nat.le_of_eq l.len) r
  | ins c vs => obtain ⟨dx, xs, _, r⟩ := q; exact clo_F _ (Nat.le_of_eq l.len) r
  | dead => rfl
/-- what was made within is forgotten -/
theorem cut_ok (l : Rel G F ρ s H) (g : Go ρ s H ρ' s' H') (l' : Rel G F ρ' s' H') (hc : Ev.clo s.length (s'.take s.length) = true ∨ s'.take s.length = s) :
    Go ρ s H ρ (s'.take s.length) H' ∧ Rel G F ρ (s'.take s.length) H' ∧ Still (Mu ρ' s' F) H' (Mu ρ (s'.take s.length) F) H' := by
  have hc : Ev.clo s.length (s'.take s.length) = true := hc.elim id fun e => by rw [e]; exact l.clo
  have lv : ∀ {n : Nat}, live (s'.take s.length) n → n < s.length ∧ live s' n := fun {n} ⟨o, e, d⟩ => by
    have hl : n < s.length := by
      have := (List.getElem?_eq_some_iff.mp e).1
      rw [List.length_take] at this; omega
    rw [List.getElem?_take_of_lt hl] at e
    exact ⟨hl, o, e, d⟩
  have sub : ∀ a, Mu ρ (s'.take s.length) F a → Mu ρ' s' F a := fun a q => by
    rcases q with q | ⟨n, hn, hl⟩
    · exact .inl q
    · exact .inr ⟨n, g.get hn, (lv hl).2⟩
  have hg : Go ρ s H ρ (s'.take s.length) H' := ⟨⟨[], by simp, by simp⟩, fun n hn h => g.liv n hn (lv h).2, g.keep, g.there⟩
  have slen : s.length ≤ s'.length := by
    obtain ⟨m, e, _⟩ := g.pre
    rw [← l.len, ← l'.len, e, List.length_append]; omega
  refine ⟨hg, ?_, still_sub sub⟩
  refine ⟨by rw [l.len, List.length_take]; omega, l.nd, fun n a h hl => l'.nf n a (g.get h) (lv hl).2, fun n a h => l'.tr n a (g.get h), l'.ft, fun n o a h1 h2 => ?_⟩
  have hn : n < s.length := by
    have := (List.getElem?_eq_some_iff.mp h1).1
    rw [List.length_take] at this; omega
  have h1' := h1
  rw [List.getElem?_take_of_lt hn] at h1'
  have q := RepO.still (still_sub sub) (fun _ _ e => e) (fun _ e => e) o (l'.ob n o a h1' (g.get h2))
  refine cloO_keep (n := s.length) (fun m b hm e => ?_) (List.all_eq_true.mp hc o (List.mem_of_getElem? h1)) q
  rcases g.back e with z | ⟨z, _⟩
  · exact z
  · have := l.len; omega
theorem fin_ok {v : Val} {x : V} (l : Rel G F ρ s H) (g : Go ρ s H ρ' s' H') (l' : Rel G F ρ' s' H') (r : RepV G ρ' (Mu ρ' s' F) H' v x) :
    ∃ ρ1, Go ρ s H ρ1 (fin s v s').2 H' ∧ Rel G F ρ1 (fin s v s').2 H' ∧ RepV G ρ1 (Mu ρ1 (fin s v s').2 F) H' (fin s v s').1 x ∧ Still (Mu ρ' s' F) H' (Mu ρ1 (fin s v s').2 F) H' := by
  unfold fin
  by_cases c1 : s'.length = s.length
  · rw [if_pos c1]; exact ⟨ρ', g, l', r, still_sub fun _ q => q⟩
  · rw [if_neg c1]
    by_cases c2 : Ev.clo s.length (s'.take s.length) = true ∨ s'.take s.length = s
    · rw [if_pos c2]
      obtain ⟨hg, hr, st⟩ := cut_ok l g l' c2
      cases v with
      | d z => exact ⟨ρ, hg, hr, RepD.still st z x r, st⟩
      | loc n =>
        obtain ⟨a, ha, rfl⟩ := r
        simp only
        by_cases c3 : n < s.length
        · rw [if_pos c3]
          refine ⟨ρ, hg, hr, ⟨a, ?_, rfl⟩, st⟩
          rcases g.back ha with z | ⟨z, _⟩
          · exact z
          · have := l.len; omega
        · rw [if_neg c3]
          split
          · rename_i ds ho
            obtain ⟨xs, hx, hz, rr⟩ := l'.ob n _ a ho ha
            refine ⟨ρ, hg, hr, ?_, st⟩
            simp only [RepV, RepD]
            refine ⟨a, xs, rfl, fun q => ?_, hx, hz, RepDs.still st _ _ rr⟩
            rcases q with q | ⟨m, hm, hl⟩
            · exact l'.nf n a ha ⟨_, ho, by simp⟩ q
            · have h1 := g.get hm
              have hml := (List.getElem?_eq_some_iff.mp hm).1
              obtain ⟨i1, e1⟩ := List.getElem?_eq_some_iff.mp ha
              obtain ⟨i2, e2⟩ := List.getElem?_eq_some_iff.mp h1
              have : n = m := List.getElem_inj l'.nd |>.mp (e1.trans e2.symm)
              have := l.len; omega
          · exact ⟨ρ', g, l', ⟨a, ha, rfl⟩, still_sub fun _ q => q⟩
      | exn c fs => exact ⟨ρ', g, l', r, still_sub fun _ q => q⟩
    · rw [if_neg c2]; exact ⟨ρ', g, l', r, still_sub fun _ q => q⟩
end

/-! ### promises -/
structure RoomG (k : Nat) (A : Around) : Prop where
  room : Room k A
  gd : A.guards = some []
theorem RoomG.mono {j k : Nat} {A : Around} (r : RoomG k A) (h : j ≤ k) : RoomG j A := ⟨r.room.mono h, r.gd⟩
theorem RoomG.deeper {k : Nat} {A : Around} (r : RoomG (k + 1) A) (env : PySem.Env) : RoomG k (A.deeper env) := ⟨r.room.deeper env, r.gd⟩
/-- a def's promise, where no guard stands -/
structure FnG (P : Program) (w : World) (K : PySem.W.Frag) (mg : Str → Option Value) (base : Heap) (k : Nat) (f : Addr) (fd : FuncData) (ps : List Str) (sp : Sp) : Prop where
  len : ∀ vs H Q E, sp vs H Q E → vs.length = ps.length
  run : ∀ (A : Around) (outer : List PySem.Env) (s : Shared) (H : Hp) (args : Args) (us : List Value) (vs : List V) (Q : VK) (E : XK), RoomG k A → Env0 P w K mg base A outer s H → BindsTo s fd args (ps.zip us) → Vals vs us → sp vs H Q E →
    codeAny (model P w) A (.call (.ref f) args) (CR (L2.CX P w) outer P w H s Q E) s
/-- what the evaluator says of a def -/
def spF (G : Gd) (P : Calls) (f : Nat) : Sp := fun vs H Q E => ∃ F ρ s ws, Rel G F ρ s H ∧ RepVs G ρ (Mu ρ s F) H ws vs ∧ Out G F ρ s H E (RepV G) (P f ws s) Q
section
variable {P : Program} {w : World} {K : PySem.W.Frag} {mg : Str → Option Value} {base : Heap} {G : Gd}
theorem FnG.mono {j k : Nat} {f : Addr} {fd : FuncData} {ps : List Str} {sp : Sp} (F : FnG P w K mg base j f fd ps sp) (h : j ≤ k) : FnG P w K mg base k f fd ps sp :=
  ⟨F.len, fun A outer s H args us vs Q E hr => F.run A outer s H args us vs Q E (hr.mono h)⟩
/-- a def by its body -/
theorem fn_body {k : Nat} {f : Addr} {fd : FuncData} {x qual : Str} {params : Arguments} {body : List Stmt} {scope : Scope} {dvs : List V} {kws : List (Str × V)} {N ps : List Str} {sp : Sp} (D : FunD K x qual params body scope dvs kws f fd) (S : FnScope N ps scope)
    (len : ∀ vs H Q E, sp vs H Q E → vs.length = ps.length)
    (hb : ∀ (cdv : Value) (A : Around) (outer : List PySem.Env) (s : Shared) (H : Hp) (vs : List V) (Q : VK) (E : XK), RoomG k (A.deeper (PyProof.Rows.envOfC qual scope s.heap.objs.size f cdv)) → sp vs H Q E →
      ∃ t, PSs (cxOf (L2.CX P w) P w K mg base N qual scope f cdv A outer s H E) body t ∧ t { nx := fun _ H' => Q .non H', rt := Q } (L2.start N vs) H) : FnG P w K mg base (k + 1) f fd ps sp := by
  obtain ⟨oc, od, dV, kV, doc, pm, an, cdv, ct, osl, rfl, lk, hcd, _, _⟩ := D.ex
  refine ⟨len, fun A outer s H args us vs Q E hr e0 hbd r hsp => ?_⟩
  have KX : K.In s.heap := e0.mod.kin.keeps fun b o e => (e0.bs b o e).1
  have lim : s.heap.NoLimit := e0.mod.nolimit.keeps fun b o e => (e0.bs b o e).1
  refine codeAny_call_function hr.room.depth (KX _ _ lk) rfl S.co S.gen rfl (PySem.W.codeRec_of KX hcd) (hbd _ _ _ _ ?_)
  refine wpAny_newFunctionEnv_cells S.kind (fun y hy => ?_) fun env he s1 x => ?_
  · have hm := (List.of_mem_zip (a := y.1) (b := y.2) hy).1
    rcases S.par _ hm with q | q
    · exact .inl q
    · exact .inr ⟨q, PySem.W.cellsFrom_some _ _ _ (.inl q)⟩
  subst he
  obtain ⟨t, ht, hq⟩ := hb cdv A outer s H vs Q E (hr.deeper _) hsp
  have I := inv_start (CX := L2.CX P w) (E := E) S hr.room.hd e0 (len _ _ _ _ hsp) r x
  refine ⟨lim.keeps x.toInCall.keep, codeAny_func (wpAny_mono (ht.run [] s1 _ H _ I hq) (fun fl s' hs => ?_) fun e s' hs => hs)⟩
  match fl, hs with
  | .ret u, ⟨v, σ', H', J, rv, q⟩ => exact ⟨v, H', J.os, J.bare, J.base, J.hok, rv, q⟩
  | .next, ⟨σ', H', J, q⟩ => exact ⟨.non, H', J.os, J.bare, J.base, J.hok, rfl, q⟩
  | .brk, ⟨_, _, _, q⟩ => exact q.elim
  | .cont, ⟨_, _, _, q⟩ => exact q.elim
theorem start_at {F : Addr → Prop} {ρ : List Addr} {s : Store} {H : Hp} {N : List Str} {ws : List Val} {vs : List V} (l : Rel G F ρ s H) (r : RepVs G ρ (Mu ρ s F) H ws vs) : At G F ρ s H (ws.map some ++ List.replicate (N.length - ws.length) none) (L2.start N vs) := by
  have hl := r.len
  refine ⟨l, by simp [L2.start, hl], fun i v e => ?_⟩
  by_cases hi : i < ws.length
  · rw [List.getElem?_append_left (by simpa using hi), List.getElem?_map] at e
    cases e1 : ws[i]? with
    | none => rw [e1] at e; cases e
    | some y =>
      rw [e1] at e; cases e
      obtain ⟨x, hx, rr⟩ := r.get e1
      refine ⟨x, ?_, rr⟩
      unfold L2.start
      rw [List.getElem?_append_left (by simpa [← hl] using hi), List.getElem?_map, hx]; rfl
  · rw [List.getElem?_append_right (by simpa using hi), List.getElem?_replicate] at e
    split at e <;> cases e
/-- a def of the program -/
theorem fn_run {prog : Calls → Nat → Option Fn} {n i k : Nat} {g : Fn} {f : Addr} {fd : FuncData} {x qual : Str} {params : Arguments} {body : List Stmt} {scope : Scope} {dvs : List V} {kws : List (Str × V)} {N ps : List Str} (D : FunD K x qual params body scope dvs kws f fd) (S : FnScope N ps scope)
    (hp : prog (runP prog n) i = some g) (h1 : g.pars = ps.length) (h2 : g.slots = N.length)
    (hb : ∀ (cdv : Value) (A : Around) (outer : List PySem.Env) (s : Shared) (H : Hp) (E : XK), RoomG k (A.deeper (PyProof.Rows.envOfC qual scope s.heap.objs.size f cdv)) →
      SS G (fun C d _ H' => E C d H') (cxOf (L2.CX P w) P w K mg base N qual scope f cdv A outer s H E) g.body body) : FnG P w K mg base (k + 1) f fd ps (spF G (runP prog (n + 1)) i) := by
  have len : ∀ {vs : List V} {H : Hp} {Q : VK} {E : XK} {F : Addr → Prop} {ρ : List Addr} {s : Store} {ws : List Val}, Out G F ρ s H E (RepV G) (runP prog (n + 1) i ws s) Q → ws.length = g.pars := by
    intro vs H Q E F ρ s ws o
    simp only [runP, hp] at o
    unfold runFn at o
    by_cases c : ws.length = g.pars
    · exact c
    · rw [if_neg c] at o; exact o.elim
  refine fn_body D S (fun vs H Q E ⟨F, ρ, st, ws, l, r, o⟩ => by rw [← r.len, len (vs := vs) o, h1]) fun cdv A outer s H vs Q E hr ⟨F, ρ, st, ws, l, r, o⟩ => ⟨_, hb cdv A outer s H E hr, ?_⟩
  have hw : ws.length = ps.length := by rw [len (vs := vs) o, h1]
  refine ⟨F, ρ, st, _, start_at l r, ?_⟩
  simp only [runP, hp] at o
  unfold runFn at o
  rw [if_pos (by rw [hw, h1])] at o
  rw [h2, h1, ← hw] at o
  cases e : g.body (ws.map some ++ List.replicate (N.length - ws.length) none) st with
  | nx E1 s1 =>
    rw [e] at o
    intro σ' ρ' H' gg at'
    obtain ⟨ρ1, g1, l1, x1, _⟩ := fin_ok (v := .d .non) (x := .non) l gg at'.rel (by simp [RepV, RepD])
    exact o _ ρ1 H' g1 l1 x1
  | rt v s1 =>
    rw [e] at o
    intro x ρ' H' gg l' x'
    obtain ⟨ρ1, g1, l1, x1, _⟩ := fin_ok l gg l' x'
    exact o _ ρ1 H' g1 l1 x1
  | exc c fs E1 s1 =>
    rw [e] at o
    intro σ' ρ' H' d xs gg at' hd q
    obtain ⟨ρ1, g1, l1, x1, st1⟩ := fin_ok (v := .d .non) (x := .non) l gg at'.rel (by simp [RepV, RepD])
    exact o ρ1 H' d xs g1 l1 hd fun f z hz => let ⟨y, h1, h2⟩ := q f z hz; ⟨y, h1, RepD.still st1 z y h2⟩
  | bk _ _ => rw [e] at o; exact o.elim
  | ct _ _ => rw [e] at o; exact o.elim
  | fail => rw [e] at o; exact o.elim
end

section
variable {G : Gd} {X : Cx} {W : WX} {e : Expr} {es : List Expr} {ca : AC} {P : Calls} {i k : Nat} {f : Addr} {fd : FuncData} {ps : List Str} {x : Str} {p pos : Pos}
theorem run_g {pins : List (Addr × PySem.Obj)} {σ : St} {H : Hp} {s : Shared} {Q : VK} {us : List Value} {vs : List V} {sp : Sp} {E : XK} (F : FnG X.prog X.w X.K X.mg X.base k f fd ps sp) (hr : RoomG k X.A) (hb : Binds X.K fd ps []) (hx : PassesAt (L2.CX X.prog X.w) X σ E) (I : L2.Inv X pins σ H s) (r : Vals vs us) (h : sp vs H Q E) :
    wpAny (model X.prog X.w) X.A (PySem.call (.ref f) us) (EP X pins σ Q) X.xe s := by
  have hl : (us ++ []).length = ps.length := by rw [List.append_nil, ← r.length]; exact F.len _ _ _ _ h
  have b := hb s us I.kIn hl
  rw [List.append_nil] at b
  refine wpAny_call (codeAny_mono (F.run X.A X.stack s H ⟨us, []⟩ us vs Q E hr I.env0 b r h) fun r s' hq => ?_)
  match r, hq with
  | .error e, hq => exact hx pins H s e s' I hq
  | .ok (.ret u), hq => exact I.after hq
  | .ok .next, hq => exact hq.elim
  | .ok .brk, hq => exact hq.elim
  | .ok .cont, hq => exact hq.elim
theorem se_call (F : FnG X.prog X.w X.K X.mg X.base k f fd ps (spF G P i)) (hr : RoomG k X.A) (hm : X.mg x = some (.ref f)) (hk : PySem.W.keepIn X.K (.ref f) = true) (hb : Binds X.K fd ps []) (tk : Takes X W) (ha : SA G W X ca (e :: es)) 
    (hg : Gl X x := by rfl) (hdb : (x == ("__debug__" : Str)) = false := by decide) (he : starEach (e :: es) X.env = (false, eval e X.env) :: starEach es X.env := by rfl) (hpl : (backTo pos (starEach es X.env)).any (·.1) = false := by rfl) :
    SE G W X (call P i ca) (.Call (.Name x p) (e :: es) [] pos) := by
  refine ⟨fun pins s σ H Q I ⟨F0, ρ, st, E, at_, o⟩ => ?_⟩
  refine wpAny_Call_Name_kw (ld_glob I hg hm ?_ hdb)
  refine PySem.W.callWith_K (h₀ := X.base) I.ok.mod.kin hk (thn (ha.run pos pins s σ H (fun vs H1 => ∃ ρ1 s1 ws, Go ρ st H ρ1 s1 H1 ∧ Rel G F0 ρ1 s1 H1 ∧ RepVs G ρ1 (Mu ρ1 s1 F0) H1 ws vs ∧ Out G F0 ρ1 s1 H1 (fun C d H' => W C d σ H') (RepV G) (P i ws s1) Q) I
    ⟨F0, ρ, st, E, at_, Out.bind (R := RepVs G) o⟩) fun us s1 ⟨vs, H1, I1, r, q⟩ => ⟨I1.kIn, ?_⟩) he hpl
  obtain ⟨ρ1, st1, ws, g1, l1, x1, o1⟩ := q
  exact run_g F hr hb (passAt tk σ) I1 r ⟨F0, ρ1, st1, ws, l1, x1, o1⟩
end
end Ev
end
section
set_option Elab.async false
set_option linter.all false
set_option autoImplicit false
set_option maxRecDepth 100000
set_option maxHeartbeats 4000000
/-! Own errors: made, raised, caught. -/
namespace Ev
open PySem L2
/-! ### an error's __init__: super().__init__(text); self.f = .. -/
/-- what the written part says of it -/
structure InitF (P : Program) (K : PySem.W.Frag) (C fI : Addr) (fd : FuncData) (qual : Str) (params : Arguments) (body : List Stmt) (scope : Scope) (cc cda : Addr) : Prop where
  lk : ∃ (oc : Value) (od : Option Addr) (kV doc pm : Value) (an : Option Addr) (ct : Value) (osl : Array (Option Value)), fd = PySem.W.ksFn "__init__" qual params body scope .none kV doc pm an (.ref cda) ct cc ∧ K.lookup fI = some ⟨oc, od, .func fd, osl⟩
  code : PySem.W.codeIn K (.ref cda) qual = true
  file : ∃ (ccl : Value) (cdd : Option Addr) (vs : Array Value) (ccs : Array (Option Value)) (file : Str) (tf : Tok), K.lookup cda = some ⟨ccl, cdd, .fields vs, ccs⟩ ∧ vs[2]? = some (.str file tf) ∧ ((P.main.file : Str) == file) = true
  cell : ∃ (cl : Value) (cld : Option Addr) (csl : Array (Option Value)), K.lookup cc = some ⟨cl, cld, .cell (some (.ref C)), csl⟩
  any : PySem.W.nsIn K cStatics "thirdparty.any" = some none
  above : PySem.W.ks_superIn K C C "__init__" = some (some (.builtin "ValueError.__init__"))
  sub : PySem.W.subIn K (.ref C) (.type "ValueError") = some true
  self : PySem.W.mroIn K C (.ref C) = some true
  sup : PySem.W.nsIn K mainGlobals "super" = some none
  top : (P.main.scope.names.lookup ("super" : Str)).isSome = false
/-- the context behind the super() -/
def cxI (P : Program) (w : World) (K : PySem.W.Frag) (mg : Str → Option Value) (base : Heap) (N : List Str) (qual : Str) (scope : Scope) (f cda cc : Addr) (A : Around) (outer : List PySem.Env) (s : Shared) (H : Hp) : Cx where
  prog := P
  w := w
  K := K
  mg := mg
  base := base
  A := A.deeper (PySem.W.ksEnv qual scope s.heap.objs.size f (.ref cda) cc)
  N := N
  s_0 := s
  H_0 := H
  env := PySem.W.ksEnv qual scope s.heap.objs.size f (.ref cda) cc
  outer := outer
  stack := PySem.W.ksEnv qual scope s.heap.objs.size f (.ref cda) cc :: outer
  ex := []
  calm := true
  fn := fun _ => false
  pn := []
  xe := fun _ _ => False
theorem zip_last {x : Str} {u : Value} : ∀ {N : List Str} {us : List Value} {i : Nat}, N.Nodup → N[i]? = some x → us[i]? = some u → (N.zip us).reverse.lookup x = some u
  | [], _, _, _, h, _ => by simp at h
  | _ :: _, [], _, _, _, h => by simp at h
  | p :: P, v :: vs, 0, nd, h1, h2 => by
    simp at h1 h2
    subst h1 h2
    rw [List.zip_cons_cons, List.reverse_cons, List.lookup_append]
    have : (P.zip vs).reverse.lookup p = none := by
      rw [List.lookup_eq_none_iff]
      intro q hq
      have hm := (List.of_mem_zip (a := q.1) (b := q.2) (List.mem_reverse.mp hq)).1
      simp only [bne_iff_ne, ne_eq, beq_eq_false_iff_ne]
      intro e
      exact (List.nodup_cons.mp nd).1 (by rw [e]; exact hm)
    rw [this]; simp
  | p :: P, v :: vs, i + 1, nd, h1, h2 => by
    simp at h1 h2
    rw [List.zip_cons_cons, List.reverse_cons, List.lookup_append, zip_last (List.nodup_cons.mp nd).2 h1 h2]
    rfl
structure InitScope (N : List Str) (scope : Scope) : Prop where
  kind : scope.kind = .function
  co : scope.isCoroutine = false
  gen : scope.isGenerator = false
  nd : N.Nodup
  par : ∀ x ∈ N, scope.names.lookup x = some .local
  nocell : ∀ x ∈ scope.names, x.2 ≠ .cell
  free : ∀ x, scope.names.lookup x = some .free → x = "__class__"
  sup : scope.names.lookup ("super" : Str) = some .globalImplicit
  cls : scope.names.lookup ("__class__" : Str) = some .free
section
variable {P : Program} {w : World} {K : PySem.W.Frag} {mg : Str → Option Value} {base : Heap} {C fI cc cda : Addr} {fd : FuncData} {qual : Str} {params : Arguments} {body : List Stmt} {scope : Scope} {N : List Str} {A : Around} {outer : List PySem.Env} {s : Shared} {H : Hp}
theorem inv_init {vs : List V} {us : List Value} {h1 : Heap} {t1 : Nat} (S : InitScope N scope) (hd : A.handled = none) (e0 : Env0 P w K mg base A outer s H) (hl : vs.length = N.length) (r : Vals vs us)
    (hcc : ∃ (cl : Value) (cld : Option Addr) (csl : Array (Option Value)), K.lookup cc = some ⟨cl, cld, .cell (some (.ref C)), csl⟩)
    (hns : h1.Ns s.heap.objs.size (fun x => (N.zip us).reverse.lookup x)) (hk : ∀ b o, s.heap.get? b = some o → h1.get? b = some o) :
    L2.Inv (cxI P w K mg base N qual scope fI cda cc A outer s H) [] (vs.map some) H { s with heap := h1, toks := t1 } := by
  obtain ⟨cl, cld, csl, hcc⟩ := hcc
  have hcb := e0.mod.kin _ _ hcc
  have hcs := (e0.bs _ _ hcb).1
  have cellEq : ∀ {x : Str} {c : Addr}, (cxI P w K mg base N qual scope fI cda cc A outer s H).env.cells.lookup x = some c → x = "__class__" ∧ c = cc := fun {x c} h => by
    have h' : ([(("__class__" : Str), cc)] : List (Str × Addr)).lookup x = some c := h
    by_cases hx : x = "__class__"
    · subst hx
      refine ⟨rfl, ?_⟩
      rw [List.lookup_cons_self] at h'; exact (Option.some.inj h').symm
    · have : (x == ("__class__" : Str)) = false := by simpa using hx
      simp [List.lookup, this] at h'
  have noA : ∀ b : Addr, b ∉ (cxI P w K mg base N qual scope fI cda cc A outer s H).ex := fun b z => absurd (show b ∈ ([] : List Addr) from z) (by simp)
  refine ⟨⟨e0.mod, S.kind, rfl, rfl, Nat.le_refl _, fun x y c h1 h2 => (cellEq h1).1.trans (cellEq h2).1.symm, fun y hy => ?_, fun y c z => absurd (show false = true from z) Bool.false_ne_true, fun _ => hd, Around.frames_deeper e0.frames, .inr ⟨rfl, rfl⟩, fun b z => absurd z (noA b), e0.bs, e0.bsz, fun b _ _ => noA b, fun b z => absurd z (noA b), e0.funs, e0.frf⟩,
    rfl, e0.bare, Un.kept hk, ⟨_, hns, fun i x v h1 h2 h3 => ?_⟩, fun x c h => ⟨_, _, (cellEq h).2 ▸ hk _ _ hcs, rfl⟩, e0.hok.fresh (Nat.le_refl _), fun x c h => ?_, fun p hp => absurd (show p ∈ ([] : List (Addr × PySem.Obj)) from hp) (by simp), e0.hok.kept hk, ?_⟩
  · have hy : scope.names.lookup y = some .cell ∨ scope.names.lookup y = some .free := hy
    rcases hy with hy | hy
    · exact absurd rfl (S.nocell _ (PySem.mem_of_lookup hy))
    · exact ⟨cc, by rw [S.free y hy]; rfl⟩
  · rw [List.getElem?_map] at h2
    cases e : vs[i]? with
    | none => rw [e] at h2; cases h2
    | some v' =>
      rw [e] at h2; cases h2
      obtain ⟨u, hu, rv⟩ := r.get e
      have hx := S.par x (List.mem_of_getElem? h1)
      refine ⟨u, rv, .inl ⟨hx, ?_⟩⟩
      show (N.zip us).reverse.lookup x = some u
      exact zip_last S.nd h1 hu
  · have := (e0.bs _ _ hcb).2
    rw [(cellEq h).2]; exact this
  · show (vs.map some).length = N.length
    rw [List.length_map, hl]
/-- what such an __init__ promises: te is what is kept -/
def spI (te : TE) (C : Addr) (fld : Str) : Sp := fun vs H Q _ => ∃ a y, vs = [.ref a, y] ∧ H a = some (exo a C none) ∧
  te (vs.map some) H fun z H1 => H1 a = some (exo a C none) ∧ ∀ dx, H1 dx = none → dx ≠ a → Q .non (upd (upd H1 dx (exd dx [(fld, z)])) a (exo a C (some dx)))
theorem init_ok {msg fld slf pn : Str} {j k : Nat} {p0 p1 p2 p3 p4 p5 p6 p7 p8 : Pos} {e : Expr} {te : TE} (F : InitF P K C fI fd qual params body scope cc cda) (T : OexC K C) (S : InitScope [slf, pn] scope)
    (hbody : body = [.Expr (.Call (.Attribute (.Call (.Name "super" p0) [] [] p1) "__init__" p2) [.Constant (.str msg) j p3] [] p4) p5, .Assign [.Attribute (.Name slf p6) fld p7] e p8])
    (hpar : ∃ ar, (params.posonlyargs ++ params.args).head? = some ar ∧ ar.arg = slf) (hno : PySem.W.findIn K (.ref C) fld = some none) (hdb : (slf == ("__debug__" : Str)) = false) (hcd : (slf == ("__classdict__" : Str)) = false)
    (he : ∀ A outer s H, PE (cxI P w K mg base [slf, pn] qual scope fI cda cc A outer s H) e te)
    (mono : ∀ σ H Q Q', (∀ x H, Q x H → Q' x H) → te σ H Q → te σ H Q')
    (hs1 : ∀ env, swapsWith (.Call (.Attribute (.Call (.Name "super" p0) [] [] p1) "__init__" p2) [.Constant (.str msg) j p3] [] p4) none p5.line env = pure false) (hs2 : ∀ env, swapsWith e (some (.Attribute (.Name slf p6) fld p7)) p8.line env = pure false)
    (hev : ∀ env : PySem.Env, ∃ pl : Sem Bool, eval (.Call (.Attribute (.Call (.Name "super" p0) [] [] p1) "__init__" p2) [.Constant (.str msg) j p3] [] p4) env = (do
      let ov ← attributeBase (.Call (.Name "super" p0) [] [] p1) "__init__" env (eval (.Call (.Name "super" p0) [] [] p1) env)
      standAt p2.atName
      let (f, first) ← holding [ov] (getMethod ov "__init__" pl)
      callWith p4 f first (backTo p4 (starEach [.Constant (.str msg) j p3] env)) [])) :
    FnOk P w K mg base (L2.CX P w) (k + 1) fI fd [slf, pn] (spI te C fld) := by
  obtain ⟨oc, od, kV, doc, pm, an, ct, osl, rfl, lk⟩ := F.lk
  subst hbody
  refine ⟨fun vs H Q E h => ?_, fun A outer s H args us vs Q E hr e0 hb r hsp => ?_⟩
  · obtain ⟨a, y, rfl, _⟩ := h
    rfl
  obtain ⟨a, y, ev, ea, q⟩ := hsp
  have hl : vs.length = [slf, pn].length := by rw [ev]; rfl
  have KX : K.In s.heap := e0.mod.kin.keeps fun b o e => (e0.bs b o e).1
  have lim : s.heap.NoLimit := e0.mod.nolimit.keeps fun b o e => (e0.bs b o e).1
  refine PySem.ks_codeAny_call_defAt hr.depth (KX _ _ lk) rfl lim (PySem.W.codeRec_of KX F.code) rfl hb S.nocell (fun x hx => S.par _ (List.of_mem_zip (a := x.1) (b := x.2) hx).1) (fun h1 hns hk => ?_) S.co S.gen S.kind
  have I := inv_init (fI := fI) (cda := cda) (qual := qual) (t1 := s.toks + ([slf, pn].zip us).length) S hr.hd e0 hl r F.cell hns hk
  generalize hs1e : ({ s with heap := h1, toks := s.toks + ([slf, pn].zip us).length } : Shared) = s1 at I ⊢
  have hns1 : s1.heap.Ns s.heap.objs.size (fun x => ([slf, pn].zip us).reverse.lookup x) := by rw [← hs1e]; exact hns
  obtain ⟨u1, u2, rfl, rfl⟩ : ∃ u1 u2, us = [.ref a, u2] ∧ u1 = u2 := by
    subst ev
    cases r with
    | @cons _ v0 _ _ r0 r1 =>
      cases r1 with
      | @cons _ v1 _ _ r2 r3 =>
        cases r3
        obtain rfl : v0 = Value.ref a := r0
        exact ⟨v1, v1, rfl, rfl⟩
  obtain ⟨pl, hpl⟩ := hev (PySem.W.ksEnv qual scope s.heap.objs.size fI (.ref cda) cc)
  refine PySem.ks_wpAt_execs_cons (PySem.ks_wpAt_Expr_any (PySem.ks_wpAt_MethodCall (pl := pl) ?_ hpl) I.quiet (hs1 _))
  obtain ⟨ar, har, harg⟩ := hpar
  obtain ⟨ccl, cdd, cvs, ccs, file, tf, hcda, hv2, hfile⟩ := F.file
  obtain ⟨cl, cld, csl, hcc⟩ := F.cell
  have K1 := I.kIn
  obtain ⟨nm, q0, N0, bs, bm, sn, sub, ab, col, dd, k0, k1, k2, k3, k5, hC, hbm⟩ := T.cls
  obtain ⟨t1, ho⟩ := exo_at I.hok ea
  refine PySem.ks_wpAt_super_base S.sup S.cls rfl rfl (K1 _ _ lk) rfl har rfl (K1 _ _ hcda) rfl hv2 hfile F.top ?_
  have G1 : s1.heap.Ns mainGlobals mg := I.ok.mod.glob.keeps I.bk
  obtain ⟨mb, hmb, hbb⟩ := I.ok.mod.blt
  have B1 : s1.heap.Ns builtinsNs mb := hmb.keeps I.bk
  have hC1 := K1 _ _ hC
  refine PySem.W.ks_loadName_global S.kind S.sup (PySem.Calls.loadGlobal_builtin (mg := mg) (mb := mb) G1 (PySem.W.mg_none_of I.ok.mod.kin I.ok.mod.glob F.sup) B1 ((hbb _ (by decide +kernel)).trans (show bootBuiltins "super" = some (.type "super") by decide +kernel)) ⟨rfl, ?_⟩)
  refine wpAny_loadName_free S.kind S.cls rfl ⟨_, K1 _ _ hcc, rfl⟩ ?_
  refine wpAny_loadName_local S.kind (by rw [harg]; exact S.par _ (List.mem_cons_self ..)) hns1 (by rw [harg]; exact zip_last (i := 0) S.nd rfl rfl) ?_
  refine PySem.ks_wpAny_isType_cls hC1 rfl ⟨rfl, ?_⟩
  obtain ⟨hp, g, d, t, os⟩ := s1
  refine PySem.ks_wpAny_call_super hC1 rfl ho rfl (fun c => by simp) (PySem.W.looks_mroIn K1 F.self) (fun h2 hso k2 => ?_)
  have I2 := I.kept (h' := h2) (t' := t) k2
  have K2 := I2.kIn
  have IA : PySem.W.InstAt h2 a _ C none := ⟨k2 _ _ ho, rfl, rfl, trivial⟩
  cases hcl : PySem.W.clsIn K C with
  | none =>
    have q := F.above
    unfold PySem.W.ks_superIn at q
    rw [hcl] at q; cases q
  | some cd =>
    have q1 := F.above
    unfold PySem.W.ks_superIn at q1
    rw [hcl] at q1
    refine PySem.W.kxs_getMethod PySem.W.kxs_ValueError hso (PySem.W.looks_opaque K2 F.any) (l₀ := cd.mro) ?_ rfl K2 q1 (IA.type.andThen (PySem.W.looks_subIn K2 F.sub)) (PySem.W.ks_ne K2 IA hcl) (by decide) ?_
    · exact fun A Q E s k q => wpAny_bind ((PySem.W.looks_clsIn K2 hcl) A _ E s k (wpAny_pure q))
    have I3 := I2.kept (h' := h2.push (PySem.W.kxs_mw "ValueError.__init__" a)) (t' := t + 1) (fun b o e => Heap.get?_push_of_some _ e)
    have hmw : (h2.push (PySem.W.kxs_mw "ValueError.__init__" a)).get? h2.objs.size = some (PySem.W.kxs_mw "ValueError.__init__" a) := Heap.get?_push_size _ rfl
    have fp := I2.fpOk (b := h2.objs.size) (Nat.le_refl _) (I2.hok.fresh (Nat.le_refl _))
    have I4 := I3.pins_of (pins' := [(h2.objs.size, PySem.W.kxs_mw "ValueError.__init__" a)]) (fun p hp => by
      obtain rfl := List.mem_singleton.mp hp
      exact ⟨hmw, fp.1, fp.2.1, fp.2.2.1, fun v => by simp⟩)
    have ha : PA (cxI P w K mg base [slf, pn] qual scope fI cda cc A outer s H) [.Constant (.str msg) j p3] (tCons (tC (.str msg)) tNil) := pa_cons pe_str pa_nil
    refine PySem.W.kxs_callWith1 (h₀ := Att.noObjs h2) (L := h2.objs.size + 1) (news := [(h2.objs.size, PySem.W.kxs_mw "ValueError.__init__" a)]) (fun p hp => ?_) (List.mem_singleton.mpr rfl) ?_
    · obtain rfl := List.mem_singleton.mp hp
      exact ⟨hmw, Nat.ne_of_lt (Nat.lt_succ_self _), Att.noObjs_get _ _⟩
    refine thn (ha.run p4 _ _ _ H (fun vs H1 => vs = [V.str msg] ∧ H = H1) I4 ⟨rfl, rfl⟩) fun ws s5 hh => ?_
    obtain ⟨vs5, H5, I5, r5, ev5, eH⟩ := hh
    subst ev5
    rw [← eH] at I5
    have hmw5 := (I5.pin _ (List.mem_append_right _ (List.mem_singleton.mpr rfl))).1
    refine ⟨hmw5, ?_⟩
    have hz : ws.length ≤ sizeLine := by rw [← r5.length, line_eq]; show 1 ≤ line; decide
    have I6 := I5.pins_of (pins' := []) (fun p hp => by cases hp)
    have hC6 := I6.kIn _ _ hC
    obtain ⟨t6, ho6⟩ := exo_at I6.hok ea
    obtain ⟨h6, g6, d6, n6, os6⟩ := s5
    refine wpAny_call (codeAny_of_tree ?_)
    show wpAny _ _ (callAny (.ref h2.objs.size) ⟨ws, []⟩) _ _ _
    unfold callAny
    refine wpAny_bind (wpAny_load hmw5 ?_)
    have c1 : ∀ c : String, (Value.type "method-wrapper" == Value.type "method" || Value.type "method-wrapper" == Value.type c || Value.type "method-wrapper" == Value.type "method-wrapper") = true := fun c => by simp
    have c2 : (Value.type "method-wrapper" != Value.type "method") = true := by decide
    show wpAny _ _ (if _ then (if (Value.type "method-wrapper" != Value.type "method") = true then (do checkBoundCall "ValueError.__init__" ⟨.ref a :: ws, []⟩; again (.builtin "ValueError.__init__" ⟨.ref a :: ws, []⟩)) else _) else _) _ _ _
    rw [if_pos (c1 _), if_pos c2]
    refine wpAny_bind (PySem.W.check_bound_init PySem.F.excBase_ValueError.toExcCallFacts hC6 ho6 rfl ?_)
    refine wpAny_pure ⟨PySem.plainId_quiet PySem.F.excBase_ValueError.init.plain _, codeAny_builtin PySem.F.excBase_ValueError.initEntry ?_⟩
    refine PySem.W.exc_init_tree (cls := .ref C) (t0 := t6) (dv := none) (c2 := .none) (c3 := .none) (b4 := .bool false) ho6 hz fun h7 k7 hx7 _ => ?_
    have J := I6.write (h' := h7) (t' := n6) (x := a) (e := a) (o := exo a C none) (by rw [ea]; exact True.intro) (.inl rfl) k7 ⟨_, hx7⟩ (exo_ok hx7)
    rw [upd_id ea] at J
    have hv : Vis (cxI P w K mg base [slf, pn] qual scope fI cda cc A outer s H).env.scope slf := .inl (S.par _ (List.mem_cons_self ..))
    have ps := pss_one (ps_ost (f := fld) (p' := p7) (pos := p8) (pe_var (X := cxI P w K mg base [slf, pn] qual scope fI cda cc A outer s H) (i := 0) (x := slf) (pos := p6) rfl hv hdb hcd) (he A outer s H) (hs2 _))
    have run := ps.run [] ⟨h7, g6, d6, n6, os6⟩ (vs.map some) H { nx := fun _ H' => Q .non H', rt := fun _ _ => False } J (by
      refine mono _ _ _ _ (fun z H1 hz => ?_) q
      refine ⟨.ref a, by rw [ev]; rfl, a, C, rfl, T, hno, .inl ⟨hz.1, hz.2⟩⟩)
    refine wpAt_of_wpAny (wpAny_mono run (fun fl s8 h8 => ?_) fun e s8 h8 => h8.elim)
    match fl, h8 with
    | .next, ⟨σ8, H8, J8, q8⟩ => exact ⟨.non, H8, J8.os, J8.bare, J8.base, J8.hok, rfl, q8⟩
    | .ret u, ⟨_, _, _, _, _, q8⟩ => exact q8.elim
    | .brk, ⟨_, _, _, q8⟩ => exact q8.elim
    | .cont, ⟨_, _, _, q8⟩ => exact q8.elim
end
end Ev
end
section
set_option Elab.async false
set_option linter.all false
set_option autoImplicit false
set_option maxRecDepth 100000
set_option maxHeartbeats 4000000
/-! raise, try. -/
namespace Ev
open PySem L2
section
variable {G : Gd} {F : Addr → Prop} {ρ ρ1 : List Addr} {s s1 : Store} {H H1 : Hp}
/-- the heap behind C(e): the error's own object is let go, its dict stands -/
def flown (H : Hp) (a dx : Addr) (xs : List (Str × V)) : Hp := fun b => if b = dx then some (.xd xs) else if b = a then none else H b
theorem flown_eq {u u' : HO} {a dx : Addr} {xs : List (Str × V)} : upd (del (upd (upd H dx u) a u') a) dx (.xd xs) = flown H a dx xs := by
  funext b
  unfold flown
  by_cases h1 : b = dx
  · rw [if_pos h1, h1, upd_same]
  · rw [if_neg h1, upd_ne h1]
    by_cases h2 : b = a
    · rw [if_pos h2, h2, del_same]
    · rw [if_neg h2, del_ne h2, upd_ne h2, upd_ne h1]
theorem flown_ne {a dx b : Addr} {xs : List (Str × V)} (h1 : b ≠ dx) (h2 : b ≠ a) : flown H a dx xs b = H b := by unfold flown; rw [if_neg h1, if_neg h2]
theorem flown_same {a dx : Addr} {xs : List (Str × V)} : flown H a dx xs dx = some (.xd xs) := if_pos rfl
theorem exo_xd {e C : Addr} {d : Option Addr} {xs : List (Str × V)} : exo e C d ≠ .xd xs := fun z => by
  have z' : HO.ext _ = HO.xd xs := z
  cases z'
theorem fly_ok {a C dx : Addr} {dd : Option Addr} {xs : List (Str × V)} (r : Rel G (FP F a) ρ s H) (na : a ∉ ρ) (nF : ¬ F a) (ha : H a = some (exo a C dd)) (nd : H dx = none) :
    Rel G F ρ s (flown H a dx xs) ∧ Still (Mu ρ s (FP F a)) H (Mu ρ s F) (flown H a dx xs) := by
  have keep : ∀ {b : Addr} {o : HO}, H b = some o → b ≠ a → flown H a dx xs b = some o := fun {b o} e h => by rw [flown_ne (ne_of_none e nd) h]; exact e
  have sub : ∀ b, Mu ρ s F b → Mu ρ s (FP F a) b := mu_sub fun _ z => .inl z
  have st : Still (Mu ρ s (FP F a)) H (Mu ρ s F) (flown H a dx xs) := ⟨fun b o e n => ⟨keep e fun z => n (.inl (.inr z)), fun q => n (sub b q)⟩, fun b ys e => keep e (at_ne ha e exo_tup), fun b o u e => keep e (at_ne ha e exo_frz), fun b ys e => keep e (at_ne ha e exo_xd)⟩
  have nr : ∀ {n : Nat} {b : Addr}, ρ[n]? = some b → b ≠ a := fun {n b} e z => na (by rw [← z]; exact List.mem_of_getElem? e)
  refine ⟨⟨r.len, r.nd, fun n b e l q => r.nf n b e l (.inl q), fun n b e => ?_, fun b q => ?_, fun n o b h1 h2 => ?_⟩, st⟩
  · obtain ⟨w, hw⟩ := r.tr n b e; exact ⟨w, keep hw (nr e)⟩
  · obtain ⟨w, hw⟩ := r.ft b (.inl q); exact ⟨w, keep hw fun z => nF (by rw [← z]; exact q)⟩
  · exact RepO.still st (fun _ _ e => e) (fun w e => keep e (nr h2)) o (r.ob n o b h1 h2)
theorem fly_go {a C dx : Addr} {o : HO} {xs : List (Str × V)} (g : Go ρ s (upd H a o) ρ1 s1 H1) (n : H a = none) (nd : H1 dx = none) : Go ρ s H ρ1 s1 (flown H1 a dx xs) := by
  have hne : ∀ {b : Addr} {w : HO}, H b = some w → b ≠ a ∧ b ≠ dx := fun {b w} e => by
    have h1 := ne_of_none e n
    refine ⟨h1, fun z => ?_⟩
    obtain ⟨w', h'⟩ := g.there b w (by rw [upd_ne h1]; exact e)
    rw [z, nd] at h'; cases h'
  obtain ⟨m, e, hm⟩ := g.pre
  refine ⟨⟨m, e, fun b hb => ?_⟩, g.liv, fun b w e hl => ?_, fun b w e => ?_⟩
  · have q := hm b hb
    by_cases c : b = a
    · rw [c, n]
    · rwa [upd_ne c] at q
  · rw [flown_ne (hne e).2 (hne e).1]
    exact g.keep b w (by rw [upd_ne (hne e).1]; exact e) hl
  · obtain ⟨w', h'⟩ := g.there b w (by rw [upd_ne (hne e).1]; exact e)
    exact ⟨w', by rw [flown_ne (hne e).2 (hne e).1]; exact h'⟩
/-- how the __init__ keeps its argument -/
def keepE : How → EC
  | .plain => v 1
  | .tuple => e1 pTuple (v 1)
theorem keep_ok {h : How} {f : Str} {x : Val} {s : Store} {fs : List (Str × D)} (e : keepAs h f x s = some fs) : ∃ z, keepE h [none, some x] s = .ok (.d z) s ∧ fs = [(f, z)] := by
  cases h with
  | plain =>
    cases x with
    | d z => cases e; exact ⟨z, rfl, rfl⟩
    | loc _ => cases e
    | exn _ _ => cases e
  | tuple =>
    cases x with
    | d z =>
      cases z with
      | tup xs => cases e; exact ⟨_, rfl, rfl⟩
      | lst xs => cases e; exact ⟨_, rfl, rfl⟩
      | _ => cases e
    | loc _ => cases e
    | exn _ _ => cases e
end
section
variable {G : Gd} {X : Cx} {W : WX} {a : Expr} {ca : EC} {pos p pp : Pos}
theorem s_raise {c k : Nat} {h : How} {x fld slf pn : Str} {fI : Addr} {fd : FuncData} (T : OexC X.K (G.ca c)) (iC : PySem.W.findIn X.K (.ref (G.ca c)) "__init__" = some (some (.ref fI))) (tI : PySem.W.typeIn X.K (.ref fI) = some (.type "function"))
    (F1 : FnOk X.prog X.w X.K X.mg X.base (L2.CX X.prog X.w) k fI fd [slf, pn] (spI (tE G Shut (keepE h)) (G.ca c) fld)) (hr : Room (k + 1) X.A) (hb : Binds X.K fd [slf, pn] []) (hm : X.mg x = some (.ref (G.ca c))) (hc : X.calm = true) (tk : Takes X W) (ha : SE G W X ca a)
    (hg : Gl X x := by rfl) (hs : starEach [a] X.env = (false, eval a X.env) :: starEach [] X.env := by rfl) (hdb : (x == ("__debug__" : Str)) = false := by decide) : S1 G W X (sRaise c h fld ca) (.Raise (some (.Call (.Name x p) [a] [] pp)) none pos) :=
  PS.imp (ps_raise hc tk (pmk_oex T iC tI F1 hr hb .nil (fun pins σ H s e s' I cx => by obtain ⟨_, _, _, _, _, _, _, _, _, _, _, _, z⟩ := cx; exact z.elim) hg hm (pa_cons ha pa_nil hs) hdb hs rfl)) fun D σ H ⟨F, ρ, s, E, at_, o⟩ => by
    refine ⟨F, ρ, s, E, at_, (SOut.of (R := RepV G) at_ o).mono ?_⟩
    rintro y H1 ⟨ρ1, s1, v1, g1, at1, x1, o1⟩
    refine ⟨by simp, fun e ne => ?_⟩
    cases ek : keepAs h fld v1 s1 with
    | none => rw [ek] at o1; exact o1.elim
    | some fs =>
      rw [ek] at o1
      simp only at o1
      obtain ⟨z, hz, rfl⟩ := keep_ok ek
      have nF : ¬ F e := fun q => by obtain ⟨w, hw⟩ := at1.rel.ft e q; rw [ne] at hw; cases hw
      have nr : e ∉ ρ1 := at1.rel.nin ne
      have atG := at1.guard (p := e) (o := exo e (G.ca c) none) ne
      have t : Still (Mu ρ1 s1 F) H1 (Mu ρ1 s1 (FP F e)) (upd H1 e (exo e (G.ca c) none)) := guard_still at1.rel ne
      refine ⟨e, y, rfl, upd_same, FP F e, ρ1, s1, [none, some v1], ⟨atG.rel, ⟨rfl, fun i w hw => ?_⟩⟩, ?_⟩
      · match i, hw with
        | 0, hw => simp at hw
        | 1, hw =>
          simp at hw
          subst hw
          exact ⟨y, rfl, RepV.still t (fun _ _ h => h) _ _ x1⟩
        | i + 2, hw => simp at hw
      · rw [hz]
        intro u ρ2 H2 g2 l2 u2
        have ea : H2 e = some (exo e (G.ca c) none) := g2.keep e _ upd_same fun n hn _ => nr (List.mem_of_getElem? hn)
        have nr2 : e ∉ ρ2 := notin g2 nr upd_same
        refine ⟨ea, fun dx nd hne => ⟨rfl, dx, [(fld, u)], upd_same, by rw [upd_ne hne, upd_same], ?_, ?_⟩⟩
        · cases q : H1 dx with
          | none => rfl
          | some w =>
            obtain ⟨w', h'⟩ := g2.there dx w (by rw [upd_ne hne]; exact q)
            rw [nd] at h'; cases h'
        · rw [flown_eq]
          obtain ⟨r3, st3⟩ := fly_ok (dx := dx) (xs := [(fld, u)]) l2 nr2 nF ea nd
          have g3 := fly_go (C := G.ca c) (xs := [(fld, u)]) g2 ne nd
          refine o1 σ ρ2 _ dx _ g3 (at1.go g3 r3) flown_same fun f zz hzz => ?_
          simp only [List.lookup] at hzz ⊢
          split at hzz
          · cases hzz
            exact ⟨u, rfl, RepD.still st3 _ _ u2⟩
          · cases hzz
end

/-! ### try -/
section
variable {G G' : Gd} {F : Addr → Prop} {ρ : List Addr} {s : Store} {H : Hp}
/-- one error is being handled -/
def Gd.hand (G : Gd) (a : Addr) (d : Option Addr) (cls : Value) : Gd := { G with ex := fun a' d' c' => a' = a ∧ d' = d ∧ cls = .ref (G.ca c') }
theorem RepV.to {M : Addr → Prop} (hK : G'.K = G.K) (hx : ∀ a d c, G.ex a d c → G'.ex a d c) : ∀ {v : Val} {x : V}, RepV G ρ M H v x → RepV G' ρ M H v x
  | .d z, x, h => by show RepD G'.K M H z x; rw [hK]; exact h
  | .loc n, x, h => h
  | .exn c fs, x, ⟨a, d, xs, e, g, h, r⟩ => ⟨a, d, xs, e, hx _ _ _ g, h, by rw [hK]; exact r⟩
theorem RepVs.to {M : Addr → Prop} (hK : G'.K = G.K) (hx : ∀ a d c, G.ex a d c → G'.ex a d c) : ∀ {v : List Val} {x : List V}, RepVs G ρ M H v x → RepVs G' ρ M H v x
  | [], [], h => h
  | v :: vs, x :: xs, h => ⟨h.1.to hK hx, h.2.to hK hx⟩
  | [], _ :: _, h => h
  | _ :: _, [], h => h
theorem RepF.to {κ : Type} {M : Addr → Prop} (hK : G'.K = G.K) (hx : ∀ a d c, G.ex a d c → G'.ex a d c) : ∀ {v : List (κ × Val)} {x : List (κ × V)}, RepF G ρ M H v x → RepF G' ρ M H v x
  | [], [], h => h
  | v :: vs, x :: xs, h => ⟨⟨h.1.1, h.1.2.to hK hx⟩, h.2.to hK hx⟩
  | [], _ :: _, h => h
  | _ :: _, [], h => h
theorem RepV.un {M : Addr → Prop} (hK : G'.K = G.K) : ∀ {v : Val} {x : V}, noExV v = true → RepV G' ρ M H v x → RepV G ρ M H v x
  | .d z, x, _, h => by show RepD G.K M H z x; rw [← hK]; exact h
  | .loc n, x, _, h => h
  | .exn c fs, x, e, _ => by cases e
theorem RepVs.un {M : Addr → Prop} (hK : G'.K = G.K) : ∀ {v : List Val} {x : List V}, v.all noExV = true → RepVs G' ρ M H v x → RepVs G ρ M H v x
  | [], [], _, h => h
  | v :: vs, x :: xs, c, h => by
    simp only [List.all_cons, Bool.and_eq_true] at c
    exact ⟨h.1.un hK c.1, h.2.un hK c.2⟩
  | [], _ :: _, _, h => h
  | _ :: _, [], _, h => h
theorem RepF.un {κ : Type} {M : Addr → Prop} (hK : G'.K = G.K) : ∀ {v : List (κ × Val)} {x : List (κ × V)}, (v.all fun p => noExV p.2) = true → RepF G' ρ M H v x → RepF G ρ M H v x
  | [], [], _, h => h
  | v :: vs, x :: xs, c, h => by
    simp only [List.all_cons, Bool.and_eq_true] at c
    exact ⟨⟨h.1.1, h.1.2.un hK c.1⟩, h.2.un hK c.2⟩
  | [], _ :: _, _, h => h
  | _ :: _, [], _, h => h
theorem noEx_V {M : Addr → Prop} (hx : ∀ a d c, ¬ G.ex a d c) : ∀ {v : Val} {x : V}, RepV G ρ M H v x → noExV v = true
  | .d _, _, _ => rfl
  | .loc _, _, _ => rfl
  | .exn c fs, x, ⟨a, d, xs, e, g, _⟩ => absurd g (hx _ _ _)
theorem noEx_Vs {M : Addr → Prop} (hx : ∀ a d c, ¬ G.ex a d c) : ∀ {v : List Val} {x : List V}, RepVs G ρ M H v x → v.all noExV = true
  | [], [], _ => rfl
  | v :: vs, x :: xs, h => by simp only [List.all_cons, Bool.and_eq_true]; exact ⟨noEx_V hx h.1, noEx_Vs hx h.2⟩
  | [], _ :: _, h => h.elim
  | _ :: _, [], h => h.elim
theorem noEx_F {κ : Type} {M : Addr → Prop} (hx : ∀ a d c, ¬ G.ex a d c) : ∀ {v : List (κ × Val)} {x : List (κ × V)}, RepF G ρ M H v x → (v.all fun p => noExV p.2) = true
  | [], [], _ => rfl
  | v :: vs, x :: xs, h => by simp only [List.all_cons, Bool.and_eq_true]; exact ⟨noEx_V hx h.1.2, noEx_F hx h.2⟩
  | [], _ :: _, h => h.elim
  | _ :: _, [], h => h.elim
theorem Rel.noEx (l : Rel G F ρ s H) (hx : ∀ a d c, ¬ G.ex a d c) : s.all noExO = true := by
  refine List.all_eq_true.mpr fun o ho => ?_
  obtain ⟨n, hn⟩ := List.mem_iff_getElem?.mp ho
  have hl : n < ρ.length := by rw [l.len]; exact (List.getElem?_eq_some_iff.mp hn).1
  have q := l.ob n o _ hn (List.getElem?_eq_getElem hl)
  cases o with
  | lst ds => rfl
  | lv vs => obtain ⟨xs, _, _, r⟩ := q; exact noEx_Vs hx r
  | dct vs => obtain ⟨xs, _, _, r⟩ := q; exact noEx_F hx r
  | ins c vs => obtain ⟨dx, xs, _, r⟩ := q; exact noEx_F hx r
  | dead => rfl
theorem RepO.to {M : Addr → Prop} {a : Addr} (hK : G'.K = G.K) (hc : G'.ca = G.ca) (hx : ∀ a d c, G.ex a d c → G'.ex a d c) : ∀ {o : Obj}, RepO G ρ M H a o → RepO G' ρ M H a o
  | .lst ds, ⟨xs, h1, h2, h3⟩ => ⟨xs, h1, h2, by rw [hK]; exact h3⟩
  | .lv ds, ⟨xs, h1, h2, h3⟩ => ⟨xs, h1, h2, h3.to hK hx⟩
  | .dct ds, ⟨xs, h1, h2, h3⟩ => ⟨xs, h1, h2, h3.to hK hx⟩
  | .ins c ds, ⟨dx, xs, h1, h3⟩ => ⟨dx, xs, by rw [hc]; exact h1, h3.to hK hx⟩
  | .dead, _ => trivial
theorem RepO.un {M : Addr → Prop} {a : Addr} (hK : G'.K = G.K) (hc : G'.ca = G.ca) : ∀ {o : Obj}, noExO o = true → RepO G' ρ M H a o → RepO G ρ M H a o
  | .lst ds, _, ⟨xs, h1, h2, h3⟩ => ⟨xs, h1, h2, by rw [← hK]; exact h3⟩
  | .lv ds, c, ⟨xs, h1, h2, h3⟩ => ⟨xs, h1, h2, h3.un hK c⟩
  | .dct ds, c, ⟨xs, h1, h2, h3⟩ => ⟨xs, h1, h2, h3.un hK c⟩
  | .ins _ ds, c, ⟨dx, xs, h1, h3⟩ => ⟨dx, xs, by rw [← hc]; exact h1, h3.un hK c⟩
  | .dead, _, _ => trivial
theorem Rel.to (l : Rel G F ρ s H) (hK : G'.K = G.K) (hc : G'.ca = G.ca) (hx : ∀ a d c, G.ex a d c → G'.ex a d c) : Rel G' F ρ s H := ⟨l.len, l.nd, l.nf, l.tr, l.ft, fun n o a h1 h2 => (l.ob n o a h1 h2).to hK hc hx⟩
theorem Rel.un (l : Rel G' F ρ s H) (hK : G'.K = G.K) (hc : G'.ca = G.ca) (hn : s.all noExO = true) : Rel G F ρ s H := ⟨l.len, l.nd, l.nf, l.tr, l.ft, fun n o a h1 h2 => (l.ob n o a h1 h2).un hK hc (List.all_eq_true.mp hn o (List.mem_of_getElem? h1))⟩
end
section
variable {G : Gd} {X : Cx} {W : WX} {e : Expr} {pos p : Pos}
/-- try: .. except C as n: .. -/
theorem s_try {b u : SC} {c i : Nat} {others : List Nat} {x n : Str} {body suite : List Stmt} {b₀ : Stmt} {np pos' : Pos} (hx : ∀ a d c, ¬ G.ex a d c) (hs : X.stack = X.env :: X.outer) (hf : X.env.frame = some X.env.locals) (hN : X.N.Nodup) (hc : Names X x (.ref (G.ca c))) (tk : Takes X W)
    (h1 : PySem.W.exmOne X.K (.ref (G.ca c)) (.ref (G.ca c)) = some true) (h2 : ∀ c' ∈ others, PySem.W.exmOne X.K (.ref (G.ca c')) (.ref (G.ca c)) = some false)
    (hb : ∀ (W : WX) (pn : List (Addr × PySem.Obj)) (xe : Value → Shared → Prop), Takes (X.tr pn xe) W → PassesOwn (model X.prog X.w) X.A X.env xe → SS G W (X.tr pn xe) b body)
    (hu : ∀ (a : Addr) (oe : PySem.Obj) (cls : Value) (d : Option Addr) (pn : List (Addr × PySem.Obj)), Zc cls d oe → (∃ vs, oe.data = .fields vs) → SS (G.hand a d cls) Shut (X.suite a ((a, oe) :: pn)) u (b₀ :: suite))
    (hi : X.N[i]? = some n := by rfl) (hln : X.env.kindOf n = some .local := by rfl) :
    S1 G W X (sTry b c others i u) (.Try body [.ExceptHandler (some (.Name x np)) (some n) (b₀ :: suite) pos'] [] [] pos) :=
  PS.imp (ps_try_as (tb := fun W => tS G W b) (ts := fun a cls d => tS (G.hand a d cls) Shut u) hs hf hN hi hln hc tk hb (fun a oe cls d pn hz hd => hu a oe cls d pn hz hd)) fun D σ H ⟨F, ρ, s, E, at_, o⟩ => by
    refine ⟨F, ρ, s, E, at_, ?_⟩
    unfold sTry at o
    cases eb : b E s with
    | exc c' fs E1 s1 =>
      rw [eb] at o
      simp only at o
      intro σ1 ρ1 H1 d xs g1 at1 hd q
      by_cases hcc : c' = c
      · subst hcc
        rw [if_pos rfl] at o
        refine ⟨true, h1, fun _ a na => ?_, fun z => by cases z⟩
        by_cases hi1 : i < E1.length
        · rw [if_pos hi1] at o
          have rx : RepV (G.hand a (some d) (.ref (G.ca c'))) ρ1 (Mu ρ1 s1 F) H1 (.exn c' fs) (.ref a) := ⟨a, d, xs, rfl, ⟨rfl, rfl, rfl⟩, hd, q⟩
          have at' : At (G.hand a (some d) (.ref (G.ca c'))) F ρ1 s1 H1 (E1.set i (some (.exn c' fs))) (σ1.set i (some (.ref a))) :=
            ⟨at1.rel.to rfl rfl fun _ _ _ z => absurd z (hx _ _ _), RepE.set (G := G.hand a (some d) (.ref (G.ca c'))) ⟨at1.env.len, fun j w hw => let ⟨y, hy, r⟩ := at1.env.get j w hw; ⟨y, hy, RepV.to (G := G) (G' := G.hand a (some d) (.ref (G.ca c'))) (v := w) (x := y) rfl (fun _ _ _ z => absurd z (hx _ _ _)) r⟩⟩ rx i⟩
          refine ⟨F, ρ1, s1, _, at', ?_⟩
          have back : ∀ {ρ2 : List Addr} {s2 : Store} {H2 : Hp}, (s2.all noExO = true ∨ s2 = s1) → Rel (G.hand a (some d) (.ref (G.ca c'))) F ρ2 s2 H2 → Rel G F ρ2 s2 H2 := fun h r =>
            r.un rfl rfl (h.elim id fun z => by rw [z]; exact at1.rel.noEx hx)
          cases eu : u (E1.set i (some (.exn c' fs))) s1 with
          | nx E2 s2 =>
            rw [eu] at o
            simp only at o
            split at o
            · rename_i hne
              split at o
              · rename_i hns
                intro σ2 ρ2 H2 g2 at2
                refine o _ ρ2 H2 (g1.trans g2) ⟨back hns at2.rel, ?_⟩
                have r2 := at2.env.unset i
                refine ⟨r2.len, fun j w hw => ?_⟩
                obtain ⟨y, hy, r⟩ := r2.get j w hw
                exact ⟨y, hy, RepV.un (G := G) (G' := G.hand a (some d) (.ref (G.ca c'))) rfl (List.all_eq_true.mp hne (some w) (List.mem_of_getElem? hw)) r⟩
              · exact o.elim
            · exact o.elim
          | rt v s2 =>
            rw [eu] at o
            cases v with
            | d z =>
              simp only at o
              split at o
              · rename_i hns
                exact fun y ρ2 H2 g2 r2 y2 => o y ρ2 H2 (g1.trans g2) (back hns r2) y2
              · exact o.elim
            | loc _ => exact o.elim
            | exn _ _ => exact o.elim
          | bk _ _ => rw [eu] at o; exact o.elim
          | ct _ _ => rw [eu] at o; exact o.elim
          | exc _ _ _ _ => rw [eu] at o; exact o.elim
          | fail => rw [eu] at o; exact o.elim
        · rw [if_neg hi1] at o; exact o.elim
      · rw [if_neg hcc] at o
        by_cases ho : c' ∈ others
        · rw [if_pos ho] at o
          exact ⟨false, h2 _ ho, (fun z => by cases z), fun _ => o σ1 ρ1 H1 d xs g1 at1 hd q⟩
        · rw [if_neg ho] at o; exact o.elim
    | nx _ _ => rw [eb] at o; exact o
    | rt _ _ => rw [eb] at o; exact o
    | bk _ _ => rw [eb] at o; exact o
    | ct _ _ => rw [eb] at o; exact o
    | fail => rw [eb] at o; exact o
/-- n.f of the caught error -/
theorem se_exF {c : Nat} {f : Str} {ce : EC} {a : Addr} {oe : PySem.Obj} {cls : Value} {d : Option Addr} {pn : List (Addr × PySem.Obj)} (T : XfC X.K (G.ca c)) (hno : PySem.W.findIn X.K (.ref (G.ca c)) f = some none) (hz : Zc cls d oe) (hd : ∃ vs, oe.data = .fields vs)
    (he : SE (G.hand a d cls) W (X.suite a ((a, oe) :: pn)) ce e) (hb : attributeBase e f X.env (eval e X.env) = eval e X.env := by rfl) : SE (G.hand a d cls) W (X.suite a ((a, oe) :: pn)) (e1 (exF c f) ce) (.Attribute e f pos) :=
  PE.imp (pe_xf T hno hz hd he hb) fun σ H Q ⟨F, ρ, s, E, at_, o⟩ => by
    refine ⟨F, ρ, s, E, at_, (Out.bind (R := RepV (G.hand a d cls)) o).mono ?_⟩
    rintro x H1 ⟨ρ1, s1, v1, g1, l1, x1, o1⟩
    cases v1 with
    | exn c' fs =>
      simp only [exF] at o1
      split at o1
      · rename_i hcc
        subst hcc
        obtain ⟨a0, d0, xs, rfl, ⟨rfl, e2, e3⟩, hx, q⟩ := x1
        split at o1
        · rename_i z hz'
          obtain ⟨y, hy, r⟩ := q f z hz'
          exact ⟨rfl, e3, d0, xs, y, e2.symm, hx, hy, Out.ret (R := RepV (G.hand a0 d cls)) o1 l1 r⟩
        · exact o1.elim
      · exact o1.elim
    | d _ => exact o1.elim
    | loc _ => exact o1.elim
end
end Ev
end
section
set_option Elab.async false
set_option linter.all false
set_option autoImplicit false
set_option maxRecDepth 100000
set_option maxHeartbeats 4000000
/-! What is looked at behind the top. -/
namespace Ev
open PySem L2
theorem and2 {a b : Bool} (h : (a && b) = true) : a = true ∧ b = true := by simpa using h
/-! ### own error classes -/
def oexB (K : PySem.W.Frag) (C : Addr) : Bool :=
  (match K.lookup C with
    | some ⟨.type t, _, .cls cd, sl⟩ => decide (t = "type") && (cd.hasDict && (!cd.hasDel && ((match cd.mro with | .ref C' :: bm => decide (C' = C) && PySem.HandSPX.refsVE bm | _ => false) && (match sl.toList with | [_, _, _, _, some (.builtin n), _] => decide (n = "ValueError.__new__") | _ => false))))
    | _ => false) &&
  (decide (PySem.W.findIn K (.ref C) "__setattr__" = some (some (.builtin "object.__setattr__"))) && (decide (PySem.W.subIn K (.ref C) (.type "BaseException") = some true) && (decide (PySem.W.typeIn K (.ref C) = some (.type "type")) && PySem.W.keepIn K (.ref C))))
theorem oexB_ok {K : PySem.W.Frag} {C : Addr} (h : oexB K C = true) : OexC K C := by
  obtain ⟨h1, h2⟩ := and2 h
  obtain ⟨h2, h3⟩ := and2 h2
  obtain ⟨h3, h4⟩ := and2 h3
  obtain ⟨h4, h5⟩ := and2 h4
  refine ⟨?_, of_decide_eq_true h2, of_decide_eq_true h3, of_decide_eq_true h4, h5⟩
  split at h1
  · rename_i t dd cd sl lk
    obtain ⟨a1, g1⟩ := and2 h1
    obtain ⟨a2, g2⟩ := and2 g1
    obtain ⟨a3, g3⟩ := and2 g2
    obtain ⟨a4, a5⟩ := and2 g3
    clear h1 g1 g2 g3
    obtain ⟨nm, bs, mro, ns, qn, hd, sn, sb, ab, col, dl⟩ := cd
    simp only at a2 a3 a4
    split at a4
    · rename_i C' bm
      obtain ⟨b1, b2⟩ := and2 a4
      split at a5
      · rename_i k0 k1 k2 k3 n k5 hs
        have e1 := of_decide_eq_true a1
        have e2 := of_decide_eq_true b1
        have e3 := of_decide_eq_true a5
        have e4 : sl = #[k0, k1, k2, k3, some (.builtin n), k5] := Array.toList_inj.mp hs
        have e5 : dl = false := by simpa using a3
        subst e1 e2 e3 e4 e5 a2
        exact ⟨nm, qn, ns, bs, bm, sn, sb, ab, col, dd, k0, k1, k2, k3, k5, lk, b2⟩
      · cases a5
    · cases a4
  · cases h1
/-! ### their __init__s -/
/-- an error class and its __init__, as the text has it -/
structure InD where
  cls : Str
  qual : Str
  params : Arguments
  body : List Stmt
  scope : Scope
abbrev FnI : Type := Option (Str × Str × Arguments × FuncBody × Scope × Addr × List Str × Addr)
def fnI (K : PySem.W.Frag) (x : Str) : FnI := match K.lookup (He.ma K (He.ga K x) "__init__") with
  | some ⟨_, _, .func fd, _⟩ => some (fd.name, fd.qualname, fd.params, fd.body, fd.scope, fd.globals, fd.closure.map (·.1), fd.builtins)
  | _ => none
def InD.val (d : InD) : FnI := some ("__init__", d.qual, d.params, .stmts d.body, d.scope, mainGlobals, ["__class__"], builtinsNs)
def initB (P : Program) (K : PySem.W.Frag) (d : InD) : Bool :=
  oexB K (He.ga K d.cls) && (decide (PySem.W.findIn K (.ref (He.ga K d.cls)) "__init__" = some (some (.ref (He.ma K (He.ga K d.cls) "__init__")))) && (decide (PySem.W.typeIn K (.ref (He.ma K (He.ga K d.cls) "__init__")) = some (.type "function")) &&
  ((match K.lookup (He.ma K (He.ga K d.cls) "__init__") with
    | some ⟨_, _, .func fd, _⟩ => (match fd.code with
      | .ref cda => PySem.W.codeIn K (.ref cda) d.qual && (match K.lookup cda with
        | some ⟨_, _, .fields vs, _⟩ => (match vs[2]? with | some (Value.str f _) => (P.main.file : Str) == f | _ => false)
        | _ => false)
      | _ => false) && ((match fd.defaults with | .none => true | _ => false) && match fd.closure with
      | [(_, cc)] => (match K.lookup cc with | some ⟨_, _, .cell (some (.ref D)), _⟩ => decide (D = He.ga K d.cls) | _ => false)
      | _ => false)
    | _ => false) &&
  (decide (PySem.W.ks_superIn K (He.ga K d.cls) (He.ga K d.cls) "__init__" = some (some (.builtin "ValueError.__init__"))) && (decide (PySem.W.subIn K (.ref (He.ga K d.cls)) (.type "ValueError") = some true) && decide (PySem.W.mroIn K (He.ga K d.cls) (.ref (He.ga K d.cls)) = some true))))))
theorem initB_ok {P : Program} {K : PySem.W.Frag} {d : InD} (h : initB P K d = true) (e : fnI K d.cls = d.val) (any : PySem.W.nsIn K cStatics "thirdparty.any" = some none) (sup : PySem.W.nsIn K mainGlobals "super" = some none) (top : (P.main.scope.names.lookup ("super" : Str)).isSome = false) :
    OexC K (He.ga K d.cls) ∧ ∃ (fI : Addr) (fd : FuncData) (cc cda : Addr), PySem.W.findIn K (.ref (He.ga K d.cls)) "__init__" = some (some (.ref fI)) ∧ PySem.W.typeIn K (.ref fI) = some (.type "function") ∧ InitF P K (He.ga K d.cls) fI fd d.qual d.params d.body d.scope cc cda := by
  obtain ⟨h1, h⟩ := and2 h
  obtain ⟨h2, h⟩ := and2 h
  obtain ⟨h3, h⟩ := and2 h
  obtain ⟨h4, h⟩ := and2 h
  obtain ⟨h5, h⟩ := and2 h
  obtain ⟨h6, h7⟩ := and2 h
  refine ⟨oexB_ok h1, He.ma K (He.ga K d.cls) "__init__", ?_⟩
  unfold fnI at e
  cases lk : K.lookup (He.ma K (He.ga K d.cls) "__init__") with
  | none => rw [lk] at h4; cases h4
  | some o =>
    obtain ⟨oc, od, dt, osl⟩ := o
    rw [lk] at h4 e
    cases dt with
    | func fd =>
      obtain ⟨n1, n2, n3, n4, n5, n6, n7, n8, n9, n10, n11, n12, n13, n14, n15⟩ := fd
      simp only at h4 e
      obtain ⟨k1, k2⟩ := and2 h4
      simp only [InD.val, Option.some.injEq, Prod.mk.injEq] at e
      obtain ⟨e1, e2, e3, e4, e5, e6, e7, e8⟩ := e
      split at k1
      · rename_i cda
        obtain ⟨k1, k3⟩ := and2 k1
        obtain ⟨kd, k4⟩ := and2 k2
        clear k2
        have ed : n8 = .none := by
          split at kd
          · rfl
          · cases kd
        split at k4
        · rename_i nmc cc
          have enm : nmc = "__class__" := by simpa using e7
          split at k4
          · rename_i ccl ccd D csl lcc
            split at k3
            · rename_i xcl xcd vs xsl lcda
              split at k3
              · rename_i f tf hv
                have eD := of_decide_eq_true k4
                subst e1 e2 e3 e4 e5 e6 e8 enm ed
                rw [eD] at lcc
                exact ⟨_, cc, cda, of_decide_eq_true h2, of_decide_eq_true h3, ⟨⟨oc, od, n9, n10, n11, n12, n14, osl, rfl, lk⟩, k1, ⟨_, _, _, _, _, _, lcda, hv, k3⟩, ⟨_, _, _, lcc⟩, any, of_decide_eq_true h5, of_decide_eq_true h6, of_decide_eq_true h7, sup, top⟩⟩
              · cases k3
            · cases k3
          · cases k4
        · cases k4
      · cases k1
    | _ => simp at h4
/-! ### the Hook -/
def allB (P : Program) (ins : List InD) (xfs : List (Str × Str)) (K : PySem.W.Frag) : Bool :=
  (K.lookup sysModules).isSome && (decide (PySem.W.nsIn K cStatics "thirdparty.any" = some none) && (decide (PySem.W.nsIn K mainGlobals "super" = some none) && ((ins.all fun d => initB P K d) && ((xfs.all fun q => xfB K (He.ga K q.1) && decide (PySem.W.findIn K (.ref (He.ga K q.1)) q.2 = some none)) &&
  (xfs.all fun q => xfs.all fun r => decide (PySem.W.exmOne K (.ref (He.ga K q.1)) (.ref (He.ga K r.1)) = some (decide (q.1 = r.1))))))))
abbrev AlL : Type := He.AlD × Bool × List FnI
def obsL (P : Program) (fa : List He.Fa) (fn : List He.DefD) (ins : List InD) (xfs : List (Str × Str)) (K : PySem.W.Frag) : AlL := (He.obsD fa fn K, allB P ins xfs K, ins.map fun d => fnI K d.cls)
def valL (fn : List He.DefD) (ins : List InD) : AlL := (He.valD fn, true, ins.map InD.val)
def fragL (n : Nat) (g : Addr → Option PySem.Obj) : PySem.W.Frag := He.frG g (sysModules :: cStatics :: He.asD g n)
structure SaysL (P : Program) (fa : List He.Fa) (fn : List He.DefD) (ins : List InD) (xfs : List (Str × Str)) (K : PySem.W.Frag) : Prop where
  eq : obsL P fa fn ins xfs K = valL fn ins
def hookL (P : Program) (n : Nat) (fa : List He.Fa) (fn : List He.DefD) (ins : List InD) (xfs : List (Str × Str)) : PySem.W.Hook where
  α := AlL
  obs := fun s => obsL P fa fn ins xfs (fragL n s.heap.get?)
  val := fun _ => valL fn ins
  says := fun _ h => ∃ K : PySem.W.Frag, K.In h ∧ SaysL P fa fn ins xfs K
  of := fun _ _ e => ⟨_, He.frG_in, ⟨e⟩⟩
  keeps := fun _ _ _ ⟨K, hK, c⟩ k => ⟨K, PySem.W.Frag.In.keeps hK k, c⟩
theorem obsL_eq {P : Program} {n : Nat} {fa : List He.Fa} {fn : List He.DefD} {ins : List InD} {xfs : List (Str × Str)} {g : Addr → Option PySem.Obj} {s : Shared} (h : ∀ a, g a = s.heap.get? a) : obsL P fa fn ins xfs (fragL n g) = (hookL P n fa fn ins xfs).obs s := by
  have e : g = s.heap.get? := funext h
  rw [e]; rfl
section
variable {P : Program} {fa : List He.Fa} {fn : List He.DefD} {ins : List InD} {xfs : List (Str × Str)} {K : PySem.W.Frag}
theorem SaysL.d (c : SaysL P fa fn ins xfs K) : He.SaysD fa fn K := congrArg (fun z : AlL => z.1) c.eq
theorem SaysL.b (c : SaysL P fa fn ins xfs K) : allB P ins xfs K = true := congrArg (fun z : AlL => z.2.1) c.eq
theorem SaysL.sys (c : SaysL P fa fn ins xfs K) : ∃ o, K.lookup sysModules = some o := Option.isSome_iff_exists.mp (and2 c.b).1
theorem SaysL.any (c : SaysL P fa fn ins xfs K) : PySem.W.nsIn K cStatics "thirdparty.any" = some none := of_decide_eq_true (and2 (and2 c.b).2).1
theorem SaysL.sup (c : SaysL P fa fn ins xfs K) : PySem.W.nsIn K mainGlobals "super" = some none := of_decide_eq_true (and2 (and2 (and2 c.b).2).2).1
theorem SaysL.init (c : SaysL P fa fn ins xfs K) (i : Nat) {d : InD} (h : ins[i]? = some d := by rfl) : initB P K d = true ∧ fnI K d.cls = d.val := by
  refine ⟨List.all_eq_true.mp (and2 (and2 (and2 (and2 c.b).2).2).2).1 d (List.mem_of_getElem? h), ?_⟩
  have e : ins.map (fun d => fnI K d.cls) = ins.map InD.val := congrArg (fun z : AlL => z.2.2) c.eq
  have e2 : (ins.map fun d => fnI K d.cls)[i]? = (ins.map InD.val)[i]? := by rw [e]
  rw [List.getElem?_map, List.getElem?_map, h] at e2
  exact Option.some.inj e2
theorem SaysL.xf (c : SaysL P fa fn ins xfs K) (i : Nat) {q : Str × Str} (h : xfs[i]? = some q := by rfl) : XfC K (He.ga K q.1) ∧ PySem.W.findIn K (.ref (He.ga K q.1)) q.2 = some none := by
  have z := and2 (List.all_eq_true.mp (and2 (and2 (and2 (and2 (and2 c.b).2).2).2).2).1 q (List.mem_of_getElem? h))
  exact ⟨xfB_ok z.1, of_decide_eq_true z.2⟩
theorem SaysL.exm (c : SaysL P fa fn ins xfs K) (i j : Nat) {q r : Str × Str} (h : xfs[i]? = some q := by rfl) (h' : xfs[j]? = some r := by rfl) : PySem.W.exmOne K (.ref (He.ga K q.1)) (.ref (He.ga K r.1)) = some (decide (q.1 = r.1)) := by
  have z := List.all_eq_true.mp (and2 (and2 (and2 (and2 (and2 c.b).2).2).2).2).2 q (List.mem_of_getElem? h)
  exact of_decide_eq_true (List.all_eq_true.mp z r (List.mem_of_getElem? h'))
end
end Ev
end
section
set_option Elab.async false
set_option linter.all false
set_option autoImplicit false
set_option maxRecDepth 100000
set_option maxHeartbeats 4000000
/-! The end: the law's call. -/
namespace Ev
open PySem L2 PyProof.Rows
section
variable {P : Program} {w : World} {K : PySem.W.Frag} {mg mb : Str → Option Value} {k : Nat} {fa a : Addr} {fd : FuncData} {x : Str} {sp : Sp} {st : Shared} {vs : List Value} {ns : List Int}
/-- the law's call, its def's promise told for every base: the script is all that may be tracked -/
theorem law_goes (KX : K.In st.heap) (hG : st.heap.Ns mainGlobals mg) (hB : st.heap.Ns builtinsNs mb) (hbb : ∀ x : Str, x ≠ "__name__" → mb x = bootBuiltins x) (hlim : st.heap.NoLimit) (hg : st.gens = #[])
    (ha : st.heap.get? a = some { cls := .type "list", data := .seq vs.toArray }) (hi : IntsAre vs ns) (hl : ns.length ≤ sizeLine) (hr : Room k callerA)
    (F : ∀ base : Heap, K.In base → base.Ns mainGlobals mg → FnG P w K mg base k fa fd [x] sp) (hbind : ∀ (s : Shared) (u : Value), BindsTo s fd ⟨[u], []⟩ [(x, u)])
    (hsp : ∀ H : Hp, (∀ b, H b = none ∨ ∃ o, H b = some (.frz o (.lst (ns.map V.int)))) → ((∃ o, H a = some (.frz o (.lst (ns.map V.int)))) ∨ SqL K (fun _ => none) a (ns.map V.int)) → sp [.ref a] H (fun v _ => v = .bl true) fun _ _ _ => False) :
    codeAny (model P w) callerA (.call (.ref fa) ⟨[.ref a], []⟩) (fun r s' => r = .ok (.ret (.bool true)) ∧ OldK st.heap s'.heap ∧ s'.os = st.os ∧ AllBare s'.gens) st := by
  have rv := vals_ints hi
  have lv : vs.length = ns.length := hi.length.symm ▸ rfl
  classical
  let sc : PySem.Obj := { cls := .type "list", data := .seq vs.toArray }
  let H : Hp := fun b => if b = a ∧ K.lookup a = none then some (.frz sc (.lst (ns.map V.int))) else none
  have hH : ∀ {b : Addr} {u : HO}, H b = some u → b = a ∧ K.lookup a = none ∧ u = .frz sc (.lst (ns.map V.int)) := fun {b u} e => by
    by_cases c : b = a ∧ K.lookup a = none
    · have e2 : some (HO.frz sc (.lst (ns.map V.int))) = some u := (if_pos c).symm.trans e
      exact ⟨c.1, c.2, (Option.some.inj e2).symm⟩
    · have e2 : (none : Option HO) = some u := (if_neg c).symm.trans e
      cases e2
  have cases2 : ∀ b, H b = none ∨ ∃ o, H b = some (.frz o (.lst (ns.map V.int))) := fun b => by
    cases e : H b with
    | none => exact .inl rfl
    | some u => exact .inr ⟨sc, by rw [(hH e).2.2]⟩
  have hok : HOk P w H st.heap := fun b u e => by
    obtain ⟨e1, _, e3⟩ := hH e
    subst e1 e3
    exact ⟨ha, by rw [List.length_map]; exact hl, vs, _, rv, ha⟩
  have low : ∀ {b : Addr} {o : PySem.Obj}, st.heap.get? b = some o → H b = none → (hidT st.heap H).get? b = some o := fun e n => hidT_get e n
  have names : ∀ {b : Addr} {m : Str → Option Value}, st.heap.Ns b m → (hidT st.heap H).Ns b m := fun {b m} ⟨o, es, ep, e, d, r⟩ => by
    refine ⟨o, es, ep, low e ?_, d, r⟩
    cases q : H b with
    | none => rfl
    | some u =>
      have eb := (hH q).1
      rw [eb, ha] at e
      cases e
      cases d
  have KB : K.In (hidT st.heap H) := fun b o e => low (KX b o e) (by
    cases q : H b with
    | none => rfl
    | some u =>
      obtain ⟨e1, e2, _⟩ := hH q
      rw [e1, e2] at e; cases e)
  have md : L2.Mod K mg (hidT st.heap H) := by
    obtain ⟨mc, l1, l2⟩ := hlim
    exact ⟨KB, names hG, ⟨mb, names hB, hbb⟩, ⟨mc, names l1, l2⟩⟩
  have e0 : Env0 P w K mg (hidT st.heap H) callerA [] st H := by
    refine ⟨rfl, md, fun b o e => of_hidT e, Nat.le_of_eq (hidT_size _ _), trivial, fun b hb => ?_, hok, .of_eq hg⟩
    cases hb
  have seen : (∃ o, H a = some (.frz o (.lst (ns.map V.int)))) ∨ SqL K (fun _ => none) a (ns.map V.int) := by
    cases hk : K.lookup a with
    | none => exact .inl ⟨sc, if_pos ⟨rfl, hk⟩⟩
    | some o =>
      have e := KX a o hk
      rw [ha] at e
      cases e
      exact .inr (.inr ⟨_, vs.toArray, _, hk, rfl, rfl, rfl, by rw [List.size_toArray, lv]; exact hl, by simpa using rv⟩)
  have run := (F _ KB (names hG)).run callerA [] st H ⟨[.ref a], []⟩ [.ref a] [.ref a] _ _ ⟨hr, rfl⟩ e0 (hbind st (.ref a)) (.cons rfl .nil) (hsp H cases2 seen)
  refine codeAny_mono run fun r s' h => ?_
  match r, h with
  | .error e, h =>
    obtain ⟨_, _, _, _, _, _, _, _, _, _, _, _, z⟩ := h
    exact z.elim
  | .ok .next, h => exact h.elim
  | .ok .brk, h => exact h.elim
  | .ok .cont, h => exact h.elim
  | .ok (.ret u), ⟨v, H', os, bare, un, hok', rr, q⟩ =>
    subst q
    obtain rfl : u = Value.bool true := rr
    refine ⟨rfl, OldK.of_keep fun b o e => ?_, os, bare⟩
    cases q : H b with
    | none => exact un.keep b o e q (fun z => by cases z) (by simp)
    | some t =>
      obtain ⟨e1, _, e3⟩ := hH q
      rw [e3] at q
      obtain ⟨z, _⟩ := hok' b _ (un.frzs b _ _ q)
      rw [e1, ha] at e
      cases e
      rw [e1] at z
      rw [e1]; exact z
end
/-- a law over the evaluator: what its def does at each script -/
theorem walk_ev {l : PySem.W.OpenLaw} {n k : Nat} {q : Program} {loose : List Str} {XP : (Str → Option Value) → Heap → Prop} {YP : World → Heap → Prop} {d : DefRec} {x : Str} {lawf : Nat} (hn : l.most = some n) (hn2 : n ≤ line) (hdf : d.params.defaults = []) (hr : Room k callerA)
    (F : ∀ (w : World) (mg : Str → Option Value) (fa : Addr) (h : Heap), YP w h → h.Ns mainGlobals mg → mg d.name = some (.ref fa) →
      ∃ (G : Gd) (C : Calls) (fd : FuncData), G.K.In h ∧ (∀ (s : Shared) (u : Value), BindsTo s fd ⟨[u], []⟩ [(x, u)]) ∧
        (∀ base : Heap, G.K.In base → base.Ns mainGlobals mg → FnG l.prog w G.K mg base k fa fd [x] (spF G C lawf)) ∧ ∀ ns : List Int, ns.length ≤ n → ∃ s, C lawf [.d (.scr ns)] [] = .ok (.d (.bl true)) s) :
    PySem.W.WalkO q loose XP YP l.row.toRowW d [] (fun f vs => PySem.call f vs) := by
  refine Att.attach_call hn hdf fun w s₀ s₁ mg mb fa o pm cd doc a vs ns T Y ho hd hcd hmg hobj hints hlen hg => ?_
  obtain ⟨G, C, fd, KX, hb, hF, hC⟩ := F w mg fa _ Y T.T.g hmg
  refine law_goes KX T.T.g T.T.b T.T.builtins T.T.nolimit hg hobj hints (show ns.length ≤ sizeLine by rw [line_eq]; omega) hr hF hb fun H h1 h2 => ?_
  obtain ⟨s, hs⟩ := hC ns hlen
  refine ⟨fun _ => False, [], [], [.d (.scr ns)], ⟨rfl, List.nodup_nil, fun n a e => by simp at e, fun n a e => by simp at e, fun a z => z.elim, fun n o a e => by simp at e⟩, ⟨?_, trivial⟩, ?_⟩
  · simp only [RepV, RepD]
    exact ⟨a, rfl, h2, by rw [line_eq]; omega⟩
  · rw [hs]
    intro b ρ' H' _ _ r
    simpa [RepV, RepD] using r
end Ev
end
section
set_option Elab.async false
set_option linter.all false
set_option autoImplicit false
set_option maxRecDepth 100000
set_option maxHeartbeats 4000000
/-! What the printed derivations lean on. -/
namespace Ev
open PySem L2
theorem takes_shut {X : Cx} : Takes X Shut := fun u s' ⟨_, _, _, _, _, _, _, _, _, _, _, _, _, _, _, _, z⟩ => z.elim
theorem sys_none {X : Cx} (h : ∃ o, X.K.lookup sysModules = some o) (pins : List (Addr × PySem.Obj)) (σ : St) (H : Hp) (s : Shared) (I : L2.Inv X pins σ H s) : H sysModules = none := by
  obtain ⟨o, e⟩ := h
  exact (I.bs _ _ (I.ok.mod.kin _ _ e)).2
section
variable (P : Program) (w : World) (K : PySem.W.Frag) (mg : Str → Option Value) (base : Heap) (G : Gd) (prog : Calls → Nat → Option Fn)
/-- the def i of the program keeps its promise n levels deep -/
def FnAt (n i : Nat) (x : Str) (ps : List Str) : Prop := ∃ (f : Addr) (fd : FuncData), FnG P w K mg base (n + 3) f fd ps (spF G (runP prog n) i) ∧ Binds K fd ps [] ∧ PySem.W.keepIn K (.ref f) = true ∧ mg x = some (.ref f) ∧ ∃ oc od osl, K.lookup f = some ⟨oc, od, .func fd, osl⟩
/-- the error class c, kept field fld -/
def ErrAt (c : Nat) (x fld : Str) (h : How) : Prop := OexC K (G.ca c) ∧ mg x = some (.ref (G.ca c)) ∧ ∃ (fI : Addr) (fd : FuncData) (slf pn : Str), PySem.W.findIn K (.ref (G.ca c)) "__init__" = some (some (.ref fI)) ∧ PySem.W.typeIn K (.ref fI) = some (.type "function") ∧
  FnOk P w K mg base (L2.CX P w) 1 fI fd [slf, pn] (spI (tE G Shut (keepE h)) (G.ca c) fld) ∧ Binds K fd [slf, pn] []
end
section
variable {G : Gd} {X : Cx} {W : WX} {e a : Expr} {es : List Expr} {ca : AC} {ce : EC} {x : Str} {p pp pos : Pos} {prog : Calls → Nat → Option Fn} {n i : Nat} {ps : List Str}
theorem se_at (F : FnAt X.prog X.w X.K X.mg X.base G prog n i x ps) (hr : RoomG (n + 3) X.A) (tk : Takes X W) (ha : SA G W X ca (e :: es)) (hg : Gl X x := by rfl) (hdb : (x == ("__debug__" : Str)) = false := by decide)
    (he : starEach (e :: es) X.env = (false, eval e X.env) :: starEach es X.env := by rfl) (hpl : (backTo pos (starEach es X.env)).any (·.1) = false := by rfl) : SE G W X (call (runP prog n) i ca) (.Call (.Name x p) (e :: es) [] pos) := by
  obtain ⟨f, fd, F, hb, hk, hm, _⟩ := F
  exact se_call F hr hm hk hb tk ha hg hdb he hpl
theorem s_raiseAt {c : Nat} {fld : Str} {h : How} (F : ErrAt X.prog X.w X.K X.mg X.base G c x fld h) (hr : RoomG (n + 3) X.A) (hc : X.calm = true) (tk : Takes X W) (ha : SE G W X ce a)
    (hg : Gl X x := by rfl) (hs : starEach [a] X.env = (false, eval a X.env) :: starEach [] X.env := by rfl) (hdb : (x == ("__debug__" : Str)) = false := by decide) : S1 G W X (sRaise c h fld ce) (.Raise (some (.Call (.Name x p) [a] [] pp)) none pos) := by
  obtain ⟨T, hm, fI, fd, slf, pn, iC, tI, F1, hb⟩ := F
  exact s_raise T iC tI F1 (hr.room.mono (by omega)) hb hm hc tk ha hg hs hdb
theorem mono_tE {c : EC} {W : WX} (σ : St) (H : Hp) (Q Q' : VK) (h : ∀ x H, Q x H → Q' x H) (q : tE G W c σ H Q) : tE G W c σ H Q' := tE.one q h
end
end Ev
namespace Ev
open PySem L2
theorem fn0 {P : Program} {w : World} {K : PySem.W.Frag} {mg : Str → Option Value} {base : Heap} {G : Gd} {prog : Calls → Nat → Option Fn} {k i : Nat} {f : Addr} {fd : FuncData} {ps : List Str} : FnG P w K mg base k f fd ps (spF G (runP prog 0) i) :=
  ⟨fun _ _ _ _ ⟨_, _, _, _, _, _, o⟩ => o.elim, fun _ _ _ _ _ _ _ _ _ _ _ _ _ ⟨_, _, _, _, _, _, o⟩ => o.elim⟩
theorem binds_init {P : Program} {K : PySem.W.Frag} {C fI : Addr} {fd : FuncData} {qual : Str} {params : Arguments} {body : List Stmt} {scope : Scope} {cc cda : Addr} {ps : List Str} (F : InitF P K C fI fd qual params body scope cc cda)
    (h : ∀ (kV doc pm : Value) (an : Option Addr) (ct : Value) (us : List Value), us.length = ps.length → bindArgs (PySem.W.ksFn "__init__" qual params body scope .none kV doc pm an (.ref cda) ct cc) ⟨us, []⟩ = pure (ps.zip us)) : Binds K fd ps [] := by
  obtain ⟨oc, od, kV, doc, pm, an, ct, osl, rfl, lk⟩ := F.lk
  exact .all (h kV doc pm an ct)
theorem fun_at {K : PySem.W.Frag} {x qual : Str} {params : Arguments} {body : List Stmt} {scope : Scope} {dvs : List V} {kws : List (Str × V)} {f : Addr} {fd : FuncData} (D : FunD K x qual params body scope dvs kws f fd) : ∃ oc od osl, K.lookup f = some ⟨oc, od, .func fd, osl⟩ := by
  obtain ⟨oc, od, _, _, _, _, _, _, _, osl, _, lk, _⟩ := D.ex
  exact ⟨oc, od, osl, lk⟩
theorem fun_one {K : PySem.W.Frag} {f : Addr} {fd fd' : FuncData} (h : ∃ oc od osl, K.lookup f = some ⟨oc, od, .func fd, osl⟩) (h' : ∃ oc od osl, K.lookup f = some ⟨oc, od, .func fd', osl⟩) : fd = fd' := by
  obtain ⟨_, _, _, e⟩ := h
  obtain ⟨_, _, _, e'⟩ := h'
  rw [e] at e'; cases e'; rfl
end Ev
end
section
set_option Elab.async false
set_option linter.all false
set_option autoImplicit false
set_option maxRecDepth 100000
set_option maxHeartbeats 0
namespace K51
open PySem PySem.Spec PyProof.Rows L2 Ev
abbrev pg : Program := PySem.Challenge.pw_bitloom_k51_nets_judged
def top (i : Nat) : Stmt := pg.main.body.getD i (.Pass ⟨0, 0, 0, 0⟩)
def within (s : Stmt) (j : Nat) : Stmt := match s with
  | .ClassDef _ _ _ b _ _ _ _ _ _ _ => b.getD j (.Pass ⟨0, 0, 0, 0⟩)
  | _ => .Pass ⟨0, 0, 0, 0⟩
abbrev s_is_number : Stmt := top 4
def d_is_number : He.DefD := ⟨("is_number", none), "is_number", "is_number", defArgs s_is_number, defBody s_is_number, defScope s_is_number, [], []⟩
abbrev s_is_tuple_of : Stmt := top 5
def d_is_tuple_of : He.DefD := ⟨("is_tuple_of", none), "is_tuple_of", "is_tuple_of", defArgs s_is_tuple_of, defBody s_is_tuple_of, defScope s_is_tuple_of, [], []⟩
abbrev s_check_net : Stmt := top 6
def d_check_net : He.DefD := ⟨("check_net", none), "check_net", "check_net", defArgs s_check_net, defBody s_check_net, defScope s_check_net, [], []⟩
abbrev s_check_table : Stmt := top 7
def d_check_table : He.DefD := ⟨("check_table", none), "check_table", "check_table", defArgs s_check_table, defBody s_check_table, defScope s_check_table, [], []⟩
abbrev s_power_of_two : Stmt := top 8
def d_power_of_two : He.DefD := ⟨("power_of_two", none), "power_of_two", "power_of_two", defArgs s_power_of_two, defBody s_power_of_two, defScope s_power_of_two, [], []⟩
abbrev s__law_source : Stmt := top 10
def d__law_source : He.DefD := ⟨("_law_source", none), "_law_source", "_law_source", defArgs s__law_source, defBody s__law_source, defScope s__law_source, [], []⟩
abbrev s__law_pick : Stmt := top 11
def d__law_pick : He.DefD := ⟨("_law_pick", none), "_law_pick", "_law_pick", defArgs s__law_pick, defBody s__law_pick, defScope s__law_pick, [], []⟩
abbrev s__law_of : Stmt := top 12
def d__law_of : He.DefD := ⟨("_law_of", none), "_law_of", "_law_of", defArgs s__law_of, defBody s__law_of, defScope s__law_of, [], []⟩
abbrev s__law_mixed : Stmt := top 13
def d__law_mixed : He.DefD := ⟨("_law_mixed", none), "_law_mixed", "_law_mixed", defArgs s__law_mixed, defBody s__law_mixed, defScope s__law_mixed, [], []⟩
abbrev s__law_is_below : Stmt := top 14
def d__law_is_below : He.DefD := ⟨("_law_is_below", none), "_law_is_below", "_law_is_below", defArgs s__law_is_below, defBody s__law_is_below, defScope s__law_is_below, [], []⟩
abbrev s__law_draw_net : Stmt := top 15
def d__law_draw_net : He.DefD := ⟨("_law_draw_net", none), "_law_draw_net", "_law_draw_net", defArgs s__law_draw_net, defBody s__law_draw_net, defScope s__law_draw_net, [], []⟩
abbrev s__law_bent : Stmt := top 16
def d__law_bent : He.DefD := ⟨("_law_bent", none), "_law_bent", "_law_bent", defArgs s__law_bent, defBody s__law_bent, defScope s__law_bent, [], []⟩
abbrev s__law_is_pair : Stmt := top 17
def d__law_is_pair : He.DefD := ⟨("_law_is_pair", none), "_law_is_pair", "_law_is_pair", defArgs s__law_is_pair, defBody s__law_is_pair, defScope s__law_is_pair, [], []⟩
abbrev s__law_net_fault : Stmt := top 18
def d__law_net_fault : He.DefD := ⟨("_law_net_fault", none), "_law_net_fault", "_law_net_fault", defArgs s__law_net_fault, defBody s__law_net_fault, defScope s__law_net_fault, [], []⟩
abbrev s__law_table_fault : Stmt := top 19
def d__law_table_fault : He.DefD := ⟨("_law_table_fault", none), "_law_table_fault", "_law_table_fault", defArgs s__law_table_fault, defBody s__law_table_fault, defScope s__law_table_fault, [], []⟩
abbrev s__law_path : Stmt := top 20
def d__law_path : He.DefD := ⟨("_law_path", none), "_law_path", "_law_path", defArgs s__law_path, defBody s__law_path, defScope s__law_path, [], []⟩
abbrev s_law : Stmt := top 21
def d_law : He.DefD := ⟨("law", none), "law", "law", defArgs s_law, defBody s_law, defScope s_law, [], []⟩
def fn : List He.DefD := [d_is_number, d_is_tuple_of, d_check_net, d_check_table, d_power_of_two, d__law_source, d__law_pick, d__law_of, d__law_mixed, d__law_is_below, d__law_draw_net, d__law_bent, d__law_is_pair, d__law_net_fault, d__law_table_fault, d__law_path, d_law]
def fa : List He.Fa := [.glo "is_number", .glo "is_tuple_of", .glo "check_net", .glo "check_table", .glo "power_of_two", .glo "_law_source", .glo "_law_pick", .glo "_law_of", .glo "_law_mixed", .glo "_law_is_below", .glo "_law_draw_net", .glo "_law_bent", .glo "_law_is_pair", .glo "_law_net_fault", .glo "_law_table_fault", .glo "_law_path", .glo "law", .glo "LoomError", .glo "BadNet", .free "ValueError", .free "abs", .free "bool", .free "enumerate", .free "int", .free "isinstance", .free "len", .free "list", .free "max", .free "min", .free "range", .free "repr", .free "super", .free "tuple"]
abbrev i_BadNet : Stmt := within (top 2) 0
def n_BadNet : InD := ⟨"BadNet", "BadNet.__init__", defArgs i_BadNet, defBody i_BadNet, defScope i_BadNet⟩
def ins : List InD := [n_BadNet]
def xfs : List (Str × Str) := [("BadNet", "path")]
abbrev R : PySem.W.OpenRow := PySem.W.OpenLaw.row PySem.Challenge.rw_bitloom_k51_nets_judged
def hk : PySem.W.Hook := hookL pg 6 fa fn ins xfs
def ob (s : PySem.W.SharedT) : AlL := obsL pg fa fn ins xfs (fragL 6 (HandSHeadRun.getT s))
theorem ob_eq (s : PySem.W.SharedT) : ob s = hk.obs s.abs := obsL_eq (HandSHeadRun.getT_eq s)
def loose0 : List Str := ["__name__", "LoomError", "BadNet", "is_number", "is_tuple_of", "check_net", "check_table", "power_of_two", "_law_source", "_law_pick", "_law_of", "_law_mixed", "_law_is_below", "_law_draw_net", "_law_bent", "_law_is_pair", "_law_net_fault", "_law_table_fault", "_law_path"]
def loose : List Str := loose0
theorem run (w : World) : HandSHeadRun.RunEq R (PySem.W.view R.prog [21]) hk ob 1500 loose w := by
  intro os
  kernel_rfl
end K51
end
section
set_option Elab.async false
set_option linter.all false
set_option autoImplicit false
set_option maxRecDepth 100000
set_option maxHeartbeats 4000000
namespace K51
open PySem PySem.Spec PyProof.Rows L2 Ev
/-! ### the defs as the evaluator has them -/
noncomputable def e_is_number (C : Calls) : SC := sq (sRet (eand (e1 (pIsi [.int]) (v 0)) (eand (enot (e1 (pIsi [.bool]) (v 0))) (chain pLe pLt (v 1) (v 0) (v 2))))) (sNil)
noncomputable def e_is_tuple_of (C : Calls) : SC := sq (sRet (eand (e1 (pIsi [.tuple]) (v 0)) (e2 pEq (e1 pLen (v 0)) (v 1)))) (sNil)
noncomputable def e_check_net (C : Calls) : SC := sq (sIf (bnot (bv (call C 1 (ac (v 0) (ac (k (.int 5)) (a0)))))) (sq (sRaise 0 .tuple "path" (tup (a0))) (sNil)) (sNil)) (sq (sSet (tt [tn 1, tn 2, tn 3, tn 4, tn 5]) (v 0)) (sq (sIf (bnot (bv (call C 0 (ac (v 1) (ac (k (.int 2)) (ac (k (.int 7)) (a0))))))) (sq (sRaise 0 .tuple "path" (tup (ac (k (.int 0)) (a0)))) (sNil)) (sNil)) (sq (sIf (bnot (bv (call C 0 (ac (v 2) (ac (k (.int 0)) (ac (eif (bv (e1 (pIsi [.int]) (v 2))) (e2 pAdd (v 2) (k (.int 1))) (k (.int 0))) (a0))))))) (sq (sRaise 0 .tuple "path" (tup (ac (k (.int 1)) (a0)))) (sNil)) (sNil)) (sq (sIf (bnot (bv (e1 (pIsi [.tuple]) (v 3)))) (sq (sRaise 0 .tuple "path" (tup (ac (k (.int 2)) (a0)))) (sNil)) (sNil)) (sq (sFor (tt [tn 6, tn 7]) (iEnum (v 3)) (sq (sIf (bnot (bv (call C 1 (ac (v 7) (ac (k (.int 2)) (a0)))))) (sq (sRaise 0 .tuple "path" (tup (ac (k (.int 2)) (ac (v 6) (a0))))) (sNil)) (sNil)) (sq (sIf (bnot (bv (call C 0 (ac (e2 pIx (v 7) (k (.int 0))) (ac (k (.int 0)) (ac (k (.int 2)) (a0))))))) (sq (sRaise 0 .tuple "path" (tup (ac (k (.int 2)) (ac (v 6) (ac (k (.int 0)) (a0)))))) (sNil)) (sNil)) (sNil)))) (sq (sIf (bnot (bv (e1 (pIsi [.tuple]) (v 4)))) (sq (sRaise 0 .tuple "path" (tup (ac (k (.int 3)) (a0)))) (sNil)) (sNil)) (sq (sSet (tn 8) (e2 pAdd (e2 pAdd (k (.int 1)) (v 2)) (e1 pLen (v 3)))) (sq (sFor (tt [tn 9, tn 10]) (iEnum (v 4)) (sq (sExp (call C 3 (ac (v 1) (ac (e2 pAdd (v 8) (v 9)) (ac (v 9) (ac (v 10) (a0))))))) (sNil))) (sq (sFor (tt [tn 6, tn 7]) (iEnum (v 3)) (sq (sIf (bnot (bv (call C 0 (ac (e2 pIx (v 7) (k (.int 1))) (ac (k (.int 0)) (ac (e2 pAdd (v 8) (e1 pLen (v 4))) (a0))))))) (sq (sRaise 0 .tuple "path" (tup (ac (k (.int 2)) (ac (v 6) (ac (k (.int 1)) (a0)))))) (sNil)) (sNil)) (sNil))) (sq (sIf (bnot (bv (e1 (pIsi [.tuple]) (v 5)))) (sq (sRaise 0 .tuple "path" (tup (ac (k (.int 4)) (a0)))) (sNil)) (sNil)) (sq (sFor (tt [tn 11, tn 12]) (iEnum (v 5)) (sq (sIf (bnot (bv (call C 0 (ac (v 12) (ac (k (.int 0)) (ac (e2 pAdd (v 8) (e1 pLen (v 4))) (a0))))))) (sq (sRaise 0 .tuple "path" (tup (ac (k (.int 4)) (ac (v 11) (a0))))) (sNil)) (sNil)) (sNil))) (sNil))))))))))))
noncomputable def e_check_table (C : Calls) : SC := sq (sIf (bnot (bv (call C 1 (ac (v 3) (ac (k (.int 2)) (a0)))))) (sq (sRaise 0 .tuple "path" (tup (ac (k (.int 3)) (ac (v 2) (a0))))) (sNil)) (sNil)) (sq (sSet (tt [tn 4, tn 5]) (v 3)) (sq (sIf (bor (bnot (bv (e1 (pIsi [.tuple]) (v 4)))) (bb (e2 pGt (e1 pLen (v 4)) (v 0)))) (sq (sRaise 0 .tuple "path" (tup (ac (k (.int 3)) (ac (v 2) (ac (k (.int 0)) (a0)))))) (sNil)) (sNil)) (sq (sFor (tt [tn 6, tn 7]) (iEnum (v 4)) (sq (sIf (bor (bnot (bv (call C 0 (ac (v 7) (ac (k (.int 0)) (ac (v 1) (a0))))))) (bb (e2 pIn (v 7) (sl (v 4) (pn) (ps (v 6)))))) (sq (sRaise 0 .tuple "path" (tup (ac (k (.int 3)) (ac (v 2) (ac (k (.int 0)) (a0)))))) (sNil)) (sNil)) (sNil))) (sq (sIf (bnot (bv (call C 0 (ac (v 5) (ac (k (.int 0)) (ac (call C 4 (ac (call C 4 (ac (e1 pLen (v 4)) (a0))) (a0))) (a0))))))) (sq (sRaise 0 .tuple "path" (tup (ac (k (.int 3)) (ac (v 2) (ac (k (.int 1)) (a0)))))) (sNil)) (sNil)) (sNil)))))
noncomputable def e_power_of_two (C : Calls) : SC := sq (sRet (e2 pShl (k (.int 1)) (v 0))) (sNil)
noncomputable def e__law_source (C : Calls) : SC := sq (sSet (tn 1) (k (.int 11))) (sq (sFor (tn 2) (iSeq (v 0)) (sq (sSet (tn 1) (e2 pMod (e1 pInt (e2 pAdd (e2 pAdd (e2 pMul (v 1) (k (.int 69069))) (e2 pMul (v 2) (k (.int 31)))) (k (.int 5)))) (k (.int 2147483629)))) (sNil))) (sq (sRet (dctA ["cells", "left", "mixed", "turn"] (acs [e1 pRevA (lc [2] (tn 2) (iSeq (v 0)) (yes) (e1 pAbs (v 2))), k (.int 1), v 1, k (.int 0)]))) (sNil)))
noncomputable def e__law_pick (C : Calls) : SC := sq (sWhl (band (bb (e2 pGt (v 1) (k (.int 1)))) (band (bb (e2 pLt (e2 pIx (v 0) (k (.str "left"))) (k (.int 2)))) (bb (e2 pGt (e1 pLen (e2 pIx (v 0) (k (.str "cells")))) (k (.int 0)))))) (sq (sSet (ti (v 0) (k (.str "left"))) (m0 pPop (e2 pIx (v 0) (k (.str "cells"))))) (sNil))) (sq (sSet (tn 2) (e2 pIx (v 0) (k (.str "left")))) (sq (sIf (bor (bb (e2 pLt (v 1) (k (.int 2)))) (bb (e2 pGt (v 2) (k (.int 1))))) (sq (sSet (ti (v 0) (k (.str "left"))) (e2 pDiv (v 2) (e2 pMax (k (.int 1)) (v 1)))) (sq (sRet (e2 pMod (e1 pInt (v 2)) (e2 pMax (k (.int 1)) (v 1)))) (sNil))) (sNil)) (sq (sSet (ti (v 0) (k (.str "turn"))) (e2 pAdd (e2 pIx (v 0) (k (.str "turn"))) (k (.int 1)))) (sq (sSet (tn 3) (e2 pMod (e1 pInt (e2 pAdd (e2 pIx (v 0) (k (.str "mixed"))) (e2 pMul (e2 pIx (v 0) (k (.str "turn"))) (k (.int 104729))))) (k (.int 998244353)))) (sq (sSet (tn 3) (e2 pMod (e1 pInt (e2 pAdd (e2 pMul (v 3) (v 3)) (e2 pMul (e2 pIx (v 0) (k (.str "turn"))) (k (.int 17))))) (k (.int 2147483647)))) (sq (sSet (ti (v 0) (k (.str "mixed"))) (v 3)) (sq (sRet (e2 pMod (e1 pInt (e2 pDiv (v 3) (k (.int 16)))) (v 1))) (sNil))))))))
noncomputable def e__law_of (C : Calls) : SC := sq (sRet (e2 pIx (v 1) (call C 6 (ac (v 0) (ac (e1 pLen (v 1)) (a0)))))) (sNil)
noncomputable def e__law_mixed (C : Calls) : SC := sq (sSet (tn 2) (e1 pListA (v 1))) (sq (sRet (lc [3] (tn 3) (iRng1 (e1 pLen (v 2))) (yes) (m1 pPopAt (v 2) (call C 6 (ac (v 0) (ac (e1 pLen (v 2)) (a0))))))) (sNil))
noncomputable def e__law_is_below (C : Calls) : SC := sq (sRet (eand (e1 (pIsi [.int]) (v 0)) (eand (enot (e1 (pIsi [.bool]) (v 0))) (chain pLe pLt (k (.int 0)) (v 0) (v 1))))) (sNil)
noncomputable def e__law_draw_net (C : Calls) : SC := sq (sPar3 5 6 7 (call C 6 (ac (v 0) (ac (e2 pAdd (v 2) (k (.int 1))) (a0)))) (call C 6 (ac (v 0) (ac (e2 pAdd (v 3) (k (.int 1))) (a0)))) (lstA (a0))) (sq (sFor (tn 8) (iRng1 (call C 6 (ac (v 0) (ac (e2 pAdd (v 4) (k (.int 1))) (a0))))) (sq (sSet (tn 9) (e2 pAdd (e2 pAdd (e2 pAdd (k (.int 1)) (v 5)) (v 6)) (e1 pLen (v 7)))) (sq (sSet (tn 10) (call C 8 (ac (v 0) (ac (e2 pAdd (e2 pLRng2 (e2 pMax (k (.int 0)) (e2 pSub (v 9) (k (.int 7)))) (v 9)) (lst (ac (call C 6 (ac (v 0) (ac (v 9) (a0)))) (a0)))) (a0))))) (sq (sPar 11 12 (lst (a0)) (call C 6 (ac (v 0) (ac (e2 pAdd (v 1) (k (.int 1))) (a0))))) (sq (sFor (tn 13) (iSeq (sl (v 10) (pn) (ps (v 12)))) (sq (sSet (tn 11) (eif (bb (e2 pNotIn (v 13) (v 11))) (e2 pAdd (v 11) (lst (ac (v 13) (a0)))) (v 11))) (sNil))) (sq (sSet (tn 14) (call C 6 (ac (v 0) (ac (e2 pShl (k (.int 1)) (e2 pShl (k (.int 1)) (e1 pLen (v 11)))) (a0))))) (sq (sExp (m1 pApp (v 7) (eif (bor (bb (e2 pEq (v 7) (lst (a0)))) (bb (e2 pGt (call C 6 (ac (v 0) (ac (k (.int 6)) (a0)))) (k (.int 0))))) (tup (ac (e1 pTuple (v 11)) (ac (v 14) (a0)))) (call C 7 (ac (v 0) (ac (v 7) (a0))))))) (sNil)))))))) (sq (sSet (tn 9) (e2 pAdd (e2 pAdd (e2 pAdd (k (.int 1)) (v 5)) (v 6)) (e1 pLen (v 7)))) (sq (sSet (tn 15) (e1 pTuple (lc [8] (tn 8) (iRng1 (v 6)) (yes) (tup (ac (call C 6 (ac (v 0) (ac (k (.int 2)) (a0)))) (ac (call C 6 (ac (v 0) (ac (v 9) (a0)))) (a0))))))) (sq (sSet (tn 16) (e1 pTuple (lc [8] (tn 8) (iRng1 (e2 pAdd (k (.int 1)) (call C 6 (ac (v 0) (ac (k (.int 4)) (a0)))))) (yes) (e2 pSub (e2 pSub (v 9) (k (.int 1))) (call C 6 (ac (v 0) (ac (e2 pMin (v 9) (k (.int 8))) (a0)))))))) (sq (sRet (tup (ac (v 1) (ac (v 5) (ac (v 15) (ac (e1 pTuple (v 7)) (ac (v 16) (a0)))))))) (sNil))))))
noncomputable def e__law_bent (C : Calls) : SC := sq (sIf (bor (bnot (bv (e1 (pIsi [.tuple]) (v 1)))) (bor (bb (e2 pEq (v 1) (tup (a0)))) (bb (e2 pEq (call C 6 (ac (v 0) (ac (k (.int 5)) (a0)))) (k (.int 0)))))) (sq (sRet (call C 7 (ac (v 0) (ac (v 2) (a0))))) (sNil)) (sNil)) (sq (sPar 3 4 (call C 6 (ac (v 0) (ac (e1 pLen (v 1)) (a0)))) (call C 6 (ac (v 0) (ac (k (.int 7)) (a0))))) (sq (sIf (bb (e2 pEq (v 4) (k (.int 0)))) (sq (sRet (e2 pAdd (sl (v 1) (pn) (ps (v 3))) (sl (v 1) (ps (e2 pAdd (v 3) (k (.int 1)))) (pn)))) (sNil)) (sNil)) (sq (sIf (bb (e2 pEq (v 4) (k (.int 1)))) (sq (sRet (e2 pAdd (sl (v 1) (pn) (ps (e2 pAdd (v 3) (k (.int 1))))) (sl (v 1) (ps (v 3)) (pn)))) (sNil)) (sNil)) (sq (sIf (bb (e2 pEq (v 4) (k (.int 2)))) (sq (sRet (e1 pList (v 1))) (sNil)) (sNil)) (sq (sRet (e2 pAdd (e2 pAdd (sl (v 1) (pn) (ps (v 3))) (tup (ac (call C 11 (ac (v 0) (ac (e2 pIx (v 1) (v 3)) (ac (v 2) (a0))))) (a0)))) (sl (v 1) (ps (e2 pAdd (v 3) (k (.int 1)))) (pn)))) (sNil))))))
noncomputable def e__law_is_pair (C : Calls) : SC := sq (sRet (eand (e1 (pIsi [.tuple]) (v 0)) (e2 pEq (e1 pLen (v 0)) (k (.int 2))))) (sNil)
noncomputable def e__law_net_fault (C : Calls) : SC := sq (sIf (bor (bnot (bv (e1 (pIsi [.tuple]) (v 0)))) (bb (e2 pNe (e1 pLen (v 0)) (k (.int 5))))) (sq (sRet (lst (ac (tup (a0)) (a0)))) (sNil)) (sNil)) (sq (sIf (bor (bnot (bv (call C 9 (ac (e2 pIx (v 0) (k (.int 0))) (ac (k (.int 7)) (a0)))))) (bb (e2 pLt (e2 pIx (v 0) (k (.int 0))) (k (.int 2))))) (sq (sRet (lst (ac (tup (ac (k (.int 0)) (a0))) (a0)))) (sNil)) (sNil)) (sq (sIf (bnot (bv (call C 9 (ac (e2 pIx (v 0) (k (.int 1))) (ac (e2 pPow (k (.int 10)) (k (.int 60))) (a0)))))) (sq (sRet (lst (ac (tup (ac (k (.int 1)) (a0))) (a0)))) (sNil)) (sNil)) (sq (sIf (bnot (bv (e1 (pIsi [.tuple]) (e2 pIx (v 0) (k (.int 2)))))) (sq (sRet (lst (ac (tup (ac (k (.int 2)) (a0))) (a0)))) (sNil)) (sNil)) (sq (sFor (tt [tn 1, tn 2]) (iEnum (e2 pIx (v 0) (k (.int 2)))) (sq (sIf (bnot (bv (call C 12 (ac (v 2) (a0))))) (sq (sRet (lst (ac (tup (ac (k (.int 2)) (ac (v 1) (a0)))) (a0)))) (sNil)) (sNil)) (sq (sIf (bnot (bv (call C 9 (ac (e2 pIx (v 2) (k (.int 0))) (ac (k (.int 2)) (a0)))))) (sq (sRet (lst (ac (tup (ac (k (.int 2)) (ac (v 1) (ac (k (.int 0)) (a0))))) (a0)))) (sNil)) (sNil)) (sNil)))) (sq (sIf (bnot (bv (e1 (pIsi [.tuple]) (e2 pIx (v 0) (k (.int 3)))))) (sq (sRet (lst (ac (tup (ac (k (.int 3)) (a0))) (a0)))) (sNil)) (sNil)) (sq (sSet (tn 3) (e2 pAdd (e2 pAdd (k (.int 1)) (e2 pIx (v 0) (k (.int 1)))) (e1 pLen (e2 pIx (v 0) (k (.int 2)))))) (sq (sFor (tt [tn 4, tn 5]) (iEnum (e2 pIx (v 0) (k (.int 3)))) (sq (sSet (tn 6) (call C 14 (ac (e2 pIx (v 0) (k (.int 0))) (ac (e2 pAdd (v 3) (v 4)) (ac (v 5) (a0)))))) (sq (sIf (bb (e2 pNe (v 6) (lst (a0)))) (sq (sRet (lst (ac (e2 pAdd (tup (ac (k (.int 3)) (ac (v 4) (a0)))) (e2 pIx (v 6) (k (.int 0)))) (a0)))) (sNil)) (sNil)) (sNil)))) (sq (sSet (tn 7) (e2 pAdd (v 3) (e1 pLen (e2 pIx (v 0) (k (.int 3)))))) (sq (sSet (tn 6) (lc [1] (tn 1) (iRng1 (e1 pLen (e2 pIx (v 0) (k (.int 2))))) (bnot (bv (call C 9 (ac (e2 pIx (e2 pIx (e2 pIx (v 0) (k (.int 2))) (v 1)) (k (.int 1))) (ac (v 7) (a0)))))) (v 1))) (sq (sIf (bb (e2 pNe (v 6) (lst (a0)))) (sq (sRet (lst (ac (tup (ac (k (.int 2)) (ac (e2 pIx (v 6) (k (.int 0))) (ac (k (.int 1)) (a0))))) (a0)))) (sNil)) (sNil)) (sq (sIf (bnot (bv (e1 (pIsi [.tuple]) (e2 pIx (v 0) (k (.int 4)))))) (sq (sRet (lst (ac (tup (ac (k (.int 4)) (a0))) (a0)))) (sNil)) (sNil)) (sq (sSet (tn 6) (lc [8] (tn 8) (iRng1 (e1 pLen (e2 pIx (v 0) (k (.int 4))))) (bnot (bv (call C 9 (ac (e2 pIx (e2 pIx (v 0) (k (.int 4))) (v 8)) (ac (v 7) (a0)))))) (v 8))) (sq (sRet (eif (bb (e2 pNe (v 6) (lst (a0)))) (lst (ac (tup (ac (k (.int 4)) (ac (e2 pIx (v 6) (k (.int 0))) (a0)))) (a0))) (lst (a0)))) (sNil))))))))))))))
noncomputable def e__law_table_fault (C : Calls) : SC := sq (sIf (bnot (bv (call C 12 (ac (v 2) (a0))))) (sq (sRet (lst (ac (tup (a0)) (a0)))) (sNil)) (sNil)) (sq (sIf (bor (bnot (bv (e1 (pIsi [.tuple]) (e2 pIx (v 2) (k (.int 0)))))) (bb (e2 pGt (e1 pLen (e2 pIx (v 2) (k (.int 0)))) (v 0)))) (sq (sRet (lst (ac (tup (ac (k (.int 0)) (a0))) (a0)))) (sNil)) (sNil)) (sq (sFor (tt [tn 3, tn 4]) (iEnum (e2 pIx (v 2) (k (.int 0)))) (sq (sIf (bor (bnot (bv (call C 9 (ac (v 4) (ac (v 1) (a0)))))) (bb (e2 pIn (v 4) (sl (e2 pIx (v 2) (k (.int 0))) (pn) (ps (v 3)))))) (sq (sRet (lst (ac (tup (ac (k (.int 0)) (a0))) (a0)))) (sNil)) (sNil)) (sNil))) (sq (sRet (eif (bv (call C 9 (ac (e2 pIx (v 2) (k (.int 1))) (ac (e2 pShl (k (.int 1)) (e2 pShl (k (.int 1)) (e1 pLen (e2 pIx (v 2) (k (.int 0)))))) (a0))))) (lst (a0)) (lst (ac (tup (ac (k (.int 1)) (a0))) (a0))))) (sNil))))
noncomputable def e__law_path (C : Calls) : SC := sq (sTry (sq (sSet (tn 1) (call C 2 (ac (v 0) (a0)))) (sNil)) 0 [] 2 (sq (sRet (lst (ac (e1 (exF 0 "path") (v 2)) (a0)))) (sNil))) (sq (sRet (eif (bb (e1 pIsN (v 1))) (lst (a0)) (lst (ac (k (.str "told")) (a0))))) (sNil))
noncomputable def e_law (C : Calls) : SC := sq (sSet (tn 1) (call C 5 (ac (v 0) (a0)))) (sq (sFor (tn 2) (iRng1 (k (.int 6))) (sq (sSet (tn 3) (call C 10 (ac (v 1) (ac (e2 pAdd (k (.int 2)) (call C 6 (ac (v 1) (ac (k (.int 5)) (a0))))) (ac (k (.int 3)) (ac (k (.int 2)) (ac (k (.int 6)) (a0)))))))) (sq (sIf (bor (bb (e2 pNe (call C 15 (ac (v 3) (a0))) (lst (a0)))) (bb (e2 pNe (call C 13 (ac (v 3) (a0))) (lst (a0))))) (sq (sRet (k (.bl false))) (sNil)) (sNil)) (sq (sSet (tn 4) (lst (ac (k .non) (ac (k (.bl true)) (ac (k (.bl false)) (ac (e1 pNeg (k (.int 1))) (ac (k (.int 0)) (ac (k (.int 1)) (ac (k (.int 2)) (ac (k (.int 7)) (ac (e2 pPow (k (.int 10)) (k (.int 39))) (ac (k (.str "")) (ac (k (.str "1")) (ac (tup (a0)) (ac (lst (a0)) (ac (k (.dct [])) (ac (tup (ac (k (.int 0)) (a0))) (ac (tup (ac (k (.int 1)) (ac (k (.int 0)) (a0)))) (ac (tup (ac (tup (a0)) (ac (k (.int 1)) (a0)))) (ac (tup (ac (tup (ac (k (.int 1)) (a0))) (ac (k (.int 3)) (a0)))) (ac (v 3) (a0)))))))))))))))))))))) (sq (sFor (tn 5) (iRng1 (k (.int 9))) (sq (sSet (tn 6) (call C 11 (ac (v 1) (ac (v 3) (ac (v 4) (a0)))))) (sq (sSet (tn 6) (eif (bb (e2 pGt (v 5) (k (.int 6)))) (call C 11 (ac (v 1) (ac (v 6) (ac (v 4) (a0))))) (v 6))) (sq (sSet (tn 7) (e1 pRepr (v 6))) (sq (sIf (bor (bb (e2 pNe (e1 pRepr (call C 15 (ac (v 6) (a0)))) (e1 pRepr (call C 13 (ac (v 6) (a0)))))) (bb (e2 pNe (e1 pRepr (v 6)) (v 7)))) (sq (sRet (k (.bl false))) (sNil)) (sNil)) (sNil)))))) (sNil)))))) (sq (sSet (tn 8) (lst (ac (tup (ac (k (.int 2)) (ac (k (.int 0)) (ac (tup (a0)) (ac (tup (ac (tup (ac (tup (a0)) (ac (k (.int 1)) (a0)))) (ac (tup (ac (tup (a0)) (ac (k (.int 2)) (a0)))) (a0)))) (ac (tup (a0)) (a0))))))) (ac (tup (ac (k (.int 2)) (ac (k (.int 1)) (ac (tup (ac (tup (ac (k (.int 0)) (ac (k (.int 3)) (a0)))) (a0))) (ac (tup (a0)) (ac (tup (ac (k (.int 2)) (a0))) (a0))))))) (ac (tup (ac (k (.int 2)) (ac (k (.int 1)) (ac (tup (ac (tup (ac (k (.int 0)) (ac (k (.int 2)) (a0)))) (a0))) (ac (tup (a0)) (ac (tup (ac (k (.int 2)) (a0))) (a0))))))) (a0)))))) (sq (sSet (tn 8) (e2 pAdd (v 8) (lst (ac (tup (ac (k (.int 1)) (ac (k (.int 0)) (ac (tup (a0)) (ac (tup (a0)) (ac (tup (a0)) (a0))))))) (ac (tup (ac (k (.int 2)) (ac (k (.int 2)) (ac (tup (a0)) (ac (tup (ac (tup (ac (tup (ac (k (.int 1)) (ac (k (.int 1)) (a0)))) (ac (k (.int 3)) (a0)))) (a0))) (ac (tup (a0)) (a0))))))) (ac (tup (ac (k (.int 3)) (ac (k (.int 1)) (ac (tup (a0)) (ac (tup (ac (tup (ac (tup (ac (k (.int 0)) (ac (k (.int 1)) (ac (k (.int 0)) (a0))))) (ac (k (.int 3)) (a0)))) (a0))) (ac (tup (ac (k (.int 2)) (a0))) (a0))))))) (a0))))))) (sq (sRet (e2 pEq (lc [3] (tn 3) (iSeq (v 8)) (yes) (call C 15 (ac (v 3) (a0)))) (lst (ac (lst (ac (tup (ac (k (.int 3)) (ac (k (.int 1)) (ac (k (.int 1)) (a0))))) (a0))) (ac (lst (ac (tup (ac (k (.int 2)) (ac (k (.int 0)) (ac (k (.int 1)) (a0))))) (a0))) (ac (lst (a0)) (ac (lst (ac (tup (ac (k (.int 0)) (a0))) (a0))) (ac (lst (ac (tup (ac (k (.int 3)) (ac (k (.int 0)) (ac (k (.int 0)) (a0))))) (a0))) (ac (lst (ac (tup (ac (k (.int 3)) (ac (k (.int 0)) (ac (k (.int 0)) (a0))))) (a0))) (a0)))))))))) (sNil)))))
noncomputable def prog (C : Calls) : Nat → Option Fn
  | 0 => some ⟨3, 3, e_is_number C⟩
  | 1 => some ⟨2, 2, e_is_tuple_of C⟩
  | 2 => some ⟨1, 13, e_check_net C⟩
  | 3 => some ⟨4, 8, e_check_table C⟩
  | 4 => some ⟨1, 1, e_power_of_two C⟩
  | 5 => some ⟨1, 3, e__law_source C⟩
  | 6 => some ⟨2, 4, e__law_pick C⟩
  | 7 => some ⟨2, 2, e__law_of C⟩
  | 8 => some ⟨2, 4, e__law_mixed C⟩
  | 9 => some ⟨2, 2, e__law_is_below C⟩
  | 10 => some ⟨5, 17, e__law_draw_net C⟩
  | 11 => some ⟨3, 5, e__law_bent C⟩
  | 12 => some ⟨1, 1, e__law_is_pair C⟩
  | 13 => some ⟨1, 9, e__law_net_fault C⟩
  | 14 => some ⟨3, 5, e__law_table_fault C⟩
  | 15 => some ⟨1, 3, e__law_path C⟩
  | 16 => some ⟨1, 9, e_law C⟩
  | _ => none
/-! ### the text means them -/
theorem bt_abs : bootBuiltins "abs" = some (.builtin "abs") := by decide +kernel
theorem bt_bool : bootBuiltins "bool" = some (.type "bool") := by decide +kernel
theorem bt_enumerate : bootBuiltins "enumerate" = some (.type "enumerate") := by decide +kernel
theorem bt_int : bootBuiltins "int" = some (.type "int") := by decide +kernel
theorem bt_isinstance : bootBuiltins "isinstance" = some (.builtin "isinstance") := by decide +kernel
theorem bt_len : bootBuiltins "len" = some (.builtin "len") := by decide +kernel
theorem bt_list : bootBuiltins "list" = some (.type "list") := by decide +kernel
theorem bt_max : bootBuiltins "max" = some (.builtin "max") := by decide +kernel
theorem bt_min : bootBuiltins "min" = some (.builtin "min") := by decide +kernel
theorem bt_range : bootBuiltins "range" = some (.type "range") := by decide +kernel
theorem bt_repr : bootBuiltins "repr" = some (.builtin "repr") := by decide +kernel
theorem bt_tuple : bootBuiltins "tuple" = some (.type "tuple") := by decide +kernel
def cls : Nat → Str
  | 0 => "BadNet"
  | _ => ""
def Gk (K : PySem.W.Frag) : Gd := ⟨K, fun c => He.ga K (cls c), fun _ _ _ => False⟩
structure Fact (P : Program) (w : World) (K : PySem.W.Frag) (mg : Str → Option Value) (base : Heap) : Prop where
  f_abs : mg "abs" = none
  f_bool : mg "bool" = none
  f_enumerate : mg "enumerate" = none
  f_int : mg "int" = none
  f_isinstance : mg "isinstance" = none
  f_len : mg "len" = none
  f_list : mg "list" = none
  f_max : mg "max" = none
  f_min : mg "min" = none
  f_range : mg "range" = none
  f_repr : mg "repr" = none
  f_tuple : mg "tuple" = none
  sys : ∃ o, K.lookup sysModules = some o
  e_BadNet : ErrAt P w K mg base (Gk K) 0 "BadNet" "path" .tuple
  x_BadNet : XfC K (He.ga K "BadNet") ∧ PySem.W.findIn K (.ref (He.ga K "BadNet")) "path" = some none
  m_BadNet : PySem.W.exmOne K (.ref (He.ga K "BadNet")) (.ref (He.ga K "BadNet")) = some true
def tbl : List (Nat × Str × List Str) := [(0, "is_number", ["value", "least", "beyond"]), (1, "is_tuple_of", ["value", "many"]), (2, "check_net", ["value"]), (3, "check_table", ["k", "node", "t", "table"]), (4, "power_of_two", ["many"]), (5, "_law_source", ["_law_script"]), (6, "_law_pick", ["_law_source_here", "_law_many"]), (7, "_law_of", ["_law_source_here", "_law_some"]), (8, "_law_mixed", ["_law_source_here", "_law_things"]), (9, "_law_is_below", ["_law_value", "_law_many"]), (10, "_law_draw_net", ["_law_source_here", "_law_k", "_law_many_ins", "_law_many_regs", "_law_most"]), (11, "_law_bent", ["_law_source_here", "_law_value", "_law_odd"]), (12, "_law_is_pair", ["_law_value"]), (13, "_law_net_fault", ["_law_value"]), (14, "_law_table_fault", ["_law_k", "_law_node", "_law_table"]), (15, "_law_path", ["_law_value"]), (16, "law", ["_law_script"])]
structure Lib (w : World) (K : PySem.W.Frag) (mg : Str → Option Value) (base : Heap) (n : Nat) : Prop where
  all : ∀ q ∈ tbl, FnAt pg w K mg base (Gk K) prog n q.1 q.2.1 q.2.2
section
variable {w : World} {K : PySem.W.Frag} {mg : Str → Option Value} {base : Heap} {f : Addr} {cdv : Value} {A : Around} {outer : List PySem.Env} {s : Shared} {H : Hp} {E : XK}
theorem Lib.at_ {n : Nat} (L : Lib w K mg base n) (i : Nat) {x : Str} {ps : List Str} (h : tbl[i]? = some (i, x, ps) := by rfl) : FnAt pg w K mg base (Gk K) prog n i x ps := L.all (i, x, ps) (List.mem_of_getElem? h)
def N_is_number : List Str := ["value", "least", "beyond"]
def P_is_number : List Str := ["value", "least", "beyond"]
theorem nd_is_number : N_is_number.Nodup := by decide +kernel
theorem sc_is_number : FnScope N_is_number P_is_number (defScope s_is_number) := ⟨rfl, rfl, rfl, nd_is_number, rfl, by decide +kernel, by decide +kernel⟩
theorem b_is_number {n : Nat} (g : Fact pg w K mg base) (L : Lib w K mg base n) (hr : RoomG (n + 3) (A.deeper (PyProof.Rows.envOfC "is_number" (defScope s_is_number) s.heap.objs.size f cdv))) :
  SS (Gk K) (fun C d _ H' => E C d H') (cxOf (L2.CX pg w) pg w K mg base N_is_number "is_number" (defScope s_is_number) f cdv A outer s H E) (e_is_number (runP prog n)) (defBody s_is_number) := by
  have hu := hr.room.units
  have tk : Takes (cxOf (L2.CX pg w) pg w K mg base N_is_number "is_number" (defScope s_is_number) f cdv A outer s H E) (fun C d _ H' => E C d H') := takes_of rfl rfl rfl rfl
  have pp : PassesOwn (model pg w) (cxOf (L2.CX pg w) pg w K mg base N_is_number "is_number" (defScope s_is_number) f cdv A outer s H E).A (cxOf (L2.CX pg w) pg w K mg base N_is_number "is_number" (defScope s_is_number) f cdv A outer s H E).env (cxOf (L2.CX pg w) pg w K mg base N_is_number "is_number" (defScope s_is_number) f cdv A outer s H E).xe := passes_of rfl
  exact (ss_cons (s_ret (se_and rfl (se_isi1 (t := .int) rfl g.f_isinstance g.f_int bt_int (by decide) (se_v (i := 0))) (se_and rfl (se_not rfl (se_isi1 (t := .bool) rfl g.f_isinstance g.f_bool bt_bool (by decide) (se_v (i := 0)))) (se_one (se_chain opp_le opp_lt (se_v (i := 1)) (se_v (i := 0)) (se_v (i := 2)))))))
    ss_nil)
def N_is_tuple_of : List Str := ["value", "many"]
def P_is_tuple_of : List Str := ["value", "many"]
theorem nd_is_tuple_of : N_is_tuple_of.Nodup := by decide +kernel
theorem sc_is_tuple_of : FnScope N_is_tuple_of P_is_tuple_of (defScope s_is_tuple_of) := ⟨rfl, rfl, rfl, nd_is_tuple_of, rfl, by decide +kernel, by decide +kernel⟩
theorem b_is_tuple_of {n : Nat} (g : Fact pg w K mg base) (L : Lib w K mg base n) (hr : RoomG (n + 3) (A.deeper (PyProof.Rows.envOfC "is_tuple_of" (defScope s_is_tuple_of) s.heap.objs.size f cdv))) :
  SS (Gk K) (fun C d _ H' => E C d H') (cxOf (L2.CX pg w) pg w K mg base N_is_tuple_of "is_tuple_of" (defScope s_is_tuple_of) f cdv A outer s H E) (e_is_tuple_of (runP prog n)) (defBody s_is_tuple_of) := by
  have hu := hr.room.units
  have tk : Takes (cxOf (L2.CX pg w) pg w K mg base N_is_tuple_of "is_tuple_of" (defScope s_is_tuple_of) f cdv A outer s H E) (fun C d _ H' => E C d H') := takes_of rfl rfl rfl rfl
  have pp : PassesOwn (model pg w) (cxOf (L2.CX pg w) pg w K mg base N_is_tuple_of "is_tuple_of" (defScope s_is_tuple_of) f cdv A outer s H E).A (cxOf (L2.CX pg w) pg w K mg base N_is_tuple_of "is_tuple_of" (defScope s_is_tuple_of) f cdv A outer s H E).env (cxOf (L2.CX pg w) pg w K mg base N_is_tuple_of "is_tuple_of" (defScope s_is_tuple_of) f cdv A outer s H E).xe := passes_of rfl
  exact (ss_cons (s_ret (se_and rfl (se_isi1 (t := .tuple) rfl g.f_isinstance g.f_tuple bt_tuple (by decide) (se_v (i := 0))) (se_one (se_cmp (opp_eq rfl hu) (se_cb1 (cp_len rfl) g.f_len bt_len (se_v (i := 0))) (se_v (i := 1))))))
    ss_nil)
def N_check_net : List Str := ["value", "k", "many_ins", "regs", "tables", "outs", "r", "reg", "first", "t", "table", "o", "out"]
def P_check_net : List Str := ["value"]
theorem nd_check_net : N_check_net.Nodup := by decide +kernel
theorem sc_check_net : FnScope N_check_net P_check_net (defScope s_check_net) := ⟨rfl, rfl, rfl, nd_check_net, rfl, by decide +kernel, by decide +kernel⟩
theorem b_check_net {n : Nat} (g : Fact pg w K mg base) (L : Lib w K mg base n) (hr : RoomG (n + 3) (A.deeper (PyProof.Rows.envOfC "check_net" (defScope s_check_net) s.heap.objs.size f cdv))) :
  SS (Gk K) (fun C d _ H' => E C d H') (cxOf (L2.CX pg w) pg w K mg base N_check_net "check_net" (defScope s_check_net) f cdv A outer s H E) (e_check_net (runP prog n)) (defBody s_check_net) := by
  have hu := hr.room.units
  have tk : Takes (cxOf (L2.CX pg w) pg w K mg base N_check_net "check_net" (defScope s_check_net) f cdv A outer s H E) (fun C d _ H' => E C d H') := takes_of rfl rfl rfl rfl
  have pp : PassesOwn (model pg w) (cxOf (L2.CX pg w) pg w K mg base N_check_net "check_net" (defScope s_check_net) f cdv A outer s H E).A (cxOf (L2.CX pg w) pg w K mg base N_check_net "check_net" (defScope s_check_net) f cdv A outer s H E).env (cxOf (L2.CX pg w) pg w K mg base N_check_net "check_net" (defScope s_check_net) f cdv A outer s H E).xe := passes_of rfl
  exact (ss_cons (s_if (st_not (st_val rfl (se_at (L.at_ 1) hr tk (sa_cons (se_v (i := 0)) (sa_cons se_int sa_nil))))) (ss_cons (s_raiseAt (g.e_BadNet) hr rfl tk (se_tup sa_nil))
    ss_nil) ss_nil)
    (ss_cons (s_asg (se_v (i := 0)) (sg_t rfl rfl (sgs_cons (sg_n nd_check_net) (sgs_cons (sg_n nd_check_net) (sgs_cons (sg_n nd_check_net) (sgs_cons (sg_n nd_check_net) (sgs_cons (sg_n nd_check_net) sgs_nil)))))))
    (ss_cons (s_if (st_not (st_val rfl (se_at (L.at_ 0) hr tk (sa_cons (se_v (i := 1)) (sa_cons se_int (sa_cons se_int sa_nil)))))) (ss_cons (s_raiseAt (g.e_BadNet) hr rfl tk (se_tup (sa_cons se_int sa_nil)))
    ss_nil) ss_nil)
    (ss_cons (s_if (st_not (st_val rfl (se_at (L.at_ 0) hr tk (sa_cons (se_v (i := 2)) (sa_cons se_int (sa_cons (se_if (st_val rfl (se_isi1 (t := .int) rfl g.f_isinstance g.f_int bt_int (by decide) (se_v (i := 2)))) (se_bin (opp_add rfl) (se_v (i := 2)) se_int) se_int) sa_nil)))))) (ss_cons (s_raiseAt (g.e_BadNet) hr rfl tk (se_tup (sa_cons se_int sa_nil)))
    ss_nil) ss_nil)
    (ss_cons (s_if (st_not (st_val rfl (se_isi1 (t := .tuple) rfl g.f_isinstance g.f_tuple bt_tuple (by decide) (se_v (i := 3))))) (ss_cons (s_raiseAt (g.e_BadNet) hr rfl tk (se_tup (sa_cons se_int sa_nil)))
    ss_nil) ss_nil)
    (ss_cons (s_for pp rfl (si_enum rfl g.f_enumerate (se_v (i := 3))) (sg_t rfl rfl (sgs_cons (sg_n nd_check_net) (sgs_cons (sg_n nd_check_net) sgs_nil))) (ss_cons (s_if (st_not (st_val rfl (se_at (L.at_ 1) hr tk (sa_cons (se_v (i := 7)) (sa_cons se_int sa_nil))))) (ss_cons (s_raiseAt (g.e_BadNet) hr rfl tk (se_tup (sa_cons se_int (sa_cons (se_v (i := 6)) sa_nil))))
    ss_nil) ss_nil)
    (ss_cons (s_if (st_not (st_val rfl (se_at (L.at_ 0) hr tk (sa_cons (se_ix rfl hu (se_v (i := 7)) se_int) (sa_cons se_int (sa_cons se_int sa_nil)))))) (ss_cons (s_raiseAt (g.e_BadNet) hr rfl tk (se_tup (sa_cons se_int (sa_cons (se_v (i := 6)) (sa_cons se_int sa_nil)))))
    ss_nil) ss_nil)
    ss_nil)))
    (ss_cons (s_if (st_not (st_val rfl (se_isi1 (t := .tuple) rfl g.f_isinstance g.f_tuple bt_tuple (by decide) (se_v (i := 4))))) (ss_cons (s_raiseAt (g.e_BadNet) hr rfl tk (se_tup (sa_cons se_int sa_nil)))
    ss_nil) ss_nil)
    (ss_cons (s_set nd_check_net (se_bin (opp_add rfl) (se_bin (opp_add rfl) se_int (se_v (i := 2))) (se_cb1 (cp_len rfl) g.f_len bt_len (se_v (i := 3)))))
    (ss_cons (s_for pp rfl (si_enum rfl g.f_enumerate (se_v (i := 4))) (sg_t rfl rfl (sgs_cons (sg_n nd_check_net) (sgs_cons (sg_n nd_check_net) sgs_nil))) (ss_cons (s_exp (se_at (L.at_ 3) hr tk (sa_cons (se_v (i := 1)) (sa_cons (se_bin (opp_add rfl) (se_v (i := 8)) (se_v (i := 9))) (sa_cons (se_v (i := 9)) (sa_cons (se_v (i := 10)) sa_nil))))))
    ss_nil))
    (ss_cons (s_for pp rfl (si_enum rfl g.f_enumerate (se_v (i := 3))) (sg_t rfl rfl (sgs_cons (sg_n nd_check_net) (sgs_cons (sg_n nd_check_net) sgs_nil))) (ss_cons (s_if (st_not (st_val rfl (se_at (L.at_ 0) hr tk (sa_cons (se_ix rfl hu (se_v (i := 7)) se_int) (sa_cons se_int (sa_cons (se_bin (opp_add rfl) (se_v (i := 8)) (se_cb1 (cp_len rfl) g.f_len bt_len (se_v (i := 4)))) sa_nil)))))) (ss_cons (s_raiseAt (g.e_BadNet) hr rfl tk (se_tup (sa_cons se_int (sa_cons (se_v (i := 6)) (sa_cons se_int sa_nil)))))
    ss_nil) ss_nil)
    ss_nil))
    (ss_cons (s_if (st_not (st_val rfl (se_isi1 (t := .tuple) rfl g.f_isinstance g.f_tuple bt_tuple (by decide) (se_v (i := 5))))) (ss_cons (s_raiseAt (g.e_BadNet) hr rfl tk (se_tup (sa_cons se_int sa_nil)))
    ss_nil) ss_nil)
    (ss_cons (s_for pp rfl (si_enum rfl g.f_enumerate (se_v (i := 5))) (sg_t rfl rfl (sgs_cons (sg_n nd_check_net) (sgs_cons (sg_n nd_check_net) sgs_nil))) (ss_cons (s_if (st_not (st_val rfl (se_at (L.at_ 0) hr tk (sa_cons (se_v (i := 12)) (sa_cons se_int (sa_cons (se_bin (opp_add rfl) (se_v (i := 8)) (se_cb1 (cp_len rfl) g.f_len bt_len (se_v (i := 4)))) sa_nil)))))) (ss_cons (s_raiseAt (g.e_BadNet) hr rfl tk (se_tup (sa_cons se_int (sa_cons (se_v (i := 11)) sa_nil))))
    ss_nil) ss_nil)
    ss_nil))
    ss_nil))))))))))))
def N_check_table : List Str := ["k", "node", "t", "table", "nodes", "truth", "j", "one"]
def P_check_table : List Str := ["k", "node", "t", "table"]
theorem nd_check_table : N_check_table.Nodup := by decide +kernel
theorem sc_check_table : FnScope N_check_table P_check_table (defScope s_check_table) := ⟨rfl, rfl, rfl, nd_check_table, rfl, by decide +kernel, by decide +kernel⟩
theorem b_check_table {n : Nat} (g : Fact pg w K mg base) (L : Lib w K mg base n) (hr : RoomG (n + 3) (A.deeper (PyProof.Rows.envOfC "check_table" (defScope s_check_table) s.heap.objs.size f cdv))) :
  SS (Gk K) (fun C d _ H' => E C d H') (cxOf (L2.CX pg w) pg w K mg base N_check_table "check_table" (defScope s_check_table) f cdv A outer s H E) (e_check_table (runP prog n)) (defBody s_check_table) := by
  have hu := hr.room.units
  have tk : Takes (cxOf (L2.CX pg w) pg w K mg base N_check_table "check_table" (defScope s_check_table) f cdv A outer s H E) (fun C d _ H' => E C d H') := takes_of rfl rfl rfl rfl
  have pp : PassesOwn (model pg w) (cxOf (L2.CX pg w) pg w K mg base N_check_table "check_table" (defScope s_check_table) f cdv A outer s H E).A (cxOf (L2.CX pg w) pg w K mg base N_check_table "check_table" (defScope s_check_table) f cdv A outer s H E).env (cxOf (L2.CX pg w) pg w K mg base N_check_table "check_table" (defScope s_check_table) f cdv A outer s H E).xe := passes_of rfl
  exact (ss_cons (s_if (st_not (st_val rfl (se_at (L.at_ 1) hr tk (sa_cons (se_v (i := 3)) (sa_cons se_int sa_nil))))) (ss_cons (s_raiseAt (g.e_BadNet) hr rfl tk (se_tup (sa_cons se_int (sa_cons (se_v (i := 2)) sa_nil))))
    ss_nil) ss_nil)
    (ss_cons (s_asg (se_v (i := 3)) (sg_t rfl rfl (sgs_cons (sg_n nd_check_table) (sgs_cons (sg_n nd_check_table) sgs_nil))))
    (ss_cons (s_if (st_w (sw_or (st_not (st_val rfl (se_isi1 (t := .tuple) rfl g.f_isinstance g.f_tuple bt_tuple (by decide) (se_v (i := 4))))) (sw_or1 (st_cmp opp_gt (se_cb1 (cp_len rfl) g.f_len bt_len (se_v (i := 4))) (se_v (i := 0)))))) (ss_cons (s_raiseAt (g.e_BadNet) hr rfl tk (se_tup (sa_cons se_int (sa_cons (se_v (i := 2)) (sa_cons se_int sa_nil)))))
    ss_nil) ss_nil)
    (ss_cons (s_for pp rfl (si_enum rfl g.f_enumerate (se_v (i := 4))) (sg_t rfl rfl (sgs_cons (sg_n nd_check_table) (sgs_cons (sg_n nd_check_table) sgs_nil))) (ss_cons (s_if (st_w (sw_or (st_not (st_val rfl (se_at (L.at_ 0) hr tk (sa_cons (se_v (i := 7)) (sa_cons se_int (sa_cons (se_v (i := 1)) sa_nil)))))) (sw_or1 (st_cmp (opp_in rfl hu) (se_v (i := 7)) (se_sl rfl (se_v (i := 4)) so_n (so_s (se_v (i := 6)))))))) (ss_cons (s_raiseAt (g.e_BadNet) hr rfl tk (se_tup (sa_cons se_int (sa_cons (se_v (i := 2)) (sa_cons se_int sa_nil)))))
    ss_nil) ss_nil)
    ss_nil))
    (ss_cons (s_if (st_not (st_val rfl (se_at (L.at_ 0) hr tk (sa_cons (se_v (i := 5)) (sa_cons se_int (sa_cons (se_at (L.at_ 4) hr tk (sa_cons (se_at (L.at_ 4) hr tk (sa_cons (se_cb1 (cp_len rfl) g.f_len bt_len (se_v (i := 4))) sa_nil)) sa_nil)) sa_nil)))))) (ss_cons (s_raiseAt (g.e_BadNet) hr rfl tk (se_tup (sa_cons se_int (sa_cons (se_v (i := 2)) (sa_cons se_int sa_nil)))))
    ss_nil) ss_nil)
    ss_nil)))))
def N_power_of_two : List Str := ["many"]
def P_power_of_two : List Str := ["many"]
theorem nd_power_of_two : N_power_of_two.Nodup := by decide +kernel
theorem sc_power_of_two : FnScope N_power_of_two P_power_of_two (defScope s_power_of_two) := ⟨rfl, rfl, rfl, nd_power_of_two, rfl, by decide +kernel, by decide +kernel⟩
theorem b_power_of_two {n : Nat} (g : Fact pg w K mg base) (L : Lib w K mg base n) (hr : RoomG (n + 3) (A.deeper (PyProof.Rows.envOfC "power_of_two" (defScope s_power_of_two) s.heap.objs.size f cdv))) :
  SS (Gk K) (fun C d _ H' => E C d H') (cxOf (L2.CX pg w) pg w K mg base N_power_of_two "power_of_two" (defScope s_power_of_two) f cdv A outer s H E) (e_power_of_two (runP prog n)) (defBody s_power_of_two) := by
  have hu := hr.room.units
  have tk : Takes (cxOf (L2.CX pg w) pg w K mg base N_power_of_two "power_of_two" (defScope s_power_of_two) f cdv A outer s H E) (fun C d _ H' => E C d H') := takes_of rfl rfl rfl rfl
  have pp : PassesOwn (model pg w) (cxOf (L2.CX pg w) pg w K mg base N_power_of_two "power_of_two" (defScope s_power_of_two) f cdv A outer s H E).A (cxOf (L2.CX pg w) pg w K mg base N_power_of_two "power_of_two" (defScope s_power_of_two) f cdv A outer s H E).env (cxOf (L2.CX pg w) pg w K mg base N_power_of_two "power_of_two" (defScope s_power_of_two) f cdv A outer s H E).xe := passes_of rfl
  exact (ss_cons (s_ret (se_bin opp_shl se_int (se_v (i := 0))))
    ss_nil)
def N__law_source : List Str := ["_law_script", "_law_mixed_here", "_law_cell"]
def P__law_source : List Str := ["_law_script"]
theorem nd__law_source : N__law_source.Nodup := by decide +kernel
theorem sc__law_source : FnScope N__law_source P__law_source (defScope s__law_source) := ⟨rfl, rfl, rfl, nd__law_source, rfl, by decide +kernel, by decide +kernel⟩
theorem b__law_source {n : Nat} (g : Fact pg w K mg base) (L : Lib w K mg base n) (hr : RoomG (n + 3) (A.deeper (PyProof.Rows.envOfC "_law_source" (defScope s__law_source) s.heap.objs.size f cdv))) :
  SS (Gk K) (fun C d _ H' => E C d H') (cxOf (L2.CX pg w) pg w K mg base N__law_source "_law_source" (defScope s__law_source) f cdv A outer s H E) (e__law_source (runP prog n)) (defBody s__law_source) := by
  have hu := hr.room.units
  have tk : Takes (cxOf (L2.CX pg w) pg w K mg base N__law_source "_law_source" (defScope s__law_source) f cdv A outer s H E) (fun C d _ H' => E C d H') := takes_of rfl rfl rfl rfl
  have pp : PassesOwn (model pg w) (cxOf (L2.CX pg w) pg w K mg base N__law_source "_law_source" (defScope s__law_source) f cdv A outer s H E).A (cxOf (L2.CX pg w) pg w K mg base N__law_source "_law_source" (defScope s__law_source) f cdv A outer s H E).env (cxOf (L2.CX pg w) pg w K mg base N__law_source "_law_source" (defScope s__law_source) f cdv A outer s H E).xe := passes_of rfl
  exact (ss_cons (s_set nd__law_source se_int)
    (ss_cons (s_for pp rfl (si_seq rfl (se_v (i := 0))) (sg_n nd__law_source) (ss_cons (s_set nd__law_source (se_bin opp_mod (se_ct1 cp_int g.f_int bt_int (se_bin (opp_add rfl) (se_bin (opp_add rfl) (se_bin opp_mul (se_v (i := 1)) se_int) (se_bin opp_mul (se_v (i := 2)) se_int)) se_int)) se_int))
    ss_nil))
    (ss_cons (s_ret (se_dctA (pp_cons (se_revA (se_lc rfl nd__law_source (si_seq rfl (se_v (i := 0))) (blkOk_by (own := [("_law_cell", 2)]) (by kernel_rfl)) (is := [2]) (fun _ _ _ _ _ => (sh_n nd__law_source)) (fun _ _ _ _ _ => sts_nil) (fun _ _ _ _ _ => (se_cb1 cp_abs g.f_abs bt_abs (se_v (i := 2)))))) (pp_cons se_int (pp_cons (se_v (i := 1)) (pp_cons se_int pp_nil)))) rfl))
    ss_nil)))
def N__law_pick : List Str := ["_law_source_here", "_law_many", "_law_left", "_law_mixed_here"]
def P__law_pick : List Str := ["_law_source_here", "_law_many"]
theorem nd__law_pick : N__law_pick.Nodup := by decide +kernel
theorem sc__law_pick : FnScope N__law_pick P__law_pick (defScope s__law_pick) := ⟨rfl, rfl, rfl, nd__law_pick, rfl, by decide +kernel, by decide +kernel⟩
theorem b__law_pick {n : Nat} (g : Fact pg w K mg base) (L : Lib w K mg base n) (hr : RoomG (n + 3) (A.deeper (PyProof.Rows.envOfC "_law_pick" (defScope s__law_pick) s.heap.objs.size f cdv))) :
  SS (Gk K) (fun C d _ H' => E C d H') (cxOf (L2.CX pg w) pg w K mg base N__law_pick "_law_pick" (defScope s__law_pick) f cdv A outer s H E) (e__law_pick (runP prog n)) (defBody s__law_pick) := by
  have hu := hr.room.units
  have tk : Takes (cxOf (L2.CX pg w) pg w K mg base N__law_pick "_law_pick" (defScope s__law_pick) f cdv A outer s H E) (fun C d _ H' => E C d H') := takes_of rfl rfl rfl rfl
  have pp : PassesOwn (model pg w) (cxOf (L2.CX pg w) pg w K mg base N__law_pick "_law_pick" (defScope s__law_pick) f cdv A outer s H E).A (cxOf (L2.CX pg w) pg w K mg base N__law_pick "_law_pick" (defScope s__law_pick) f cdv A outer s H E).env (cxOf (L2.CX pg w) pg w K mg base N__law_pick "_law_pick" (defScope s__law_pick) f cdv A outer s H E).xe := passes_of rfl
  exact (ss_cons (s_while pp (st_w (sw_and (st_cmp opp_gt (se_v (i := 1)) se_int) (sw_and (st_cmp opp_lt (se_ix rfl hu (se_v (i := 0)) se_str) se_int) (sw_and1 (st_cmp opp_gt (se_cb1 (cp_len rfl) g.f_len bt_len (se_ix rfl hu (se_v (i := 0)) se_str)) se_int))))) (ss_cons (s_asg (se_m0 PySem.F.slot_list_pop PySem.F.type_list_pop mp_pop (se_ix rfl hu (se_v (i := 0)) se_str)) (sg_i (W := Shut) hu (se_v (i := 0)) se_str))
    ss_nil))
    (ss_cons (s_set nd__law_pick (se_ix rfl hu (se_v (i := 0)) se_str))
    (ss_cons (s_if (st_w (sw_or (st_cmp opp_lt (se_v (i := 1)) se_int) (sw_or1 (st_cmp opp_gt (se_v (i := 2)) se_int)))) (ss_cons (s_asg (se_bin opp_div (se_v (i := 2)) (se_cb2 (cp_max rfl) g.f_max bt_max se_int (se_v (i := 1)))) (sg_i (W := Shut) hu (se_v (i := 0)) se_str))
    (ss_cons (s_ret (se_bin opp_mod (se_ct1 cp_int g.f_int bt_int (se_v (i := 2))) (se_cb2 (cp_max rfl) g.f_max bt_max se_int (se_v (i := 1)))))
    ss_nil)) ss_nil)
    (ss_cons (s_asg (se_bin (opp_add rfl) (se_ix rfl hu (se_v (i := 0)) se_str) se_int) (sg_i (W := Shut) hu (se_v (i := 0)) se_str))
    (ss_cons (s_set nd__law_pick (se_bin opp_mod (se_ct1 cp_int g.f_int bt_int (se_bin (opp_add rfl) (se_ix rfl hu (se_v (i := 0)) se_str) (se_bin opp_mul (se_ix rfl hu (se_v (i := 0)) se_str) se_int))) se_int))
    (ss_cons (s_set nd__law_pick (se_bin opp_mod (se_ct1 cp_int g.f_int bt_int (se_bin (opp_add rfl) (se_bin opp_mul (se_v (i := 3)) (se_v (i := 3))) (se_bin opp_mul (se_ix rfl hu (se_v (i := 0)) se_str) se_int))) se_int))
    (ss_cons (s_asg (se_v (i := 3)) (sg_i (W := Shut) hu (se_v (i := 0)) se_str))
    (ss_cons (s_ret (se_bin opp_mod (se_ct1 cp_int g.f_int bt_int (se_bin opp_div (se_v (i := 3)) se_int)) (se_v (i := 1))))
    ss_nil))))))))
def N__law_of : List Str := ["_law_source_here", "_law_some"]
def P__law_of : List Str := ["_law_source_here", "_law_some"]
theorem nd__law_of : N__law_of.Nodup := by decide +kernel
theorem sc__law_of : FnScope N__law_of P__law_of (defScope s__law_of) := ⟨rfl, rfl, rfl, nd__law_of, rfl, by decide +kernel, by decide +kernel⟩
theorem b__law_of {n : Nat} (g : Fact pg w K mg base) (L : Lib w K mg base n) (hr : RoomG (n + 3) (A.deeper (PyProof.Rows.envOfC "_law_of" (defScope s__law_of) s.heap.objs.size f cdv))) :
  SS (Gk K) (fun C d _ H' => E C d H') (cxOf (L2.CX pg w) pg w K mg base N__law_of "_law_of" (defScope s__law_of) f cdv A outer s H E) (e__law_of (runP prog n)) (defBody s__law_of) := by
  have hu := hr.room.units
  have tk : Takes (cxOf (L2.CX pg w) pg w K mg base N__law_of "_law_of" (defScope s__law_of) f cdv A outer s H E) (fun C d _ H' => E C d H') := takes_of rfl rfl rfl rfl
  have pp : PassesOwn (model pg w) (cxOf (L2.CX pg w) pg w K mg base N__law_of "_law_of" (defScope s__law_of) f cdv A outer s H E).A (cxOf (L2.CX pg w) pg w K mg base N__law_of "_law_of" (defScope s__law_of) f cdv A outer s H E).env (cxOf (L2.CX pg w) pg w K mg base N__law_of "_law_of" (defScope s__law_of) f cdv A outer s H E).xe := passes_of rfl
  exact (ss_cons (s_ret (se_ix rfl hu (se_v (i := 1)) (se_at (L.at_ 6) hr tk (sa_cons (se_v (i := 0)) (sa_cons (se_cb1 (cp_len rfl) g.f_len bt_len (se_v (i := 1))) sa_nil)))))
    ss_nil)
def N__law_mixed : List Str := ["_law_source_here", "_law_things", "_law_rest", "_law_lap"]
def P__law_mixed : List Str := ["_law_source_here", "_law_things"]
theorem nd__law_mixed : N__law_mixed.Nodup := by decide +kernel
theorem sc__law_mixed : FnScope N__law_mixed P__law_mixed (defScope s__law_mixed) := ⟨rfl, rfl, rfl, nd__law_mixed, rfl, by decide +kernel, by decide +kernel⟩
theorem b__law_mixed {n : Nat} (g : Fact pg w K mg base) (L : Lib w K mg base n) (hr : RoomG (n + 3) (A.deeper (PyProof.Rows.envOfC "_law_mixed" (defScope s__law_mixed) s.heap.objs.size f cdv))) :
  SS (Gk K) (fun C d _ H' => E C d H') (cxOf (L2.CX pg w) pg w K mg base N__law_mixed "_law_mixed" (defScope s__law_mixed) f cdv A outer s H E) (e__law_mixed (runP prog n)) (defBody s__law_mixed) := by
  have hu := hr.room.units
  have tk : Takes (cxOf (L2.CX pg w) pg w K mg base N__law_mixed "_law_mixed" (defScope s__law_mixed) f cdv A outer s H E) (fun C d _ H' => E C d H') := takes_of rfl rfl rfl rfl
  have pp : PassesOwn (model pg w) (cxOf (L2.CX pg w) pg w K mg base N__law_mixed "_law_mixed" (defScope s__law_mixed) f cdv A outer s H E).A (cxOf (L2.CX pg w) pg w K mg base N__law_mixed "_law_mixed" (defScope s__law_mixed) f cdv A outer s H E).env (cxOf (L2.CX pg w) pg w K mg base N__law_mixed "_law_mixed" (defScope s__law_mixed) f cdv A outer s H E).xe := passes_of rfl
  exact (ss_cons (s_set nd__law_mixed (se_ct1 (cp_listA rfl) g.f_list bt_list (se_v (i := 1))))
    (ss_cons (s_ret (se_lc rfl nd__law_mixed (si_rng1 g.f_range (se_cb1 (cp_len rfl) g.f_len bt_len (se_v (i := 2)))) (blkOk_by (own := [("_law_lap", 3)]) (by kernel_rfl)) (is := [3]) (fun _ _ _ _ _ => (sh_n nd__law_mixed)) (fun _ _ _ _ _ => sts_nil) (fun _ _ _ _ _ => (se_m1 PySem.F.slot_list_pop PySem.F.type_list_pop mp_popAt (se_v (i := 2)) (se_at (L.at_ 6) hr takes_shut (sa_cons (se_v (i := 0)) (sa_cons (se_cb1 (cp_len rfl) g.f_len bt_len (se_v (i := 2))) sa_nil)))))))
    ss_nil))
def N__law_is_below : List Str := ["_law_value", "_law_many"]
def P__law_is_below : List Str := ["_law_value", "_law_many"]
theorem nd__law_is_below : N__law_is_below.Nodup := by decide +kernel
theorem sc__law_is_below : FnScope N__law_is_below P__law_is_below (defScope s__law_is_below) := ⟨rfl, rfl, rfl, nd__law_is_below, rfl, by decide +kernel, by decide +kernel⟩
theorem b__law_is_below {n : Nat} (g : Fact pg w K mg base) (L : Lib w K mg base n) (hr : RoomG (n + 3) (A.deeper (PyProof.Rows.envOfC "_law_is_below" (defScope s__law_is_below) s.heap.objs.size f cdv))) :
  SS (Gk K) (fun C d _ H' => E C d H') (cxOf (L2.CX pg w) pg w K mg base N__law_is_below "_law_is_below" (defScope s__law_is_below) f cdv A outer s H E) (e__law_is_below (runP prog n)) (defBody s__law_is_below) := by
  have hu := hr.room.units
  have tk : Takes (cxOf (L2.CX pg w) pg w K mg base N__law_is_below "_law_is_below" (defScope s__law_is_below) f cdv A outer s H E) (fun C d _ H' => E C d H') := takes_of rfl rfl rfl rfl
  have pp : PassesOwn (model pg w) (cxOf (L2.CX pg w) pg w K mg base N__law_is_below "_law_is_below" (defScope s__law_is_below) f cdv A outer s H E).A (cxOf (L2.CX pg w) pg w K mg base N__law_is_below "_law_is_below" (defScope s__law_is_below) f cdv A outer s H E).env (cxOf (L2.CX pg w) pg w K mg base N__law_is_below "_law_is_below" (defScope s__law_is_below) f cdv A outer s H E).xe := passes_of rfl
  exact (ss_cons (s_ret (se_and rfl (se_isi1 (t := .int) rfl g.f_isinstance g.f_int bt_int (by decide) (se_v (i := 0))) (se_and rfl (se_not rfl (se_isi1 (t := .bool) rfl g.f_isinstance g.f_bool bt_bool (by decide) (se_v (i := 0)))) (se_one (se_chain opp_le opp_lt se_int (se_v (i := 0)) (se_v (i := 1)))))))
    ss_nil)
def N__law_draw_net : List Str := ["_law_source_here", "_law_k", "_law_many_ins", "_law_many_regs", "_law_most", "_law_ins", "_law_regs", "_law_tables", "_law_lap", "_law_many", "_law_near", "_law_nodes", "_law_size", "_law_node", "_law_truth", "_law_told", "_law_outs"]
def P__law_draw_net : List Str := ["_law_source_here", "_law_k", "_law_many_ins", "_law_many_regs", "_law_most"]
theorem nd__law_draw_net : N__law_draw_net.Nodup := by decide +kernel
theorem sc__law_draw_net : FnScope N__law_draw_net P__law_draw_net (defScope s__law_draw_net) := ⟨rfl, rfl, rfl, nd__law_draw_net, rfl, by decide +kernel, by decide +kernel⟩
theorem b__law_draw_net {n : Nat} (g : Fact pg w K mg base) (L : Lib w K mg base n) (hr : RoomG (n + 3) (A.deeper (PyProof.Rows.envOfC "_law_draw_net" (defScope s__law_draw_net) s.heap.objs.size f cdv))) :
  SS (Gk K) (fun C d _ H' => E C d H') (cxOf (L2.CX pg w) pg w K mg base N__law_draw_net "_law_draw_net" (defScope s__law_draw_net) f cdv A outer s H E) (e__law_draw_net (runP prog n)) (defBody s__law_draw_net) := by
  have hu := hr.room.units
  have tk : Takes (cxOf (L2.CX pg w) pg w K mg base N__law_draw_net "_law_draw_net" (defScope s__law_draw_net) f cdv A outer s H E) (fun C d _ H' => E C d H') := takes_of rfl rfl rfl rfl
  have pp : PassesOwn (model pg w) (cxOf (L2.CX pg w) pg w K mg base N__law_draw_net "_law_draw_net" (defScope s__law_draw_net) f cdv A outer s H E).A (cxOf (L2.CX pg w) pg w K mg base N__law_draw_net "_law_draw_net" (defScope s__law_draw_net) f cdv A outer s H E).env (cxOf (L2.CX pg w) pg w K mg base N__law_draw_net "_law_draw_net" (defScope s__law_draw_net) f cdv A outer s H E).xe := passes_of rfl
  exact (ss_cons (s_par3 rfl nd__law_draw_net (se_at (L.at_ 6) hr tk (sa_cons (se_v (i := 0)) (sa_cons (se_bin (opp_add rfl) (se_v (i := 2)) se_int) sa_nil))) (se_at (L.at_ 6) hr tk (sa_cons (se_v (i := 0)) (sa_cons (se_bin (opp_add rfl) (se_v (i := 3)) se_int) sa_nil))) (se_lstA sa_nil) (by rfl))
    (ss_cons (s_for pp rfl (si_rng1 g.f_range (se_at (L.at_ 6) hr tk (sa_cons (se_v (i := 0)) (sa_cons (se_bin (opp_add rfl) (se_v (i := 4)) se_int) sa_nil)))) (sg_n nd__law_draw_net) (ss_cons (s_set nd__law_draw_net (se_bin (opp_add rfl) (se_bin (opp_add rfl) (se_bin (opp_add rfl) se_int (se_v (i := 5))) (se_v (i := 6))) (se_cb1 (cp_len rfl) g.f_len bt_len (se_v (i := 7)))))
    (ss_cons (s_set nd__law_draw_net (se_at (L.at_ 8) hr tk (sa_cons (se_v (i := 0)) (sa_cons (se_bin (opp_add rfl) (se_lrng2 rfl g.f_list g.f_range (se_cb2 (cp_max rfl) g.f_max bt_max se_int (se_bin opp_sub (se_v (i := 9)) se_int)) (se_v (i := 9))) (se_lst (sa_cons (se_at (L.at_ 6) hr tk (sa_cons (se_v (i := 0)) (sa_cons (se_v (i := 9)) sa_nil))) sa_nil))) sa_nil))))
    (ss_cons (s_par rfl nd__law_draw_net (se_lst sa_nil) (se_at (L.at_ 6) hr tk (sa_cons (se_v (i := 0)) (sa_cons (se_bin (opp_add rfl) (se_v (i := 1)) se_int) sa_nil))) (by rfl))
    (ss_cons (s_for pp rfl (si_seq rfl (se_sl rfl (se_v (i := 10)) so_n (so_s (se_v (i := 12))))) (sg_n nd__law_draw_net) (ss_cons (s_set nd__law_draw_net (se_if (st_cmp (opp_notin rfl hu) (se_v (i := 13)) (se_v (i := 11))) (se_bin (opp_add rfl) (se_v (i := 11)) (se_lst (sa_cons (se_v (i := 13)) sa_nil))) (se_v (i := 11))))
    ss_nil))
    (ss_cons (s_set nd__law_draw_net (se_at (L.at_ 6) hr tk (sa_cons (se_v (i := 0)) (sa_cons (se_bin opp_shl se_int (se_bin opp_shl se_int (se_cb1 (cp_len rfl) g.f_len bt_len (se_v (i := 11))))) sa_nil))))
    (ss_cons (s_exp (se_m1 PySem.F.slot_list_append PySem.F.type_list_append mp_app (se_v (i := 7)) (se_if (st_w (sw_or (st_cmp (opp_eq rfl hu) (se_v (i := 7)) (se_lst sa_nil)) (sw_or1 (st_cmp opp_gt (se_at (L.at_ 6) hr tk (sa_cons (se_v (i := 0)) (sa_cons se_int sa_nil))) se_int)))) (se_tup (sa_cons (se_ct1 (cp_tuple rfl) g.f_tuple bt_tuple (se_v (i := 11))) (sa_cons (se_v (i := 14)) sa_nil))) (se_at (L.at_ 7) hr tk (sa_cons (se_v (i := 0)) (sa_cons (se_v (i := 7)) sa_nil))))))
    ss_nil)))))))
    (ss_cons (s_set nd__law_draw_net (se_bin (opp_add rfl) (se_bin (opp_add rfl) (se_bin (opp_add rfl) se_int (se_v (i := 5))) (se_v (i := 6))) (se_cb1 (cp_len rfl) g.f_len bt_len (se_v (i := 7)))))
    (ss_cons (s_set nd__law_draw_net (se_ct1 (cp_tuple rfl) g.f_tuple bt_tuple (se_lc rfl nd__law_draw_net (si_rng1 g.f_range (se_v (i := 6))) (blkOk_by (own := [("_law_lap", 8)]) (by kernel_rfl)) (is := [8]) (fun _ _ _ _ _ => (sh_n nd__law_draw_net)) (fun _ _ _ _ _ => sts_nil) (fun _ _ _ _ _ => (se_tup (sa_cons (se_at (L.at_ 6) hr takes_shut (sa_cons (se_v (i := 0)) (sa_cons se_int sa_nil))) (sa_cons (se_at (L.at_ 6) hr takes_shut (sa_cons (se_v (i := 0)) (sa_cons (se_v (i := 9)) sa_nil))) sa_nil)))))))
    (ss_cons (s_set nd__law_draw_net (se_ct1 (cp_tuple rfl) g.f_tuple bt_tuple (se_lc rfl nd__law_draw_net (si_rng1 g.f_range (se_bin (opp_add rfl) se_int (se_at (L.at_ 6) hr tk (sa_cons (se_v (i := 0)) (sa_cons se_int sa_nil))))) (blkOk_by (own := [("_law_lap", 8)]) (by kernel_rfl)) (is := [8]) (fun _ _ _ _ _ => (sh_n nd__law_draw_net)) (fun _ _ _ _ _ => sts_nil) (fun _ _ _ _ _ => (se_bin opp_sub (se_bin opp_sub (se_v (i := 9)) se_int) (se_at (L.at_ 6) hr takes_shut (sa_cons (se_v (i := 0)) (sa_cons (se_cb2 (cp_min rfl) g.f_min bt_min (se_v (i := 9)) se_int) sa_nil))))))))
    (ss_cons (s_ret (se_tup (sa_cons (se_v (i := 1)) (sa_cons (se_v (i := 5)) (sa_cons (se_v (i := 15)) (sa_cons (se_ct1 (cp_tuple rfl) g.f_tuple bt_tuple (se_v (i := 7))) (sa_cons (se_v (i := 16)) sa_nil)))))))
    ss_nil))))))
def N__law_bent : List Str := ["_law_source_here", "_law_value", "_law_odd", "_law_k", "_law_way"]
def P__law_bent : List Str := ["_law_source_here", "_law_value", "_law_odd"]
theorem nd__law_bent : N__law_bent.Nodup := by decide +kernel
theorem sc__law_bent : FnScope N__law_bent P__law_bent (defScope s__law_bent) := ⟨rfl, rfl, rfl, nd__law_bent, rfl, by decide +kernel, by decide +kernel⟩
theorem b__law_bent {n : Nat} (g : Fact pg w K mg base) (L : Lib w K mg base n) (hr : RoomG (n + 3) (A.deeper (PyProof.Rows.envOfC "_law_bent" (defScope s__law_bent) s.heap.objs.size f cdv))) :
  SS (Gk K) (fun C d _ H' => E C d H') (cxOf (L2.CX pg w) pg w K mg base N__law_bent "_law_bent" (defScope s__law_bent) f cdv A outer s H E) (e__law_bent (runP prog n)) (defBody s__law_bent) := by
  have hu := hr.room.units
  have tk : Takes (cxOf (L2.CX pg w) pg w K mg base N__law_bent "_law_bent" (defScope s__law_bent) f cdv A outer s H E) (fun C d _ H' => E C d H') := takes_of rfl rfl rfl rfl
  have pp : PassesOwn (model pg w) (cxOf (L2.CX pg w) pg w K mg base N__law_bent "_law_bent" (defScope s__law_bent) f cdv A outer s H E).A (cxOf (L2.CX pg w) pg w K mg base N__law_bent "_law_bent" (defScope s__law_bent) f cdv A outer s H E).env (cxOf (L2.CX pg w) pg w K mg base N__law_bent "_law_bent" (defScope s__law_bent) f cdv A outer s H E).xe := passes_of rfl
  exact (ss_cons (s_if (st_w (sw_or (st_not (st_val rfl (se_isi1 (t := .tuple) rfl g.f_isinstance g.f_tuple bt_tuple (by decide) (se_v (i := 1))))) (sw_or (st_cmp (opp_eq rfl hu) (se_v (i := 1)) (se_tup sa_nil)) (sw_or1 (st_cmp (opp_eq rfl hu) (se_at (L.at_ 6) hr tk (sa_cons (se_v (i := 0)) (sa_cons se_int sa_nil))) se_int))))) (ss_cons (s_ret (se_at (L.at_ 7) hr tk (sa_cons (se_v (i := 0)) (sa_cons (se_v (i := 2)) sa_nil))))
    ss_nil) ss_nil)
    (ss_cons (s_par rfl nd__law_bent (se_at (L.at_ 6) hr tk (sa_cons (se_v (i := 0)) (sa_cons (se_cb1 (cp_len rfl) g.f_len bt_len (se_v (i := 1))) sa_nil))) (se_at (L.at_ 6) hr tk (sa_cons (se_v (i := 0)) (sa_cons se_int sa_nil))) (by rfl))
    (ss_cons (s_if (st_cmp (opp_eq rfl hu) (se_v (i := 4)) se_int) (ss_cons (s_ret (se_bin (opp_add rfl) (se_sl rfl (se_v (i := 1)) so_n (so_s (se_v (i := 3)))) (se_sl rfl (se_v (i := 1)) (so_s (se_bin (opp_add rfl) (se_v (i := 3)) se_int)) so_n)))
    ss_nil) ss_nil)
    (ss_cons (s_if (st_cmp (opp_eq rfl hu) (se_v (i := 4)) se_int) (ss_cons (s_ret (se_bin (opp_add rfl) (se_sl rfl (se_v (i := 1)) so_n (so_s (se_bin (opp_add rfl) (se_v (i := 3)) se_int))) (se_sl rfl (se_v (i := 1)) (so_s (se_v (i := 3))) so_n)))
    ss_nil) ss_nil)
    (ss_cons (s_if (st_cmp (opp_eq rfl hu) (se_v (i := 4)) se_int) (ss_cons (s_ret (se_ct1 (cp_list rfl) g.f_list bt_list (se_v (i := 1))))
    ss_nil) ss_nil)
    (ss_cons (s_ret (se_bin (opp_add rfl) (se_bin (opp_add rfl) (se_sl rfl (se_v (i := 1)) so_n (so_s (se_v (i := 3)))) (se_tup (sa_cons (se_at (L.at_ 11) hr tk (sa_cons (se_v (i := 0)) (sa_cons (se_ix rfl hu (se_v (i := 1)) (se_v (i := 3))) (sa_cons (se_v (i := 2)) sa_nil)))) sa_nil))) (se_sl rfl (se_v (i := 1)) (so_s (se_bin (opp_add rfl) (se_v (i := 3)) se_int)) so_n)))
    ss_nil))))))
def N__law_is_pair : List Str := ["_law_value"]
def P__law_is_pair : List Str := ["_law_value"]
theorem nd__law_is_pair : N__law_is_pair.Nodup := by decide +kernel
theorem sc__law_is_pair : FnScope N__law_is_pair P__law_is_pair (defScope s__law_is_pair) := ⟨rfl, rfl, rfl, nd__law_is_pair, rfl, by decide +kernel, by decide +kernel⟩
theorem b__law_is_pair {n : Nat} (g : Fact pg w K mg base) (L : Lib w K mg base n) (hr : RoomG (n + 3) (A.deeper (PyProof.Rows.envOfC "_law_is_pair" (defScope s__law_is_pair) s.heap.objs.size f cdv))) :
  SS (Gk K) (fun C d _ H' => E C d H') (cxOf (L2.CX pg w) pg w K mg base N__law_is_pair "_law_is_pair" (defScope s__law_is_pair) f cdv A outer s H E) (e__law_is_pair (runP prog n)) (defBody s__law_is_pair) := by
  have hu := hr.room.units
  have tk : Takes (cxOf (L2.CX pg w) pg w K mg base N__law_is_pair "_law_is_pair" (defScope s__law_is_pair) f cdv A outer s H E) (fun C d _ H' => E C d H') := takes_of rfl rfl rfl rfl
  have pp : PassesOwn (model pg w) (cxOf (L2.CX pg w) pg w K mg base N__law_is_pair "_law_is_pair" (defScope s__law_is_pair) f cdv A outer s H E).A (cxOf (L2.CX pg w) pg w K mg base N__law_is_pair "_law_is_pair" (defScope s__law_is_pair) f cdv A outer s H E).env (cxOf (L2.CX pg w) pg w K mg base N__law_is_pair "_law_is_pair" (defScope s__law_is_pair) f cdv A outer s H E).xe := passes_of rfl
  exact (ss_cons (s_ret (se_and rfl (se_isi1 (t := .tuple) rfl g.f_isinstance g.f_tuple bt_tuple (by decide) (se_v (i := 0))) (se_one (se_cmp (opp_eq rfl hu) (se_cb1 (cp_len rfl) g.f_len bt_len (se_v (i := 0))) se_int))))
    ss_nil)
def N__law_net_fault : List Str := ["_law_value", "_law_r", "_law_reg", "_law_first", "_law_t", "_law_table", "_law_wrong", "_law_many", "_law_o"]
def P__law_net_fault : List Str := ["_law_value"]
theorem nd__law_net_fault : N__law_net_fault.Nodup := by decide +kernel
theorem sc__law_net_fault : FnScope N__law_net_fault P__law_net_fault (defScope s__law_net_fault) := ⟨rfl, rfl, rfl, nd__law_net_fault, rfl, by decide +kernel, by decide +kernel⟩
theorem b__law_net_fault {n : Nat} (g : Fact pg w K mg base) (L : Lib w K mg base n) (hr : RoomG (n + 3) (A.deeper (PyProof.Rows.envOfC "_law_net_fault" (defScope s__law_net_fault) s.heap.objs.size f cdv))) :
  SS (Gk K) (fun C d _ H' => E C d H') (cxOf (L2.CX pg w) pg w K mg base N__law_net_fault "_law_net_fault" (defScope s__law_net_fault) f cdv A outer s H E) (e__law_net_fault (runP prog n)) (defBody s__law_net_fault) := by
  have hu := hr.room.units
  have tk : Takes (cxOf (L2.CX pg w) pg w K mg base N__law_net_fault "_law_net_fault" (defScope s__law_net_fault) f cdv A outer s H E) (fun C d _ H' => E C d H') := takes_of rfl rfl rfl rfl
  have pp : PassesOwn (model pg w) (cxOf (L2.CX pg w) pg w K mg base N__law_net_fault "_law_net_fault" (defScope s__law_net_fault) f cdv A outer s H E).A (cxOf (L2.CX pg w) pg w K mg base N__law_net_fault "_law_net_fault" (defScope s__law_net_fault) f cdv A outer s H E).env (cxOf (L2.CX pg w) pg w K mg base N__law_net_fault "_law_net_fault" (defScope s__law_net_fault) f cdv A outer s H E).xe := passes_of rfl
  exact (ss_cons (s_if (st_w (sw_or (st_not (st_val rfl (se_isi1 (t := .tuple) rfl g.f_isinstance g.f_tuple bt_tuple (by decide) (se_v (i := 0))))) (sw_or1 (st_cmp (opp_ne rfl hu) (se_cb1 (cp_len rfl) g.f_len bt_len (se_v (i := 0))) se_int)))) (ss_cons (s_ret (se_lst (sa_cons (se_tup sa_nil) sa_nil)))
    ss_nil) ss_nil)
    (ss_cons (s_if (st_w (sw_or (st_not (st_val rfl (se_at (L.at_ 9) hr tk (sa_cons (se_ix rfl hu (se_v (i := 0)) se_int) (sa_cons se_int sa_nil))))) (sw_or1 (st_cmp opp_lt (se_ix rfl hu (se_v (i := 0)) se_int) se_int)))) (ss_cons (s_ret (se_lst (sa_cons (se_tup (sa_cons se_int sa_nil)) sa_nil)))
    ss_nil) ss_nil)
    (ss_cons (s_if (st_not (st_val rfl (se_at (L.at_ 9) hr tk (sa_cons (se_ix rfl hu (se_v (i := 0)) se_int) (sa_cons (se_bin opp_pow se_int se_int) sa_nil))))) (ss_cons (s_ret (se_lst (sa_cons (se_tup (sa_cons se_int sa_nil)) sa_nil)))
    ss_nil) ss_nil)
    (ss_cons (s_if (st_not (st_val rfl (se_isi1 (t := .tuple) rfl g.f_isinstance g.f_tuple bt_tuple (by decide) (se_ix rfl hu (se_v (i := 0)) se_int)))) (ss_cons (s_ret (se_lst (sa_cons (se_tup (sa_cons se_int sa_nil)) sa_nil)))
    ss_nil) ss_nil)
    (ss_cons (s_for pp rfl (si_enum rfl g.f_enumerate (se_ix rfl hu (se_v (i := 0)) se_int)) (sg_t rfl rfl (sgs_cons (sg_n nd__law_net_fault) (sgs_cons (sg_n nd__law_net_fault) sgs_nil))) (ss_cons (s_if (st_not (st_val rfl (se_at (L.at_ 12) hr tk (sa_cons (se_v (i := 2)) sa_nil)))) (ss_cons (s_ret (se_lst (sa_cons (se_tup (sa_cons se_int (sa_cons (se_v (i := 1)) sa_nil))) sa_nil)))
    ss_nil) ss_nil)
    (ss_cons (s_if (st_not (st_val rfl (se_at (L.at_ 9) hr tk (sa_cons (se_ix rfl hu (se_v (i := 2)) se_int) (sa_cons se_int sa_nil))))) (ss_cons (s_ret (se_lst (sa_cons (se_tup (sa_cons se_int (sa_cons (se_v (i := 1)) (sa_cons se_int sa_nil)))) sa_nil)))
    ss_nil) ss_nil)
    ss_nil)))
    (ss_cons (s_if (st_not (st_val rfl (se_isi1 (t := .tuple) rfl g.f_isinstance g.f_tuple bt_tuple (by decide) (se_ix rfl hu (se_v (i := 0)) se_int)))) (ss_cons (s_ret (se_lst (sa_cons (se_tup (sa_cons se_int sa_nil)) sa_nil)))
    ss_nil) ss_nil)
    (ss_cons (s_set nd__law_net_fault (se_bin (opp_add rfl) (se_bin (opp_add rfl) se_int (se_ix rfl hu (se_v (i := 0)) se_int)) (se_cb1 (cp_len rfl) g.f_len bt_len (se_ix rfl hu (se_v (i := 0)) se_int))))
    (ss_cons (s_for pp rfl (si_enum rfl g.f_enumerate (se_ix rfl hu (se_v (i := 0)) se_int)) (sg_t rfl rfl (sgs_cons (sg_n nd__law_net_fault) (sgs_cons (sg_n nd__law_net_fault) sgs_nil))) (ss_cons (s_set nd__law_net_fault (se_at (L.at_ 14) hr tk (sa_cons (se_ix rfl hu (se_v (i := 0)) se_int) (sa_cons (se_bin (opp_add rfl) (se_v (i := 3)) (se_v (i := 4))) (sa_cons (se_v (i := 5)) sa_nil)))))
    (ss_cons (s_if (st_cmp (opp_ne rfl hu) (se_v (i := 6)) (se_lst sa_nil)) (ss_cons (s_ret (se_lst (sa_cons (se_bin (opp_add rfl) (se_tup (sa_cons se_int (sa_cons (se_v (i := 4)) sa_nil))) (se_ix rfl hu (se_v (i := 6)) se_int)) sa_nil)))
    ss_nil) ss_nil)
    ss_nil)))
    (ss_cons (s_set nd__law_net_fault (se_bin (opp_add rfl) (se_v (i := 3)) (se_cb1 (cp_len rfl) g.f_len bt_len (se_ix rfl hu (se_v (i := 0)) se_int))))
    (ss_cons (s_setLc rfl nd__law_net_fault (si_rng1 g.f_range (se_cb1 (cp_len rfl) g.f_len bt_len (se_ix rfl hu (se_v (i := 0)) se_int))) (blkOk_by (own := [("_law_r", 1)]) (by kernel_rfl)) (is := [1]) (fun _ _ _ _ _ => (sh_n nd__law_net_fault)) (fun _ _ _ _ _ => (sts_one (st_not (st_val rfl (se_at (L.at_ 9) hr takes_shut (sa_cons (se_ix rfl hu (se_ix rfl hu (se_ix rfl hu (se_v (i := 0)) se_int) (se_v (i := 1))) se_int) (sa_cons (se_v (i := 7)) sa_nil))))))) (fun _ _ _ _ _ => (se_v (i := 1))) rfl)
    (ss_cons (s_if (st_cmp (opp_ne rfl hu) (se_v (i := 6)) (se_lst sa_nil)) (ss_cons (s_ret (se_lst (sa_cons (se_tup (sa_cons se_int (sa_cons (se_ix rfl hu (se_v (i := 6)) se_int) (sa_cons se_int sa_nil)))) sa_nil)))
    ss_nil) ss_nil)
    (ss_cons (s_if (st_not (st_val rfl (se_isi1 (t := .tuple) rfl g.f_isinstance g.f_tuple bt_tuple (by decide) (se_ix rfl hu (se_v (i := 0)) se_int)))) (ss_cons (s_ret (se_lst (sa_cons (se_tup (sa_cons se_int sa_nil)) sa_nil)))
    ss_nil) ss_nil)
    (ss_cons (s_setLc rfl nd__law_net_fault (si_rng1 g.f_range (se_cb1 (cp_len rfl) g.f_len bt_len (se_ix rfl hu (se_v (i := 0)) se_int))) (blkOk_by (own := [("_law_o", 8)]) (by kernel_rfl)) (is := [8]) (fun _ _ _ _ _ => (sh_n nd__law_net_fault)) (fun _ _ _ _ _ => (sts_one (st_not (st_val rfl (se_at (L.at_ 9) hr takes_shut (sa_cons (se_ix rfl hu (se_ix rfl hu (se_v (i := 0)) se_int) (se_v (i := 8))) (sa_cons (se_v (i := 7)) sa_nil))))))) (fun _ _ _ _ _ => (se_v (i := 8))) rfl)
    (ss_cons (s_ret (se_if (st_cmp (opp_ne rfl hu) (se_v (i := 6)) (se_lst sa_nil)) (se_lst (sa_cons (se_tup (sa_cons se_int (sa_cons (se_ix rfl hu (se_v (i := 6)) se_int) sa_nil))) sa_nil)) (se_lst sa_nil)))
    ss_nil))))))))))))))
def N__law_table_fault : List Str := ["_law_k", "_law_node", "_law_table", "_law_j", "_law_one"]
def P__law_table_fault : List Str := ["_law_k", "_law_node", "_law_table"]
theorem nd__law_table_fault : N__law_table_fault.Nodup := by decide +kernel
theorem sc__law_table_fault : FnScope N__law_table_fault P__law_table_fault (defScope s__law_table_fault) := ⟨rfl, rfl, rfl, nd__law_table_fault, rfl, by decide +kernel, by decide +kernel⟩
theorem b__law_table_fault {n : Nat} (g : Fact pg w K mg base) (L : Lib w K mg base n) (hr : RoomG (n + 3) (A.deeper (PyProof.Rows.envOfC "_law_table_fault" (defScope s__law_table_fault) s.heap.objs.size f cdv))) :
  SS (Gk K) (fun C d _ H' => E C d H') (cxOf (L2.CX pg w) pg w K mg base N__law_table_fault "_law_table_fault" (defScope s__law_table_fault) f cdv A outer s H E) (e__law_table_fault (runP prog n)) (defBody s__law_table_fault) := by
  have hu := hr.room.units
  have tk : Takes (cxOf (L2.CX pg w) pg w K mg base N__law_table_fault "_law_table_fault" (defScope s__law_table_fault) f cdv A outer s H E) (fun C d _ H' => E C d H') := takes_of rfl rfl rfl rfl
  have pp : PassesOwn (model pg w) (cxOf (L2.CX pg w) pg w K mg base N__law_table_fault "_law_table_fault" (defScope s__law_table_fault) f cdv A outer s H E).A (cxOf (L2.CX pg w) pg w K mg base N__law_table_fault "_law_table_fault" (defScope s__law_table_fault) f cdv A outer s H E).env (cxOf (L2.CX pg w) pg w K mg base N__law_table_fault "_law_table_fault" (defScope s__law_table_fault) f cdv A outer s H E).xe := passes_of rfl
  exact (ss_cons (s_if (st_not (st_val rfl (se_at (L.at_ 12) hr tk (sa_cons (se_v (i := 2)) sa_nil)))) (ss_cons (s_ret (se_lst (sa_cons (se_tup sa_nil) sa_nil)))
    ss_nil) ss_nil)
    (ss_cons (s_if (st_w (sw_or (st_not (st_val rfl (se_isi1 (t := .tuple) rfl g.f_isinstance g.f_tuple bt_tuple (by decide) (se_ix rfl hu (se_v (i := 2)) se_int)))) (sw_or1 (st_cmp opp_gt (se_cb1 (cp_len rfl) g.f_len bt_len (se_ix rfl hu (se_v (i := 2)) se_int)) (se_v (i := 0)))))) (ss_cons (s_ret (se_lst (sa_cons (se_tup (sa_cons se_int sa_nil)) sa_nil)))
    ss_nil) ss_nil)
    (ss_cons (s_for pp rfl (si_enum rfl g.f_enumerate (se_ix rfl hu (se_v (i := 2)) se_int)) (sg_t rfl rfl (sgs_cons (sg_n nd__law_table_fault) (sgs_cons (sg_n nd__law_table_fault) sgs_nil))) (ss_cons (s_if (st_w (sw_or (st_not (st_val rfl (se_at (L.at_ 9) hr tk (sa_cons (se_v (i := 4)) (sa_cons (se_v (i := 1)) sa_nil))))) (sw_or1 (st_cmp (opp_in rfl hu) (se_v (i := 4)) (se_sl rfl (se_ix rfl hu (se_v (i := 2)) se_int) so_n (so_s (se_v (i := 3)))))))) (ss_cons (s_ret (se_lst (sa_cons (se_tup (sa_cons se_int sa_nil)) sa_nil)))
    ss_nil) ss_nil)
    ss_nil))
    (ss_cons (s_ret (se_if (st_val rfl (se_at (L.at_ 9) hr tk (sa_cons (se_ix rfl hu (se_v (i := 2)) se_int) (sa_cons (se_bin opp_shl se_int (se_bin opp_shl se_int (se_cb1 (cp_len rfl) g.f_len bt_len (se_ix rfl hu (se_v (i := 2)) se_int)))) sa_nil)))) (se_lst sa_nil) (se_lst (sa_cons (se_tup (sa_cons se_int sa_nil)) sa_nil))))
    ss_nil))))
def N__law_path : List Str := ["_law_value", "_law_told", "error"]
def P__law_path : List Str := ["_law_value"]
theorem nd__law_path : N__law_path.Nodup := by decide +kernel
theorem sc__law_path : FnScope N__law_path P__law_path (defScope s__law_path) := ⟨rfl, rfl, rfl, nd__law_path, rfl, by decide +kernel, by decide +kernel⟩
theorem b__law_path {n : Nat} (g : Fact pg w K mg base) (L : Lib w K mg base n) (hr : RoomG (n + 3) (A.deeper (PyProof.Rows.envOfC "_law_path" (defScope s__law_path) s.heap.objs.size f cdv))) :
  SS (Gk K) (fun C d _ H' => E C d H') (cxOf (L2.CX pg w) pg w K mg base N__law_path "_law_path" (defScope s__law_path) f cdv A outer s H E) (e__law_path (runP prog n)) (defBody s__law_path) := by
  have hu := hr.room.units
  have tk : Takes (cxOf (L2.CX pg w) pg w K mg base N__law_path "_law_path" (defScope s__law_path) f cdv A outer s H E) (fun C d _ H' => E C d H') := takes_of rfl rfl rfl rfl
  have pp : PassesOwn (model pg w) (cxOf (L2.CX pg w) pg w K mg base N__law_path "_law_path" (defScope s__law_path) f cdv A outer s H E).A (cxOf (L2.CX pg w) pg w K mg base N__law_path "_law_path" (defScope s__law_path) f cdv A outer s H E).env (cxOf (L2.CX pg w) pg w K mg base N__law_path "_law_path" (defScope s__law_path) f cdv A outer s H E).xe := passes_of rfl
  exact (ss_cons (s_try (fun _ _ _ z => z) rfl rfl nd__law_path ⟨rfl, by decide, .inl (g.e_BadNet).2.1⟩ tk (g.m_BadNet) (fun _ h => by cases h) (fun _ _ _ tk2 pp2 => (ss_cons (s_set nd__law_path (se_at (L.at_ 2) hr tk2 (sa_cons (se_v (i := 0)) sa_nil)))
    ss_nil)) (fun _ _ _ _ _ hz hd => (ss_cons (s_ret (se_lst (sa_cons (se_exF (g.x_BadNet).1 (g.x_BadNet).2 hz hd (se_v (i := 2))) sa_nil)))
    ss_nil)))
    (ss_cons (s_ret (se_if (st_isN (se_v (i := 1))) (se_lst sa_nil) (se_lst (sa_cons se_str sa_nil))))
    ss_nil))
def N_law : List Str := ["_law_script", "_law_source_here", "_law_turn", "_law_net", "_law_odd", "_law_look", "_law_value", "_law_seen", "_law_some"]
def P_law : List Str := ["_law_script"]
theorem nd_law : N_law.Nodup := by decide +kernel
theorem sc_law : FnScope N_law P_law (defScope s_law) := ⟨rfl, rfl, rfl, nd_law, rfl, by decide +kernel, by decide +kernel⟩
theorem b_law {n : Nat} (g : Fact pg w K mg base) (L : Lib w K mg base n) (hr : RoomG (n + 3) (A.deeper (PyProof.Rows.envOfC "law" (defScope s_law) s.heap.objs.size f cdv))) :
  SS (Gk K) (fun C d _ H' => E C d H') (cxOf (L2.CX pg w) pg w K mg base N_law "law" (defScope s_law) f cdv A outer s H E) (e_law (runP prog n)) (defBody s_law) := by
  have hu := hr.room.units
  have tk : Takes (cxOf (L2.CX pg w) pg w K mg base N_law "law" (defScope s_law) f cdv A outer s H E) (fun C d _ H' => E C d H') := takes_of rfl rfl rfl rfl
  have pp : PassesOwn (model pg w) (cxOf (L2.CX pg w) pg w K mg base N_law "law" (defScope s_law) f cdv A outer s H E).A (cxOf (L2.CX pg w) pg w K mg base N_law "law" (defScope s_law) f cdv A outer s H E).env (cxOf (L2.CX pg w) pg w K mg base N_law "law" (defScope s_law) f cdv A outer s H E).xe := passes_of rfl
  exact (ss_cons (s_set nd_law (se_at (L.at_ 5) hr tk (sa_cons (se_v (i := 0)) sa_nil)))
    (ss_cons (s_for pp rfl (si_rng1 g.f_range se_int) (sg_n nd_law) (ss_cons (s_set nd_law (se_at (L.at_ 10) hr tk (sa_cons (se_v (i := 1)) (sa_cons (se_bin (opp_add rfl) se_int (se_at (L.at_ 6) hr tk (sa_cons (se_v (i := 1)) (sa_cons se_int sa_nil)))) (sa_cons se_int (sa_cons se_int (sa_cons se_int sa_nil)))))))
    (ss_cons (s_if (st_w (sw_or (st_cmp (opp_ne rfl hu) (se_at (L.at_ 15) hr tk (sa_cons (se_v (i := 3)) sa_nil)) (se_lst sa_nil)) (sw_or1 (st_cmp (opp_ne rfl hu) (se_at (L.at_ 13) hr tk (sa_cons (se_v (i := 3)) sa_nil)) (se_lst sa_nil))))) (ss_cons (s_ret se_bl)
    ss_nil) ss_nil)
    (ss_cons (s_set nd_law (se_lst (sa_cons se_non (sa_cons se_bl (sa_cons se_bl (sa_cons (se_neg se_int) (sa_cons se_int (sa_cons se_int (sa_cons se_int (sa_cons se_int (sa_cons (se_bin opp_pow se_int se_int) (sa_cons se_str (sa_cons se_str (sa_cons (se_tup sa_nil) (sa_cons (se_lst sa_nil) (sa_cons se_dct0 (sa_cons (se_tup (sa_cons se_int sa_nil)) (sa_cons (se_tup (sa_cons se_int (sa_cons se_int sa_nil))) (sa_cons (se_tup (sa_cons (se_tup sa_nil) (sa_cons se_int sa_nil))) (sa_cons (se_tup (sa_cons (se_tup (sa_cons se_int sa_nil)) (sa_cons se_int sa_nil))) (sa_cons (se_v (i := 3)) sa_nil)))))))))))))))))))))
    (ss_cons (s_for pp rfl (si_rng1 g.f_range se_int) (sg_n nd_law) (ss_cons (s_set nd_law (se_at (L.at_ 11) hr tk (sa_cons (se_v (i := 1)) (sa_cons (se_v (i := 3)) (sa_cons (se_v (i := 4)) sa_nil)))))
    (ss_cons (s_set nd_law (se_if (st_cmp opp_gt (se_v (i := 5)) se_int) (se_at (L.at_ 11) hr tk (sa_cons (se_v (i := 1)) (sa_cons (se_v (i := 6)) (sa_cons (se_v (i := 4)) sa_nil)))) (se_v (i := 6))))
    (ss_cons (s_set nd_law (se_cb1 (cp_repr rfl hu hr.gd (sys_none g.sys)) g.f_repr bt_repr (se_v (i := 6))))
    (ss_cons (s_if (st_w (sw_or (st_cmp (opp_ne rfl hu) (se_cb1 (cp_repr rfl hu hr.gd (sys_none g.sys)) g.f_repr bt_repr (se_at (L.at_ 15) hr tk (sa_cons (se_v (i := 6)) sa_nil))) (se_cb1 (cp_repr rfl hu hr.gd (sys_none g.sys)) g.f_repr bt_repr (se_at (L.at_ 13) hr tk (sa_cons (se_v (i := 6)) sa_nil)))) (sw_or1 (st_cmp (opp_ne rfl hu) (se_cb1 (cp_repr rfl hu hr.gd (sys_none g.sys)) g.f_repr bt_repr (se_v (i := 6))) (se_v (i := 7)))))) (ss_cons (s_ret se_bl)
    ss_nil) ss_nil)
    ss_nil)))))
    ss_nil)))))
    (ss_cons (s_set nd_law (se_lst (sa_cons (se_tup (sa_cons se_int (sa_cons se_int (sa_cons (se_tup sa_nil) (sa_cons (se_tup (sa_cons (se_tup (sa_cons (se_tup sa_nil) (sa_cons se_int sa_nil))) (sa_cons (se_tup (sa_cons (se_tup sa_nil) (sa_cons se_int sa_nil))) sa_nil))) (sa_cons (se_tup sa_nil) sa_nil)))))) (sa_cons (se_tup (sa_cons se_int (sa_cons se_int (sa_cons (se_tup (sa_cons (se_tup (sa_cons se_int (sa_cons se_int sa_nil))) sa_nil)) (sa_cons (se_tup sa_nil) (sa_cons (se_tup (sa_cons se_int sa_nil)) sa_nil)))))) (sa_cons (se_tup (sa_cons se_int (sa_cons se_int (sa_cons (se_tup (sa_cons (se_tup (sa_cons se_int (sa_cons se_int sa_nil))) sa_nil)) (sa_cons (se_tup sa_nil) (sa_cons (se_tup (sa_cons se_int sa_nil)) sa_nil)))))) sa_nil)))))
    (ss_cons (s_set nd_law (se_bin (opp_add rfl) (se_v (i := 8)) (se_lst (sa_cons (se_tup (sa_cons se_int (sa_cons se_int (sa_cons (se_tup sa_nil) (sa_cons (se_tup sa_nil) (sa_cons (se_tup sa_nil) sa_nil)))))) (sa_cons (se_tup (sa_cons se_int (sa_cons se_int (sa_cons (se_tup sa_nil) (sa_cons (se_tup (sa_cons (se_tup (sa_cons (se_tup (sa_cons se_int (sa_cons se_int sa_nil))) (sa_cons se_int sa_nil))) sa_nil)) (sa_cons (se_tup sa_nil) sa_nil)))))) (sa_cons (se_tup (sa_cons se_int (sa_cons se_int (sa_cons (se_tup sa_nil) (sa_cons (se_tup (sa_cons (se_tup (sa_cons (se_tup (sa_cons se_int (sa_cons se_int (sa_cons se_int sa_nil)))) (sa_cons se_int sa_nil))) sa_nil)) (sa_cons (se_tup (sa_cons se_int sa_nil)) sa_nil)))))) sa_nil))))))
    (ss_cons (s_ret (se_cmp (opp_eq rfl hu) (se_lc rfl nd_law (si_seq rfl (se_v (i := 8))) (blkOk_by (own := [("_law_net", 3)]) (by kernel_rfl)) (is := [3]) (fun _ _ _ _ _ => (sh_n nd_law)) (fun _ _ _ _ _ => sts_nil) (fun _ _ _ _ _ => (se_at (L.at_ 15) hr takes_shut (sa_cons (se_v (i := 3)) sa_nil)))) (se_lst (sa_cons (se_lst (sa_cons (se_tup (sa_cons se_int (sa_cons se_int (sa_cons se_int sa_nil)))) sa_nil)) (sa_cons (se_lst (sa_cons (se_tup (sa_cons se_int (sa_cons se_int (sa_cons se_int sa_nil)))) sa_nil)) (sa_cons (se_lst sa_nil) (sa_cons (se_lst (sa_cons (se_tup (sa_cons se_int sa_nil)) sa_nil)) (sa_cons (se_lst (sa_cons (se_tup (sa_cons se_int (sa_cons se_int (sa_cons se_int sa_nil)))) sa_nil)) (sa_cons (se_lst (sa_cons (se_tup (sa_cons se_int (sa_cons se_int (sa_cons se_int sa_nil)))) sa_nil)) sa_nil)))))))))
    ss_nil)))))
end
end K51
end
section
set_option Elab.async false
set_option linter.all false
set_option autoImplicit false
set_option maxRecDepth 100000
set_option maxHeartbeats 4000000
namespace K51
open PySem PySem.Spec PyProof.Rows L2 Ev
section
variable {w : World} {K : PySem.W.Frag} {mg : Str → Option Value} {base : Heap}
theorem is_BadNet : InitScope ["self", "path"] (defScope i_BadNet) := by
  refine ⟨rfl, rfl, rfl, by decide +kernel, by decide +kernel, by decide +kernel, fun x h => ?_, rfl, rfl⟩
  have all : ∀ y ∈ (defScope i_BadNet).names, y.2 = .free → y.1 = "__class__" := by decide +kernel
  exact all _ (PySem.mem_of_lookup h) rfl
theorem err_BadNet (c : SaysL pg fa fn ins xfs K) (X : K.In base) (N : base.Ns mainGlobals mg) : ErrAt pg w K mg base (Gk K) 0 "BadNet" "path" .tuple := by
  have i := c.init 0 (d := n_BadNet)
  obtain ⟨T, fI, fd, cc, cda, iC, tI, F⟩ := initB_ok i.1 i.2 c.any c.sup (by decide +kernel)
  have ht : mg "tuple" = none := He.free_ok X N (c.d.fact 32 (f := .free "tuple") rfl)
  refine ⟨T, He.glo_ok X N (c.d.fact 18 (f := .glo "BadNet") rfl), fI, fd, "self", "path", iC, tI, ?_, binds_init F (fun _ _ _ _ _ us hl => match us, hl with | [_, _], _ => rfl)⟩
  exact init_ok F T is_BadNet rfl ⟨_, rfl, rfl⟩ (c.xf 0 (q := ("BadNet", "path"))).2 (by decide +kernel) (by decide +kernel) (fun _ _ _ _ => (se_ct1 (cp_tuple rfl) ht bt_tuple (se_v (i := 1)))) mono_tE (fun _ => rfl) (fun _ => rfl) (fun _ => ⟨_, rfl⟩)
theorem facts (c : SaysL pg fa fn ins xfs K) (X : K.In base) (N : base.Ns mainGlobals mg) : Fact pg w K mg base where
  f_abs := He.free_ok X N (c.d.fact 20 (f := .free "abs") rfl)
  f_bool := He.free_ok X N (c.d.fact 21 (f := .free "bool") rfl)
  f_enumerate := He.free_ok X N (c.d.fact 22 (f := .free "enumerate") rfl)
  f_int := He.free_ok X N (c.d.fact 23 (f := .free "int") rfl)
  f_isinstance := He.free_ok X N (c.d.fact 24 (f := .free "isinstance") rfl)
  f_len := He.free_ok X N (c.d.fact 25 (f := .free "len") rfl)
  f_list := He.free_ok X N (c.d.fact 26 (f := .free "list") rfl)
  f_max := He.free_ok X N (c.d.fact 27 (f := .free "max") rfl)
  f_min := He.free_ok X N (c.d.fact 28 (f := .free "min") rfl)
  f_range := He.free_ok X N (c.d.fact 29 (f := .free "range") rfl)
  f_repr := He.free_ok X N (c.d.fact 30 (f := .free "repr") rfl)
  f_tuple := He.free_ok X N (c.d.fact 32 (f := .free "tuple") rfl)
  sys := c.sys
  e_BadNet := err_BadNet c X N
  x_BadNet := c.xf 0 (q := ("BadNet", "path"))
  m_BadNet := (c.exm 0 0 (q := ("BadNet", "path")) (r := ("BadNet", "path"))).trans (by rw [decide_eq_true rfl])
theorem lib0 (c : SaysL pg fa fn ins xfs K) (X : K.In base) (N : base.Ns mainGlobals mg) : Lib w K mg base 0 := ⟨by
  have h0 : FnAt pg w K mg base (Gk K) prog 0 0 "is_number" P_is_number := by
    obtain ⟨fd, D⟩ := c.d.def_ 0 (d := d_is_number)
    exact ⟨_, fd, fn0, D.bindsN fun _ _ _ _ _ _ us hl => match us, hl with | [_, _, _], _ => rfl, D.kp, He.glo_ok X N (c.d.fact 0 (f := .glo "is_number") rfl), fun_at D⟩
  have h1 : FnAt pg w K mg base (Gk K) prog 0 1 "is_tuple_of" P_is_tuple_of := by
    obtain ⟨fd, D⟩ := c.d.def_ 1 (d := d_is_tuple_of)
    exact ⟨_, fd, fn0, D.bindsN fun _ _ _ _ _ _ us hl => match us, hl with | [_, _], _ => rfl, D.kp, He.glo_ok X N (c.d.fact 1 (f := .glo "is_tuple_of") rfl), fun_at D⟩
  have h2 : FnAt pg w K mg base (Gk K) prog 0 2 "check_net" P_check_net := by
    obtain ⟨fd, D⟩ := c.d.def_ 2 (d := d_check_net)
    exact ⟨_, fd, fn0, D.bindsN fun _ _ _ _ _ _ us hl => match us, hl with | [_], _ => rfl, D.kp, He.glo_ok X N (c.d.fact 2 (f := .glo "check_net") rfl), fun_at D⟩
  have h3 : FnAt pg w K mg base (Gk K) prog 0 3 "check_table" P_check_table := by
    obtain ⟨fd, D⟩ := c.d.def_ 3 (d := d_check_table)
    exact ⟨_, fd, fn0, D.bindsN fun _ _ _ _ _ _ us hl => match us, hl with | [_, _, _, _], _ => rfl, D.kp, He.glo_ok X N (c.d.fact 3 (f := .glo "check_table") rfl), fun_at D⟩
  have h4 : FnAt pg w K mg base (Gk K) prog 0 4 "power_of_two" P_power_of_two := by
    obtain ⟨fd, D⟩ := c.d.def_ 4 (d := d_power_of_two)
    exact ⟨_, fd, fn0, D.bindsN fun _ _ _ _ _ _ us hl => match us, hl with | [_], _ => rfl, D.kp, He.glo_ok X N (c.d.fact 4 (f := .glo "power_of_two") rfl), fun_at D⟩
  have h5 : FnAt pg w K mg base (Gk K) prog 0 5 "_law_source" P__law_source := by
    obtain ⟨fd, D⟩ := c.d.def_ 5 (d := d__law_source)
    exact ⟨_, fd, fn0, D.bindsN fun _ _ _ _ _ _ us hl => match us, hl with | [_], _ => rfl, D.kp, He.glo_ok X N (c.d.fact 5 (f := .glo "_law_source") rfl), fun_at D⟩
  have h6 : FnAt pg w K mg base (Gk K) prog 0 6 "_law_pick" P__law_pick := by
    obtain ⟨fd, D⟩ := c.d.def_ 6 (d := d__law_pick)
    exact ⟨_, fd, fn0, D.bindsN fun _ _ _ _ _ _ us hl => match us, hl with | [_, _], _ => rfl, D.kp, He.glo_ok X N (c.d.fact 6 (f := .glo "_law_pick") rfl), fun_at D⟩
  have h7 : FnAt pg w K mg base (Gk K) prog 0 7 "_law_of" P__law_of := by
    obtain ⟨fd, D⟩ := c.d.def_ 7 (d := d__law_of)
    exact ⟨_, fd, fn0, D.bindsN fun _ _ _ _ _ _ us hl => match us, hl with | [_, _], _ => rfl, D.kp, He.glo_ok X N (c.d.fact 7 (f := .glo "_law_of") rfl), fun_at D⟩
  have h8 : FnAt pg w K mg base (Gk K) prog 0 8 "_law_mixed" P__law_mixed := by
    obtain ⟨fd, D⟩ := c.d.def_ 8 (d := d__law_mixed)
    exact ⟨_, fd, fn0, D.bindsN fun _ _ _ _ _ _ us hl => match us, hl with | [_, _], _ => rfl, D.kp, He.glo_ok X N (c.d.fact 8 (f := .glo "_law_mixed") rfl), fun_at D⟩
  have h9 : FnAt pg w K mg base (Gk K) prog 0 9 "_law_is_below" P__law_is_below := by
    obtain ⟨fd, D⟩ := c.d.def_ 9 (d := d__law_is_below)
    exact ⟨_, fd, fn0, D.bindsN fun _ _ _ _ _ _ us hl => match us, hl with | [_, _], _ => rfl, D.kp, He.glo_ok X N (c.d.fact 9 (f := .glo "_law_is_below") rfl), fun_at D⟩
  have h10 : FnAt pg w K mg base (Gk K) prog 0 10 "_law_draw_net" P__law_draw_net := by
    obtain ⟨fd, D⟩ := c.d.def_ 10 (d := d__law_draw_net)
    exact ⟨_, fd, fn0, D.bindsN fun _ _ _ _ _ _ us hl => match us, hl with | [_, _, _, _, _], _ => rfl, D.kp, He.glo_ok X N (c.d.fact 10 (f := .glo "_law_draw_net") rfl), fun_at D⟩
  have h11 : FnAt pg w K mg base (Gk K) prog 0 11 "_law_bent" P__law_bent := by
    obtain ⟨fd, D⟩ := c.d.def_ 11 (d := d__law_bent)
    exact ⟨_, fd, fn0, D.bindsN fun _ _ _ _ _ _ us hl => match us, hl with | [_, _, _], _ => rfl, D.kp, He.glo_ok X N (c.d.fact 11 (f := .glo "_law_bent") rfl), fun_at D⟩
  have h12 : FnAt pg w K mg base (Gk K) prog 0 12 "_law_is_pair" P__law_is_pair := by
    obtain ⟨fd, D⟩ := c.d.def_ 12 (d := d__law_is_pair)
    exact ⟨_, fd, fn0, D.bindsN fun _ _ _ _ _ _ us hl => match us, hl with | [_], _ => rfl, D.kp, He.glo_ok X N (c.d.fact 12 (f := .glo "_law_is_pair") rfl), fun_at D⟩
  have h13 : FnAt pg w K mg base (Gk K) prog 0 13 "_law_net_fault" P__law_net_fault := by
    obtain ⟨fd, D⟩ := c.d.def_ 13 (d := d__law_net_fault)
    exact ⟨_, fd, fn0, D.bindsN fun _ _ _ _ _ _ us hl => match us, hl with | [_], _ => rfl, D.kp, He.glo_ok X N (c.d.fact 13 (f := .glo "_law_net_fault") rfl), fun_at D⟩
  have h14 : FnAt pg w K mg base (Gk K) prog 0 14 "_law_table_fault" P__law_table_fault := by
    obtain ⟨fd, D⟩ := c.d.def_ 14 (d := d__law_table_fault)
    exact ⟨_, fd, fn0, D.bindsN fun _ _ _ _ _ _ us hl => match us, hl with | [_, _, _], _ => rfl, D.kp, He.glo_ok X N (c.d.fact 14 (f := .glo "_law_table_fault") rfl), fun_at D⟩
  have h15 : FnAt pg w K mg base (Gk K) prog 0 15 "_law_path" P__law_path := by
    obtain ⟨fd, D⟩ := c.d.def_ 15 (d := d__law_path)
    exact ⟨_, fd, fn0, D.bindsN fun _ _ _ _ _ _ us hl => match us, hl with | [_], _ => rfl, D.kp, He.glo_ok X N (c.d.fact 15 (f := .glo "_law_path") rfl), fun_at D⟩
  have h16 : FnAt pg w K mg base (Gk K) prog 0 16 "law" P_law := by
    obtain ⟨fd, D⟩ := c.d.def_ 16 (d := d_law)
    exact ⟨_, fd, fn0, D.bindsN fun _ _ _ _ _ _ us hl => match us, hl with | [_], _ => rfl, D.kp, He.glo_ok X N (c.d.fact 16 (f := .glo "law") rfl), fun_at D⟩
  intro q hq
  simp only [tbl, List.mem_cons, List.not_mem_nil, or_false] at hq
  rcases hq with rfl | rfl | rfl | rfl | rfl | rfl | rfl | rfl | rfl | rfl | rfl | rfl | rfl | rfl | rfl | rfl | rfl
  · exact h0
  · exact h1
  · exact h2
  · exact h3
  · exact h4
  · exact h5
  · exact h6
  · exact h7
  · exact h8
  · exact h9
  · exact h10
  · exact h11
  · exact h12
  · exact h13
  · exact h14
  · exact h15
  · exact h16⟩
theorem libS {n : Nat} (c : SaysL pg fa fn ins xfs K) (X : K.In base) (N : base.Ns mainGlobals mg) (L : Lib w K mg base n) : Lib w K mg base (n + 1) := ⟨by
  have g := facts (w := w) c X N
  have h0 : FnAt pg w K mg base (Gk K) prog (n + 1) 0 "is_number" P_is_number := by
    obtain ⟨fd, D⟩ := c.d.def_ 0 (d := d_is_number)
    exact ⟨_, fd, fn_run (prog := prog) (i := 0) (g := ⟨P_is_number.length, N_is_number.length, e_is_number (runP prog n)⟩) D sc_is_number rfl rfl rfl (fun _ _ _ _ _ _ hr => b_is_number g L hr), D.bindsN fun _ _ _ _ _ _ us hl => match us, hl with | [_, _, _], _ => rfl, D.kp, He.glo_ok X N (c.d.fact 0 (f := .glo "is_number") rfl), fun_at D⟩
  have h1 : FnAt pg w K mg base (Gk K) prog (n + 1) 1 "is_tuple_of" P_is_tuple_of := by
    obtain ⟨fd, D⟩ := c.d.def_ 1 (d := d_is_tuple_of)
    exact ⟨_, fd, fn_run (prog := prog) (i := 1) (g := ⟨P_is_tuple_of.length, N_is_tuple_of.length, e_is_tuple_of (runP prog n)⟩) D sc_is_tuple_of rfl rfl rfl (fun _ _ _ _ _ _ hr => b_is_tuple_of g L hr), D.bindsN fun _ _ _ _ _ _ us hl => match us, hl with | [_, _], _ => rfl, D.kp, He.glo_ok X N (c.d.fact 1 (f := .glo "is_tuple_of") rfl), fun_at D⟩
  have h2 : FnAt pg w K mg base (Gk K) prog (n + 1) 2 "check_net" P_check_net := by
    obtain ⟨fd, D⟩ := c.d.def_ 2 (d := d_check_net)
    exact ⟨_, fd, fn_run (prog := prog) (i := 2) (g := ⟨P_check_net.length, N_check_net.length, e_check_net (runP prog n)⟩) D sc_check_net rfl rfl rfl (fun _ _ _ _ _ _ hr => b_check_net g L hr), D.bindsN fun _ _ _ _ _ _ us hl => match us, hl with | [_], _ => rfl, D.kp, He.glo_ok X N (c.d.fact 2 (f := .glo "check_net") rfl), fun_at D⟩
  have h3 : FnAt pg w K mg base (Gk K) prog (n + 1) 3 "check_table" P_check_table := by
    obtain ⟨fd, D⟩ := c.d.def_ 3 (d := d_check_table)
    exact ⟨_, fd, fn_run (prog := prog) (i := 3) (g := ⟨P_check_table.length, N_check_table.length, e_check_table (runP prog n)⟩) D sc_check_table rfl rfl rfl (fun _ _ _ _ _ _ hr => b_check_table g L hr), D.bindsN fun _ _ _ _ _ _ us hl => match us, hl with | [_, _, _, _], _ => rfl, D.kp, He.glo_ok X N (c.d.fact 3 (f := .glo "check_table") rfl), fun_at D⟩
  have h4 : FnAt pg w K mg base (Gk K) prog (n + 1) 4 "power_of_two" P_power_of_two := by
    obtain ⟨fd, D⟩ := c.d.def_ 4 (d := d_power_of_two)
    exact ⟨_, fd, fn_run (prog := prog) (i := 4) (g := ⟨P_power_of_two.length, N_power_of_two.length, e_power_of_two (runP prog n)⟩) D sc_power_of_two rfl rfl rfl (fun _ _ _ _ _ _ hr => b_power_of_two g L hr), D.bindsN fun _ _ _ _ _ _ us hl => match us, hl with | [_], _ => rfl, D.kp, He.glo_ok X N (c.d.fact 4 (f := .glo "power_of_two") rfl), fun_at D⟩
  have h5 : FnAt pg w K mg base (Gk K) prog (n + 1) 5 "_law_source" P__law_source := by
    obtain ⟨fd, D⟩ := c.d.def_ 5 (d := d__law_source)
    exact ⟨_, fd, fn_run (prog := prog) (i := 5) (g := ⟨P__law_source.length, N__law_source.length, e__law_source (runP prog n)⟩) D sc__law_source rfl rfl rfl (fun _ _ _ _ _ _ hr => b__law_source g L hr), D.bindsN fun _ _ _ _ _ _ us hl => match us, hl with | [_], _ => rfl, D.kp, He.glo_ok X N (c.d.fact 5 (f := .glo "_law_source") rfl), fun_at D⟩
  have h6 : FnAt pg w K mg base (Gk K) prog (n + 1) 6 "_law_pick" P__law_pick := by
    obtain ⟨fd, D⟩ := c.d.def_ 6 (d := d__law_pick)
    exact ⟨_, fd, fn_run (prog := prog) (i := 6) (g := ⟨P__law_pick.length, N__law_pick.length, e__law_pick (runP prog n)⟩) D sc__law_pick rfl rfl rfl (fun _ _ _ _ _ _ hr => b__law_pick g L hr), D.bindsN fun _ _ _ _ _ _ us hl => match us, hl with | [_, _], _ => rfl, D.kp, He.glo_ok X N (c.d.fact 6 (f := .glo "_law_pick") rfl), fun_at D⟩
  have h7 : FnAt pg w K mg base (Gk K) prog (n + 1) 7 "_law_of" P__law_of := by
    obtain ⟨fd, D⟩ := c.d.def_ 7 (d := d__law_of)
    exact ⟨_, fd, fn_run (prog := prog) (i := 7) (g := ⟨P__law_of.length, N__law_of.length, e__law_of (runP prog n)⟩) D sc__law_of rfl rfl rfl (fun _ _ _ _ _ _ hr => b__law_of g L hr), D.bindsN fun _ _ _ _ _ _ us hl => match us, hl with | [_, _], _ => rfl, D.kp, He.glo_ok X N (c.d.fact 7 (f := .glo "_law_of") rfl), fun_at D⟩
  have h8 : FnAt pg w K mg base (Gk K) prog (n + 1) 8 "_law_mixed" P__law_mixed := by
    obtain ⟨fd, D⟩ := c.d.def_ 8 (d := d__law_mixed)
    exact ⟨_, fd, fn_run (prog := prog) (i := 8) (g := ⟨P__law_mixed.length, N__law_mixed.length, e__law_mixed (runP prog n)⟩) D sc__law_mixed rfl rfl rfl (fun _ _ _ _ _ _ hr => b__law_mixed g L hr), D.bindsN fun _ _ _ _ _ _ us hl => match us, hl with | [_, _], _ => rfl, D.kp, He.glo_ok X N (c.d.fact 8 (f := .glo "_law_mixed") rfl), fun_at D⟩
  have h9 : FnAt pg w K mg base (Gk K) prog (n + 1) 9 "_law_is_below" P__law_is_below := by
    obtain ⟨fd, D⟩ := c.d.def_ 9 (d := d__law_is_below)
    exact ⟨_, fd, fn_run (prog := prog) (i := 9) (g := ⟨P__law_is_below.length, N__law_is_below.length, e__law_is_below (runP prog n)⟩) D sc__law_is_below rfl rfl rfl (fun _ _ _ _ _ _ hr => b__law_is_below g L hr), D.bindsN fun _ _ _ _ _ _ us hl => match us, hl with | [_, _], _ => rfl, D.kp, He.glo_ok X N (c.d.fact 9 (f := .glo "_law_is_below") rfl), fun_at D⟩
  have h10 : FnAt pg w K mg base (Gk K) prog (n + 1) 10 "_law_draw_net" P__law_draw_net := by
    obtain ⟨fd, D⟩ := c.d.def_ 10 (d := d__law_draw_net)
    exact ⟨_, fd, fn_run (prog := prog) (i := 10) (g := ⟨P__law_draw_net.length, N__law_draw_net.length, e__law_draw_net (runP prog n)⟩) D sc__law_draw_net rfl rfl rfl (fun _ _ _ _ _ _ hr => b__law_draw_net g L hr), D.bindsN fun _ _ _ _ _ _ us hl => match us, hl with | [_, _, _, _, _], _ => rfl, D.kp, He.glo_ok X N (c.d.fact 10 (f := .glo "_law_draw_net") rfl), fun_at D⟩
  have h11 : FnAt pg w K mg base (Gk K) prog (n + 1) 11 "_law_bent" P__law_bent := by
    obtain ⟨fd, D⟩ := c.d.def_ 11 (d := d__law_bent)
    exact ⟨_, fd, fn_run (prog := prog) (i := 11) (g := ⟨P__law_bent.length, N__law_bent.length, e__law_bent (runP prog n)⟩) D sc__law_bent rfl rfl rfl (fun _ _ _ _ _ _ hr => b__law_bent g L hr), D.bindsN fun _ _ _ _ _ _ us hl => match us, hl with | [_, _, _], _ => rfl, D.kp, He.glo_ok X N (c.d.fact 11 (f := .glo "_law_bent") rfl), fun_at D⟩
  have h12 : FnAt pg w K mg base (Gk K) prog (n + 1) 12 "_law_is_pair" P__law_is_pair := by
    obtain ⟨fd, D⟩ := c.d.def_ 12 (d := d__law_is_pair)
    exact ⟨_, fd, fn_run (prog := prog) (i := 12) (g := ⟨P__law_is_pair.length, N__law_is_pair.length, e__law_is_pair (runP prog n)⟩) D sc__law_is_pair rfl rfl rfl (fun _ _ _ _ _ _ hr => b__law_is_pair g L hr), D.bindsN fun _ _ _ _ _ _ us hl => match us, hl with | [_], _ => rfl, D.kp, He.glo_ok X N (c.d.fact 12 (f := .glo "_law_is_pair") rfl), fun_at D⟩
  have h13 : FnAt pg w K mg base (Gk K) prog (n + 1) 13 "_law_net_fault" P__law_net_fault := by
    obtain ⟨fd, D⟩ := c.d.def_ 13 (d := d__law_net_fault)
    exact ⟨_, fd, fn_run (prog := prog) (i := 13) (g := ⟨P__law_net_fault.length, N__law_net_fault.length, e__law_net_fault (runP prog n)⟩) D sc__law_net_fault rfl rfl rfl (fun _ _ _ _ _ _ hr => b__law_net_fault g L hr), D.bindsN fun _ _ _ _ _ _ us hl => match us, hl with | [_], _ => rfl, D.kp, He.glo_ok X N (c.d.fact 13 (f := .glo "_law_net_fault") rfl), fun_at D⟩
  have h14 : FnAt pg w K mg base (Gk K) prog (n + 1) 14 "_law_table_fault" P__law_table_fault := by
    obtain ⟨fd, D⟩ := c.d.def_ 14 (d := d__law_table_fault)
    exact ⟨_, fd, fn_run (prog := prog) (i := 14) (g := ⟨P__law_table_fault.length, N__law_table_fault.length, e__law_table_fault (runP prog n)⟩) D sc__law_table_fault rfl rfl rfl (fun _ _ _ _ _ _ hr => b__law_table_fault g L hr), D.bindsN fun _ _ _ _ _ _ us hl => match us, hl with | [_, _, _], _ => rfl, D.kp, He.glo_ok X N (c.d.fact 14 (f := .glo "_law_table_fault") rfl), fun_at D⟩
  have h15 : FnAt pg w K mg base (Gk K) prog (n + 1) 15 "_law_path" P__law_path := by
    obtain ⟨fd, D⟩ := c.d.def_ 15 (d := d__law_path)
    exact ⟨_, fd, fn_run (prog := prog) (i := 15) (g := ⟨P__law_path.length, N__law_path.length, e__law_path (runP prog n)⟩) D sc__law_path rfl rfl rfl (fun _ _ _ _ _ _ hr => b__law_path g L hr), D.bindsN fun _ _ _ _ _ _ us hl => match us, hl with | [_], _ => rfl, D.kp, He.glo_ok X N (c.d.fact 15 (f := .glo "_law_path") rfl), fun_at D⟩
  have h16 : FnAt pg w K mg base (Gk K) prog (n + 1) 16 "law" P_law := by
    obtain ⟨fd, D⟩ := c.d.def_ 16 (d := d_law)
    exact ⟨_, fd, fn_run (prog := prog) (i := 16) (g := ⟨P_law.length, N_law.length, e_law (runP prog n)⟩) D sc_law rfl rfl rfl (fun _ _ _ _ _ _ hr => b_law g L hr), D.bindsN fun _ _ _ _ _ _ us hl => match us, hl with | [_], _ => rfl, D.kp, He.glo_ok X N (c.d.fact 16 (f := .glo "law") rfl), fun_at D⟩
  intro q hq
  simp only [tbl, List.mem_cons, List.not_mem_nil, or_false] at hq
  rcases hq with rfl | rfl | rfl | rfl | rfl | rfl | rfl | rfl | rfl | rfl | rfl | rfl | rfl | rfl | rfl | rfl | rfl
  · exact h0
  · exact h1
  · exact h2
  · exact h3
  · exact h4
  · exact h5
  · exact h6
  · exact h7
  · exact h8
  · exact h9
  · exact h10
  · exact h11
  · exact h12
  · exact h13
  · exact h14
  · exact h15
  · exact h16⟩
theorem lib (c : SaysL pg fa fn ins xfs K) (X : K.In base) (N : base.Ns mainGlobals mg) : ∀ n : Nat, Lib w K mg base n
  | 0 => lib0 c X N
  | n + 1 => libS c X N (lib c X N n)
end
end K51
end
section
set_option linter.all false
set_option autoImplicit false
set_option maxRecDepth 100000
set_option maxHeartbeats 1000000
namespace Ev
open PySem L2
theorem fin_same (s : Store) (x : Val) : fin s x s = (x, s) := by unfold fin; rw [if_pos rfl]
/-! ### the source of choices -/
/-- the source: its cells at 0, the dict at 1 -/
def srcD (l m t : Nat) : Obj := .dct [(.inr "cells", .loc 0), (.inr "left", .d (.int l)), (.inr "mixed", .d (.int m)), (.inr "turn", .d (.int t))]
def src (cs : List Nat) (l m t : Nat) (r : Store) : Store := .lst (cs.map fun (n : Nat) => D.int (n : Int)) :: srcD l m t :: r
theorem ix_cells (cs : List Nat) (l m t : Nat) (r : Store) : pIx (.loc 1) (.d (.str "cells")) (src cs l m t r) = .ok (.loc 0) (src cs l m t r) := by rfl
theorem ix_left (cs : List Nat) (l m t : Nat) (r : Store) : pIx (.loc 1) (.d (.str "left")) (src cs l m t r) = .ok (.d (.int l)) (src cs l m t r) := by rfl
theorem ix_mixed (cs : List Nat) (l m t : Nat) (r : Store) : pIx (.loc 1) (.d (.str "mixed")) (src cs l m t r) = .ok (.d (.int m)) (src cs l m t r) := by rfl
theorem ix_turn (cs : List Nat) (l m t : Nat) (r : Store) : pIx (.loc 1) (.d (.str "turn")) (src cs l m t r) = .ok (.d (.int t)) (src cs l m t r) := by rfl
theorem put_left (cs : List Nat) (l m t : Nat) (r : Store) (x : Nat) : pPut (.loc 1) (.d (.str "left")) (.d (.int x)) (src cs l m t r) = some (src cs x m t r) := by rfl
theorem put_mixed (cs : List Nat) (l m t : Nat) (r : Store) (x : Nat) : pPut (.loc 1) (.d (.str "mixed")) (.d (.int x)) (src cs l m t r) = some (src cs l x t r) := by rfl
theorem put_turn (cs : List Nat) (l m t : Nat) (r : Store) (x : Nat) : pPut (.loc 1) (.d (.str "turn")) (.d (.int x)) (src cs l m t r) = some (src cs l m x r) := by rfl
theorem len_cells (cs : List Nat) (l m t : Nat) (r : Store) : pLen (.loc 0) (src cs l m t r) = .ok (.d (.int cs.length)) (src cs l m t r) := by
  show Res.ok (Val.d (D.int ((cs.map fun (n : Nat) => D.int (n : Int)).length : Nat))) _ = _
  rw [List.length_map]
theorem pop_cells (cs : List Nat) (x l m t : Nat) (r : Store) : pPop (.loc 0) (src (cs ++ [x]) l m t r) = .ok (.d (.int x)) (src cs l m t r) := by
  simp [pPop, src]
theorem isL_cells (cs : List Nat) (l m t : Nat) (r : Store) : isL (.loc 0) (src cs l m t r) = true := rfl
def pickC : BC := band (bb (e2 pGt (v 1) (k (.int 1)))) (band (bb (e2 pLt (e2 pIx (v 0) (k (.str "left"))) (k (.int 2)))) (bb (e2 pGt (e1 pLen (e2 pIx (v 0) (k (.str "cells")))) (k (.int 0)))))
def pickL : SC := sq (sSet (ti (v 0) (k (.str "left"))) (m0 pPop (e2 pIx (v 0) (k (.str "cells"))))) sNil
noncomputable def pickB : SC := sq (sWhl pickC pickL) (sq (sSet (tn 2) (e2 pIx (v 0) (k (.str "left")))) (sq (sIf (bor (bb (e2 pLt (v 1) (k (.int 2)))) (bb (e2 pGt (v 2) (k (.int 1))))) (sq (sSet (ti (v 0) (k (.str "left"))) (e2 pDiv (v 2) (e2 pMax (k (.int 1)) (v 1)))) (sq (sRet (e2 pMod (e1 pInt (v 2)) (e2 pMax (k (.int 1)) (v 1)))) (sNil))) (sNil)) (sq (sSet (ti (v 0) (k (.str "turn"))) (e2 pAdd (e2 pIx (v 0) (k (.str "turn"))) (k (.int 1)))) (sq (sSet (tn 3) (e2 pMod (e1 pInt (e2 pAdd (e2 pIx (v 0) (k (.str "mixed"))) (e2 pMul (e2 pIx (v 0) (k (.str "turn"))) (k (.int 104729))))) (k (.int 998244353)))) (sq (sSet (tn 3) (e2 pMod (e1 pInt (e2 pAdd (e2 pMul (v 3) (v 3)) (e2 pMul (e2 pIx (v 0) (k (.str "turn"))) (k (.int 17))))) (k (.int 2147483647)))) (sq (sSet (ti (v 0) (k (.str "mixed"))) (v 3)) (sq (sRet (e2 pMod (e1 pInt (e2 pDiv (v 3) (k (.int 16)))) (v 1))) (sNil))))))))
theorem dec_eq {p q : Prop} [Decidable p] [Decidable q] (h : p ↔ q) : decide p = decide q := decide_eq_decide.mpr h
theorem pickC_eq (many : Nat) (cs : List Nat) (l m t : Nat) (r : Store) (a b : Option Val) : pickC [some (.loc 1), some (.d (.int many)), a, b] (src cs l m t r) = .ok (decide (1 < many) && (decide (l < 2) && decide (0 < cs.length))) (src cs l m t r) := by
  have e1 : decide ((1 : Int) < (many : Int)) = decide (1 < many) := dec_eq (by omega)
  have e2' : decide ((l : Int) < 2) = decide (l < 2) := dec_eq (by omega)
  have e3 : decide ((0 : Int) < (cs.length : Int)) = decide (0 < cs.length) := dec_eq (by omega)
  simp only [pickC, band, bb, bv, truth, e2, Ev.e1, v, k, pGt, pLt, pI, List.getElem?_cons_zero, List.getElem?_cons_succ, Res.bind_ok, ix_left, ix_cells, len_cells, e1, e2', e3]
  cases decide (1 < many) <;> cases decide (l < 2) <;> cases decide (0 < cs.length) <;> rfl
theorem pickL_eq (many : Nat) (cs : List Nat) (x l m t : Nat) (r : Store) (a b : Option Val) : pickL [some (.loc 1), some (.d (.int many)), a, b] (src (cs ++ [x]) l m t r) = .nx [some (.loc 1), some (.d (.int many)), a, b] (src cs x m t r) := by
  simp [pickL, sq, sSet, ti, m0, e2, v, k, ix_cells, pop_cells, isL_cells, put_left, sNil]
theorem whl_pick (many m t : Nat) (r : Store) (a b : Option Val) : ∀ (f : Nat) (cs : List Nat) (l : Nat), cs.length < f → ∃ cs' l', whl pickC pickL f [some (.loc 1), some (.d (.int many)), a, b] (src cs l m t r) = .nx [some (.loc 1), some (.d (.int many)), a, b] (src cs' l' m t r) ∧ cs'.length ≤ cs.length := by
  intro f
  induction f with
  | zero => intro cs l h; omega
  | succ f ih =>
    intro cs l h
    simp only [whl, pickC_eq, ofRes_ok]
    by_cases hc : (decide (1 < many) && (decide (l < 2) && decide (0 < cs.length))) = true
    · simp only [hc, if_true]
      have hl : 0 < cs.length := by simp at hc; omega
      obtain ⟨ys, x, rfl⟩ : ∃ ys x, cs = ys ++ [x] := ⟨cs.dropLast, cs.getLast (by intro e; simp [e] at hl), (List.dropLast_concat_getLast _).symm⟩
      simp only [List.length_append, List.length_singleton] at h
      obtain ⟨cs', l', e, hl'⟩ := ih ys x (by omega)
      refine ⟨cs', l', ?_, by simp; omega⟩
      rw [pickL_eq]
      exact e
    · simp only [hc, if_false]
      exact ⟨cs, l, by simp, Nat.le_refl _⟩
theorem runFn_rt {f : Fn} {xs : List Val} {s s' : Store} {x : Val} (hl : xs.length = f.pars) (h : f.body (xs.map some ++ List.replicate (f.slots - f.pars) none) s = .rt x s') : runFn f xs s = .ok (fin s x s').1 (fin s x s').2 := by
  unfold runFn; rw [if_pos hl, h]
theorem runFn_nx {f : Fn} {xs : List Val} {s s' : Store} {E : Env} (hl : xs.length = f.pars) (h : f.body (xs.map some ++ List.replicate (f.slots - f.pars) none) s = .nx E s') : runFn f xs s = .ok (fin s (.d .non) s').1 (fin s (.d .non) s').2 := by
  unfold runFn; rw [if_pos hl, h]
theorem runFn_exc {f : Fn} {xs : List Val} {s s' : Store} {E : Env} {c : Nat} {fs : List (Str × D)} (hl : xs.length = f.pars) (h : f.body (xs.map some ++ List.replicate (f.slots - f.pars) none) s = .exc c fs E s') : runFn f xs s = .exc c fs (fin s (.d .non) s').2 := by
  unfold runFn; rw [if_pos hl, h]
theorem fin_len {s s' : Store} {x : Val} (h : s'.length = s.length) : fin s x s' = (x, s') := by unfold fin; rw [if_pos h]
theorem src_len (cs : List Nat) (l m t : Nat) (r : Store) : (src cs l m t r).length = r.length + 2 := by simp [src]
/-! ### operations on ints -/
/-- a divisor's bound, kept away from arithmetic -/
def Fits (n : Nat) : Prop := n < 2 ^ 1000
def FitsI (j : Int) : Prop := j < 2 ^ 1000
theorem Fits.small {n : Nat} (h : n ≤ 2 ^ 64) : Fits n := Nat.lt_of_le_of_lt h (Nat.pow_lt_pow_right (by decide) (by decide))
theorem two1000 (n : Nat) (h : n < 2 ^ 1000) : (n : Int) < 2 ^ 1000 := by
  have h1 : ((2 ^ 1000 : Nat) : Int) = (2 : Int) ^ 1000 := Int.natCast_pow 2 1000
  rw [← h1]
  exact Int.ofNat_lt.mpr h
theorem Fits.i {n : Nat} (h : Fits n) : FitsI (n : Int) := two1000 n h
theorem Fits.max {n : Nat} (h : Fits n) : Fits (max 1 n) := by
  rcases Nat.le_total 1 n with z | z
  · rw [Nat.max_eq_right z]; exact h
  · rw [Nat.max_eq_left z]; exact Fits.small (by decide)
theorem pDiv_ok {i j : Int} (s : Store) (h1 : 0 < j) (h2 : FitsI j) : pDiv (.d (.int i)) (.d (.int j)) s = .ok (.d (.int (i / j))) s := by
  unfold pDiv pIc
  have h2' : j < 2 ^ 1000 := h2
  simp only [decide_eq_true h1, decide_eq_true h2', Bool.and_self, if_true]
theorem pMod_ok {i j : Int} (s : Store) (h1 : 0 < j) : pMod (.d (.int i)) (.d (.int j)) s = .ok (.d (.int (i % j))) s := by
  unfold pMod pIc
  simp only [decide_eq_true h1, if_true]
theorem pMul_okr {i j : Int} (s : Store) (h1 : -(2 ^ 64) < j) (h2 : j < 2 ^ 64) : pMul (.d (.int i)) (.d (.int j)) s = .ok (.d (.int (i * j))) s := by
  unfold pMul pIc
  simp only [decide_eq_true h1, decide_eq_true h2, Bool.and_self, Bool.or_true, if_true]
theorem pShl_ok {i j : Int} (s : Store) (h0 : 0 ≤ j) (h1 : j ≤ 1000000) (h2 : i.natAbs < 2 ^ 64) : pShl (.d (.int i)) (.d (.int j)) s = .ok (.d (.int (i * 2 ^ j.toNat))) s := by
  unfold pShl pIc
  simp only [decide_eq_true h0, decide_eq_true h1, decide_eq_true h2, Bool.and_self, if_true]
theorem pPow_ok {i j : Int} (s : Store) (h0 : 0 ≤ j) (h1 : j ≤ 1000000) (h2 : i.natAbs < 2 ^ 64) : pPow (.d (.int i)) (.d (.int j)) s = .ok (.d (.int (i ^ j.toNat))) s := by
  unfold pPow pIc
  simp only [decide_eq_true h0, decide_eq_true h1, decide_eq_true h2, Bool.and_self, if_true]
theorem pMax_ok (i j : Int) (s : Store) : pMax (.d (.int i)) (.d (.int j)) s = .ok (.d (.int (max i j))) s := rfl
theorem pMin_ok (i j : Int) (s : Store) : pMin (.d (.int i)) (.d (.int j)) s = .ok (.d (.int (min i j))) s := rfl
theorem pSub_ok (i j : Int) (s : Store) : pSub (.d (.int i)) (.d (.int j)) s = .ok (.d (.int (i - j))) s := rfl
theorem pAdd_ok (i j : Int) (s : Store) : pAdd (.d (.int i)) (.d (.int j)) s = .ok (.d (.int (i + j))) s := rfl
theorem pLt_ok (i j : Int) (s : Store) : pLt (.d (.int i)) (.d (.int j)) s = .ok (.d (.bl (decide (i < j)))) s := rfl
theorem pLe_ok (i j : Int) (s : Store) : pLe (.d (.int i)) (.d (.int j)) s = .ok (.d (.bl (decide (i ≤ j)))) s := rfl
theorem pGt_ok (i j : Int) (s : Store) : pGt (.d (.int i)) (.d (.int j)) s = .ok (.d (.bl (decide (j < i)))) s := rfl
theorem pGe_ok (i j : Int) (s : Store) : pGe (.d (.int i)) (.d (.int j)) s = .ok (.d (.bl (decide (j ≤ i)))) s := rfl
theorem pInt_ok (i : Int) (s : Store) : pInt (.d (.int i)) s = .ok (.d (.int i)) s := rfl
theorem pNeg_ok (i : Int) (s : Store) : pNeg (.d (.int i)) s = .ok (.d (.int (-i))) s := rfl
/-! ### step by step -/
theorem e1_ok {p : Val → Store → Res Val} {a : EC} {E : Env} {s s1 : Store} {x : Val} {r : Res Val} (ha : a E s = .ok x s1) (h : p x s1 = r) : Ev.e1 p a E s = r := by
  unfold Ev.e1; rw [ha]; exact h
theorem e2_ok {p : Val → Val → Store → Res Val} {a b : EC} {E : Env} {s s1 s2 : Store} {x y : Val} {r : Res Val} (ha : a E s = .ok x s1) (hb : b E s1 = .ok y s2) (h : p x y s2 = r) : e2 p a b E s = r := by
  unfold e2; rw [ha]; show ((b E s1).bind fun y s => p x y s) = r; rw [hb]; exact h
theorem k_ok {x : D} {E : Env} {s : Store} : k x E s = .ok (.d x) s := rfl
theorem v_ok {i : Nat} {x : Val} {E : Env} {s : Store} (h : E[i]? = some (some x)) : v i E s = .ok x s := by unfold v; rw [h]
theorem set_tn {i : Nat} {e : EC} {x : Val} {E : Env} {s s1 : Store} (h : e E s = .ok x s1) : sSet (tn i) e E s = .nx (E.set i (some x)) s1 := by unfold sSet tn; rw [h]; rfl
theorem sq_nx {a b : SC} {E E1 : Env} {s s1 : Store} {r : SRes} (h : a E s = .nx E1 s1) (h2 : b E1 s1 = r) : sq a b E s = r := by unfold sq; rw [h]; exact h2
theorem sq_rt {a b : SC} {E : Env} {s s1 : Store} {x : Val} (h : a E s = .rt x s1) : sq a b E s = .rt x s1 := by unfold sq; rw [h]; rfl
theorem sq_exc {a b : SC} {E E1 : Env} {s s1 : Store} {c : Nat} {fs : List (Str × D)} (h : a E s = .exc c fs E1 s1) : sq a b E s = .exc c fs E1 s1 := by unfold sq; rw [h]; rfl
def pkE (many l : Nat) (q : Option Val) : Env := [some (.loc 1), some (.d (.int many)), some (.d (.int l)), q]
theorem pk_0 (many l : Nat) (q : Option Val) (s : Store) : v 0 (pkE many l q) s = .ok (.loc 1) s := rfl
theorem pk_1 (many l : Nat) (q : Option Val) (s : Store) : v 1 (pkE many l q) s = .ok (.d (.int many)) s := rfl
theorem pk_3 (many l : Nat) (q : Val) (s : Store) : v 3 (pkE many l (some q)) s = .ok q s := rfl
theorem pk_set (many l : Nat) (q : Option Val) (z : Val) : (pkE many l q).set 3 (some z) = pkE many l (some z) := rfl
theorem pk_a (many l m t : Nat) (cs : List Nat) (r : Store) : sSet (ti (v 0) (k (.str "turn"))) (e2 pAdd (e2 pIx (v 0) (k (.str "turn"))) (k (.int 1))) (pkE many l none) (src cs l m t r) = .nx (pkE many l none) (src cs l m (t + 1) r) := by
  have p1 : ((t : Int) + 1) = ((t + 1 : Nat) : Int) := by omega
  simp only [sSet, ti, e2, k, pk_0, Res.bind_ok, ix_turn, pAdd_ok, p1, ofRes_ok, put_turn, Option.map_some]
theorem pk_b (many l m t x : Nat) (cs : List Nat) (r : Store) (hx : (m + t * 104729) % 998244353 = x) : sSet (tn 3) (e2 pMod (e1 pInt (e2 pAdd (e2 pIx (v 0) (k (.str "mixed"))) (e2 pMul (e2 pIx (v 0) (k (.str "turn"))) (k (.int 104729))))) (k (.int 998244353))) (pkE many l none) (src cs l m t r) = .nx (pkE many l (some (.d (.int x)))) (src cs l m t r) := by
  have m1 : ((m : Int) + (t : Int) * 104729) % 998244353 = (x : Int) := by omega
  refine (set_tn (e2_ok (e1_ok (e2_ok (e2_ok (pk_0 _ _ _ _) k_ok (ix_mixed _ _ _ _ _)) (e2_ok (e2_ok (pk_0 _ _ _ _) k_ok (ix_turn _ _ _ _ _)) k_ok (pMul_okr _ (by decide) (by decide))) (pAdd_ok _ _ _)) (pInt_ok _ _)) k_ok ((pMod_ok _ (by decide)).trans (by rw [m1])))).trans ?_
  rw [pk_set]
theorem pk_c (many l m t x y : Nat) (cs : List Nat) (r : Store) (hx : x < 998244353) (hy : (x * x + t * 17) % 2147483647 = y) : sSet (tn 3) (e2 pMod (e1 pInt (e2 pAdd (e2 pMul (v 3) (v 3)) (e2 pMul (e2 pIx (v 0) (k (.str "turn"))) (k (.int 17))))) (k (.int 2147483647))) (pkE many l (some (.d (.int x)))) (src cs l m t r) = .nx (pkE many l (some (.d (.int y)))) (src cs l m t r) := by
  have m2 : ((x : Int) * (x : Int) + (t : Int) * 17) % 2147483647 = (y : Int) := by
    have : (x : Int) * (x : Int) = ((x * x : Nat) : Int) := (Int.natCast_mul x x).symm
    rw [this]; omega
  refine (set_tn (e2_ok (e1_ok (e2_ok (e2_ok (pk_3 _ _ _ _) (pk_3 _ _ _ _) (pMul_okr _ (by omega) (by omega))) (e2_ok (e2_ok (pk_0 _ _ _ _) k_ok (ix_turn _ _ _ _ _)) k_ok (pMul_okr _ (by decide) (by decide))) (pAdd_ok _ _ _)) (pInt_ok _ _)) k_ok ((pMod_ok _ (by decide)).trans (by rw [m2])))).trans ?_
  rw [pk_set]
theorem pk_d (many l m t y : Nat) (cs : List Nat) (r : Store) : sSet (ti (v 0) (k (.str "mixed"))) (v 3) (pkE many l (some (.d (.int y)))) (src cs l m t r) = .nx (pkE many l (some (.d (.int y)))) (src cs l y t r) := by
  simp only [sSet, ti, k, pk_0, pk_3, ofRes_ok, put_mixed, Option.map_some]
theorem pk_f (many l m t y : Nat) (cs : List Nat) (r : Store) (hm : 0 < many) : sRet (e2 pMod (e1 pInt (e2 pDiv (v 3) (k (.int 16)))) (v 1)) (pkE many l (some (.d (.int y)))) (src cs l m t r) = .rt (.d (.int ((y / 16 % many : Nat) : Int))) (src cs l m t r) := by
  have q2 : (y : Int) / 16 % (many : Int) = ((y / 16 % many : Nat) : Int) := by rw [Int.natCast_emod, Int.natCast_ediv]; rfl
  have h : e2 pMod (e1 pInt (e2 pDiv (v 3) (k (.int 16)))) (v 1) (pkE many l (some (.d (.int y)))) (src cs l m t r) = .ok (.d (.int ((y / 16 % many : Nat) : Int))) (src cs l m t r) :=
    e2_ok (e1_ok (e2_ok (pk_3 _ _ _ _) k_ok (pDiv_ok _ (by decide) (Fits.i (n := 16) (Fits.small (by decide))))) (pInt_ok _ _)) (pk_1 _ _ _ _) ((pMod_ok _ (by omega)).trans (by rw [q2]))
  unfold sRet; rw [h]; rfl
theorem pk_end (many l' m t x y : Nat) (cs cs' : List Nat) (l : Nat) (r : Store) (h1 : ¬ many < 2) (h2 : ¬ 1 < l') (hx : (m + (t + 1) * 104729) % 998244353 = x) (hxl : x < 998244353) (hy : (x * x + (t + 1) * 17) % 2147483647 = y)
    (e : sWhl pickC pickL [some (.loc 1), some (.d (.int many)), none, none] (src cs l m t r) = .nx [some (.loc 1), some (.d (.int many)), none, none] (src cs' l' m t r)) :
    pickB [some (.loc 1), some (.d (.int many)), none, none] (src cs l m t r) = .rt (.d (.int ((y / 16 % many : Nat) : Int))) (src cs' l' y (t + 1) r) := by
  have c1 : decide ((many : Int) < 2) = false := decide_eq_false (by omega)
  have c2 : decide ((1 : Int) < (l' : Int)) = false := decide_eq_false (by omega)
  have bo : bor (bb (e2 pLt (v 1) (k (.int 2)))) (bb (e2 pGt (v 2) (k (.int 1)))) (pkE many l' none) (src cs' l' m t r) = .ok false (src cs' l' m t r) := by
    simp only [pkE, bor, bb, e2, v, k, List.getElem?_cons_zero, List.getElem?_cons_succ, Res.bind_ok, pLt_ok, pGt_ok, c1, c2, Bool.false_eq_true, if_false]
  unfold pickB
  refine sq_nx e (sq_nx (E1 := pkE many l' none) (s1 := src cs' l' m t r) (by rfl) (sq_nx (E1 := pkE many l' none) (s1 := src cs' l' m t r) ?_ (sq_nx (pk_a _ _ _ _ _ _) (sq_nx (pk_b _ _ _ _ _ _ _ hx) (sq_nx (pk_c _ _ _ _ _ _ _ _ hxl hy) (sq_nx (pk_d _ _ _ _ _ _ _) (sq_rt (pk_f _ _ _ _ _ _ _ (by omega)))))))))
  unfold sIf; rw [bo]; rfl
theorem pick_body (many : Nat) (cs : List Nat) (l m t : Nat) (r : Store) (hm : Fits many) (hc : cs.length < most) : ∃ (n : Nat) (cs' : List Nat) (l' m' t' : Nat), pickB [some (.loc 1), some (.d (.int many)), none, none] (src cs l m t r) = .rt (.d (.int n)) (src cs' l' m' t' r) ∧ n < max 1 many ∧ cs'.length ≤ cs.length := by
  obtain ⟨cs', l', e0, hl⟩ := whl_pick many m t r none none most cs l hc
  have e : sWhl pickC pickL [some (.loc 1), some (.d (.int many)), none, none] (src cs l m t r) = .nx [some (.loc 1), some (.d (.int many)), none, none] (src cs' l' m t r) := e0
  clear e0 hc
  have hmax : max (1 : Int) (many : Int) = ((max 1 many : Nat) : Int) := by omega
  by_cases h : many < 2 ∨ 1 < l'
  · refine ⟨l' % max 1 many, cs', l' / max 1 many, m, t, ?_, Nat.mod_lt _ (by omega), hl⟩
    have hp : (0 : Int) < ((max 1 many : Nat) : Int) := by omega
    have hb : FitsI ((max 1 many : Nat) : Int) := hm.max.i
    have h' : ((many : Int) < 2 ∨ (1 : Int) < (l' : Int)) := by omega
    have c1 : (decide ((many : Int) < 2) || decide ((1 : Int) < (l' : Int))) = true := by simpa using h'
    have q1 : (l' : Int) / ((max 1 many : Nat) : Int) = ((l' / max 1 many : Nat) : Int) := (Int.natCast_ediv _ _).symm
    have q2 : (l' : Int) % ((max 1 many : Nat) : Int) = ((l' % max 1 many : Nat) : Int) := (Int.natCast_emod _ _).symm
    have d1 := fun s => pDiv_ok (i := (l' : Int)) s hp hb
    have d2 := fun s => pMod_ok (i := (l' : Int)) s hp
    have bo : bor (bb (e2 pLt (v 1) (k (.int 2)))) (bb (e2 pGt (v 2) (k (.int 1)))) [some (.loc 1), some (.d (.int many)), some (.d (.int l')), none] (src cs' l' m t r) = .ok true (src cs' l' m t r) := by
      simp only [bor, bb, e2, v, k, List.getElem?_cons_zero, List.getElem?_cons_succ, Res.bind_ok, pLt_ok, pGt_ok]
      cases c2 : decide ((many : Int) < 2) with
      | true => rfl
      | false =>
        rw [c2, Bool.false_or] at c1
        rw [c1]; rfl
    unfold pickB
    simp only [sq, e, SRes.next_nx, sSet, tn, ofRes_ok, sIf]
    rw [show e2 pIx (v 0) (k (.str "left")) [some (.loc 1), some (.d (.int many)), none, none] (src cs' l' m t r) = .ok (.d (.int l')) (src cs' l' m t r) from rfl]
    simp only [sq, sIf, sSet, ofRes_ok, List.set_cons_zero, List.set_cons_succ, SRes.next_nx, bo, if_true]
    simp only [sq, sSet, sIf, sRet, sNil, e2, Ev.e1, v, k, List.getElem?_cons_zero, List.getElem?_cons_succ, Res.bind_ok, pMax_ok, pInt_ok, hmax, d1, d2, q1, q2, ti, put_left, Option.map_some, ofRes_ok, SRes.next_nx, sRet, SRes.next_rt]
  · have h1 : ¬ many < 2 := fun z => h (.inl z)
    have h2 : ¬ 1 < l' := fun z => h (.inr z)
    obtain ⟨x, hx⟩ : ∃ x, (m + (t + 1) * 104729) % 998244353 = x := ⟨_, rfl⟩
    have hxl : x < 998244353 := by rw [← hx]; exact Nat.mod_lt _ (by decide)
    obtain ⟨y, hy⟩ : ∃ y, (x * x + (t + 1) * 17) % 2147483647 = y := ⟨_, rfl⟩
    refine ⟨y / 16 % many, cs', l', y, t + 1, ?_, ?_, hl⟩
    · exact pk_end many l' m t x y cs cs' l r h1 h2 hx hxl hy e
    · have := Nat.mod_lt (y / 16) (show 0 < many by omega)
      omega
theorem pick_ok (many : Nat) (cs : List Nat) (l m t : Nat) (r : Store) (hm : Fits many) (hc : cs.length < most) : ∃ (n : Nat) (cs' : List Nat) (l' m' t' : Nat), runFn ⟨2, 4, pickB⟩ [.loc 1, .d (.int many)] (src cs l m t r) = .ok (.d (.int n)) (src cs' l' m' t' r) ∧ n < max 1 many ∧ cs'.length ≤ cs.length := by
  obtain ⟨n, cs', l', m', t', e, h1, h2⟩ := pick_body many cs l m t r hm hc
  refine ⟨n, cs', l', m', t', ?_, h1, h2⟩
  rw [runFn_rt rfl e, fin_len (by simp [src_len])]
end Ev
end
section
set_option linter.all false
set_option autoImplicit false
set_option maxRecDepth 100000
set_option maxHeartbeats 1000000
namespace Ev
open PySem L2
/-! ### more steps -/
theorem bb_ok {a : EC} {E : Env} {s s1 : Store} {b : Bool} (h : a E s = .ok (.d (.bl b)) s1) : bb a E s = .ok b s1 := by unfold bb; rw [h]; rfl
theorem bv_ok {a : EC} {E : Env} {s s1 : Store} {x : Val} {b : Bool} (h : a E s = .ok x s1) (ht : truth x s1 = some b) : bv a E s = .ok b s1 := by unfold bv; rw [h]; show (match truth x s1 with | some b => Res.ok b s1 | none => .fail) = _; rw [ht]
theorem bvb_ok {a : EC} {E : Env} {s s1 : Store} {b : Bool} (h : a E s = .ok (.d (.bl b)) s1) : bv a E s = .ok b s1 := bv_ok h rfl
theorem bnot_ok {a : BC} {E : Env} {s s1 : Store} {b : Bool} (h : a E s = .ok b s1) : bnot a E s = .ok (!b) s1 := by unfold bnot; rw [h]; rfl
theorem bor_t {a b : BC} {E : Env} {s s1 : Store} (h : a E s = .ok true s1) : bor a b E s = .ok true s1 := by unfold bor; rw [h]; rfl
theorem bor_f {a b : BC} {E : Env} {s s1 : Store} {r : Res Bool} (h : a E s = .ok false s1) (h2 : b E s1 = r) : bor a b E s = r := by unfold bor; rw [h]; exact h2
theorem band_f {a b : BC} {E : Env} {s s1 : Store} (h : a E s = .ok false s1) : band a b E s = .ok false s1 := by unfold band; rw [h]; rfl
theorem band_t {a b : BC} {E : Env} {s s1 : Store} {r : Res Bool} (h : a E s = .ok true s1) (h2 : b E s1 = r) : band a b E s = r := by unfold band; rw [h]; exact h2
theorem sIf_t {c : BC} {a b : SC} {E : Env} {s s1 : Store} {r : SRes} (h : c E s = .ok true s1) (h2 : a E s1 = r) : sIf c a b E s = r := by unfold sIf; rw [h]; exact h2
theorem sIf_f {c : BC} {a b : SC} {E : Env} {s s1 : Store} {r : SRes} (h : c E s = .ok false s1) (h2 : b E s1 = r) : sIf c a b E s = r := by unfold sIf; rw [h]; exact h2
theorem eif_t {c : BC} {a b : EC} {E : Env} {s s1 : Store} {r : Res Val} (h : c E s = .ok true s1) (h2 : a E s1 = r) : eif c a b E s = r := by unfold eif; rw [h]; exact h2
theorem eif_f {c : BC} {a b : EC} {E : Env} {s s1 : Store} {r : Res Val} (h : c E s = .ok false s1) (h2 : b E s1 = r) : eif c a b E s = r := by unfold eif; rw [h]; exact h2
theorem eand_t {a b : EC} {E : Env} {s s1 : Store} {x : Val} {r : Res Val} (h : a E s = .ok x s1) (ht : truth x s1 = some true) (h2 : b E s1 = r) : eand a b E s = r := by
  unfold eand; rw [h]; show (match truth x s1 with | some true => b E s1 | some false => Res.ok x s1 | none => .fail) = r; rw [ht]; exact h2
theorem eand_f {a b : EC} {E : Env} {s s1 : Store} {x : Val} (h : a E s = .ok x s1) (ht : truth x s1 = some false) : eand a b E s = .ok x s1 := by
  unfold eand; rw [h]; show (match truth x s1 with | some true => b E s1 | some false => Res.ok x s1 | none => .fail) = _; rw [ht]
theorem enot_ok {a : EC} {E : Env} {s s1 : Store} {x : Val} {t : Bool} (h : a E s = .ok x s1) (ht : truth x s1 = some t) : enot a E s = .ok (.d (.bl (!t))) s1 := by
  unfold enot; rw [h]; show (match truth x s1 with | some t => Res.ok (Val.d (D.bl (!t))) s1 | none => .fail) = _; rw [ht]
theorem a0_ok {E : Env} {s : Store} : a0 E s = .ok [] s := rfl
theorem ac_ok {a : EC} {r : AC} {E : Env} {s s1 s2 : Store} {x : Val} {xs : List Val} (h : a E s = .ok x s1) (h2 : r E s1 = .ok xs s2) : ac a r E s = .ok (x :: xs) s2 := by unfold ac; rw [h]; show ((r E s1).bind fun xs s => Res.ok (x :: xs) s) = _; rw [h2]; rfl
theorem call_ok {P : Calls} {f : Nat} {r : AC} {E : Env} {s s1 : Store} {xs : List Val} {q : Res Val} (h : r E s = .ok xs s1) (h2 : P f xs s1 = q) : call P f r E s = q := by unfold call; rw [h]; exact h2
theorem ret_ok {e : EC} {E : Env} {s s1 : Store} {x : Val} (h : e E s = .ok x s1) : sRet e E s = .rt x s1 := by unfold sRet; rw [h]; rfl
theorem exp_ok {e : EC} {E : Env} {s s1 : Store} {x : Val} (h : e E s = .ok x s1) : sExp e E s = .nx E s1 := by unfold sExp; rw [h]; rfl
theorem exp_exc {e : EC} {E : Env} {s s1 : Store} {c : Nat} {fs : List (Str × D)} (h : e E s = .exc c fs s1) : sExp e E s = .exc c fs E s1 := by unfold sExp; rw [h]; rfl
theorem set_ok {t : TC} {e : EC} {E E2 : Env} {s s1 s2 : Store} {x : Val} (h : e E s = .ok x s1) (h2 : t x E s1 = some (E2, s2)) : sSet t e E s = .nx E2 s2 := by unfold sSet; rw [h]; show (match t x E s1 with | some (E2, s2) => SRes.nx E2 s2 | none => .fail) = _; rw [h2]
theorem set_exc {t : TC} {e : EC} {E : Env} {s s1 : Store} {c : Nat} {fs : List (Str × D)} (h : e E s = .exc c fs s1) : sSet t e E s = .exc c fs E s1 := by unfold sSet; rw [h]; rfl
theorem tup_ok {r : AC} {E : Env} {s s1 : Store} {xs : List Val} {ds : List D} (h : r E s = .ok xs s1) (hd : allD xs = some ds) (hl : ds.length ≤ line) : tup r E s = .ok (.d (.tup ds)) s1 := by
  unfold tup ea; rw [h]; show mkT xs s1 = _; unfold mkT; rw [hd]; exact if_pos hl
theorem lst_ok {r : AC} {E : Env} {s s1 : Store} {xs : List Val} {ds : List D} (h : r E s = .ok xs s1) (hd : allD xs = some ds) (hl : ds.length ≤ line) : lst r E s = .ok (.d (.lst ds)) s1 := by
  unfold lst ea; rw [h]; show mkL xs s1 = _; unfold mkL; rw [hd]; exact if_pos hl
theorem raise_tup {c : Nat} {f : Str} {e : EC} {E : Env} {s s1 : Store} {xs : List D} (h : e E s = .ok (.d (.tup xs)) s1) : sRaise c .tuple f e E s = .exc c [(f, .tup xs)] E s1 := by unfold sRaise; rw [h]; rfl
theorem nottup {a : EC} {E : Env} {s : Store} (x : D) (h : a E s = .ok (.d x) s) : bnot (bv (Ev.e1 (pIsi [.tuple]) a)) E s = .ok (!(isT [.tuple] (tyD x))) s := bnot_ok (bvb_ok (e1_ok h rfl))
theorem mkL_ok {xs : List Val} {ds : List D} {s : Store} (hd : allD xs = some ds) (hl : ds.length ≤ line) : mkL xs s = .ok (.d (.lst ds)) s := by
  unfold mkL; rw [hd]; exact if_pos hl
theorem lcS_vals {ws : List Nat} {t : TC} {c : BC} {e : EC} {E : Env} {s s1 : Store} {xs ys : List Val} (hl : xs.length ≤ line) (h : lcV ws t c e E xs s = .ok ys s1) : lcS ws t c e E (.vals xs) s = .ok ys s1 := by
  have h1 : (if xs.length ≤ line then (lcV ws t c e E xs s).shut else .fail) = (lcV ws t c e E xs s).shut := if_pos hl
  show (if xs.length ≤ line then (lcV ws t c e E xs s).shut else .fail) = _
  rw [h1, h]; rfl
theorem lcG_ok {mk : List Val → Store → Res Val} {ws : List Nat} {t : TC} {i : IC} {c : BC} {e : EC} {E : Env} {s s1 s2 : Store} {sr : Src} {ys : List Val} {r : Res Val} (hi : i E s = .ok sr s1) (h : lcS ws t c e E sr s1 = .ok ys s2) (hm : mk ys s2 = r) : lcG mk ws t i c e E s = r := by
  unfold lcG; rw [hi]
  have : (Res.ok sr s1).bind (fun sr s1 => (lcS ws t c e E sr s1).bind mk) = (lcS ws t c e E sr s1).bind mk := rfl
  rw [this, h]; exact hm
theorem iRng1_ok {ln : EC} {E : Env} {s s1 : Store} {i : Int} (h : ln E s = .ok (.d (.int i)) s1) (hs : small i = true) : iRng1 ln E s = .ok (.vals ((rng 0 i).map .d)) s1 := by
  unfold iRng1; rw [h]; exact if_pos hs
theorem nil_nx {E : Env} {s : Store} : sNil E s = .nx E s := rfl
theorem forV_nx {t : TC} {b : SC} {x : Val} {xs : List Val} {E E1 E2 : Env} {s s1 s2 : Store} {r : SRes} (ht : t x E s = some (E1, s1)) (hb : b E1 s1 = .nx E2 s2) (hr : forV t b xs E2 s2 = r) : forV t b (x :: xs) E s = r := by
  simp only [forV]; rw [ht]; simp only; rw [hb]; exact hr
theorem forV_exc {t : TC} {b : SC} {x : Val} {xs : List Val} {E E1 E2 : Env} {s s1 s2 : Store} {c : Nat} {fs : List (Str × D)} (ht : t x E s = some (E1, s1)) (hb : b E1 s1 = .exc c fs E2 s2) : forV t b (x :: xs) E s = .exc c fs E2 s2 := by
  simp only [forV]; rw [ht]; simp only; rw [hb]
theorem forV_rt {t : TC} {b : SC} {x v : Val} {xs : List Val} {E E1 : Env} {s s1 s2 : Store} (ht : t x E s = some (E1, s1)) (hb : b E1 s1 = .rt v s2) : forV t b (x :: xs) E s = .rt v s2 := by
  simp only [forV]; rw [ht]; simp only; rw [hb]
theorem for_vals {t : TC} {i : IC} {b : SC} {xs : List Val} {E : Env} {s s1 : Store} {r : SRes} (h : i E s = .ok (.vals xs) s1) (h2 : forV t b xs E s1 = r) : sFor t i b E s = r := by unfold sFor; rw [h]; exact h2
theorem iEnum_tup {a : EC} {E : Env} {s s1 : Store} {xs : List D} (h : a E s = .ok (.d (.tup xs)) s1) : iEnum a E s = .ok (.vals ((enumD 0 xs).map .d)) s1 := by unfold iEnum; rw [h]; rfl
theorem sq_of {a b : SC} {E : Env} {s : Store} {r : SRes} (h : a E s = r) (hn : ∀ E s, r ≠ .nx E s) : sq a b E s = r := by
  unfold sq; rw [h]; cases r with
  | nx E s => exact absurd rfl (hn E s)
  | _ => rfl
/-- the truth of plain tests by value -/
theorem low_int (i : Int) : low (.int i) = true := by unfold low; exact decide_eq_true (by simp [toPy, PyData.depth])
/-! ### sizes -/
mutual
/-- a bound of a text's length -/
def wt : D → Nat
  | .non => 4
  | .bl _ => 5
  | .int _ => 61
  | .str x => (reprText x).length
  | .tup xs | .lst xs => wts xs + 3
  | .dct _ => 2
  | .scr _ => 0
def wts : List D → Nat
  | [] => 0
  | x :: xs => wt x + 2 + wts xs
end
mutual
/-- ints below 10^60, no dict but the empty one -/
def good : D → Bool
  | .non | .bl _ | .str _ => true
  | .int i => decide (i.natAbs < 10 ^ 60)
  | .tup xs | .lst xs => goods xs
  | .dct kvs => kvs.isEmpty
  | .scr _ => false
def goods : List D → Bool
  | [] => true
  | x :: xs => good x && goods xs
end
mutual
theorem shown_le : ∀ x : D, good x = true → (toPy x).shown.length ≤ wt x
  | .non, _ => by simp only [toPy, PyData.shown, wt]; decide
  | .bl b, _ => by cases b <;> simp only [toPy, PyData.shown, wt] <;> decide
  | .int i, h => by
    simp only [toPy, PyData.shown, wt]
    have h1 := int_text_length_le10 (k := 60) (by decide) (of_decide_eq_true h)
    rw [ofString_length]; omega
  | .str x, _ => by simp [toPy, PyData.shown, wt]
  | .tup xs, h => by
    simp only [toPy, PyData.shown, wt]
    have h1 := tupleText_len_le (PyData.shownAll (toPys xs))
    have h2 := showns_le xs (by simpa [good] using h)
    omega
  | .lst xs, h => by
    simp only [toPy, PyData.shown, wt]
    have h1 := listText_len_le (PyData.shownAll (toPys xs))
    have h2 := showns_le xs (by simpa [good] using h)
    omega
  | .dct kvs, h => by
    have e : kvs = [] := by simpa [good] using h
    subst e
    simp only [toPy, toPyKv, PyData.shown, PyData.shownKv, wt]; decide
  | .scr _, h => by simp [good] at h
theorem showns_le : ∀ xs : List D, goods xs = true → ((PyData.shownAll (toPys xs)).map (·.length)).sum + 2 * (PyData.shownAll (toPys xs)).length ≤ wts xs
  | [], _ => by simp [toPys, PyData.shownAll, wts]
  | x :: xs, h => by
    simp only [goods, Bool.and_eq_true] at h
    have h1 := shown_le x h.1
    have h2 := showns_le xs h.2
    simp only [toPys, PyData.shownAll, wts, List.map_cons, List.sum_cons, List.length_cons]
    omega
end
mutual
theorem showable_ok : ∀ x : D, good x = true → (toPy x).showable = true ∧ x.noscr = true
  | .non, _ => ⟨rfl, rfl⟩
  | .bl b, _ => ⟨rfl, rfl⟩
  | .int i, h => by
    refine ⟨?_, rfl⟩
    simp only [toPy, PyData.showable]
    have h1 : i.natAbs < 10 ^ 60 := of_decide_eq_true h
    refine decide_eq_true ?_
    by_cases h0 : i.natAbs = 0
    · rw [h0]; decide
    · exact (Nat.log2_lt h0).mpr (Nat.lt_trans h1 (by decide +kernel))
  | .str x, _ => ⟨rfl, rfl⟩
  | .tup xs, h => by
    have := showables_ok xs (by simpa [good] using h)
    simp only [toPy, PyData.showable, D.noscr]; exact this
  | .lst xs, h => by
    have := showables_ok xs (by simpa [good] using h)
    simp only [toPy, PyData.showable, D.noscr]; exact this
  | .dct kvs, h => by
    have e : kvs = [] := by simpa [good] using h
    subst e
    exact ⟨rfl, rfl⟩
  | .scr _, h => by simp [good] at h
theorem showables_ok : ∀ xs : List D, goods xs = true → PyData.showableAll (toPys xs) = true ∧ D.noscrs xs = true
  | [], _ => ⟨rfl, rfl⟩
  | x :: xs, h => by
    simp only [goods, Bool.and_eq_true] at h
    have h1 := showable_ok x h.1
    have h2 := showables_ok xs h.2
    simp only [toPys, PyData.showableAll, D.noscrs, h1.1, h1.2, h2.1, h2.2, Bool.and_self, and_self]
end
theorem repr_ok (x : D) (s : Store) (hg : good x = true) (hw : wt x ≤ line) (hd : (toPy x).depth ≤ 60) : pRepr (.d x) s = .ok (.d (.str (toPy x).shown)) s := by
  unfold pRepr
  have h1 := showable_ok x hg
  have h2 : (toPy x).shown.length ≤ line := Nat.le_trans (shown_le x hg) hw
  have h3 : low x = true := decide_eq_true hd
  simp only [h1.1, h1.2, h3, decide_eq_true h2, Bool.and_self, if_true]
end Ev
end
section
set_option linter.all false
set_option autoImplicit false
set_option maxRecDepth 100000
set_option maxHeartbeats 1000000
namespace K51
open PySem L2 Ev
theorem rp (n i : Nat) (xs : List Val) (s : Store) : runP prog (n + 1) i xs s = match prog (runP prog n) i with | some g => runFn g xs s | none => .fail := rfl
/-! ### numbers, tuples -/
def isNum (x : Ev.D) (lo hi : Int) : Bool := match x with | .int i => decide (lo ≤ i) && decide (i < hi) | _ => false
def isTup (x : Ev.D) (n : Nat) : Bool := match x with | .tup xs => decide (xs.length = n) | _ => false
theorem and_isint {E : Ev.Env} {s : Store} {x : Ev.D} {a : EC} {c : EC} (ha : a E s = .ok (.d x) s) (lo hi : Int) (hc : ∀ i, x = .int i → c E s = .ok (.d (.bl (decide (lo ≤ i) && decide (i < hi)))) s) :
    eand (Ev.e1 (pIsi [.int]) a) (eand (enot (Ev.e1 (pIsi [.bool]) a)) c) E s = .ok (.d (.bl (isNum x lo hi))) s := by
  have h1 : Ev.e1 (pIsi [.int]) a E s = .ok (.d (.bl (isT [.int] (tyD x)))) s := e1_ok ha rfl
  have h2 : Ev.e1 (pIsi [.bool]) a E s = .ok (.d (.bl (isT [.bool] (tyD x)))) s := e1_ok ha rfl
  unfold eand enot
  simp only [h1, h2, Res.bind_ok, truth]
  cases x with
  | int i => rw [hc i rfl]; rfl
  | _ => rfl
theorem chain_num {E : Ev.Env} {s : Store} {a b c : EC} {lo i hi : Int} (ha : a E s = .ok (.d (.int lo)) s) (hb : b E s = .ok (.d (.int i)) s) (hc : c E s = .ok (.d (.int hi)) s) : chain pLe pLt a b c E s = .ok (.d (.bl (decide (lo ≤ i) && decide (i < hi)))) s := by
  unfold chain
  simp only [ha, hb, Res.bind_ok, pLe_ok]
  cases decide (lo ≤ i) with
  | true => simp only [hc, Res.bind_ok, pLt_ok, Bool.true_and]
  | false => rfl
theorem w_is_number (n : Nat) (x : Ev.D) (lo hi : Int) (s : Store) : runP prog (n + 1) 0 [.d x, .d (.int lo), .d (.int hi)] s = .ok (.d (.bl (isNum x lo hi))) s := by
  rw [rp]
  refine (runFn_rt (x := .d (.bl (isNum x lo hi))) (s' := s) rfl ?_).trans (by rw [fin_same])
  exact sq_rt (ret_ok (and_isint (x := x) rfl lo hi fun i e => chain_num rfl (by rw [e]; rfl) rfl))
theorem w_is_below (n : Nat) (x : Ev.D) (hi : Int) (s : Store) : runP prog (n + 1) 9 [.d x, .d (.int hi)] s = .ok (.d (.bl (isNum x 0 hi))) s := by
  rw [rp]
  refine (runFn_rt (x := .d (.bl (isNum x 0 hi))) (s' := s) rfl ?_).trans (by rw [fin_same])
  exact sq_rt (ret_ok (and_isint (x := x) rfl 0 hi fun i e => chain_num rfl (by rw [e]; rfl) rfl))
theorem eq_int (i j : Int) (s : Store) : pEq (.d (.int i)) (.d (.int j)) s = .ok (.d (.bl (decide (i = j)))) s := by
  have h : eqD (.int i) (.int j) = decide (i = j) := by
    simp only [eqD, toPy, PyData.eqv]
    rfl
  unfold pEq pEqB
  simp only [peek_d, D.plain, low_int, Bool.or_self, Bool.and_self, if_true, Bool.false_xor, h]
theorem and_istup {E : Ev.Env} {s : Store} {x : Ev.D} {a c : EC} (m : Nat) (ha : a E s = .ok (.d x) s) (hc : c E s = .ok (.d (.int m)) s) : eand (Ev.e1 (pIsi [.tuple]) a) (e2 pEq (Ev.e1 pLen a) c) E s = .ok (.d (.bl (isTup x m))) s := by
  have h1 : Ev.e1 (pIsi [.tuple]) a E s = .ok (.d (.bl (isT [.tuple] (tyD x)))) s := e1_ok ha rfl
  cases x with
  | tup xs =>
    refine eand_t h1 rfl (e2_ok (e1_ok ha rfl) hc ((eq_int _ _ _).trans ?_))
    have : decide ((xs.length : Int) = (m : Int)) = decide (xs.length = m) := dec_eq (by omega)
    rw [this]; rfl
  | _ => exact eand_f h1 rfl
theorem w_is_tuple_of (n : Nat) (x : Ev.D) (m : Nat) (s : Store) : runP prog (n + 1) 1 [.d x, .d (.int m)] s = .ok (.d (.bl (isTup x m))) s := by
  rw [rp]
  refine (runFn_rt (x := .d (.bl (isTup x m))) (s' := s) rfl ?_).trans (by rw [fin_same])
  exact sq_rt (ret_ok (and_istup m rfl rfl))
theorem w_pair (n : Nat) (x : Ev.D) (s : Store) : runP prog (n + 1) 12 [.d x] s = .ok (.d (.bl (isTup x 2))) s := by
  rw [rp]
  refine (runFn_rt (x := .d (.bl (isTup x 2))) (s' := s) rfl ?_).trans (by rw [fin_same])
  exact sq_rt (ret_ok (and_istup 2 rfl rfl))
theorem w_pow (n : Nat) (m : Nat) (s : Store) (h : m ≤ 1000000) : runP prog (n + 1) 4 [.d (.int m)] s = .ok (.d (.int ((2 ^ m : Nat) : Int))) s := by
  rw [rp]
  refine (runFn_rt (x := .d (.int ((2 ^ m : Nat) : Int))) (s' := s) rfl ?_).trans (by rw [fin_same])
  refine sq_rt (ret_ok (e2_ok k_ok (v_ok rfl) ((pShl_ok _ (by omega) (by omega) (by decide)).trans ?_)))
  rw [Int.toNat_natCast, Int.one_mul, Int.natCast_pow]; rfl
end K51
end
section
set_option linter.all false
set_option autoImplicit false
set_option maxRecDepth 100000
set_option maxHeartbeats 1000000
namespace K51
open PySem L2 Ev
theorem sl_pre {E : Ev.Env} {s : Store} {pre r : List Ev.D} {a b : EC} (ha : a E s = .ok (.d (.tup (pre ++ r))) s) (hb : b E s = .ok (.d (.int pre.length)) s) : sl a pn (ps b) E s = .ok (.d (.tup pre)) s := by
  unfold sl
  rw [ha]
  show ((pn E s).bind fun l s => (ps b E s).bind fun h s => pSl (.d (.tup (pre ++ r))) l h s) = _
  have h1 : ps b E s = .ok (some (pre.length : Int)) s := by unfold ps; rw [hb]; rfl
  show ((ps b E s).bind fun h s => pSl (.d (.tup (pre ++ r))) none h s) = _
  rw [h1]
  show Res.ok (Val.d (.tup (cut (pre ++ r) none (some (pre.length : Int))))) s = _
  have : cut (pre ++ r) none (some (pre.length : Int)) = pre := by
    unfold cut sIx
    show List.take ((if (pre.length : Int) < 0 then _ else min (pre.length : Int).toNat (pre ++ r).length) - 0) (List.drop 0 (pre ++ r)) = pre
    rw [if_neg (show ¬ (pre.length : Int) < 0 by omega), Int.toNat_natCast, Nat.min_eq_left (by simp), List.drop_zero, Nat.sub_zero, List.take_left]
  rw [this]
theorem in_ok {x : Ev.D} {ys : List Ev.D} {s : Store} (i : Int) (hx : x = .int i) (hy : D.plains ys = true) : pIn (.d x) (.d (.tup ys)) s = .ok (.d (.bl (inD x ys))) s := by
  subst hx
  unfold pIn pInB
  simp only [peek_d, D.plain, hy, low_int, Bool.and_self, if_true, Bool.false_xor]
/-- nodes that a table may read: ints below node, none twice -/
def nodesOk (node : Int) : List Ev.D → List Ev.D → Bool
  | _, [] => true
  | pre, x :: r => isNum x 0 node && (!inD x pre && nodesOk node (pre ++ [x]) r)
theorem isNum_int {x : Ev.D} {lo hi : Int} (h : isNum x lo hi = true) : ∃ i, x = .int i ∧ lo ≤ i ∧ i < hi := by
  cases x with
  | int i =>
    simp only [isNum, Bool.and_eq_true, decide_eq_true_eq] at h
    exact ⟨i, rfl, h.1, h.2⟩
  | _ => simp [isNum] at h
theorem plains_snoc {pre : List Ev.D} {x : Ev.D} (h : D.plains pre = true) (hx : x.plain = true) : D.plains (pre ++ [x]) = true := by
  induction pre with
  | nil => simp [D.plains, hx]
  | cons p pre ih =>
    simp only [D.plains, Bool.and_eq_true] at h
    simp only [List.cons_append, D.plains, h.1, ih h.2, Bool.and_self]
/-- one is refused by the test of a table's nodes -/
theorem bad_ok {E : Ev.Env} {s : Store} {x : Ev.D} {pre r : List Ev.D} {node : Int} {c : BC} {a nd j : EC} (ha : a E s = .ok (.d x) s) (hn : nd E s = .ok (.d (.tup (pre ++ r))) s) (hj : j E s = .ok (.d (.int pre.length)) s)
    (hc : c E s = .ok (!isNum x 0 node) s) (hp : D.plains pre = true) : bor c (bb (e2 pIn a (sl nd pn (ps j)))) E s = .ok (!(isNum x 0 node && !inD x pre)) s := by
  cases h : isNum x 0 node with
  | false =>
    rw [h] at hc
    exact bor_t hc
  | true =>
    rw [h] at hc
    obtain ⟨i, hx, _⟩ := isNum_int h
    refine bor_f hc (bb_ok (e2_ok ha (sl_pre hn hj) ((in_ok i hx hp).trans ?_)))
    simp
def tE (kk node t : Int) (table : Ev.D) (ns : List Ev.D) (truth : Ev.D) (a b : Option Val) : Ev.Env := [some (.d (.int kk)), some (.d (.int node)), some (.d (.int t)), some (.d table), some (.d (.tup ns)), some (.d truth), a, b]
theorem plain_num {x : Ev.D} {lo hi : Int} (h : isNum x lo hi = true) : x.plain = true := by
  obtain ⟨i, rfl, _⟩ := isNum_int h
  rfl
/-- the loop over a table's nodes -/
theorem loop_ct (n : Nat) (kk node t : Int) (table truth : Ev.D) (s : Store) : ∀ (xs pre : List Ev.D) (a b : Option Val), D.plains pre = true → ∃ a' b',
    forV (tt [tn 6, tn 7]) (sq (sIf (bor (bnot (bv (call (runP prog (n + 1)) 0 (ac (v 7) (ac (k (.int 0)) (ac (v 1) (a0))))))) (bb (e2 pIn (v 7) (sl (v 4) (pn) (ps (v 6)))))) (sq (sRaise 0 .tuple "path" (tup (ac (k (.int 3)) (ac (v 2) (ac (k (.int 0)) (a0)))))) (sNil)) (sNil)) (sNil)) ((enumD pre.length xs).map .d) (tE kk node t table (pre ++ xs) truth a b) s =
      if nodesOk node pre xs = true then .nx (tE kk node t table (pre ++ xs) truth a' b') s else .exc 0 [("path", .tup [.int 3, .int t, .int 0])] (tE kk node t table (pre ++ xs) truth a' b') s
  | [], pre, a, b, _ => ⟨a, b, by rw [nodesOk, if_pos rfl]; rfl⟩
  | x :: r, pre, a, b, hp => by
    have ht : (tt [tn 6, tn 7]) (.d (.tup [.int (pre.length : Int), x])) (tE kk node t table (pre ++ x :: r) truth a b) s = some (tE kk node t table (pre ++ x :: r) truth (some (.d (.int pre.length))) (some (.d x)), s) := rfl
    have hc : bnot (bv (call (runP prog (n + 1)) 0 (ac (v 7) (ac (k (.int 0)) (ac (v 1) (a0)))))) (tE kk node t table (pre ++ x :: r) truth (some (.d (.int pre.length))) (some (.d x))) s = .ok (!isNum x 0 node) s :=
      bnot_ok (bvb_ok (call_ok (ac_ok (v_ok rfl) (ac_ok k_ok (ac_ok (v_ok rfl) a0_ok))) (w_is_number n x 0 node s)))
    have hb := bad_ok (E := tE kk node t table (pre ++ x :: r) truth (some (.d (.int pre.length))) (some (.d x))) (x := x) (pre := pre) (r := x :: r) (node := node) (a := v 7) (nd := v 4) (j := v 6) (v_ok rfl) (v_ok rfl) (v_ok rfl) hc hp
    have enm : ((enumD pre.length (x :: r)).map Val.d) = .d (.tup [.int (pre.length : Int), x]) :: ((enumD (pre.length + 1) r).map Val.d) := rfl
    rw [enm]
    cases h : (isNum x 0 node && !inD x pre) with
    | false =>
      rw [h] at hb
      refine ⟨some (.d (.int pre.length)), some (.d x), ?_⟩
      have h2 : nodesOk node pre (x :: r) = false := by rw [nodesOk, ← Bool.and_assoc, h, Bool.false_and]
      rw [h2, if_neg Bool.false_ne_true]
      exact forV_exc ht (sq_exc (sIf_t hb (sq_exc (raise_tup (tup_ok (ac_ok k_ok (ac_ok (v_ok rfl) (ac_ok k_ok a0_ok))) rfl (Nat.le_of_ble_eq_true rfl))))))
    | true =>
      rw [h] at hb
      have h2 : nodesOk node pre (x :: r) = nodesOk node (pre ++ [x]) r := by rw [nodesOk, ← Bool.and_assoc, h, Bool.true_and]
      have hx : isNum x 0 node = true := (Bool.and_eq_true_iff.mp h).1
      obtain ⟨a', b', ih⟩ := loop_ct n kk node t table truth s r (pre ++ [x]) (some (.d (.int pre.length))) (some (.d x)) (plains_snoc hp (plain_num hx))
      rw [List.append_assoc, List.length_append] at ih
      refine ⟨a', b', ?_⟩
      rw [h2]
      exact forV_nx ht (sq_nx (sIf_f hb nil_nx) nil_nx) ih
/-- what is wrong with a table: the rest of the path -/
def tabFault (kk : Int) (node : Int) (table : Ev.D) : Option Int := match table with
  | .tup [nodes, truth] => (match nodes with
    | .tup ns => if (ns.length : Int) > kk then some 0 else if nodesOk node [] ns = true then (if isNum truth 0 ((2 ^ (2 ^ ns.length) : Nat) : Int) = true then none else some 1) else some 0
    | _ => some 0)
  | _ => some (-1)
def tabPath (t : Int) : Int → Ev.D := fun j => if j < 0 then .tup [.int 3, .int t] else .tup [.int 3, .int t, .int j]
theorem w_check_table (n : Nat) (kk node t : Int) (table : Ev.D) (s : Store) (hk : kk ≤ 6) : runP prog (n + 2) 3 [.d (.int kk), .d (.int node), .d (.int t), .d table] s =
    match tabFault kk node table with | none => .ok (.d .non) s | some j => .exc 0 [("path", tabPath t j)] s := by
  rw [rp]
  have r1 : ∀ (E : Ev.Env), v 3 E s = .ok (.d table) s → bnot (bv (call (runP prog (n + 1)) 1 (ac (v 3) (ac (k (.int 2)) (a0))))) E s = .ok (!isTup table 2) s := fun E h =>
    bnot_ok (bvb_ok (call_ok (ac_ok h (ac_ok k_ok a0_ok)) (w_is_tuple_of n table 2 s)))
  by_cases hT : isTup table 2 = true
  · obtain ⟨nodes, truth, rfl⟩ : ∃ a b, table = .tup [a, b] := by
      cases table with
      | tup xs =>
        have hl : xs.length = 2 := by simpa [isTup] using hT
        match xs, hl with
        | [a, b], _ => exact ⟨a, b, rfl⟩
      | _ => simp [isTup] at hT
    have c1 := (r1 (([.d (.int kk), .d (.int node), .d (.int t), .d (.tup [nodes, truth])] : List Val).map some ++ List.replicate (8 - 4) none) rfl).trans (by rw [hT])
    have s1 : sSet (tt [tn 4, tn 5]) (v 3) (([.d (.int kk), .d (.int node), .d (.int t), .d (.tup [nodes, truth])] : List Val).map some ++ List.replicate (8 - 4) none) s = .nx [some (.d (.int kk)), some (.d (.int node)), some (.d (.int t)), some (.d (.tup [nodes, truth])), some (.d nodes), some (.d truth), none, none] s := set_ok (v_ok rfl) rfl
    have bad : ∀ j : Nat, ∀ E : Ev.Env, v 2 E s = .ok (.d (.int t)) s → sq (sRaise 0 .tuple "path" (tup (ac (k (.int 3)) (ac (v 2) (ac (k (.int j)) (a0)))))) sNil E s = .exc 0 [("path", tabPath t j)] E s := fun j E h => by
      rw [sq_exc (raise_tup (tup_ok (ac_ok k_ok (ac_ok h (ac_ok k_ok a0_ok))) rfl (Nat.le_of_ble_eq_true rfl)))]
      unfold tabPath; rw [if_neg (by omega)]
    have done : ∀ j : Nat, ∀ (E : Ev.Env) r, e_check_table (runP prog (n + 1)) (([.d (.int kk), .d (.int node), .d (.int t), .d (.tup [nodes, truth])] : List Val).map some ++ List.replicate (8 - 4) none) s = .exc 0 [("path", tabPath t j)] E s → tabFault kk node (.tup [nodes, truth]) = some (j : Int) → r = runFn ⟨4, 8, e_check_table (runP prog (n + 1))⟩ [.d (.int kk), .d (.int node), .d (.int t), .d (.tup [nodes, truth])] s →
        r = (match tabFault kk node (.tup [nodes, truth]) with | none => .ok (.d .non) s | some j => .exc 0 [("path", tabPath t j)] s) := fun j E r h1 h2 h3 => by
      rw [h3, runFn_exc rfl h1, h2, fin_same]
    have two : (∃ ns, nodes = .tup ns) ∨ (isT [.tuple] (tyD nodes) = false ∧ tabFault kk node (.tup [nodes, truth]) = some 0) := by
      cases nodes with
      | tup ns => exact .inl ⟨ns, rfl⟩
      | _ => exact .inr ⟨rfl, rfl⟩
    rcases two with ⟨ns, hn⟩ | ⟨hn, hf⟩
    · subst hn
      have isT1 : ∀ b, bnot (bv (Ev.e1 (pIsi [.tuple]) (v 4))) (tE kk node t (.tup [.tup ns, truth]) ns truth b none) s = .ok false s := fun b => nottup (.tup ns) (v_ok rfl)
      by_cases hl : (ns.length : Int) > kk
      · refine done 0 _ _ (sq_nx (sIf_f c1 nil_nx) (sq_nx s1 (sq_exc (sIf_t (bor_f (isT1 none) (bb_ok (e2_ok (e1_ok (v_ok rfl) rfl) (v_ok rfl) ((pGt_ok _ _ _).trans (by rw [decide_eq_true hl]))))) (bad 0 _ rfl))))) ?_ rfl
        simp only [tabFault, if_pos hl]; rfl
      · have gt : bor (bnot (bv (Ev.e1 (pIsi [.tuple]) (v 4)))) (bb (e2 pGt (Ev.e1 pLen (v 4)) (v 0))) (tE kk node t (.tup [.tup ns, truth]) ns truth none none) s = .ok false s := bor_f (isT1 none) (bb_ok (e2_ok (e1_ok (v_ok rfl) rfl) (v_ok rfl) ((pGt_ok _ _ _).trans (by rw [decide_eq_false hl]))))
        obtain ⟨a', b', lp⟩ := loop_ct n kk node t (.tup [.tup ns, truth]) truth s ns [] none none rfl
        rw [List.nil_append] at lp
        by_cases ho : nodesOk node [] ns = true
        · rw [if_pos ho] at lp
          have hle : ns.length ≤ 6 := by omega
          have pw : call (runP prog (n + 1)) 4 (ac (call (runP prog (n + 1)) 4 (ac (Ev.e1 pLen (v 4)) (a0))) (a0)) (tE kk node t (.tup [.tup ns, truth]) ns truth a' b') s = .ok (.d (.int ((2 ^ (2 ^ ns.length) : Nat) : Int))) s :=
            call_ok (ac_ok (call_ok (ac_ok (e1_ok (v_ok rfl) rfl) a0_ok) (w_pow n ns.length s (by omega))) a0_ok) (w_pow n (2 ^ ns.length) s (Nat.le_trans (Nat.pow_le_pow_right (by decide) hle) (by decide)))
          have ct : bnot (bv (call (runP prog (n + 1)) 0 (ac (v 5) (ac (k (.int 0)) (ac (call (runP prog (n + 1)) 4 (ac (call (runP prog (n + 1)) 4 (ac (Ev.e1 pLen (v 4)) (a0))) (a0))) (a0)))))) (tE kk node t (.tup [.tup ns, truth]) ns truth a' b') s = .ok (!isNum truth 0 ((2 ^ (2 ^ ns.length) : Nat) : Int)) s :=
            bnot_ok (bvb_ok (call_ok (ac_ok (v_ok rfl) (ac_ok k_ok (ac_ok pw a0_ok))) (w_is_number n truth 0 _ s)))
          have lf := for_vals (iEnum_tup (a := v 4) (E := tE kk node t (.tup [.tup ns, truth]) ns truth none none) (s := s) (v_ok rfl)) lp
          by_cases hT2 : isNum truth 0 ((2 ^ (2 ^ ns.length) : Nat) : Int) = true
          · have e : tabFault kk node (.tup [.tup ns, truth]) = none := by simp only [tabFault, if_neg hl, if_pos ho, if_pos hT2]
            rw [e]
            refine (runFn_nx (s' := s) rfl (sq_nx (sIf_f c1 nil_nx) (sq_nx s1 (sq_nx (sIf_f gt nil_nx) (sq_nx lf (sq_nx (sIf_f (ct.trans (by rw [hT2]; rfl)) nil_nx) nil_nx)))))).trans ?_
            rw [fin_same]
          · refine done 1 _ _ (sq_nx (sIf_f c1 nil_nx) (sq_nx s1 (sq_nx (sIf_f gt nil_nx) (sq_nx lf (sq_exc (sIf_t (ct.trans (by rw [Bool.eq_false_iff.mpr hT2]; rfl)) (bad 1 _ rfl))))))) ?_ rfl
            simp only [tabFault, if_neg hl, if_pos ho, if_neg hT2]; rfl
        · rw [if_neg ho] at lp
          have lf := for_vals (iEnum_tup (a := v 4) (E := tE kk node t (.tup [.tup ns, truth]) ns truth none none) (s := s) (v_ok rfl)) lp
          refine done 0 _ _ (sq_nx (sIf_f c1 nil_nx) (sq_nx s1 (sq_nx (sIf_f gt nil_nx) (sq_exc (lf.trans rfl))))) ?_ rfl
          simp only [tabFault, if_neg hl, if_neg ho]; rfl
    · exact done 0 _ _ (sq_nx (sIf_f c1 nil_nx) (sq_nx s1 (sq_exc (sIf_t (bor_t ((nottup (a := v 4) nodes (v_ok rfl)).trans (by rw [hn]; rfl))) (bad 0 _ rfl))))) hf rfl
  · have e : tabFault kk node table = some (-1) := by
      cases table with
      | tup xs =>
        match xs with
        | [a, b] => simp [isTup] at hT
        | [] => rfl
        | [_] => rfl
        | _ :: _ :: _ :: _ => rfl
      | _ => rfl
    have hF : isTup table 2 = false := by simpa using hT
    rw [e]
    refine (runFn_exc (s' := s) rfl (sq_exc (sIf_t ((r1 _ rfl).trans (by rw [hF]; rfl)) (sq_exc (raise_tup (tup_ok (ac_ok k_ok (ac_ok (v_ok rfl) a0_ok)) rfl (Nat.le_of_ble_eq_true rfl))))))).trans ?_
    rw [fin_same]; rfl
end K51
end
section
set_option linter.all false
set_option autoImplicit false
set_option maxRecDepth 100000
set_option maxHeartbeats 1000000
namespace K51
open PySem L2 Ev
def fE (kk node : Int) (table : Ev.D) (a b : Option Val) : Ev.Env := [some (.d (.int kk)), some (.d (.int node)), some (.d table), a, b]
theorem ix0 (x y : Ev.D) (s : Store) : pIx (.d (.tup [x, y])) (.d (.int 0)) s = .ok (.d x) s := rfl
theorem ix1 (x y : Ev.D) (s : Store) : pIx (.d (.tup [x, y])) (.d (.int 1)) s = .ok (.d y) s := rfl
theorem loop_tf (n : Nat) (kk node : Int) (truth : Ev.D) (s : Store) (all : List Ev.D) : ∀ (xs pre : List Ev.D) (a b : Option Val), all = pre ++ xs → D.plains pre = true → ∃ a' b',
    forV (tt [tn 3, tn 4]) (sq (sIf (bor (bnot (bv (call (runP prog (n + 1)) 9 (ac (v 4) (ac (v 1) (a0)))))) (bb (e2 pIn (v 4) (sl (e2 pIx (v 2) (k (.int 0))) (pn) (ps (v 3)))))) (sq (sRet (lst (ac (tup (ac (k (.int 0)) (a0))) (a0)))) (sNil)) (sNil)) (sNil)) ((enumD pre.length xs).map .d) (fE kk node (.tup [.tup all, truth]) a b) s =
      if nodesOk node pre xs = true then .nx (fE kk node (.tup [.tup all, truth]) a' b') s else .rt (.d (.lst [.tup [.int 0]])) s
  | [], pre, a, b, _, _ => ⟨a, b, by rw [nodesOk, if_pos rfl]; rfl⟩
  | x :: r, pre, a, b, he, hp => by
    have ht : (tt [tn 3, tn 4]) (.d (.tup [.int (pre.length : Int), x])) (fE kk node (.tup [.tup all, truth]) a b) s = some (fE kk node (.tup [.tup all, truth]) (some (.d (.int pre.length))) (some (.d x)), s) := rfl
    have hc : bnot (bv (call (runP prog (n + 1)) 9 (ac (v 4) (ac (v 1) (a0))))) (fE kk node (.tup [.tup all, truth]) (some (.d (.int pre.length))) (some (.d x))) s = .ok (!isNum x 0 node) s :=
      bnot_ok (bvb_ok (call_ok (ac_ok (v_ok rfl) (ac_ok (v_ok rfl) a0_ok)) (w_is_below n x node s)))
    have hnd : e2 pIx (v 2) (k (.int 0)) (fE kk node (.tup [.tup all, truth]) (some (.d (.int pre.length))) (some (.d x))) s = .ok (.d (.tup (pre ++ x :: r))) s := by
      rw [← he]; exact e2_ok (v_ok rfl) k_ok (ix0 _ _ _)
    have hb := bad_ok (x := x) (pre := pre) (r := x :: r) (node := node) (a := v 4) (j := v 3) (v_ok rfl) hnd (v_ok rfl) hc hp
    have enm : ((enumD pre.length (x :: r)).map Val.d) = .d (.tup [.int (pre.length : Int), x]) :: ((enumD (pre.length + 1) r).map Val.d) := rfl
    rw [enm]
    cases h : (isNum x 0 node && !inD x pre) with
    | false =>
      rw [h] at hb
      refine ⟨some (.d (.int pre.length)), some (.d x), ?_⟩
      have h2 : nodesOk node pre (x :: r) = false := by rw [nodesOk, ← Bool.and_assoc, h, Bool.false_and]
      rw [h2, if_neg Bool.false_ne_true]
      exact forV_rt ht (sq_rt (sIf_t hb (sq_rt (ret_ok (lst_ok (ac_ok (tup_ok (ac_ok k_ok a0_ok) rfl (Nat.le_of_ble_eq_true rfl)) a0_ok) rfl (Nat.le_of_ble_eq_true rfl))))))
    | true =>
      rw [h] at hb
      have h2 : nodesOk node pre (x :: r) = nodesOk node (pre ++ [x]) r := by rw [nodesOk, ← Bool.and_assoc, h, Bool.true_and]
      have hx : isNum x 0 node = true := (Bool.and_eq_true_iff.mp h).1
      obtain ⟨a', b', ih⟩ := loop_tf n kk node truth s all r (pre ++ [x]) (some (.d (.int pre.length))) (some (.d x)) (by rw [he, List.append_assoc]; rfl) (plains_snoc hp (plain_num hx))
      rw [List.length_append] at ih
      refine ⟨a', b', ?_⟩
      rw [h2]
      exact forV_nx ht (sq_nx (sIf_f hb nil_nx) nil_nx) ih
/-- as the law tells it -/
def tabTold : Option Int → Ev.D
  | none => .lst []
  | some j => .lst [if j < 0 then .tup [] else .tup [.int j]]
theorem w_table_fault (n : Nat) (kk node : Int) (table : Ev.D) (s : Store) (hk : kk ≤ 6) : runP prog (n + 2) 14 [.d (.int kk), .d (.int node), .d table] s = .ok (.d (tabTold (tabFault kk node table))) s := by
  rw [rp]
  have c0 : bnot (bv (call (runP prog (n + 1)) 12 (ac (v 2) (a0)))) (fE kk node table none none) s = .ok (!isTup table 2) s :=
    bnot_ok (bvb_ok (call_ok (ac_ok (v_ok rfl) a0_ok) (w_pair n table s)))
  have told1 : ∀ (j : Int) (E : Ev.Env), sq (sRet (lst (ac (tup (ac (k (.int j)) (a0))) (a0)))) sNil E s = .rt (.d (.lst [.tup [.int j]])) s := fun j E =>
    sq_rt (ret_ok (lst_ok (ac_ok (tup_ok (ac_ok k_ok a0_ok) rfl (Nat.le_of_ble_eq_true rfl)) a0_ok) rfl (Nat.le_of_ble_eq_true rfl)))
  have fin : ∀ x : Ev.D, e__law_table_fault (runP prog (n + 1)) (fE kk node table none none) s = .rt (.d x) s → tabTold (tabFault kk node table) = x → runFn ⟨3, 5, e__law_table_fault (runP prog (n + 1))⟩ [.d (.int kk), .d (.int node), .d table] s = .ok (.d (tabTold (tabFault kk node table))) s := fun x h1 h2 => by
    refine (runFn_rt (f := ⟨3, 5, e__law_table_fault (runP prog (n + 1))⟩) (xs := [.d (.int kk), .d (.int node), .d table]) rfl h1).trans ?_
    rw [fin_same, h2]
  by_cases hT : isTup table 2 = true
  · obtain ⟨nodes, truth, rfl⟩ : ∃ a b, table = .tup [a, b] := by
      cases table with
      | tup xs =>
        have hl : xs.length = 2 := by simpa [isTup] using hT
        match xs, hl with
        | [a, b], _ => exact ⟨a, b, rfl⟩
      | _ => simp [isTup] at hT
    have c1 := c0.trans (by rw [hT])
    have nd : ∀ a b, e2 pIx (v 2) (k (.int 0)) (fE kk node (.tup [nodes, truth]) a b) s = .ok (.d nodes) s := fun a b => e2_ok (v_ok rfl) k_ok (ix0 _ _ _)
    have td : ∀ a b, e2 pIx (v 2) (k (.int 1)) (fE kk node (.tup [nodes, truth]) a b) s = .ok (.d truth) s := fun a b => e2_ok (v_ok rfl) k_ok (ix1 _ _ _)
    have two : (∃ ns, nodes = .tup ns) ∨ (isT [.tuple] (tyD nodes) = false ∧ tabFault kk node (.tup [nodes, truth]) = some 0) := by
      cases nodes with
      | tup ns => exact .inl ⟨ns, rfl⟩
      | _ => exact .inr ⟨rfl, rfl⟩
    rcases two with ⟨ns, hn⟩ | ⟨hn, hf⟩
    · subst hn
      have ln : ∀ a b, Ev.e1 pLen (e2 pIx (v 2) (k (.int 0))) (fE kk node (.tup [.tup ns, truth]) a b) s = .ok (.d (.int ns.length)) s := fun a b => e1_ok (nd a b) rfl
      have it : bnot (bv (Ev.e1 (pIsi [.tuple]) (e2 pIx (v 2) (k (.int 0))))) (fE kk node (.tup [.tup ns, truth]) none none) s = .ok false s := nottup (.tup ns) (nd _ _)
      by_cases hl : (ns.length : Int) > kk
      · refine fin (.lst [.tup [.int 0]]) (sq_nx (sIf_f c1 nil_nx) (sq_rt (sIf_t (bor_f it (bb_ok (e2_ok (ln _ _) (v_ok rfl) ((pGt_ok _ _ _).trans (by rw [decide_eq_true hl]))))) (told1 0 _)))) ?_
        simp only [tabFault, if_pos hl]; rfl
      · have gt : bor (bnot (bv (Ev.e1 (pIsi [.tuple]) (e2 pIx (v 2) (k (.int 0)))))) (bb (e2 pGt (Ev.e1 pLen (e2 pIx (v 2) (k (.int 0)))) (v 0))) (fE kk node (.tup [.tup ns, truth]) none none) s = .ok false s := bor_f it (bb_ok (e2_ok (ln _ _) (v_ok rfl) ((pGt_ok _ _ _).trans (by rw [decide_eq_false hl]))))
        obtain ⟨a', b', lp⟩ := loop_tf n kk node truth s ns ns [] none none rfl rfl
        have lf := for_vals (iEnum_tup (nd none none)) lp
        by_cases ho : nodesOk node [] ns = true
        · rw [if_pos ho] at lf
          have hle : ns.length ≤ 6 := by omega
          have big : e2 pShl (k (.int 1)) (e2 pShl (k (.int 1)) (Ev.e1 pLen (e2 pIx (v 2) (k (.int 0))))) (fE kk node (.tup [.tup ns, truth]) a' b') s = .ok (.d (.int ((2 ^ (2 ^ ns.length) : Nat) : Int))) s := by
            have p6 : 2 ^ ns.length ≤ 2 ^ 6 := Nat.pow_le_pow_right (by decide) hle
            have i1 : e2 pShl (k (.int 1)) (Ev.e1 pLen (e2 pIx (v 2) (k (.int 0)))) (fE kk node (.tup [.tup ns, truth]) a' b') s = .ok (.d (.int ((2 ^ ns.length : Nat) : Int))) s := by
              refine e2_ok k_ok (ln _ _) ((pShl_ok _ (by omega) (by omega) (by decide)).trans ?_)
              rw [Int.toNat_natCast, Int.one_mul, Int.natCast_pow]; rfl
            refine e2_ok k_ok i1 ((pShl_ok _ (Int.natCast_nonneg _) (Int.ofNat_le.mpr (Nat.le_trans p6 (by decide))) (by decide)).trans ?_)
            rw [Int.toNat_natCast, Int.one_mul, Int.natCast_pow]; rfl
          have ct : bv (call (runP prog (n + 1)) 9 (ac (e2 pIx (v 2) (k (.int 1))) (ac (e2 pShl (k (.int 1)) (e2 pShl (k (.int 1)) (Ev.e1 pLen (e2 pIx (v 2) (k (.int 0)))))) (a0)))) (fE kk node (.tup [.tup ns, truth]) a' b') s = .ok (isNum truth 0 ((2 ^ (2 ^ ns.length) : Nat) : Int)) s :=
            bvb_ok (call_ok (ac_ok (td _ _) (ac_ok big a0_ok)) (w_is_below n truth _ s))
          by_cases hT2 : isNum truth 0 ((2 ^ (2 ^ ns.length) : Nat) : Int) = true
          · refine fin (.lst []) (sq_nx (sIf_f c1 nil_nx) (sq_nx (sIf_f gt nil_nx) (sq_nx lf (sq_rt (ret_ok (eif_t (ct.trans (by rw [hT2])) (lst_ok a0_ok rfl (Nat.le_of_ble_eq_true rfl)))))))) ?_
            simp only [tabFault, if_neg hl, if_pos ho, if_pos hT2]; rfl
          · refine fin (.lst [.tup [.int 1]]) (sq_nx (sIf_f c1 nil_nx) (sq_nx (sIf_f gt nil_nx) (sq_nx lf (sq_rt (ret_ok (eif_f (ct.trans (by rw [Bool.eq_false_iff.mpr hT2])) (lst_ok (ac_ok (tup_ok (ac_ok k_ok a0_ok) rfl (Nat.le_of_ble_eq_true rfl)) a0_ok) rfl (Nat.le_of_ble_eq_true rfl)))))))) ?_
            simp only [tabFault, if_neg hl, if_pos ho, if_neg hT2]; rfl
        · rw [if_neg ho] at lf
          refine fin (.lst [.tup [.int 0]]) (sq_nx (sIf_f c1 nil_nx) (sq_nx (sIf_f gt nil_nx) (sq_rt lf))) ?_
          simp only [tabFault, if_neg hl, if_neg ho]; rfl
    · refine fin (.lst [.tup [.int 0]]) (sq_nx (sIf_f c1 nil_nx) (sq_rt (sIf_t (bor_t ((nottup (a := e2 pIx (v 2) (k (.int 0))) nodes (nd _ _)).trans (by rw [hn]; rfl))) (told1 0 _)))) ?_
      rw [hf]; rfl
  · have e : tabFault kk node table = some (-1) := by
      cases table with
      | tup xs =>
        match xs with
        | [a, b] => simp [isTup] at hT
        | [] => rfl
        | [_] => rfl
        | _ :: _ :: _ :: _ => rfl
      | _ => rfl
    have hF : isTup table 2 = false := by simpa using hT
    refine fin (.lst [.tup []]) (sq_rt (sIf_t (c0.trans (by rw [hF]; rfl)) (sq_rt (ret_ok (lst_ok (ac_ok (tup_ok a0_ok rfl (Nat.le_of_ble_eq_true rfl)) a0_ok) rfl (Nat.le_of_ble_eq_true rfl)))))) ?_
    rw [e]; rfl
end K51
end
section
set_option linter.all false
set_option autoImplicit false
set_option maxRecDepth 100000
set_option maxHeartbeats 1000000
namespace K51
open PySem L2 Ev
/-! ### what is wrong with a net: the path -/
def at0 : Ev.D → Ev.D | .tup (a :: _) => a | _ => .non
def at1 : Ev.D → Ev.D | .tup (_ :: b :: _) => b | _ => .non
def regBad1 : Nat → List Ev.D → Option Ev.D
  | _, [] => none
  | i, reg :: r => if isTup reg 2 = true then (if isNum (at0 reg) 0 2 = true then regBad1 (i + 1) r else some (.tup [.int 2, .int i, .int 0])) else some (.tup [.int 2, .int i])
def tabsBad (kk first : Int) : Nat → List Ev.D → Option Ev.D
  | _, [] => none
  | i, t :: r => match tabFault kk (first + i) t with | some j => some (tabPath i j) | none => tabsBad kk first (i + 1) r
def regBad2 (bound : Int) : Nat → List Ev.D → Option Ev.D
  | _, [] => none
  | i, reg :: r => if isNum (at1 reg) 0 bound = true then regBad2 bound (i + 1) r else some (.tup [.int 2, .int i, .int 1])
def outsBad (bound : Int) : Nat → List Ev.D → Option Ev.D
  | _, [] => none
  | i, x :: r => if isNum x 0 bound = true then outsBad bound (i + 1) r else some (.tup [.int 4, .int i])
def orElse (a b : Option Ev.D) : Option Ev.D := match a with | some x => some x | none => b
def intOf : Ev.D → Int | .int i => i | _ => 0
def asTup : Ev.D → Option (List Ev.D) | .tup xs => some xs | _ => none
def netFault (x : Ev.D) : Option Ev.D := match x with
  | .tup [kd, ins, regs, tables, outs] =>
    if isNum kd 2 7 = true then (if isNum ins 0 (10 ^ 60) = true then (match asTup regs with
      | some rs => orElse (regBad1 0 rs) (match asTup tables with
        | some ts => orElse (tabsBad (intOf kd) (1 + intOf ins + rs.length) 0 ts) (orElse (regBad2 (1 + intOf ins + rs.length + ts.length) 0 rs) (match asTup outs with
          | some os => outsBad (1 + intOf ins + rs.length + ts.length) 0 os
          | none => some (.tup [.int 4])))
        | none => some (.tup [.int 3]))
      | none => some (.tup [.int 2])) else some (.tup [.int 1])) else some (.tup [.int 0])
  | _ => some (.tup [])
/-- the slots of check_net -/
def cE (x kd ins regs tables outs : Ev.D) (a b c d e f g : Option Val) : Ev.Env := [some (.d x), some (.d kd), some (.d ins), some (.d regs), some (.d tables), some (.d outs), a, b, c, d, e, f, g]
theorem le_line {n : Nat} (h : Nat.ble n line = true) : n ≤ line := Nat.le_of_ble_eq_true h
theorem reg2 {reg : Ev.D} (h : isTup reg 2 = true) : ∃ a b, reg = .tup [a, b] := by
  cases reg with
  | tup xs =>
    have hl : xs.length = 2 := by simpa [isTup] using h
    match xs, hl with
    | [a, b], _ => exact ⟨a, b, rfl⟩
  | _ => simp [isTup] at h
section
variable (n : Nat) (x kd ins tables outs : Ev.D) (s : Store) (rs : List Ev.D)
theorem loop_r1 : ∀ (xs : List Ev.D) (i : Nat) (a b : Option Val), ∃ a' b',
    forV (tt [tn 6, tn 7]) (sq (sIf (bnot (bv (call (runP prog (n + 1)) 1 (ac (v 7) (ac (k (.int 2)) (a0)))))) (sq (sRaise 0 .tuple "path" (tup (ac (k (.int 2)) (ac (v 6) (a0))))) (sNil)) (sNil)) (sq (sIf (bnot (bv (call (runP prog (n + 1)) 0 (ac (e2 pIx (v 7) (k (.int 0))) (ac (k (.int 0)) (ac (k (.int 2)) (a0))))))) (sq (sRaise 0 .tuple "path" (tup (ac (k (.int 2)) (ac (v 6) (ac (k (.int 0)) (a0)))))) (sNil)) (sNil)) (sNil))) ((enumD i xs).map .d) (cE x kd ins (.tup rs) tables outs a b none none none none none) s =
      match regBad1 i xs with | none => .nx (cE x kd ins (.tup rs) tables outs a' b' none none none none none) s | some p => .exc 0 [("path", p)] (cE x kd ins (.tup rs) tables outs a' b' none none none none none) s
  | [], i, a, b => ⟨a, b, rfl⟩
  | reg :: r, i, a, b => by
    have ht : (tt [tn 6, tn 7]) (.d (.tup [.int (i : Int), reg])) (cE x kd ins (.tup rs) tables outs a b none none none none none) s = some (cE x kd ins (.tup rs) tables outs (some (.d (.int i))) (some (.d reg)) none none none none none, s) := rfl
    have c1 : bnot (bv (call (runP prog (n + 1)) 1 (ac (v 7) (ac (k (.int 2)) (a0))))) (cE x kd ins (.tup rs) tables outs (some (.d (.int i))) (some (.d reg)) none none none none none) s = .ok (!isTup reg 2) s :=
      bnot_ok (bvb_ok (call_ok (ac_ok (v_ok rfl) (ac_ok k_ok a0_ok)) (w_is_tuple_of n reg 2 s)))
    have enm : ((enumD i (reg :: r)).map Val.d) = .d (.tup [.int (i : Int), reg]) :: ((enumD (i + 1) r).map Val.d) := rfl
    rw [enm]
    by_cases h1 : isTup reg 2 = true
    · obtain ⟨p, q, rfl⟩ := reg2 h1
      have c2 : bnot (bv (call (runP prog (n + 1)) 0 (ac (e2 pIx (v 7) (k (.int 0))) (ac (k (.int 0)) (ac (k (.int 2)) (a0)))))) (cE x kd ins (.tup rs) tables outs (some (.d (.int i))) (some (.d (.tup [p, q]))) none none none none none) s = .ok (!isNum p 0 2) s :=
        bnot_ok (bvb_ok (call_ok (ac_ok (e2_ok (v_ok rfl) k_ok (ix0 _ _ _)) (ac_ok k_ok (ac_ok k_ok a0_ok))) (w_is_number n p 0 2 s)))
      by_cases h2 : isNum p 0 2 = true
      · obtain ⟨a', b', ih⟩ := loop_r1 r (i + 1) (some (.d (.int i))) (some (.d (.tup [p, q])))
        refine ⟨a', b', ?_⟩
        have e : regBad1 i (.tup [p, q] :: r) = regBad1 (i + 1) r := by rw [regBad1, if_pos h1]; exact if_pos h2
        rw [e]
        exact forV_nx ht (sq_nx (sIf_f (c1.trans (by rw [h1]; rfl)) nil_nx) (sq_nx (sIf_f (c2.trans (by rw [h2]; rfl)) nil_nx) nil_nx)) ih
      · have e : regBad1 i (.tup [p, q] :: r) = some (.tup [.int 2, .int i, .int 0]) := by rw [regBad1, if_pos h1]; exact if_neg h2
        rw [e]
        exact ⟨_, _, forV_exc ht (sq_nx (sIf_f (c1.trans (by rw [h1]; rfl)) nil_nx) (sq_exc (sIf_t (c2.trans (by rw [Bool.eq_false_iff.mpr h2]; rfl)) (sq_exc (raise_tup (tup_ok (ac_ok k_ok (ac_ok (v_ok rfl) (ac_ok k_ok a0_ok))) rfl (le_line rfl)))))))⟩
    · have e : regBad1 i (reg :: r) = some (.tup [.int 2, .int i]) := by rw [regBad1, if_neg h1]
      rw [e]
      exact ⟨_, _, forV_exc ht (sq_exc (sIf_t (c1.trans (by rw [Bool.eq_false_iff.mpr h1]; rfl)) (sq_exc (raise_tup (tup_ok (ac_ok k_ok (ac_ok (v_ok rfl) a0_ok)) rfl (le_line rfl))))))⟩
theorem loop_tabs (kk : Int) (hk : kk ≤ 6) (first : Int) (regs : Ev.D) (a b : Option Val) : ∀ (xs : List Ev.D) (i : Nat) (d e : Option Val), ∃ d' e',
    forV (tt [tn 9, tn 10]) (sq (sExp (call (runP prog (n + 2)) 3 (ac (v 1) (ac (e2 pAdd (v 8) (v 9)) (ac (v 9) (ac (v 10) (a0))))))) (sNil)) ((enumD i xs).map .d) (cE x (.int kk) ins regs tables outs a b (some (.d (.int first))) d e none none) s =
      match tabsBad kk first i xs with | none => .nx (cE x (.int kk) ins regs tables outs a b (some (.d (.int first))) d' e' none none) s | some p => .exc 0 [("path", p)] (cE x (.int kk) ins regs tables outs a b (some (.d (.int first))) d' e' none none) s
  | [], i, d, e => ⟨d, e, rfl⟩
  | t :: r, i, d, e => by
    have ht : (tt [tn 9, tn 10]) (.d (.tup [.int (i : Int), t])) (cE x (.int kk) ins regs tables outs a b (some (.d (.int first))) d e none none) s = some (cE x (.int kk) ins regs tables outs a b (some (.d (.int first))) (some (.d (.int i))) (some (.d t)) none none, s) := rfl
    have enm : ((enumD i (t :: r)).map Val.d) = .d (.tup [.int (i : Int), t]) :: ((enumD (i + 1) r).map Val.d) := rfl
    rw [enm]
    have cl : call (runP prog (n + 2)) 3 (ac (v 1) (ac (e2 pAdd (v 8) (v 9)) (ac (v 9) (ac (v 10) (a0))))) (cE x (.int kk) ins regs tables outs a b (some (.d (.int first))) (some (.d (.int i))) (some (.d t)) none none) s = match tabFault kk (first + i) t with | none => .ok (.d .non) s | some j => .exc 0 [("path", tabPath i j)] s :=
      call_ok (ac_ok (v_ok rfl) (ac_ok (e2_ok (v_ok rfl) (v_ok rfl) (pAdd_ok _ _ _)) (ac_ok (v_ok rfl) (ac_ok (v_ok rfl) a0_ok)))) (w_check_table n kk (first + i) i t s hk)
    cases h : tabFault kk (first + i) t with
    | none =>
      rw [h] at cl
      obtain ⟨d', e', ih⟩ := loop_tabs kk hk first regs a b r (i + 1) (some (.d (.int i))) (some (.d t))
      refine ⟨d', e', ?_⟩
      have eq : tabsBad kk first i (t :: r) = tabsBad kk first (i + 1) r := by rw [tabsBad, h]
      rw [eq]
      exact forV_nx ht (sq_nx (exp_ok cl) nil_nx) ih
    | some j =>
      rw [h] at cl
      have eq : tabsBad kk first i (t :: r) = some (tabPath i j) := by rw [tabsBad, h]
      rw [eq]
      exact ⟨_, _, forV_exc ht (sq_exc (exp_exc cl))⟩
end
end K51
end
section
set_option linter.all false
set_option autoImplicit false
set_option maxRecDepth 100000
set_option maxHeartbeats 1000000
namespace K51
open PySem L2 Ev
theorem regs_two : ∀ (xs : List Ev.D) (i : Nat), regBad1 i xs = none → ∀ r ∈ xs, isTup r 2 = true
  | [], _, _, r, h => by cases h
  | reg :: xs, i, h, r, hr => by
    rw [regBad1] at h
    split at h
    · rename_i h1
      split at h
      · rcases List.mem_cons.mp hr with rfl | hm
        · exact h1
        · exact regs_two xs (i + 1) h r hm
      · cases h
    · cases h
theorem lt_beyond {i : Int} (h : i.natAbs < 10 ^ 60) : isNum (.int i) 0 (i + 1) = isNum (.int i) 0 (10 ^ 60) := by
  have : i < 10 ^ 60 := by
    have h2 : ((10 ^ 60 : Nat) : Int) = (10 : Int) ^ 60 := Int.natCast_pow 10 60
    rw [← h2]; omega
  simp only [isNum, decide_eq_true this, decide_eq_true (show i < i + 1 by omega)]
section
variable (n : Nat) (x kd ins outs : Ev.D) (s : Store) (ts : List Ev.D)
theorem loop_r2 (rs : List Ev.D) (first : Int) (d e : Option Val) : ∀ (xs : List Ev.D) (i : Nat) (a b : Option Val), (∀ r ∈ xs, isTup r 2 = true) → ∃ a' b',
    forV (tt [tn 6, tn 7]) (sq (sIf (bnot (bv (call (runP prog (n + 1)) 0 (ac (e2 pIx (v 7) (k (.int 1))) (ac (k (.int 0)) (ac (e2 pAdd (v 8) (Ev.e1 pLen (v 4))) (a0))))))) (sq (sRaise 0 .tuple "path" (tup (ac (k (.int 2)) (ac (v 6) (ac (k (.int 1)) (a0)))))) (sNil)) (sNil)) (sNil)) ((enumD i xs).map .d) (cE x kd ins (.tup rs) (.tup ts) outs a b (some (.d (.int first))) d e none none) s =
      match regBad2 (first + ts.length) i xs with | none => .nx (cE x kd ins (.tup rs) (.tup ts) outs a' b' (some (.d (.int first))) d e none none) s | some p => .exc 0 [("path", p)] (cE x kd ins (.tup rs) (.tup ts) outs a' b' (some (.d (.int first))) d e none none) s
  | [], i, a, b, _ => ⟨a, b, rfl⟩
  | reg :: r, i, a, b, hall => by
    obtain ⟨p, q, rfl⟩ := reg2 (hall reg (List.mem_cons_self ..))
    have ht : (tt [tn 6, tn 7]) (.d (.tup [.int (i : Int), .tup [p, q]])) (cE x kd ins (.tup rs) (.tup ts) outs a b (some (.d (.int first))) d e none none) s = some (cE x kd ins (.tup rs) (.tup ts) outs (some (.d (.int i))) (some (.d (.tup [p, q]))) (some (.d (.int first))) d e none none, s) := rfl
    have enm : ((enumD i (.tup [p, q] :: r)).map Val.d) = .d (.tup [.int (i : Int), .tup [p, q]]) :: ((enumD (i + 1) r).map Val.d) := rfl
    rw [enm]
    have c2 : bnot (bv (call (runP prog (n + 1)) 0 (ac (e2 pIx (v 7) (k (.int 1))) (ac (k (.int 0)) (ac (e2 pAdd (v 8) (Ev.e1 pLen (v 4))) (a0)))))) (cE x kd ins (.tup rs) (.tup ts) outs (some (.d (.int i))) (some (.d (.tup [p, q]))) (some (.d (.int first))) d e none none) s = .ok (!isNum q 0 (first + ts.length)) s :=
      bnot_ok (bvb_ok (call_ok (ac_ok (e2_ok (v_ok rfl) k_ok (ix1 _ _ _)) (ac_ok k_ok (ac_ok (e2_ok (v_ok rfl) (e1_ok (v_ok rfl) rfl) (pAdd_ok _ _ _)) a0_ok))) (w_is_number n q 0 _ s)))
    by_cases h2 : isNum q 0 (first + ts.length) = true
    · obtain ⟨a', b', ih⟩ := loop_r2 rs first d e r (i + 1) (some (.d (.int i))) (some (.d (.tup [p, q]))) (fun r hr => hall r (List.mem_cons_of_mem _ hr))
      refine ⟨a', b', ?_⟩
      have eq : regBad2 (first + ts.length) i (.tup [p, q] :: r) = regBad2 (first + ts.length) (i + 1) r := by rw [regBad2]; exact if_pos h2
      rw [eq]
      exact forV_nx ht (sq_nx (sIf_f (c2.trans (by rw [h2]; rfl)) nil_nx) nil_nx) ih
    · have eq : regBad2 (first + ts.length) i (.tup [p, q] :: r) = some (.tup [.int 2, .int i, .int 1]) := by rw [regBad2]; exact if_neg h2
      rw [eq]
      exact ⟨_, _, forV_exc ht (sq_exc (sIf_t (c2.trans (by rw [Bool.eq_false_iff.mpr h2]; rfl)) (sq_exc (raise_tup (tup_ok (ac_ok k_ok (ac_ok (v_ok rfl) (ac_ok k_ok a0_ok))) rfl (le_line rfl))))))⟩
theorem loop_outs (regs : Ev.D) (first : Int) (a b d e : Option Val) : ∀ (xs : List Ev.D) (i : Nat) (f g : Option Val), ∃ f' g',
    forV (tt [tn 11, tn 12]) (sq (sIf (bnot (bv (call (runP prog (n + 1)) 0 (ac (v 12) (ac (k (.int 0)) (ac (e2 pAdd (v 8) (Ev.e1 pLen (v 4))) (a0))))))) (sq (sRaise 0 .tuple "path" (tup (ac (k (.int 4)) (ac (v 11) (a0))))) (sNil)) (sNil)) (sNil)) ((enumD i xs).map .d) (cE x kd ins regs (.tup ts) outs a b (some (.d (.int first))) d e f g) s =
      match outsBad (first + ts.length) i xs with | none => .nx (cE x kd ins regs (.tup ts) outs a b (some (.d (.int first))) d e f' g') s | some p => .exc 0 [("path", p)] (cE x kd ins regs (.tup ts) outs a b (some (.d (.int first))) d e f' g') s
  | [], i, f, g => ⟨f, g, rfl⟩
  | o :: r, i, f, g => by
    have ht : (tt [tn 11, tn 12]) (.d (.tup [.int (i : Int), o])) (cE x kd ins regs (.tup ts) outs a b (some (.d (.int first))) d e f g) s = some (cE x kd ins regs (.tup ts) outs a b (some (.d (.int first))) d e (some (.d (.int i))) (some (.d o)), s) := rfl
    have enm : ((enumD i (o :: r)).map Val.d) = .d (.tup [.int (i : Int), o]) :: ((enumD (i + 1) r).map Val.d) := rfl
    rw [enm]
    have c2 : bnot (bv (call (runP prog (n + 1)) 0 (ac (v 12) (ac (k (.int 0)) (ac (e2 pAdd (v 8) (Ev.e1 pLen (v 4))) (a0)))))) (cE x kd ins regs (.tup ts) outs a b (some (.d (.int first))) d e (some (.d (.int i))) (some (.d o))) s = .ok (!isNum o 0 (first + ts.length)) s :=
      bnot_ok (bvb_ok (call_ok (ac_ok (v_ok rfl) (ac_ok k_ok (ac_ok (e2_ok (v_ok rfl) (e1_ok (v_ok rfl) rfl) (pAdd_ok _ _ _)) a0_ok))) (w_is_number n o 0 _ s)))
    by_cases h2 : isNum o 0 (first + ts.length) = true
    · obtain ⟨a', b', ih⟩ := loop_outs regs first a b d e r (i + 1) (some (.d (.int i))) (some (.d o))
      refine ⟨a', b', ?_⟩
      have eq : outsBad (first + ts.length) i (o :: r) = outsBad (first + ts.length) (i + 1) r := by rw [outsBad]; exact if_pos h2
      rw [eq]
      exact forV_nx ht (sq_nx (sIf_f (c2.trans (by rw [h2]; rfl)) nil_nx) nil_nx) ih
    · have eq : outsBad (first + ts.length) i (o :: r) = some (.tup [.int 4, .int i]) := by rw [outsBad]; exact if_neg h2
      rw [eq]
      exact ⟨_, _, forV_exc ht (sq_exc (sIf_t (c2.trans (by rw [Bool.eq_false_iff.mpr h2]; rfl)) (sq_exc (raise_tup (tup_ok (ac_ok k_ok (ac_ok (v_ok rfl) a0_ok)) rfl (le_line rfl))))))⟩
end
theorem tup5 {x : Ev.D} (h : isTup x 5 = true) : ∃ a b c d e, x = .tup [a, b, c, d, e] := by
  cases x with
  | tup xs =>
    have hl : xs.length = 5 := by simpa [isTup] using h
    match xs, hl with
    | [a, b, c, d, e], _ => exact ⟨a, b, c, d, e, rfl⟩
  | _ => simp [isTup] at h
theorem is_tup_or (x : Ev.D) : (∃ xs, x = .tup xs) ∨ (isT [.tuple] (tyD x) = false ∧ asTup x = none) := by
  cases x with
  | tup xs => exact .inl ⟨xs, rfl⟩
  | _ => exact .inr ⟨rfl, rfl⟩
theorem asTup_tup (xs : List Ev.D) : asTup (.tup xs) = some xs := rfl
theorem ins_ok (n : Nat) (E : Ev.Env) (s : Store) (ins : Ev.D) (hi : good ins = true) (h : ∀ s, v 2 E s = .ok (.d ins) s) : bnot (bv (call (runP prog (n + 1)) 0 (ac (v 2) (ac (k (.int 0)) (ac (eif (bv (Ev.e1 (pIsi [.int]) (v 2))) (e2 pAdd (v 2) (k (.int 1))) (k (.int 0))) (a0)))))) E s = .ok (!isNum ins 0 (10 ^ 60)) s := by
  have c : bv (Ev.e1 (pIsi [.int]) (v 2)) E s = .ok (isT [.int] (tyD ins)) s := bvb_ok (e1_ok (h s) rfl)
  have go : ∀ j : Int, eif (bv (Ev.e1 (pIsi [.int]) (v 2))) (e2 pAdd (v 2) (k (.int 1))) (k (.int 0)) E s = .ok (.d (.int j)) s → isNum ins 0 j = isNum ins 0 (10 ^ 60) → bnot (bv (call (runP prog (n + 1)) 0 (ac (v 2) (ac (k (.int 0)) (ac (eif (bv (Ev.e1 (pIsi [.int]) (v 2))) (e2 pAdd (v 2) (k (.int 1))) (k (.int 0))) (a0)))))) E s = .ok (!isNum ins 0 (10 ^ 60)) s := fun j h1 h2 => by
    rw [← h2]
    exact bnot_ok (bvb_ok (call_ok (ac_ok (h s) (ac_ok k_ok (ac_ok h1 a0_ok))) (w_is_number n ins 0 j s)))
  cases ins with
  | int i => exact go (i + 1) (eif_t c (e2_ok (h s) k_ok (pAdd_ok _ _ _))) (lt_beyond (of_decide_eq_true hi))
  | bl b => exact go ((if b = true then 1 else 0) + 1) (eif_t c (e2_ok (h s) k_ok rfl)) rfl
  | _ => exact go 0 (eif_f c k_ok) rfl
theorem w_check_net (n : Nat) (x : Ev.D) (s : Store) (hg : good x = true) : runP prog (n + 3) 2 [.d x] s = match netFault x with | none => .ok (.d .non) s | some p => .exc 0 [("path", p)] s := by
  rw [rp]
  have bad : ∀ (p : Ev.D) (E : Ev.Env), e_check_net (runP prog (n + 2)) (([.d x] : List Val).map some ++ List.replicate (13 - 1) none) s = .exc 0 [("path", p)] E s → netFault x = some p → runFn ⟨1, 13, e_check_net (runP prog (n + 2))⟩ [.d x] s = match netFault x with | none => .ok (.d .non) s | some p => .exc 0 [("path", p)] s := fun p E h1 h2 => by
    rw [runFn_exc rfl h1, h2, fin_same]
  have c0 : bnot (bv (call (runP prog (n + 2)) 1 (ac (v 0) (ac (k (.int 5)) (a0))))) (([.d x] : List Val).map some ++ List.replicate (13 - 1) none) s = .ok (!isTup x 5) s :=
    bnot_ok (bvb_ok (call_ok (ac_ok (v_ok rfl) (ac_ok k_ok a0_ok)) (w_is_tuple_of (n + 1) x 5 s)))
  have r1 : ∀ (j : Int) (E : Ev.Env), sq (sRaise 0 .tuple "path" (tup (ac (k (.int j)) (a0)))) sNil E s = .exc 0 [("path", .tup [.int j])] E s := fun j E => sq_exc (raise_tup (tup_ok (ac_ok k_ok a0_ok) rfl (le_line rfl)))
  by_cases h5 : isTup x 5 = true
  · obtain ⟨kd, ins, regs, tables, outs, rfl⟩ := tup5 h5
    have hins : good ins = true := by
      have : goods [kd, ins, regs, tables, outs] = true := by simpa [good] using hg
      simp only [goods, Bool.and_eq_true] at this
      exact this.2.1
    have s0 : sSet (tt [tn 1, tn 2, tn 3, tn 4, tn 5]) (v 0) (([.d (.tup [kd, ins, regs, tables, outs])] : List Val).map some ++ List.replicate (13 - 1) none) s = .nx (cE (.tup [kd, ins, regs, tables, outs]) kd ins regs tables outs none none none none none none none) s := set_ok (v_ok rfl) rfl
    have ck : bnot (bv (call (runP prog (n + 2)) 0 (ac (v 1) (ac (k (.int 2)) (ac (k (.int 7)) (a0)))))) (cE (.tup [kd, ins, regs, tables, outs]) kd ins regs tables outs none none none none none none none) s = .ok (!isNum kd 2 7) s :=
      bnot_ok (bvb_ok (call_ok (ac_ok (v_ok rfl) (ac_ok k_ok (ac_ok k_ok a0_ok))) (w_is_number (n + 1) kd 2 7 s)))
    have c0' := c0.trans (by rw [h5])
    by_cases hk : isNum kd 2 7 = true
    · have ci := ins_ok (n + 1) (cE (.tup [kd, ins, regs, tables, outs]) kd ins regs tables outs none none none none none none none) s ins hins (fun _ => rfl)
      have ck' := ck.trans (by rw [hk])
      by_cases hi : isNum ins 0 (10 ^ 60) = true
      · have ci' := ci.trans (by rw [hi])
        obtain ⟨kk, rfl, _, hk7⟩ := isNum_int hk
        obtain ⟨ii, rfl, _, _⟩ := isNum_int hi
        have nf : ∀ r, netFault (.tup [.int kk, .int ii, r, tables, outs]) = (match asTup r with
            | some rs => orElse (regBad1 0 rs) (match asTup tables with
              | some ts => orElse (tabsBad kk (1 + ii + rs.length) 0 ts) (orElse (regBad2 (1 + ii + rs.length + ts.length) 0 rs) (match asTup outs with
                | some os => outsBad (1 + ii + rs.length + ts.length) 0 os
                | none => some (.tup [.int 4])))
              | none => some (.tup [.int 3]))
            | none => some (.tup [.int 2])) := fun r => by
          simp only [netFault, if_pos hk, if_pos hi, intOf]
          all_goals rfl
        rcases is_tup_or regs with ⟨rs, rfl⟩ | ⟨hr, hr2⟩
        · have t3 := nottup (a := v 3) (E := cE (.tup [.int kk, .int ii, .tup rs, tables, outs]) (.int kk) (.int ii) (.tup rs) tables outs none none none none none none none) (s := s) (.tup rs) (v_ok rfl)
          obtain ⟨a1, b1, l1⟩ := loop_r1 (n + 1) (.tup [.int kk, .int ii, .tup rs, tables, outs]) (.int kk) (.int ii) tables outs s rs rs 0 none none
          have f1 := for_vals (iEnum_tup (a := v 3) (E := cE (.tup [.int kk, .int ii, .tup rs, tables, outs]) (.int kk) (.int ii) (.tup rs) tables outs none none none none none none none) (s := s) (xs := rs) (v_ok rfl)) l1
          cases e1 : regBad1 0 rs with
          | some p =>
            rw [e1] at f1
            exact bad p _ (sq_nx (sIf_f c0' nil_nx) (sq_nx s0 (sq_nx (sIf_f ck' nil_nx) (sq_nx (sIf_f ci' nil_nx) (sq_nx (sIf_f t3 nil_nx) (sq_exc f1)))))) (by rw [nf]; simp only [asTup_tup, e1, orElse])
          | none =>
            rw [e1] at f1
            have two := regs_two rs 0 e1
            rcases is_tup_or tables with ⟨ts, rfl⟩ | ⟨hts, hts2⟩
            · have t4 := nottup (a := v 4) (E := cE (.tup [.int kk, .int ii, .tup rs, .tup ts, outs]) (.int kk) (.int ii) (.tup rs) (.tup ts) outs a1 b1 none none none none none) (s := s) (.tup ts) (v_ok rfl)
              have s8 : sSet (tn 8) (e2 pAdd (e2 pAdd (k (.int 1)) (v 2)) (Ev.e1 pLen (v 3))) (cE (.tup [.int kk, .int ii, .tup rs, .tup ts, outs]) (.int kk) (.int ii) (.tup rs) (.tup ts) outs a1 b1 none none none none none) s = .nx (cE (.tup [.int kk, .int ii, .tup rs, .tup ts, outs]) (.int kk) (.int ii) (.tup rs) (.tup ts) outs a1 b1 (some (.d (.int (1 + ii + rs.length)))) none none none none) s :=
                set_tn (e2_ok (e2_ok k_ok (v_ok rfl) (pAdd_ok _ _ _)) (e1_ok (v_ok rfl) rfl) (pAdd_ok _ _ _))
              obtain ⟨d1, g1, l2⟩ := loop_tabs n (.tup [.int kk, .int ii, .tup rs, .tup ts, outs]) (.int ii) (.tup ts) outs s kk (by omega) (1 + ii + rs.length) (.tup rs) a1 b1 ts 0 none none
              have f2 := for_vals (iEnum_tup (a := v 4) (E := cE (.tup [.int kk, .int ii, .tup rs, .tup ts, outs]) (.int kk) (.int ii) (.tup rs) (.tup ts) outs a1 b1 (some (.d (.int (1 + ii + rs.length)))) none none none none) (s := s) (xs := ts) (v_ok rfl)) l2
              cases e2' : tabsBad kk (1 + ii + rs.length) 0 ts with
              | some p =>
                rw [e2'] at f2
                exact bad p _ (sq_nx (sIf_f c0' nil_nx) (sq_nx s0 (sq_nx (sIf_f ck' nil_nx) (sq_nx (sIf_f ci' nil_nx) (sq_nx (sIf_f t3 nil_nx) (sq_nx f1 (sq_nx (sIf_f t4 nil_nx) (sq_nx s8 (sq_exc f2))))))))) (by rw [nf]; simp only [asTup_tup, e1, orElse, e2'])
              | none =>
                rw [e2'] at f2
                obtain ⟨a2, b2, l3⟩ := loop_r2 (n + 1) (.tup [.int kk, .int ii, .tup rs, .tup ts, outs]) (.int kk) (.int ii) outs s ts rs (1 + ii + rs.length) d1 g1 rs 0 a1 b1 two
                have f3 := for_vals (iEnum_tup (a := v 3) (E := cE (.tup [.int kk, .int ii, .tup rs, .tup ts, outs]) (.int kk) (.int ii) (.tup rs) (.tup ts) outs a1 b1 (some (.d (.int (1 + ii + rs.length)))) d1 g1 none none) (s := s) (xs := rs) (v_ok rfl)) l3
                cases e3 : regBad2 (1 + ii + rs.length + ts.length) 0 rs with
                | some p =>
                  rw [e3] at f3
                  exact bad p _ (sq_nx (sIf_f c0' nil_nx) (sq_nx s0 (sq_nx (sIf_f ck' nil_nx) (sq_nx (sIf_f ci' nil_nx) (sq_nx (sIf_f t3 nil_nx) (sq_nx f1 (sq_nx (sIf_f t4 nil_nx) (sq_nx s8 (sq_nx f2 (sq_exc f3)))))))))) (by rw [nf]; simp only [asTup_tup, e1, orElse, e2', e3])
                | none =>
                  rw [e3] at f3
                  rcases is_tup_or outs with ⟨os, rfl⟩ | ⟨ho, ho2⟩
                  · have t5 := nottup (a := v 5) (E := cE (.tup [.int kk, .int ii, .tup rs, .tup ts, .tup os]) (.int kk) (.int ii) (.tup rs) (.tup ts) (.tup os) a2 b2 (some (.d (.int (1 + ii + rs.length)))) d1 g1 none none) (s := s) (.tup os) (v_ok rfl)
                    obtain ⟨p1, q1, l4⟩ := loop_outs (n + 1) (.tup [.int kk, .int ii, .tup rs, .tup ts, .tup os]) (.int kk) (.int ii) (.tup os) s ts (.tup rs) (1 + ii + rs.length) a2 b2 d1 g1 os 0 none none
                    have f4 := for_vals (iEnum_tup (a := v 5) (E := cE (.tup [.int kk, .int ii, .tup rs, .tup ts, .tup os]) (.int kk) (.int ii) (.tup rs) (.tup ts) (.tup os) a2 b2 (some (.d (.int (1 + ii + rs.length)))) d1 g1 none none) (s := s) (xs := os) (v_ok rfl)) l4
                    cases e4 : outsBad (1 + ii + rs.length + ts.length) 0 os with
                    | some p =>
                      rw [e4] at f4
                      exact bad p _ (sq_nx (sIf_f c0' nil_nx) (sq_nx s0 (sq_nx (sIf_f ck' nil_nx) (sq_nx (sIf_f ci' nil_nx) (sq_nx (sIf_f t3 nil_nx) (sq_nx f1 (sq_nx (sIf_f t4 nil_nx) (sq_nx s8 (sq_nx f2 (sq_nx f3 (sq_nx (sIf_f t5 nil_nx) (sq_exc f4)))))))))))) (by rw [nf]; simp only [asTup_tup, e1, orElse, e2', e3, e4])
                    | none =>
                      rw [e4] at f4
                      have e5 : netFault (.tup [.int kk, .int ii, .tup rs, .tup ts, .tup os]) = none := by rw [nf]; simp only [asTup_tup, e1, orElse, e2', e3, e4]
                      rw [e5]
                      refine (runFn_nx (s' := s) rfl (sq_nx (sIf_f c0' nil_nx) (sq_nx s0 (sq_nx (sIf_f ck' nil_nx) (sq_nx (sIf_f ci' nil_nx) (sq_nx (sIf_f t3 nil_nx) (sq_nx f1 (sq_nx (sIf_f t4 nil_nx) (sq_nx s8 (sq_nx f2 (sq_nx f3 (sq_nx (sIf_f t5 nil_nx) (sq_nx f4 nil_nx))))))))))))).trans ?_
                      rw [fin_same]
                  · exact bad (.tup [.int 4]) _ (sq_nx (sIf_f c0' nil_nx) (sq_nx s0 (sq_nx (sIf_f ck' nil_nx) (sq_nx (sIf_f ci' nil_nx) (sq_nx (sIf_f t3 nil_nx) (sq_nx f1 (sq_nx (sIf_f t4 nil_nx) (sq_nx s8 (sq_nx f2 (sq_nx f3 (sq_exc (sIf_t ((nottup (a := v 5) outs (v_ok rfl)).trans (by rw [ho]; rfl)) (r1 4 _))))))))))))) (by rw [nf]; simp only [asTup_tup, e1, orElse, e2', e3, ho2])
            · exact bad (.tup [.int 3]) _ (sq_nx (sIf_f c0' nil_nx) (sq_nx s0 (sq_nx (sIf_f ck' nil_nx) (sq_nx (sIf_f ci' nil_nx) (sq_nx (sIf_f t3 nil_nx) (sq_nx f1 (sq_exc (sIf_t ((nottup (a := v 4) tables (v_ok rfl)).trans (by rw [hts]; rfl)) (r1 3 _))))))))) (by rw [nf]; simp only [asTup_tup, e1, orElse, hts2])
        · exact bad (.tup [.int 2]) _ (sq_nx (sIf_f c0' nil_nx) (sq_nx s0 (sq_nx (sIf_f ck' nil_nx) (sq_nx (sIf_f ci' nil_nx) (sq_exc (sIf_t ((nottup (a := v 3) regs (v_ok rfl)).trans (by rw [hr]; rfl)) (r1 2 _))))))) (by rw [nf]; simp only [hr2])
      · refine bad (.tup [.int 1]) _ (sq_nx (sIf_f c0' nil_nx) (sq_nx s0 (sq_nx (sIf_f ck' nil_nx) (sq_exc (sIf_t (ci.trans (by rw [Bool.eq_false_iff.mpr hi]; rfl)) (r1 1 _)))))) ?_
        simp only [netFault, if_pos hk, if_neg hi]
    · refine bad (.tup [.int 0]) _ (sq_nx (sIf_f c0' nil_nx) (sq_nx s0 (sq_exc (sIf_t (ck.trans (by rw [Bool.eq_false_iff.mpr hk]; rfl)) (r1 0 _))))) ?_
      simp only [netFault, if_neg hk]
  · refine bad (.tup []) _ (sq_exc (sIf_t (c0.trans (by rw [Bool.eq_false_iff.mpr h5]; rfl)) (sq_exc (raise_tup (tup_ok a0_ok rfl (le_line rfl)))))) ?_
    cases x with
    | tup xs =>
      match xs with
      | [] => rfl
      | [_] => rfl
      | [_, _] => rfl
      | [_, _, _] => rfl
      | [_, _, _, _] => rfl
      | [_, _, _, _, _] => simp [isTup] at h5
      | _ :: _ :: _ :: _ :: _ :: _ :: _ => rfl
    | _ => rfl
end K51
end
section
set_option linter.all false
set_option autoImplicit false
set_option maxRecDepth 100000
set_option maxHeartbeats 1000000
namespace K51
open PySem L2 Ev
theorem ne_nil (xs : List Ev.D) (s : Store) : pNe (.d (.lst xs)) (.d (.lst [])) s = .ok (.d (.bl (!xs.isEmpty))) s := by
  have h : eqD (.lst xs) (.lst []) = xs.isEmpty := by
    cases xs with
    | nil => rfl
    | cons x r => simp only [eqD, toPy, toPys, PyData.eqv, PyData.eqvAll]; rfl
  have lo : low (.lst []) = true := decide_eq_true (by simp [toPy, toPys, PyData.depth, PyData.depthAll])
  unfold pNe pEqB
  simp only [peek_d]
  by_cases c : (D.plain (.lst xs) && D.plain (.lst []) && (low (.lst xs) || low (.lst []))) = true
  · rw [if_pos c, h, Bool.true_xor]
  · rw [if_neg c]
    cases xs with
    | nil => exact absurd rfl c
    | cons x r => rfl
/-- the places of what is not ok -/
def badIdx (ok : Ev.D → Bool) : Nat → List Ev.D → List Nat
  | _, [] => []
  | i, x :: r => if ok x = true then badIdx ok (i + 1) r else i :: badIdx ok (i + 1) r
theorem lcV_bad {ws : List Nat} {t : TC} {c : BC} {e : EC} {E : Ev.Env} {s : Store} (ok : Ev.D → Bool) (all : List Ev.D)
    (h : ∀ (i : Nat) x, all[i]? = some x → ∃ E1, t (.d (.int (i : Int))) (Ev.wipe E ws) s = some (E1, s) ∧ c E1 s = .ok (!ok x) s ∧ e E1 s = .ok (.d (.int (i : Int))) s) :
    ∀ (r pre : List Ev.D), all = pre ++ r → lcV ws t c e E ((List.range' pre.length r.length).map fun (j : Nat) => Val.d (.int (j : Int))) s = .ok ((badIdx ok pre.length r).map fun (j : Nat) => Val.d (.int (j : Int))) s
  | [], pre, _ => rfl
  | x :: r, pre, he => by
    have hx : all[pre.length]? = some x := by rw [he]; simp
    obtain ⟨E1, h1, h2, h3⟩ := h pre.length x hx
    have ih := lcV_bad ok all h r (pre ++ [x]) (by rw [he]; simp)
    rw [List.length_append] at ih
    simp only [List.length_cons, List.length_nil, Nat.zero_add] at ih
    rw [List.length_cons, List.range'_succ, List.map_cons]
    simp only [lcV, lcT]
    rw [h1]
    simp only [h2, Res.bind_ok]
    cases hk : ok x with
    | true =>
      have eb : badIdx ok pre.length (x :: r) = badIdx ok (pre.length + 1) r := by rw [badIdx, if_pos hk]
      rw [eb]
      simpa using ih
    | false =>
      have eb : badIdx ok pre.length (x :: r) = pre.length :: badIdx ok (pre.length + 1) r := by rw [badIdx, if_neg (by rw [hk]; exact Bool.false_ne_true)]
      rw [eb]
      simp only [Bool.not_false, if_true, h3, Res.bind_ok, ih]
      rfl
theorem rng_eq (m : Nat) : (rng 0 (m : Int)).map Val.d = (List.range' 0 m).map fun (j : Nat) => Val.d (.int (j : Int)) := by
  unfold rng
  rw [List.map_map, Int.sub_zero, Int.toNat_natCast, List.range_eq_range']
  refine List.map_congr_left fun j _ => ?_
  simp
theorem small_nat {m : Nat} (h : m ≤ line) : small (m : Int) = true := by
  unfold small
  have h' : m ≤ 16777216 := h
  rw [Bool.and_eq_true]
  exact ⟨decide_eq_true (by omega), decide_eq_true (by omega)⟩
theorem lc_bad {ws : List Nat} {t : TC} {c : BC} {e ln : EC} {E : Ev.Env} {s : Store} (ok : Ev.D → Bool) (all : List Ev.D) (hl : all.length ≤ line) (hln : ln E s = .ok (.d (.int all.length)) s)
    (h : ∀ (i : Nat) x, all[i]? = some x → ∃ E1, t (.d (.int (i : Int))) (Ev.wipe E ws) s = some (E1, s) ∧ c E1 s = .ok (!ok x) s ∧ e E1 s = .ok (.d (.int (i : Int))) s) :
    lc ws t (Ev.iRng1 ln) c e E s = .ok (.d (.lst ((badIdx ok 0 all).map fun (j : Nat) => .int (j : Int)))) s := by
  have h0 := lcV_bad ok all h all [] rfl
  have len : ∀ (i : Nat) (xs : List Ev.D), (badIdx ok i xs).length ≤ xs.length := by
    intro i xs
    induction xs generalizing i with
    | nil => simp [badIdx]
    | cons x r ih => have := ih (i + 1); rw [badIdx]; split <;> simp <;> omega
  have ad : allD ((badIdx ok 0 all).map fun (j : Nat) => Val.d (.int (j : Int))) = some ((badIdx ok 0 all).map fun (j : Nat) => .int (j : Int)) := by
    have := allD_map ((badIdx ok 0 all).map fun (j : Nat) => Ev.D.int (j : Int))
    rw [List.map_map] at this
    exact this
  refine lcG_ok (iRng1_ok hln (small_nat hl)) (lcS_vals ?_ ?_) (mkL_ok ad ?_)
  · rw [rng_eq, List.length_map, List.length_range']; exact hl
  · rw [rng_eq]; exact h0
  · rw [List.length_map]; exact Nat.le_trans (len 0 all) hl
theorem regBad2_idx (b : Int) : ∀ (xs : List Ev.D) (i : Nat), regBad2 b i xs = match badIdx (fun r => isNum (at1 r) 0 b) i xs with | [] => none | j :: _ => some (.tup [.int 2, .int (j : Int), .int 1])
  | [], i => rfl
  | x :: r, i => by
    rw [regBad2, badIdx]
    by_cases h : isNum (at1 x) 0 b = true
    · rw [if_pos h, if_pos h]; exact regBad2_idx b r (i + 1)
    · rw [if_neg h, if_neg h]
theorem outsBad_idx (b : Int) : ∀ (xs : List Ev.D) (i : Nat), outsBad b i xs = match badIdx (fun r => isNum r 0 b) i xs with | [] => none | j :: _ => some (.tup [.int 4, .int (j : Int)])
  | [], i => rfl
  | x :: r, i => by
    rw [outsBad, badIdx]
    by_cases h : isNum x 0 b = true
    · rw [if_pos h, if_pos h]; exact outsBad_idx b r (i + 1)
    · rw [if_neg h, if_neg h]

/-! ### the law's own word about a net -/
def nE (x : Ev.D) (a b c d e f g h : Option Val) : Ev.Env := [some (.d x), a, b, c, d, e, f, g, h]
theorem at5 (a b c d e : Ev.D) (s : Store) : ∀ j : Nat, j < 5 → pIx (.d (.tup [a, b, c, d, e])) (.d (.int (j : Int))) s = .ok (.d ([a, b, c, d, e].getD j .non)) s
  | 0, _ => rfl
  | 1, _ => rfl
  | 2, _ => rfl
  | 3, _ => rfl
  | 4, _ => rfl
  | j + 5, h => by omega
/-- a told path -/
def told (p : Option Ev.D) : Ev.D := .lst (match p with | none => [] | some p => [p])
section
variable (n : Nat) (x : Ev.D) (s : Store)
theorem lst1 {r : AC} {E : Ev.Env} {ds : List Ev.D} {xs : List Val} (h : r E s = .ok xs s) (hd : allD xs = some ds) (hl : ds.length ≤ line) : sq (sRet (lst (ac (tup r) (a0)))) sNil E s = .rt (.d (.lst [.tup ds])) s :=
  sq_rt (ret_ok (lst_ok (ac_ok (tup_ok h hd hl) a0_ok) rfl (le_line rfl)))
theorem loop_n1 : ∀ (xs : List Ev.D) (i : Nat) (a b : Option Val), ∃ a' b',
    forV (tt [tn 1, tn 2]) (sq (sIf (bnot (bv (call (runP prog (n + 1)) 12 (ac (v 2) (a0))))) (sq (sRet (lst (ac (tup (ac (k (.int 2)) (ac (v 1) (a0)))) (a0)))) (sNil)) (sNil)) (sq (sIf (bnot (bv (call (runP prog (n + 1)) 9 (ac (e2 pIx (v 2) (k (.int 0))) (ac (k (.int 2)) (a0)))))) (sq (sRet (lst (ac (tup (ac (k (.int 2)) (ac (v 1) (ac (k (.int 0)) (a0))))) (a0)))) (sNil)) (sNil)) (sNil))) ((enumD i xs).map .d) (nE x a b none none none none none none) s =
      match regBad1 i xs with | none => .nx (nE x a' b' none none none none none none) s | some p => .rt (.d (.lst [p])) s
  | [], i, a, b => ⟨a, b, rfl⟩
  | reg :: r, i, a, b => by
    have ht : (tt [tn 1, tn 2]) (.d (.tup [.int (i : Int), reg])) (nE x a b none none none none none none) s = some (nE x (some (.d (.int i))) (some (.d reg)) none none none none none none, s) := rfl
    have c1 : bnot (bv (call (runP prog (n + 1)) 12 (ac (v 2) (a0)))) (nE x (some (.d (.int i))) (some (.d reg)) none none none none none none) s = .ok (!isTup reg 2) s :=
      bnot_ok (bvb_ok (call_ok (ac_ok (v_ok rfl) a0_ok) (w_pair n reg s)))
    have enm : ((enumD i (reg :: r)).map Val.d) = .d (.tup [.int (i : Int), reg]) :: ((enumD (i + 1) r).map Val.d) := rfl
    rw [enm]
    by_cases h1 : isTup reg 2 = true
    · obtain ⟨p, q, rfl⟩ := reg2 h1
      have c2 : bnot (bv (call (runP prog (n + 1)) 9 (ac (e2 pIx (v 2) (k (.int 0))) (ac (k (.int 2)) (a0))))) (nE x (some (.d (.int i))) (some (.d (.tup [p, q]))) none none none none none none) s = .ok (!isNum p 0 2) s :=
        bnot_ok (bvb_ok (call_ok (ac_ok (e2_ok (v_ok rfl) k_ok (ix0 _ _ _)) (ac_ok k_ok a0_ok)) (w_is_below n p 2 s)))
      by_cases h2 : isNum p 0 2 = true
      · obtain ⟨a', b', ih⟩ := loop_n1 r (i + 1) (some (.d (.int i))) (some (.d (.tup [p, q])))
        refine ⟨a', b', ?_⟩
        have e : regBad1 i (.tup [p, q] :: r) = regBad1 (i + 1) r := by rw [regBad1, if_pos h1]; exact if_pos h2
        rw [e]
        exact forV_nx ht (sq_nx (sIf_f (c1.trans (by rw [h1]; rfl)) nil_nx) (sq_nx (sIf_f (c2.trans (by rw [h2]; rfl)) nil_nx) nil_nx)) ih
      · have e : regBad1 i (.tup [p, q] :: r) = some (.tup [.int 2, .int i, .int 0]) := by rw [regBad1, if_pos h1]; exact if_neg h2
        rw [e]
        exact ⟨a, b, forV_rt ht (sq_nx (sIf_f (c1.trans (by rw [h1]; rfl)) nil_nx) (sq_rt (sIf_t (c2.trans (by rw [Bool.eq_false_iff.mpr h2]; rfl)) (lst1 s (ac_ok k_ok (ac_ok (v_ok rfl) (ac_ok k_ok a0_ok))) rfl (le_line rfl)))))⟩
    · have e : regBad1 i (reg :: r) = some (.tup [.int 2, .int i]) := by rw [regBad1, if_neg h1]
      rw [e]
      exact ⟨a, b, forV_rt ht (sq_rt (sIf_t (c1.trans (by rw [Bool.eq_false_iff.mpr h1]; rfl)) (lst1 s (ac_ok k_ok (ac_ok (v_ok rfl) a0_ok)) rfl (le_line rfl))))⟩
theorem loop_n2 (kk : Int) (hk : kk ≤ 6) (first : Int) (ins regs tables outs : Ev.D) (a b : Option Val) : ∀ (xs : List Ev.D) (i : Nat) (d e f : Option Val), ∃ d' e' f',
    forV (tt [tn 4, tn 5]) (sq (sSet (tn 6) (call (runP prog (n + 2)) 14 (ac (e2 pIx (v 0) (k (.int 0))) (ac (e2 pAdd (v 3) (v 4)) (ac (v 5) (a0)))))) (sq (sIf (bb (e2 pNe (v 6) (lst (a0)))) (sq (sRet (lst (ac (e2 pAdd (tup (ac (k (.int 3)) (ac (v 4) (a0)))) (e2 pIx (v 6) (k (.int 0)))) (a0)))) (sNil)) (sNil)) (sNil))) ((enumD i xs).map .d) (nE (.tup [.int kk, ins, regs, tables, outs]) a b (some (.d (.int first))) d e f none none) s =
      match tabsBad kk first i xs with | none => .nx (nE (.tup [.int kk, ins, regs, tables, outs]) a b (some (.d (.int first))) d' e' f' none none) s | some p => .rt (.d (.lst [p])) s
  | [], i, d, e, f => ⟨d, e, f, rfl⟩
  | t :: r, i, d, e, f => by
    have ht : (tt [tn 4, tn 5]) (.d (.tup [.int (i : Int), t])) (nE (.tup [.int kk, ins, regs, tables, outs]) a b (some (.d (.int first))) d e f none none) s = some (nE (.tup [.int kk, ins, regs, tables, outs]) a b (some (.d (.int first))) (some (.d (.int i))) (some (.d t)) f none none, s) := rfl
    have enm : ((enumD i (t :: r)).map Val.d) = .d (.tup [.int (i : Int), t]) :: ((enumD (i + 1) r).map Val.d) := rfl
    rw [enm]
    have s6 : sSet (tn 6) (call (runP prog (n + 2)) 14 (ac (e2 pIx (v 0) (k (.int 0))) (ac (e2 pAdd (v 3) (v 4)) (ac (v 5) (a0))))) (nE (.tup [.int kk, ins, regs, tables, outs]) a b (some (.d (.int first))) (some (.d (.int i))) (some (.d t)) f none none) s = .nx (nE (.tup [.int kk, ins, regs, tables, outs]) a b (some (.d (.int first))) (some (.d (.int i))) (some (.d t)) (some (.d (tabTold (tabFault kk (first + i) t)))) none none) s :=
      set_tn (call_ok (ac_ok (e2_ok (v_ok rfl) k_ok (at5 _ _ _ _ _ s 0 (by decide))) (ac_ok (e2_ok (v_ok rfl) (v_ok rfl) (pAdd_ok _ _ _)) (ac_ok (v_ok rfl) a0_ok))) (w_table_fault n kk (first + i) t s hk))
    cases h : tabFault kk (first + i) t with
    | none =>
      rw [h] at s6
      obtain ⟨d', e', f', ih⟩ := loop_n2 kk hk first ins regs tables outs a b r (i + 1) (some (.d (.int i))) (some (.d t)) (some (.d (.lst [])))
      refine ⟨d', e', f', ?_⟩
      have eq : tabsBad kk first i (t :: r) = tabsBad kk first (i + 1) r := by rw [tabsBad, h]
      rw [eq]
      exact forV_nx ht (sq_nx s6 (sq_nx (sIf_f (bb_ok (e2_ok (v_ok rfl) (lst_ok a0_ok rfl (le_line rfl)) (ne_nil [] s))) nil_nx) nil_nx)) ih
    | some j =>
      rw [h] at s6
      have eq : tabsBad kk first i (t :: r) = some (tabPath i j) := by rw [tabsBad, h]
      rw [eq]
      have pv : e2 pAdd (tup (ac (k (.int 3)) (ac (v 4) (a0)))) (e2 pIx (v 6) (k (.int 0))) (nE (.tup [.int kk, ins, regs, tables, outs]) a b (some (.d (.int first))) (some (.d (.int i))) (some (.d t)) (some (.d (tabTold (some j)))) none none) s = .ok (.d (tabPath i j)) s := by
        refine e2_ok (tup_ok (ac_ok k_ok (ac_ok (v_ok rfl) a0_ok)) rfl (le_line rfl)) (e2_ok (v_ok rfl) k_ok (show pIx (.d (tabTold (some j))) (.d (.int 0)) s = .ok (.d (if j < 0 then .tup [] else .tup [.int j])) s from rfl)) ?_
        unfold tabPath
        by_cases hj : j < 0
        · simp only [if_pos hj]; rfl
        · simp only [if_neg hj]; rfl
      exact ⟨d, e, f, forV_rt ht (sq_nx s6 (sq_rt (sIf_t (bb_ok (e2_ok (v_ok rfl) (lst_ok a0_ok rfl (le_line rfl)) (ne_nil [_] s))) (sq_rt (ret_ok (lst_ok (ac_ok pv a0_ok) rfl (le_line rfl)))))))⟩
end
end K51
end
section
set_option linter.all false
set_option autoImplicit false
set_option maxRecDepth 100000
set_option maxHeartbeats 1000000
namespace K51
open PySem L2 Ev
theorem ne_int (i j : Int) (s : Store) : pNe (.d (.int i)) (.d (.int j)) s = .ok (.d (.bl (!decide (i = j)))) s := by
  have h : eqD (.int i) (.int j) = decide (i = j) := by
    simp only [eqD, toPy, PyData.eqv]
    rfl
  unfold pNe pEqB
  simp only [peek_d, D.plain, low_int, Bool.or_self, Bool.and_self, if_true, Bool.true_xor, h]
theorem c_five (x : Ev.D) (E : Ev.Env) (s : Store) (h : v 0 E s = .ok (.d x) s) : bor (bnot (bv (Ev.e1 (pIsi [.tuple]) (v 0)))) (bb (e2 pNe (Ev.e1 pLen (v 0)) (k (.int 5)))) E s = .ok (!isTup x 5) s := by
  have h1 := nottup (a := v 0) x h
  rcases is_tup_or x with ⟨xs, rfl⟩ | ⟨hf, _⟩
  · refine bor_f h1 (bb_ok (e2_ok (e1_ok h rfl) k_ok ((ne_int _ _ s).trans ?_)))
    have : decide ((xs.length : Int) = 5) = decide (xs.length = 5) := dec_eq (by omega)
    rw [this]; rfl
  · have e : isTup x 5 = false := by cases x <;> first | rfl | cases hf
    rw [hf] at h1
    rw [e]
    exact bor_t h1
theorem c_k (n : Nat) (kd : Ev.D) (a : EC) (E : Ev.Env) (s : Store) (h : a E s = .ok (.d kd) s) : bor (bnot (bv (call (runP prog (n + 1)) 9 (ac a (ac (k (.int 7)) (a0)))))) (bb (e2 pLt a (k (.int 2)))) E s = .ok (!isNum kd 2 7) s := by
  have h1 : bnot (bv (call (runP prog (n + 1)) 9 (ac a (ac (k (.int 7)) (a0))))) E s = .ok (!isNum kd 0 7) s := bnot_ok (bvb_ok (call_ok (ac_ok h (ac_ok k_ok a0_ok)) (w_is_below n kd 7 s)))
  cases kd with
  | int i =>
    by_cases h0 : 0 ≤ i ∧ i < 7
    · have e : isNum (.int i) 0 7 = true := by simp only [isNum, decide_eq_true h0.1, decide_eq_true h0.2, Bool.and_self]
      rw [e] at h1
      refine bor_f h1 (bb_ok (e2_ok h k_ok ((pLt_ok _ _ _).trans ?_)))
      have : decide (i < 2) = !isNum (.int i) 2 7 := by
        simp only [isNum, decide_eq_true h0.2, Bool.and_true]
        by_cases h2 : i < 2
        · rw [decide_eq_true h2, decide_eq_false (by omega)]; rfl
        · rw [decide_eq_false h2, decide_eq_true (show 2 ≤ i by omega)]; rfl
      rw [this]
    · have e : isNum (.int i) 0 7 = false := by
        simp only [isNum]
        by_cases z : 0 ≤ i
        · rw [decide_eq_true z, decide_eq_false (fun y => h0 ⟨z, y⟩)]; rfl
        · rw [decide_eq_false z]; rfl
      have e2' : isNum (.int i) 2 7 = false := by
        simp only [isNum]
        by_cases z : 2 ≤ i
        · rw [decide_eq_true z, decide_eq_false (fun y => h0 ⟨by omega, y⟩)]; rfl
        · rw [decide_eq_false z]; rfl
      rw [e] at h1; rw [e2']
      exact bor_t h1
  | _ => exact bor_t h1
theorem pow60 (E : Ev.Env) (s : Store) : e2 pPow (k (.int 10)) (k (.int 60)) E s = .ok (.d (.int (10 ^ 60))) s := e2_ok k_ok k_ok (pPow_ok s (by decide) (by decide) (by decide))
theorem len_le {x : Ev.D} {xs : List Ev.D} (hm : x ∈ xs) : wt x ≤ wts xs := by
  induction xs with
  | nil => cases hm
  | cons y r ih =>
    rw [wts]
    rcases List.mem_cons.mp hm with rfl | h
    · omega
    · have := ih h; omega
theorem wts_len : ∀ xs : List Ev.D, xs.length ≤ wts xs
  | [] => Nat.zero_le _
  | x :: r => by have := wts_len r; rw [wts, List.length_cons]; omega
theorem tup_len {xs ys : List Ev.D} (hm : Ev.D.tup ys ∈ xs) : ys.length ≤ wts xs := by
  have h1 := len_le hm
  have h2 := wts_len ys
  rw [wt] at h1; omega
theorem ixT {xs : List Ev.D} {i : Nat} {x : Ev.D} (s : Store) (h : xs[i]? = some x) : pIx (.d (.tup xs)) (.d (.int (i : Int))) s = .ok (.d x) s := by
  have hi : i < xs.length := (List.getElem?_eq_some_iff.mp h).1
  have e : Ev.ixN xs.length (i : Int) = some i := by
    unfold Ev.ixN
    rw [if_pos (Int.natCast_nonneg i), if_pos (by omega), Int.toNat_natCast]
  simp only [pIx, e, Option.bind_some, h]
theorem ixL {xs : List Ev.D} {i : Nat} {x : Ev.D} (s : Store) (h : xs[i]? = some x) : pIx (.d (.lst xs)) (.d (.int (i : Int))) s = .ok (.d x) s := by
  have hi : i < xs.length := (List.getElem?_eq_some_iff.mp h).1
  have e : Ev.ixN xs.length (i : Int) = some i := by
    unfold Ev.ixN
    rw [if_pos (Int.natCast_nonneg i), if_pos (by omega), Int.toNat_natCast]
  simp only [pIx, e, Option.bind_some, h]
theorem ixh (j : Nat) (js : List Nat) (s : Store) : pIx (.d (.lst ((j :: js).map fun (j : Nat) => .int (j : Int)))) (.d (.int 0)) s = .ok (.d (.int (j : Int))) s := ixL (i := 0) s rfl
theorem w_net_fault (n : Nat) (x : Ev.D) (s : Store) (hw : wt x ≤ line) : runP prog (n + 3) 13 [.d x] s = .ok (.d (told (netFault x))) s := by
  rw [rp]
  have fin : ∀ p : Option Ev.D, netFault x = p → e__law_net_fault (runP prog (n + 2)) (nE x none none none none none none none none) s = .rt (.d (told p)) s → runFn ⟨1, 9, e__law_net_fault (runP prog (n + 2))⟩ [.d x] s = .ok (.d (told (netFault x))) s := fun p h1 h2 => by
    refine (runFn_rt (f := ⟨1, 9, e__law_net_fault (runP prog (n + 2))⟩) (xs := [.d x]) rfl h2).trans ?_
    rw [fin_same, h1]
  have c0 := c_five x (nE x none none none none none none none none) s rfl
  by_cases h5 : isTup x 5 = true
  · obtain ⟨kd, ins, regs, tables, outs, rfl⟩ := tup5 h5
    have c0' := c0.trans (by rw [h5])
    have A : ∀ (j : Nat), j < 5 → ∀ E, v 0 E s = .ok (.d (.tup [kd, ins, regs, tables, outs])) s → e2 pIx (v 0) (k (.int (j : Int))) E s = .ok (.d ([kd, ins, regs, tables, outs].getD j .non)) s := fun j hj E h => e2_ok h k_ok (at5 _ _ _ _ _ s j hj)
    have ck := c_k (n + 1) kd (e2 pIx (v 0) (k (.int 0))) (nE (.tup [kd, ins, regs, tables, outs]) none none none none none none none none) s (A 0 (by decide) _ rfl)
    have ci : bnot (bv (call (runP prog (n + 2)) 9 (ac (e2 pIx (v 0) (k (.int 1))) (ac (e2 pPow (k (.int 10)) (k (.int 60))) (a0))))) (nE (.tup [kd, ins, regs, tables, outs]) none none none none none none none none) s = .ok (!isNum ins 0 (10 ^ 60)) s :=
      bnot_ok (bvb_ok (call_ok (ac_ok (A 1 (by decide) _ rfl) (ac_ok (pow60 _ _) a0_ok)) (w_is_below (n + 1) ins _ s)))
    by_cases hk : isNum kd 2 7 = true
    · have ck' := ck.trans (by rw [hk])
      by_cases hi : isNum ins 0 (10 ^ 60) = true
      · have ci' := ci.trans (by rw [hi])
        obtain ⟨kk, rfl, _, hk7⟩ := isNum_int hk
        obtain ⟨ii, rfl, _, _⟩ := isNum_int hi
        have nf : ∀ r, netFault (.tup [.int kk, .int ii, r, tables, outs]) = (match asTup r with
            | some rs => orElse (regBad1 0 rs) (match asTup tables with
              | some ts => orElse (tabsBad kk (1 + ii + rs.length) 0 ts) (orElse (regBad2 (1 + ii + rs.length + ts.length) 0 rs) (match asTup outs with
                | some os => outsBad (1 + ii + rs.length + ts.length) 0 os
                | none => some (.tup [.int 4])))
              | none => some (.tup [.int 3]))
            | none => some (.tup [.int 2])) := fun r => by
          simp only [netFault, if_pos hk, if_pos hi, intOf]
          all_goals rfl
        rcases is_tup_or regs with ⟨rs, rfl⟩ | ⟨hr, hr2⟩
        · have hrl : rs.length ≤ line := Nat.le_trans (Nat.le_trans (tup_len (xs := [.int kk, .int ii, .tup rs, tables, outs]) (by simp)) (by rw [wt] at hw; omega)) (Nat.le_refl _)
          have t3 := nottup (a := e2 pIx (v 0) (k (.int 2))) (.tup rs) (A 2 (by decide) (nE (.tup [.int kk, .int ii, .tup rs, tables, outs]) none none none none none none none none) rfl)
          obtain ⟨a1, b1, l1⟩ := loop_n1 (n + 1) (.tup [.int kk, .int ii, .tup rs, tables, outs]) s rs 0 none none
          have f1 := for_vals (iEnum_tup (A 2 (by decide) (nE (.tup [.int kk, .int ii, .tup rs, tables, outs]) none none none none none none none none) rfl)) l1
          cases e1 : regBad1 0 rs with
          | some p =>
            rw [e1] at f1
            exact fin (some p) (by rw [nf]; simp only [asTup_tup, e1, orElse]) (sq_nx (sIf_f c0' nil_nx) (sq_nx (sIf_f ck' nil_nx) (sq_nx (sIf_f ci' nil_nx) (sq_nx (sIf_f t3 nil_nx) (sq_rt f1)))))
          | none =>
            rw [e1] at f1
            have two := regs_two rs 0 e1
            rcases is_tup_or tables with ⟨ts, rfl⟩ | ⟨hts, hts2⟩
            · have t4 := nottup (a := e2 pIx (v 0) (k (.int 3))) (.tup ts) (A 3 (by decide) (nE (.tup [.int kk, .int ii, .tup rs, .tup ts, outs]) a1 b1 none none none none none none) rfl)
              have s3 : sSet (tn 3) (e2 pAdd (e2 pAdd (k (.int 1)) (e2 pIx (v 0) (k (.int 1)))) (Ev.e1 pLen (e2 pIx (v 0) (k (.int 2))))) (nE (.tup [.int kk, .int ii, .tup rs, .tup ts, outs]) a1 b1 none none none none none none) s = .nx (nE (.tup [.int kk, .int ii, .tup rs, .tup ts, outs]) a1 b1 (some (.d (.int (1 + ii + rs.length)))) none none none none none) s :=
                set_tn (e2_ok (e2_ok k_ok (A 1 (by decide) _ rfl) (pAdd_ok _ _ _)) (e1_ok (A 2 (by decide) _ rfl) rfl) (pAdd_ok _ _ _))
              obtain ⟨d1, g1, h1, l2⟩ := loop_n2 n s kk (by omega) (1 + ii + rs.length) (.int ii) (.tup rs) (.tup ts) outs a1 b1 ts 0 none none none
              have f2 := for_vals (iEnum_tup (A 3 (by decide) (nE (.tup [.int kk, .int ii, .tup rs, .tup ts, outs]) a1 b1 (some (.d (.int (1 + ii + rs.length)))) none none none none none) rfl)) l2
              cases e2' : tabsBad kk (1 + ii + rs.length) 0 ts with
              | some p =>
                rw [e2'] at f2
                exact fin (some p) (by rw [nf]; simp only [asTup_tup, e1, orElse, e2']) (sq_nx (sIf_f c0' nil_nx) (sq_nx (sIf_f ck' nil_nx) (sq_nx (sIf_f ci' nil_nx) (sq_nx (sIf_f t3 nil_nx) (sq_nx f1 (sq_nx (sIf_f t4 nil_nx) (sq_nx s3 (sq_rt f2))))))))
              | none =>
                rw [e2'] at f2
                have s7 : sSet (tn 7) (e2 pAdd (v 3) (Ev.e1 pLen (e2 pIx (v 0) (k (.int 3))))) (nE (.tup [.int kk, .int ii, .tup rs, .tup ts, outs]) a1 b1 (some (.d (.int (1 + ii + rs.length)))) d1 g1 h1 none none) s = .nx (nE (.tup [.int kk, .int ii, .tup rs, .tup ts, outs]) a1 b1 (some (.d (.int (1 + ii + rs.length)))) d1 g1 h1 (some (.d (.int (1 + ii + rs.length + ts.length)))) none) s :=
                  set_tn (e2_ok (v_ok rfl) (e1_ok (A 3 (by decide) _ rfl) rfl) (pAdd_ok _ _ _))
                have lc1 := lc_bad (ws := [1]) (t := tn 1) (c := bnot (bv (call (runP prog (n + 2)) 9 (ac (e2 pIx (e2 pIx (e2 pIx (v 0) (k (.int 2))) (v 1)) (k (.int 1))) (ac (v 7) (a0)))))) (e := v 1) (ln := Ev.e1 pLen (e2 pIx (v 0) (k (.int 2))))
                  (E := nE (.tup [.int kk, .int ii, .tup rs, .tup ts, outs]) a1 b1 (some (.d (.int (1 + ii + rs.length)))) d1 g1 h1 (some (.d (.int (1 + ii + rs.length + ts.length)))) none) (s := s) (fun r => isNum (at1 r) 0 (1 + ii + rs.length + ts.length)) rs hrl (e1_ok (A 2 (by decide) _ rfl) rfl) (fun i r hr => by
                    obtain ⟨p, q, rfl⟩ := reg2 (two r (List.mem_of_getElem? hr))
                    refine ⟨nE (.tup [.int kk, .int ii, .tup rs, .tup ts, outs]) (some (.d (.int i))) b1 (some (.d (.int (1 + ii + rs.length)))) d1 g1 h1 (some (.d (.int (1 + ii + rs.length + ts.length)))) none, rfl, ?_, v_ok rfl⟩
                    exact bnot_ok (bvb_ok (call_ok (ac_ok (e2_ok (e2_ok (A 2 (by decide) _ rfl) (v_ok rfl) (ixT s hr)) k_ok (ix1 _ _ _)) (ac_ok (v_ok rfl) a0_ok)) (w_is_below (n + 1) q _ s))))
                have s6 := set_tn (i := 6) lc1
                have r2 := regBad2_idx (1 + ii + rs.length + ts.length) rs 0
                cases e3 : badIdx (fun r => isNum (at1 r) 0 (1 + ii + rs.length + ts.length)) 0 rs with
                | cons j js =>
                  rw [e3] at s6 r2
                  have cw : bb (e2 pNe (v 6) (lst (a0))) (nE (.tup [.int kk, .int ii, .tup rs, .tup ts, outs]) a1 b1 (some (.d (.int (1 + ii + rs.length)))) d1 g1 (some (.d (.lst ((j :: js).map fun (j : Nat) => .int (j : Int))))) (some (.d (.int (1 + ii + rs.length + ts.length)))) none) s = .ok true s := bb_ok (e2_ok (v_ok rfl) (lst_ok a0_ok rfl (le_line rfl)) (ne_nil _ s))
                  exact fin (some (.tup [.int 2, .int j, .int 1])) (by rw [nf]; simp only [asTup_tup, e1, orElse, e2', r2]) (sq_nx (sIf_f c0' nil_nx) (sq_nx (sIf_f ck' nil_nx) (sq_nx (sIf_f ci' nil_nx) (sq_nx (sIf_f t3 nil_nx) (sq_nx f1 (sq_nx (sIf_f t4 nil_nx) (sq_nx s3 (sq_nx f2 (sq_nx s7 (sq_nx s6 (sq_rt (sIf_t cw (lst1 s (ac_ok k_ok (ac_ok (e2_ok (v_ok rfl) k_ok (ixh _ _ s)) (ac_ok k_ok a0_ok))) rfl (le_line rfl))))))))))))))
                | nil =>
                  rw [e3] at s6 r2
                  have cw : bb (e2 pNe (v 6) (lst (a0))) (nE (.tup [.int kk, .int ii, .tup rs, .tup ts, outs]) a1 b1 (some (.d (.int (1 + ii + rs.length)))) d1 g1 (some (.d (.lst []))) (some (.d (.int (1 + ii + rs.length + ts.length)))) none) s = .ok false s := bb_ok (e2_ok (v_ok rfl) (lst_ok a0_ok rfl (le_line rfl)) (ne_nil _ s))
                  rcases is_tup_or outs with ⟨os, rfl⟩ | ⟨ho, ho2⟩
                  · have hol : os.length ≤ line := Nat.le_trans (Nat.le_trans (tup_len (xs := [.int kk, .int ii, .tup rs, .tup ts, .tup os]) (by simp)) (by rw [wt] at hw; omega)) (Nat.le_refl _)
                    have t5 := nottup (a := e2 pIx (v 0) (k (.int 4))) (.tup os) (A 4 (by decide) (nE (.tup [.int kk, .int ii, .tup rs, .tup ts, .tup os]) a1 b1 (some (.d (.int (1 + ii + rs.length)))) d1 g1 (some (.d (.lst []))) (some (.d (.int (1 + ii + rs.length + ts.length)))) none) rfl)
                    have lc2 := lc_bad (ws := [8]) (t := tn 8) (c := bnot (bv (call (runP prog (n + 2)) 9 (ac (e2 pIx (e2 pIx (v 0) (k (.int 4))) (v 8)) (ac (v 7) (a0)))))) (e := v 8) (ln := Ev.e1 pLen (e2 pIx (v 0) (k (.int 4))))
                      (E := nE (.tup [.int kk, .int ii, .tup rs, .tup ts, .tup os]) a1 b1 (some (.d (.int (1 + ii + rs.length)))) d1 g1 (some (.d (.lst []))) (some (.d (.int (1 + ii + rs.length + ts.length)))) none) (s := s) (fun r => isNum r 0 (1 + ii + rs.length + ts.length)) os hol (e1_ok (A 4 (by decide) _ rfl) rfl) (fun i r hr => by
                        refine ⟨nE (.tup [.int kk, .int ii, .tup rs, .tup ts, .tup os]) a1 b1 (some (.d (.int (1 + ii + rs.length)))) d1 g1 (some (.d (.lst []))) (some (.d (.int (1 + ii + rs.length + ts.length)))) (some (.d (.int i))), rfl, ?_, v_ok rfl⟩
                        exact bnot_ok (bvb_ok (call_ok (ac_ok (e2_ok (A 4 (by decide) _ rfl) (v_ok rfl) (ixT s hr)) (ac_ok (v_ok rfl) a0_ok)) (w_is_below (n + 1) r _ s))))
                    have s6' := set_tn (i := 6) lc2
                    have r3 := outsBad_idx (1 + ii + rs.length + ts.length) os 0
                    have pre : ∀ {E s1 r}, sq (sRet (eif (bb (e2 pNe (v 6) (lst (a0)))) (lst (ac (tup (ac (k (.int 4)) (ac (e2 pIx (v 6) (k (.int 0))) (a0)))) (a0))) (lst (a0)))) sNil E s1 = r → sSet (tn 6) (lc [8] (tn 8) (Ev.iRng1 (Ev.e1 pLen (e2 pIx (v 0) (k (.int 4))))) (bnot (bv (call (runP prog (n + 2)) 9 (ac (e2 pIx (e2 pIx (v 0) (k (.int 4))) (v 8)) (ac (v 7) (a0)))))) (v 8)) (nE (.tup [.int kk, .int ii, .tup rs, .tup ts, .tup os]) a1 b1 (some (.d (.int (1 + ii + rs.length)))) d1 g1 (some (.d (.lst []))) (some (.d (.int (1 + ii + rs.length + ts.length)))) none) s = .nx E s1 →
                        e__law_net_fault (runP prog (n + 2)) (nE (.tup [.int kk, .int ii, .tup rs, .tup ts, .tup os]) none none none none none none none none) s = r := fun {E s1 r} hr h6 =>
                      sq_nx (sIf_f c0' nil_nx) (sq_nx (sIf_f ck' nil_nx) (sq_nx (sIf_f ci' nil_nx) (sq_nx (sIf_f t3 nil_nx) (sq_nx f1 (sq_nx (sIf_f t4 nil_nx) (sq_nx s3 (sq_nx f2 (sq_nx s7 (sq_nx s6 (sq_nx (sIf_f cw nil_nx) (sq_nx (sIf_f t5 nil_nx) (sq_nx h6 hr))))))))))))
                    cases e4 : badIdx (fun r => isNum r 0 (1 + ii + rs.length + ts.length)) 0 os with
                    | cons j js =>
                      rw [e4] at s6' r3
                      have cw2 : bb (e2 pNe (v 6) (lst (a0))) (nE (.tup [.int kk, .int ii, .tup rs, .tup ts, .tup os]) a1 b1 (some (.d (.int (1 + ii + rs.length)))) d1 g1 (some (.d (.lst ((j :: js).map fun (j : Nat) => .int (j : Int))))) (some (.d (.int (1 + ii + rs.length + ts.length)))) none) s = .ok true s := bb_ok (e2_ok (v_ok rfl) (lst_ok a0_ok rfl (le_line rfl)) (ne_nil _ s))
                      exact fin (some (.tup [.int 4, .int j])) (by rw [nf]; simp only [asTup_tup, e1, orElse, e2', r2, r3]) (pre (sq_rt (ret_ok (eif_t cw2 (lst_ok (ac_ok (tup_ok (ac_ok k_ok (ac_ok (e2_ok (v_ok rfl) k_ok (ixh _ _ s)) a0_ok)) rfl (le_line rfl)) a0_ok) rfl (le_line rfl))))) s6')
                    | nil =>
                      rw [e4] at s6' r3
                      have cw2 : bb (e2 pNe (v 6) (lst (a0))) (nE (.tup [.int kk, .int ii, .tup rs, .tup ts, .tup os]) a1 b1 (some (.d (.int (1 + ii + rs.length)))) d1 g1 (some (.d (.lst []))) (some (.d (.int (1 + ii + rs.length + ts.length)))) none) s = .ok false s := bb_ok (e2_ok (v_ok rfl) (lst_ok a0_ok rfl (le_line rfl)) (ne_nil _ s))
                      exact fin none (by rw [nf]; simp only [asTup_tup, e1, orElse, e2', r2, r3]) (pre (sq_rt (ret_ok (eif_f cw2 (lst_ok a0_ok rfl (le_line rfl))))) s6')
                  · exact fin (some (.tup [.int 4])) (by rw [nf]; simp only [asTup_tup, e1, orElse, e2', r2, ho2]) (sq_nx (sIf_f c0' nil_nx) (sq_nx (sIf_f ck' nil_nx) (sq_nx (sIf_f ci' nil_nx) (sq_nx (sIf_f t3 nil_nx) (sq_nx f1 (sq_nx (sIf_f t4 nil_nx) (sq_nx s3 (sq_nx f2 (sq_nx s7 (sq_nx s6 (sq_nx (sIf_f cw nil_nx) (sq_rt (sIf_t ((nottup (a := e2 pIx (v 0) (k (.int 4))) outs (A 4 (by decide) _ rfl)).trans (by rw [ho]; rfl)) (lst1 s (ac_ok k_ok a0_ok) rfl (le_line rfl)))))))))))))))
            · exact fin (some (.tup [.int 3])) (by rw [nf]; simp only [asTup_tup, e1, orElse, hts2]) (sq_nx (sIf_f c0' nil_nx) (sq_nx (sIf_f ck' nil_nx) (sq_nx (sIf_f ci' nil_nx) (sq_nx (sIf_f t3 nil_nx) (sq_nx f1 (sq_rt (sIf_t ((nottup (a := e2 pIx (v 0) (k (.int 3))) tables (A 3 (by decide) _ rfl)).trans (by rw [hts]; rfl)) (lst1 s (ac_ok k_ok a0_ok) rfl (le_line rfl)))))))))
        · exact fin (some (.tup [.int 2])) (by rw [nf]; simp only [hr2]) (sq_nx (sIf_f c0' nil_nx) (sq_nx (sIf_f ck' nil_nx) (sq_nx (sIf_f ci' nil_nx) (sq_rt (sIf_t ((nottup (a := e2 pIx (v 0) (k (.int 2))) regs (A 2 (by decide) _ rfl)).trans (by rw [hr]; rfl)) (lst1 s (ac_ok k_ok a0_ok) rfl (le_line rfl)))))))
      · exact fin (some (.tup [.int 1])) (by simp only [netFault, if_pos hk, if_neg hi]) (sq_nx (sIf_f c0' nil_nx) (sq_nx (sIf_f ck' nil_nx) (sq_rt (sIf_t (ci.trans (by rw [Bool.eq_false_iff.mpr hi]; rfl)) (lst1 s (ac_ok k_ok a0_ok) rfl (le_line rfl))))))
    · exact fin (some (.tup [.int 0])) (by simp only [netFault, if_neg hk]) (sq_nx (sIf_f c0' nil_nx) (sq_rt (sIf_t (ck.trans (by rw [Bool.eq_false_iff.mpr hk]; rfl)) (lst1 s (ac_ok k_ok a0_ok) rfl (le_line rfl)))))
  · refine fin (some (.tup [])) ?_ (sq_rt (sIf_t (c0.trans (by rw [Bool.eq_false_iff.mpr h5]; rfl)) (lst1 s a0_ok rfl (le_line rfl))))
    cases x with
    | tup xs =>
      match xs with
      | [] => rfl
      | [_] => rfl
      | [_, _] => rfl
      | [_, _, _] => rfl
      | [_, _, _, _] => rfl
      | [_, _, _, _, _] => simp [isTup] at h5
      | _ :: _ :: _ :: _ :: _ :: _ :: _ => rfl
    | _ => rfl
end K51
end
section
set_option linter.all false
set_option autoImplicit false
set_option maxRecDepth 100000
set_option maxHeartbeats 1000000
namespace K51
open PySem L2 Ev
theorem try_nx {b u : SC} {c i : Nat} {os : List Nat} {E E1 : Ev.Env} {s s1 : Store} (h : b E s = .nx E1 s1) : sTry b c os i u E s = .nx E1 s1 := by unfold sTry; rw [h]
theorem try_rt {b u : SC} {c i : Nat} {os : List Nat} {E E1 : Ev.Env} {s s1 : Store} {fs : List (Str × Ev.D)} {z : Ev.D} (h : b E s = .exc c fs E1 s1) (hi : i < E1.length) (hu : u (E1.set i (some (.exn c fs))) s1 = .rt (.d z) s1) : sTry b c os i u E s = .rt (.d z) s1 := by
  unfold sTry; rw [h]; simp only [if_true, hi, hu, or_true]
theorem w_path (n : Nat) (x : Ev.D) (s : Store) (hg : good x = true) : runP prog (n + 4) 15 [.d x] s = .ok (.d (told (netFault x))) s := by
  rw [rp]
  have cl := w_check_net n x s hg
  refine (runFn_rt (f := ⟨1, 3, e__law_path (runP prog (n + 3))⟩) (xs := [.d x]) (x := .d (told (netFault x))) (s' := s) rfl ?_).trans (by rw [fin_same])
  cases h : netFault x with
  | none =>
    rw [h] at cl
    refine sq_nx (try_nx (sq_nx (set_tn (call_ok (ac_ok (v_ok rfl) a0_ok) cl)) nil_nx)) (sq_rt (ret_ok (eif_t (bb_ok (e1_ok (v_ok rfl) rfl)) (lst_ok a0_ok rfl (le_line rfl)))))
  | some p =>
    rw [h] at cl
    have hx : ∀ E : Ev.Env, v 2 E s = .ok (.exn 0 [("path", p)]) s → Ev.e1 (exF 0 "path") (v 2) E s = .ok (.d p) s := fun E h => e1_ok h rfl
    exact sq_rt (try_rt (sq_exc (set_exc (call_ok (ac_ok (v_ok rfl) a0_ok) cl))) (show 2 < 3 by decide) (sq_rt (ret_ok (lst_ok (ac_ok (hx _ (v_ok rfl)) a0_ok) rfl (le_line rfl)))))
/-! ### the source of choices -/
theorem pick_is (C : Calls) : e__law_pick C = pickB := rfl
theorem w_pick (n : Nat) (many : Nat) (cs : List Nat) (l m t : Nat) (r : Store) (hm : Fits many) (hc : cs.length < most) :
    ∃ (j : Nat) (cs' : List Nat) (l' m' t' : Nat), runP prog (n + 1) 6 [.loc 1, .d (.int many)] (src cs l m t r) = .ok (.d (.int j)) (src cs' l' m' t' r) ∧ j < max 1 many ∧ cs'.length ≤ cs.length := by
  obtain ⟨j, cs', l', m', t', h, h1, h2⟩ := pick_ok many cs l m t r hm hc
  exact ⟨j, cs', l', m', t', h, h1, h2⟩
/-- a state whose source is in order, all else r -/
def Src (s : Store) (r : Store) : Prop := ∃ (cs : List Nat) (l m t : Nat), s = src cs l m t r ∧ cs.length ≤ 1000
end K51
end
section
set_option linter.all false
set_option autoImplicit false
set_option maxRecDepth 100000
set_option maxHeartbeats 1000000
namespace K51
open PySem L2 Ev
theorem fits_len {n : Nat} (h : n ≤ line) : Fits n := Fits.small (Nat.le_trans h (by decide))
theorem src_get (cs : List Nat) (l m t : Nat) (r : Store) (p : Nat) : (src cs l m t r)[p + 2]? = r[p]? := rfl
/-- _law_of over data -/
theorem w_of (n : Nat) (xs : List Ev.D) (cs : List Nat) (l m t : Nat) (r : Store) (h0 : xs ≠ []) (hl : xs.length ≤ line) (hc : cs.length < most) :
    ∃ (x : Ev.D) (cs' : List Nat) (l' m' t' : Nat), runP prog (n + 2) 7 [.loc 1, .d (.lst xs)] (src cs l m t r) = .ok (.d x) (src cs' l' m' t' r) ∧ x ∈ xs ∧ cs'.length ≤ cs.length := by
  obtain ⟨j, cs', l', m', t', h, h1, h2⟩ := w_pick n xs.length cs l m t r (fits_len hl) hc
  have hp : 0 < xs.length := List.length_pos_iff.mpr h0
  have hj : j < xs.length := by omega
  refine ⟨xs[j], cs', l', m', t', ?_, List.getElem_mem _, h2⟩
  rw [rp]
  refine (runFn_rt (f := ⟨2, 2, e__law_of (runP prog (n + 1))⟩) (xs := [.loc 1, .d (.lst xs)]) (x := .d xs[j]) (s' := src cs' l' m' t' r) rfl ?_).trans (by rw [fin_len (by simp [src_len])])
  exact sq_rt (ret_ok (e2_ok (v_ok rfl) (call_ok (ac_ok (v_ok rfl) (ac_ok (e1_ok (v_ok rfl) rfl) a0_ok)) h) (ixL _ (List.getElem?_eq_getElem hj))))
/-- .. over a list that is being made -/
theorem w_ofA (n p : Nat) (xs : List Ev.D) (cs : List Nat) (l m t : Nat) (r : Store) (hr : r[p]? = some (.lst xs)) (h0 : xs ≠ []) (hl : xs.length ≤ line) (hc : cs.length < most) :
    ∃ (x : Ev.D) (cs' : List Nat) (l' m' t' : Nat), runP prog (n + 2) 7 [.loc 1, .loc (p + 2)] (src cs l m t r) = .ok (.d x) (src cs' l' m' t' r) ∧ x ∈ xs ∧ cs'.length ≤ cs.length := by
  obtain ⟨j, cs', l', m', t', h, h1, h2⟩ := w_pick n xs.length cs l m t r (fits_len hl) hc
  have hp : 0 < xs.length := List.length_pos_iff.mpr h0
  have hj : j < xs.length := by omega
  refine ⟨xs[j], cs', l', m', t', ?_, List.getElem_mem _, h2⟩
  rw [rp]
  refine (runFn_rt (f := ⟨2, 2, e__law_of (runP prog (n + 1))⟩) (xs := [.loc 1, .loc (p + 2)]) (x := .d xs[j]) (s' := src cs' l' m' t' r) rfl ?_).trans (by rw [fin_len (by simp [src_len])])
  have ln : pLen (.loc (p + 2)) (src cs l m t r) = .ok (.d (.int xs.length)) (src cs l m t r) := by unfold pLen; simp only [src_get, hr]
  have ix : pIx (.loc (p + 2)) (.d (.int (j : Int))) (src cs' l' m' t' r) = .ok (.d xs[j]) (src cs' l' m' t' r) := by
    have e : Ev.ixN xs.length (j : Int) = some j := by
      unfold Ev.ixN
      rw [if_pos (Int.natCast_nonneg j), if_pos (by omega), Int.toNat_natCast]
    unfold pIx; simp only [src_get, hr, e, Option.bind_some, List.getElem?_eq_getElem hj]
  exact sq_rt (ret_ok (e2_ok (v_ok rfl) (call_ok (ac_ok (v_ok rfl) (ac_ok (e1_ok (v_ok rfl) ln) a0_ok)) h) ix))
theorem src_last (cs : List Nat) (l m t : Nat) (r : Store) (o : Ev.Obj) : (src cs l m t (r ++ [o]))[r.length + 2]? = some o := by rw [src_get]; simp
theorem src_set (cs : List Nat) (l m t : Nat) (r : Store) (o o' : Ev.Obj) : (src cs l m t (r ++ [o])).set (r.length + 2) o' = src cs l m t (r ++ [o']) := by
  simp [src]
/-- the comprehension of _law_mixed -/
theorem lc_mixed (n : Nat) (q : Option Val) (x0 : Val) (r : Store) : ∀ (ds : List Ev.D) (cs : List Nat) (l m t : Nat) (rest : List Ev.D), rest.length = ds.length → rest.length ≤ line → cs.length < most →
    ∃ (ys : List Ev.D) (cs' : List Nat) (l' m' t' : Nat), lcV [3] (tn 3) yes (m1 pPopAt (v 2) (call (runP prog (n + 1)) 6 (ac (v 0) (ac (Ev.e1 pLen (v 2)) (a0))))) [some (.loc 1), some x0, some (.loc (r.length + 2)), q] (ds.map .d) (src cs l m t (r ++ [.lst rest])) =
      .ok (ys.map .d) (src cs' l' m' t' (r ++ [.lst []])) ∧ (∀ y ∈ ys, y ∈ rest) ∧ ys.length = rest.length ∧ cs'.length ≤ cs.length
  | [], cs, l, m, t, rest, h1, _, _ => by
    obtain rfl : rest = [] := List.length_eq_zero_iff.mp h1
    exact ⟨[], cs, l, m, t, rfl, (fun y hy => hy), rfl, Nat.le_refl _⟩
  | d :: ds, cs, l, m, t, rest, h1, h2, hc => by
    obtain ⟨j, cs1, l1, m1', t1, hp, hj, hl⟩ := w_pick n rest.length cs l m t (r ++ [.lst rest]) (fits_len h2) hc
    have hj' : j < rest.length := by rw [List.length_cons] at h1; omega
    have hlen : (rest.eraseIdx j).length = ds.length := by rw [List.length_eraseIdx_of_lt hj', h1]; simp
    obtain ⟨ys, cs', l', m', t', ih, hy, hyl, hcl⟩ := lc_mixed n q x0 r ds cs1 l1 m1' t1 (rest.eraseIdx j) hlen (by rw [hlen]; rw [List.length_cons] at h1; omega) (Nat.lt_of_le_of_lt hl hc)
    refine ⟨rest[j] :: ys, cs', l', m', t', ?_, fun y hm => ?_, by rw [List.length_cons, hyl, hlen]; exact h1.symm, Nat.le_trans hcl hl⟩
    · have isl : isL (.loc (r.length + 2)) (src cs l m t (r ++ [.lst rest])) = true := by unfold isL; simp only [src_last]
      have ln : pLen (.loc (r.length + 2)) (src cs l m t (r ++ [.lst rest])) = .ok (.d (.int rest.length)) (src cs l m t (r ++ [.lst rest])) := by unfold pLen; simp only [src_last]
      have e : Ev.ixN rest.length (j : Int) = some j := by
        unfold Ev.ixN
        rw [if_pos (Int.natCast_nonneg j), if_pos (by omega), Int.toNat_natCast]
      have pp : pPopAt (.loc (r.length + 2)) (.d (.int (j : Int))) (src cs1 l1 m1' t1 (r ++ [.lst rest])) = .ok (.d rest[j]) (src cs1 l1 m1' t1 (r ++ [.lst (rest.eraseIdx j)])) := by
        unfold pPopAt; simp only [src_last, e, List.getElem?_eq_getElem hj', src_set]
      have el : m1 pPopAt (v 2) (call (runP prog (n + 1)) 6 (ac (v 0) (ac (Ev.e1 pLen (v 2)) (a0)))) [some (.loc 1), some x0, some (.loc (r.length + 2)), some (.d d)] (src cs l m t (r ++ [.lst rest])) = .ok (.d rest[j]) (src cs1 l1 m1' t1 (r ++ [.lst (rest.eraseIdx j)])) := by
        unfold m1
        rw [show v 2 [some (.loc 1), some x0, some (.loc (r.length + 2)), some (.d d)] (src cs l m t (r ++ [.lst rest])) = .ok (.loc (r.length + 2)) (src cs l m t (r ++ [.lst rest])) from rfl]
        simp only [Res.bind_ok, isl, if_true]
        rw [call_ok (ac_ok (v_ok rfl) (ac_ok (e1_ok (v_ok rfl) ln) a0_ok)) hp]
        simp only [Res.bind_ok, pp]
      have st : tn 3 (.d d) (Ev.wipe [some (.loc 1), some x0, some (.loc (r.length + 2)), q] [3]) (src cs l m t (r ++ [.lst rest])) = some ([some (.loc 1), some x0, some (.loc (r.length + 2)), some (.d d)], src cs l m t (r ++ [.lst rest])) := rfl
      simp only [List.map_cons, lcV, lcT]
      rw [st]
      simp only [yes, Res.bind_ok, if_true, el, ih]
    · rcases List.mem_cons.mp hm with rfl | hm
      · exact List.getElem_mem _
      · exact List.mem_of_mem_eraseIdx (hy y hm)
end K51
end
section
set_option linter.all false
set_option autoImplicit false
set_option maxRecDepth 100000
set_option maxHeartbeats 1000000
namespace K51
open PySem L2 Ev
/-- what lies behind the source points nowhere beyond -/
def okR (r : Store) : Prop := r.all (cloO (r.length + 2)) = true
theorem ok_nil : okR [] := rfl
theorem ok_lst (xs : List Ev.D) : okR [.lst xs] := rfl
theorem take_src (cs : List Nat) (l m t : Nat) (r q : Store) : (src cs l m t (r ++ q)).take (r.length + 2) = src cs l m t r := by
  show Ev.Obj.lst _ :: srcD l m t :: (r ++ q).take r.length = _
  rw [List.take_left']; rfl; rfl
theorem clo_src (cs : List Nat) (l m t : Nat) (r : Store) (h : okR r) : clo (r.length + 2) (src cs l m t r) = true := by
  have e : clo (r.length + 2) (src cs l m t r) = (cloO (r.length + 2) (.lst (cs.map fun (n : Nat) => Ev.D.int (n : Int))) && (cloO (r.length + 2) (srcD l m t) && r.all (cloO (r.length + 2)))) := rfl
  have h' : r.all (cloO (r.length + 2)) = true := h
  rw [e, h']
  simp [cloO, srcD, cloV]
theorem fin_src (cs cs' : List Nat) (l m t l' m' t' : Nat) (r q : Store) (z : Ev.D) (h : okR r) : fin (src cs l m t r) (.d z) (src cs' l' m' t' (r ++ q)) = (.d z, src cs' l' m' t' r) := by
  unfold fin
  by_cases hq : (src cs' l' m' t' (r ++ q)).length = (src cs l m t r).length
  · rw [if_pos hq]
    have : q = [] := by
      rw [src_len, src_len, List.length_append] at hq
      exact List.length_eq_zero_iff.mp (by omega)
    rw [this, List.append_nil]
  · rw [if_neg hq, src_len, take_src, if_pos (.inl (clo_src _ _ _ _ _ h))]
theorem allD_map : ∀ ds : List Ev.D, allD (ds.map .d) = some ds
  | [] => rfl
  | d :: ds => by simp only [List.map_cons, allD, allD_map ds]; rfl
theorem small_len {n : Nat} (h : n ≤ line) : small (n : Int) = true := by
  have h' : n ≤ 100000000 := Nat.le_trans h (by decide)
  unfold small
  rw [decide_eq_true (show (-(2 ^ 62) : Int) ≤ (n : Int) by omega), decide_eq_true (show (n : Int) < 2 ^ 62 by omega)]; rfl
theorem rng_len (n : Nat) : (rng 0 (n : Int)).length = n := by simp [rng]
theorem w_mixed (n : Nat) (xs : List Ev.D) (cs : List Nat) (l m t : Nat) (r : Store) (hr : okR r) (hl : xs.length ≤ line) (hc : cs.length < most) :
    ∃ (ys : List Ev.D) (cs' : List Nat) (l' m' t' : Nat), runP prog (n + 2) 8 [.loc 1, .d (.lst xs)] (src cs l m t r) = .ok (.d (.lst ys)) (src cs' l' m' t' r) ∧ (∀ y ∈ ys, y ∈ xs) ∧ ys.length = xs.length ∧ cs'.length ≤ cs.length := by
  obtain ⟨ys, cs', l', m', t', h, h1, h2, h3⟩ := lc_mixed n none (.d (.lst xs)) r (rng 0 xs.length) cs l m t xs (rng_len _).symm hl hc
  refine ⟨ys, cs', l', m', t', ?_, h1, h2, h3⟩
  rw [rp]
  refine (runFn_rt (f := ⟨2, 4, e__law_mixed (runP prog (n + 1))⟩) (xs := [.loc 1, .d (.lst xs)]) (x := .d (.lst ys)) (s' := src cs' l' m' t' (r ++ [.lst []])) rfl ?_).trans (by rw [fin_src _ _ _ _ _ _ _ _ _ _ _ hr])
  have al : Ev.e1 pListA (v 1) [some (.loc 1), some (.d (.lst xs)), none, none] (src cs l m t r) = .ok (.loc (r.length + 2)) (src cs l m t (r ++ [.lst xs])) := by
    refine e1_ok (v_ok rfl) ?_
    show Res.ok (Val.loc (src cs l m t r).length) _ = _
    rw [src_len]; rfl
  have ln : pLen (.loc (r.length + 2)) (src cs l m t (r ++ [.lst xs])) = .ok (.d (.int xs.length)) (src cs l m t (r ++ [.lst xs])) := by unfold pLen; simp only [src_last]
  have en : (List.map some [Val.loc 1, Val.d (.lst xs)] ++ List.replicate (4 - 2) none : Ev.Env) = [some (.loc 1), some (.d (.lst xs)), none, none] := rfl
  show sq (sSet (tn 2) (Ev.e1 pListA (v 1))) (sq (sRet (lc [3] (tn 3) (Ev.iRng1 (Ev.e1 pLen (v 2))) yes (m1 pPopAt (v 2) (call (runP prog (n + 1)) 6 (ac (v 0) (ac (Ev.e1 pLen (v 2)) (a0))))))) sNil) [some (.loc 1), some (.d (.lst xs)), none, none] (src cs l m t r) = _
  refine sq_nx (set_tn al) (sq_rt (ret_ok (lcG_ok (iRng1_ok (e1_ok (v_ok rfl) ln) (small_len hl)) (lcS_vals (by rw [List.length_map, rng_len]; exact hl) h) (mkL_ok (allD_map ys) (by rw [h2]; exact hl)))))
end K51
end
section
set_option linter.all false
set_option autoImplicit false
set_option maxRecDepth 100000
set_option maxHeartbeats 1000000
namespace K51
open PySem L2 Ev
def scrV (ns : List Int) : List Val := ns.map fun i => .d (.int i)
def srcLoop : SC := sq (sSet (tn 1) (e2 pMod (Ev.e1 pInt (e2 pAdd (e2 pAdd (e2 pMul (v 1) (k (.int 69069))) (e2 pMul (v 2) (k (.int 31)))) (k (.int 5)))) (k (.int 2147483629)))) sNil
theorem src_turn (a : Option Val) (m : Nat) (i : Int) (s : Store) : ∃ m' : Nat, srcLoop [a, some (.d (.int m)), some (.d (.int i))] s = .nx [a, some (.d (.int m')), some (.d (.int i))] s := by
  refine ⟨(((m : Int) * 69069 + i * 31 + 5) % 2147483629).toNat, ?_⟩
  have e : ((((m : Int) * 69069 + i * 31 + 5) % 2147483629).toNat : Int) = ((m : Int) * 69069 + i * 31 + 5) % 2147483629 := Int.toNat_of_nonneg (Int.emod_nonneg _ (by decide))
  rw [e]
  exact sq_nx (set_tn (e2_ok (e1_ok (e2_ok (e2_ok (e2_ok (v_ok rfl) k_ok (pMul_okr _ (by decide) (by decide))) (e2_ok (v_ok rfl) k_ok (pMul_okr _ (by decide) (by decide))) (pAdd_ok _ _ _)) k_ok (pAdd_ok _ _ _)) (pInt_ok _ _)) k_ok (pMod_ok _ (by decide)))) nil_nx
theorem src_for (a : Option Val) (s : Store) : ∀ (ns : List Int) (m : Nat) (q : Option Val), ∃ (m' : Nat) (q' : Option Val), forV (tn 2) srcLoop (scrV ns) [a, some (.d (.int m)), q] s = .nx [a, some (.d (.int m')), q'] s
  | [], m, q => ⟨m, q, rfl⟩
  | i :: ns, m, q => by
    obtain ⟨m1, h1⟩ := src_turn a m i s
    obtain ⟨m2, q2, h2⟩ := src_for a s ns m1 (some (.d (.int i)))
    exact ⟨m2, q2, forV_nx (E1 := [a, some (.d (.int m)), some (.d (.int i))]) rfl h1 h2⟩
theorem lc_abs (a b q : Option Val) (s : Store) : ∀ ns : List Int, lcV [2] (tn 2) yes (Ev.e1 pAbs (v 2)) [a, b, q] (scrV ns) s = .ok ((ns.map fun i => Ev.D.int (i.natAbs : Int)).map .d) s
  | [] => rfl
  | i :: ns => by
    have h := lc_abs a b q s ns
    have st : tn 2 (.d (.int i)) (Ev.wipe [a, b, q] [2]) s = some ([a, b, some (.d (.int i))], s) := rfl
    have el : Ev.e1 pAbs (v 2) [a, b, some (.d (.int i))] s = .ok (.d (.int (i.natAbs : Int))) s := rfl
    have e : scrV (i :: ns) = .d (.int i) :: scrV ns := rfl
    rw [e]
    simp only [lcV, lcT]
    rw [st]
    simp only [yes, Res.bind_ok, if_true, el, h, List.map_cons]
theorem fin_source (cs : List Nat) (l m t : Nat) : fin [] (.loc 1) (src cs l m t []) = (.loc 1, src cs l m t []) := by
  unfold fin
  rw [if_neg (by simp [src]), if_pos (.inr rfl)]
  rfl
theorem w_source (n : Nat) (ns : List Int) (h : ns.length ≤ 63) : ∃ m : Nat, runP prog (n + 1) 5 [.d (.scr ns)] [] = .ok (.loc 1) (src (ns.map Int.natAbs).reverse 1 m 0 []) := by
  obtain ⟨m, q, h1⟩ := src_for (some (.d (.scr ns))) [] ns 11 none
  refine ⟨m, ?_⟩
  rw [rp]
  refine (runFn_rt (f := ⟨1, 3, e__law_source (runP prog n)⟩) (xs := [.d (.scr ns)]) (x := .loc 1) (s' := src (ns.map Int.natAbs).reverse 1 m 0 []) rfl ?_).trans (by rw [fin_source])
  have hl : (scrV ns).length ≤ line := by unfold scrV; rw [List.length_map]; exact Nat.le_trans h (le_line rfl)
  have hl2 : (ns.map fun i => Ev.D.int (i.natAbs : Int)).length ≤ line := by rw [List.length_map]; exact Nat.le_trans h (le_line rfl)
  have hs : ∀ E s, v 0 E s = .ok (.d (.scr ns)) s → Ev.iSeq (v 0) E s = .ok (.vals (scrV ns)) s := by
    intro E s he; unfold Ev.iSeq; rw [he]; rfl
  have lc1 : Ev.lc [2] (tn 2) (Ev.iSeq (v 0)) yes (Ev.e1 pAbs (v 2)) [some (.d (.scr ns)), some (.d (.int m)), q] [] = .ok (.d (.lst (ns.map fun i => Ev.D.int (i.natAbs : Int)))) [] :=
    lcG_ok (hs _ _ (v_ok rfl)) (lcS_vals hl (lc_abs _ _ _ _ ns)) (mkL_ok (allD_map _) hl2)
  have rv : Ev.e1 pRevA (Ev.lc [2] (tn 2) (Ev.iSeq (v 0)) yes (Ev.e1 pAbs (v 2))) [some (.d (.scr ns)), some (.d (.int m)), q] [] = .ok (.loc 0) [.lst (ns.map fun i => Ev.D.int (i.natAbs : Int)).reverse] := e1_ok lc1 rfl
  have dc : dctA ["cells", "left", "mixed", "turn"] (acs [Ev.e1 pRevA (Ev.lc [2] (tn 2) (Ev.iSeq (v 0)) yes (Ev.e1 pAbs (v 2))), k (.int 1), v 1, k (.int 0)]) [some (.d (.scr ns)), some (.d (.int m)), q] [] = .ok (.loc 1) (src (ns.map Int.natAbs).reverse 1 m 0 []) := by
    have ar : acs [Ev.e1 pRevA (Ev.lc [2] (tn 2) (Ev.iSeq (v 0)) yes (Ev.e1 pAbs (v 2))), k (.int 1), v 1, k (.int 0)] [some (.d (.scr ns)), some (.d (.int m)), q] [] = .ok [.loc 0, .d (.int 1), .d (.int m), .d (.int 0)] [.lst (ns.map fun i => Ev.D.int (i.natAbs : Int)).reverse] := ac_ok rv (ac_ok k_ok (ac_ok (v_ok rfl) (ac_ok k_ok a0_ok)))
    have el : (ns.map fun i => Ev.D.int (i.natAbs : Int)).reverse = (ns.map Int.natAbs).reverse.map fun (n : Nat) => Ev.D.int (n : Int) := by
      rw [← List.map_reverse, ← List.map_reverse, List.map_map]; rfl
    unfold dctA; rw [ar, el]; rfl
  show sq (sSet (tn 1) (k (.int 11))) (sq (sFor (tn 2) (Ev.iSeq (v 0)) srcLoop) (sq (sRet (dctA ["cells", "left", "mixed", "turn"] (acs [Ev.e1 pRevA (Ev.lc [2] (tn 2) (Ev.iSeq (v 0)) yes (Ev.e1 pAbs (v 2))), k (.int 1), v 1, k (.int 0)]))) sNil)) [some (.d (.scr ns)), none, none] [] = _
  exact sq_nx (set_tn k_ok) (sq_nx (for_vals (hs _ _ (v_ok rfl)) h1) (sq_rt (ret_ok dc)))
end K51
end
section
set_option linter.all false
set_option autoImplicit false
set_option maxRecDepth 100000
set_option maxHeartbeats 1000000
namespace K51
open PySem L2 Ev
/-- of a small size and depth -/
def Sm (w d : Nat) (x : Ev.D) : Prop := good x = true ∧ wt x ≤ w ∧ (toPy x).depth ≤ d
theorem Sm.mono {w d w' d' : Nat} {x : Ev.D} (h : Sm w d x) (h1 : w ≤ w') (h2 : d ≤ d') : Sm w' d' x := ⟨h.1, Nat.le_trans h.2.1 h1, Nat.le_trans h.2.2 h2⟩
theorem sm_int {i : Int} (h : i.natAbs < 10 ^ 60) : Sm 61 0 (.int i) := ⟨decide_eq_true h, Nat.le_refl _, by simp [toPy, PyData.depth]⟩
theorem sms {w d : Nat} : ∀ xs : List Ev.D, (∀ x ∈ xs, Sm w d x) → goods xs = true ∧ wts xs ≤ xs.length * (w + 2) ∧ PyData.depthAll (toPys xs) ≤ d
  | [], _ => ⟨rfl, by simp [wts], by simp [toPys, PyData.depthAll]⟩
  | x :: xs, h => by
    obtain ⟨h1, h2, h3⟩ := h x (List.mem_cons_self ..)
    obtain ⟨i1, i2, i3⟩ := sms xs fun y hy => h y (List.mem_cons_of_mem _ hy)
    refine ⟨by simp only [goods, h1, i1, Bool.and_self], ?_, ?_⟩
    · simp only [wts, List.length_cons, Nat.succ_mul]; omega
    · simp only [toPys, PyData.depthAll]; exact Nat.max_le.mpr ⟨h3, i3⟩
theorem sm_tup {w d n : Nat} {xs : List Ev.D} (h : ∀ x ∈ xs, Sm w d x) (hl : xs.length ≤ n) : Sm (n * (w + 2) + 3) (d + 1) (.tup xs) := by
  obtain ⟨h1, h2, h3⟩ := sms xs h
  refine ⟨by simpa [good] using h1, ?_, ?_⟩
  · simp only [wt]
    have := Nat.mul_le_mul_right (w + 2) hl
    omega
  · simp only [toPy, PyData.depth]; omega
theorem nodesOk_snoc (node : Int) (x : Ev.D) : ∀ (xs pre : List Ev.D), nodesOk node pre (xs ++ [x]) = (nodesOk node pre xs && (isNum x 0 node && !inD x (pre ++ xs)))
  | [], pre => by simp [nodesOk]
  | y :: ys, pre => by
    have ih := nodesOk_snoc node x ys (pre ++ [y])
    simp only [List.cons_append, nodesOk, ih, List.append_assoc, List.nil_append]
    simp only [Bool.and_assoc]
theorem isNum_mono {x : Ev.D} {lo hi hi' : Int} (h : isNum x lo hi = true) (hh : hi ≤ hi') : isNum x lo hi' = true := by
  obtain ⟨i, rfl, h1, h2⟩ := isNum_int h
  simp only [isNum, Bool.and_eq_true, decide_eq_true_eq]
  exact ⟨h1, by omega⟩
theorem nodesOk_mono {a b : Int} (hh : a ≤ b) : ∀ (xs pre : List Ev.D), nodesOk a pre xs = true → nodesOk b pre xs = true
  | [], _, _ => by simp [nodesOk]
  | x :: xs, pre, h => by
    simp only [nodesOk, Bool.and_eq_true] at h ⊢
    exact ⟨isNum_mono h.1 hh, h.2.1, nodesOk_mono hh xs _ h.2.2⟩
theorem tabFault_mono {kk a b : Int} (hh : a ≤ b) {x : Ev.D} (h : tabFault kk a x = none) : tabFault kk b x = none := by
  unfold tabFault at h ⊢
  split at h
  · split at h
    · rename_i ns
      split at h
      · cases h
      · rename_i h1
        split at h
        · rename_i h2
          split at h
          · rename_i h3
            simp only [if_neg h1, if_pos (nodesOk_mono hh _ _ h2), if_pos h3]
          · cases h
        · cases h
    · cases h
  · cases h
theorem notin_lst {x : Ev.D} {ys : List Ev.D} {s : Store} {lo hi : Int} (hx : isNum x lo hi = true) (hy : D.plains ys = true) : pNotIn (.d x) (.d (.lst ys)) s = .ok (.d (.bl (!inD x ys))) s := by
  obtain ⟨i, rfl, _⟩ := isNum_int hx
  unfold pNotIn pInB
  simp only [peek_d, D.plain, hy, low_int, Bool.and_self, if_true, Bool.true_xor]
/-- the slots of _law_draw_net -/
def dE (kk : Int) (a b : Nat) (q8 q9 q10 q11 q12 q13 q14 : Option Val) : Ev.Env := [some (.loc 1), some (.d (.int kk)), some (.d (.int 3)), some (.d (.int 2)), some (.d (.int 6)), some (.d (.int a)), some (.d (.int b)), some (.loc 2), q8, q9, q10, q11, q12, q13, q14, none, none]
def nodeB : SC := sq (sSet (tn 11) (eif (bb (e2 pNotIn (v 13) (v 11))) (e2 pAdd (v 11) (lst (ac (v 13) (a0)))) (v 11))) sNil
/-- nodes so far -/
def NOk (many : Int) (c : Nat) (ds : List Ev.D) : Prop := nodesOk many [] ds = true ∧ D.plains ds = true ∧ ds.length ≤ c
theorem node_turn (kk many : Int) (a b c : Nat) (q8 q9 q10 q12 q14 : Option Val) (y : Ev.D) (ds : List Ev.D) (s : Store) (hy : isNum y 0 many = true) (hd : NOk many c ds) (hc : c ≤ 100) :
    ∃ ds', nodeB (dE kk a b q8 q9 q10 (some (.d (.lst ds))) q12 (some (.d y)) q14) s = .nx (dE kk a b q8 q9 q10 (some (.d (.lst ds'))) q12 (some (.d y)) q14) s ∧ NOk many (c + 1) ds' := by
  obtain ⟨h1, h2, h3⟩ := hd
  have t := notin_lst (s := s) hy h2
  cases h : inD y ds with
  | true =>
    rw [h] at t
    exact ⟨ds, sq_nx (set_tn (eif_f (bb_ok (e2_ok (v_ok rfl) (v_ok rfl) t)) (v_ok rfl))) nil_nx, h1, h2, by omega⟩
  | false =>
    rw [h] at t
    refine ⟨ds ++ [y], sq_nx (set_tn (eif_t (bb_ok (e2_ok (v_ok rfl) (v_ok rfl) t)) (e2_ok (v_ok rfl) (lst_ok (ac_ok (v_ok rfl) a0_ok) rfl (le_line rfl)) ?_))) nil_nx, ?_, plains_snoc h2 (plain_num hy), by simp; omega⟩
    · have l : ds.length + [y].length ≤ line := Nat.le_trans (show ds.length + 1 ≤ 200 by omega) (le_line rfl)
      show (if ds.length + [y].length ≤ line then Res.ok (Val.d (.lst (ds ++ [y]))) s else .fail) = _
      rw [if_pos l]
    · rw [nodesOk_snoc, h1, hy, List.nil_append, h]; rfl
theorem node_for (kk many : Int) (a b : Nat) (q8 q9 q10 q12 q14 : Option Val) (s : Store) : ∀ (ys : List Ev.D) (c : Nat) (ds : List Ev.D) (q13 : Option Val), (∀ y ∈ ys, isNum y 0 many = true) → NOk many c ds → c + ys.length ≤ 100 →
    ∃ (ds' : List Ev.D) (q13' : Option Val), forV (tn 13) nodeB (ys.map .d) (dE kk a b q8 q9 q10 (some (.d (.lst ds))) q12 q13 q14) s = .nx (dE kk a b q8 q9 q10 (some (.d (.lst ds'))) q12 q13' q14) s ∧ NOk many (c + ys.length) ds'
  | [], c, ds, q13, _, hd, _ => ⟨ds, q13, rfl, hd⟩
  | y :: ys, c, ds, q13, hy, hd, hc => by
    rw [List.length_cons] at hc
    obtain ⟨d1, h1, n1⟩ := node_turn kk many a b c q8 q9 q10 q12 q14 y ds s (hy y (List.mem_cons_self ..)) hd (by omega)
    obtain ⟨d2, q, h2, n2⟩ := node_for kk many a b q8 q9 q10 q12 q14 s ys (c + 1) d1 (some (.d y)) (fun z hz => hy z (List.mem_cons_of_mem _ hz)) n1 (by omega)
    refine ⟨d2, q, forV_nx (E1 := dE kk a b q8 q9 q10 (some (.d (.lst ds))) q12 (some (.d y)) q14) rfl h1 h2, ?_⟩
    rw [List.length_cons, show c + (ys.length + 1) = c + 1 + ys.length by omega]; exact n2
end K51
end
section
set_option linter.all false
set_option autoImplicit false
set_option maxRecDepth 100000
set_option maxHeartbeats 1000000
namespace K51
open PySem L2 Ev
theorem cut_pre (ys : List Ev.D) (c : Nat) : (∀ y ∈ cut ys none (some (c : Int)), y ∈ ys) ∧ (cut ys none (some (c : Int))).length ≤ c := by
  have e : cut ys none (some (c : Int)) = ys.take (min c ys.length) := by
    unfold cut sIx
    show List.take ((if (c : Int) < 0 then _ else min (c : Int).toNat ys.length) - 0) (List.drop 0 ys) = _
    rw [if_neg (by omega), Int.toNat_natCast, List.drop_zero, Nat.sub_zero]
  rw [e]
  exact ⟨fun y h => List.mem_of_mem_take h, by rw [List.length_take]; omega⟩
theorem near_seq {E : Ev.Env} {s : Store} {ys : List Ev.D} {c : Nat} (h1 : v 10 E s = .ok (.d (.lst ys)) s) (h2 : v 12 E s = .ok (.d (.int c)) s) : iSeq (sl (v 10) pn (ps (v 12))) E s = .ok (.vals ((cut ys none (some (c : Int))).map .d)) s := by
  have h : sl (v 10) pn (ps (v 12)) E s = .ok (.d (.lst (cut ys none (some (c : Int))))) s := by
    have hp : ps (v 12) E s = .ok (some (c : Int)) s := by unfold ps; rw [h2]; rfl
    unfold sl
    rw [h1]
    show ((ps (v 12) E s).bind fun h s => pSl (.d (.lst ys)) none h s) = _
    rw [hp]; rfl
  unfold Ev.iSeq; rw [h]; rfl
theorem rng_num {lo hi : Int} (h0 : 0 ≤ lo) : ∀ y ∈ rng lo hi, isNum y 0 hi = true := by
  intro y hy
  unfold rng at hy
  obtain ⟨j, hj, rfl⟩ := List.mem_map.mp hy
  have := List.mem_range.mp hj
  simp only [isNum, Bool.and_eq_true, decide_eq_true_eq]
  omega
theorem isNum_nat {j M : Nat} (h : j < M) : isNum (.int (j : Int)) 0 (M : Int) = true := by
  simp only [isNum, Bool.and_eq_true, decide_eq_true_eq]; omega
theorem small_of {i : Int} (h0 : 0 ≤ i) (h1 : i ≤ 1000000) : small i = true := by
  unfold small
  rw [decide_eq_true (show (-(2 ^ 62) : Int) ≤ i by omega), decide_eq_true (show i < 2 ^ 62 by omega)]; rfl
/-- the nodes near -/
theorem near_ok (n M : Nat) (E : Ev.Env) (cs : List Nat) (l m t : Nat) (r : Store) (hM : 0 < M) (hM2 : M ≤ 1000) (hr : okR r) (hc : cs.length < most) (h0 : ∀ s, v 0 E s = .ok (.loc 1) s) (h9 : ∀ s, v 9 E s = .ok (.d (.int M)) s) :
    ∃ (ys : List Ev.D) (cs' : List Nat) (l' m' t' : Nat), call (runP prog (n + 2)) 8 (ac (v 0) (ac (e2 pAdd (e2 pLRng2 (e2 pMax (k (.int 0)) (e2 pSub (v 9) (k (.int 7)))) (v 9)) (lst (ac (call (runP prog (n + 2)) 6 (ac (v 0) (ac (v 9) (a0)))) (a0)))) (a0))) E (src cs l m t r) = .ok (.d (.lst ys)) (src cs' l' m' t' r) ∧ (∀ y ∈ ys, isNum y 0 M = true) ∧ ys.length ≤ 8 ∧ cs'.length ≤ cs.length := by
  obtain ⟨j, cs1, l1, m1', t1, hp, hj, hl⟩ := w_pick (n + 1) M cs l m t r (fits_len (Nat.le_trans hM2 (le_line rfl))) hc
  have hlen : (rng (max 0 ((M : Int) - 7)) M).length ≤ 7 := by
    unfold rng; rw [List.length_map, List.length_range]; omega
  have lr : pLRng2 (.d (.int (max 0 ((M : Int) - 7)))) (.d (.int M)) (src cs l m t r) = .ok (.d (.lst (rng (max 0 ((M : Int) - 7)) M))) (src cs l m t r) := by
    unfold pLRng2
    have b : ((M : Int) - max 0 ((M : Int) - 7)).toNat ≤ line := Nat.le_trans (show _ ≤ 1000 by omega) (le_line rfl)
    simp only [small_of (show 0 ≤ max 0 ((M : Int) - 7) by omega) (by omega), small_of (show 0 ≤ (M : Int) by omega) (by omega), decide_eq_true b, Bool.and_self, if_true]
  have ap : pAdd (.d (.lst (rng (max 0 ((M : Int) - 7)) M))) (.d (.lst [.int (j : Int)])) (src cs1 l1 m1' t1 r) = .ok (.d (.lst (rng (max 0 ((M : Int) - 7)) M ++ [.int (j : Int)]))) (src cs1 l1 m1' t1 r) := by
    have b : (rng (max 0 ((M : Int) - 7)) M).length + [Ev.D.int (j : Int)].length ≤ line := Nat.le_trans (show (rng (max 0 ((M : Int) - 7)) M).length + 1 ≤ 8 by omega) (le_line rfl)
    show (if (rng (max 0 ((M : Int) - 7)) M).length + [Ev.D.int (j : Int)].length ≤ line then Res.ok (Val.d (.lst _)) (src cs1 l1 m1' t1 r) else .fail) = _
    rw [if_pos b]
  have hl8 : (rng (max 0 ((M : Int) - 7)) M ++ [Ev.D.int (j : Int)]).length ≤ 8 := by rw [List.length_append]; exact Nat.add_le_add_right hlen 1
  obtain ⟨ys, cs', l', m', t', hm, hy, hyl, hcl⟩ := w_mixed n (rng (max 0 ((M : Int) - 7)) M ++ [.int (j : Int)]) cs1 l1 m1' t1 r hr (Nat.le_trans hl8 (le_line rfl)) (Nat.lt_of_le_of_lt hl hc)
  refine ⟨ys, cs', l', m', t', ?_, fun y hyy => ?_, by rw [hyl]; exact hl8, Nat.le_trans hcl hl⟩
  · exact call_ok (ac_ok (h0 _) (ac_ok (e2_ok (e2_ok (e2_ok k_ok (e2_ok (h9 _) k_ok (pSub_ok _ _ _)) (pMax_ok _ _ _)) (h9 _) lr) (lst_ok (ac_ok (call_ok (ac_ok (h0 _) (ac_ok (h9 _) a0_ok)) hp) a0_ok) rfl (le_line rfl)) ap) a0_ok)) hm
  · rcases List.mem_append.mp (hy y hyy) with h | h
    · exact rng_num (by omega) y h
    · rw [List.mem_singleton] at h; subst h
      exact isNum_nat (by omega)
theorem two_two {L : Nat} (h : L ≤ 6) : 2 ^ (2 ^ L) ≤ 2 ^ 64 := Nat.pow_le_pow_right (by decide) (Nat.le_trans (Nat.pow_le_pow_right (by decide) h) (by decide))
/-- the number of truths -/
theorem truth_ok (n : Nat) (ds : List Ev.D) (E : Ev.Env) (cs : List Nat) (l m t : Nat) (r : Store) (hd : ds.length ≤ 6) (hc : cs.length < most) (h0 : ∀ s, v 0 E s = .ok (.loc 1) s) (h11 : ∀ s, v 11 E s = .ok (.d (.lst ds)) s) :
    ∃ (j : Nat) (cs' : List Nat) (l' m' t' : Nat), call (runP prog (n + 1)) 6 (ac (v 0) (ac (e2 pShl (k (.int 1)) (e2 pShl (k (.int 1)) (Ev.e1 pLen (v 11)))) (a0))) E (src cs l m t r) = .ok (.d (.int j)) (src cs' l' m' t' r) ∧ j < 2 ^ (2 ^ ds.length) ∧ cs'.length ≤ cs.length := by
  obtain ⟨j, cs', l', m', t', hp, hj, hl⟩ := w_pick n (2 ^ (2 ^ ds.length)) cs l m t r (Fits.small (two_two hd)) hc
  have hpos : 0 < 2 ^ (2 ^ ds.length) := Nat.pow_pos (by decide)
  have h64 : 2 ^ ds.length ≤ 64 := Nat.le_trans (Nat.pow_le_pow_right (by decide) hd) (by decide)
  have p1 : (1 : Int) * 2 ^ (ds.length : Int).toNat = ((2 ^ ds.length : Nat) : Int) := by rw [Int.toNat_natCast, Int.one_mul]; exact (Int.natCast_pow 2 _).symm
  have p2 : (1 : Int) * 2 ^ ((2 ^ ds.length : Nat) : Int).toNat = ((2 ^ (2 ^ ds.length) : Nat) : Int) := by rw [Int.toNat_natCast, Int.one_mul]; exact (Int.natCast_pow 2 _).symm
  have s1 : ∀ s, pShl (.d (.int 1)) (.d (.int (ds.length : Int))) s = .ok (.d (.int ((2 ^ ds.length : Nat) : Int))) s := fun s => (pShl_ok s (by omega) (by omega) (by decide)).trans (by rw [p1])
  have s2 : ∀ s, pShl (.d (.int 1)) (.d (.int ((2 ^ ds.length : Nat) : Int))) s = .ok (.d (.int ((2 ^ (2 ^ ds.length) : Nat) : Int))) s := fun s => (pShl_ok s (Int.natCast_nonneg _) (Int.ofNat_le.mpr (Nat.le_trans h64 (by decide))) (by decide)).trans (by rw [p2])
  exact ⟨j, cs', l', m', t', call_ok (ac_ok (h0 _) (ac_ok (e2_ok k_ok (e2_ok k_ok (e1_ok (h11 _) rfl) (s1 _)) (s2 _)) a0_ok)) hp, by rw [Nat.max_eq_right hpos] at hj; exact hj, hl⟩
/-- a table in order -/
def TOk (kk b : Int) (x : Ev.D) : Prop := tabFault kk b x = none ∧ Sm 600 2 x
theorem nodes_num {node : Int} : ∀ (xs pre : List Ev.D), nodesOk node pre xs = true → ∀ x ∈ xs, isNum x 0 node = true
  | [], _, _, x, h => by cases h
  | y :: ys, pre, h, x, hx => by
    simp only [nodesOk, Bool.and_eq_true] at h
    rcases List.mem_cons.mp hx with rfl | hm
    · exact h.1
    · exact nodes_num ys _ h.2.2 x hm
theorem sm_num {x : Ev.D} {M : Int} (h : isNum x 0 M = true) (hM : M ≤ 1000000) : Sm 61 0 x := by
  obtain ⟨i, rfl, h1, h2⟩ := isNum_int h
  exact sm_int (Nat.lt_of_lt_of_le (show i.natAbs < 1000000 by omega) (by decide))
theorem tok_new {kk M : Int} {ds : List Ev.D} {j c : Nat} (h : NOk M c ds) (hc : (c : Int) ≤ kk) (hk : kk ≤ 6) (hM : M ≤ 1000000) (hj : j < 2 ^ (2 ^ ds.length)) : TOk kk M (.tup [.tup ds, .int j]) := by
  obtain ⟨h1, h2, h3⟩ := h
  refine ⟨?_, ?_⟩
  · have a : ¬ ((ds.length : Int) > kk) := by omega
    have b : isNum (.int (j : Int)) 0 ((2 ^ (2 ^ ds.length) : Nat) : Int) = true := isNum_nat hj
    unfold tabFault
    simp only [if_neg a, if_pos h1, if_pos b]
  · have l6 : ds.length ≤ 6 := by omega
    have t1 : Sm (6 * 63 + 3) 1 (.tup ds) := sm_tup (fun x hx => sm_num (nodes_num ds [] h1 x hx) hM) l6
    have j1 : Sm 61 0 (.int (j : Int)) := sm_int (by
      have := two_two l6
      have h2 : (j : Int).natAbs = j := Int.natAbs_natCast j
      rw [h2]
      exact Nat.lt_of_lt_of_le (Nat.lt_of_lt_of_le hj this) (by decide))
    obtain ⟨a1, a2, a3⟩ := t1
    obtain ⟨b1, b2, b3⟩ := j1
    refine ⟨by simp only [good, goods] at a1 b1 ⊢; simp only [a1, b1, Bool.and_self], ?_, ?_⟩
    · simp only [wt, wts] at a2 b2 ⊢; omega
    · simp only [toPy, toPys, PyData.depth, PyData.depthAll] at a3 b3 ⊢; omega
theorem tabs_snoc (kk first : Int) (x : Ev.D) : ∀ (ts : List Ev.D) (i : Nat), tabsBad kk first i ts = none → tabFault kk (first + ((i + ts.length : Nat) : Int)) x = none → tabsBad kk first i (ts ++ [x]) = none
  | [], i, _, h => by
    have h' : tabFault kk (first + i) x = none := h
    show (match tabFault kk (first + i) x with | some j => some (tabPath i j) | none => none) = none
    rw [h']
  | y :: ys, i, h, hx => by
    have e : tabsBad kk first i ((y :: ys) ++ [x]) = (match tabFault kk (first + i) y with | some j => some (tabPath i j) | none => tabsBad kk first (i + 1) (ys ++ [x])) := rfl
    have e2 : tabsBad kk first i (y :: ys) = (match tabFault kk (first + i) y with | some j => some (tabPath i j) | none => tabsBad kk first (i + 1) ys) := rfl
    rw [e2] at h
    rw [e]
    cases q : tabFault kk (first + i) y with
    | some j => rw [q] at h; cases h
    | none =>
      rw [q] at h
      refine tabs_snoc kk first x ys (i + 1) h ?_
      rw [List.length_cons] at hx
      rw [show i + 1 + ys.length = i + (ys.length + 1) by omega]; exact hx
theorem tabs_mem (kk first : Int) (x : Ev.D) : ∀ (ts : List Ev.D) (i : Nat), tabsBad kk first i ts = none → x ∈ ts → tabFault kk (first + ((i + ts.length : Nat) : Int)) x = none
  | [], i, _, h => by cases h
  | y :: ys, i, h, hx => by
    have e2 : tabsBad kk first i (y :: ys) = (match tabFault kk (first + i) y with | some j => some (tabPath i j) | none => tabsBad kk first (i + 1) ys) := rfl
    rw [e2] at h
    cases q : tabFault kk (first + i) y with
    | some j => rw [q] at h; cases h
    | none =>
      rw [q] at h
      rcases List.mem_cons.mp hx with rfl | hm
      · exact tabFault_mono (by omega) q
      · have := tabs_mem kk first x ys (i + 1) h hm
        rw [List.length_cons, show i + (ys.length + 1) = i + 1 + ys.length by omega]; exact this
end K51
end
section
set_option linter.all false
set_option autoImplicit false
set_option maxRecDepth 100000
set_option maxHeartbeats 1000000
namespace K51
open PySem L2 Ev
theorem eq_nil (xs : List Ev.D) (s : Store) : pEq (.d (.lst xs)) (.d (.lst [])) s = .ok (.d (.bl xs.isEmpty)) s := by
  have h : eqD (.lst xs) (.lst []) = xs.isEmpty := by
    cases xs with
    | nil => rfl
    | cons x r => simp only [eqD, toPy, toPys, PyData.eqv, PyData.eqvAll]; rfl
  have lo : low (.lst []) = true := decide_eq_true (by simp [toPy, toPys, PyData.depth, PyData.depthAll])
  unfold pEq pEqB
  simp only [peek_d]
  by_cases c : (D.plain (.lst xs) && D.plain (.lst []) && (low (.lst xs) || low (.lst []))) = true
  · rw [if_pos c, h, Bool.false_xor]
  · rw [if_neg c]
    cases xs with
    | nil => exact absurd rfl c
    | cons x r => rfl
theorem eq_nilA (ts : List Ev.D) (cs : List Nat) (l m t : Nat) : pEq (.loc 2) (.d (.lst [])) (src cs l m t [.lst ts]) = .ok (.d (.bl ts.isEmpty)) (src cs l m t [.lst ts]) := by
  have h : pEq (.loc 2) (.d (.lst [])) (src cs l m t [.lst ts]) = pEq (.d (.lst ts)) (.d (.lst [])) (src cs l m t [.lst ts]) := rfl
  rw [h, eq_nil]
theorem par_ok {i j : Nat} {a b : EC} {E : Ev.Env} {s s1 s2 : Store} {x y : Val} (h : a E s = .ok x s1) (h2 : b E s1 = .ok y s2) : sPar i j a b E s = .nx ((E.set i (some x)).set j (some y)) s2 := by
  unfold sPar; rw [h]; show ofRes (b E s1) E _ = _; rw [h2]; rfl
/-- tables so far -/
def TsOk (kk first : Int) (c : Nat) (ts : List Ev.D) : Prop := ts.length ≤ c ∧ tabsBad kk first 0 ts = none ∧ ∀ x ∈ ts, Sm 600 2 x
noncomputable def newT (C : Calls) : EC := eif (bor (bb (e2 pEq (v 7) (lst (a0)))) (bb (e2 pGt (call C 6 (ac (v 0) (ac (k (.int 6)) (a0)))) (k (.int 0))))) (tup (ac (Ev.e1 pTuple (v 11)) (ac (v 14) (a0)))) (call C 7 (ac (v 0) (ac (v 7) (a0))))
theorem newT_ok (n : Nat) (kk first : Int) (c : Nat) (ts ds : List Ev.D) (j : Nat) (E : Ev.Env) (cs : List Nat) (l m t : Nat) (hts : TsOk kk first c ts) (hc6 : c ≤ 100) (hnew : TOk kk (first + ((0 + ts.length : Nat) : Int)) (.tup [.tup ds, .int j])) (hc : cs.length < most)
    (h0 : ∀ s, v 0 E s = .ok (.loc 1) s) (h7 : ∀ s, v 7 E s = .ok (.loc 2) s) (h11 : ∀ s, v 11 E s = .ok (.d (.lst ds)) s) (h14 : ∀ s, v 14 E s = .ok (.d (.int j)) s) :
    ∃ (x : Ev.D) (cs' : List Nat) (l' m' t' : Nat), newT (runP prog (n + 2)) E (src cs l m t [.lst ts]) = .ok (.d x) (src cs' l' m' t' [.lst ts]) ∧ TOk kk (first + ((0 + ts.length : Nat) : Int)) x ∧ cs'.length ≤ cs.length := by
  have mk : ∀ s, tup (ac (Ev.e1 pTuple (v 11)) (ac (v 14) (a0))) E s = .ok (.d (.tup [.tup ds, .int j])) s := fun s => tup_ok (ac_ok (e1_ok (h11 _) rfl) (ac_ok (h14 _) a0_ok)) rfl (le_line rfl)
  have eb : bb (e2 pEq (v 7) (lst (a0))) E (src cs l m t [.lst ts]) = .ok ts.isEmpty (src cs l m t [.lst ts]) := bb_ok (e2_ok (h7 _) (lst_ok a0_ok rfl (le_line rfl)) (eq_nilA ts cs l m t))
  cases he : ts.isEmpty with
  | true =>
    rw [he] at eb
    exact ⟨_, cs, l, m, t, eif_t (bor_t eb) (mk _), hnew, Nat.le_refl _⟩
  | false =>
    rw [he] at eb
    obtain ⟨p, cs1, l1, m1', t1, hp, _, hl⟩ := w_pick (n + 1) 6 cs l m t [.lst ts] (fits_len (le_line rfl)) hc
    have gb : bb (e2 pGt (call (runP prog (n + 2)) 6 (ac (v 0) (ac (k (.int 6)) (a0)))) (k (.int 0))) E (src cs l m t [.lst ts]) = .ok (decide ((0 : Int) < (p : Int))) (src cs1 l1 m1' t1 [.lst ts]) := bb_ok (e2_ok (call_ok (ac_ok (h0 _) (ac_ok k_ok a0_ok)) hp) k_ok (pGt_ok _ _ _))
    cases hd : decide ((0 : Int) < (p : Int)) with
    | true =>
      rw [hd] at gb
      exact ⟨_, cs1, l1, m1', t1, eif_t (bor_f eb gb) (mk _), hnew, hl⟩
    | false =>
      rw [hd] at gb
      have ne : ts ≠ [] := by intro e; rw [e] at he; cases he
      obtain ⟨x, cs', l', m', t', hw, hx, hl'⟩ := w_ofA n 0 ts cs1 l1 m1' t1 [.lst ts] rfl ne (Nat.le_trans hts.1 (Nat.le_trans hc6 (le_line rfl))) (Nat.lt_of_le_of_lt hl hc)
      exact ⟨x, cs', l', m', t', eif_f (bor_f eb gb) (call_ok (ac_ok (h0 _) (ac_ok (h7 _) a0_ok)) hw), ⟨tabs_mem kk first x ts 0 hts.2.1 hx, hts.2.2 x hx⟩, Nat.le_trans hl' hl⟩
theorem tsok_snoc {kk first : Int} {c : Nat} {ts : List Ev.D} {x : Ev.D} (h : TsOk kk first c ts) (hx : TOk kk (first + ((0 + ts.length : Nat) : Int)) x) : TsOk kk first (c + 1) (ts ++ [x]) := by
  refine ⟨by rw [List.length_append]; exact Nat.add_le_add_right h.1 1, tabs_snoc kk first x ts 0 h.2.1 hx.1, fun y hy => ?_⟩
  rcases List.mem_append.mp hy with h1 | h1
  · exact h.2.2 y h1
  · rw [List.mem_singleton] at h1; subst h1; exact hx.2
theorem app_ok {a : EC} {E : Ev.Env} {cs cs' : List Nat} {l m t l' m' t' : Nat} {ts : List Ev.D} {x : Ev.D} (h7 : ∀ s, v 7 E s = .ok (.loc 2) s) (ha : a E (src cs l m t [.lst ts]) = .ok (.d x) (src cs' l' m' t' [.lst ts])) (hl : ts.length ≤ 100) :
    m1 pApp (v 7) a E (src cs l m t [.lst ts]) = .ok (.d .non) (src cs' l' m' t' [.lst (ts ++ [x])]) := by
  unfold m1
  rw [h7]
  have isl : isL (.loc 2) (src cs l m t [.lst ts]) = true := rfl
  simp only [Res.bind_ok, isl, if_true, ha]
  have b : ts.length < line := Nat.lt_of_le_of_lt hl (by decide)
  show (if ts.length < line then Res.ok (Val.d .non) ((src cs' l' m' t' [.lst ts]).set 2 (.lst (ts ++ [x]))) else .fail) = _
  rw [if_pos b]; rfl
def nineE : EC := e2 pAdd (e2 pAdd (e2 pAdd (k (.int 1)) (v 5)) (v 6)) (Ev.e1 pLen (v 7))
theorem nine_ok (kk : Int) (a b : Nat) (q8 q9 q10 q11 q12 q13 q14 : Option Val) (ts : List Ev.D) (cs : List Nat) (l m t : Nat) : sSet (tn 9) nineE (dE kk a b q8 q9 q10 q11 q12 q13 q14) (src cs l m t [.lst ts]) =
    .nx (dE kk a b q8 (some (.d (.int ((1 + a + b + ts.length : Nat) : Int)))) q10 q11 q12 q13 q14) (src cs l m t [.lst ts]) := by
  have e : (1 : Int) + (a : Int) + (b : Int) + (ts.length : Int) = ((1 + a + b + ts.length : Nat) : Int) := by omega
  have h : nineE (dE kk a b q8 q9 q10 q11 q12 q13 q14) (src cs l m t [.lst ts]) = .ok (.d (.int ((1 + a + b + ts.length : Nat) : Int))) (src cs l m t [.lst ts]) := by
    rw [← e]
    exact e2_ok (e2_ok (e2_ok k_ok (v_ok rfl) (pAdd_ok _ _ _)) (v_ok rfl) (pAdd_ok _ _ _)) (e1_ok (v_ok rfl) (show pLen (.loc 2) (src cs l m t [.lst ts]) = _ from rfl)) (pAdd_ok _ _ _)
  exact (set_tn h).trans rfl
noncomputable def nearE (C : Calls) : EC := call C 8 (ac (v 0) (ac (e2 pAdd (e2 pLRng2 (e2 pMax (k (.int 0)) (e2 pSub (v 9) (k (.int 7)))) (v 9)) (lst (ac (call C 6 (ac (v 0) (ac (v 9) (a0)))) (a0)))) (a0)))
noncomputable def truthE (C : Calls) : EC := call C 6 (ac (v 0) (ac (e2 pShl (k (.int 1)) (e2 pShl (k (.int 1)) (Ev.e1 pLen (v 11)))) (a0)))
noncomputable def lapB (C : Calls) : SC := sq (sSet (tn 9) nineE) (sq (sSet (tn 10) (nearE C)) (sq (sPar 11 12 (lst (a0)) (call C 6 (ac (v 0) (ac (e2 pAdd (v 1) (k (.int 1))) (a0))))) (sq (sFor (tn 13) (iSeq (sl (v 10) (pn) (ps (v 12)))) nodeB) (sq (sSet (tn 14) (truthE C)) (sq (sExp (m1 pApp (v 7) (newT C))) (sNil))))))
theorem lap_ok (n kn a b c : Nat) (hk : kn ≤ 6) (ha : a ≤ 3) (hb : b ≤ 2) (hc6 : c ≤ 100) (q8 q9 q10 q11 q12 q13 q14 : Option Val) (ts : List Ev.D) (cs : List Nat) (l m t : Nat) (hts : TsOk kn ((1 + a + b : Nat) : Int) c ts) (hc : cs.length < most) :
    ∃ (r9 r10 r11 r12 r13 r14 : Option Val) (ts' : List Ev.D) (cs' : List Nat) (l' m' t' : Nat), lapB (runP prog (n + 2)) (dE kn a b q8 q9 q10 q11 q12 q13 q14) (src cs l m t [.lst ts]) = .nx (dE kn a b q8 r9 r10 r11 r12 r13 r14) (src cs' l' m' t' [.lst ts']) ∧ TsOk kn ((1 + a + b : Nat) : Int) (c + 1) ts' ∧ cs'.length ≤ cs.length := by
  have hlen : ts.length ≤ 100 := Nat.le_trans hts.1 hc6
  obtain ⟨M, hM⟩ : ∃ M, 1 + a + b + ts.length = M := ⟨_, rfl⟩
  have st1 := nine_ok kn a b q8 q9 q10 q11 q12 q13 q14 ts cs l m t
  rw [hM] at st1
  obtain ⟨ys, cs1, l1, m1', t1, hn, hy, hyl, hl1⟩ := near_ok n M (dE kn a b q8 (some (.d (.int M))) q10 q11 q12 q13 q14) cs l m t [.lst ts] (by omega) (by omega) (ok_lst ts) hc (fun _ => rfl) (fun _ => rfl)
  have hc1 := Nat.lt_of_le_of_lt hl1 hc
  obtain ⟨z, cs2, l2, m2', t2, hz, hzl, hl2⟩ := w_pick (n + 1) (kn + 1) cs1 l1 m1' t1 [.lst ts] (fits_len (Nat.le_trans (show kn + 1 ≤ 100 by omega) (le_line rfl))) hc1
  have hc2 := Nat.lt_of_le_of_lt hl2 hc1
  have pz : call (runP prog (n + 2)) 6 (ac (v 0) (ac (e2 pAdd (v 1) (k (.int 1))) (a0))) (dE kn a b q8 (some (.d (.int M))) (some (.d (.lst ys))) q11 q12 q13 q14) (src cs1 l1 m1' t1 [.lst ts]) = .ok (.d (.int z)) (src cs2 l2 m2' t2 [.lst ts]) :=
    call_ok (ac_ok (v_ok rfl) (ac_ok (e2_ok (v_ok rfl) k_ok (pAdd_ok _ _ _)) a0_ok)) hz
  have hcut := cut_pre ys z
  obtain ⟨ds, p13, hf, hd⟩ := node_for kn M a b q8 (some (.d (.int M))) (some (.d (.lst ys))) (some (.d (.int z))) q14 (src cs2 l2 m2' t2 [.lst ts]) (cut ys none (some (z : Int))) 0 [] q13 (fun y h => hy y (hcut.1 y h)) ⟨rfl, rfl, Nat.le_refl _⟩ (by omega)
  have hd' : NOk M z ds := ⟨hd.1, hd.2.1, by have := hd.2.2; omega⟩
  have hd6 : ds.length ≤ 6 := by have := hd'.2.2; omega
  obtain ⟨j, cs3, l3, m3', t3, hj, hjl, hl3⟩ := truth_ok (n + 1) ds (dE kn a b q8 (some (.d (.int M))) (some (.d (.lst ys))) (some (.d (.lst ds))) (some (.d (.int z))) p13 q14) cs2 l2 m2' t2 [.lst ts] hd6 hc2 (fun _ => rfl) (fun _ => rfl)
  have hc3 := Nat.lt_of_le_of_lt hl3 hc2
  have hnew : TOk kn (((1 + a + b : Nat) : Int) + ((0 + ts.length : Nat) : Int)) (.tup [.tup ds, .int j]) := by
    rw [show ((1 + a + b : Nat) : Int) + ((0 + ts.length : Nat) : Int) = (M : Int) by omega]
    exact tok_new hd' (by omega) (by omega) (by omega) hjl
  obtain ⟨x, cs4, l4, m4', t4, hx, hxo, hl4⟩ := newT_ok n kn ((1 + a + b : Nat) : Int) c ts ds j (dE kn a b q8 (some (.d (.int M))) (some (.d (.lst ys))) (some (.d (.lst ds))) (some (.d (.int z))) p13 (some (.d (.int j)))) cs3 l3 m3' t3 hts hc6 hnew hc3 (fun _ => rfl) (fun _ => rfl) (fun _ => rfl) (fun _ => rfl)
  refine ⟨some (.d (.int M)), some (.d (.lst ys)), some (.d (.lst ds)), some (.d (.int z)), p13, some (.d (.int j)), ts ++ [x], cs4, l4, m4', t4, ?_, tsok_snoc hts hxo, Nat.le_trans hl4 (Nat.le_trans hl3 (Nat.le_trans hl2 hl1))⟩
  refine sq_nx st1 (sq_nx ((set_tn (e := nearE (runP prog (n + 2))) hn).trans rfl) (sq_nx ((par_ok (lst_ok a0_ok rfl (le_line rfl)) pz).trans rfl) (sq_nx (for_vals (near_seq (ys := ys) (c := z) (v_ok rfl) (v_ok rfl)) hf) (sq_nx ((set_tn (e := truthE (runP prog (n + 2))) hj).trans rfl) (sq_nx (exp_ok (app_ok (fun _ => rfl) hx hlen)) nil_nx)))))
end K51
end
section
set_option linter.all false
set_option autoImplicit false
set_option maxRecDepth 100000
set_option maxHeartbeats 1000000
namespace K51
open PySem L2 Ev
theorem lap_for (n kn a b : Nat) (hk : kn ≤ 6) (ha : a ≤ 3) (hb : b ≤ 2) : ∀ (xs : List Ev.D) (c : Nat) (q8 q9 q10 q11 q12 q13 q14 : Option Val) (ts : List Ev.D) (cs : List Nat) (l m t : Nat), c + xs.length ≤ 100 → TsOk kn ((1 + a + b : Nat) : Int) c ts → cs.length < most →
    ∃ (r8 r9 r10 r11 r12 r13 r14 : Option Val) (ts' : List Ev.D) (cs' : List Nat) (l' m' t' : Nat), forV (tn 8) (lapB (runP prog (n + 2))) (xs.map .d) (dE kn a b q8 q9 q10 q11 q12 q13 q14) (src cs l m t [.lst ts]) = .nx (dE kn a b r8 r9 r10 r11 r12 r13 r14) (src cs' l' m' t' [.lst ts']) ∧ TsOk kn ((1 + a + b : Nat) : Int) (c + xs.length) ts' ∧ cs'.length ≤ cs.length
  | [], c, q8, q9, q10, q11, q12, q13, q14, ts, cs, l, m, t, _, hts, _ => ⟨q8, q9, q10, q11, q12, q13, q14, ts, cs, l, m, t, rfl, hts, Nat.le_refl _⟩
  | x :: xs, c, q8, q9, q10, q11, q12, q13, q14, ts, cs, l, m, t, h1, hts, hc => by
    rw [List.length_cons] at h1
    obtain ⟨r9, r10, r11, r12, r13, r14, ts1, cs1, l1, m1', t1, hb1, ho1, hl1⟩ := lap_ok n kn a b c hk ha hb (by omega) (some (.d x)) q9 q10 q11 q12 q13 q14 ts cs l m t hts hc
    obtain ⟨z8, z9, z10, z11, z12, z13, z14, ts2, cs2, l2, m2', t2, hb2, ho2, hl2⟩ := lap_for n kn a b hk ha hb xs (c + 1) (some (.d x)) r9 r10 r11 r12 r13 r14 ts1 cs1 l1 m1' t1 (by omega) ho1 (Nat.lt_of_le_of_lt hl1 hc)
    refine ⟨z8, z9, z10, z11, z12, z13, z14, ts2, cs2, l2, m2', t2, forV_nx (E1 := dE kn a b (some (.d x)) q9 q10 q11 q12 q13 q14) rfl hb1 hb2, ?_, Nat.le_trans hl2 hl1⟩
    rw [List.length_cons, show c + (xs.length + 1) = c + 1 + xs.length by omega]; exact ho2
/-- a comprehension that draws -/
theorem lc_src {P : Ev.D → Prop} {ws : List Nat} {tc : TC} {e : EC} {E : Ev.Env} {r : Store}
    (h : ∀ (d : Ev.D) (cs : List Nat) (l m t : Nat), cs.length < most → ∃ (E1 : Ev.Env) (y : Ev.D) (cs' : List Nat) (l' m' t' : Nat), tc (.d d) (Ev.wipe E ws) (src cs l m t r) = some (E1, src cs l m t r) ∧ e E1 (src cs l m t r) = .ok (.d y) (src cs' l' m' t' r) ∧ P y ∧ cs'.length ≤ cs.length) :
    ∀ (xs : List Ev.D) (cs : List Nat) (l m t : Nat), cs.length < most → ∃ (ys : List Ev.D) (cs' : List Nat) (l' m' t' : Nat), lcV ws tc yes e E (xs.map .d) (src cs l m t r) = .ok (ys.map .d) (src cs' l' m' t' r) ∧ (∀ y ∈ ys, P y) ∧ ys.length = xs.length ∧ cs'.length ≤ cs.length
  | [], cs, l, m, t, _ => ⟨[], cs, l, m, t, rfl, (fun y hy => by cases hy), rfl, Nat.le_refl _⟩
  | x :: xs, cs, l, m, t, hc => by
    obtain ⟨E1, y, cs1, l1, m1', t1, h1, h2, h3, h4⟩ := h x cs l m t hc
    obtain ⟨ys, cs2, l2, m2', t2, i1, i2, i3, i4⟩ := lc_src h xs cs1 l1 m1' t1 (Nat.lt_of_le_of_lt h4 hc)
    refine ⟨y :: ys, cs2, l2, m2', t2, ?_, fun z hz => ?_, by rw [List.length_cons, List.length_cons, i3], Nat.le_trans i4 h4⟩
    · simp only [List.map_cons, lcV, lcT]
      rw [h1]
      simp only [yes, Res.bind_ok, if_true, h2, i1]
    · rcases List.mem_cons.mp hz with rfl | hm
      · exact h3
      · exact i2 z hm
noncomputable def toldE (C : Calls) : EC := Ev.e1 pTuple (lc [8] (tn 8) (iRng1 (v 6)) (yes) (tup (ac (call C 6 (ac (v 0) (ac (k (.int 2)) (a0)))) (ac (call C 6 (ac (v 0) (ac (v 9) (a0)))) (a0)))))
noncomputable def outsE (C : Calls) : EC := Ev.e1 pTuple (lc [8] (tn 8) (iRng1 (e2 pAdd (k (.int 1)) (call C 6 (ac (v 0) (ac (k (.int 4)) (a0)))))) (yes) (e2 pSub (e2 pSub (v 9) (k (.int 1))) (call C 6 (ac (v 0) (ac (e2 pMin (v 9) (k (.int 8))) (a0))))))
/-- a register told -/
def POk (M : Nat) (y : Ev.D) : Prop := ∃ p q : Nat, y = .tup [.int (p : Int), .int (q : Int)] ∧ p < 2 ∧ q < M
def OOk (M : Nat) (y : Ev.D) : Prop := ∃ j : Nat, y = .int (j : Int) ∧ j < M
theorem told_ok (n kn a b M : Nat) (hM : 0 < M) (hM2 : M ≤ 1000) (hb : b ≤ 2) (q8 q10 q11 q12 q13 q14 : Option Val) (ts : List Ev.D) (cs : List Nat) (l m t : Nat) (hc : cs.length < most) :
    ∃ (ys : List Ev.D) (cs' : List Nat) (l' m' t' : Nat), toldE (runP prog (n + 1)) (dE kn a b q8 (some (.d (.int M))) q10 q11 q12 q13 q14) (src cs l m t [.lst ts]) = .ok (.d (.tup ys)) (src cs' l' m' t' [.lst ts]) ∧ (∀ y ∈ ys, POk M y) ∧ ys.length = b ∧ cs'.length ≤ cs.length := by
  obtain ⟨ys, cs', l', m', t', h, hy, hyl, hl⟩ := lc_src (P := POk M) (ws := [8]) (tc := tn 8) (e := tup (ac (call (runP prog (n + 1)) 6 (ac (v 0) (ac (k (.int 2)) (a0)))) (ac (call (runP prog (n + 1)) 6 (ac (v 0) (ac (v 9) (a0)))) (a0)))) (E := dE kn a b q8 (some (.d (.int M))) q10 q11 q12 q13 q14) (r := [.lst ts])
    (fun d cs l m t hc => by
      obtain ⟨p, cs1, l1, m1', t1, h1, h2, h3⟩ := w_pick n 2 cs l m t [.lst ts] (fits_len (le_line rfl)) hc
      obtain ⟨q, cs2, l2, m2', t2, i1, i2, i3⟩ := w_pick n M cs1 l1 m1' t1 [.lst ts] (fits_len (Nat.le_trans hM2 (le_line rfl))) (Nat.lt_of_le_of_lt h3 hc)
      refine ⟨dE kn a b (some (.d d)) (some (.d (.int M))) q10 q11 q12 q13 q14, .tup [.int p, .int q], cs2, l2, m2', t2, rfl, tup_ok (ac_ok (call_ok (ac_ok (v_ok rfl) (ac_ok k_ok a0_ok)) h1) (ac_ok (call_ok (ac_ok (v_ok rfl) (ac_ok (v_ok rfl) a0_ok)) i1) a0_ok)) rfl (le_line rfl), ⟨p, q, rfl, by omega, by omega⟩, Nat.le_trans i3 h3⟩)
    (rng 0 b) cs l m t hc
  rw [rng_len] at hyl
  have hbl : b ≤ line := Nat.le_trans hb (le_line rfl)
  exact ⟨ys, cs', l', m', t', e1_ok (lcG_ok (iRng1_ok (v_ok rfl) (small_len hbl)) (lcS_vals (by rw [List.length_map, rng_len]; exact hbl) h) (mkL_ok (allD_map ys) (by rw [hyl]; exact hbl))) rfl, hy, hyl, hl⟩
def dF (kk : Int) (a b : Nat) (q8 q9 q10 q11 q12 q13 q14 q15 q16 : Option Val) : Ev.Env := [some (.loc 1), some (.d (.int kk)), some (.d (.int 3)), some (.d (.int 2)), some (.d (.int 6)), some (.d (.int a)), some (.d (.int b)), some (.loc 2), q8, q9, q10, q11, q12, q13, q14, q15, q16]
theorem outs_ok (n kn a b M : Nat) (hM : 0 < M) (hM2 : M ≤ 1000) (q8 q10 q11 q12 q13 q14 q15 : Option Val) (ts : List Ev.D) (cs : List Nat) (l m t : Nat) (hc : cs.length < most) :
    ∃ (ys : List Ev.D) (cs' : List Nat) (l' m' t' : Nat), outsE (runP prog (n + 1)) (dF kn a b q8 (some (.d (.int M))) q10 q11 q12 q13 q14 q15 none) (src cs l m t [.lst ts]) = .ok (.d (.tup ys)) (src cs' l' m' t' [.lst ts]) ∧ (∀ y ∈ ys, OOk M y) ∧ ys.length ≤ 4 ∧ cs'.length ≤ cs.length := by
  obtain ⟨z, cs0, l0, m0', t0, z1, z2, z3⟩ := w_pick n 4 cs l m t [.lst ts] (fits_len (le_line rfl)) hc
  obtain ⟨ys, cs', l', m', t', h, hy, hyl, hl⟩ := lc_src (P := OOk M) (ws := [8]) (tc := tn 8) (e := e2 pSub (e2 pSub (v 9) (k (.int 1))) (call (runP prog (n + 1)) 6 (ac (v 0) (ac (e2 pMin (v 9) (k (.int 8))) (a0))))) (E := dF kn a b q8 (some (.d (.int M))) q10 q11 q12 q13 q14 q15 none) (r := [.lst ts])
    (fun d cs l m t hc => by
      obtain ⟨p, cs1, l1, m1', t1, h1, h2, h3⟩ := w_pick n (min M 8) cs l m t [.lst ts] (fits_len (Nat.le_trans (show min M 8 ≤ 1000 by omega) (le_line rfl))) hc
      have em : min (M : Int) 8 = ((min M 8 : Nat) : Int) := by omega
      have es : (M : Int) - 1 - (p : Int) = ((M - 1 - p : Nat) : Int) := by omega
      have e1' : e2 pMin (v 9) (k (.int 8)) (dF kn a b (some (.d d)) (some (.d (.int M))) q10 q11 q12 q13 q14 q15 none) (src cs l m t [.lst ts]) = .ok (.d (.int ((min M 8 : Nat) : Int))) (src cs l m t [.lst ts]) := e2_ok (v_ok rfl) k_ok ((pMin_ok _ _ _).trans (by rw [em]))
      refine ⟨dF kn a b (some (.d d)) (some (.d (.int M))) q10 q11 q12 q13 q14 q15 none, .int ((M - 1 - p : Nat) : Int), cs1, l1, m1', t1, rfl, e2_ok (e2_ok (v_ok rfl) k_ok (pSub_ok _ _ _)) (call_ok (ac_ok (v_ok rfl) (ac_ok e1' a0_ok)) h1) ((pSub_ok _ _ _).trans (by rw [es])), ⟨M - 1 - p, rfl, by omega⟩, h3⟩)
    (rng 0 ((1 + z : Nat) : Int)) cs0 l0 m0' t0 (Nat.lt_of_le_of_lt z3 hc)
  rw [rng_len] at hyl
  have hz4 : 1 + z ≤ 4 := by omega
  have hbl : 1 + z ≤ line := Nat.le_trans hz4 (le_line rfl)
  have ez : (1 : Int) + (z : Int) = ((1 + z : Nat) : Int) := by omega
  have ad : e2 pAdd (k (.int 1)) (call (runP prog (n + 1)) 6 (ac (v 0) (ac (k (.int 4)) (a0)))) (dF kn a b q8 (some (.d (.int M))) q10 q11 q12 q13 q14 q15 none) (src cs l m t [.lst ts]) = .ok (.d (.int ((1 + z : Nat) : Int))) (src cs0 l0 m0' t0 [.lst ts]) := e2_ok k_ok (call_ok (ac_ok (v_ok rfl) (ac_ok k_ok a0_ok)) z1) ((pAdd_ok _ _ _).trans (by rw [ez]))
  exact ⟨ys, cs', l', m', t', e1_ok (lcG_ok (iRng1_ok ad (small_len hbl)) (lcS_vals (by rw [List.length_map, rng_len]; exact hbl) h) (mkL_ok (allD_map ys) (by rw [hyl]; exact hbl))) rfl, hy, by rw [hyl]; exact hz4, Nat.le_trans hl z3⟩
end K51
end
section
set_option linter.all false
set_option autoImplicit false
set_option maxRecDepth 100000
set_option maxHeartbeats 1000000
namespace K51
open PySem L2 Ev
theorem regs1_none {M : Nat} : ∀ (rs : List Ev.D) (i : Nat), (∀ y ∈ rs, POk M y) → regBad1 i rs = none
  | [], _, _ => rfl
  | y :: ys, i, h => by
    obtain ⟨p, q, rfl, hp, hq⟩ := h y (List.mem_cons_self ..)
    have ih := regs1_none ys (i + 1) fun z hz => h z (List.mem_cons_of_mem _ hz)
    have a : isTup (.tup [.int (p : Int), .int (q : Int)]) 2 = true := rfl
    have b : isNum (at0 (.tup [.int (p : Int), .int (q : Int)])) 0 2 = true := isNum_nat (M := 2) hp
    rw [regBad1, if_pos a, if_pos b]; exact ih
theorem regs2_none {M : Nat} : ∀ (rs : List Ev.D) (i : Nat), (∀ y ∈ rs, POk M y) → regBad2 M i rs = none
  | [], _, _ => rfl
  | y :: ys, i, h => by
    obtain ⟨p, q, rfl, hp, hq⟩ := h y (List.mem_cons_self ..)
    have ih := regs2_none ys (i + 1) fun z hz => h z (List.mem_cons_of_mem _ hz)
    have b : isNum (at1 (.tup [.int (p : Int), .int (q : Int)])) 0 M = true := isNum_nat hq
    rw [regBad2, if_pos b]; exact ih
theorem outs_none {M : Nat} : ∀ (os : List Ev.D) (i : Nat), (∀ y ∈ os, OOk M y) → outsBad M i os = none
  | [], _, _ => rfl
  | y :: ys, i, h => by
    obtain ⟨j, rfl, hj⟩ := h y (List.mem_cons_self ..)
    have ih := outs_none ys (i + 1) fun z hz => h z (List.mem_cons_of_mem _ hz)
    rw [outsBad, if_pos (isNum_nat hj)]; exact ih
theorem isNum_ins {a : Nat} (h : a ≤ 3) : isNum (.int (a : Int)) 0 (10 ^ 60) = true := by
  rw [← lt_beyond (i := (a : Int)) (Nat.lt_of_le_of_lt (show (a : Int).natAbs ≤ 3 by omega) (by decide))]
  simp only [isNum, Bool.and_eq_true, decide_eq_true_eq]; omega
theorem net_none {kn a b M c : Nat} {rs ts os : List Ev.D} (hk2 : 2 ≤ kn) (hk : kn ≤ 6) (ha : a ≤ 3) (hrl : rs.length = b) (hM : 1 + a + b + ts.length = M) (hr : ∀ y ∈ rs, POk M y) (ht : TsOk kn ((1 + a + b : Nat) : Int) c ts) (ho : ∀ y ∈ os, OOk M y) :
    netFault (.tup [.int kn, .int a, .tup rs, .tup ts, .tup os]) = none := by
  have h1 : isNum (.int (kn : Int)) 2 7 = true := by
    simp only [isNum, Bool.and_eq_true, decide_eq_true_eq]; omega
  have f1 : (1 : Int) + (a : Int) + (rs.length : Int) = ((1 + a + b : Nat) : Int) := by omega
  have f2 : (1 : Int) + (a : Int) + (rs.length : Int) + (ts.length : Int) = (M : Int) := by omega
  have e : netFault (.tup [.int kn, .int a, .tup rs, .tup ts, .tup os]) = (if isNum (.int (kn : Int)) 2 7 = true then (if isNum (.int (a : Int)) 0 (10 ^ 60) = true then
      orElse (regBad1 0 rs) (orElse (tabsBad kn (1 + a + rs.length) 0 ts) (orElse (regBad2 (1 + a + rs.length + ts.length) 0 rs) (outsBad (1 + a + rs.length + ts.length) 0 os))) else some (.tup [.int 1])) else some (.tup [.int 0])) := rfl
  rw [e, if_pos h1, if_pos (isNum_ins ha), f2, f1, regs1_none rs 0 hr, ht.2.1, regs2_none rs 0 hr, outs_none os 0 ho]
  rfl
theorem sm_nat {j M : Nat} (h : j < M) (hM : M ≤ 1000) : Sm 61 0 (.int (j : Int)) := sm_num (isNum_nat h) (by omega)
theorem net_sm {kn a b M : Nat} {rs ts os : List Ev.D} (hk : kn ≤ 6) (ha : a ≤ 3) (hrl : rs.length ≤ 2) (hM : M ≤ 1000) (hr : ∀ y ∈ rs, POk M y) (ht : TsOk kn ((1 + a + b : Nat) : Int) 6 ts) (ho : ∀ y ∈ os, OOk M y) (hol : os.length ≤ 4) :
    Sm 25000 4 (.tup [.int kn, .int a, .tup rs, .tup ts, .tup os]) := by
  have s1 : Sm 4000 3 (.int (kn : Int)) := (sm_nat (M := 7) (by omega) (by omega)).mono (by omega) (by omega)
  have s2 : Sm 4000 3 (.int (a : Int)) := (sm_nat (M := 7) (by omega) (by omega)).mono (by omega) (by omega)
  have s3 : Sm 4000 3 (.tup rs) := (sm_tup (w := 200) (d := 1) (fun y hy => by
    obtain ⟨p, q, rfl, hp, hq⟩ := hr y hy
    exact (sm_tup (w := 61) (d := 0) (n := 2) (fun z hz => by
      rcases List.mem_cons.mp hz with rfl | hz
      · exact sm_nat hp (by omega)
      · rw [List.mem_singleton] at hz; subst hz
        exact sm_nat hq hM) (Nat.le_refl _)).mono (by omega) (by omega)) hrl).mono (by omega) (by omega)
  have s4 : Sm 4000 3 (.tup ts) := (sm_tup ht.2.2 ht.1).mono (by omega) (by omega)
  have s5 : Sm 4000 3 (.tup os) := (sm_tup (w := 61) (d := 0) (fun y hy => by
    obtain ⟨j, rfl, hj⟩ := ho y hy
    exact sm_nat hj hM) hol).mono (by omega) (by omega)
  refine (sm_tup (w := 4000) (d := 3) (n := 5) (fun z hz => ?_) (Nat.le_refl _)).mono (by omega) (by omega)
  rcases List.mem_cons.mp hz with rfl | hz
  · exact s1
  rcases List.mem_cons.mp hz with rfl | hz
  · exact s2
  rcases List.mem_cons.mp hz with rfl | hz
  · exact s3
  rcases List.mem_cons.mp hz with rfl | hz
  · exact s4
  rw [List.mem_singleton] at hz; subst hz; exact s5
theorem par3_ok {i j q : Nat} {a b c : EC} {E : Ev.Env} {s s1 s2 s3 : Store} {x y z : Val} (h : a E s = .ok x s1) (h2 : b E s1 = .ok y s2) (h3 : c E s2 = .ok z s3) : sPar3 i j q a b c E s = .nx (((E.set i (some x)).set j (some y)).set q (some z)) s3 := by
  unfold sPar3; rw [h]; show ofRes (b E s1) E _ = _; rw [h2]; show ofRes (c E s2) E _ = _; rw [h3]; rfl
theorem lstA_ok (E : Ev.Env) (cs : List Nat) (l m t : Nat) : lstA (a0) E (src cs l m t []) = .ok (.loc 2) (src cs l m t [.lst []]) := rfl
theorem draw_is (C : Calls) : e__law_draw_net C = sq (sPar3 5 6 7 (call C 6 (ac (v 0) (ac (e2 pAdd (v 2) (k (.int 1))) (a0)))) (call C 6 (ac (v 0) (ac (e2 pAdd (v 3) (k (.int 1))) (a0)))) (lstA (a0))) (sq (sFor (tn 8) (iRng1 (call C 6 (ac (v 0) (ac (e2 pAdd (v 4) (k (.int 1))) (a0))))) (lapB C)) (sq (sSet (tn 9) nineE) (sq (sSet (tn 15) (toldE C)) (sq (sSet (tn 16) (outsE C)) (sq (sRet (tup (ac (v 1) (ac (v 5) (ac (v 15) (ac (Ev.e1 pTuple (v 7)) (ac (v 16) (a0)))))))) (sNil)))))) := rfl
/-- what is drawn is a net -/
theorem w_draw (n kn : Nat) (hk2 : 2 ≤ kn) (hk : kn ≤ 6) (cs : List Nat) (l m t : Nat) (hc : cs.length < most) :
    ∃ (x : Ev.D) (cs' : List Nat) (l' m' t' : Nat), runP prog (n + 3) 10 [.loc 1, .d (.int kn), .d (.int 3), .d (.int 2), .d (.int 6)] (src cs l m t []) = .ok (.d x) (src cs' l' m' t' []) ∧ netFault x = none ∧ Sm 25000 4 x ∧ cs'.length ≤ cs.length := by
  obtain ⟨a, cs1, l1, m1', t1, h1, ha, hl1⟩ := w_pick (n + 1) 4 cs l m t [] (fits_len (le_line rfl)) hc
  have hc1 := Nat.lt_of_le_of_lt hl1 hc
  obtain ⟨b, cs2, l2, m2', t2, h2, hb, hl2⟩ := w_pick (n + 1) 3 cs1 l1 m1' t1 [] (fits_len (le_line rfl)) hc1
  have hc2 := Nat.lt_of_le_of_lt hl2 hc1
  obtain ⟨p, cs3, l3, m3', t3, h3, hp, hl3⟩ := w_pick (n + 1) 7 cs2 l2 m2' t2 [.lst []] (fits_len (le_line rfl)) hc2
  have hc3 := Nat.lt_of_le_of_lt hl3 hc2
  have ha3 : a ≤ 3 := by omega
  have hb2 : b ≤ 2 := by omega
  have hrl : (rng 0 (p : Int)).length = p := rng_len p
  obtain ⟨r8, r9, r10, r11, r12, r13, r14, ts, cs4, l4, m4', t4, h4, hts, hl4⟩ := lap_for n kn a b hk ha3 hb2 (rng 0 (p : Int)) 0 none none none none none none none [] cs3 l3 m3' t3 (by rw [hrl]; omega) ⟨Nat.le_refl _, rfl, fun x hx => by cases hx⟩ hc3
  have hc4 := Nat.lt_of_le_of_lt hl4 hc3
  have hts6 : TsOk kn ((1 + a + b : Nat) : Int) 6 ts := ⟨Nat.le_trans hts.1 (by rw [hrl]; omega), hts.2⟩
  obtain ⟨M, hM⟩ : ∃ M, 1 + a + b + ts.length = M := ⟨_, rfl⟩
  have hM0 : 0 < M := by omega
  have hM1 : M ≤ 1000 := by have := hts6.1; omega
  have st9 := nine_ok kn a b r8 r9 r10 r11 r12 r13 r14 ts cs4 l4 m4' t4
  rw [hM] at st9
  obtain ⟨rs, cs5, l5, m5', t5, h5, hrs, hrsl, hl5⟩ := told_ok (n + 1) kn a b M hM0 hM1 hb2 r8 r10 r11 r12 r13 r14 ts cs4 l4 m4' t4 hc4
  have hc5 := Nat.lt_of_le_of_lt hl5 hc4
  obtain ⟨os, cs6, l6, m6', t6, h6, hos, hosl, hl6⟩ := outs_ok (n + 1) kn a b M hM0 hM1 r8 r10 r11 r12 r13 r14 (some (.d (.tup rs))) ts cs5 l5 m5' t5 hc5
  refine ⟨.tup [.int kn, .int a, .tup rs, .tup ts, .tup os], cs6, l6, m6', t6, ?_, net_none hk2 hk ha3 hrsl hM hrs hts6 hos, net_sm hk ha3 (by omega) hM1 hrs hts6 hos hosl, Nat.le_trans hl6 (Nat.le_trans hl5 (Nat.le_trans hl4 (Nat.le_trans hl3 (Nat.le_trans hl2 hl1))))⟩
  rw [rp]
  refine (runFn_rt (f := ⟨5, 17, e__law_draw_net (runP prog (n + 2))⟩) (xs := [.loc 1, .d (.int kn), .d (.int 3), .d (.int 2), .d (.int 6)]) (x := .d (.tup [.int kn, .int a, .tup rs, .tup ts, .tup os])) (s' := src cs6 l6 m6' t6 ([] ++ [.lst ts])) rfl ?_).trans (by rw [fin_src _ _ _ _ _ _ _ _ _ _ _ ok_nil])
  show e__law_draw_net (runP prog (n + 2)) [some (.loc 1), some (.d (.int kn)), some (.d (.int 3)), some (.d (.int 2)), some (.d (.int 6)), none, none, none, none, none, none, none, none, none, none, none, none] (src cs l m t []) = _
  rw [draw_is]
  have p1 : call (runP prog (n + 2)) 6 (ac (v 0) (ac (e2 pAdd (v 2) (k (.int 1))) (a0))) [some (.loc 1), some (.d (.int kn)), some (.d (.int 3)), some (.d (.int 2)), some (.d (.int 6)), none, none, none, none, none, none, none, none, none, none, none, none] (src cs l m t []) = .ok (.d (.int a)) (src cs1 l1 m1' t1 []) :=
    call_ok (ac_ok (v_ok rfl) (ac_ok (e2_ok (v_ok rfl) k_ok (pAdd_ok _ _ _)) a0_ok)) h1
  have p2 : call (runP prog (n + 2)) 6 (ac (v 0) (ac (e2 pAdd (v 3) (k (.int 1))) (a0))) [some (.loc 1), some (.d (.int kn)), some (.d (.int 3)), some (.d (.int 2)), some (.d (.int 6)), none, none, none, none, none, none, none, none, none, none, none, none] (src cs1 l1 m1' t1 []) = .ok (.d (.int b)) (src cs2 l2 m2' t2 []) :=
    call_ok (ac_ok (v_ok rfl) (ac_ok (e2_ok (v_ok rfl) k_ok (pAdd_ok _ _ _)) a0_ok)) h2
  have p3 : call (runP prog (n + 2)) 6 (ac (v 0) (ac (e2 pAdd (v 4) (k (.int 1))) (a0))) (dE kn a b none none none none none none none) (src cs2 l2 m2' t2 [.lst []]) = .ok (.d (.int p)) (src cs3 l3 m3' t3 [.lst []]) :=
    call_ok (ac_ok (v_ok rfl) (ac_ok (e2_ok (v_ok rfl) k_ok (pAdd_ok _ _ _)) a0_ok)) h3
  have fin_ : tup (ac (v 1) (ac (v 5) (ac (v 15) (ac (Ev.e1 pTuple (v 7)) (ac (v 16) (a0)))))) (dF kn a b r8 (some (.d (.int M))) r10 r11 r12 r13 r14 (some (.d (.tup rs))) (some (.d (.tup os)))) (src cs6 l6 m6' t6 [.lst ts]) = .ok (.d (.tup [.int kn, .int a, .tup rs, .tup ts, .tup os])) (src cs6 l6 m6' t6 [.lst ts]) :=
    tup_ok (ac_ok (v_ok rfl) (ac_ok (v_ok rfl) (ac_ok (v_ok rfl) (ac_ok (e1_ok (v_ok rfl) rfl) (ac_ok (v_ok rfl) a0_ok))))) rfl (le_line rfl)
  exact sq_nx ((par3_ok p1 p2 (lstA_ok _ _ _ _ _)).trans rfl) (sq_nx (for_vals (iRng1_ok p3 (small_len (Nat.le_trans (show p ≤ 7 by omega) (le_line rfl)))) h4) (sq_nx st9 (sq_nx ((set_tn (e := toldE (runP prog (n + 2))) h5).trans rfl) (sq_nx ((set_tn (e := outsE (runP prog (n + 2))) h6).trans rfl) (sq_rt (ret_ok fin_))))))
end K51
end
section
set_option linter.all false
set_option autoImplicit false
set_option maxRecDepth 100000
set_option maxHeartbeats 1000000
namespace K51
open PySem L2 Ev
theorem cut_take (xs : List Ev.D) (j : Nat) (h : j ≤ xs.length) : cut xs none (some (j : Int)) = xs.take j := by
  unfold cut sIx
  show List.take ((if (j : Int) < 0 then _ else min (j : Int).toNat xs.length) - 0) (List.drop 0 xs) = _
  rw [if_neg (by omega), Int.toNat_natCast, List.drop_zero, Nat.sub_zero, Nat.min_eq_left h]
theorem cut_drop (xs : List Ev.D) (j : Nat) (h : j ≤ xs.length) : cut xs (some (j : Int)) none = xs.drop j := by
  unfold cut sIx
  show List.take (xs.length - (if (j : Int) < 0 then _ else min (j : Int).toNat xs.length)) (List.drop (if (j : Int) < 0 then _ else min (j : Int).toNat xs.length) xs) = _
  rw [if_neg (by omega), Int.toNat_natCast, Nat.min_eq_left h]
  exact List.take_of_length_le (by simp)
theorem sl_take {E : Ev.Env} {s : Store} {xs : List Ev.D} {j : Nat} {a b : EC} (ha : a E s = .ok (.d (.tup xs)) s) (hb : b E s = .ok (.d (.int j)) s) (h : j ≤ xs.length) : sl a pn (ps b) E s = .ok (.d (.tup (xs.take j))) s := by
  have h1 : ps b E s = .ok (some (j : Int)) s := by unfold ps; rw [hb]; rfl
  unfold sl
  rw [ha]
  show ((ps b E s).bind fun h s => pSl (.d (.tup xs)) none h s) = _
  rw [h1]
  show Res.ok (Val.d (D.tup (cut xs none (some (j : Int))))) s = _
  rw [cut_take xs j h]
theorem sl_drop {E : Ev.Env} {s : Store} {xs : List Ev.D} {j : Nat} {a b : EC} (ha : a E s = .ok (.d (.tup xs)) s) (hb : b E s = .ok (.d (.int j)) s) (h : j ≤ xs.length) : sl a (ps b) pn E s = .ok (.d (.tup (xs.drop j))) s := by
  have h1 : ps b E s = .ok (some (j : Int)) s := by unfold ps; rw [hb]; rfl
  unfold sl
  rw [ha]
  show ((ps b E s).bind fun l s => (pn E s).bind fun h s => pSl (.d (.tup xs)) l h s) = _
  rw [h1]
  show Res.ok (Val.d (D.tup (cut xs (some (j : Int)) none))) s = _
  rw [cut_drop xs j h]
theorem add_tup {a b : List Ev.D} {s : Store} (h : a.length + b.length ≤ line) : pAdd (.d (.tup a)) (.d (.tup b)) s = .ok (.d (.tup (a ++ b))) s := by
  show (if a.length + b.length ≤ line then Res.ok (Val.d (.tup (a ++ b))) s else .fail) = _
  rw [if_pos h]
theorem eq_nilT (xs : List Ev.D) (s : Store) : pEq (.d (.tup xs)) (.d (.tup [])) s = .ok (.d (.bl xs.isEmpty)) s := by
  have h : eqD (.tup xs) (.tup []) = xs.isEmpty := by
    cases xs with
    | nil => rfl
    | cons x r => simp only [eqD, toPy, toPys, PyData.eqv, PyData.eqvAll]; rfl
  unfold pEq pEqB
  simp only [peek_d]
  by_cases c : (D.plain (.tup xs) && D.plain (.tup []) && (low (.tup xs) || low (.tup []))) = true
  · rw [if_pos c, h, Bool.false_xor]
  · rw [if_neg c]
    cases xs with
    | nil => exact absurd rfl c
    | cons x r => rfl
theorem goods_app : ∀ a b : List Ev.D, goods (a ++ b) = (goods a && goods b)
  | [], b => by simp [goods]
  | x :: a, b => by simp only [List.cons_append, goods, goods_app a b, Bool.and_assoc]
theorem wts_app : ∀ a b : List Ev.D, wts (a ++ b) = wts a + wts b
  | [], b => by simp [wts]
  | x :: a, b => by simp only [List.cons_append, wts, wts_app a b]; omega
theorem deps_app : ∀ a b : List Ev.D, PyData.depthAll (toPys (a ++ b)) = max (PyData.depthAll (toPys a)) (PyData.depthAll (toPys b))
  | [], b => by simp [toPys, PyData.depthAll]
  | x :: a, b => by simp only [List.cons_append, toPys, PyData.depthAll, deps_app a b]; omega
theorem len_wts : ∀ a : List Ev.D, a.length ≤ wts a
  | [] => by simp [wts]
  | x :: a => by have := len_wts a; simp only [List.length_cons, wts]; omega
/-- the members together are of a small size and depth -/
def Sms (w d : Nat) (xs : List Ev.D) : Prop := goods xs = true ∧ wts xs ≤ w ∧ PyData.depthAll (toPys xs) ≤ d
theorem Sms.app {w d w' : Nat} {a b : List Ev.D} (h : Sms w d a) (h' : Sms w' d b) : Sms (w + w') d (a ++ b) := by
  obtain ⟨a1, a2, a3⟩ := h
  obtain ⟨b1, b2, b3⟩ := h'
  exact ⟨by rw [goods_app, a1, b1]; rfl, by rw [wts_app]; omega, by rw [deps_app]; omega⟩
theorem Sms.one {w d : Nat} {x : Ev.D} (h : Sm w d x) : Sms (w + 2) d [x] := by
  obtain ⟨a1, a2, a3⟩ := h
  exact ⟨by simp only [goods, a1, Bool.and_self], by simp only [wts]; omega, by simp only [toPys, PyData.depthAll]; omega⟩
theorem Sms.tup {w d : Nat} {xs : List Ev.D} (h : Sms w d xs) : Sm (w + 3) (d + 1) (.tup xs) := by
  obtain ⟨a1, a2, a3⟩ := h
  exact ⟨by simp only [good, a1], by simp only [wt]; omega, by simp only [toPy, PyData.depth]; omega⟩
theorem Sms.lst {w d : Nat} {xs : List Ev.D} (h : Sms w d xs) : Sm (w + 3) (d + 1) (.lst xs) := by
  obtain ⟨a1, a2, a3⟩ := h
  exact ⟨by simp only [good, a1], by simp only [wt]; omega, by simp only [toPy, PyData.depth]; omega⟩
theorem Sms.mono {w d w' d' : Nat} {xs : List Ev.D} (h : Sms w d xs) (h1 : w ≤ w') (h2 : d ≤ d') : Sms w' d' xs := ⟨h.1, Nat.le_trans h.2.1 h1, Nat.le_trans h.2.2 h2⟩
theorem Sms.len {w d : Nat} {xs : List Ev.D} (h : Sms w d xs) : xs.length ≤ w := Nat.le_trans (len_wts xs) h.2.1
/-- a tuple with a member apart -/
theorem sm_split {w d : Nat} {a b : List Ev.D} {z : Ev.D} (h : Sm w d (.tup (a ++ z :: b))) : ∃ wa wz wb d' : Nat, Sms wa d' a ∧ Sm wz d' z ∧ Sms wb d' b ∧ wa + (wz + 2) + wb + 3 ≤ w ∧ d' + 1 ≤ d := by
  obtain ⟨h1, h2, h3⟩ := h
  simp only [good, goods_app, goods, Bool.and_eq_true] at h1
  simp only [wt, wts_app, wts] at h2
  simp only [toPy, PyData.depth, deps_app, toPys, PyData.depthAll] at h3
  refine ⟨wts a, wt z, wts b, d - 1, ⟨h1.1, Nat.le_refl _, by omega⟩, ⟨h1.2.1, Nat.le_refl _, by omega⟩, ⟨h1.2.2, Nat.le_refl _, by omega⟩, by omega, by omega⟩
theorem split_at : ∀ (xs : List Ev.D) (j : Nat), j < xs.length → ∃ a z b, xs = a ++ z :: b ∧ a.length = j
  | [], j, h => by simp at h
  | x :: xs, 0, h => ⟨[], x, xs, rfl, rfl⟩
  | x :: xs, j + 1, h => by
    obtain ⟨a, z, b, e, hl⟩ := split_at xs j (by simpa using h)
    exact ⟨x :: a, z, b, by rw [e]; rfl, by rw [List.length_cons, hl]⟩
end K51
end
section
set_option linter.all false
set_option autoImplicit false
set_option maxRecDepth 100000
set_option maxHeartbeats 1000000
namespace K51
open PySem L2 Ev
theorem take_at (a b : List Ev.D) (z : Ev.D) : (a ++ z :: b).take a.length = a := by simp
theorem take_at1 (a b : List Ev.D) (z : Ev.D) : (a ++ z :: b).take (a.length + 1) = a ++ [z] := by rw [show a ++ z :: b = (a ++ [z]) ++ b by simp]; exact List.take_left' (by simp)
theorem drop_at (a b : List Ev.D) (z : Ev.D) : (a ++ z :: b).drop a.length = z :: b := by simp
theorem drop_at1 (a b : List Ev.D) (z : Ev.D) : (a ++ z :: b).drop (a.length + 1) = b := by rw [List.drop_append]; simp
theorem ix_at (a b : List Ev.D) (z : Ev.D) (s : Store) : pIx (.d (.tup (a ++ z :: b))) (.d (.int (a.length : Int))) s = .ok (.d z) s := ixT s (by simp)
def btE (x : Ev.D) (os : List Ev.D) (a b : Option Val) : Ev.Env := [some (.loc 1), some (.d x), some (.d (.lst os)), a, b]
noncomputable def btC (C : Calls) : BC := bor (bnot (bv (Ev.e1 (pIsi [.tuple]) (v 1)))) (bor (bb (e2 pEq (v 1) (tup (a0)))) (bb (e2 pEq (call C 6 (ac (v 0) (ac (k (.int 5)) (a0)))) (k (.int 0)))))
noncomputable def btR (C : Calls) : SC := sq (sPar 3 4 (call C 6 (ac (v 0) (ac (Ev.e1 pLen (v 1)) (a0)))) (call C 6 (ac (v 0) (ac (k (.int 7)) (a0))))) (sq (sIf (bb (e2 pEq (v 4) (k (.int 0)))) (sq (sRet (e2 pAdd (sl (v 1) (pn) (ps (v 3))) (sl (v 1) (ps (e2 pAdd (v 3) (k (.int 1)))) (pn)))) (sNil)) (sNil)) (sq (sIf (bb (e2 pEq (v 4) (k (.int 1)))) (sq (sRet (e2 pAdd (sl (v 1) (pn) (ps (e2 pAdd (v 3) (k (.int 1))))) (sl (v 1) (ps (v 3)) (pn)))) (sNil)) (sNil)) (sq (sIf (bb (e2 pEq (v 4) (k (.int 2)))) (sq (sRet (Ev.e1 pList (v 1))) (sNil)) (sNil)) (sq (sRet (e2 pAdd (e2 pAdd (sl (v 1) (pn) (ps (v 3))) (tup (ac (call C 11 (ac (v 0) (ac (e2 pIx (v 1) (v 3)) (ac (v 2) (a0))))) (a0)))) (sl (v 1) (ps (e2 pAdd (v 3) (k (.int 1)))) (pn)))) (sNil)))))
theorem bent_is (C : Calls) : e__law_bent C = sq (sIf (btC C) (sq (sRet (call C 7 (ac (v 0) (ac (v 2) (a0))))) (sNil)) (sNil)) (btR C) := rfl
/-- what is told of a bent value -/
def Bent (w d : Nat) (P : List Nat → Nat → Nat → Nat → Ev.D → Prop) (c : Nat) : Prop := ∃ (y : Ev.D) (cs' : List Nat) (l' m' t' : Nat), P cs' l' m' t' y ∧ Sm w d y ∧ cs'.length ≤ c
theorem bent_end (n : Nat) (x : Ev.D) (os : List Ev.D) (w d : Nat) (cs : List Nat) (l m t : Nat)
    (h : Bent w d (fun cs' l' m' t' y => e__law_bent (runP prog n) (btE x os none none) (src cs l m t []) = .rt (.d y) (src cs' l' m' t' [])) cs.length) :
    Bent w d (fun cs' l' m' t' y => runP prog (n + 1) 11 [.loc 1, .d x, .d (.lst os)] (src cs l m t []) = .ok (.d y) (src cs' l' m' t' [])) cs.length := by
  obtain ⟨y, cs', l', m', t', h1, h2, h3⟩ := h
  refine ⟨y, cs', l', m', t', ?_, h2, h3⟩
  show runP prog (n + 1) 11 [.loc 1, .d x, .d (.lst os)] (src cs l m t []) = _
  rw [rp]
  exact (runFn_rt (f := ⟨3, 5, e__law_bent (runP prog n)⟩) (xs := [.loc 1, .d x, .d (.lst os)]) (x := .d y) (s' := src cs' l' m' t' []) rfl h1).trans (by rw [fin_len (by simp [src_len])])
/-- .. drawn from the odd ones -/
theorem bent_odd (n : Nat) (x : Ev.D) (os : List Ev.D) (w0 d0 : Nat) (cs cs1 : List Nat) (l m t l1 m1' t1 : Nat) (hos : ∀ o ∈ os, Sm w0 d0 o) (ne : os ≠ []) (hl : os.length ≤ 100) (hc : cs1.length < most) (hcl : cs1.length ≤ cs.length)
    (h : btC (runP prog (n + 2)) (btE x os none none) (src cs l m t []) = .ok true (src cs1 l1 m1' t1 [])) :
    Bent w0 d0 (fun cs' l' m' t' y => e__law_bent (runP prog (n + 2)) (btE x os none none) (src cs l m t []) = .rt (.d y) (src cs' l' m' t' [])) cs.length := by
  obtain ⟨y, cs', l', m', t', h1, h2, h3⟩ := w_of n os cs1 l1 m1' t1 [] ne (Nat.le_trans hl (le_line rfl)) hc
  refine ⟨y, cs', l', m', t', ?_, hos y h2, Nat.le_trans h3 hcl⟩
  show e__law_bent (runP prog (n + 2)) (btE x os none none) (src cs l m t []) = _
  rw [bent_is]
  exact sq_rt (sIf_t h (sq_rt (ret_ok (call_ok (ac_ok (v_ok rfl) (ac_ok (v_ok rfl) a0_ok)) h1))))
theorem eqk (E : Ev.Env) (s : Store) (g c : Nat) (h : v 4 E s = .ok (.d (.int g)) s) : bb (e2 pEq (v 4) (k (.int (c : Int)))) E s = .ok (decide (g = c)) s := by
  refine (bb_ok (e2_ok h k_ok (eq_int _ _ s))).trans ?_
  rw [show decide ((g : Int) = (c : Int)) = decide (g = c) from dec_eq (by omega)]
/-- .. with something within otherwise -/
theorem bent_rest (n : Nat) (a b : List Ev.D) (z : Ev.D) (os : List Ev.D) (w w0 d d0 : Nat) (g : Nat) (hs : Sm w d (.tup (a ++ z :: b))) (hw : w ≤ 1000000) (hw0 : w0 ≤ 1000000) (C : Calls) (cs cs2 : List Nat) (l m t l2 m2' t2 : Nat) (hcl : cs2.length ≤ cs.length) (hc : cs2.length < most)
    (hp : sPar 3 4 (call C 6 (ac (v 0) (ac (Ev.e1 pLen (v 1)) (a0)))) (call C 6 (ac (v 0) (ac (k (.int 7)) (a0)))) (btE (.tup (a ++ z :: b)) os none none) (src cs l m t []) = .nx (btE (.tup (a ++ z :: b)) os (some (.d (.int (a.length : Nat)))) (some (.d (.int (g : Nat))))) (src cs2 l2 m2' t2 []))
    (hz : ∀ wz dz, Sm wz dz z → wz ≤ 1000000 → dz + 1 ≤ d → Bent (2 * wz + w0) (dz + d0) (fun cs' l' m' t' y => C 11 [.loc 1, .d z, .d (.lst os)] (src cs2 l2 m2' t2 []) = .ok (.d y) (src cs' l' m' t' [])) cs2.length) :
    Bent (2 * w + w0) (d + d0) (fun cs' l' m' t' y => btR C (btE (.tup (a ++ z :: b)) os none none) (src cs l m t []) = .rt (.d y) (src cs' l' m' t' [])) cs.length := by
  obtain ⟨wa, wz, wb, d', ha, hzs, hb, hsum, hd⟩ := sm_split hs
  have hla := ha.len
  have hlb := hb.len
  have g0 := eqk (btE (.tup (a ++ z :: b)) os (some (.d (.int (a.length : Nat)))) (some (.d (.int (g : Nat))))) (src cs2 l2 m2' t2 []) g 0 rfl
  have g1 := eqk (btE (.tup (a ++ z :: b)) os (some (.d (.int (a.length : Nat)))) (some (.d (.int (g : Nat))))) (src cs2 l2 m2' t2 []) g 1 rfl
  have g2 := eqk (btE (.tup (a ++ z :: b)) os (some (.d (.int (a.length : Nat)))) (some (.d (.int (g : Nat))))) (src cs2 l2 m2' t2 []) g 2 rfl
  have tk := fun s => sl_take (E := btE (.tup (a ++ z :: b)) os (some (.d (.int (a.length : Nat)))) (some (.d (.int (g : Nat))))) (s := s) (xs := a ++ z :: b) (j := a.length) (a := v 1) (b := v 3) (v_ok rfl) (v_ok rfl) (by simp)
  have dr := fun s => sl_drop (E := btE (.tup (a ++ z :: b)) os (some (.d (.int (a.length : Nat)))) (some (.d (.int (g : Nat))))) (s := s) (xs := a ++ z :: b) (j := a.length) (a := v 1) (b := v 3) (v_ok rfl) (v_ok rfl) (by simp)
  have p1 : ∀ s, e2 pAdd (v 3) (k (.int 1)) (btE (.tup (a ++ z :: b)) os (some (.d (.int (a.length : Nat)))) (some (.d (.int (g : Nat))))) s = .ok (.d (.int ((a.length + 1 : Nat) : Int))) s := fun s => e2_ok (v_ok rfl) k_ok (pAdd_ok _ _ _)
  have tk1 := fun s => sl_take (E := btE (.tup (a ++ z :: b)) os (some (.d (.int (a.length : Nat)))) (some (.d (.int (g : Nat))))) (s := s) (xs := a ++ z :: b) (j := a.length + 1) (a := v 1) (b := e2 pAdd (v 3) (k (.int 1))) (v_ok rfl) (p1 s) (by simp)
  have dr1 := fun s => sl_drop (E := btE (.tup (a ++ z :: b)) os (some (.d (.int (a.length : Nat)))) (some (.d (.int (g : Nat))))) (s := s) (xs := a ++ z :: b) (j := a.length + 1) (a := v 1) (b := e2 pAdd (v 3) (k (.int 1))) (v_ok rfl) (p1 s) (by simp)
  simp only [take_at] at tk
  simp only [take_at1] at tk1
  simp only [drop_at] at dr
  simp only [drop_at1] at dr1
  have le : ∀ n : Nat, n ≤ 4000000 → n ≤ line := fun n h => Nat.le_trans h (le_line rfl)
  by_cases e0 : g = 0
  · rw [decide_eq_true e0] at g0
    refine ⟨.tup (a ++ b), cs2, l2, m2', t2, ?_, (ha.app hb).tup.mono (by omega) (by omega), hcl⟩
    exact sq_nx hp (sq_rt (sIf_t g0 (sq_rt (ret_ok (e2_ok (tk _) (dr1 _) (add_tup (le _ (by omega))))))))
  rw [decide_eq_false e0] at g0
  by_cases e1' : g = 1
  · rw [decide_eq_true e1'] at g1
    have s1 := (ha.app (Sms.one hzs)).app ((Sms.one hzs).app hb)
    have hl1 := (ha.app (Sms.one hzs)).len
    have hl2 := ((Sms.one hzs).app hb).len
    refine ⟨.tup ((a ++ [z]) ++ (z :: b)), cs2, l2, m2', t2, ?_, s1.tup.mono (by omega) (by omega), hcl⟩
    exact sq_nx hp (sq_nx (sIf_f g0 nil_nx) (sq_rt (sIf_t g1 (sq_rt (ret_ok (e2_ok (tk1 _) (dr _) (add_tup (le _ (Nat.le_trans (Nat.add_le_add hl1 hl2) (by omega))))))))))
  rw [decide_eq_false e1'] at g1
  by_cases e2' : g = 2
  · rw [decide_eq_true e2'] at g2
    refine ⟨.lst (a ++ z :: b), cs2, l2, m2', t2, ?_, (ha.app ((Sms.one hzs).app hb)).lst.mono (by omega) (by omega), hcl⟩
    exact sq_nx hp (sq_nx (sIf_f g0 nil_nx) (sq_nx (sIf_f g1 nil_nx) (sq_rt (sIf_t g2 (sq_rt (ret_ok (e1_ok (v_ok rfl) rfl)))))))
  rw [decide_eq_false e2'] at g2
  obtain ⟨y, cs', l', m', t', h1, h2, h3⟩ := hz wz d' hzs (by omega) hd
  have hy := Sms.one h2
  have hyl := hy.len
  have s1 := ((ha.mono (Nat.le_refl _) (Nat.le_add_right d' d0)).app hy).app (hb.mono (Nat.le_refl _) (Nat.le_add_right d' d0))
  refine ⟨.tup ((a ++ [y]) ++ b), cs', l', m', t', ?_, s1.tup.mono (by omega) (by omega), Nat.le_trans h3 hcl⟩
  have nest : tup (ac (call C 11 (ac (v 0) (ac (e2 pIx (v 1) (v 3)) (ac (v 2) (a0))))) (a0)) (btE (.tup (a ++ z :: b)) os (some (.d (.int (a.length : Nat)))) (some (.d (.int (g : Nat))))) (src cs2 l2 m2' t2 []) = .ok (.d (.tup [y])) (src cs' l' m' t' []) :=
    tup_ok (ac_ok (call_ok (ac_ok (v_ok rfl) (ac_ok (e2_ok (v_ok rfl) (v_ok rfl) (ix_at _ _ _ _)) (ac_ok (v_ok rfl) a0_ok))) h1) a0_ok) rfl (le_line rfl)
  have l1 : a.length + [y].length ≤ line := le _ (show a.length + 1 ≤ _ by omega)
  have l2' : (a ++ [y]).length + b.length ≤ line := le _ (by rw [List.length_append]; show a.length + 1 + b.length ≤ _; omega)
  exact sq_nx hp (sq_nx (sIf_f g0 nil_nx) (sq_nx (sIf_f g1 nil_nx) (sq_nx (sIf_f g2 nil_nx) (sq_rt (ret_ok (e2_ok (e2_ok (tk _) nest (add_tup l1)) (dr1 _) (add_tup l2')))))))
end K51
end
section
set_option linter.all false
set_option autoImplicit false
set_option maxRecDepth 100000
set_option maxHeartbeats 1000000
namespace K51
open PySem L2 Ev
theorem bent_step (n : Nat) (x : Ev.D) (os : List Ev.D) (w w0 d d0 : Nat) (hos : ∀ o ∈ os, Sm w0 d0 o) (ne : os ≠ []) (hl : os.length ≤ 100) (hw0 : w0 ≤ 1000000) (hs : Sm w d x) (hw : w ≤ 1000000) (cs : List Nat) (l m t : Nat) (hc : cs.length < most)
    (hz : ∀ (z : Ev.D) (wz dz : Nat) (cs2 : List Nat) (l2 m2' t2 : Nat), Sm wz dz z → wz ≤ 1000000 → dz + 1 ≤ d → cs2.length < most → Bent (2 * wz + w0) (dz + d0) (fun cs' l' m' t' y => runP prog (n + 2) 11 [.loc 1, .d z, .d (.lst os)] (src cs2 l2 m2' t2 []) = .ok (.d y) (src cs' l' m' t' [])) cs2.length) :
    Bent (2 * w + w0) (d + d0) (fun cs' l' m' t' y => runP prog (n + 3) 11 [.loc 1, .d x, .d (.lst os)] (src cs l m t []) = .ok (.d y) (src cs' l' m' t' [])) cs.length := by
  have up : ∀ {P : List Nat → Nat → Nat → Nat → Ev.D → Prop} {c : Nat}, Bent w0 d0 P c → Bent (2 * w + w0) (d + d0) P c := fun ⟨y, cs', l', m', t', h1, h2, h3⟩ => ⟨y, cs', l', m', t', h1, h2.mono (by omega) (by omega), h3⟩
  refine bent_end (n + 2) x os _ _ cs l m t ?_
  rcases is_tup_or x with ⟨xs, rfl⟩ | ⟨hx, _⟩
  · have c1 : bnot (bv (Ev.e1 (pIsi [.tuple]) (v 1))) (btE (.tup xs) os none none) (src cs l m t []) = .ok false (src cs l m t []) := nottup (.tup xs) (v_ok rfl)
    have c2 : bb (e2 pEq (v 1) (tup (a0))) (btE (.tup xs) os none none) (src cs l m t []) = .ok xs.isEmpty (src cs l m t []) := bb_ok (e2_ok (v_ok rfl) (tup_ok a0_ok rfl (le_line rfl)) (eq_nilT xs _))
    cases he : xs.isEmpty with
    | true =>
      rw [he] at c2
      exact up (bent_odd n _ os w0 d0 cs cs l m t l m t hos ne hl hc (Nat.le_refl _) (bor_f c1 (bor_t c2)))
    | false =>
      rw [he] at c2
      obtain ⟨p, cs1, l1, m1', t1, h1, _, hl1⟩ := w_pick (n + 1) 5 cs l m t [] (fits_len (le_line rfl)) hc
      have hc1 := Nat.lt_of_le_of_lt hl1 hc
      have c3 : bb (e2 pEq (call (runP prog (n + 2)) 6 (ac (v 0) (ac (k (.int 5)) (a0)))) (k (.int 0))) (btE (.tup xs) os none none) (src cs l m t []) = .ok (decide ((p : Int) = 0)) (src cs1 l1 m1' t1 []) := bb_ok (e2_ok (call_ok (ac_ok (v_ok rfl) (ac_ok k_ok a0_ok)) h1) k_ok (eq_int _ _ _))
      cases hp : decide ((p : Int) = 0) with
      | true =>
        rw [hp] at c3
        exact up (bent_odd n _ os w0 d0 cs cs1 l m t l1 m1' t1 hos ne hl hc1 hl1 (bor_f c1 (bor_f c2 c3)))
      | false =>
        rw [hp] at c3
        have cf : btC (runP prog (n + 2)) (btE (.tup xs) os none none) (src cs l m t []) = .ok false (src cs1 l1 m1' t1 []) := bor_f c1 (bor_f c2 c3)
        have hxl : xs.length ≤ 1000000 := by
          have := len_wts xs
          have h2 := hs.2.1
          simp only [wt] at h2
          omega
        have hx0 : 0 < xs.length := by
          cases xs with
          | nil => simp at he
          | cons y ys => simp
        obtain ⟨j, cs2, l2, m2', t2, h2, hj, hl2⟩ := w_pick (n + 1) xs.length cs1 l1 m1' t1 [] (fits_len (Nat.le_trans hxl (le_line rfl))) hc1
        have hc2 := Nat.lt_of_le_of_lt hl2 hc1
        obtain ⟨g, cs3, l3, m3', t3, h3, _, hl3⟩ := w_pick (n + 1) 7 cs2 l2 m2' t2 [] (fits_len (le_line rfl)) hc2
        have hc3 := Nat.lt_of_le_of_lt hl3 hc2
        obtain ⟨a, z, b, rfl, rfl⟩ := split_at xs j (by omega)
        have p1 : call (runP prog (n + 2)) 6 (ac (v 0) (ac (Ev.e1 pLen (v 1)) (a0))) (btE (.tup (a ++ z :: b)) os none none) (src cs1 l1 m1' t1 []) = .ok (.d (.int (a.length : Nat))) (src cs2 l2 m2' t2 []) := call_ok (ac_ok (v_ok rfl) (ac_ok (e1_ok (x := .d (.tup (a ++ z :: b))) (v_ok rfl) rfl) a0_ok)) h2
        have p2 : call (runP prog (n + 2)) 6 (ac (v 0) (ac (k (.int 7)) (a0))) (btE (.tup (a ++ z :: b)) os none none) (src cs2 l2 m2' t2 []) = .ok (.d (.int (g : Nat))) (src cs3 l3 m3' t3 []) := call_ok (ac_ok (v_ok rfl) (ac_ok k_ok a0_ok)) h3
        have par : sPar 3 4 (call (runP prog (n + 2)) 6 (ac (v 0) (ac (Ev.e1 pLen (v 1)) (a0)))) (call (runP prog (n + 2)) 6 (ac (v 0) (ac (k (.int 7)) (a0)))) (btE (.tup (a ++ z :: b)) os none none) (src cs1 l1 m1' t1 []) = .nx (btE (.tup (a ++ z :: b)) os (some (.d (.int (a.length : Nat)))) (some (.d (.int (g : Nat))))) (src cs3 l3 m3' t3 []) :=
          (par_ok p1 p2).trans rfl
        obtain ⟨y, cs', l', m', t', q1, q2, q3⟩ := bent_rest n a b z os w w0 d d0 g hs hw hw0 (runP prog (n + 2)) cs1 cs3 l1 m1' t1 l3 m3' t3 (Nat.le_trans hl3 hl2) hc3 par (fun wz dz h4 h5 h6 => hz z wz dz cs3 l3 m3' t3 h4 h5 h6 hc3)
        refine ⟨y, cs', l', m', t', ?_, q2, Nat.le_trans q3 hl1⟩
        show e__law_bent (runP prog (n + 2)) (btE (.tup (a ++ z :: b)) os none none) (src cs l m t []) = _
        rw [bent_is]
        exact sq_nx (sIf_f cf nil_nx) q1
  · have c1 : bnot (bv (Ev.e1 (pIsi [.tuple]) (v 1))) (btE x os none none) (src cs l m t []) = .ok true (src cs l m t []) := (nottup x (v_ok rfl)).trans (by rw [hx]; rfl)
    exact up (bent_odd n _ os w0 d0 cs cs l m t l m t hos ne hl hc (Nat.le_refl _) (bor_t c1))
theorem w_bent (os : List Ev.D) (w0 d0 : Nat) (hos : ∀ o ∈ os, Sm w0 d0 o) (ne : os ≠ []) (hl : os.length ≤ 100) (hw0 : w0 ≤ 1000000) (d : Nat) : ∀ (n w : Nat) (x : Ev.D) (cs : List Nat) (l m t : Nat), Sm w d x → w ≤ 1000000 → cs.length < most →
    Bent (2 * w + w0) (d + d0) (fun cs' l' m' t' y => runP prog (n + d + 3) 11 [.loc 1, .d x, .d (.lst os)] (src cs l m t []) = .ok (.d y) (src cs' l' m' t' [])) cs.length := by
  induction d using Nat.strongRecOn with
  | _ d ih =>
    intro n w x cs l m t hs hw hc
    refine bent_step (n + d) x os w w0 d d0 hos ne hl hw0 hs hw cs l m t hc fun z wz dz cs2 l2 m2' t2 h1 h2 h3 h4 => ?_
    have e : n + d + 2 = (n + (d - dz - 1)) + dz + 3 := by omega
    rw [e]
    exact ih dz (by omega) (n + (d - dz - 1)) wz z cs2 l2 m2' t2 h1 h2 h4
end K51
end
section
set_option linter.all false
set_option autoImplicit false
set_option maxRecDepth 100000
set_option maxHeartbeats 1000000
namespace K51
open PySem L2 Ev
/-- a path told -/
def Pth (p : Ev.D) : Prop := Sm 300 1 p
theorem ix_sm {i : Nat} (h : i ≤ 2000000) : Sm 61 0 (.int (i : Int)) := sm_int (Nat.lt_of_le_of_lt (show (i : Int).natAbs ≤ 2000000 by omega) (by decide))
theorem pth_of {xs : List Ev.D} (h : ∀ x ∈ xs, Sm 61 0 x) (hl : xs.length ≤ 3) : Pth (.tup xs) := (sm_tup h hl).mono (by omega) (by omega)
theorem pth1 {a : Nat} (ha : a ≤ 2000000) : Pth (.tup [.int (a : Int)]) := pth_of (fun x hx => by
  rw [List.mem_singleton] at hx; subst hx; exact ix_sm ha) (by simp)
theorem pth2 {a b : Nat} (ha : a ≤ 2000000) (hb : b ≤ 2000000) : Pth (.tup [.int (a : Int), .int (b : Int)]) := pth_of (fun x hx => by
  rcases List.mem_cons.mp hx with rfl | hx
  · exact ix_sm ha
  · rw [List.mem_singleton] at hx; subst hx; exact ix_sm hb) (by simp)
theorem pth3 {a b c : Nat} (ha : a ≤ 2000000) (hb : b ≤ 2000000) (hc : c ≤ 2000000) : Pth (.tup [.int (a : Int), .int (b : Int), .int (c : Int)]) := pth_of (fun x hx => by
  rcases List.mem_cons.mp hx with rfl | hx
  · exact ix_sm ha
  rcases List.mem_cons.mp hx with rfl | hx
  · exact ix_sm hb
  · rw [List.mem_singleton] at hx; subst hx; exact ix_sm hc) (by simp)
theorem reg1_pth {p : Ev.D} : ∀ (xs : List Ev.D) (i : Nat), i + xs.length ≤ 2000000 → regBad1 i xs = some p → Pth p
  | [], i, _, h => by cases h
  | x :: xs, i, hl, h => by
    rw [List.length_cons] at hl
    rw [regBad1] at h
    split at h
    · split at h
      · exact reg1_pth xs (i + 1) (by omega) h
      · cases h; exact pth3 (a := 2) (c := 0) (by omega) (by omega) (by omega)
    · cases h; exact pth2 (a := 2) (by omega) (by omega)
theorem reg2_pth {p : Ev.D} {bd : Int} : ∀ (xs : List Ev.D) (i : Nat), i + xs.length ≤ 2000000 → regBad2 bd i xs = some p → Pth p
  | [], i, _, h => by cases h
  | x :: xs, i, hl, h => by
    rw [List.length_cons] at hl
    rw [regBad2] at h
    split at h
    · exact reg2_pth xs (i + 1) (by omega) h
    · cases h; exact pth3 (a := 2) (c := 1) (by omega) (by omega) (by omega)
theorem outs_pth {p : Ev.D} {bd : Int} : ∀ (xs : List Ev.D) (i : Nat), i + xs.length ≤ 2000000 → outsBad bd i xs = some p → Pth p
  | [], i, _, h => by cases h
  | x :: xs, i, hl, h => by
    rw [List.length_cons] at hl
    rw [outsBad] at h
    split at h
    · exact outs_pth xs (i + 1) (by omega) h
    · cases h; exact pth2 (a := 4) (by omega) (by omega)
theorem tab_few {kk nd j : Int} {x : Ev.D} (h : tabFault kk nd x = some j) : j = 0 ∨ j = 1 ∨ j = -1 := by
  unfold tabFault at h
  repeat' split at h
  all_goals first | (cases h; simp) | cases h
theorem tabs_pth {p : Ev.D} {kk first : Int} : ∀ (xs : List Ev.D) (i : Nat), i + xs.length ≤ 2000000 → tabsBad kk first i xs = some p → Pth p
  | [], i, _, h => by cases h
  | x :: xs, i, hl, h => by
    rw [List.length_cons] at hl
    rw [tabsBad] at h
    cases q : tabFault kk (first + i) x with
    | none => rw [q] at h; exact tabs_pth xs (i + 1) (by omega) h
    | some j =>
      rw [q] at h
      cases h
      rcases tab_few q with rfl | rfl | rfl
      · exact pth3 (a := 3) (c := 0) (by omega) (by omega) (by omega)
      · exact pth3 (a := 3) (c := 1) (by omega) (by omega) (by omega)
      · exact pth2 (a := 3) (by omega) (by omega)
theorem tup_few {w : Nat} {x : Ev.D} {xs : List Ev.D} (h : asTup x = some xs) (hw : wt x ≤ w) : xs.length ≤ w := by
  cases x with
  | tup ys => cases h; simp only [wt] at hw; have := len_wts xs; omega
  | _ => cases h
theorem net_pth {x p : Ev.D} (hw : wt x ≤ 1000000) (h : netFault x = some p) : Pth p := by
  unfold netFault at h
  split at h
  · rename_i kd ins regs tables outs
    simp only [wt, wts] at hw
    split at h
    · split at h
      · cases hr : asTup regs with
        | none => rw [hr] at h; cases h; exact pth1 (a := 2) (by omega)
        | some rs =>
          rw [hr] at h
          have lr := tup_few hr (w := 1000000) (by omega)
          simp only at h
          cases h1 : regBad1 0 rs with
          | some q => rw [h1] at h; cases h; exact reg1_pth rs 0 (by omega) h1
          | none =>
            rw [h1] at h
            simp only [orElse] at h
            cases ht : asTup tables with
            | none => rw [ht] at h; cases h; exact pth1 (a := 3) (by omega)
            | some ts =>
              rw [ht] at h
              have lt := tup_few ht (w := 1000000) (by omega)
              simp only at h
              split at h
              · rename_i q h2; cases h; exact tabs_pth ts 0 (by omega) h2
              · split at h
                · rename_i q h3; cases h; exact reg2_pth rs 0 (by omega) h3
                · cases ho : asTup outs with
                  | none => rw [ho] at h; cases h; exact pth1 (a := 4) (by omega)
                  | some os =>
                    rw [ho] at h
                    have lo := tup_few ho (w := 1000000) (by omega)
                    exact outs_pth os 0 (by omega) h
      · cases h; exact pth1 (a := 1) (by omega)
    · cases h; exact pth1 (a := 0) (by omega)
  · cases h; exact pth_of (xs := []) (fun x hx => by cases hx) (by simp)
theorem told_sm {x : Ev.D} (hw : wt x ≤ 1000000) : Sm 400 2 (told (netFault x)) := by
  cases h : netFault x with
  | none => exact ⟨rfl, by show wts [] + 3 ≤ 400; simp [wts], by show (toPy (.lst [])).depth ≤ 2; simp [toPy, toPys, PyData.depth, PyData.depthAll]⟩
  | some p => exact (Sms.lst (Sms.one (net_pth hw h))).mono (by omega) (by omega)
end K51
end
section
set_option linter.all false
set_option autoImplicit false
set_option maxRecDepth 100000
set_option maxHeartbeats 1000000
namespace K51
open PySem L2 Ev
theorem ne_self (a : Str) (s : Store) : pNe (.d (.str a)) (.d (.str a)) s = .ok (.d (.bl false)) s := by
  have lo : low (.str a) = true := decide_eq_true (by simp [toPy, PyData.depth])
  have e : eqD (.str a) (.str a) = true := by simp [eqD, toPy, PyData.eqv]
  unfold pNe pEqB
  simp only [peek_d, D.plain, lo, e, Bool.and_self, Bool.or_self, if_true]
  rfl
theorem repr_sm {w d : Nat} {x : Ev.D} (h : Sm w d x) (hw : w ≤ 4000000) (hd : d ≤ 60) (s : Store) : pRepr (.d x) s = .ok (.d (.str (toPy x).shown)) s :=
  repr_ok x s h.1 (Nat.le_trans h.2.1 (Nat.le_trans hw (le_line rfl))) (Nat.le_trans h.2.2 hd)
def lkE (ns : List Int) (net : Ev.D) (os : List Ev.D) (q2 q5 q6 q7 : Option Val) : Ev.Env := [some (.d (.scr ns)), some (.loc 1), q2, some (.d net), some (.d (.lst os)), q5, q6, q7, none]
noncomputable def lookB (C : Calls) : SC := sq (sSet (tn 6) (call C 11 (ac (v 1) (ac (v 3) (ac (v 4) (a0)))))) (sq (sSet (tn 6) (eif (bb (e2 pGt (v 5) (k (.int 6)))) (call C 11 (ac (v 1) (ac (v 6) (ac (v 4) (a0))))) (v 6))) (sq (sSet (tn 7) (Ev.e1 pRepr (v 6))) (sq (sIf (bor (bb (e2 pNe (Ev.e1 pRepr (call C 15 (ac (v 6) (a0)))) (Ev.e1 pRepr (call C 13 (ac (v 6) (a0)))))) (bb (e2 pNe (Ev.e1 pRepr (v 6)) (v 7)))) (sq (sRet (k (.bl false))) (sNil)) (sNil)) (sNil))))
theorem look_ok (ns : List Int) (net : Ev.D) (os : List Ev.D) (hn : Sm 25000 4 net) (hos : ∀ o ∈ os, Sm 25000 4 o) (ne : os ≠ []) (hl : os.length ≤ 100) (q2 q6 q7 : Option Val) (i : Int) (cs : List Nat) (l m t : Nat) (hc : cs.length < most) :
    ∃ (r6 r7 : Option Val) (cs' : List Nat) (l' m' t' : Nat), lookB (runP prog 29) (lkE ns net os q2 (some (.d (.int i))) q6 q7) (src cs l m t []) = .nx (lkE ns net os q2 (some (.d (.int i))) r6 r7) (src cs' l' m' t' []) ∧ cs'.length ≤ cs.length := by
  obtain ⟨y, cs1, l1, m1', t1, h1, hy, hl1⟩ := w_bent os 25000 4 hos ne hl (by omega) 4 22 25000 net cs l m t hn (by omega) hc
  have hc1 := Nat.lt_of_le_of_lt hl1 hc
  have h1' : runP prog 29 11 [.loc 1, .d net, .d (.lst os)] (src cs l m t []) = .ok (.d y) (src cs1 l1 m1' t1 []) := h1
  have two : ∃ (z : Ev.D) (cs2 : List Nat) (l2 m2' t2 : Nat), eif (bb (e2 pGt (v 5) (k (.int 6)))) (call (runP prog 29) 11 (ac (v 1) (ac (v 6) (ac (v 4) (a0))))) (v 6) (lkE ns net os q2 (some (.d (.int i))) (some (.d y)) q7) (src cs1 l1 m1' t1 []) = .ok (.d z) (src cs2 l2 m2' t2 []) ∧ Sm 175000 12 z ∧ cs2.length ≤ cs1.length := by
    have g : bb (e2 pGt (v 5) (k (.int 6))) (lkE ns net os q2 (some (.d (.int i))) (some (.d y)) q7) (src cs1 l1 m1' t1 []) = .ok (decide ((6 : Int) < i)) (src cs1 l1 m1' t1 []) := bb_ok (e2_ok (v_ok rfl) k_ok (pGt_ok _ _ _))
    cases hd : decide ((6 : Int) < i) with
    | true =>
      rw [hd] at g
      obtain ⟨z, cs2, l2, m2', t2, h2, hz, hl2⟩ := w_bent os 25000 4 hos ne hl (by omega) 8 18 75000 y cs1 l1 m1' t1 (hy.mono (by omega) (by omega)) (by omega) hc1
      have h2' : runP prog 29 11 [.loc 1, .d y, .d (.lst os)] (src cs1 l1 m1' t1 []) = .ok (.d z) (src cs2 l2 m2' t2 []) := h2
      exact ⟨z, cs2, l2, m2', t2, eif_t g (call_ok (ac_ok (v_ok rfl) (ac_ok (v_ok rfl) (ac_ok (v_ok rfl) a0_ok))) h2'), hz.mono (by omega) (by omega), hl2⟩
    | false =>
      rw [hd] at g
      exact ⟨y, cs1, l1, m1', t1, eif_f g (v_ok rfl), hy.mono (by omega) (by omega), Nat.le_refl _⟩
  obtain ⟨z, cs2, l2, m2', t2, h2, hz, hl2⟩ := two
  have s6 : sSet (tn 6) (call (runP prog 29) 11 (ac (v 1) (ac (v 3) (ac (v 4) (a0))))) (lkE ns net os q2 (some (.d (.int i))) q6 q7) (src cs l m t []) = .nx (lkE ns net os q2 (some (.d (.int i))) (some (.d y)) q7) (src cs1 l1 m1' t1 []) :=
    (set_tn (call_ok (ac_ok (v_ok rfl) (ac_ok (v_ok rfl) (ac_ok (v_ok rfl) a0_ok))) h1')).trans rfl
  have s6' : sSet (tn 6) (eif (bb (e2 pGt (v 5) (k (.int 6)))) (call (runP prog 29) 11 (ac (v 1) (ac (v 6) (ac (v 4) (a0))))) (v 6)) (lkE ns net os q2 (some (.d (.int i))) (some (.d y)) q7) (src cs1 l1 m1' t1 []) = .nx (lkE ns net os q2 (some (.d (.int i))) (some (.d z)) q7) (src cs2 l2 m2' t2 []) := (set_tn h2).trans rfl
  have rz : ∀ s, pRepr (.d z) s = .ok (.d (.str (toPy z).shown)) s := fun s => repr_sm hz (by omega) (by omega) s
  have ht : Sm 400 2 (told (netFault z)) := told_sm (Nat.le_trans hz.2.1 (by omega))
  have rt : ∀ s, pRepr (.d (told (netFault z))) s = .ok (.d (.str (toPy (told (netFault z))).shown)) s := fun s => repr_sm ht (by omega) (by omega) s
  have s7 : sSet (tn 7) (Ev.e1 pRepr (v 6)) (lkE ns net os q2 (some (.d (.int i))) (some (.d z)) q7) (src cs2 l2 m2' t2 []) = .nx (lkE ns net os q2 (some (.d (.int i))) (some (.d z)) (some (.d (.str (toPy z).shown)))) (src cs2 l2 m2' t2 []) := (set_tn (e1_ok (v_ok rfl) (rz _))).trans rfl
  have w15 : runP prog 29 15 [.d z] (src cs2 l2 m2' t2 []) = .ok (.d (told (netFault z))) (src cs2 l2 m2' t2 []) := w_path 25 z _ hz.1
  have w13 : runP prog 29 13 [.d z] (src cs2 l2 m2' t2 []) = .ok (.d (told (netFault z))) (src cs2 l2 m2' t2 []) := w_net_fault 26 z _ (Nat.le_trans hz.2.1 (le_line rfl))
  have c1 : bb (e2 pNe (Ev.e1 pRepr (call (runP prog 29) 15 (ac (v 6) (a0)))) (Ev.e1 pRepr (call (runP prog 29) 13 (ac (v 6) (a0))))) (lkE ns net os q2 (some (.d (.int i))) (some (.d z)) (some (.d (.str (toPy z).shown)))) (src cs2 l2 m2' t2 []) = .ok false (src cs2 l2 m2' t2 []) :=
    bb_ok (e2_ok (e1_ok (call_ok (ac_ok (v_ok rfl) a0_ok) w15) (rt _)) (e1_ok (call_ok (ac_ok (v_ok rfl) a0_ok) w13) (rt _)) (ne_self _ _))
  have c2 : bb (e2 pNe (Ev.e1 pRepr (v 6)) (v 7)) (lkE ns net os q2 (some (.d (.int i))) (some (.d z)) (some (.d (.str (toPy z).shown)))) (src cs2 l2 m2' t2 []) = .ok false (src cs2 l2 m2' t2 []) :=
    bb_ok (e2_ok (e1_ok (v_ok rfl) (rz _)) (v_ok rfl) (ne_self _ _))
  exact ⟨some (.d z), some (.d (.str (toPy z).shown)), cs2, l2, m2', t2, sq_nx s6 (sq_nx s6' (sq_nx s7 (sq_nx (sIf_f (bor_f c1 c2) nil_nx) nil_nx))), Nat.le_trans hl2 hl1⟩
theorem look_for (ns : List Int) (net : Ev.D) (os : List Ev.D) (hn : Sm 25000 4 net) (hos : ∀ o ∈ os, Sm 25000 4 o) (ne : os ≠ []) (hl : os.length ≤ 100) (q2 : Option Val) : ∀ (is : List Int) (q5 q6 q7 : Option Val) (cs : List Nat) (l m t : Nat), cs.length < most →
    ∃ (r5 r6 r7 : Option Val) (cs' : List Nat) (l' m' t' : Nat), forV (tn 5) (lookB (runP prog 29)) (is.map fun i => .d (.int i)) (lkE ns net os q2 q5 q6 q7) (src cs l m t []) = .nx (lkE ns net os q2 r5 r6 r7) (src cs' l' m' t' []) ∧ cs'.length ≤ cs.length
  | [], q5, q6, q7, cs, l, m, t, _ => ⟨q5, q6, q7, cs, l, m, t, rfl, Nat.le_refl _⟩
  | i :: is, q5, q6, q7, cs, l, m, t, hc => by
    obtain ⟨r6, r7, cs1, l1, m1', t1, h1, hl1⟩ := look_ok ns net os hn hos ne hl q2 q6 q7 i cs l m t hc
    obtain ⟨z5, z6, z7, cs2, l2, m2', t2, h2, hl2⟩ := look_for ns net os hn hos ne hl q2 is (some (.d (.int i))) r6 r7 cs1 l1 m1' t1 (Nat.lt_of_le_of_lt hl1 hc)
    exact ⟨z5, z6, z7, cs2, l2, m2', t2, forV_nx (E1 := lkE ns net os q2 (some (.d (.int i))) q6 q7) rfl h1 h2, Nat.le_trans hl2 hl1⟩
end K51
end
section
set_option linter.all false
set_option autoImplicit false
set_option maxRecDepth 100000
set_option maxHeartbeats 1000000
namespace K51
open PySem L2 Ev
def odd0 : List Ev.D := [.non, .bl true, .bl false, .int (-1), .int 0, .int 1, .int 2, .int 7, .int ((10 : Int) ^ (39 : Int).toNat), .str "", .str "1", .tup [], .lst [], .dct [], .tup [.int 0], .tup [.int 1, .int 0], .tup [.tup [], .int 1], .tup [.tup [.int 1], .int 3]]
theorem goods_mem : ∀ (xs : List Ev.D), goods xs = true → ∀ x ∈ xs, good x = true
  | [], _, x, h => by cases h
  | y :: ys, h, x, hx => by
    simp only [goods, Bool.and_eq_true] at h
    rcases List.mem_cons.mp hx with rfl | hm
    · exact h.1
    · exact goods_mem ys h.2 x hm
theorem wts_mem : ∀ (xs : List Ev.D), ∀ x ∈ xs, wt x ≤ wts xs
  | [], x, h => by cases h
  | y :: ys, x, hx => by
    simp only [wts]
    rcases List.mem_cons.mp hx with rfl | hm
    · omega
    · have := wts_mem ys x hm; omega
theorem deps_mem : ∀ (xs : List Ev.D), ∀ x ∈ xs, (toPy x).depth ≤ PyData.depthAll (toPys xs)
  | [], x, h => by cases h
  | y :: ys, x, hx => by
    simp only [toPys, PyData.depthAll]
    rcases List.mem_cons.mp hx with rfl | hm
    · omega
    · have := deps_mem ys x hm; omega
theorem odd0_goods : goods odd0 = true := by
  unfold odd0
  simp only [goods, good, Bool.and_true, List.isEmpty_nil]
  decide +kernel
theorem odd0_wts : wts odd0 ≤ 25000 := by
  unfold odd0
  simp only [wts, wt]
  decide +kernel
theorem odd0_deps : PyData.depthAll (toPys odd0) ≤ 4 := by
  unfold odd0
  simp only [toPys, toPy, PyData.depthAll, PyData.depth, toPyKv, PyData.depthKv]
  decide
theorem odd_sm {net : Ev.D} (h : Sm 25000 4 net) : ∀ o ∈ odd0 ++ [net], Sm 25000 4 o := fun o ho => by
  rcases List.mem_append.mp ho with h1 | h1
  · exact ⟨goods_mem _ odd0_goods o h1, Nat.le_trans (wts_mem _ o h1) odd0_wts, Nat.le_trans (deps_mem _ o h1) odd0_deps⟩
  · rw [List.mem_singleton] at h1; subst h1; exact h
def oddE : EC := lst (ac (k .non) (ac (k (.bl true)) (ac (k (.bl false)) (ac (Ev.e1 pNeg (k (.int 1))) (ac (k (.int 0)) (ac (k (.int 1)) (ac (k (.int 2)) (ac (k (.int 7)) (ac (e2 pPow (k (.int 10)) (k (.int 39))) (ac (k (.str "")) (ac (k (.str "1")) (ac (tup (a0)) (ac (lst (a0)) (ac (k (.dct [])) (ac (tup (ac (k (.int 0)) (a0))) (ac (tup (ac (k (.int 1)) (ac (k (.int 0)) (a0)))) (ac (tup (ac (tup (a0)) (ac (k (.int 1)) (a0)))) (ac (tup (ac (tup (ac (k (.int 1)) (a0))) (ac (k (.int 3)) (a0)))) (ac (v 3) (a0))))))))))))))))))))
theorem odd_ok {E : Ev.Env} {s : Store} {net : Ev.D} (h : v 3 E s = .ok (.d net) s) : oddE E s = .ok (.d (.lst (odd0 ++ [net]))) s := by
  have L : ∀ {n : Nat}, Nat.ble n line = true → n ≤ line := le_line
  have pw : e2 pPow (k (.int 10)) (k (.int 39)) E s = .ok (.d (.int ((10 : Int) ^ (39 : Int).toNat))) s := e2_ok k_ok k_ok (pPow_ok s (by omega) (by omega) (by decide))
  have t0 : tup (a0) E s = .ok (.d (.tup [])) s := tup_ok a0_ok rfl (L rfl)
  have t1 : tup (ac (k (.int 0)) (a0)) E s = .ok (.d (.tup [.int 0])) s := tup_ok (ac_ok k_ok a0_ok) rfl (L rfl)
  have t2 : tup (ac (k (.int 1)) (ac (k (.int 0)) (a0))) E s = .ok (.d (.tup [.int 1, .int 0])) s := tup_ok (ac_ok k_ok (ac_ok k_ok a0_ok)) rfl (L rfl)
  have t3 : tup (ac (tup (a0)) (ac (k (.int 1)) (a0))) E s = .ok (.d (.tup [.tup [], .int 1])) s := tup_ok (ac_ok t0 (ac_ok k_ok a0_ok)) rfl (L rfl)
  have t4 : tup (ac (tup (ac (k (.int 1)) (a0))) (ac (k (.int 3)) (a0))) E s = .ok (.d (.tup [.tup [.int 1], .int 3])) s := tup_ok (ac_ok (tup_ok (ac_ok k_ok a0_ok) rfl (L rfl)) (ac_ok k_ok a0_ok)) rfl (L rfl)
  have l0 : lst (a0) E s = .ok (.d (.lst [])) s := lst_ok a0_ok rfl (L rfl)
  exact lst_ok (ac_ok k_ok (ac_ok k_ok (ac_ok k_ok (ac_ok (e1_ok k_ok (pNeg_ok _ _)) (ac_ok k_ok (ac_ok k_ok (ac_ok k_ok (ac_ok k_ok (ac_ok pw (ac_ok k_ok (ac_ok k_ok (ac_ok t0 (ac_ok l0 (ac_ok k_ok (ac_ok t1 (ac_ok t2 (ac_ok t3 (ac_ok t4 (ac_ok h a0_ok))))))))))))))))))) rfl (L rfl)
def tnE (ns : List Int) (q2 q3 q4 q5 q6 q7 : Option Val) : Ev.Env := [some (.d (.scr ns)), some (.loc 1), q2, q3, q4, q5, q6, q7, none]
noncomputable def turnB (C : Calls) : SC := sq (sSet (tn 3) (call C 10 (ac (v 1) (ac (e2 pAdd (k (.int 2)) (call C 6 (ac (v 1) (ac (k (.int 5)) (a0))))) (ac (k (.int 3)) (ac (k (.int 2)) (ac (k (.int 6)) (a0)))))))) (sq (sIf (bor (bb (e2 pNe (call C 15 (ac (v 3) (a0))) (lst (a0)))) (bb (e2 pNe (call C 13 (ac (v 3) (a0))) (lst (a0))))) (sq (sRet (k (.bl false))) (sNil)) (sNil)) (sq (sSet (tn 4) oddE) (sq (sFor (tn 5) (iRng1 (k (.int 9))) (lookB C)) (sNil))))
theorem rng_map (i : Int) : ∃ is : List Int, (rng 0 i).map Val.d = is.map fun i => .d (.int i) := ⟨(List.range (i - 0).toNat).map fun (j : Nat) => 0 + (j : Int), by simp [rng, Function.comp_def]⟩
theorem turn_ok (ns : List Int) (q2 q3 q4 q5 q6 q7 : Option Val) (cs : List Nat) (l m t : Nat) (hc : cs.length < most) :
    ∃ (r3 r4 r5 r6 r7 : Option Val) (cs' : List Nat) (l' m' t' : Nat), turnB (runP prog 29) (tnE ns q2 q3 q4 q5 q6 q7) (src cs l m t []) = .nx (tnE ns q2 r3 r4 r5 r6 r7) (src cs' l' m' t' []) ∧ cs'.length ≤ cs.length := by
  obtain ⟨p, cs1, l1, m1', t1, h1, hp, hl1⟩ := w_pick 28 5 cs l m t [] (fits_len (le_line rfl)) hc
  have hc1 := Nat.lt_of_le_of_lt hl1 hc
  obtain ⟨net, cs2, l2, m2', t2, h2, hnf, hns, hl2⟩ := w_draw 26 (2 + p) (by omega) (by omega) cs1 l1 m1' t1 hc1
  have hc2 := Nat.lt_of_le_of_lt hl2 hc1
  obtain ⟨is, his⟩ := rng_map 9
  obtain ⟨r5, r6, r7, cs3, l3, m3', t3, h3, hl3⟩ := look_for ns net (odd0 ++ [net]) hns (odd_sm hns) (by simp) (by simp [odd0]) q2 is q5 q6 q7 cs2 l2 m2' t2 hc2
  have e2' : (2 : Int) + (p : Int) = ((2 + p : Nat) : Int) := by omega
  have p1 : call (runP prog 29) 6 (ac (v 1) (ac (k (.int 5)) (a0))) (tnE ns q2 q3 q4 q5 q6 q7) (src cs l m t []) = .ok (.d (.int p)) (src cs1 l1 m1' t1 []) := call_ok (ac_ok (v_ok rfl) (ac_ok k_ok a0_ok)) h1
  have p2 : e2 pAdd (k (.int 2)) (call (runP prog 29) 6 (ac (v 1) (ac (k (.int 5)) (a0)))) (tnE ns q2 q3 q4 q5 q6 q7) (src cs l m t []) = .ok (.d (.int ((2 + p : Nat) : Int))) (src cs1 l1 m1' t1 []) := e2_ok k_ok p1 ((pAdd_ok _ _ _).trans (by rw [e2']))
  have s3 : sSet (tn 3) (call (runP prog 29) 10 (ac (v 1) (ac (e2 pAdd (k (.int 2)) (call (runP prog 29) 6 (ac (v 1) (ac (k (.int 5)) (a0))))) (ac (k (.int 3)) (ac (k (.int 2)) (ac (k (.int 6)) (a0))))))) (tnE ns q2 q3 q4 q5 q6 q7) (src cs l m t []) = .nx (tnE ns q2 (some (.d net)) q4 q5 q6 q7) (src cs2 l2 m2' t2 []) :=
    (set_tn (call_ok (ac_ok (v_ok rfl) (ac_ok p2 (ac_ok k_ok (ac_ok k_ok (ac_ok k_ok a0_ok))))) h2)).trans rfl
  have w15 : runP prog 29 15 [.d net] (src cs2 l2 m2' t2 []) = .ok (.d (.lst [])) (src cs2 l2 m2' t2 []) := (w_path 25 net _ hns.1).trans (by rw [hnf]; rfl)
  have w13 : runP prog 29 13 [.d net] (src cs2 l2 m2' t2 []) = .ok (.d (.lst [])) (src cs2 l2 m2' t2 []) := (w_net_fault 26 net _ (Nat.le_trans hns.2.1 (le_line rfl))).trans (by rw [hnf]; rfl)
  have l0 : ∀ E s, lst (a0) E s = .ok (.d (.lst [])) s := fun E s => lst_ok a0_ok rfl (le_line rfl)
  have c1 : bb (e2 pNe (call (runP prog 29) 15 (ac (v 3) (a0))) (lst (a0))) (tnE ns q2 (some (.d net)) q4 q5 q6 q7) (src cs2 l2 m2' t2 []) = .ok false (src cs2 l2 m2' t2 []) := bb_ok (e2_ok (call_ok (ac_ok (v_ok rfl) a0_ok) w15) (l0 _ _) (ne_nil [] _))
  have c2 : bb (e2 pNe (call (runP prog 29) 13 (ac (v 3) (a0))) (lst (a0))) (tnE ns q2 (some (.d net)) q4 q5 q6 q7) (src cs2 l2 m2' t2 []) = .ok false (src cs2 l2 m2' t2 []) := bb_ok (e2_ok (call_ok (ac_ok (v_ok rfl) a0_ok) w13) (l0 _ _) (ne_nil [] _))
  have s4 : sSet (tn 4) oddE (tnE ns q2 (some (.d net)) q4 q5 q6 q7) (src cs2 l2 m2' t2 []) = .nx (lkE ns net (odd0 ++ [net]) q2 q5 q6 q7) (src cs2 l2 m2' t2 []) := (set_tn (odd_ok (v_ok rfl))).trans rfl
  rw [← his] at h3
  exact ⟨some (.d net), some (.d (.lst (odd0 ++ [net]))), r5, r6, r7, cs3, l3, m3', t3, sq_nx s3 (sq_nx (sIf_f (bor_f c1 c2) nil_nx) (sq_nx s4 (sq_nx (for_vals (iRng1_ok k_ok (by decide)) h3) nil_nx))), Nat.le_trans hl3 (Nat.le_trans hl2 hl1)⟩
theorem turn_for (ns : List Int) : ∀ (is : List Int) (q2 q3 q4 q5 q6 q7 : Option Val) (cs : List Nat) (l m t : Nat), cs.length < most →
    ∃ (r2 r3 r4 r5 r6 r7 : Option Val) (cs' : List Nat) (l' m' t' : Nat), forV (tn 2) (turnB (runP prog 29)) (is.map fun i => .d (.int i)) (tnE ns q2 q3 q4 q5 q6 q7) (src cs l m t []) = .nx (tnE ns r2 r3 r4 r5 r6 r7) (src cs' l' m' t' []) ∧ cs'.length ≤ cs.length
  | [], q2, q3, q4, q5, q6, q7, cs, l, m, t, _ => ⟨q2, q3, q4, q5, q6, q7, cs, l, m, t, rfl, Nat.le_refl _⟩
  | i :: is, q2, q3, q4, q5, q6, q7, cs, l, m, t, hc => by
    obtain ⟨r3, r4, r5, r6, r7, cs1, l1, m1', t1, h1, hl1⟩ := turn_ok ns (some (.d (.int i))) q3 q4 q5 q6 q7 cs l m t hc
    obtain ⟨z2, z3, z4, z5, z6, z7, cs2, l2, m2', t2, h2, hl2⟩ := turn_for ns is (some (.d (.int i))) r3 r4 r5 r6 r7 cs1 l1 m1' t1 (Nat.lt_of_le_of_lt hl1 hc)
    exact ⟨z2, z3, z4, z5, z6, z7, cs2, l2, m2', t2, forV_nx (E1 := tnE ns (some (.d (.int i))) q3 q4 q5 q6 q7) rfl h1 h2, Nat.le_trans hl2 hl1⟩
end K51
end
section
set_option linter.all false
set_option autoImplicit false
set_option maxRecDepth 100000
set_option maxHeartbeats 1000000
namespace K51
open PySem L2 Ev
def fx1 : Ev.D := .tup [.int 2, .int 0, .tup [], .tup [.tup [.tup [], .int 1], .tup [.tup [], .int 2]], .tup []]
def fx2 : Ev.D := .tup [.int 2, .int 1, .tup [.tup [.int 0, .int 3]], .tup [], .tup [.int 2]]
def fx3 : Ev.D := .tup [.int 2, .int 1, .tup [.tup [.int 0, .int 2]], .tup [], .tup [.int 2]]
def fx4 : Ev.D := .tup [.int 1, .int 0, .tup [], .tup [], .tup []]
def fx5 : Ev.D := .tup [.int 2, .int 2, .tup [], .tup [.tup [.tup [.int 1, .int 1], .int 3]], .tup []]
def fx6 : Ev.D := .tup [.int 3, .int 1, .tup [], .tup [.tup [.tup [.int 0, .int 1, .int 0], .int 3]], .tup [.int 2]]
def want : List Ev.D := [.lst [.tup [.int 3, .int 1, .int 1]], .lst [.tup [.int 2, .int 0, .int 1]], .lst [], .lst [.tup [.int 0]], .lst [.tup [.int 3, .int 0, .int 0]], .lst [.tup [.int 3, .int 0, .int 0]]]
theorem fx_good : ∀ x ∈ [fx1, fx2, fx3, fx4, fx5, fx6], good x = true := goods_mem _ (by
  unfold fx1 fx2 fx3 fx4 fx5 fx6
  simp only [goods, good, Bool.and_true]
  decide +kernel)
theorem fx_told : [fx1, fx2, fx3, fx4, fx5, fx6].map (fun x => told (netFault x)) = want := by rfl
theorem lc_paths (ns : List Int) (q2 q3 q4 q5 q6 q7 : Option Val) (z : Option Val) (s : Store) : ∀ vs : List Ev.D, (∀ x ∈ vs, good x = true) → lcV [3] (tn 3) yes (call (runP prog 29) 15 (ac (v 3) (a0))) [some (.d (.scr ns)), some (.loc 1), q2, q3, q4, q5, q6, q7, z] (vs.map .d) s = .ok ((vs.map fun x => told (netFault x)).map .d) s
  | [], _ => rfl
  | x :: vs, h => by
    have ih := lc_paths ns q2 q3 q4 q5 q6 q7 z s vs fun y hy => h y (List.mem_cons_of_mem _ hy)
    have st : tn 3 (.d x) (Ev.wipe [some (.d (.scr ns)), some (.loc 1), q2, q3, q4, q5, q6, q7, z] [3]) s = some ([some (.d (.scr ns)), some (.loc 1), q2, some (.d x), q4, q5, q6, q7, z], s) := rfl
    have w15 : runP prog 29 15 [.d x] s = .ok (.d (told (netFault x))) s := w_path 25 x s (h x (List.mem_cons_self ..))
    have el : call (runP prog 29) 15 (ac (v 3) (a0)) [some (.d (.scr ns)), some (.loc 1), q2, some (.d x), q4, q5, q6, q7, z] s = .ok (.d (told (netFault x))) s := call_ok (ac_ok (v_ok rfl) a0_ok) w15
    simp only [List.map_cons, lcV, lcT]
    rw [st]
    simp only [yes, Res.bind_ok, if_true, el, ih]
theorem want_eq (s : Store) : pEq (.d (.lst want)) (.d (.lst want)) s = .ok (.d (.bl true)) s := by
  have p : D.plain (.lst want) = true := by decide +kernel
  have lo : low (.lst want) = true := by decide +kernel
  have e : eqD (.lst want) (.lst want) = true := by
    unfold want eqD
    simp [toPy, toPys, PyData.eqv, PyData.eqvAll]
  unfold pEq pEqB
  simp only [peek_d, p, lo, e, Bool.and_self, Bool.or_self, if_true]
  rfl
theorem k_tup {r : AC} {E : Ev.Env} {s : Store} {ds : List Ev.D} (h : r E s = .ok (ds.map .d) s) (hl : Nat.ble ds.length line = true) : tup r E s = .ok (.d (.tup ds)) s := tup_ok h (allD_map ds) (le_line hl)
theorem law_is (C : Calls) : ∃ a b w, e_law C = sq (sSet (tn 1) (call C 5 (ac (v 0) (a0)))) (sq (sFor (tn 2) (iRng1 (k (.int 6))) (turnB C)) (sq (sSet (tn 8) a) (sq (sSet (tn 8) (e2 pAdd (v 8) b)) (sq (sRet (e2 pEq (lc [3] (tn 3) (iSeq (v 8)) (yes) (call C 15 (ac (v 3) (a0)))) w)) (sNil))))) ∧ (∀ E s, a E s = .ok (.d (.lst [fx1, fx2, fx3])) s) ∧ (∀ E s, b E s = .ok (.d (.lst [fx4, fx5, fx6])) s) ∧ (∀ E s, w E s = .ok (.d (.lst want)) s) :=
  ⟨_, _, _, rfl, fun _ _ => rfl, fun _ _ => rfl, fun _ _ => rfl⟩
theorem plain_law (ns : List Int) (h : ns.length ≤ 63) : ∃ s, runP prog 30 16 [.d (.scr ns)] [] = .ok (.d (.bl true)) s := by
  obtain ⟨m, h1⟩ := w_source 28 ns h
  obtain ⟨is, his⟩ := rng_map 6
  have hc : ((ns.map Int.natAbs).reverse).length < most := Nat.lt_of_le_of_lt (show _ ≤ 63 by rw [List.length_reverse, List.length_map]; exact h) (by decide)
  obtain ⟨r2, r3, r4, r5, r6, r7, cs', l', m', t', h2, _⟩ := turn_for ns is none none none none none none _ 1 m 0 hc
  rw [← his] at h2
  obtain ⟨a, b, w, e, ha, hb, hw⟩ := law_is (runP prog 29)
  have hbody : e_law (runP prog 29) [some (.d (.scr ns)), none, none, none, none, none, none, none, none] [] = .rt (.d (.bl true)) (src cs' l' m' t' []) := by
    rw [e]
    have six : ([fx1, fx2, fx3, fx4, fx5, fx6].map Val.d).length ≤ line := le_line rfl
    have lc1 : Ev.lc [3] (tn 3) (Ev.iSeq (v 8)) yes (call (runP prog 29) 15 (ac (v 3) (a0))) [some (.d (.scr ns)), some (.loc 1), r2, r3, r4, r5, r6, r7, some (.d (.lst [fx1, fx2, fx3, fx4, fx5, fx6]))] (src cs' l' m' t' []) = .ok (.d (.lst want)) (src cs' l' m' t' []) :=
      lcG_ok (sr := .vals ([fx1, fx2, fx3, fx4, fx5, fx6].map Val.d)) rfl (lcS_vals six (lc_paths ns r2 r3 r4 r5 r6 r7 _ _ _ fx_good)) (mkL_ok (by rw [fx_told]; exact allD_map want) (le_line rfl))
    have ad : pAdd (.d (.lst [fx1, fx2, fx3])) (.d (.lst [fx4, fx5, fx6])) (src cs' l' m' t' []) = .ok (.d (.lst [fx1, fx2, fx3, fx4, fx5, fx6])) (src cs' l' m' t' []) := by
      show (if [fx1, fx2, fx3].length + [fx4, fx5, fx6].length ≤ line then Res.ok (Val.d (.lst ([fx1, fx2, fx3] ++ [fx4, fx5, fx6]))) (src cs' l' m' t' []) else .fail) = _
      rw [if_pos (le_line rfl)]; rfl
    have s1 : sSet (tn 1) (call (runP prog 29) 5 (ac (v 0) (a0))) [some (.d (.scr ns)), none, none, none, none, none, none, none, none] [] = .nx (tnE ns none none none none none none) (src (ns.map Int.natAbs).reverse 1 m 0 []) := (set_tn (call_ok (ac_ok (v_ok rfl) a0_ok) h1)).trans rfl
    have s8 : sSet (tn 8) a (tnE ns r2 r3 r4 r5 r6 r7) (src cs' l' m' t' []) = .nx [some (.d (.scr ns)), some (.loc 1), r2, r3, r4, r5, r6, r7, some (.d (.lst [fx1, fx2, fx3]))] (src cs' l' m' t' []) := (set_tn (ha _ _)).trans rfl
    have s9 : sSet (tn 8) (e2 pAdd (v 8) b) [some (.d (.scr ns)), some (.loc 1), r2, r3, r4, r5, r6, r7, some (.d (.lst [fx1, fx2, fx3]))] (src cs' l' m' t' []) = .nx [some (.d (.scr ns)), some (.loc 1), r2, r3, r4, r5, r6, r7, some (.d (.lst [fx1, fx2, fx3, fx4, fx5, fx6]))] (src cs' l' m' t' []) := (set_tn (e2_ok (v_ok rfl) (hb _ _) ad)).trans rfl
    exact sq_nx s1 (sq_nx (for_vals (iRng1_ok k_ok (by decide)) h2) (sq_nx s8 (sq_nx s9 (sq_rt (ret_ok (e2_ok lc1 (hw _ _) (want_eq _)))))))
  rw [rp]
  exact ⟨_, runFn_rt (f := ⟨1, 9, e_law (runP prog 29)⟩) (xs := [.d (.scr ns)]) (x := .d (.bl true)) (s' := src cs' l' m' t' []) rfl hbody⟩
end K51
end
set_option Elab.async false
set_option linter.all false
set_option autoImplicit false
set_option maxRecDepth 100000
set_option maxHeartbeats 4000000
namespace K51
open PySem PySem.Spec PyProof.Rows L2 Ev
theorem ends {w : World} {K : PySem.W.Frag} {mg : Str → Option Value} {fa' : Addr} {h : Heap} (KX : K.In h) (N : h.Ns mainGlobals mg) (hmg : mg ("law" : Str) = some (.ref fa')) (c : SaysL pg fa fn ins xfs K) :
    ∃ (G : Gd) (C : Calls) (fd : FuncData), G.K.In h ∧ (∀ (s : Shared) (u : Value), BindsTo s fd ⟨[u], []⟩ [("_law_script", u)]) ∧
        (∀ base : Heap, G.K.In base → base.Ns mainGlobals mg → FnG pg w G.K mg base (30 + 3) fa' fd ["_law_script"] (spF G C 16)) ∧ ∀ ns : List Int, ns.length ≤ 63 → ∃ s, C 16 [.d (.scr ns)] [] = .ok (.d (.bl true)) s := by
  obtain ⟨fd, D⟩ := c.d.def_ 16 (d := d_law)
  have b := FunD.bindsA (ps := ["_law_script"]) D fun _ _ _ _ _ _ us hl => match us, hl with | [_], _ => rfl
  refine ⟨Gk K, runP prog 30, fd, KX, fun s v => b s [v] rfl, fun base X N' => ?_, plain_law⟩
  obtain ⟨f, fd', F, _, kp, hm, lk⟩ := (lib (w := w) c X N' 30).at_ 16
  rw [hmg] at hm
  cases hm
  have e2 := He.glo_ok X N' (c.d.fact 16 (f := .glo "law") rfl)
  rw [hmg] at e2
  have lk2 := fun_at D
  have e3 : He.fAd K d_law.at_ = fa' := by
    have e4 := Option.some.inj e2
    injection e4 with e5
    exact e5.symm
  rw [e3] at lk2
  rw [← fun_one lk lk2]
  exact F
end K51
open PySem PySem.W PySem.Calls PyProof.Rows in
theorem PySem.Challenge.cw_bitloom_k51_nets_judged_holds : PySem.Challenge.rw_bitloom_k51_nets_judged.Holds := by
  w_on; o_law
  refine HandSHeadRun.head_any (r := OpenLaw.row PySem.Challenge.rw_bitloom_k51_nets_judged) (q := view (OpenLaw.row PySem.Challenge.rw_bitloom_k51_nets_judged).prog [21]) (H := K51.hk) (ob := K51.ob) (M := 1500) (loose := K51.loose) (d := HandSHeadRun.topDef (OpenLaw.row PySem.Challenge.rw_bitloom_k51_nets_judged).prog 21) (kwd := []) K51.ob_eq
    (by kernel_rfl) (fun s => by kernel_rfl) K51.run (by kernel_rfl) (by kernel_rfl) (by kernel_rfl) (by rfl) (by first | assumption | decide +kernel) (by decide +kernel) ⟨rfl, rfl, rfl, rfl, rfl, by decide +kernel⟩ ?hw ?hc
  case hw => w_witness2
  case hc =>
    refine Ev.walk_ev (l := PySem.Challenge.rw_bitloom_k51_nets_judged) (n := 63) (k := 30 + 3) (x := "_law_script") (lawf := 16) rfl (by decide) (by kernel_rfl) ⟨rfl, by decide, by decide⟩ ?_
    intro w mg fa h Y N hmg0
    obtain ⟨K, KX, c⟩ := Y
    have hmg : mg ("law" : PySem.Str) = some (.ref fa) := by
      have e : (HandSHeadRun.topDef (OpenLaw.row PySem.Challenge.rw_bitloom_k51_nets_judged).prog 21).name = ("law" : PySem.Str) := by kernel_rfl
      rw [← e]
      exact hmg0
    exact K51.ends KX N hmg c
