import PyProof.Rows.All
import PyProof.P3Statements
import Wide.All
import OpenK.AllK
import Wide.FinOn
import HandS.ForMost
import HandS.ForExc
import HandS.CallSlots
import HandS.TupAny
import HandS.Deep
import HandS.DictComp
import HandS.IsInst
import HandS.Style
import HandS.Walk
import HandS.Defaults
import HandS.Ends
import HandS.HeadEnd
import HandS.HeadHook2
import PySem.Challenge.RW_strongboxes_k02_numbers_of_expressions
import HandS.Head0
import HandS.Head1
import HandS.Head2
import HandS.HeadHook1
import KE.KStateDown
set_option linter.all false
set_option Elab.async false
/-! MiA: the mini-interpreter: values, heap, combinators. Plain Lean, nothing of the model but texts and PyData. -/
namespace Mi
open PySem

abbrev Ky := Sum Int Str

/-- values: tuples and frozen lists, dicts are data; what is shared and changed stands on the heap (ref) -/
inductive IV where
  | non | bl (b : Bool) | int (i : Int) | str (s : Str)
  | tup (xs : List IV) | lst (xs : List IV)
  | dic (ks : List Ky) (vs : List IV)
  | ref (n : Nat)
  | err (c : Nat) (ns : List Str) (vs : List IV)
  deriving Inhabited

/-- what stands on the heap, or is owned by a slot -/
inductive MO where
  | lst (xs : List IV)
  | dic (ks : List Ky) (vs : List IV)
  | ins (c : Nat) (ns : List Str) (vs : List IV)
  deriving Inhabited
abbrev MH := List MO
/-- a slot: nothing, a value, or an object of its own -/
inductive SV where
  | emp | val (v : IV) | own (o : MO)
  deriving Inhabited
abbrev Sg := List SV
/-- an exception: its class, its fields (none: without a dict) -/
structure Ex where
  c : Nat
  fs : Option (List Str × List IV)

inductive R (α : Type) where
  | ok (a : α) (h : MH) | ex (e : Ex) (h : MH) | bad
def R.bind {α β : Type} (r : R α) (f : α → MH → R β) : R β := match r with
  | .ok a h => f a h
  | .ex e h => .ex e h
  | .bad => .bad
@[simp] theorem R.bind_ok {α β : Type} (a : α) (h : MH) (f : α → MH → R β) : (R.ok a h).bind f = f a h := rfl
@[simp] theorem R.bind_ex {α β : Type} (e : Ex) (h : MH) (f : α → MH → R β) : (R.ex e h : R α).bind f = .ex e h := rfl
@[simp] theorem R.bind_bad {α β : Type} (f : α → MH → R β) : (R.bad : R α).bind f = .bad := rfl
/-- a partial function's answer -/
def R.of {α : Type} (o : Option α) (h : MH) : R α := match o with
  | some a => .ok a h
  | none => .bad
@[simp] theorem R.of_some {α : Type} (a : α) (h : MH) : R.of (some a) h = .ok a h := rfl
@[simp] theorem R.of_none {α : Type} (h : MH) : R.of (none : Option α) h = .bad := rfl

abbrev ME := Sg → MH → R IV
abbrev MT := Sg → MH → R Bool
abbrev MA := Sg → MH → R (List IV)
/-- a def's call by its number -/
abbrev Rec := Nat → List IV → MH → R IV

def line : Nat := 16777216
def wide64 (i : Int) : Bool := decide (-(2 ^ 64) < i) && decide (i < 2 ^ 64)

/-! ### reading values -/
def asL (h : MH) : IV → Option (List IV)
  | .lst xs => some xs
  | .ref n => match h[n]? with
    | some (.lst xs) => some xs
    | _ => none
  | _ => none
def asD (h : MH) : IV → Option (List Ky × List IV)
  | .dic ks vs => some (ks, vs)
  | .ref n => match h[n]? with
    | some (.dic ks vs) => some (ks, vs)
    | _ => none
  | _ => none
def toKy : IV → Option Ky
  | .int i => some (.inl i)
  | .str s => some (.inr s)
  | _ => none
def klook : List Ky → List IV → Ky → Option IV
  | k :: ks, v :: vs, q => if k = q then some v else klook ks vs q
  | _, _, _ => none
/-- d[k] = v: the keys, the values -/
def kset : List Ky → List IV → Ky → IV → List IV
  | k :: ks, v :: vs, q, x => (if k = q then x else v) :: kset ks vs q x
  | _, _, _, _ => []
def kput (ks : List Ky) (vs : List IV) (q : Ky) (x : IV) : List Ky × List IV := if (ks.any fun k => decide (k = q)) = true then (ks, kset ks vs q x) else (ks ++ [q], vs ++ [x])
def ixI (n : Nat) (i : Int) : Option Nat := if 0 ≤ i then (if i < n then some i.toNat else none) else if -(n : Int) ≤ i then some (i + n).toNat else none
def atI {α : Type} (xs : List α) (i : Int) : Option α := (ixI xs.length i).bind fun j => xs[j]?
def sIx (n d : Nat) : Option Int → Nat
  | none => d
  | some v => if v < 0 then (v + (n : Int)).toNat else min v.toNat n
def cutI {α : Type} (xs : List α) (lo hi : Option Int) : List α := (xs.drop (sIx xs.length 0 lo)).take (sIx xs.length xs.length hi - sIx xs.length 0 lo)

def mapO {α β : Type} (f : α → Option β) : List α → Option (List β)
  | [] => some []
  | x :: xs => match f x, mapO f xs with
    | some y, some ys => some (y :: ys)
    | _, _ => none
/-- a value as data (lists of the heap too), to a depth -/
def pd (h : MH) : Nat → IV → Option PyData
  | _, .non => some .none
  | _, .bl b => some (.bool b)
  | _, .int i => some (.int i)
  | _, .str s => some (.str s)
  | n + 1, .tup xs => (mapO (pd h n) xs).map .tuple
  | n + 1, .lst xs => (mapO (pd h n) xs).map .list
  | n + 1, .ref m => match h[m]? with
    | some (.lst xs) => (mapO (pd h n) xs).map .list
    | _ => none
  | _, _ => none
def deep : Nat := 40
/-- == of flat values, for dicts -/
def flatEq : IV → IV → Bool
  | .non, .non => true
  | .bl a, .bl b => a == b
  | .int a, .int b => a == b
  | .str a, .str b => a == b
  | _, _ => false
def hits (ls : List Ky) (ws : List IV) : List Ky → List IV → Bool
  | k :: ks, v :: vs => (match klook ls ws k with
      | some w => flatEq v w
      | none => false) && hits ls ws ks vs
  | _, _ => true
/-- two dicts of flat values that are alike -/
def dEq (h : MH) (x y : IV) : Option Bool := match asD h x, asD h y with
  | some (ks, vs), some (ls, ws) => if ks.length = ls.length ∧ hits ls ws ks vs = true then some true else none
  | _, _ => none
def vEq (h : MH) (x y : IV) : Option Bool := match pd h deep x, pd h deep y with
  | some d, some e => some (PyData.eqv d e)
  | _, _ => dEq h x y
def anyEq (d : PyData) (es : List PyData) : Bool := es.any fun z => PyData.eqv z d

/-! ### operators, by values -/
def vAdd (x y : IV) (h : MH) : R IV := match x, y with
  | .int i, .int j => .ok (.int (i + j)) h
  | .str s, .str t => if s.length + t.length ≤ line then .ok (.str (s ++ t)) h else .bad
  | .tup xs, .tup ys => if xs.length + ys.length ≤ line then .ok (.tup (xs ++ ys)) h else .bad
  | _, _ => match asL h x, asL h y with
    | some xs, some ys => if xs.length + ys.length ≤ line then .ok (.lst (xs ++ ys)) h else .bad
    | _, _ => .bad
def vSub (x y : IV) (h : MH) : R IV := match x, y with
  | .int i, .int j => .ok (.int (i - j)) h
  | _, _ => .bad
def vMul (x y : IV) (h : MH) : R IV := match x, y with
  | .int i, .int j => if wide64 i || wide64 j then .ok (.int (i * j)) h else .bad
  | _, _ => .bad
def vDiv (x y : IV) (h : MH) : R IV := match x, y with
  | .int i, .int j => if 0 < j ∧ j < 1073741824 then .ok (.int (i / j)) h else .bad
  | _, _ => .bad
def vMod (x y : IV) (h : MH) : R IV := match x, y with
  | .int i, .int j => if 0 < j then .ok (.int (i % j)) h else .bad
  | _, _ => .bad
def vPow (x y : IV) (h : MH) : R IV := match x, y with
  | .int i, .int j => if 0 ≤ j ∧ j ≤ 1000000 ∧ i.natAbs < 2 ^ 64 then .ok (.int (i ^ j.toNat)) h else .bad
  | _, _ => .bad
def vNeg (x : IV) (h : MH) : R IV := match x with
  | .int i => .ok (.int (-i)) h
  | _ => .bad
def vLt (x y : IV) (h : MH) : R IV := match x, y with
  | .int i, .int j => .ok (.bl (decide (i < j))) h
  | _, _ => .bad
def vLe (x y : IV) (h : MH) : R IV := match x, y with
  | .int i, .int j => .ok (.bl (decide (i ≤ j))) h
  | _, _ => .bad
def vGt (x y : IV) (h : MH) : R IV := match x, y with
  | .int i, .int j => .ok (.bl (decide (j < i))) h
  | _, _ => .bad
def vGe (x y : IV) (h : MH) : R IV := match x, y with
  | .int i, .int j => .ok (.bl (decide (j ≤ i))) h
  | _, _ => .bad
def vEqR (x y : IV) (h : MH) : R IV := match vEq h x y with
  | some b => .ok (.bl b) h
  | none => .bad
def vNeR (x y : IV) (h : MH) : R IV := match vEq h x y with
  | some b => .ok (.bl (!b)) h
  | none => .bad
def isNon : IV → Bool
  | .non => true
  | _ => false
def vIsN (x : IV) (h : MH) : R IV := .ok (.bl (isNon x)) h
def vNotN (x : IV) (h : MH) : R IV := .ok (.bl (!isNon x)) h
/-- x in y: a list or a tuple of data; a dict; a sign in a text -/
def vInB (h : MH) (x y : IV) : Option Bool := match y with
  | .tup ys => match pd h deep x, mapO (pd h deep) ys with
    | some d, some es => some (anyEq d es)
    | _, _ => none
  | .str t => match x with
    | .str s => if s.length = 1 then some (t.cps.toList.contains (s.cps.getD 0 0)) else none
    | _ => none
  | _ => match asL h y with
    | some ys => match pd h deep x, mapO (pd h deep) ys with
      | some d, some es => some (anyEq d es)
      | _, _ => none
    | none => match asD h y, toKy x with
      | some (ks, vs), some k => some (klook ks vs k).isSome
      | _, _ => none
def vIn (x y : IV) (h : MH) : R IV := match vInB h x y with
  | some b => .ok (.bl b) h
  | none => .bad
def vNotIn (x y : IV) (h : MH) : R IV := match vInB h x y with
  | some b => .ok (.bl (!b)) h
  | none => .bad
def vIdx (x y : IV) (h : MH) : R IV := match x, y with
  | .tup xs, .int i => .of (atI xs i) h
  | .str s, .int i => .of ((atI s.cps.toList i).map fun c => .str ⟨#[c]⟩) h
  | _, _ => match asL h x with
    | some xs => match y with
      | .int i => .of (atI xs i) h
      | _ => .bad
    | none => match asD h x, toKy y with
      | some (ks, vs), some k => .of (klook ks vs k) h
      | _, _ => .bad
/-- a truth value -/
def tru (h : MH) : IV → Option Bool
  | .non => some false
  | .bl b => some b
  | .int i => some (i != 0)
  | .str s => some ((s.length : Int) != 0)
  | .tup xs => some (!xs.isEmpty)
  | .dic ks _ => some (!ks.isEmpty)
  | v => (asL h v).map fun xs => !xs.isEmpty
def vSlc (x : IV) (lo hi : Option Int) (h : MH) : R IV := match x with
  | .tup xs => .ok (.tup (cutI xs lo hi)) h
  | .str s => .ok (.str ⟨(cutI s.cps.toList lo hi).toArray⟩) h
  | _ => match asL h x with
    | some xs => .ok (.lst (cutI xs lo hi)) h
    | none => .bad
def vLen (x : IV) (h : MH) : R IV := match x with
  | .str s => .ok (.int s.length) h
  | .tup xs => .ok (.int xs.length) h
  | _ => match asL h x with
    | some xs => .ok (.int xs.length) h
    | none => match asD h x with
      | some (ks, _) => .ok (.int ks.length) h
      | none => .bad

/-! ### built-ins, by the list of the arguments -/
inductive Ty where
  | non | bool | int | str | tup | lst | dic
  deriving DecidableEq
def Ty.name : Ty → String
  | .non => "NoneType" | .bool => "bool" | .int => "int" | .str => "str" | .tup => "tuple" | .lst => "list" | .dic => "dict"
def tyOf (h : MH) : IV → Option Ty
  | .non => some .non
  | .bl _ => some .bool
  | .int _ => some .int
  | .str _ => some .str
  | .tup _ => some .tup
  | v => match asL h v with
    | some _ => some .lst
    | none => (asD h v).map fun _ => .dic
def isTy (t T : Ty) : Bool := t == T || (t == .bool && T == .int)
def vIsi (T : Ty) (v : IV) (h : MH) : R IV := match tyOf h v with
  | some t => .ok (.bl (isTy t T)) h
  | none => .bad
def bLen (vs : List IV) (h : MH) : R IV := match vs with
  | [v] => vLen v h
  | _ => .bad
def bInt (vs : List IV) (h : MH) : R IV := match vs with
  | [.int i] => .ok (.int i) h
  | [.bl b] => .ok (.int (if b then 1 else 0)) h
  | _ => .bad
def bMin (vs : List IV) (h : MH) : R IV := match vs with
  | [.int i, .int j] => .ok (.int (if j < i then j else i)) h
  | _ => .bad
def bMax (vs : List IV) (h : MH) : R IV := match vs with
  | [.int i, .int j] => .ok (.int (if j > i then j else i)) h
  | _ => .bad
def bList (vs : List IV) (h : MH) : R IV := match vs with
  | [.tup xs] => .ok (.lst xs) h
  | [v] => match asL h v with
    | some xs => .ok (.lst xs) h
    | none => .bad
  | _ => .bad
def bTuple (vs : List IV) (h : MH) : R IV := match vs with
  | [.tup xs] => .ok (.tup xs) h
  | [v] => match asL h v with
    | some xs => .ok (.tup xs) h
    | none => .bad
  | _ => .bad
def asBls : List IV → Option (List Bool)
  | [] => some []
  | .bl b :: r => (asBls r).map fun l => b :: l
  | _ :: _ => none
def bAll (vs : List IV) (h : MH) : R IV := match vs with
  | [v] => match (asL h v).bind asBls with
    | some bs => .ok (.bl (bs.all id)) h
    | none => .bad
  | _ => .bad
def bAny (vs : List IV) (h : MH) : R IV := match vs with
  | [v] => match (asL h v).bind asBls with
    | some bs => .ok (.bl (bs.any id)) h
    | none => .bad
  | _ => .bad
/-- the pairs of a list, as keys and values -/
def asPairs : List IV → Option (List (Ky × IV))
  | [] => some []
  | .tup [k, v] :: r => match toKy k, asPairs r with
    | some q, some l => some ((q, v) :: l)
    | _, _ => none
  | _ :: _ => none
def kmerge : List Ky → List IV → List (Ky × IV) → List Ky × List IV
  | ks, vs, [] => (ks, vs)
  | ks, vs, (k, v) :: r => kmerge (kput ks vs k v).1 (kput ks vs k v).2 r
def bDict (vs : List IV) (h : MH) : R IV := match vs with
  | [v] => match asD h v with
    | some (ks, ws) => .ok (.dic ks ws) h
    | none => match (asL h v).bind asPairs with
      | some ps => .ok (.dic (kmerge [] [] ps).1 (kmerge [] [] ps).2) h
      | none => .bad
  | _ => .bad
/-! ### methods, by the receiver and the list of the arguments -/
def lstAt (h : MH) : IV → Option (Nat × List IV)
  | .ref n => match h[n]? with
    | some (.lst xs) => some (n, xs)
    | _ => none
  | _ => none
def tAppend (x : IV) (vs : List IV) (h : MH) : R IV := match lstAt h x, vs with
  | some (n, xs), [v] => if xs.length < line then .ok .non (h.set n (.lst (xs ++ [v]))) else .bad
  | _, _ => .bad
def tPop (x : IV) (vs : List IV) (h : MH) : R IV := match lstAt h x, vs with
  | some (n, xs), [] => match xs[xs.length - 1]? with
    | some v => .ok v (h.set n (.lst xs.dropLast))
    | none => .bad
  | _, _ => .bad
/-- d.get(k, x) -/
def tGet (x : IV) (vs : List IV) (h : MH) : R IV := match asD h x, vs with
  | some (ks, ws), [k, z] => match toKy k with
    | some q => .ok ((klook ks ws q).getD z) h
    | none => .bad
  | some (ks, ws), [k] => match toKy k with
    | some q => .ok ((klook ks ws q).getD .non) h
    | none => .bad
  | _, _ => .bad

/-! ### expressions -/
def mVar (i : Nat) : ME := fun σ h => match σ[i]? with
  | some (.val v) => .ok v h
  | _ => .bad
/-- a slot, to be read at once -/
def mBv (i : Nat) : ME := fun σ h => match σ[i]? with
  | some (.val v) => .ok v h
  | some (.own (.lst xs)) => .ok (.lst xs) h
  | some (.own (.dic ks vs)) => .ok (.dic ks vs) h
  | _ => .bad
def mLit (v : IV) : ME := fun _ h => .ok v h
def m1 (f : IV → MH → R IV) (a : ME) : ME := fun σ h => (a σ h).bind f
def m2 (f : IV → IV → MH → R IV) (a b : ME) : ME := fun σ h => (a σ h).bind fun x h1 => (b σ h1).bind fun y h2 => f x y h2
def mAll : List ME → MA
  | [], _, h => .ok [] h
  | m :: ms, σ, h => (m σ h).bind fun x h1 => (mAll ms σ h1).bind fun xs h2 => .ok (x :: xs) h2
def mTup (ms : List ME) : ME := fun σ h => (mAll ms σ h).bind fun xs h1 => .ok (.tup xs) h1
def mLst (ms : List ME) : ME := fun σ h => (mAll ms σ h).bind fun xs h1 => .ok (.lst xs) h1
def alloc (o : MO) (h : MH) : R IV := .ok (.ref h.length) (h ++ [o])
/-- a list on the heap -/
def mHLst (ms : List ME) : ME := fun σ h => (mAll ms σ h).bind fun xs h1 => alloc (.lst xs) h1
def mPart : Option ME → Sg → MH → R (Option Int)
  | none, _, h => .ok none h
  | some m, σ, h => (m σ h).bind fun y h2 => match y with
    | .int i => .ok (some i) h2
    | _ => .bad
def mSlc (a : ME) (lo hi : Option ME) : ME := fun σ h => (a σ h).bind fun x h1 => (mPart lo σ h1).bind fun l h2 => (mPart hi σ h2).bind fun u h3 => vSlc x l u h3
/-- xs[::-1] -/
def vRev (x : IV) (h : MH) : R IV := match asL h x with
  | some xs => .ok (.lst xs.reverse) h
  | none => .bad
def mCall (rec : Rec) (f : Nat) (ms : List ME) : ME := fun σ h => (mAll ms σ h).bind fun xs h1 => rec f xs h1
/-- .. with defaults behind the written arguments -/
def mCallD (rec : Rec) (f : Nat) (ms : List ME) (dl : List IV) : ME := fun σ h => (mAll ms σ h).bind fun xs h1 => rec f (xs ++ dl) h1
def mB (f : List IV → MH → R IV) (ms : List ME) : ME := fun σ h => (mAll ms σ h).bind f
/-- o.m(..): chk, that o is of the method's type -/
def mM (chk : MH → IV → Bool) (f : IV → List IV → MH → R IV) (o : ME) (ms : List ME) : ME := fun σ h => (o σ h).bind fun x h1 => if chk h1 x = true then (mAll ms σ h1).bind fun vs h2 => f x vs h2 else .bad
def chkL (h : MH) (v : IV) : Bool := (asL h v).isSome
def chkD (h : MH) (v : IV) : Bool := (asD h v).isSome
def chkS (_ : MH) (v : IV) : Bool := match v with
  | .str _ => true
  | _ => false
/-- {k: v, ..} with written keys -/
def mDic (ks : List Ky) (ms : List ME) : ME := fun σ h => (mAll ms σ h).bind fun vs h1 => .ok (.dic (kmerge [] [] (ks.zip vs)).1 (kmerge [] [] (ks.zip vs)).2) h1
/-- .. on the heap -/
def mHDic (ks : List Ky) (ms : List ME) : ME := fun σ h => (mAll ms σ h).bind fun vs h1 => alloc (.dic (kmerge [] [] (ks.zip vs)).1 (kmerge [] [] (ks.zip vs)).2) h1
def asBl : IV → Option Bool
  | .bl b => some b
  | _ => none
def mAnd (a b : ME) : ME := fun σ h => (a σ h).bind fun x h1 => match x with
  | .bl true => b σ h1
  | .bl false => .ok (.bl false) h1
  | _ => .bad
def mOr (a b : ME) : ME := fun σ h => (a σ h).bind fun x h1 => match x with
  | .bl true => .ok (.bl true) h1
  | .bl false => b σ h1
  | _ => .bad
def mNot (a : ME) : ME := fun σ h => (a σ h).bind fun x h1 => match x with
  | .bl b => .ok (.bl (!b)) h1
  | _ => .bad
/-- a op b op' c -/
def mChain (f g : IV → IV → MH → R IV) (a b c : ME) : ME := fun σ h => (a σ h).bind fun x h1 => (b σ h1).bind fun y h2 => (f x y h2).bind fun z h3 => match z with
  | .bl true => (c σ h3).bind fun w h4 => g y w h4
  | .bl false => .ok (.bl false) h3
  | _ => .bad
/-! ### tests -/
def tTru (a : ME) : MT := fun σ h => (a σ h).bind fun x h1 => .of (tru h1 x) h1
def tNot (t : MT) : MT := fun σ h => (t σ h).bind fun b h1 => .ok (!b) h1
def tAnd (t u : MT) : MT := fun σ h => (t σ h).bind fun b h1 => if b then u σ h1 else .ok false h1
def tOr (t u : MT) : MT := fun σ h => (t σ h).bind fun b h1 => if b then .ok true h1 else u σ h1
def mIf (t : MT) (a b : ME) : ME := fun σ h => (t σ h).bind fun c h1 => if c then a σ h1 else b σ h1

/-! ### targets, statements -/
abbrev MG := IV → Sg → Option Sg
def gName (i : Nat) : MG := fun v σ => some (σ.set i (.val v))
def gAll : List MG → List IV → Sg → Option Sg
  | [], [], σ => some σ
  | g :: gs, v :: vs, σ => (g v σ).bind fun σ' => gAll gs vs σ'
  | _, _, _ => none
def gTup (gs : List MG) : MG := fun v σ => match v with
  | .tup vs => gAll gs vs σ
  | _ => none
inductive RS where
  | nx (σ : Sg) (h : MH) | rt (v : IV) (h : MH) | bk (σ : Sg) (h : MH) | ct (σ : Sg) (h : MH) | ex (e : Ex) (σ : Sg) (h : MH) | bad
abbrev MS := Sg → MH → RS
/-- an expression's answer, then a statement's rest -/
def R.go {α : Type} (r : R α) (σ : Sg) (f : α → MH → RS) : RS := match r with
  | .ok a h => f a h
  | .ex e h => .ex e σ h
  | .bad => .bad
@[simp] theorem R.go_ok {α : Type} (a : α) (h : MH) (σ : Sg) (f : α → MH → RS) : (R.ok a h).go σ f = f a h := rfl
@[simp] theorem R.go_ex {α : Type} (e : Ex) (h : MH) (σ : Sg) (f : α → MH → RS) : (R.ex e h : R α).go σ f = .ex e σ h := rfl
@[simp] theorem R.go_bad {α : Type} (σ : Sg) (f : α → MH → RS) : (R.bad : R α).go σ f = .bad := rfl
def sNext : MS := fun σ h => .nx σ h
def sSeq (a b : MS) : MS := fun σ h => match a σ h with
  | .nx σ1 h1 => b σ1 h1
  | r => r
def sSet (i : Nat) (e : ME) : MS := fun σ h => (e σ h).go σ fun v h1 => .nx (σ.set i (.val v)) h1
def sAsg (g : MG) (e : ME) : MS := fun σ h => (e σ h).go σ fun v h1 => match g v σ with
  | some σ1 => .nx σ1 h1
  | none => .bad
def sExpr (e : ME) : MS := fun σ h => (e σ h).go σ fun _ h1 => .nx σ h1
def sRet (e : ME) : MS := fun σ h => (e σ h).go σ fun v h1 => .rt v h1
def sRetN : MS := fun _ h => .rt .non h
def sIf (t : MT) (a b : MS) : MS := fun σ h => (t σ h).go σ fun c h1 => if c then a σ h1 else b σ h1
def sBrk : MS := fun σ h => .bk σ h
def sCont : MS := fun σ h => .ct σ h
def sNever : MS := fun _ _ => .bad
/-- o[i] = v on the heap -/
def vPut (o i v : IV) (h : MH) : Option MH := match o with
  | .ref n => match h[n]? with
    | some (.lst xs) => match i with
      | .int k => (ixI xs.length k).map fun j => h.set n (.lst (xs.set j v))
      | _ => none
    | some (.dic ks vs) => match toKy i with
      | some k => if ks.length < line then some (h.set n (.dic (kput ks vs k v).1 (kput ks vs k v).2)) else none
      | none => none
    | _ => none
  | _ => none
def sPut (o i e : ME) : MS := fun σ h => (e σ h).go σ fun v h1 => (o σ h1).go σ fun x h2 => (i σ h2).go σ fun y h3 => match vPut x y v h3 with
  | some h4 => .nx σ h4
  | none => .bad
/-! ### loops -/
def loopF (g : MG) (body : MS) : List IV → MS
  | [], σ, h => .nx σ h
  | x :: r, σ, h => match g x σ with
    | none => .bad
    | some σ1 => match body σ1 h with
      | .nx σ2 h2 => loopF g body r σ2 h2
      | .ct σ2 h2 => loopF g body r σ2 h2
      | .bk σ2 h2 => .nx σ2 h2
      | o => o
def sFor (src : MA) (g : MG) (body : MS) : MS := fun σ h => (src σ h).go σ fun xs h1 => loopF g body xs σ h1
/-- what a list, a tuple or a text gives -/
def iSeq (e : ME) : MA := fun σ h => (e σ h).bind fun v h1 => match v with
  | .lst xs => .ok xs h1
  | .tup xs => .ok xs h1
  | _ => .bad
def iStr (e : ME) : MA := fun σ h => (e σ h).bind fun v h1 => match v with
  | .str s => .ok (s.cps.toList.map fun c => .str ⟨#[c]⟩) h1
  | _ => .bad
def rng (lo : Int) (n : Nat) : List IV := (List.range n).map fun (k : Nat) => .int (lo + k)
def iRange1 (e : ME) : MA := fun σ h => (e σ h).bind fun v h1 => match v with
  | .int j => if -(2 ^ 62) ≤ j ∧ j ≤ 16777216 then .ok (rng 0 j.toNat) h1 else .bad
  | _ => .bad
def iRange2 (a b : ME) : MA := fun σ h => (a σ h).bind fun x h1 => (b σ h1).bind fun y h2 => match x, y with
  | .int i, .int j => if (-(2 ^ 62) ≤ i ∧ i < 2 ^ 62) ∧ (-(2 ^ 62) ≤ j ∧ j < 2 ^ 62) ∧ j - i ≤ 16777216 then .ok (rng i (j - i).toNat) h2 else .bad
  | _, _ => .bad
def enumI : Nat → List IV → List IV
  | _, [] => []
  | k, x :: xs => .tup [.int k, x] :: enumI (k + 1) xs
def zipI : List IV → List IV → List IV
  | x :: xs, y :: ys => .tup [x, y] :: zipI xs ys
  | _, _ => []
def loopW (t : MT) (body : MS) : Nat → MS
  | 0, _, _ => .bad
  | n + 1, σ, h => (t σ h).go σ fun c h1 => if c then (match body σ h1 with
      | .nx σ2 h2 => loopW t body n σ2 h2
      | .ct σ2 h2 => loopW t body n σ2 h2
      | .bk σ2 h2 => .nx σ2 h2
      | o => o) else .nx σ h1
def sWhile (fuel : Nat) (t : MT) (body : MS) : MS := fun σ h => loopW t body fuel σ h
/-! ### comprehensions -/
def wipeM (σ : Sg) : List Nat → Sg
  | [] => σ
  | v :: vs => (wipeM σ vs).set v .emp
def loopC (g : MG) (cond : MT) (elt : ME) (own : List Nat) : List IV → Sg → MH → R (List IV)
  | [], _, h => .ok [] h
  | x :: r, σ, h => match g x (wipeM σ own) with
    | none => .bad
    | some σ1 => match cond σ1 h with
      | .ok true h1 => match elt σ1 h1 with
        | .ok y h2 => (loopC g cond elt own r σ h2).bind fun ys h3 => .ok (y :: ys) h3
        | _ => .bad
      | .ok false h1 => loopC g cond elt own r σ h1
      | _ => .bad
def tYes : MT := fun _ h => .ok true h
/-- the items of a comprehension -/
def cItems (src : MA) (g : MG) (cond : MT) (elt : ME) (own : List Nat) : MA := fun σ h => (src σ h).bind fun xs h1 => loopC g cond elt own xs σ h1
def mComp (src : MA) (g : MG) (cond : MT) (elt : ME) (own : List Nat) : ME := fun σ h => (cItems src g cond elt own σ h).bind fun ys h1 => .ok (.lst ys) h1

/-! ### programs -/
structure Fn where
  ps : Nat
  ns : Nat
  body : Rec → MS
def start (n : Nat) (vs : List IV) : Sg := vs.map .val ++ List.replicate (n - vs.length) .emp
def RS.out : RS → R IV
  | .nx _ h => .ok .non h
  | .rt v h => .ok v h
  | .ex e _ h => .ex e h
  | _ => .bad
def runA (prog : List Fn) : Nat → Rec
  | 0, _, _, _ => .bad
  | n + 1, f, vs, h => match prog[f]? with
    | none => .bad
    | some d => if vs.length = d.ps then (d.body (runA prog n) (start d.ns vs) h).out else .bad
@[irreducible] def run (prog : List Fn) (n : Nat) : Rec := runA prog n
theorem run_eq : run = runA := by
  funext p n
  unfold run
  rfl
theorem run_zero {prog : List Fn} {f : Nat} {vs : List IV} {h : MH} : run prog 0 f vs h = .bad := by
  rw [run_eq]
  rfl
theorem run_succ {prog : List Fn} {n f : Nat} {vs : List IV} {h : MH} : run prog (n + 1) f vs h = (match prog[f]? with
    | none => .bad
    | some d => if vs.length = d.ps then (d.body (run prog n) (start d.ns vs) h).out else .bad) := by
  rw [run_eq]
  rfl
end Mi
set_option linter.all false
set_option Elab.async false
set_option maxRecDepth 100000
set_option maxHeartbeats 4000000
/-! MiB: how the mini-interpreter's values and heap stand in the layer's abstract heap. -/
namespace Mi
open PySem PySem.Spec PyProof.Rows L2

theorem line_eq : line = sizeLine := rfl
def SOk (s : Str) : Prop := s.length ≤ line ∧ PyData.strOk s = true

/-- the written part, the addresses of the own classes -/
structure Kx where
  K : PySem.W.Frag
  cl : Nat → Addr

mutual
/-- a value as it stands: S the stable part of the heap, ι the addresses of the heap's objects -/
def RV (κ : Kx) (S : Hp) (ι : List Addr) : IV → V → Prop
  | .non, x => x = .non
  | .bl b, x => x = .bl b
  | .int i, x => x = .int i
  | .str s, x => x = .str s ∧ SOk s
  | .tup xs, x => xs.length ≤ line ∧ ∃ a vs, x = .ref a ∧ SqT κ.K S a vs ∧ RVs κ S ι xs vs
  | .lst xs, x => xs.length ≤ line ∧ ∃ a vs, x = .ref a ∧ SqL κ.K S a vs ∧ RVs κ S ι xs vs
  | .dic ks vs, x => ks.length ≤ line ∧ ∃ a kvs, x = .ref a ∧ S a = some (.dK kvs) ∧ ks = kvs.map (·.1) ∧ RVs κ S ι vs (kvs.map (·.2))
  | .ref n, x => ∃ a, x = .ref a ∧ ι[n]? = some a
  | .err _ _ _, _ => False
def RVs (κ : Kx) (S : Hp) (ι : List Addr) : List IV → List V → Prop
  | [], ys => ys = []
  | x :: xs, ys => ∃ y r, ys = y :: r ∧ RV κ S ι x y ∧ RVs κ S ι xs r
end

section
variable {κ : Kx} {S S' : Hp} {ι ι' : List Addr}
theorem rd_mono (hs : ∀ a o, S a = some o → S' a = some o) {a : Addr} {u : HO} (h : Rd S a u) : Rd S' a u := by
  rcases h with h | ⟨o, h⟩
  · exact .inl (hs _ _ h)
  · exact .inr ⟨o, hs _ _ h⟩
theorem sqT_mono {K : PySem.W.Frag} (hs : ∀ a o, S a = some o → S' a = some o) {a : Addr} {vs : List V} (h : SqT K S a vs) : SqT K S' a vs := by
  rcases h with h | h
  · exact .inl (rd_mono hs h)
  · exact .inr h
theorem sqL_mono {K : PySem.W.Frag} (hs : ∀ a o, S a = some o → S' a = some o) {a : Addr} {vs : List V} (h : SqL K S a vs) : SqL K S' a vs := by
  rcases h with h | h
  · exact .inl (rd_mono hs h)
  · exact .inr h
mutual
theorem RV.mono (hs : ∀ a o, S a = some o → S' a = some o) (hi : ∀ (n : Nat) (a : Addr), ι[n]? = some a → ι'[n]? = some a) : ∀ (v : IV) (x : V), RV κ S ι v x → RV κ S' ι' v x
  | .non, x, h => by unfold RV at h ⊢; exact h
  | .bl b, x, h => by unfold RV at h ⊢; exact h
  | .int i, x, h => by unfold RV at h ⊢; exact h
  | .str s, x, h => by unfold RV at h ⊢; exact h
  | .tup xs, x, h => by
    unfold RV at h ⊢
    obtain ⟨hl, a, vs, e, q, r⟩ := h
    exact ⟨hl, a, vs, e, sqT_mono hs q, RVs.mono hs hi xs vs r⟩
  | .lst xs, x, h => by
    unfold RV at h ⊢
    obtain ⟨hl, a, vs, e, q, r⟩ := h
    exact ⟨hl, a, vs, e, sqL_mono hs q, RVs.mono hs hi xs vs r⟩
  | .dic ks vs, x, h => by
    unfold RV at h ⊢
    obtain ⟨hl, a, kvs, e, q, ek, r⟩ := h
    exact ⟨hl, a, kvs, e, hs _ _ q, ek, RVs.mono hs hi vs _ r⟩
  | .ref n, x, h => by
    unfold RV at h ⊢
    obtain ⟨a, e, q⟩ := h
    exact ⟨a, e, hi _ _ q⟩
  | .err _ _ _, x, h => by unfold RV at h; exact h.elim
theorem RVs.mono (hs : ∀ a o, S a = some o → S' a = some o) (hi : ∀ (n : Nat) (a : Addr), ι[n]? = some a → ι'[n]? = some a) : ∀ (v : List IV) (x : List V), RVs κ S ι v x → RVs κ S' ι' v x
  | [], x, h => by unfold RVs at h ⊢; exact h
  | v :: vs, x, h => by
    unfold RVs at h ⊢
    obtain ⟨y, r, e, h1, h2⟩ := h
    exact ⟨y, r, e, RV.mono hs hi v y h1, RVs.mono hs hi vs r h2⟩
end
theorem RVs.nil : RVs κ S ι [] [] := by unfold RVs; rfl
theorem RVs.nil_inv {ys : List V} (h : RVs κ S ι [] ys) : ys = [] := by unfold RVs at h; exact h
theorem RVs.cons {v : IV} {vs : List IV} {x : V} {xs : List V} (h : RV κ S ι v x) (r : RVs κ S ι vs xs) : RVs κ S ι (v :: vs) (x :: xs) := by
  unfold RVs; exact ⟨x, xs, rfl, h, r⟩
theorem RVs.cons_inv {v : IV} {vs : List IV} {ys : List V} (h : RVs κ S ι (v :: vs) ys) : ∃ x xs, ys = x :: xs ∧ RV κ S ι v x ∧ RVs κ S ι vs xs := by
  unfold RVs at h; exact h
theorem RVs.length : ∀ {vs : List IV} {xs : List V}, RVs κ S ι vs xs → vs.length = xs.length
  | [], _, h => by rw [h.nil_inv]; rfl
  | v :: vs, _, h => by
    obtain ⟨x, xs, rfl, _, r⟩ := h.cons_inv
    rw [List.length_cons, List.length_cons, RVs.length r]
theorem RVs.get : ∀ {vs : List IV} {xs : List V} {i : Nat} {v : IV}, RVs κ S ι vs xs → vs[i]? = some v → ∃ x, xs[i]? = some x ∧ RV κ S ι v x
  | [], _, _, _, _, e => by simp at e
  | w :: vs, _, i, v, h, e => by
    obtain ⟨x, xs, rfl, h1, r⟩ := h.cons_inv
    cases i with
    | zero => simp at e; subst e; exact ⟨x, by simp, h1⟩
    | succ i =>
      obtain ⟨y, e1, h2⟩ := RVs.get (i := i) r (by simpa using e)
      exact ⟨y, by simpa using e1, h2⟩
theorem RVs.getV : ∀ {vs : List IV} {xs : List V} {i : Nat} {x : V}, RVs κ S ι vs xs → xs[i]? = some x → ∃ v, vs[i]? = some v ∧ RV κ S ι v x
  | [], xs, i, x, h, e => by rw [h.nil_inv] at e; simp at e
  | w :: vs, _, i, x, h, e => by
    obtain ⟨y, xs, rfl, h1, r⟩ := h.cons_inv
    cases i with
    | zero => simp at e; subst e; exact ⟨w, by simp, h1⟩
    | succ i =>
      obtain ⟨v, e1, h2⟩ := RVs.getV (i := i) r (by simpa using e)
      exact ⟨v, by simpa using e1, h2⟩
theorem RVs.append : ∀ {vs ws : List IV} {xs ys : List V}, RVs κ S ι vs xs → RVs κ S ι ws ys → RVs κ S ι (vs ++ ws) (xs ++ ys)
  | [], ws, xs, ys, h, k => by rw [h.nil_inv]; exact k
  | v :: vs, ws, _, ys, h, k => by
    obtain ⟨x, xs, rfl, h1, r⟩ := h.cons_inv
    exact RVs.cons h1 (RVs.append r k)
theorem RVs.take : ∀ {vs : List IV} {xs : List V} (n : Nat), RVs κ S ι vs xs → RVs κ S ι (vs.take n) (xs.take n)
  | _, _, 0, _ => by simpa using RVs.nil
  | [], _, n + 1, h => by rw [h.nil_inv]; simpa using RVs.nil
  | v :: vs, _, n + 1, h => by
    obtain ⟨x, xs, rfl, h1, r⟩ := h.cons_inv
    exact RVs.cons h1 (RVs.take n r)
theorem RVs.drop : ∀ {vs : List IV} {xs : List V} (n : Nat), RVs κ S ι vs xs → RVs κ S ι (vs.drop n) (xs.drop n)
  | _, _, 0, h => by simpa using h
  | [], _, n + 1, h => by rw [h.nil_inv]; simpa using RVs.nil
  | v :: vs, _, n + 1, h => by
    obtain ⟨x, xs, rfl, _, r⟩ := h.cons_inv
    exact RVs.drop n r
theorem RVs.set : ∀ {vs : List IV} {xs : List V} {v : IV} {x : V} (i : Nat), RVs κ S ι vs xs → RV κ S ι v x → RVs κ S ι (vs.set i v) (xs.set i x)
  | [], _, _, _, _, h, _ => by rw [h.nil_inv]; simpa using RVs.nil
  | w :: vs, _, v, x, i, h, k => by
    obtain ⟨y, xs, rfl, h1, r⟩ := h.cons_inv
    cases i with
    | zero => exact RVs.cons k r
    | succ i => exact RVs.cons h1 (RVs.set i r k)
theorem RVs.eraseIdx : ∀ {vs : List IV} {xs : List V} (i : Nat), RVs κ S ι vs xs → RVs κ S ι (vs.eraseIdx i) (xs.eraseIdx i)
  | [], _, _, h => by rw [h.nil_inv]; simpa using RVs.nil
  | w :: vs, _, i, h => by
    obtain ⟨y, xs, rfl, h1, r⟩ := h.cons_inv
    cases i with
    | zero => exact r
    | succ i => exact RVs.cons h1 (RVs.eraseIdx i r)
theorem RVs.dropLast : ∀ {vs : List IV} {xs : List V}, RVs κ S ι vs xs → RVs κ S ι vs.dropLast xs.dropLast := fun {vs xs} h => by
  rw [List.dropLast_eq_take, List.dropLast_eq_take, h.length]
  exact h.take _
end

/-- an object as it stands at an address -/
def RO (κ : Kx) (S : Hp) (ι : List Addr) (H : Hp) : MO → Addr → Prop
  | .lst xs, a => xs.length ≤ line ∧ ∃ vs, H a = some (.lst vs) ∧ RVs κ S ι xs vs
  | .dic ks vs, a => ks.length ≤ line ∧ ∃ kvs, H a = some (.dK kvs) ∧ ks = kvs.map (·.1) ∧ RVs κ S ι vs (kvs.map (·.2))
  | .ins c ns vs, a => ∃ dx fs, H a = some (.ins (κ.cl c) dx fs) ∧ ns = fs.map (·.1) ∧ RVs κ S ι vs (fs.map (·.2))
structure Stt (κ : Kx) (S : Hp) (ι : List Addr) (h : MH) (H : Hp) : Prop where
  sub : ∀ a o, S a = some o → H a = some o
  len : ι.length = h.length
  nd : ι.Nodup
  out : ∀ a ∈ ι, S a = none
  obj : ∀ (n : Nat) (o : MO), h[n]? = some o → ∃ a, ι[n]? = some a ∧ RO κ S ι H o a
/-- behind a sub-evaluation: what is stable stays, the heap's objects stay themselves, the rest is as it was -/
structure Ext (S : Hp) (ι : List Addr) (H S' : Hp) (ι' : List Addr) (H' : Hp) : Prop where
  ss : ∀ a o, S a = some o → S' a = some o
  ii : ∀ (n : Nat) (a : Addr), ι[n]? = some a → ι'[n]? = some a
  keep : ∀ a o, H a = some o → a ∉ ι → H' a = some o ∧ a ∉ ι' ∧ (S a = none → S' a = none)
section
variable {κ : Kx} {S S' S1 S2 : Hp} {ι ι' ι1 ι2 : List Addr} {H H' H1 H2 : Hp} {h : MH}
theorem Ext.refl : Ext S ι H S ι H := ⟨fun _ _ e => e, fun _ _ e => e, fun _ _ e n => ⟨e, n, fun z => z⟩⟩
theorem Ext.trans (a : Ext S ι H S1 ι1 H1) (b : Ext S1 ι1 H1 S2 ι2 H2) : Ext S ι H S2 ι2 H2 :=
  ⟨fun x o e => b.ss x o (a.ss x o e), fun n x e => b.ii n x (a.ii n x e), fun x o e n => by
    obtain ⟨e1, n1, s1⟩ := a.keep x o e n
    obtain ⟨e2, n2, s2⟩ := b.keep x o e1 n1
    exact ⟨e2, n2, fun z => s2 (s1 z)⟩⟩
theorem RV.ext {v : IV} {x : V} (e : Ext S ι H S' ι' H') (r : RV κ S ι v x) : RV κ S' ι' v x := RV.mono e.ss e.ii v x r
theorem RVs.ext {v : List IV} {x : List V} (e : Ext S ι H S' ι' H') (r : RVs κ S ι v x) : RVs κ S' ι' v x := RVs.mono e.ss e.ii v x r
theorem RO.mono {o : MO} {a : Addr} (hs : ∀ a o, S a = some o → S' a = some o) (hi : ∀ (n : Nat) (a : Addr), ι[n]? = some a → ι'[n]? = some a) (r : RO κ S ι H o a) (e : H' a = H a) : RO κ S' ι' H' o a := by
  cases o with
  | lst xs => obtain ⟨hl, vs, e1, q⟩ := r; exact ⟨hl, vs, e.trans e1, RVs.mono hs hi _ _ q⟩
  | dic ks vs => obtain ⟨hl, kvs, e1, ek, q⟩ := r; exact ⟨hl, kvs, e.trans e1, ek, RVs.mono hs hi _ _ q⟩
  | ins c ns vs => obtain ⟨dx, fs, e1, ek, q⟩ := r; exact ⟨dx, fs, e.trans e1, ek, RVs.mono hs hi _ _ q⟩
theorem RO.there {o : MO} {a : Addr} (r : RO κ S ι H o a) : ∃ u, H a = some u := by
  cases o with
  | lst xs => obtain ⟨_, vs, e1, _⟩ := r; exact ⟨_, e1⟩
  | dic ks vs => obtain ⟨_, kvs, e1, _⟩ := r; exact ⟨_, e1⟩
  | ins c ns vs => obtain ⟨dx, fs, e1, _⟩ := r; exact ⟨_, e1⟩
theorem Stt.there (st : Stt κ S ι h H) {a : Addr} (ha : a ∈ ι) : ∃ u, H a = some u := by
  obtain ⟨n, hn⟩ := List.getElem?_of_mem ha
  have hl : n < h.length := by rw [← st.len]; exact (List.getElem?_eq_some_iff.mp hn).1
  obtain ⟨b, hb, r⟩ := st.obj n h[n] (by simp [hl])
  rw [hn] at hb; cases hb
  exact r.there
theorem Stt.free (st : Stt κ S ι h H) {p : Addr} (hp : H p = none) : p ∉ ι ∧ S p = none := by
  refine ⟨fun z => ?_, ?_⟩
  · obtain ⟨u, e⟩ := st.there z; rw [hp] at e; cases e
  · cases q : S p with
    | none => rfl
    | some o => have := st.sub p o q; rw [hp] at this; cases this
/-- the heap grows by a thing that is neither -/
theorem Stt.newR (st : Stt κ S ι h H) {p : Addr} {u : HO} (hp : H p = none) : Stt κ S ι h (upd H p u) ∧ Ext S ι H S ι (upd H p u) := by
  have ne : ∀ a o, H a = some o → a ≠ p := fun a o e z => by rw [z, hp] at e; cases e
  refine ⟨⟨fun a o e => ?_, st.len, st.nd, st.out, fun n o e => ?_⟩, ⟨fun _ _ e => e, fun _ _ e => e, fun a o e n => ?_⟩⟩
  · rw [upd_ne (ne a o (st.sub a o e))]; exact st.sub a o e
  · obtain ⟨a, ea, r⟩ := st.obj n o e
    obtain ⟨w, hw⟩ := r.there
    exact ⟨a, ea, r.mono (fun _ _ e => e) (fun _ _ e => e) (by rw [upd_ne (ne a w hw)])⟩
  · exact ⟨by rw [upd_ne (ne a o e)]; exact e, n, fun z => z⟩
/-- the heap grows by a stable thing -/
theorem Stt.newS (st : Stt κ S ι h H) {p : Addr} {u : HO} (hp : H p = none) : Stt κ (upd S p u) ι h (upd H p u) ∧ Ext S ι H (upd S p u) ι (upd H p u) := by
  have ne : ∀ a o, H a = some o → a ≠ p := fun a o e z => by rw [z, hp] at e; cases e
  obtain ⟨hi, hs⟩ := st.free hp
  have ss : ∀ a o, S a = some o → upd S p u a = some o := fun a o e => by rw [upd_ne (ne a o (st.sub a o e))]; exact e
  refine ⟨⟨fun a o e => ?_, st.len, st.nd, fun a ha => ?_, fun n o e => ?_⟩, ⟨ss, fun _ _ e => e, fun a o e n => ?_⟩⟩
  · by_cases z : a = p
    · subst z; rw [upd_same] at e ⊢; exact e
    · rw [upd_ne z] at e ⊢; exact st.sub a o e
  · rw [upd_ne (by rintro rfl; exact hi ha)]; exact st.out a ha
  · obtain ⟨a, ea, r⟩ := st.obj n o e
    obtain ⟨w, hw⟩ := r.there
    exact ⟨a, ea, r.mono ss (fun _ _ e => e) (by rw [upd_ne (ne a w hw)])⟩
  · exact ⟨by rw [upd_ne (ne a o e)]; exact e, n, fun z => by rw [upd_ne (ne a o e)]; exact z⟩
theorem app_get {α : Type} {l m : List α} {n : Nat} {a : α} (h : l[n]? = some a) : (l ++ m)[n]? = some a := by
  rw [List.getElem?_append_left (List.getElem?_eq_some_iff.mp h).1]; exact h
/-- the heap grows by one of its objects -/
theorem Stt.newI (st : Stt κ S ι h H) {p : Addr} {u : HO} {o : MO} (hp : H p = none) (r : RO κ S (ι ++ [p]) (upd H p u) o p) : Stt κ S (ι ++ [p]) (h ++ [o]) (upd H p u) ∧ Ext S ι H S (ι ++ [p]) (upd H p u) := by
  have ne : ∀ a o, H a = some o → a ≠ p := fun a o e z => by rw [z, hp] at e; cases e
  obtain ⟨hi, hs⟩ := st.free hp
  have ii : ∀ (n : Nat) (a : Addr), ι[n]? = some a → (ι ++ [p])[n]? = some a := fun n a e => app_get e
  refine ⟨⟨fun a o e => ?_, ?_, ?_, fun a ha => ?_, fun n o' e => ?_⟩, ⟨fun _ _ e => e, ii, fun a o e n => ?_⟩⟩
  · rw [upd_ne (ne a o (st.sub a o e))]; exact st.sub a o e
  · rw [List.length_append, List.length_append, st.len]; rfl
  · rw [List.nodup_append]
    refine ⟨st.nd, by simp, fun a ha b hb z => ?_⟩
    have : b = p := by simpa using hb
    subst this; subst z; exact hi ha
  · rcases List.mem_append.mp ha with z | z
    · exact st.out a z
    · have : a = p := by simpa using z
      subst this; exact hs
  · by_cases hn : n < h.length
    · rw [List.getElem?_append_left hn] at e
      obtain ⟨a, ea, r'⟩ := st.obj n o' e
      obtain ⟨w, hw⟩ := r'.there
      exact ⟨a, ii n a ea, r'.mono (fun _ _ e => e) ii (by rw [upd_ne (ne a w hw)])⟩
    · have hn' : n = h.length := by
        have := (List.getElem?_eq_some_iff.mp e).1
        rw [List.length_append] at this
        have q : ([o] : List MO).length = 1 := rfl
        omega
      subst hn'
      have e' : o' = o := by
        rw [List.getElem?_append_right (Nat.le_refl _)] at e
        simpa using e.symm
      subst e'
      refine ⟨p, ?_, r⟩
      rw [← st.len, List.getElem?_append_right (Nat.le_refl _)]
      simp
  · refine ⟨by rw [upd_ne (ne a o e)]; exact e, fun z => ?_, fun z => z⟩
    rcases List.mem_append.mp z with z | z
    · exact n z
    · exact ne a o e (by simpa using z)
/-- an object of the heap is written -/
theorem Stt.write (st : Stt κ S ι h H) {n : Nat} {p : Addr} {u : HO} {o : MO} (hn : ι[n]? = some p) (r : RO κ S ι (upd H p u) o p) : Stt κ S ι (h.set n o) (upd H p u) ∧ Ext S ι H S ι (upd H p u) := by
  have hp : p ∈ ι := List.mem_of_getElem? hn
  have hs : S p = none := st.out p hp
  refine ⟨⟨fun a o e => ?_, by rw [List.length_set]; exact st.len, st.nd, st.out, fun m o' e => ?_⟩, ⟨fun _ _ e => e, fun _ _ e => e, fun a o e n => ?_⟩⟩
  · rw [upd_ne fun z => by rw [z, hs] at e; cases e]; exact st.sub a o e
  · by_cases hm : m = n
    · subst hm
      have hl : m < h.length := by rw [← st.len]; exact (List.getElem?_eq_some_iff.mp hn).1
      rw [List.getElem?_set_self hl] at e
      cases e
      exact ⟨p, hn, r⟩
    · rw [List.getElem?_set_ne (Ne.symm hm)] at e
      obtain ⟨a, ea, r'⟩ := st.obj m o' e
      refine ⟨a, ea, r'.mono (fun _ _ e => e) (fun _ _ e => e) (by rw [upd_ne]; rintro rfl; exact hm (by
        obtain ⟨h1, e1⟩ := List.getElem?_eq_some_iff.mp ea
        obtain ⟨h2, e2⟩ := List.getElem?_eq_some_iff.mp hn
        exact (List.getElem_inj st.nd).mp (e1.trans e2.symm)))⟩
  · have : a ≠ p := fun z => n (z ▸ hp)
    exact ⟨by rw [upd_ne this]; exact e, n, fun z => z⟩
/-- a thing of the rest becomes stable -/
theorem Stt.freeze {S0 : Hp} {ι0 : List Addr} {H0 : Hp} (st : Stt κ S ι h H) {p : Addr} {u : HO} (e : Ext S0 ι0 H0 S ι H) (hp : H p = some u) (hi : p ∉ ι) (hs : S p = none) (h0 : H0 p = none) :
    Stt κ (upd S p u) ι h H ∧ Ext S0 ι0 H0 (upd S p u) ι H := by
  have ss : ∀ a o, S a = some o → upd S p u a = some o := fun a o e => by rw [upd_ne fun z => by rw [z, hs] at e; cases e]; exact e
  refine ⟨⟨fun a o e => ?_, st.len, st.nd, fun a ha => ?_, fun n o e => ?_⟩, ⟨fun a o q => ss a o (e.ss a o q), e.ii, fun a o q n => ?_⟩⟩
  · by_cases z : a = p
    · subst z; rw [upd_same] at e; rw [hp]; exact e
    · rw [upd_ne z] at e; exact st.sub a o e
  · rw [upd_ne (by rintro rfl; exact hi ha)]; exact st.out a ha
  · obtain ⟨a, ea, r⟩ := st.obj n o e
    exact ⟨a, ea, r.mono ss (fun _ _ e => e) rfl⟩
  · obtain ⟨q1, q2, q3⟩ := e.keep a o q n
    have : a ≠ p := fun z => by rw [z, h0] at q; cases q
    exact ⟨q1, q2, fun z => by rw [upd_ne this]; exact q3 z⟩
end

section
variable {κ : Kx} {S S0 : Hp} {ι ι0 : List Addr} {H H0 : Hp} {h : MH} {p : Addr}
/-- a thing of the rest is written -/
theorem Stt.writeR (st : Stt κ S ι h H) {u : HO} (hi : p ∉ ι) (hs : S p = none) : Stt κ S ι h (upd H p u) := by
  refine ⟨fun a o e => ?_, st.len, st.nd, st.out, fun n o e => ?_⟩
  · rw [upd_ne (by rintro rfl; rw [hs] at e; cases e)]; exact st.sub a o e
  · obtain ⟨a, ea, r⟩ := st.obj n o e
    exact ⟨a, ea, r.mono (fun _ _ e => e) (fun _ _ e => e) (by rw [upd_ne (by rintro rfl; exact hi (List.mem_of_getElem? ea))])⟩
theorem Ext.writeR (e : Ext S0 ι0 H0 S ι H) {u : HO} (h0 : H0 p = none) : Ext S0 ι0 H0 S ι (upd H p u) :=
  ⟨e.ss, e.ii, fun a o q n => by
    obtain ⟨q1, q2, q3⟩ := e.keep a o q n
    exact ⟨by rw [upd_ne (by rintro rfl; rw [h0] at q; cases q)]; exact q1, q2, q3⟩⟩
/-- a thing of the rest is written and becomes stable -/
theorem Stt.lay (st : Stt κ S ι h H) (e : Ext S0 ι0 H0 S ι H) {u : HO} (hi : p ∉ ι) (hs : S p = none) (h0 : H0 p = none) : Stt κ (upd S p u) ι h (upd H p u) ∧ Ext S0 ι0 H0 (upd S p u) ι (upd H p u) :=
  (st.writeR hi hs).freeze (e.writeR h0) upd_same hi hs h0
end

/-- a thing of the rest is written and becomes one of the heap's objects -/
theorem Stt.adopt {κ : Kx} {S S0 : Hp} {ι ι0 : List Addr} {H H0 : Hp} {h : MH} {p : Addr} (st : Stt κ S ι h H) (e : Ext S0 ι0 H0 S ι H) {u : HO} {o : MO} (hi : p ∉ ι) (hs : S p = none) (h0 : H0 p = none) (r : RO κ S (ι ++ [p]) (upd H p u) o p) :
    Stt κ S (ι ++ [p]) (h ++ [o]) (upd H p u) ∧ Ext S0 ι0 H0 S (ι ++ [p]) (upd H p u) := by
  have ii : ∀ (n : Nat) (a : Addr), ι[n]? = some a → (ι ++ [p])[n]? = some a := fun n a e => app_get e
  refine ⟨⟨fun a o e => ?_, ?_, ?_, fun a ha => ?_, fun n o' e => ?_⟩, ⟨e.ss, fun n a q => ii n a (e.ii n a q), fun a o q n => ?_⟩⟩
  · rw [upd_ne (by rintro rfl; rw [hs] at e; cases e)]; exact st.sub a o e
  · rw [List.length_append, List.length_append, st.len]; rfl
  · rw [List.nodup_append]
    refine ⟨st.nd, by simp, fun a ha b hb z => ?_⟩
    have : b = p := by simpa using hb
    subst this; subst z; exact hi ha
  · rcases List.mem_append.mp ha with z | z
    · exact st.out a z
    · have : a = p := by simpa using z
      subst this; exact hs
  · by_cases hn : n < h.length
    · rw [List.getElem?_append_left hn] at e
      obtain ⟨a, ea, r'⟩ := st.obj n o' e
      exact ⟨a, ii n a ea, r'.mono (fun _ _ e => e) ii (by rw [upd_ne (by rintro rfl; exact hi (List.mem_of_getElem? ea))])⟩
    · have hn' : n = h.length := by
        have := (List.getElem?_eq_some_iff.mp e).1
        rw [List.length_append] at this
        have q : ([o] : List MO).length = 1 := rfl
        omega
      subst hn'
      have e' : o' = o := by
        rw [List.getElem?_append_right (Nat.le_refl _)] at e
        simpa using e.symm
      subst e'
      refine ⟨p, ?_, r⟩
      rw [← st.len, List.getElem?_append_right (Nat.le_refl _)]
      simp
  · obtain ⟨q1, q2, q3⟩ := e.keep a o q n
    have ne : a ≠ p := fun z => by rw [z, h0] at q; cases q
    refine ⟨by rw [upd_ne ne]; exact q1, fun z => ?_, q3⟩
    rcases List.mem_append.mp z with z | z
    · exact q2 z
    · exact ne (by simpa using z)

/-! ### slots -/
/-- an object that a slot owns -/
def ROwn (κ : Kx) (S : Hp) (ι : List Addr) (H : Hp) (o : MO) (a : Addr) : Prop := a ∉ ι ∧ S a = none ∧ RO κ S ι H o a
def RSlot (κ : Kx) (S : Hp) (ι : List Addr) (H : Hp) : SV → Option (Option V) → Prop
  | .emp, _ => True
  | .val v, x => ∃ y, x = some (some y) ∧ RV κ S ι v y
  | .own o, x => ∃ a, x = some (some (.ref a)) ∧ ROwn κ S ι H o a
structure RSig (κ : Kx) (S : Hp) (ι : List Addr) (H : Hp) (σi : Sg) (σ : L2.St) : Prop where
  len : σi.length = σ.length
  at_ : ∀ (i : Nat) (s : SV), σi[i]? = some s → RSlot κ S ι H s σ[i]?
  apart : ∀ (i j : Nat) (o o' : MO) (a : Addr), σi[i]? = some (.own o) → σi[j]? = some (.own o') → σ[i]? = some (some (.ref a)) → σ[j]? = some (some (.ref a)) → i = j
/-- what may be read at once -/
def ofMO : MO → IV
  | .lst xs => .lst xs
  | .dic ks vs => .dic ks vs
  | .ins _ _ _ => .non
def RB (κ : Kx) (S : Hp) (ι : List Addr) (H : Hp) (v : IV) (x : V) : Prop :=
  RV κ S ι v x ∨ ∃ o a, x = .ref a ∧ ROwn κ S ι H o a ∧ (∀ c ns vs, o ≠ .ins c ns vs) ∧ v = ofMO o
section
variable {κ : Kx} {S S' S1 S2 : Hp} {ι ι' ι1 ι2 : List Addr} {H H' H1 H2 : Hp} {h : MH} {σi : Sg} {σ : L2.St}
theorem ROwn.ext {o : MO} {a : Addr} (e : Ext S ι H S' ι' H') (r : ROwn κ S ι H o a) : ROwn κ S' ι' H' o a := by
  obtain ⟨n, s, r⟩ := r
  obtain ⟨u, hu⟩ := r.there
  obtain ⟨e1, n1, s1⟩ := e.keep a u hu n
  exact ⟨n1, s1 s, r.mono e.ss e.ii (e1.trans hu.symm)⟩
theorem RSlot.ext {s : SV} {x : Option (Option V)} (e : Ext S ι H S' ι' H') (r : RSlot κ S ι H s x) : RSlot κ S' ι' H' s x := by
  cases s with
  | emp => trivial
  | val v => obtain ⟨y, ey, q⟩ := r; exact ⟨y, ey, q.ext e⟩
  | own o => obtain ⟨a, ea, q⟩ := r; exact ⟨a, ea, q.ext e⟩
theorem RSig.ext (e : Ext S ι H S' ι' H') (r : RSig κ S ι H σi σ) : RSig κ S' ι' H' σi σ := ⟨r.len, fun i s h => (r.at_ i s h).ext e, r.apart⟩
theorem RB.ext {v : IV} {x : V} (e : Ext S ι H S' ι' H') (r : RB κ S ι H v x) : RB κ S' ι' H' v x := by
  rcases r with r | ⟨o, a, ex, ro, no, ev⟩
  · exact .inl (r.ext e)
  · exact .inr ⟨o, a, ex, ro.ext e, no, ev⟩
theorem RSig.set {i : Nat} {v : IV} {x : V} (r : RSig κ S ι H σi σ) (rv : RV κ S ι v x) : RSig κ S ι H (σi.set i (.val v)) (σ.set i (some x)) := by
  refine ⟨by rw [List.length_set, List.length_set]; exact r.len, fun j s h => ?_, fun j k o o' a h1 h2 h3 h4 => ?_⟩
  · by_cases hj : i = j
    · subst hj
      have hl : i < σi.length := by have := (List.getElem?_eq_some_iff.mp h).1; rwa [List.length_set] at this
      rw [List.getElem?_set_self hl] at h
      cases h
      exact ⟨x, List.getElem?_set_self (by rw [← r.len]; exact hl), rv⟩
    · rw [List.getElem?_set_ne hj] at h ⊢
      exact r.at_ j s h
  · have nj : ∀ m o, (σi.set i (.val v))[m]? = some (.own o) → i ≠ m ∧ σi[m]? = some (.own o) := fun m o h => by
      by_cases hm : i = m
      · subst hm
        have hl : i < σi.length := by have := (List.getElem?_eq_some_iff.mp h).1; rwa [List.length_set] at this
        rw [List.getElem?_set_self hl] at h
        cases h
      · rw [List.getElem?_set_ne hm] at h
        exact ⟨hm, h⟩
    obtain ⟨n1, q1⟩ := nj j o h1
    obtain ⟨n2, q2⟩ := nj k o' h2
    rw [List.getElem?_set_ne n1] at h3
    rw [List.getElem?_set_ne n2] at h4
    exact r.apart j k o o' a q1 q2 h3 h4
theorem RSig.emp {i : Nat} (r : RSig κ S ι H σi σ) : RSig κ S ι H (σi.set i .emp) (σ.set i none) := by
  refine ⟨by rw [List.length_set, List.length_set]; exact r.len, fun j s h => ?_, fun j k o o' a h1 h2 h3 h4 => ?_⟩
  · by_cases hj : i = j
    · subst hj
      have hl : i < σi.length := by have := (List.getElem?_eq_some_iff.mp h).1; rwa [List.length_set] at this
      rw [List.getElem?_set_self hl] at h
      cases h
      trivial
    · rw [List.getElem?_set_ne hj] at h ⊢
      exact r.at_ j s h
  · have nj : ∀ m o, (σi.set i .emp)[m]? = some (.own o) → i ≠ m ∧ σi[m]? = some (.own o) := fun m o h => by
      by_cases hm : i = m
      · subst hm
        have hl : i < σi.length := by have := (List.getElem?_eq_some_iff.mp h).1; rwa [List.length_set] at this
        rw [List.getElem?_set_self hl] at h
        cases h
      · rw [List.getElem?_set_ne hm] at h
        exact ⟨hm, h⟩
    obtain ⟨n1, q1⟩ := nj j o h1
    obtain ⟨n2, q2⟩ := nj k o' h2
    rw [List.getElem?_set_ne n1] at h3
    rw [List.getElem?_set_ne n2] at h4
    exact r.apart j k o o' a q1 q2 h3 h4
end
end Mi
set_option linter.all false
set_option Elab.async false
set_option maxRecDepth 100000
set_option maxHeartbeats 4000000
/-! MiC: a combinator as a reading: expressions. -/
namespace Mi
open PySem PySem.Spec PyProof.Rows L2

def RX (κ : Kx) (S : Hp) (ι : List Addr) (e : Ex) (cls : Value) (d : Option Addr) : Prop := cls = .ref (κ.cl e.c) ∧ match e.fs with
  | none => d = none
  | some (ns, vs) => ∃ dd fs, d = some dd ∧ S dd = some (.xd fs) ∧ ns = fs.map (·.1) ∧ RVs κ S ι vs (fs.map (·.2))
abbrev Rl (α β : Type) := Hp → List Addr → Hp → α → β → Prop
/-- an outcome: wherever its translation may stand, Q -/
def PostR {α β : Type} (κ : Kx) (W : WX) (rel : Rl α β) (Q : β → Hp → Prop) (S : Hp) (ι : List Addr) (H : Hp) (σ : L2.St) : R α → Prop
  | .ok v h' => ∀ S' ι' H' x, Ext S ι H S' ι' H' → Stt κ S' ι' h' H' → rel S' ι' H' v x → Q x H'
  | .ex e h' => ∀ S' ι' H' cls d, Ext S ι H S' ι' H' → Stt κ S' ι' h' H' → RX κ S' ι' e cls d → W cls d σ H'
  | .bad => False
def can {α β : Type} (κ : Kx) (W : WX) (rel : Rl α β) (m : Sg → MH → R α) : L2.St → Hp → (β → Hp → Prop) → Prop := fun σ H Q =>
  ∃ S ι h σi, Stt κ S ι h H ∧ RSig κ S ι H σi σ ∧ PostR κ W rel Q S ι H σ (m σi h)
abbrev rv (κ : Kx) : Rl IV V := fun S ι _ v x => RV κ S ι v x
abbrev rb (κ : Kx) : Rl IV V := fun S ι H v x => RB κ S ι H v x
abbrev rvs (κ : Kx) : Rl (List IV) (List V) := fun S ι _ v x => RVs κ S ι v x
abbrev rt : Rl Bool Bool := fun _ _ _ b c => b = c
abbrev ro : Rl (Option Int) (Option Int) := fun _ _ _ b c => b = c
section
variable {κ : Kx} {W : WX} {α β γ δ : Type} {rel : Rl α β} {rel' : Rl γ δ} {Q : β → Hp → Prop} {Q' : δ → Hp → Prop} {S S1 : Hp} {ι ι1 : List Addr} {H H1 : Hp} {h h1 : MH} {σi : Sg} {σ : L2.St}
theorem PostR.ext {r : R α} (e : Ext S ι H S1 ι1 H1) (p : PostR κ W rel Q S ι H σ r) : PostR κ W rel Q S1 ι1 H1 σ r := by
  cases r with
  | ok v h' => exact fun S' ι' H' x e' st rl => p S' ι' H' x (e.trans e') st rl
  | ex x h' => exact fun S' ι' H' cls d e' st rx => p S' ι' H' cls d (e.trans e') st rx
  | bad => exact p
theorem PostR.bind {r : R α} {k : α → MH → R γ} (hp : PostR κ W rel' Q' S ι H σ (r.bind k))
    (hk : ∀ v h' S' ι' H' x, r = .ok v h' → Ext S ι H S' ι' H' → Stt κ S' ι' h' H' → rel S' ι' H' v x → PostR κ W rel' Q' S' ι' H' σ (k v h') → Q x H') : PostR κ W rel Q S ι H σ r := by
  cases r with
  | ok v h' => exact fun S' ι' H' x ex st' rl => hk v h' S' ι' H' x rfl ex st' rl (PostR.ext ex hp)
  | ex x h' => exact hp
  | bad => exact hp
theorem can_intro {m : Sg → MH → R α} {k : α → MH → R γ} (st : Stt κ S ι h H) (rs : RSig κ S ι H σi σ) (hp : PostR κ W rel' Q' S ι H σ ((m σi h).bind k))
    (hk : ∀ v h' S' ι' H' x, m σi h = .ok v h' → Ext S ι H S' ι' H' → Stt κ S' ι' h' H' → RSig κ S' ι' H' σi σ → rel S' ι' H' v x → PostR κ W rel' Q' S' ι' H' σ (k v h') → Q x H') : can κ W rel m σ H Q :=
  ⟨S, ι, h, σi, st, rs, PostR.bind hp fun v h' S' ι' H' x e ex st' rl hp' => hk v h' S' ι' H' x e ex st' (rs.ext ex) rl hp'⟩
/-- the last one: its own answer is the whole's -/
theorem can_last {m : Sg → MH → R α} (st : Stt κ S ι h H) (rs : RSig κ S ι H σi σ) (hp : PostR κ W rel Q S ι H σ (m σi h)) : can κ W rel m σ H Q := ⟨S, ι, h, σi, st, rs, hp⟩
theorem PostR.mono {rel2 : Rl α β} {r : R α} (p : PostR κ W rel Q S ι H σ r) (hr : ∀ S' ι' H' v x, Ext S ι H S' ι' H' → rel2 S' ι' H' v x → rel S' ι' H' v x) : PostR κ W rel2 Q S ι H σ r := by
  cases r with
  | ok v h' => exact fun S' ι' H' x e' st rl => p S' ι' H' x e' st (hr _ _ _ _ _ e' rl)
  | ex x h' => exact p
  | bad => exact p
/-! ### ends -/
theorem PostR.done {v : α} {x : β} (p : PostR κ W rel Q S ι H σ (.ok v h)) (st : Stt κ S ι h H) (r : rel S ι H v x) : Q x H := p S ι H x Ext.refl st r
end
section
variable {κ : Kx} {W : WX} {S : Hp} {ι : List Addr} {H : Hp} {h : MH} {σ : L2.St} {Q : VK}
theorem newTup {vs : List IV} {xs : List V} (p : PostR κ W (rv κ) Q S ι H σ (.ok (.tup vs) h)) (st : Stt κ S ι h H) (r : RVs κ S ι vs xs) (hl : vs.length ≤ line) : ∀ p, H p = none → Q (.ref p) (upd H p (.tup xs)) := fun q hq => by
  obtain ⟨st', e⟩ := st.newS (u := .tup xs) hq
  refine p _ _ _ _ e st' ?_
  show RV κ _ _ (.tup vs) (.ref q)
  unfold RV
  exact ⟨hl, q, xs, rfl, SqT.of upd_same, r.ext e⟩
theorem newLst {vs : List IV} {xs : List V} (p : PostR κ W (rv κ) Q S ι H σ (.ok (.lst vs) h)) (st : Stt κ S ι h H) (r : RVs κ S ι vs xs) (hl : vs.length ≤ line) : ∀ p, H p = none → Q (.ref p) (upd H p (.lst xs)) := fun q hq => by
  obtain ⟨st', e⟩ := st.newS (u := .lst xs) hq
  refine p _ _ _ _ e st' ?_
  show RV κ _ _ (.lst vs) (.ref q)
  unfold RV
  exact ⟨hl, q, xs, rfl, SqL.of upd_same, r.ext e⟩
theorem newHLst {vs : List IV} {xs : List V} (p : PostR κ W (rv κ) Q S ι H σ (alloc (.lst vs) h)) (st : Stt κ S ι h H) (r : RVs κ S ι vs xs) (hl : vs.length ≤ line) : ∀ p, H p = none → Q (.ref p) (upd H p (.lst xs)) := fun q hq => by
  have ii : ∀ (n : Nat) (a : Addr), ι[n]? = some a → (ι ++ [q])[n]? = some a := fun n a e => app_get e
  obtain ⟨st', e⟩ := st.newI (u := .lst xs) (o := .lst vs) hq ⟨hl, xs, upd_same, RVs.mono (fun _ _ e => e) ii _ _ r⟩
  refine p _ _ _ _ e st' ?_
  show RV κ _ _ (.ref h.length) (.ref q)
  unfold RV
  refine ⟨q, rfl, ?_⟩
  rw [← st.len, List.getElem?_append_right (Nat.le_refl _)]
  simp
end

/-! ### weakening the reading -/
section
variable {X : Cx}
theorem pe_imp {e : Expr} {te te' : TE} (h : PE X e te) (i : ∀ σ H Q, te' σ H Q → te σ H Q) : PE X e te' := ⟨fun pins s σ H Q I q => h.run pins s σ H Q I (i σ H Q q)⟩
theorem pt_imp {e : Expr} {te te' : TT} (h : PT X e te) (i : ∀ σ H Q, te' σ H Q → te σ H Q) : PT X e te' := ⟨fun pins s σ H Q I q => h.run pins s σ H Q I (i σ H Q q)⟩
theorem pa_imp {e : List Expr} {te te' : TA} (h : PA X e te) (i : ∀ σ H Q, te' σ H Q → te σ H Q) : PA X e te' := ⟨fun pos pins s σ H Q I q => h.run pos pins s σ H Q I (i σ H Q q)⟩
theorem po_imp {e : Option Expr} {te te' : TO} (h : PO X e te) (i : ∀ σ H Q, te' σ H Q → te σ H Q) : PO X e te' := ⟨fun pins s σ H Q I q => h.run pins s σ H Q I (i σ H Q q)⟩
theorem ps_imp {st : Stmt} {t t' : TS} (h : PS X st t) (i : ∀ D σ H, t' D σ H → t D σ H) : PS X st t' := ⟨fun pins s σ H D I q => h.run pins s σ H D I (i D σ H q)⟩
theorem pss_imp {st : List Stmt} {t t' : TS} (h : PSs X st t) (i : ∀ D σ H, t' D σ H → t D σ H) : PSs X st t' := ⟨fun pins s σ H D I q => h.run pins s σ H D I (i D σ H q)⟩
theorem pi_imp {tg iter : Expr} {w w' : TI} (h : PI X tg iter w) (i : ∀ σ H R, w' σ H R → w σ H R) : PI X tg iter w' := ⟨fun pins s σ H R I q => h.run pins s σ H R I (i σ H R q)⟩
end

/-! ### what RB says by the value's form -/
section
variable {κ : Kx} {S : Hp} {ι : List Addr} {H : Hp} {h : MH} {x : V}
theorem RB.of {v : IV} (r : RV κ S ι v x) : RB κ S ι H v x := .inl r
theorem ofMO_ne {o : MO} {v : IV} (no : ∀ c ns vs, o ≠ .ins c ns vs) (e : v = ofMO o) : (∃ xs, v = .lst xs ∧ o = .lst xs) ∨ ∃ ks vs, v = .dic ks vs ∧ o = .dic ks vs := by
  cases o with
  | lst xs => exact .inl ⟨xs, e, rfl⟩
  | dic ks vs => exact .inr ⟨ks, vs, e, rfl⟩
  | ins c ns vs => exact (no c ns vs rfl).elim
theorem RB.flat {v : IV} (r : RB κ S ι H v x) (h1 : ∀ xs, v ≠ .lst xs) (h2 : ∀ ks vs, v ≠ .dic ks vs) : RV κ S ι v x := by
  rcases r with r | ⟨o, a, _, _, no, e⟩
  · exact r
  · rcases ofMO_ne no e with ⟨xs, e, _⟩ | ⟨ks, vs, e, _⟩
    · exact (h1 _ e).elim
    · exact (h2 _ _ e).elim
theorem RB.non (r : RB κ S ι H .non x) : x = .non := by
  have q := r.flat (fun _ z => by cases z) (fun _ _ z => by cases z)
  unfold RV at q; exact q
theorem RB.bl {b : Bool} (r : RB κ S ι H (.bl b) x) : x = .bl b := by
  have q := r.flat (fun _ z => by cases z) (fun _ _ z => by cases z)
  unfold RV at q; exact q
theorem RB.int {i : Int} (r : RB κ S ι H (.int i) x) : x = .int i := by
  have q := r.flat (fun _ z => by cases z) (fun _ _ z => by cases z)
  unfold RV at q; exact q
theorem RB.str {s : Str} (r : RB κ S ι H (.str s) x) : x = .str s ∧ SOk s := by
  have q := r.flat (fun _ z => by cases z) (fun _ _ z => by cases z)
  unfold RV at q; exact q
theorem RB.tup (st : Stt κ S ι h H) {xs : List IV} (r : RB κ S ι H (.tup xs) x) : xs.length ≤ line ∧ ∃ a vs, x = .ref a ∧ SqT κ.K H a vs ∧ RVs κ S ι xs vs := by
  have q := r.flat (fun _ z => by cases z) (fun _ _ z => by cases z)
  unfold RV at q
  obtain ⟨hl, a, vs, e, q, r⟩ := q
  exact ⟨hl, a, vs, e, sqT_mono st.sub q, r⟩
theorem RB.lst (st : Stt κ S ι h H) {xs : List IV} (r : RB κ S ι H (.lst xs) x) : xs.length ≤ line ∧ ∃ a vs, x = .ref a ∧ SqL κ.K H a vs ∧ RVs κ S ι xs vs := by
  rcases r with q | ⟨o, a, ex, ⟨_, _, ro⟩, no, e⟩
  · unfold RV at q
    obtain ⟨hl, a, vs, e, q, r⟩ := q
    exact ⟨hl, a, vs, e, sqL_mono st.sub q, r⟩
  · rcases ofMO_ne no e with ⟨ys, e, eo⟩ | ⟨ks, vs, e, _⟩
    · cases e
      subst eo
      obtain ⟨hl, vs, e1, q⟩ := ro
      exact ⟨hl, a, vs, ex, SqL.of e1, q⟩
    · cases e
theorem RB.dic (st : Stt κ S ι h H) {ks : List Ky} {ws : List IV} (r : RB κ S ι H (.dic ks ws) x) : ks.length ≤ line ∧ ∃ a kvs, x = .ref a ∧ H a = some (.dK kvs) ∧ ks = kvs.map (·.1) ∧ RVs κ S ι ws (kvs.map (·.2)) := by
  rcases r with q | ⟨o, a, ex, ⟨_, _, ro⟩, no, e⟩
  · unfold RV at q
    obtain ⟨hl, a, vs, e, q, r⟩ := q
    exact ⟨hl, a, vs, e, st.sub _ _ q, r⟩
  · rcases ofMO_ne no e with ⟨ys, e, eo⟩ | ⟨ks, vs, e, eo⟩
    · cases e
    · cases e
      subst eo
      obtain ⟨hl, vs, e1, q⟩ := ro
      exact ⟨hl, a, vs, ex, e1, q⟩
theorem RB.ref (st : Stt κ S ι h H) {n : Nat} (r : RB κ S ι H (.ref n) x) : ∃ a, x = .ref a ∧ ι[n]? = some a ∧ ∀ o, h[n]? = some o → RO κ S ι H o a := by
  have q := r.flat (fun _ z => by cases z) (fun _ _ z => by cases z)
  unfold RV at q
  obtain ⟨a, e, q⟩ := q
  refine ⟨a, e, q, fun o ho => ?_⟩
  obtain ⟨b, hb, r⟩ := st.obj n o ho
  rw [q] at hb; cases hb
  exact r
theorem RB.asL (st : Stt κ S ι h H) {v : IV} {xs : List IV} (e : asL h v = some xs) (r : RB κ S ι H v x) : xs.length ≤ line ∧ ∃ a vs, x = .ref a ∧ SqL κ.K H a vs ∧ RVs κ S ι xs vs := by
  unfold Mi.asL at e
  split at e
  · cases e; exact r.lst st
  · rename_i n
    split at e
    · rename_i ys hn
      cases e
      obtain ⟨a, ex, _, hr⟩ := r.ref st
      obtain ⟨hl, vs, e1, q⟩ := hr _ hn
      exact ⟨hl, a, vs, ex, SqL.of e1, q⟩
    · cases e
  · cases e
theorem RB.asD (st : Stt κ S ι h H) {v : IV} {ks : List Ky} {ws : List IV} (e : asD h v = some (ks, ws)) (r : RB κ S ι H v x) : ks.length ≤ line ∧ ∃ a kvs, x = .ref a ∧ H a = some (.dK kvs) ∧ ks = kvs.map (·.1) ∧ RVs κ S ι ws (kvs.map (·.2)) := by
  unfold Mi.asD at e
  split at e
  · cases e; exact r.dic st
  · rename_i n
    split at e
    · rename_i ks' ys hn
      cases e
      obtain ⟨a, ex, _, hr⟩ := r.ref st
      obtain ⟨hl, vs, e1, ek, q⟩ := hr _ hn
      exact ⟨hl, a, vs, ex, e1, ek, q⟩
    · cases e
  · cases e
theorem RV.lstI {xs : List IV} {a : Addr} {vs : List V} (hl : xs.length ≤ line) (q : SqL κ.K S a vs) (r : RVs κ S ι xs vs) : RV κ S ι (.lst xs) (.ref a) := by unfold RV; exact ⟨hl, a, vs, rfl, q, r⟩
theorem RV.tupI {xs : List IV} {a : Addr} {vs : List V} (hl : xs.length ≤ line) (q : SqT κ.K S a vs) (r : RVs κ S ι xs vs) : RV κ S ι (.tup xs) (.ref a) := by unfold RV; exact ⟨hl, a, vs, rfl, q, r⟩
theorem RV.intI (i : Int) : RV κ S ι (.int i) (.int i) := by unfold RV; rfl
theorem RV.blI (i : Bool) : RV κ S ι (.bl i) (.bl i) := by unfold RV; rfl
theorem RV.nonI : RV κ S ι .non .non := by unfold RV; rfl
theorem RV.strI {s : Str} (h : SOk s) : RV κ S ι (.str s) (.str s) := by unfold RV; exact ⟨rfl, h⟩
end

/-! ### names, constants -/
section
variable {X : Cx} {κ : Kx} {W : WX}
theorem se_var {i : Nat} {x : Str} {pos : Pos} (hN : X.N[i]? = some x) (hv : Vis X.env.scope x) (hd : (x == ("__debug__" : Str)) = false) (hcd : (x == ("__classdict__" : Str)) = false) : PE X (.Name x pos) (can κ W (rv κ) (mVar i)) := by
  refine pe_imp (pe_var hN hv hd hcd) fun σ H Q => ?_
  rintro ⟨S, ι, h, σi, st, rs, hp⟩
  unfold mVar at hp
  split at hp
  · rename_i v e
    obtain ⟨y, ey, r⟩ := rs.at_ i _ e
    exact ⟨y, ey, hp.done st r⟩
  · exact hp.elim
theorem se_bvar {i : Nat} {x : Str} {pos : Pos} (hN : X.N[i]? = some x) (hv : Vis X.env.scope x) (hd : (x == ("__debug__" : Str)) = false) (hcd : (x == ("__classdict__" : Str)) = false) : PE X (.Name x pos) (can κ W (rb κ) (mBv i)) := by
  refine pe_imp (pe_var hN hv hd hcd) fun σ H Q => ?_
  rintro ⟨S, ι, h, σi, st, rs, hp⟩
  unfold mBv at hp
  split at hp
  · rename_i v e
    obtain ⟨y, ey, r⟩ := rs.at_ i _ e
    exact ⟨y, ey, hp.done st (.inl r)⟩
  · rename_i xs e
    obtain ⟨a, ey, r⟩ := rs.at_ i _ e
    exact ⟨_, ey, hp.done st (.inr ⟨_, a, rfl, r, (by intro c ns vs z; cases z), rfl⟩)⟩
  · rename_i xs e
    obtain ⟨a, ey, r⟩ := rs.at_ i _ e
    exact ⟨_, ey, hp.done st (.inr ⟨_, a, rfl, r, (by intro c ns vs z; cases z), rfl⟩)⟩
  · exact hp.elim
theorem se_b {e : Expr} {m : ME} (h : PE X e (can κ W (rv κ) m)) : PE X e (can κ W (rb κ) m) := by
  refine pe_imp h fun σ H Q => ?_
  rintro ⟨S, ι, h, σi, st, rs, hp⟩
  exact ⟨S, ι, h, σi, st, rs, hp.mono fun _ _ _ _ _ _ r => .inl r⟩
theorem se_int {i : Int} {j : Nat} {pos : Pos} : PE X (.Constant (.int i) j pos) (can κ W (rv κ) (mLit (.int i))) := by
  refine pe_imp pe_int fun σ H Q => ?_
  rintro ⟨S, ι, h, σi, st, rs, hp⟩
  exact hp.done st (RV.intI i)
theorem se_bl {i : Bool} {j : Nat} {pos : Pos} : PE X (.Constant (.bool i) j pos) (can κ W (rv κ) (mLit (.bl i))) := by
  refine pe_imp pe_bl fun σ H Q => ?_
  rintro ⟨S, ι, h, σi, st, rs, hp⟩
  exact hp.done st (RV.blI i)
theorem se_non {j : Nat} {pos : Pos} : PE X (.Constant .none j pos) (can κ W (rv κ) (mLit .non)) := by
  refine pe_imp pe_non fun σ H Q => ?_
  rintro ⟨S, ι, h, σi, st, rs, hp⟩
  exact hp.done st RV.nonI
theorem se_str {s : Str} {j : Nat} {pos : Pos} (ok : SOk s) : PE X (.Constant (.str s) j pos) (can κ W (rv κ) (mLit (.str s))) := by
  refine pe_imp pe_str fun σ H Q => ?_
  rintro ⟨S, ι, h, σi, st, rs, hp⟩
  exact hp.done st (RV.strI ok)

/-! ### two operands -/
def BinOk (κ : Kx) (f : IV → IV → MH → R IV) (r : R2) : Prop := ∀ (W : WX) (S : Hp) (ι : List Addr) (h : MH) (H : Hp) (σ : L2.St) (v w : IV) (x y : V) (Q : VK),
  Stt κ S ι h H → RB κ S ι H v x → RB κ S ι H w y → PostR κ W (rv κ) Q S ι H σ (f v w h) → r x y H Q
def UnOk (κ : Kx) (f : IV → MH → R IV) (r : V → Hp → VK → Prop) : Prop := ∀ (W : WX) (S : Hp) (ι : List Addr) (h : MH) (H : Hp) (σ : L2.St) (v : IV) (x : V) (Q : VK),
  Stt κ S ι h H → RB κ S ι H v x → PostR κ W (rv κ) Q S ι H σ (f v h) → r x H Q
variable {a b c : Expr} {ma mb mc : ME} {pos : Pos}
theorem can_op {f : IV → IV → MH → R IV} {r : R2} (hf : BinOk κ f r) {σ : L2.St} {H : Hp} {Q : VK} (q : can κ W (rv κ) (m2 f ma mb) σ H Q) : tOp r (can κ W (rb κ) ma) (can κ W (rb κ) mb) σ H Q := by
  obtain ⟨S, ι, h, σi, st, rs, hp⟩ := q
  refine can_intro st rs hp fun v h1 S1 ι1 H1 x e ex st1 rs1 rx hp1 => ?_
  refine can_intro st1 rs1 hp1 fun w h2 S2 ι2 H2 y e2 ex2 st2 rs2 ry hp2 => ?_
  exact hf W S2 ι2 h2 H2 σ v w x y Q st2 (rx.ext ex2) ry hp2
theorem se_bin {op : Operator} {f : IV → IV → MH → R IV} {r : R2} (ho : OpR X (binaryOp op) r) (hf : BinOk κ f r) (ha : PE X a (can κ W (rb κ) ma)) (hb : PE X b (can κ W (rb κ) mb)) :
    PE X (.BinOp a op b pos) (can κ W (rv κ) (m2 f ma mb)) := pe_imp (pe_op ho ha hb) fun _ _ _ q => can_op hf q
theorem se_cmp {op : CmpOp} {f : IV → IV → MH → R IV} {r : R2} (ho : OpR X (compareOp op) r) (hf : BinOk κ f r) (ha : PE X a (can κ W (rb κ) ma)) (hb : PE X b (can κ W (rb κ) mb)) (hm : behindInMarks op b = false) :
    PE X (.Compare a [op] [b] pos) (can κ W (rv κ) (m2 f ma mb)) := pe_imp (pe_cmpR ho ha hb hm) fun _ _ _ q => can_op hf q
theorem se_un {op : UnaryOp} {f : IV → MH → R IV} {r : V → Hp → VK → Prop} (ho : UnR X (unaryOp op) r) (hf : UnOk κ f r) (ha : PE X a (can κ W (rb κ) ma)) : PE X (.UnaryOp op a pos) (can κ W (rv κ) (m1 f ma)) := by
  refine pe_imp (pe_un ho ha) fun σ H Q => ?_
  rintro ⟨S, ι, h, σi, st, rs, hp⟩
  refine can_intro st rs hp fun v h1 S1 ι1 H1 x e ex st1 rs1 rx hp1 => ?_
  exact hf W S1 ι1 h1 H1 σ v x Q st1 rx hp1
/-! ### argument lists, displays -/
theorem sa_nil : PA X [] (can κ W (rvs κ) (mAll [])) := by
  refine pa_imp pa_nil fun σ H Q => ?_
  rintro ⟨S, ι, h, σi, st, rs, hp⟩
  exact hp.done st RVs.nil
theorem sa_cons {e : Expr} {es : List Expr} {m : ME} {ms : List ME} (ha : PE X e (can κ W (rv κ) m)) (hr : PA X es (can κ W (rvs κ) (mAll ms))) (hs : starEach (e :: es) X.env = (false, eval e X.env) :: starEach es X.env) :
    PA X (e :: es) (can κ W (rvs κ) (mAll (m :: ms))) := by
  refine pa_imp (pa_cons ha hr hs) fun σ H Q => ?_
  rintro ⟨S, ι, h, σi, st, rs, hp⟩
  refine can_intro st rs hp fun v h1 S1 ι1 H1 x e ex st1 rs1 rx hp1 => ?_
  refine can_intro st1 rs1 hp1 fun w h2 S2 ι2 H2 y e2 ex2 st2 rs2 ry hp2 => ?_
  exact hp2.done st2 (RVs.cons (rx.ext ex2) ry)
theorem mAll_length : ∀ {ms : List ME} {σ : Sg} {h h' : MH} {vs : List IV}, mAll ms σ h = .ok vs h' → vs.length = ms.length
  | [], σ, h, h', vs, e => by cases e; rfl
  | m :: ms, σ, h, h', vs, e => by
    unfold mAll at e
    cases e1 : m σ h with
    | ok v h1 =>
      rw [e1, R.bind_ok] at e
      cases e2 : mAll ms σ h1 with
      | ok ws h2 =>
        rw [e2, R.bind_ok] at e
        cases e
        rw [List.length_cons, List.length_cons, mAll_length e2]
      | ex x h2 => rw [e2] at e; cases e
      | bad => rw [e2] at e; cases e
    | ex x h1 => rw [e1] at e; cases e
    | bad => rw [e1] at e; cases e
theorem se_tup {es : List Expr} {ms : List ME} {k : Nat} (h : PA X es (can κ W (rvs κ) (mAll ms))) (hl : ms.length ≤ line) : PE X (.Tuple es k pos) (can κ W (rv κ) (mTup ms)) := by
  refine pe_imp (pe_tup h) fun σ H Q => ?_
  rintro ⟨S, ι, h, σi, st, rs, hp⟩
  refine can_intro st rs hp fun v h1 S1 ι1 H1 x e ex st1 rs1 rx hp1 => ?_
  have hv := mAll_length e
  exact ⟨by rw [← rx.length, hv]; exact hl, newTup hp1 st1 rx (by rw [hv]; exact hl)⟩
theorem se_lst {es : List Expr} {ms : List ME} (h : PA X es (can κ W (rvs κ) (mAll ms))) (hl : ms.length ≤ line) : PE X (.List es pos) (can κ W (rv κ) (mLst ms)) := by
  refine pe_imp (pe_lst h) fun σ H Q => ?_
  rintro ⟨S, ι, h, σi, st, rs, hp⟩
  refine can_intro st rs hp fun v h1 S1 ι1 H1 x e ex st1 rs1 rx hp1 => ?_
  have hv := mAll_length e
  exact ⟨by rw [← rx.length, hv]; exact hl, newLst hp1 st1 rx (by rw [hv]; exact hl)⟩
theorem se_hlst {es : List Expr} {ms : List ME} (h : PA X es (can κ W (rvs κ) (mAll ms))) (hl : ms.length ≤ line) : PE X (.List es pos) (can κ W (rv κ) (mHLst ms)) := by
  refine pe_imp (pe_lst h) fun σ H Q => ?_
  rintro ⟨S, ι, h, σi, st, rs, hp⟩
  refine can_intro st rs hp fun v h1 S1 ι1 H1 x e ex st1 rs1 rx hp1 => ?_
  have hv := mAll_length e
  exact ⟨by rw [← rx.length, hv]; exact hl, newHLst hp1 st1 rx (by rw [hv]; exact hl)⟩
/-! ### and, or, not; if -/
theorem se_and {rest : List Expr} (ha : PE X a (can κ W (rv κ) ma)) (hb : PE X (.BoolOp .And (b :: rest) pos) (can κ W (rv κ) mb)) : PE X (.BoolOp .And (a :: b :: rest) pos) (can κ W (rv κ) (mAnd ma mb)) := by
  refine pe_imp (pe_and ha hb) fun σ H Q => ?_
  rintro ⟨S, ι, h, σi, st, rs, hp⟩
  refine can_intro st rs hp fun v h1 S1 ι1 H1 x e ex st1 rs1 rx hp1 => ?_
  split at hp1
  · obtain rfl := (RB.of (H := H1) rx).bl
    exact ⟨true, rfl, can_last st1 rs1 hp1⟩
  · obtain rfl := (RB.of (H := H1) rx).bl
    exact ⟨false, rfl, hp1.done st1 (RV.blI _)⟩
  · exact hp1.elim
theorem se_or {rest : List Expr} (ha : PE X a (can κ W (rv κ) ma)) (hb : PE X (.BoolOp .Or (b :: rest) pos) (can κ W (rv κ) mb)) : PE X (.BoolOp .Or (a :: b :: rest) pos) (can κ W (rv κ) (mOr ma mb)) := by
  refine pe_imp (pe_or ha hb) fun σ H Q => ?_
  rintro ⟨S, ι, h, σi, st, rs, hp⟩
  refine can_intro st rs hp fun v h1 S1 ι1 H1 x e ex st1 rs1 rx hp1 => ?_
  split at hp1
  · obtain rfl := (RB.of (H := H1) rx).bl
    exact ⟨true, rfl, hp1.done st1 (RV.blI _)⟩
  · obtain rfl := (RB.of (H := H1) rx).bl
    exact ⟨false, rfl, can_last st1 rs1 hp1⟩
  · exact hp1.elim
theorem se_one {op : BoolOp} (ha : PE X a (can κ W (rv κ) ma)) : PE X (.BoolOp op [a] pos) (can κ W (rv κ) ma) := pe_one ha
theorem se_not (ha : PE X a (can κ W (rv κ) ma)) : PE X (.UnaryOp .Not a pos) (can κ W (rv κ) (mNot ma)) := by
  refine pe_imp (pe_not ha) fun σ H Q => ?_
  rintro ⟨S, ι, h, σi, st, rs, hp⟩
  refine can_intro st rs hp fun v h1 S1 ι1 H1 x e ex st1 rs1 rx hp1 => ?_
  split at hp1
  · obtain rfl := (RB.of (H := H1) rx).bl
    exact ⟨_, rfl, hp1.done st1 (RV.blI _)⟩
  · exact hp1.elim
/-! ### tests -/
theorem RB.tru (st : Stt κ S ι h H) {v : IV} {x : V} {k : Bool} (e : tru h v = some k) (r : RB κ S ι H v x) : TruV κ.K x H k := by
  unfold Mi.tru at e
  split at e
  · cases e; rw [r.non]; rfl
  · cases e; rw [r.bl]; rfl
  · cases e; rw [r.int]; rfl
  · cases e; rw [r.str.1]; exact ⟨r.str.2.1, rfl⟩
  · rename_i xs
    cases e
    obtain ⟨_, a, vs, rfl, q, rr⟩ := r.tup st
    refine .inr (.inl ⟨vs, q, ?_⟩)
    have := rr.length
    cases xs <;> cases vs <;> first | rfl | (simp at this)
  · cases e
    obtain ⟨_, a, vs, rfl, q, ek, rr⟩ := r.dic st
    refine .inr (.inr ⟨vs, q, ?_⟩)
    rw [ek]
    cases vs <;> rfl
  · cases e1 : Mi.asL h v with
    | none => rw [e1] at e; cases e
    | some xs =>
      rw [e1] at e
      cases e
      obtain ⟨_, a, vs, rfl, q, rr⟩ := r.asL st e1
      refine .inl ⟨vs, q, ?_⟩
      have := rr.length
      cases xs <;> cases vs <;> first | rfl | (simp at this)
theorem st_tru (hk : X.K = κ.K) (ha : PE X a (can κ W (rb κ) ma)) (he : ∀ whole, isTrue a X.env whole = (do let v ← whole; standAt a.pos; holding [v] (truthy v))) : PT X a (can κ W Mi.rt (tTru ma)) := by
  refine pt_imp (pt_truth ha he) fun σ H Q => ?_
  rintro ⟨S, ι, h, σi, st, rs, hp⟩
  refine can_intro st rs hp fun v h1 S1 ι1 H1 x e ex st1 rs1 rx hp1 => ?_
  cases e1 : tru h1 v with
  | none => rw [e1] at hp1; exact hp1.elim
  | some k =>
    rw [e1] at hp1
    exact ⟨k, by rw [hk]; exact rx.tru st1 e1, hp1.done st1 rfl⟩
end
end Mi
set_option linter.all false
set_option Elab.async false
set_option maxRecDepth 100000
set_option maxHeartbeats 4000000
/-! MiD: operators by values. -/
namespace Mi
open PySem PySem.Spec PyProof.Rows L2

/-! ### rules of the layer for lists of any standing, tuples of data, dicts -/
section
variable {X : Cx}
def rCatS (K : PySem.W.Frag) : R2 := fun x y H Q => ∃ l b xs zs, x = .ref l ∧ y = .ref b ∧ SqL K H l xs ∧ SqL K H b zs ∧ xs.length + zs.length ≤ sizeLine ∧ ∀ p, H p = none → Q (.ref p) (upd H p (.lst (xs ++ zs)))
theorem op_catS : OpR X (binaryOp .Add) (rCatS X.K) := by
  intro pins s σ H x y v u Q I rx ry h
  obtain ⟨l, b, xs, zs, rfl, rfl, hH, hB, hz, q⟩ := h
  cases rx
  cases ry
  obtain ⟨its, r, pl, z1⟩ := I.list hH
  obtain ⟨its2, r2, pl2, z2⟩ := I.list hB
  obtain ⟨⟨cls, dd, data, sl⟩, ho, hc, n, hd⟩ := id pl.isList
  obtain ⟨⟨cls2, dd2, data2, sl2⟩, ho2, hc2, n2, hd2⟩ := id pl2.isList
  simp only at hc hd hc2 hd2
  subst hc hd hc2 hd2
  have e : its.toArray ++ its2.toArray = (its ++ its2).toArray := by simp
  have hl := r.length
  have hl2 := r2.length
  refine concat_meets ⟨_, ho, rfl⟩ ⟨_, ho2, rfl⟩ noFill_list_add seq_list_add PySem.F.slot_list_add PySem.F.entry_list_add (PySem.F.args_list_add_2 _ _) (list_addW l b its.toArray its2.toArray n n2 dd dd2 sl sl2 (by rw [List.size_toArray, List.size_toArray]; omega)) ⟨ho, ho2, ?_⟩
  rw [e]
  exact ⟨.ref _, _, I.lnew (t' := s.toks) (r.append r2) (by rw [List.length_append]; omega), rfl, q _ I.fresh⟩
def rInT (K : PySem.W.Frag) : R2 := fun x y H Q => ∃ d ds, Dp K H x d ∧ Dp K H y (.tuple ds) ∧ SeqAt.shaped d = true ∧ SeqAt.shaped (.tuple ds) = true ∧ Q (.bl (ds.any fun z => PyData.eqv z d)) H
def rNotInT (K : PySem.W.Frag) : R2 := fun x y H Q => ∃ d ds, Dp K H x d ∧ Dp K H y (.tuple ds) ∧ SeqAt.shaped d = true ∧ SeqAt.shaped (.tuple ds) = true ∧ Q (.bl (!ds.any fun z => PyData.eqv z d)) H
theorem op_inT (hu : X.A.units + 65 < cLine) : OpR X (compareOp .In) (rInT X.K) := by
  intro pins s σ H x y v u Q I rx ry h
  obtain ⟨d, ds, hd, he, sd, se, q⟩ := h
  obtain ⟨as, r1⟩ := Dp.reads I d x v hd rx
  obtain ⟨bs, r2⟩ := Dp.reads I (.tuple ds) y u he ry
  exact SeqAt.in_tuple_reads r2 r1 (SeqAt.canLay_of_shaped se) (SeqAt.canLay_of_shaped sd) (room_in_shaped sd hu) ⟨.bl _, H, I, rfl, q⟩
theorem op_notInT (hu : X.A.units + 65 < cLine) : OpR X (compareOp .NotIn) (rNotInT X.K) := by
  intro pins s σ H x y v u Q I rx ry h
  obtain ⟨d, ds, hd, he, sd, se, q⟩ := h
  obtain ⟨as, r1⟩ := Dp.reads I d x v hd rx
  obtain ⟨bs, r2⟩ := Dp.reads I (.tuple ds) y u he ry
  exact SeqAt.notIn_tuple_reads r2 r1 (SeqAt.canLay_of_shaped se) (SeqAt.canLay_of_shaped sd) (room_in_shaped sd hu) ⟨.bl _, H, I, rfl, q⟩
def rDIn (neg : Bool) : R2 := fun x y H Q => ∃ a o, y = .ref a ∧ DGet H a x o ∧ Q (.bl (if neg then !o.isSome else o.isSome)) H
theorem op_inDk (hu : X.A.units + 1 < cLine) : OpR X (compareOp .In) (rDIn false) := by
  intro pins s σ H x y v u Q I rx ry h
  obtain ⟨a, o, rfl, g, q⟩ := h
  cases ry
  exact d_in hu I g rx fun s3 I3 => ⟨.bl o.isSome, H, I3, rfl, q⟩
theorem op_notInDk (hu : X.A.units + 1 < cLine) : OpR X (compareOp .NotIn) (rDIn true) := by
  intro pins s σ H x y v u Q I rx ry h
  obtain ⟨a, o, rfl, g, q⟩ := h
  cases ry
  exact d_notIn hu I g rx fun s3 I3 => ⟨.bl (!o.isSome), H, I3, rfl, q⟩
def rIxD : R2 := fun x y H Q => ∃ a v, x = .ref a ∧ DGet H a y (some v) ∧ Q v H
theorem ix_dict (hu : X.A.units + 1 < cLine) : IxR X rIxD := by
  intro value slice pins s σ H x y v u Q I rx ry h hs
  obtain ⟨a, z, rfl, g, q⟩ := h
  cases rx
  exact tail_any (dict_typeIs I g) PySem.F.slot_dict_getitem.lookup (d_getItem hu I g ry fun w' s3 I3 rw' => ⟨z, H, I3, rw', q⟩) hs
end

/-! ### values as data -/
section
variable {κ : Kx} {S : Hp} {ι : List Addr} {H : Hp} {h : MH}
theorem pd_dps (st : Stt κ S ι h H) {n : Nat} (ih : ∀ v x d, pd h n v = some d → RB κ S ι H v x → Dp κ.K H x d ∧ d.canLay0 = true ∧ d.depth ≤ n) :
    ∀ (vs : List IV) (xs : List V) (ds : List PyData), mapO (pd h n) vs = some ds → RVs κ S ι vs xs → DpAll κ.K H xs ds ∧ PyData.canLayAll0 ds = true ∧ PyData.depthAll ds ≤ n
  | [], xs, ds, e, r => by
    cases e
    rw [r.nil_inv]
    exact ⟨.nil, by simp [PyData.canLayAll0], by simp [PyData.depthAll]⟩
  | v :: vs, _, ds, e, r => by
    obtain ⟨x, xs, rfl, r1, r2⟩ := r.cons_inv
    unfold mapO at e
    split at e
    · rename_i d ds' e1 e2
      cases e
      obtain ⟨a1, a2, a3⟩ := ih v x d e1 (.inl r1)
      obtain ⟨b1, b2, b3⟩ := pd_dps st ih vs xs ds' e2 r2
      refine ⟨.cons a1 b1, by simp [PyData.canLayAll0, a2, b2], ?_⟩
      simp only [PyData.depthAll]
      omega
    · cases e
theorem pd_dp (st : Stt κ S ι h H) : ∀ (n : Nat) (v : IV) (x : V) (d : PyData), pd h n v = some d → RB κ S ι H v x → Dp κ.K H x d ∧ d.canLay0 = true ∧ d.depth ≤ n
  | n, .non, x, d, e, r => by
    have e' : d = .none := by unfold pd at e; cases n <;> (cases e; rfl)
    subst e'; rw [r.non]; exact ⟨.non, by simp [PyData.canLay0], by simp [PyData.depth]⟩
  | n, .bl b, x, d, e, r => by
    have e' : d = .bool b := by unfold pd at e; cases n <;> (cases e; rfl)
    subst e'; rw [r.bl]; exact ⟨.bl b, by simp [PyData.canLay0], by simp [PyData.depth]⟩
  | n, .int i, x, d, e, r => by
    have e' : d = .int i := by unfold pd at e; cases n <;> (cases e; rfl)
    subst e'; rw [r.int]; exact ⟨.int i, by simp [PyData.canLay0], by simp [PyData.depth]⟩
  | n, .str s, x, d, e, r => by
    have e' : d = .str s := by unfold pd at e; cases n <;> (cases e; rfl)
    subst e'
    obtain ⟨rfl, _, ok⟩ := r.str
    exact ⟨.str s, by simp [PyData.canLay0, ok], by simp [PyData.depth]⟩
  | 0, .tup xs, x, d, e, r => by unfold pd at e; cases e
  | 0, .lst xs, x, d, e, r => by unfold pd at e; cases e
  | 0, .ref m, x, d, e, r => by unfold pd at e; cases e
  | n + 1, .tup xs, x, d, e, r => by
    unfold pd at e
    obtain ⟨ds, e1, rfl⟩ := Option.map_eq_some_iff.mp e
    obtain ⟨_, a, vs, rfl, q, rr⟩ := r.tup st
    obtain ⟨b1, b2, b3⟩ := pd_dps st (pd_dp st n) xs vs ds e1 rr
    exact ⟨.tup q b1, by simp [PyData.canLay0, b2], by simp only [PyData.depth]; omega⟩
  | n + 1, .lst xs, x, d, e, r => by
    unfold pd at e
    obtain ⟨ds, e1, rfl⟩ := Option.map_eq_some_iff.mp e
    obtain ⟨_, a, vs, rfl, q, rr⟩ := r.lst st
    obtain ⟨b1, b2, b3⟩ := pd_dps st (pd_dp st n) xs vs ds e1 rr
    exact ⟨.lst q b1, by simp [PyData.canLay0, b2], by simp only [PyData.depth]; omega⟩
  | n + 1, .ref m, x, d, e, r => by
    unfold pd at e
    split at e
    · rename_i xs hm
      obtain ⟨ds, e1, rfl⟩ := Option.map_eq_some_iff.mp e
      obtain ⟨a, rfl, _, hr⟩ := r.ref st
      obtain ⟨_, vs, e2, rr⟩ := hr _ hm
      obtain ⟨b1, b2, b3⟩ := pd_dps st (pd_dp st n) xs vs ds e1 rr
      exact ⟨.lst (SqL.of e2) b1, by simp [PyData.canLay0, b2], by simp only [PyData.depth]; omega⟩
    · cases e
  | 0, .dic _ _, x, d, e, r => by unfold pd at e; cases e
  | n + 1, .dic _ _, x, d, e, r => by unfold pd at e; cases e
  | 0, .err _ _ _, x, d, e, r => by unfold pd at e; cases e
  | n + 1, .err _ _ _, x, d, e, r => by unfold pd at e; cases e
theorem shaped_of {d : PyData} (h1 : d.canLay0 = true) (h2 : d.depth ≤ deep) : SeqAt.shaped d = true := by
  unfold SeqAt.shaped
  rw [h1, Bool.true_and]
  exact decide_eq_true (Nat.le_trans h2 (by decide))
theorem shaped_tup {ds : List PyData} (h1 : PyData.canLayAll0 ds = true) (h2 : PyData.depthAll ds ≤ deep) : SeqAt.shaped (.tuple ds) = true := by
  unfold SeqAt.shaped
  have h3 : deep + 1 ≤ 64 := by decide
  simp only [PyData.canLay0, h1, PyData.depth, Bool.true_and]
  exact decide_eq_true (by omega)
theorem shaped_lst {ds : List PyData} (h1 : PyData.canLayAll0 ds = true) (h2 : PyData.depthAll ds ≤ deep) : SeqAt.shaped (.list ds) = true := by
  unfold SeqAt.shaped
  have h3 : deep + 1 ≤ 64 := by decide
  simp only [PyData.canLay0, h1, PyData.depth, Bool.true_and]
  exact decide_eq_true (by omega)
/-! dicts: what stands at a key -/
theorem toKy_kV {v : IV} {k : Ky} {x : V} (e : toKy v = some k) (r : RB κ S ι H v x) : x = kV k := by
  unfold toKy at e
  split at e
  · cases e; rw [r.int] <;> rfl
  · cases e; rw [r.str.1] <;> rfl
  · cases e
theorem klook_valV : ∀ {kvs : List (Ky × V)} {vs : List IV} {k : Ky}, RVs κ S ι vs (kvs.map (·.2)) →
    (klook (kvs.map (·.1)) vs k = none ∧ valV kvs k = none) ∨ ∃ v x, klook (kvs.map (·.1)) vs k = some v ∧ valV kvs k = some x ∧ RV κ S ι v x
  | [], vs, k, r => by
    left
    refine ⟨?_, rfl⟩
    cases vs <;> rfl
  | (k', x) :: kvs, vs, k, r => by
    cases vs with
    | nil => have := r.nil_inv; cases this
    | cons v vs =>
      obtain ⟨y, ys, e, r1, r2⟩ := r.cons_inv
      cases e
      by_cases hk : k' = k
      · right
        refine ⟨v, x, ?_, ?_, r1⟩
        · show (if k' = k then some v else _) = _
          rw [if_pos hk]
        · simp [valV, List.find?, hk]
      · have e1 : klook (((k', x) :: kvs).map (·.1)) (v :: vs) k = klook (kvs.map (·.1)) vs k := by
          show (if k' = k then some v else _) = _
          rw [if_neg hk]
        have e2 : valV ((k', x) :: kvs) k = valV kvs k := by
          simp [valV, List.find?, hk]
        rw [e1, e2]
        exact klook_valV r2
theorem klook_isSome {kvs : List (Ky × V)} {vs : List IV} {k : Ky} (r : RVs κ S ι vs (kvs.map (·.2))) : (klook (kvs.map (·.1)) vs k).isSome = (valV kvs k).isSome := by
  rcases klook_valV (k := k) r with ⟨e1, e2⟩ | ⟨v, x, e1, e2, _⟩ <;> rw [e1, e2] <;> rfl
end

/-! ### operators -/
theorem atI_same {xs : List IV} {vs : List V} {κ : Kx} {S : Hp} {ι : List Addr} (r : RVs κ S ι xs vs) {i : Int} {v : IV} (e : Mi.atI xs i = some v) : ∃ x, L2.atI vs i = some x ∧ RV κ S ι v x := by
  unfold Mi.atI at e
  obtain ⟨j, e1, e2⟩ := Option.bind_eq_some_iff.mp e
  obtain ⟨x, e3, rr⟩ := r.get e2
  refine ⟨x, ?_, rr⟩
  unfold L2.atI
  rw [← r.length]
  exact Option.bind_eq_some_iff.mpr ⟨j, e1, e3⟩
theorem wide64_ok {i j : Int} (h : (wide64 i || wide64 j) = true) : CMul i j := by
  unfold wide64 at h
  rw [Bool.or_eq_true, Bool.and_eq_true, Bool.and_eq_true] at h
  rcases h with h | h
  · exact .inl ⟨of_decide_eq_true h.1, of_decide_eq_true h.2⟩
  · exact .inr ⟨of_decide_eq_true h.1, of_decide_eq_true h.2⟩
theorem sok_app {s t : Str} (hs : SOk s) (ht : SOk t) (hl : s.length + t.length ≤ line) : SOk (s ++ t) := by
  refine ⟨?_, ?_⟩
  · show (s.cps ++ t.cps).size ≤ line
    rw [Array.size_append]; exact hl
  · have h1 := hs.2
    have h2 := ht.2
    unfold PyData.strOk at h1 h2 ⊢
    show (s.cps ++ t.cps).all _ = true
    rw [Array.all_append, h1, h2] <;> rfl
theorem sok_one {s : Str} (hs : SOk s) {c : Nat} (h : c ∈ s.cps.toList) : SOk ⟨#[c]⟩ := by
  refine ⟨by show 1 ≤ line; decide, ?_⟩
  have h1 := hs.2
  unfold PyData.strOk at h1 ⊢
  rw [Array.all_eq_true_iff_forall_mem] at h1 ⊢
  intro x hx
  have : x = c := by simpa using hx
  subst this
  exact h1 x (by simpa using h)
section
variable {κ : Kx}
def rAddM (K : PySem.W.Frag) : R2 := fun x y H Q => rI0 (fun i j => .int (i + j)) x y H Q ∨ (∃ i j, x = .str i ∧ y = .str j ∧ i.length + j.length ≤ sizeLine ∧ Q (.str (i ++ j)) H) ∨ rCatA K x y H Q ∨ rCatS K x y H Q
theorem op_addM {X : Cx} : OpR X (binaryOp .Add) (rAddM X.K) := OpR.or op_add (OpR.or op_add_str (OpR.or op_catA op_catS))
theorem ok_add : BinOk κ vAdd (rAddM κ.K) := by
  intro W S ι h H σ v w x y Q st rx ry hp
  unfold vAdd at hp
  split at hp
  · rw [rx.int, ry.int]
    exact .inl ⟨_, _, rfl, rfl, hp.done st (RV.intI _)⟩
  · obtain ⟨rfl, ox⟩ := rx.str
    obtain ⟨rfl, oy⟩ := ry.str
    split at hp
    · rename_i hl
      exact .inr (.inl ⟨_, _, rfl, rfl, hl, hp.done st (RV.strI (sok_app ox oy hl))⟩)
    · exact hp.elim
  · obtain ⟨l1, a, xs, rfl, qa, ra⟩ := rx.tup st
    obtain ⟨l2, b, ys, rfl, qb, rb⟩ := ry.tup st
    split at hp
    · rename_i hl
      have e1 := ra.length
      have e2 := rb.length
      have rr := ra.append rb
      refine .inr (.inr (.inl ⟨a, b, xs, ys, rfl, rfl, qa, qb, by rw [← e1, ← e2]; exact hl, fun z => ?_, fun _ z => ?_, fun _ _ => newTup hp st rr (by rw [List.length_append]; exact hl)⟩))
      · have e0 := List.length_eq_zero_iff.mp (e1.trans (by rw [z] <;> rfl))
        rw [e0] at hp
        exact hp.done st (ry.flat (fun _ z => by cases z) (fun _ _ z => by cases z))
      · have e0 := List.length_eq_zero_iff.mp (e2.trans (by rw [z] <;> rfl))
        rw [e0, List.append_nil] at hp
        exact hp.done st (rx.flat (fun _ z => by cases z) (fun _ _ z => by cases z))
    · exact hp.elim
  · split at hp
    · rename_i us ws e1 e2
      obtain ⟨l1, a, xs, rfl, qa, ra⟩ := rx.asL st e1
      obtain ⟨l2, b, ys, rfl, qb, rb⟩ := ry.asL st e2
      split at hp
      · rename_i hl
        exact .inr (.inr (.inr ⟨a, b, xs, ys, rfl, rfl, qa, qb, by rw [← ra.length, ← rb.length]; exact hl, newLst hp st (ra.append rb) (by rw [List.length_append]; exact hl)⟩))
      · exact hp.elim
    · exact hp.elim
theorem ok_sub : BinOk κ vSub (rI0 fun i j => .int (i - j)) := by
  intro W S ι h H σ v w x y Q st rx ry hp
  unfold vSub at hp
  split at hp
  · rw [rx.int, ry.int]
    exact ⟨_, _, rfl, rfl, hp.done st (RV.intI _)⟩
  · exact hp.elim
theorem ok_mul : BinOk κ vMul (rI CMul fun i j => .int (i * j)) := by
  intro W S ι h H σ v w x y Q st rx ry hp
  unfold vMul at hp
  split at hp
  · rw [rx.int, ry.int]
    split at hp
    · rename_i hw
      exact ⟨_, _, rfl, rfl, wide64_ok hw, hp.done st (RV.intI _)⟩
    · exact hp.elim
  · exact hp.elim
theorem ok_div : BinOk κ vDiv (rI CDiv fun i j => .int (i / j)) := by
  intro W S ι h H σ v w x y Q st rx ry hp
  unfold vDiv at hp
  split at hp
  · rw [rx.int, ry.int]
    split at hp
    · rename_i hw
      exact ⟨_, _, rfl, rfl, hw, hp.done st (RV.intI _)⟩
    · exact hp.elim
  · exact hp.elim
theorem ok_mod : BinOk κ vMod (rI (fun _ j => 0 < j) fun i j => .int (i % j)) := by
  intro W S ι h H σ v w x y Q st rx ry hp
  unfold vMod at hp
  split at hp
  · rw [rx.int, ry.int]
    split at hp
    · rename_i hw
      exact ⟨_, _, rfl, rfl, hw, hp.done st (RV.intI _)⟩
    · exact hp.elim
  · exact hp.elim
theorem ok_pow : BinOk κ vPow (rI CPow fun i j => .int (i ^ j.toNat)) := by
  intro W S ι h H σ v w x y Q st rx ry hp
  unfold vPow at hp
  split at hp
  · rw [rx.int, ry.int]
    split at hp
    · rename_i hw
      exact ⟨_, _, rfl, rfl, hw, hp.done st (RV.intI _)⟩
    · exact hp.elim
  · exact hp.elim
theorem ok_neg : UnOk κ vNeg (rU fun i => .int (-i)) := by
  intro W S ι h H σ v x Q st rx hp
  unfold vNeg at hp
  split at hp
  · rw [rx.int]
    exact ⟨_, rfl, hp.done st (RV.intI _)⟩
  · exact hp.elim
theorem ok_lt : BinOk κ vLt (rI0 fun i j => .bl (decide (i < j))) := by
  intro W S ι h H σ v w x y Q st rx ry hp
  unfold vLt at hp
  split at hp
  · rw [rx.int, ry.int]
    exact ⟨_, _, rfl, rfl, hp.done st (RV.blI _)⟩
  · exact hp.elim
theorem ok_le : BinOk κ vLe (rI0 fun i j => .bl (decide (i ≤ j))) := by
  intro W S ι h H σ v w x y Q st rx ry hp
  unfold vLe at hp
  split at hp
  · rw [rx.int, ry.int]
    exact ⟨_, _, rfl, rfl, hp.done st (RV.blI _)⟩
  · exact hp.elim
theorem ok_gt : BinOk κ vGt (rI0 fun i j => .bl (decide (j < i))) := by
  intro W S ι h H σ v w x y Q st rx ry hp
  unfold vGt at hp
  split at hp
  · rw [rx.int, ry.int]
    exact ⟨_, _, rfl, rfl, hp.done st (RV.blI _)⟩
  · exact hp.elim
theorem ok_ge : BinOk κ vGe (rI0 fun i j => .bl (decide (j ≤ i))) := by
  intro W S ι h H σ v w x y Q st rx ry hp
  unfold vGe at hp
  split at hp
  · rw [rx.int, ry.int]
    exact ⟨_, _, rfl, rfl, hp.done st (RV.blI _)⟩
  · exact hp.elim
theorem flatEq_ok {S : Hp} {ι : List Addr} {v w : IV} {x y : V} (e : flatEq v w = true) (rx : RV κ S ι v x) (ry : RV κ S ι w y) : x = y ∧ flatB x = true := by
  unfold flatEq at e
  split at e
  · rw [(RB.of (H := S) rx).non, (RB.of (H := S) ry).non]; exact ⟨rfl, rfl⟩
  · rw [(RB.of (H := S) rx).bl, (RB.of (H := S) ry).bl, beq_iff_eq.mp e]; exact ⟨rfl, rfl⟩
  · rw [(RB.of (H := S) rx).int, (RB.of (H := S) ry).int, beq_iff_eq.mp e]; exact ⟨rfl, rfl⟩
  · rw [(RB.of (H := S) rx).str.1, (RB.of (H := S) ry).str.1, beq_iff_eq.mp e]; exact ⟨rfl, rfl⟩
  · cases e
theorem hits_ok {S : Hp} {ι : List Addr} {ls : List (Ky × V)} {ws : List IV} (rw_ : RVs κ S ι ws (ls.map (·.2))) : ∀ {ks : List (Ky × V)} {vs : List IV}, hits (ls.map (·.1)) ws (ks.map (·.1)) vs = true → RVs κ S ι vs (ks.map (·.2)) →
    ∀ p ∈ ks, valV ls p.1 = some p.2 ∧ flatB p.2 = true
  | [], _, _, _ => fun p hp => by cases hp
  | (k, x) :: ks, vs, e, r => by
    cases vs with
    | nil => have := r.nil_inv; cases this
    | cons v vs =>
      obtain ⟨y, ys, e1, r1, r2⟩ := r.cons_inv
      cases e1
      have e2 : ((match klook (ls.map (·.1)) ws k with
        | some w => flatEq v w
        | none => false) && hits (ls.map (·.1)) ws (ks.map (·.1)) vs) = true := e
      rw [Bool.and_eq_true] at e2
      obtain ⟨h1, h2⟩ := e2
      intro p hp
      rcases List.mem_cons.mp hp with rfl | hp
      · rcases klook_valV (k := k) rw_ with ⟨e3, e4⟩ | ⟨w, y, e3, e4, ry⟩
        · rw [e3] at h1; cases h1
        · rw [e3] at h1
          obtain ⟨q1, q2⟩ := flatEq_ok h1 r1 ry
          exact ⟨by rw [e4]; exact congrArg some q1.symm, q2⟩
      · exact hits_ok rw_ h2 r2 p hp
inductive EqB (κ : Kx) (H : Hp) (x y : V) : Bool → Prop
  | dat (d e : PyData) : Dp κ.K H x d → Dp κ.K H y e → SeqAt.shaped d = true → SeqAt.shaped e = true → EqB κ H x y (PyData.eqv d e)
  | dic (a b : Addr) (ks ls : List (Ky × V)) : x = .ref a → y = .ref b → H a = some (.dK ks) → H b = some (.dK ls) → ks.length = ls.length → (∀ p ∈ ks, valV ls p.1 = some p.2 ∧ flatB p.2 = true) → EqB κ H x y true
theorem eqB_of {S : Hp} {ι : List Addr} {H : Hp} {h : MH} {v w : IV} {x y : V} {b : Bool} (st : Stt κ S ι h H) (e : vEq h v w = some b) (rx : RB κ S ι H v x) (ry : RB κ S ι H w y) : EqB κ H x y b := by
  unfold vEq at e
  split at e
  · rename_i d e' e1 e2
    cases e
    obtain ⟨a1, a2, a3⟩ := pd_dp st _ _ _ _ e1 rx
    obtain ⟨b1, b2, b3⟩ := pd_dp st _ _ _ _ e2 ry
    exact .dat d e' a1 b1 (shaped_of a2 a3) (shaped_of b2 b3)
  · unfold dEq at e
    split at e
    · rename_i ks vs ls ws e1 e2
      split at e
      · rename_i hc
        cases e
        obtain ⟨_, a, k1, rfl, q1, ek1, r1⟩ := rx.asD st e1
        obtain ⟨_, b, k2, rfl, q2, ek2, r2⟩ := ry.asD st e2
        subst ek1
        subst ek2
        exact .dic a b k1 k2 rfl rfl q1 q2 (by simpa using hc.1) (hits_ok r2 hc.2 r1)
      · cases e
    · cases e
def rEqM (K : PySem.W.Frag) : R2 := fun x y H Q => rEqD K x y H Q ∨ rEqDA x y H Q
def rNeM (K : PySem.W.Frag) : R2 := fun x y H Q => rNeD K x y H Q ∨ rNeDA x y H Q
theorem op_eqM {X : Cx} (hu : X.A.units + 64 < cLine) : OpR X (compareOp .Eq) (rEqM X.K) := OpR.or (op_eqD hu) (op_eq_dictA (by omega))
theorem op_neM {X : Cx} (hu : X.A.units + 64 < cLine) : OpR X (compareOp .NotEq) (rNeM X.K) := OpR.or (op_neD hu) (op_ne_dictA (by omega))
theorem ok_eq : BinOk κ vEqR (rEqM κ.K) := by
  intro W S ι h H σ v w x y Q st rx ry hp
  unfold vEqR at hp
  cases e1 : vEq h v w with
  | none => rw [e1] at hp; exact hp.elim
  | some b =>
    rw [e1] at hp
    have q := hp.done st (RV.blI _)
    cases eqB_of st e1 rx ry with
    | dat d e h1 h2 h3 h4 => exact .inl ⟨d, e, h1, h2, h3, h4, q⟩
    | dic a b ks ls h1 h2 h3 h4 h5 h6 => exact .inr ⟨a, b, ks, ls, h1, h2, h3, h4, h5, h6, q⟩
theorem ok_ne : BinOk κ vNeR (rNeM κ.K) := by
  intro W S ι h H σ v w x y Q st rx ry hp
  unfold vNeR at hp
  cases e1 : vEq h v w with
  | none => rw [e1] at hp; exact hp.elim
  | some b =>
    rw [e1] at hp
    have q := hp.done st (RV.blI _)
    cases eqB_of st e1 rx ry with
    | dat d e h1 h2 h3 h4 => exact .inl ⟨d, e, h1, h2, h3, h4, q⟩
    | dic a b ks ls h1 h2 h3 h4 h5 h6 => exact .inr ⟨a, b, ks, ls, h1, h2, h3, h4, h5, h6, q⟩
/-! in, not in -/
def rInM (K : PySem.W.Frag) : R2 := fun x y H Q => rInD K x y H Q ∨ rInT K x y H Q ∨ rDIn false x y H Q ∨ (∃ (c : Nat) (z : Str), x = .str ⟨#[c]⟩ ∧ y = .str z ∧ Q (.bl (decide (c ∈ z.cps.toList))) H)
def rNotInM (K : PySem.W.Frag) : R2 := fun x y H Q => rNotInD K x y H Q ∨ rNotInT K x y H Q ∨ rDIn true x y H Q ∨ (∃ (c : Nat) (z : Str), x = .str ⟨#[c]⟩ ∧ y = .str z ∧ Q (.bl (!decide (c ∈ z.cps.toList))) H)
theorem op_inM {X : Cx} (hu : X.A.units + 65 < cLine) : OpR X (compareOp .In) (rInM X.K) := OpR.or (op_inD hu) (OpR.or (op_inT hu) (OpR.or (op_inDk (by omega)) op_in_sign))
theorem op_notInM {X : Cx} (hu : X.A.units + 65 < cLine) : OpR X (compareOp .NotIn) (rNotInM X.K) := OpR.or (op_notInD hu) (OpR.or (op_notInT hu) (OpR.or (op_notInDk (by omega)) op_notIn_sign))
/-- what an answer of vInB says -/
inductive InB (κ : Kx) (H : Hp) (x y : V) : Bool → Prop
  | lst (d : PyData) (ds : List PyData) : Dp κ.K H x d → Dp κ.K H y (.list ds) → SeqAt.shaped d = true → SeqAt.shaped (.list ds) = true → InB κ H x y (ds.any fun z => PyData.eqv z d)
  | tup (d : PyData) (ds : List PyData) : Dp κ.K H x d → Dp κ.K H y (.tuple ds) → SeqAt.shaped d = true → SeqAt.shaped (.tuple ds) = true → InB κ H x y (ds.any fun z => PyData.eqv z d)
  | dic (a : Addr) (o : Option V) : y = .ref a → DGet H a x o → InB κ H x y o.isSome
  | str (c : Nat) (z : Str) : x = .str ⟨#[c]⟩ → y = .str z → InB κ H x y (decide (c ∈ z.cps.toList))
theorem one_sign {s : Str} (h : s.length = 1) : s = ⟨#[s.cps.getD 0 0]⟩ := by
  obtain ⟨⟨l⟩⟩ := s
  cases l with
  | nil => cases h
  | cons c r =>
    cases r with
    | nil => rfl
    | cons d r => cases h
theorem inB_of {S : Hp} {ι : List Addr} {H : Hp} {h : MH} {v w : IV} {x y : V} {b : Bool} (st : Stt κ S ι h H) (e : vInB h v w = some b) (rx : RB κ S ι H v x) (ry : RB κ S ι H w y) : InB κ H x y b := by
  unfold vInB at e
  split at e
  · split at e
    · rename_i d es e1 e2
      cases e
      obtain ⟨a1, a2, a3⟩ := pd_dp st _ _ _ _ e1 rx
      obtain ⟨l, a, vs, rfl, q, rr⟩ := ry.tup st
      obtain ⟨b1, b2, b3⟩ := pd_dps st (pd_dp st _) _ _ _ e2 rr
      exact .tup d es a1 (.tup q b1) (shaped_of a2 a3) (shaped_tup b2 b3)
    · cases e
  · split at e
    · split at e
      · rename_i t s hl
        cases e
        obtain ⟨rfl, _⟩ := rx.str
        obtain ⟨rfl, _⟩ := ry.str
        have e1 := one_sign hl
        rw [List.contains_eq_mem]
        exact .str _ _ (congrArg V.str e1) rfl
      · cases e
    · cases e
  · split at e
    · rename_i ys e0
      split at e
      · rename_i d es e1 e2
        cases e
        obtain ⟨a1, a2, a3⟩ := pd_dp st _ _ _ _ e1 rx
        obtain ⟨l, a, vs, rfl, q, rr⟩ := ry.asL st e0
        obtain ⟨b1, b2, b3⟩ := pd_dps st (pd_dp st _) _ _ _ e2 rr
        exact .lst d es a1 (.lst q b1) (shaped_of a2 a3) (shaped_lst b2 b3)
      · cases e
    · split at e
      · rename_i ks vs k e1 e2
        cases e
        obtain ⟨l, a, kvs, rfl, q, ek, rr⟩ := ry.asD st e1
        subst ek
        rw [klook_isSome rr, toKy_kV e2 rx]
        exact .dic a _ rfl (DGet.k q)
      · cases e
theorem ok_in : BinOk κ vIn (rInM κ.K) := by
  intro W S ι h H σ v w x y Q st rx ry hp
  unfold vIn at hp
  cases e : vInB h v w with
  | none => rw [e] at hp; exact hp.elim
  | some b =>
    rw [e] at hp
    have q := hp.done st (RV.blI _)
    cases inB_of st e rx ry with
    | lst d ds h1 h2 h3 h4 => exact .inl ⟨d, ds, h1, h2, h3, h4, q⟩
    | tup d ds h1 h2 h3 h4 => exact .inr (.inl ⟨d, ds, h1, h2, h3, h4, q⟩)
    | dic a o h1 h2 => exact .inr (.inr (.inl ⟨a, o, h1, h2, q⟩))
    | str c z h1 h2 => exact .inr (.inr (.inr ⟨c, z, h1, h2, q⟩))
theorem ok_notIn : BinOk κ vNotIn (rNotInM κ.K) := by
  intro W S ι h H σ v w x y Q st rx ry hp
  unfold vNotIn at hp
  cases e : vInB h v w with
  | none => rw [e] at hp; exact hp.elim
  | some b =>
    rw [e] at hp
    have q := hp.done st (RV.blI _)
    cases inB_of st e rx ry with
    | lst d ds h1 h2 h3 h4 => exact .inl ⟨d, ds, h1, h2, h3, h4, q⟩
    | tup d ds h1 h2 h3 h4 => exact .inr (.inl ⟨d, ds, h1, h2, h3, h4, q⟩)
    | dic a o h1 h2 => exact .inr (.inr (.inl ⟨a, o, h1, h2, q⟩))
    | str c z h1 h2 => exact .inr (.inr (.inr ⟨c, z, h1, h2, q⟩))
/-! subscripts -/
def rIxM (K : PySem.W.Frag) : R2 := fun x y H Q => rIx K x y H Q ∨ rIxD x y H Q
theorem ix_M {X : Cx} (hu : X.A.units + 1 < cLine) : IxR X (rIxM X.K) := IxR.or ix_seq (ix_dict hu)
theorem ok_idx : BinOk κ vIdx (rIxM κ.K) := by
  intro W S ι h H σ v w x y Q st rx ry hp
  unfold vIdx at hp
  split at hp
  · obtain ⟨l, a, vs, rfl, q, rr⟩ := rx.tup st
    rw [ry.int]
    cases e : Mi.atI _ _ with
    | none => rw [e] at hp; exact hp.elim
    | some z =>
      rw [e] at hp
      obtain ⟨z', e1, rz⟩ := atI_same rr e
      exact .inl (.inr (.inl ⟨a, vs, _, z', rfl, rfl, q, e1, hp.done st rz⟩))
  · rename_i s i
    obtain ⟨rfl, os⟩ := rx.str
    rw [ry.int]
    cases e : Mi.atI s.cps.toList i with
    | none => rw [e] at hp; exact hp.elim
    | some c =>
      rw [e] at hp
      have hm : c ∈ s.cps.toList := by
        unfold Mi.atI at e
        obtain ⟨j, e1, e2⟩ := Option.bind_eq_some_iff.mp e
        exact List.mem_of_getElem? e2
      exact .inl (.inr (.inr ⟨_, _, c, rfl, rfl, os.1, e, hp.done st (RV.strI (sok_one os hm))⟩))
  · split at hp
    · rename_i xs e0
      obtain ⟨l, a, vs, rfl, q, rr⟩ := rx.asL st e0
      split at hp
      · rw [ry.int]
        cases e : Mi.atI _ _ with
        | none => rw [e] at hp; exact hp.elim
        | some z =>
          rw [e] at hp
          obtain ⟨z', e1, rz⟩ := atI_same rr e
          exact .inl (.inl ⟨a, vs, _, z', rfl, rfl, q, e1, hp.done st rz⟩)
      · exact hp.elim
    · split at hp
      · rename_i ks vs k e1 e2
        obtain ⟨l, a, kvs, rfl, q, ek, rr⟩ := rx.asD st e1
        subst ek
        rcases klook_valV (k := k) rr with ⟨e3, e4⟩ | ⟨z, z', e3, e4, rz⟩
        · rw [e3] at hp; exact hp.elim
        · rw [e3] at hp
          rw [toKy_kV e2 ry]
          refine .inr ⟨a, z', rfl, ?_, hp.done st rz⟩
          rw [← e4]
          exact DGet.k q
      · exact hp.elim
end
section
variable {X : Cx} {κ : Kx} {W : WX} {a b c : Expr} {ma mb mc : ME} {pos : Pos}
theorem se_idx (hk : X.K = κ.K) (hu : X.A.units + 1 < cLine) (ha : PE X a (can κ W (rb κ) ma)) (hb : PE X b (can κ W (rb κ) mb)) (hs : PlainIx b) : PE X (.Subscript a b pos) (can κ W (rv κ) (m2 vIdx ma mb)) :=
  pe_imp (pe_ix (by rw [← hk]; exact ix_M hu) ha hb hs) fun _ _ _ q => can_op ok_idx q
theorem isN_val {S : Hp} {ι : List Addr} {H : Hp} {v : IV} {x : V} (rx : RB κ S ι H v x) : isNon v = decide (x = .non) := by
  rcases rx with q | ⟨o, a, ex, ro, no, ev⟩
  · cases v <;> unfold RV at q <;> first
      | (subst q; rfl)
      | (obtain ⟨rfl, _⟩ := q; rfl)
      | (obtain ⟨_, _, _, rfl, _⟩ := q; rfl)
      | (obtain ⟨_, rfl, _⟩ := q; rfl)
      | exact q.elim
  · subst ex
    rcases ofMO_ne no ev with ⟨xs, rfl, _⟩ | ⟨ks, vs, rfl, _⟩ <;> rfl
theorem isN_of {σ : L2.St} {H : Hp} {Q : VK} (q : can κ W (rv κ) (m1 vIsN ma) σ H Q) : tIsN (can κ W (rb κ) ma) σ H Q := by
  obtain ⟨S, ι, h, σi, st, rs, hp⟩ := q
  refine can_intro st rs hp fun v h1 S1 ι1 H1 x e ex st1 rs1 rx hp1 => ?_
  refine hp1.done st1 ?_
  show RV κ S1 ι1 (.bl (isNon v)) (.bl (decide (x = .non)))
  rw [isN_val rx]
  exact RV.blI _
theorem notN_of {σ : L2.St} {H : Hp} {Q : VK} (q : can κ W (rv κ) (m1 vNotN ma) σ H Q) : tNotN (can κ W (rb κ) ma) σ H Q := by
  obtain ⟨S, ι, h, σi, st, rs, hp⟩ := q
  refine can_intro st rs hp fun v h1 S1 ι1 H1 x e ex st1 rs1 rx hp1 => ?_
  refine hp1.done st1 ?_
  show RV κ S1 ι1 (.bl (!isNon v)) (.bl (!decide (x = .non)))
  rw [isN_val rx]
  exact RV.blI _
theorem se_isN {j : Nat} {pos' : Pos} (ha : PE X a (can κ W (rb κ) ma)) : PE X (.Compare a [.Is] [.Constant .none j pos'] pos) (can κ W (rv κ) (m1 vIsN ma)) := pe_imp (pe_cmp (pc_isN ha)) fun _ _ _ q => isN_of q
theorem se_notN {j : Nat} {pos' : Pos} (ha : PE X a (can κ W (rb κ) ma)) : PE X (.Compare a [.IsNot] [.Constant .none j pos'] pos) (can κ W (rv κ) (m1 vNotN ma)) := pe_imp (pe_cmp (pc_notN ha)) fun _ _ _ q => notN_of q
theorem chain_of {f g : IV → IV → MH → R IV} {r r' : R2} (hf : BinOk κ f r) (hg : BinOk κ g r') {σ : L2.St} {H : Hp} {Q : VK} (q : can κ W (rv κ) (mChain f g ma mb mc) σ H Q) : tChain r r' (can κ W (rb κ) ma) (can κ W (rb κ) mb) (can κ W (rb κ) mc) σ H Q := by
  obtain ⟨S, ι, h, σi, st, rs, hp⟩ := q
  refine can_intro st rs hp fun v h1 S1 ι1 H1 x e ex st1 rs1 rx hp1 => ?_
  refine can_intro st1 rs1 hp1 fun w h2 S2 ι2 H2 y e2 ex2 st2 rs2 ry hp2 => ?_
  refine hf W S2 ι2 h2 H2 σ v w x y _ st2 (rx.ext ex2) ry (PostR.bind hp2 fun z h3 S3 ι3 H3 z' e3 ex3 st3 rz hp3 => ?_)
  have rs3 := rs2.ext ex3
  split at hp3
  · obtain rfl := (RB.of (H := H3) rz).bl
    refine ⟨true, rfl, ?_⟩
    rw [if_pos rfl]
    refine can_intro st3 rs3 hp3 fun u h4 S4 ι4 H4 u' e4 ex4 st4 rs4 ru hp4 => ?_
    exact hg W S4 ι4 h4 H4 σ w u y u' Q st4 (ry.ext (ex3.trans ex4)) ru hp4
  · obtain rfl := (RB.of (H := H3) rz).bl
    refine ⟨false, rfl, ?_⟩
    rw [if_neg Bool.false_ne_true]
    exact hp3.done st3 (RV.blI _)
  · exact hp3.elim
theorem se_chain {op op' : CmpOp} {f g : IV → IV → MH → R IV} {r r' : R2} (ho : OpR X (compareOp op) r) (ho' : OpR X (compareOp op') r') (hf : BinOk κ f r) (hg : BinOk κ g r')
    (ha : PE X a (can κ W (rb κ) ma)) (hb : PE X b (can κ W (rb κ) mb)) (hc : PE X c (can κ W (rb κ) mc)) (hm : lastMarks [op, op'] [b, c] = false) : PE X (.Compare a [op, op'] [b, c] pos) (can κ W (rv κ) (mChain f g ma mb mc)) :=
  pe_imp (pe_chain ho ho' ha hb hc hm) fun _ _ _ q => chain_of hf hg q
end
end Mi
set_option linter.all false
set_option Elab.async false
set_option maxRecDepth 100000
set_option maxHeartbeats 4000000
/-! MiE: slices, tests, calls of the text's own defs, of built-ins, of methods. -/
namespace Mi
open PySem PySem.Spec PyProof.Rows L2

/-! ### argument lists that are read at once -/
def RBs (κ : Kx) (S : Hp) (ι : List Addr) (H : Hp) : List IV → List V → Prop
  | [], ys => ys = []
  | x :: xs, ys => ∃ y r, ys = y :: r ∧ RB κ S ι H x y ∧ RBs κ S ι H xs r
abbrev rbs (κ : Kx) : Rl (List IV) (List V) := fun S ι H v x => RBs κ S ι H v x
section
variable {κ : Kx} {W : WX} {S S' : Hp} {ι ι' : List Addr} {H H' : Hp} {h : MH}
theorem RBs.ext : ∀ {vs : List IV} {xs : List V}, Ext S ι H S' ι' H' → RBs κ S ι H vs xs → RBs κ S' ι' H' vs xs
  | [], _, _, r => r
  | _ :: _, _, e, ⟨y, l, e1, r1, r2⟩ => ⟨y, l, e1, r1.ext e, RBs.ext e r2⟩
theorem RBs.one {v : IV} {xs : List V} (r : RBs κ S ι H [v] xs) : ∃ x, xs = [x] ∧ RB κ S ι H v x := by
  obtain ⟨y, l, rfl, r1, r2⟩ := r
  have r2' : l = [] := r2
  subst r2'
  exact ⟨y, rfl, r1⟩
theorem RBs.two {v w : IV} {xs : List V} (r : RBs κ S ι H [v, w] xs) : ∃ x y, xs = [x, y] ∧ RB κ S ι H v x ∧ RB κ S ι H w y := by
  obtain ⟨y, l, rfl, r1, r2⟩ := r
  obtain ⟨z, rfl, r3⟩ := RBs.one r2
  exact ⟨y, z, rfl, r1, r3⟩
theorem RBs.of : ∀ {vs : List IV} {xs : List V}, RVs κ S ι vs xs → RBs κ S ι H vs xs
  | [], _, r => r.nil_inv
  | _ :: _, _, r => by
    obtain ⟨x, xs, rfl, r1, r2⟩ := r.cons_inv
    exact ⟨x, xs, rfl, .inl r1, RBs.of r2⟩
variable {X : Cx}
theorem sb_nil : PA X [] (can κ W (rbs κ) (mAll [])) := by
  refine pa_imp pa_nil fun σ H Q => ?_
  rintro ⟨S, ι, h, σi, st, rs, hp⟩
  exact hp.done st rfl
theorem sb_cons {e : Expr} {es : List Expr} {m : ME} {ms : List ME} (ha : PE X e (can κ W (rb κ) m)) (hr : PA X es (can κ W (rbs κ) (mAll ms))) (hs : starEach (e :: es) X.env = (false, eval e X.env) :: starEach es X.env) :
    PA X (e :: es) (can κ W (rbs κ) (mAll (m :: ms))) := by
  refine pa_imp (pa_cons ha hr hs) fun σ H Q => ?_
  rintro ⟨S, ι, h, σi, st, rs, hp⟩
  refine can_intro st rs hp fun v h1 S1 ι1 H1 x e ex st1 rs1 rx hp1 => ?_
  refine can_intro st1 rs1 hp1 fun w h2 S2 ι2 H2 y e2 ex2 st2 rs2 ry hp2 => ?_
  exact hp2.done st2 ⟨x, y, rfl, rx.ext ex2, ry⟩
end

/-! ### slices -/
section
variable {X : Cx} {κ : Kx} {W : WX} {a b c : Expr} {ma mb mc : ME} {pos p2 : Pos} {lo hi : Option Expr} {ml mh : Option ME}
theorem so_none : PO X none (can κ W ro (mPart none)) := by
  refine po_imp po_none fun σ H Q => ?_
  rintro ⟨S, ι, h, σi, st, rs, hp⟩
  exact hp.done st rfl
theorem so_some {e : Expr} {m : ME} (he : PE X e (can κ W (rv κ) m)) : PO X (some e) (can κ W ro (mPart (some m))) := by
  refine po_imp (po_some he) fun σ H Q => ?_
  rintro ⟨S, ι, h, σi, st, rs, hp⟩
  refine can_intro st rs hp fun v h1 S1 ι1 H1 x e ex st1 rs1 rx hp1 => ?_
  split at hp1
  · rw [(RB.of (H := H1) rx).int]
    exact ⟨_, rfl, hp1.done st1 rfl⟩
  · exact hp1.elim
theorem cut_same {κ : Kx} {S : Hp} {ι : List Addr} {xs : List IV} {vs : List V} (r : RVs κ S ι xs vs) (lo hi : Option Int) : RVs κ S ι (cutI xs lo hi) (cutV vs lo hi) := by
  have e : ∀ n d o, Mi.sIx n d o = HT.sIx n d o := fun n d o => by cases o <;> rfl
  unfold cutI cutV
  rw [e, e, r.length]
  exact (r.drop _).take _
theorem cutI_le {α : Type} (xs : List α) (lo hi : Option Int) : (cutI xs lo hi).length ≤ xs.length := by
  unfold cutI
  rw [List.length_take, List.length_drop]
  omega
theorem cutI_whole {α : Type} {xs : List α} {lo hi : Option Int} (h : HT.sIx xs.length 0 lo = 0 ∧ HT.sIx xs.length xs.length hi = xs.length) : cutI xs lo hi = xs := by
  have e : ∀ n d o, Mi.sIx n d o = HT.sIx n d o := fun n d o => by cases o <;> rfl
  unfold cutI
  rw [e, e, h.1, h.2, List.drop_zero, Nat.sub_zero, List.take_length]
def rSlM (K : PySem.W.Frag) : V → Option Int → Option Int → Hp → VK → Prop := fun x lo hi H Q => rSlL K x lo hi H Q ∨ rSlA K x lo hi H Q ∨ rSlS x lo hi H Q
theorem se_slc (hk : X.K = κ.K) (ha : PE X a (can κ W (rb κ) ma)) (hl : PO X lo (can κ W ro (mPart ml))) (hh : PO X hi (can κ W ro (mPart mh))) : PE X (.Subscript a (.Slice lo hi none p2) pos) (can κ W (rv κ) (mSlc ma ml mh)) := by
  refine pe_imp (pe_slice (r := rSlM X.K) (SlR.or sl_list (SlR.or sl_tupA sl_str)) ha hl hh) fun σ H Q => ?_
  rintro ⟨S, ι, h, σi, st, rs, hp⟩
  refine can_intro st rs hp fun v h1 S1 ι1 H1 x e ex st1 rs1 rx hp1 => ?_
  refine can_intro st1 rs1 hp1 fun l h2 S2 ι2 H2 l' e2 ex2 st2 rs2 rl hp2 => ?_
  refine can_intro st2 rs2 hp2 fun u h3 S3 ι3 H3 u' e3 ex3 st3 rs3 ru hp3 => ?_
  have rl' : l = l' := rl
  have ru' : u = u' := ru
  subst rl'
  subst ru'
  have rx3 := rx.ext (ex2.trans ex3)
  rw [hk]
  unfold vSlc at hp3
  split at hp3
  · obtain ⟨ll, a, vs, rfl, q, rr⟩ := rx3.tup st3
    refine .inr (.inl ⟨a, vs, rfl, q, fun z => ?_, fun _ => newTup hp3 st3 (cut_same rr _ _) (Nat.le_trans (cutI_le _ _ _) ll)⟩)
    rw [← rr.length] at z
    rw [cutI_whole z] at hp3
    exact hp3.done st3 (rx3.flat (fun _ z => by cases z) (fun _ _ z => by cases z))
  · rename_i s
    obtain ⟨rfl, os⟩ := rx3.str
    refine .inr (.inr ⟨_, rfl, os.1, ?_⟩)
    have e0 : (⟨(cutI s.cps.toList l u).toArray⟩ : Str) = cutS s l u := by
      have e : ∀ n d o, Mi.sIx n d o = HT.sIx n d o := fun n d o => by cases o <;> rfl
      unfold cutI cutS
      rw [e, e] <;> rfl
    have ok : SOk (cutS s l u) := by
      rw [← e0]
      refine ⟨?_, ?_⟩
      · show (cutI s.cps.toList l u).toArray.size ≤ line
        rw [List.size_toArray]
        exact Nat.le_trans (cutI_le _ _ _) os.1
      · have h2 := os.2
        unfold PyData.strOk at h2 ⊢
        rw [Array.all_eq_true_iff_forall_mem] at h2 ⊢
        intro c hc
        have hc' : c ∈ cutI s.cps.toList l u := by simpa using hc
        exact h2 c (by simpa using (List.drop_subset _ _ (List.take_subset _ _ hc')))
    rw [← e0] at ok ⊢
    exact hp3.done st3 (RV.strI ok)
  · split at hp3
    · rename_i xs e0
      obtain ⟨ll, a, vs, rfl, q, rr⟩ := rx3.asL st3 e0
      exact .inl ⟨a, vs, rfl, q, newLst hp3 st3 (cut_same rr _ _) (Nat.le_trans (cutI_le _ _ _) ll)⟩
    · exact hp3.elim
theorem RVs.reverse {κ : Kx} {S : Hp} {ι : List Addr} : ∀ {xs : List IV} {vs : List V}, RVs κ S ι xs vs → RVs κ S ι xs.reverse vs.reverse
  | [], _, h => by rw [h.nil_inv]; exact RVs.nil
  | x :: xs, _, h => by
    obtain ⟨y, ys, rfl, r1, r2⟩ := h.cons_inv
    rw [List.reverse_cons, List.reverse_cons]
    exact (RVs.reverse r2).append (RVs.cons r1 RVs.nil)
theorem se_rev {k : Nat} {p1 q2 p3 : Pos} (hk : X.K = κ.K) (ha : PE X a (can κ W (rb κ) ma)) : PE X (.Subscript a (.Slice none none (some (.UnaryOp .USub (.Constant (.int 1) k p1) q2)) p3) pos) (can κ W (rv κ) (m1 vRev ma)) := by
  refine pe_imp (pe_revL ha) fun σ H Q => ?_
  rintro ⟨S, ι, h, σi, st, rs, hp⟩
  refine can_intro st rs hp fun v h1 S1 ι1 H1 x e ex st1 rs1 rx hp1 => ?_
  rw [hk]
  unfold vRev at hp1
  split at hp1
  · rename_i xs e0
    obtain ⟨ll, a, vs, rfl, q, rr⟩ := rx.asL st1 e0
    exact ⟨a, vs, rfl, q, newLst hp1 st1 rr.reverse (by rw [List.length_reverse]; exact ll)⟩
  · exact hp1.elim
/-! ### tests -/
theorem st_not {t : TT} {m : MT} (ha : PT X a (can κ W Mi.rt m)) : PT X (.UnaryOp .Not a pos) (can κ W Mi.rt (Mi.tNot m)) := by
  refine pt_imp (pt_not ha) fun σ H Q => ?_
  rintro ⟨S, ι, h, σi, st, rs, hp⟩
  refine can_intro st rs hp fun v h1 S1 ι1 H1 x e ex st1 rs1 rx hp1 => ?_
  have rx' : v = x := rx
  subst rx'
  exact hp1.done st1 rfl
theorem sw_and1 {m : MT} (ha : PT X a (can κ W Mi.rt m)) : PW X (.BoolOp .And [a] pos) (can κ W Mi.rt m) := pw_and1 ha
theorem sw_or1 {m : MT} (ha : PT X a (can κ W Mi.rt m)) : PW X (.BoolOp .Or [a] pos) (can κ W Mi.rt m) := pw_or1 ha
theorem pw_imp {e : Expr} {te te' : TT} (h : PW X e te) (i : ∀ σ H Q, te' σ H Q → te σ H Q) : PW X e te' := ⟨fun wh pins s σ H Q I q => h.run wh pins s σ H Q I (i σ H Q q)⟩
theorem sw_and {rest : List Expr} {m n : MT} (ha : PT X a (can κ W Mi.rt m)) (hb : PW X (.BoolOp .And (b :: rest) pos) (can κ W Mi.rt n)) : PW X (.BoolOp .And (a :: b :: rest) pos) (can κ W Mi.rt (Mi.tAnd m n)) := by
  refine pw_imp (pw_and ha hb) fun σ H Q => ?_
  rintro ⟨S, ι, h, σi, st, rs, hp⟩
  refine can_intro st rs hp fun v h1 S1 ι1 H1 x e ex st1 rs1 rx hp1 => ?_
  have rx' : v = x := rx
  subst rx'
  cases v with
  | true => exact iteT (can_last st1 rs1 hp1)
  | false => exact iteF (hp1.done st1 rfl)
theorem sw_or {rest : List Expr} {m n : MT} (ha : PT X a (can κ W Mi.rt m)) (hb : PW X (.BoolOp .Or (b :: rest) pos) (can κ W Mi.rt n)) : PW X (.BoolOp .Or (a :: b :: rest) pos) (can κ W Mi.rt (Mi.tOr m n)) := by
  refine pw_imp (pw_or ha hb) fun σ H Q => ?_
  rintro ⟨S, ι, h, σi, st, rs, hp⟩
  refine can_intro st rs hp fun v h1 S1 ι1 H1 x e ex st1 rs1 rx hp1 => ?_
  have rx' : v = x := rx
  subst rx'
  cases v with
  | true => exact iteT (hp1.done st1 rfl)
  | false => exact iteF (can_last st1 rs1 hp1)
theorem se_if {m : MT} (ht : PT X c (can κ W Mi.rt m)) (ha : PE X a (can κ W (rv κ) ma)) (hb : PE X b (can κ W (rv κ) mb)) : PE X (.IfExp c a b pos) (can κ W (rv κ) (mIf m ma mb)) := by
  refine pe_imp (pe_ifExp ht ha hb) fun σ H Q => ?_
  rintro ⟨S, ι, h, σi, st, rs, hp⟩
  refine can_intro st rs hp fun v h1 S1 ι1 H1 x e ex st1 rs1 rx hp1 => ?_
  have rx' : v = x := rx
  subst rx'
  cases v with
  | true => exact iteT (can_last st1 rs1 hp1)
  | false => exact iteF (can_last st1 rs1 hp1)
/-- a comparison as a test -/
theorem st_val {m : ME} (ha : PE X a (can κ W (rv κ) m)) (he : ∀ whole, isTrue a X.env whole = (do let v ← whole; standAt a.pos; holding [v] (truthy v))) (hk : X.K = κ.K) : PT X a (can κ W Mi.rt (tTru m)) :=
  st_tru hk (se_b ha) he
end

/-! ### calls of the text's own defs -/
/-- the promise of a def: whatever the mini-interpreter answers -/
def spI (κ : Kx) (rc : Rec) (f np : Nat) : Sp := fun vs H Q E => ∃ S ι h ivs, Stt κ S ι h H ∧ RVs κ S ι ivs vs ∧ vs.length = np ∧ PostR κ (fun c d _ H => E c d H) (rv κ) Q S ι H [] (rc f ivs h)
theorem PostR.wish {α β : Type} {κ : Kx} {W W' : WX} {rel : Rl α β} {Q : β → Hp → Prop} {S : Hp} {ι : List Addr} {H : Hp} {σ σ' : L2.St} {r : R α} (p : PostR κ W rel Q S ι H σ r) (h : ∀ c d H, W c d σ H → W' c d σ' H) : PostR κ W' rel Q S ι H σ' r := by
  cases r with
  | ok v h' => exact p
  | ex e h' => exact fun S' ι' H' cls d e' st rx => h _ _ _ (p S' ι' H' cls d e' st rx)
  | bad => exact p
section
variable {X : Cx} {κ : Kx} {W : WX} {k : Nat} {f : Addr} {fd : FuncData} {ps : List Str} {rc : Rec} {n : Nat} {x : Str} {p pos : Pos} {e : Expr} {es : List Expr} {ms : List ME} {dl : List IV} {dvs : List V} {ds : List Value}
theorem se_callD (F : FnOk X.prog X.w X.K X.mg X.base (L2.CX X.prog X.w) k f fd ps (spI κ rc n ps.length)) (hr : Room k X.A) (hg : Gl X x) (hm : X.mg x = some (.ref f)) (hk : PySem.W.keepIn X.K (.ref f) = true) (hb : Binds X.K fd ps ds) (hd : Vals dvs ds)
    (hdl : ∀ S ι, RVs κ S ι dl dvs) (hl : (ms.length + dl.length) = ps.length) (tk : Takes X W) (ha : PA X (e :: es) (can κ W (rvs κ) (mAll ms)))
    (hdb : (x == ("__debug__" : Str)) = false) (he : starEach (e :: es) X.env = (false, eval e X.env) :: starEach es X.env) (hpl : (backTo pos (starEach es X.env)).any (·.1) = false) :
    PE X (.Call (.Name x p) (e :: es) [] pos) (can κ W (rv κ) (mCallD rc n ms dl)) := by
  refine pe_imp (pe_callSD (E := WE W) F hr hg hm hk hb hd (fun σ => passAt tk σ) ha hdb he hpl) fun σ H Q => ?_
  rintro ⟨S, ι, h, σi, st, rs, hp⟩
  refine can_intro st rs hp fun v h1 S1 ι1 H1 x e ex st1 rs1 rx hp1 => ?_
  refine ⟨S1, ι1, h1, v ++ dl, st1, rx.append (hdl S1 ι1), ?_, hp1.wish fun _ _ _ z => z⟩
  rw [List.length_append, ← rx.length, mAll_length e, ← (hdl S1 ι1).length]
  exact hl
theorem se_call (F : FnOk X.prog X.w X.K X.mg X.base (L2.CX X.prog X.w) k f fd ps (spI κ rc n ps.length)) (hr : Room k X.A) (hg : Gl X x) (hm : X.mg x = some (.ref f)) (hk : PySem.W.keepIn X.K (.ref f) = true) (hb : Binds X.K fd ps [])
    (hl : ms.length = ps.length) (tk : Takes X W) (ha : PA X (e :: es) (can κ W (rvs κ) (mAll ms)))
    (hdb : (x == ("__debug__" : Str)) = false) (he : starEach (e :: es) X.env = (false, eval e X.env) :: starEach es X.env) (hpl : (backTo pos (starEach es X.env)).any (·.1) = false) :
    PE X (.Call (.Name x p) (e :: es) [] pos) (can κ W (rv κ) (mCall rc n ms)) := by
  have q := se_callD (p := p) (pos := pos) (dl := []) (dvs := []) F hr hg hm hk hb .nil (fun _ _ => RVs.nil) (by simpa using hl) tk ha hdb he hpl
  refine pe_imp q fun σ H Q => ?_
  rintro ⟨S, ι, h, σi, st, rs, hp⟩
  refine ⟨S, ι, h, σi, st, rs, ?_⟩
  unfold mCallD
  unfold mCall at hp
  simpa only [List.append_nil] using hp
end

/-! ### built-ins -/
def CallOk (κ : Kx) (f : List IV → MH → R IV) (r : List V → Hp → VK → Prop) : Prop := ∀ (W : WX) (S : Hp) (ι : List Addr) (h : MH) (H : Hp) (σ : L2.St) (vs : List IV) (xs : List V) (Q : VK),
  Stt κ S ι h H → RBs κ S ι H vs xs → PostR κ W (rv κ) Q S ι H σ (f vs h) → r xs H Q
section
variable {X : Cx} {κ : Kx} {W : WX} {x : Str} {p pos : Pos} {e : Expr} {es : List Expr} {ms : List ME} {id T : String} {f : List IV → MH → R IV} {r : List V → Hp → VK → Prop}
theorem can_cb (hf : CallOk κ f r) {σ : L2.St} {H : Hp} {Q : VK} (q : can κ W (rv κ) (mB f ms) σ H Q) : tCB r (can κ W (rbs κ) (mAll ms)) σ H Q := by
  obtain ⟨S, ι, h, σi, st, rs, hp⟩ := q
  refine can_intro st rs hp fun v h1 S1 ι1 H1 x e ex st1 rs1 rx hp1 => ?_
  exact hf W S1 ι1 h1 H1 σ v x Q st1 rx hp1
theorem se_blt (hc : CallR X (.builtin id) r) (hf : CallOk κ f r) (hg : Gl X x) (hm : X.mg x = none) (hv : bootBuiltins x = some (.builtin id)) (ha : PA X (e :: es) (can κ W (rbs κ) (mAll ms))) (hn : x ≠ "__name__") (hdb : (x == ("__debug__" : Str)) = false)
    (he : starEach (e :: es) X.env = (false, eval e X.env) :: starEach es X.env) (hpl : (backTo pos (starEach es X.env)).any (·.1) = false) : PE X (.Call (.Name x p) (e :: es) [] pos) (can κ W (rv κ) (mB f ms)) :=
  pe_imp (pe_callB hc hg hm hv ha hn hdb he hpl) fun _ _ _ q => can_cb hf q
theorem se_bty (hc : CallR X (.type T) r) (hf : CallOk κ f r) (hg : Gl X x) (hm : X.mg x = none) (hv : bootBuiltins x = some (.type T)) (ha : PA X (e :: es) (can κ W (rbs κ) (mAll ms))) (hn : x ≠ "__name__") (hdb : (x == ("__debug__" : Str)) = false)
    (he : starEach (e :: es) X.env = (false, eval e X.env) :: starEach es X.env) (hpl : (backTo pos (starEach es X.env)).any (·.1) = false) : PE X (.Call (.Name x p) (e :: es) [] pos) (can κ W (rv κ) (mB f ms)) :=
  pe_imp (pe_callTy hc hg hm hv ha hn hdb he hpl) fun _ _ _ q => can_cb hf q
end
section
variable {κ : Kx}
def rLenM (K : PySem.W.Frag) : List V → Hp → VK → Prop := fun xs H Q => (∃ x n, xs = [x] ∧ LenV K x H n ∧ Q (.int n) H) ∨ ∃ a kvs, xs = [V.ref a] ∧ H a = some (.dK kvs) ∧ Q (.int kvs.length) H
theorem call_lenM {X : Cx} : CallR X (.builtin "len") (rLenM X.K) := CallR.or call_len call_lenD
theorem ok_len : CallOk κ bLen (rLenM κ.K) := by
  intro W S ι h H σ vs xs Q st rx hp
  unfold bLen at hp
  split at hp
  · obtain ⟨x, rfl, r⟩ := rx.one
    unfold vLen at hp
    split at hp
    · obtain ⟨rfl, os⟩ := r.str
      exact .inl ⟨_, _, rfl, ⟨os.1, rfl⟩, hp.done st (RV.intI _)⟩
    · obtain ⟨ll, a, us, rfl, q, rr⟩ := r.tup st
      exact .inl ⟨_, _, rfl, .inr ⟨us, q, rr.length⟩, hp.done st (RV.intI _)⟩
    · split at hp
      · rename_i ys e0
        obtain ⟨ll, a, us, rfl, q, rr⟩ := r.asL st e0
        exact .inl ⟨_, _, rfl, .inl ⟨us, q, rr.length⟩, hp.done st (RV.intI _)⟩
      · split at hp
        · rename_i ks ws e1
          obtain ⟨ll, a, kvs, rfl, q, ek, rr⟩ := r.asD st e1
          subst ek
          rw [List.length_map] at hp
          exact .inr ⟨a, kvs, rfl, q, hp.done st (RV.intI _)⟩
        · exact hp.elim
  · exact hp.elim
def rIntM : List V → Hp → VK → Prop := fun xs H Q => (∃ i, xs = [.int i] ∧ Q (.int i) H) ∨ ∃ k, xs = [.bl k] ∧ Q (.int (if k then 1 else 0)) H
theorem ok_int : CallOk κ bInt rIntM := by
  intro W S ι h H σ vs xs Q st rx hp
  unfold bInt at hp
  split at hp
  · obtain ⟨x, rfl, r⟩ := rx.one
    rw [r.int]
    exact .inl ⟨_, rfl, hp.done st (RV.intI _)⟩
  · obtain ⟨x, rfl, r⟩ := rx.one
    rw [r.bl]
    exact .inr ⟨_, rfl, hp.done st (RV.intI _)⟩
  · exact hp.elim
theorem ok_min : CallOk κ bMin (fun xs H Q => ∃ i j, xs = [.int i, .int j] ∧ Q (.int (if j < i then j else i)) H) := by
  intro W S ι h H σ vs xs Q st rx hp
  unfold bMin at hp
  split at hp
  · obtain ⟨x, y, rfl, r, r'⟩ := rx.two
    rw [r.int, r'.int]
    exact ⟨_, _, rfl, hp.done st (RV.intI _)⟩
  · exact hp.elim
theorem ok_max : CallOk κ bMax (fun xs H Q => ∃ i j, xs = [.int i, .int j] ∧ Q (.int (if j > i then j else i)) H) := by
  intro W S ι h H σ vs xs Q st rx hp
  unfold bMax at hp
  split at hp
  · obtain ⟨x, y, rfl, r, r'⟩ := rx.two
    rw [r.int, r'.int]
    exact ⟨_, _, rfl, hp.done st (RV.intI _)⟩
  · exact hp.elim
theorem ok_list : CallOk κ bList (fun xs H Q => ∃ p ys, xs = [.ref p] ∧ (SqL κ.K H p ys ∨ SqT κ.K H p ys) ∧ ∀ l, H l = none → Q (.ref l) (upd H l (.lst ys))) := by
  intro W S ι h H σ vs xs Q st rx hp
  unfold bList at hp
  split at hp
  · obtain ⟨x, rfl, r⟩ := rx.one
    obtain ⟨ll, a, us, rfl, q, rr⟩ := r.tup st
    exact ⟨a, us, rfl, .inr q, newLst hp st rr ll⟩
  · obtain ⟨x, rfl, r⟩ := rx.one
    split at hp
    · rename_i ys e0
      obtain ⟨ll, a, us, rfl, q, rr⟩ := r.asL st e0
      exact ⟨a, us, rfl, .inl q, newLst hp st rr ll⟩
    · exact hp.elim
  · exact hp.elim
theorem ok_tuple : CallOk κ bTuple (fun xs H Q => ∃ p ys, xs = [.ref p] ∧ ((SqL κ.K H p ys ∧ ∀ l, H l = none → Q (.ref l) (upd H l (.tup ys))) ∨ (SqT κ.K H p ys ∧ Q (.ref p) H))) := by
  intro W S ι h H σ vs xs Q st rx hp
  unfold bTuple at hp
  split at hp
  · obtain ⟨x, rfl, r⟩ := rx.one
    obtain ⟨ll, a, us, rfl, q, rr⟩ := r.tup st
    exact ⟨a, us, rfl, .inr ⟨q, hp.done st (r.flat (fun _ z => by cases z) (fun _ _ z => by cases z))⟩⟩
  · obtain ⟨x, rfl, r⟩ := rx.one
    split at hp
    · rename_i ys e0
      obtain ⟨ll, a, us, rfl, q, rr⟩ := r.asL st e0
      exact ⟨a, us, rfl, .inl ⟨q, newTup hp st rr ll⟩⟩
    · exact hp.elim
  · exact hp.elim
theorem asBls_ok {S : Hp} {ι : List Addr} : ∀ {xs : List IV} {bs : List Bool} {vs : List V}, asBls xs = some bs → RVs κ S ι xs vs → vs = bs.map V.bl
  | [], bs, vs, e, r => by cases e; exact r.nil_inv
  | x :: xs, bs, vs, e, r => by
    obtain ⟨y, ys, rfl, r1, r2⟩ := r.cons_inv
    unfold asBls at e
    split at e
    · rename_i h; cases h
    · rename_i b l h
      cases h
      obtain ⟨l', e1, rfl⟩ := Option.map_eq_some_iff.mp e
      rw [(RB.of (H := S) r1).bl, asBls_ok e1 r2] <;> rfl
    · cases e
theorem ok_all : CallOk κ bAll (rAll κ.K) := by
  intro W S ι h H σ vs xs Q st rx hp
  unfold bAll at hp
  split at hp
  · obtain ⟨x, rfl, r⟩ := rx.one
    split at hp
    · rename_i bs e0
      obtain ⟨ys, e1, e2⟩ := Option.bind_eq_some_iff.mp e0
      obtain ⟨ll, a, us, rfl, q, rr⟩ := r.asL st e1
      rw [asBls_ok e2 rr] at q
      exact ⟨a, bs, rfl, q, hp.done st (RV.blI _)⟩
    · exact hp.elim
  · exact hp.elim
theorem ok_any : CallOk κ bAny (rAny κ.K) := by
  intro W S ι h H σ vs xs Q st rx hp
  unfold bAny at hp
  split at hp
  · obtain ⟨x, rfl, r⟩ := rx.one
    split at hp
    · rename_i bs e0
      obtain ⟨ys, e1, e2⟩ := Option.bind_eq_some_iff.mp e0
      obtain ⟨ll, a, us, rfl, q, rr⟩ := r.asL st e1
      rw [asBls_ok e2 rr] at q
      exact ⟨a, bs, rfl, q, hp.done st (RV.blI _)⟩
    · exact hp.elim
  · exact hp.elim
/-! dict(..) -/
theorem kset_ok {S : Hp} {ι : List Addr} {k : Ky} {v : IV} {x : V} (r : RV κ S ι v x) : ∀ {kvs : List (Ky × V)} {ws : List IV}, RVs κ S ι ws (kvs.map (·.2)) →
    RVs κ S ι (kset (kvs.map (·.1)) ws k v) ((kvs.map fun kv => if kv.1 = k then (kv.1, x) else kv).map (·.2))
  | [], ws, h => by cases ws <;> exact RVs.nil
  | (q, y) :: kvs, ws, h => by
    cases ws with
    | nil => have := h.nil_inv; cases this
    | cons w ws =>
      obtain ⟨z, zs, e, r1, r2⟩ := h.cons_inv
      cases e
      have ih := kset_ok (k := k) r r2
      show RVs κ S ι ((if q = k then v else w) :: kset (kvs.map (·.1)) ws k v) ((if q = k then (q, x) else (q, y)).2 :: (kvs.map fun kv => if kv.1 = k then (kv.1, x) else kv).map (·.2))
      by_cases hq : q = k
      · rw [if_pos hq, if_pos hq]; exact RVs.cons r ih
      · rw [if_neg hq, if_neg hq]; exact RVs.cons r1 ih
theorem kput_ok {S : Hp} {ι : List Addr} {kvs : List (Ky × V)} {ws : List IV} {k : Ky} {v : IV} {x : V} (rw_ : RVs κ S ι ws (kvs.map (·.2))) (r : RV κ S ι v x) :
    (kput (kvs.map (·.1)) ws k v).1 = (putK kvs k x).map (·.1) ∧ RVs κ S ι (kput (kvs.map (·.1)) ws k v).2 ((putK kvs k x).map (·.2)) := by
  unfold kput putK
  have e0 : ((kvs.map (·.1)).any fun q => decide (q = k)) = kvs.any fun kv => decide (kv.1 = k) := by rw [List.any_map] <;> rfl
  rw [e0]
  by_cases ha : (kvs.any fun kv => decide (kv.1 = k)) = true
  · rw [if_pos ha, if_pos ha]
    refine ⟨?_, kset_ok r rw_⟩
    rw [List.map_map]
    refine List.map_congr_left fun p _ => ?_
    show p.1 = (if p.1 = k then (p.1, x) else p).1
    split <;> rfl
  · rw [if_neg ha, if_neg ha, List.map_append, List.map_append]
    exact ⟨rfl, rw_.append (RVs.cons r RVs.nil)⟩
theorem kmerge_ok {S : Hp} {ι : List Addr} : ∀ {more : List (Ky × V)} {ps : List (Ky × IV)} {kvs : List (Ky × V)} {ws : List IV}, RVs κ S ι ws (kvs.map (·.2)) → ps.map (·.1) = more.map (·.1) → RVs κ S ι (ps.map (·.2)) (more.map (·.2)) →
    (kmerge (kvs.map (·.1)) ws ps).1 = (mergeK kvs more).map (·.1) ∧ RVs κ S ι (kmerge (kvs.map (·.1)) ws ps).2 ((mergeK kvs more).map (·.2))
  | [], ps, kvs, ws, h, e, r => by
    have : ps = [] := by simpa using e
    subst this
    exact ⟨rfl, h⟩
  | (k, x) :: more, ps, kvs, ws, h, e, r => by
    cases ps with
    | nil => cases e
    | cons p ps =>
      obtain ⟨q, v⟩ := p
      have e1 : q = k := by injection e
      have e2 : ps.map (·.1) = more.map (·.1) := by injection e
      subst e1
      obtain ⟨y, ys, e3, r1, r2⟩ := RVs.cons_inv (v := v) (vs := ps.map (·.2)) r
      cases e3
      obtain ⟨f1, f2⟩ := kput_ok (k := q) h r1
      have ih := kmerge_ok (kvs := putK kvs q x) f2 e2 r2
      have e4 : mergeK kvs ((q, x) :: more) = mergeK (putK kvs q x) more := rfl
      have e5 : kmerge (kvs.map (·.1)) ws ((q, v) :: ps) = kmerge (kput (kvs.map (·.1)) ws q v).1 (kput (kvs.map (·.1)) ws q v).2 ps := rfl
      rw [e4, e5, f1]
      exact ih
theorem asPairs_ok {S H : Hp} {ι : List Addr} {h : MH} (st : Stt κ S ι h H) : ∀ {xs : List IV} {ps : List (Ky × IV)} {vs : List V}, asPairs xs = some ps → RVs κ S ι xs vs →
    ps.length = xs.length ∧ ∃ (as : List Addr) (kvs : List (Ky × V)), vs = as.map V.ref ∧ Paired (fun p kv => SqT κ.K H p [kV kv.1, kv.2]) as kvs ∧ ps.map (·.1) = kvs.map (·.1) ∧ RVs κ S ι (ps.map (·.2)) (kvs.map (·.2))
  | [], ps, vs, e, r => by
    cases e
    exact ⟨rfl, [], [], r.nil_inv, .nil, rfl, RVs.nil⟩
  | x :: xs, ps, vs, e, r => by
    obtain ⟨y, ys, rfl, r1, r2⟩ := r.cons_inv
    unfold asPairs at e
    split at e
    · rename_i h; cases h
    · rename_i k v l h
      cases h
      split at e
      · rename_i q l' e1 e2
        cases e
        obtain ⟨hl, as, kvs, rfl, hp, ek, rr⟩ := asPairs_ok st e2 r2
        obtain ⟨_, a, us, rfl, sq, ru⟩ := (RB.of (H := H) r1).tup st
        obtain ⟨u1, us1, rfl, ra, rb⟩ := ru.cons_inv
        obtain ⟨u2, us2, rfl, rc, rd⟩ := rb.cons_inv
        rw [rd.nil_inv] at sq
        rw [toKy_kV e1 (RB.of (H := H) ra)] at sq
        exact ⟨by rw [List.length_cons, List.length_cons, hl], a :: as, (q, u2) :: kvs, rfl, .cons sq hp, by rw [List.map_cons, List.map_cons, ek], RVs.cons rc rr⟩
      · cases e
    · cases e
theorem call_dictC {X : Cx} : CallR X (.type "dict") (fun xs H Q => ∃ a kvs, xs = [.ref a] ∧ H a = some (.dK kvs) ∧ ∀ p, H p = none → Q (.ref p) (upd H p (.dK kvs))) := by
  intro pins s σ H xs us Q I r q
  obtain ⟨a, kvs, rfl, ha, q⟩ := q
  obtain ⟨u, rfl, rx⟩ := vals1 r
  cases rx
  exact d_copyOf I (.inl ha) fun p s' hp I' => ⟨.ref p, _, I', rfl, q p hp⟩
def rDictM (K : PySem.W.Frag) : List V → Hp → VK → Prop := fun xs H Q => (∃ a kvs, xs = [.ref a] ∧ H a = some (.dK kvs) ∧ ∀ p, H p = none → Q (.ref p) (upd H p (.dK kvs))) ∨
  ∃ (a : Addr) (ps : List Addr) (kvs : List (Key × V)), xs = [.ref a] ∧ SqL K H a (ps.map V.ref) ∧ Paired (fun p kv => SqT K H p [kV kv.1, kv.2]) ps kvs ∧ ∀ p, H p = none → Q (.ref p) (upd H p (.dK (mergeK [] kvs)))
theorem call_dictM {X : Cx} (hc : X.calm = true) : CallR X (.type "dict") (rDictM X.K) := CallR.or call_dictC (call_dictP hc)
theorem newDic {W : WX} {S : Hp} {ι : List Addr} {H : Hp} {h : MH} {σ : L2.St} {Q : VK} {ks : List Ky} {vs : List IV} {kvs : List (Ky × V)} (p : PostR κ W (rv κ) Q S ι H σ (.ok (.dic ks vs) h)) (st : Stt κ S ι h H) (ek : ks = kvs.map (·.1)) (r : RVs κ S ι vs (kvs.map (·.2))) (hl : ks.length ≤ line) :
    ∀ p, H p = none → Q (.ref p) (upd H p (.dK kvs)) := fun q hq => by
  obtain ⟨st', e⟩ := st.newS (u := .dK kvs) hq
  refine p _ _ _ _ e st' ?_
  show RV κ _ _ (.dic ks vs) (.ref q)
  unfold RV
  exact ⟨hl, q, kvs, rfl, upd_same, ek, r.ext e⟩
theorem ok_dict : CallOk κ bDict (rDictM κ.K) := by
  intro W S ι h H σ vs xs Q st rx hp
  unfold bDict at hp
  split at hp
  · obtain ⟨x, rfl, r⟩ := rx.one
    split at hp
    · rename_i ks ws e1
      obtain ⟨ll, a, kvs, rfl, q, ek, rr⟩ := r.asD st e1
      exact .inl ⟨a, kvs, rfl, q, newDic hp st ek rr ll⟩
    · split at hp
      · rename_i ps e0
        obtain ⟨ys, e1, e2⟩ := Option.bind_eq_some_iff.mp e0
        obtain ⟨ll, a, us, rfl, q, rr⟩ := r.asL st e1
        obtain ⟨hl, as, kvs, rfl, hpr, ek, rk⟩ := asPairs_ok st e2 rr
        obtain ⟨f1, f2⟩ := kmerge_ok (kvs := []) (ws := []) RVs.nil ek rk
        refine .inr ⟨a, as, kvs, rfl, q, hpr, newDic hp st f1 f2 ?_⟩
        have h1 := length_mergeK kvs []
        have h2 : kvs.length = ps.length := by
          have := congrArg List.length ek
          rw [List.length_map, List.length_map] at this
          exact this.symm
        have f1' : (kmerge [] [] ps).1 = (mergeK [] kvs).map (·.1) := f1
        rw [f1', List.length_map]
        have h0 : ([] : List (Ky × V)).length = 0 := rfl
        omega
      · exact hp.elim
  · exact hp.elim
/-! isinstance -/
theorem kitB_ty (t T : Ty) : kitB t.name T.name = some (isTy t T) := by
  cases t <;> cases T <;> decide +kernel
theorem tyX_of {S H : Hp} {ι : List Addr} {h : MH} {v : IV} {x : V} {t : Ty} (st : Stt κ S ι h H) (e : tyOf h v = some t) (r : RB κ S ι H v x) : TyX κ.K H x (.type t.name) := by
  unfold tyOf at e
  split at e
  · cases e; rw [r.non]; exact .base .non
  · cases e; rw [r.bl]; exact .base (.bl _)
  · cases e; rw [r.int]; exact .base (.int _)
  · cases e; rw [r.str.1]; exact .base (.str _)
  · cases e
    obtain ⟨_, a, vs, rfl, q, rr⟩ := r.tup st
    rcases q with (q | ⟨o, q⟩) | ⟨o, its, n, q, c, _⟩
    · exact .base (.tup q)
    · exact .fTuple q
    · exact .kTuple q c
  · split at e
    · rename_i ys e0
      cases e
      obtain ⟨_, a, vs, rfl, q, rr⟩ := r.asL st e0
      rcases q with (q | ⟨o, q⟩) | ⟨o, its, n, q, c, _⟩
      · exact .base (.lst q)
      · exact .base (.frz q)
      · exact .kList q c
    · obtain ⟨⟨ks, ws⟩, e1, rfl⟩ := Option.map_eq_some_iff.mp e
      obtain ⟨_, a, kvs, rfl, q, _, _⟩ := r.asD st e1
      exact .base (.dK q)
end
section
variable {X : Cx} {κ : Kx} {W : WX} {x : Str} {p pos p2 : Pos} {e : Expr} {m : ME}
/-- isinstance(e, T), T a built-in class -/
theorem se_isi {y : Str} (T : Ty) (hk : X.K = κ.K) (hg : Gl X "isinstance") (hm : X.mg "isinstance" = none) (hy : Gl X y) (hmy : X.mg y = none) (hv : bootBuiltins y = some (.type T.name)) (hny : y ≠ "__name__") (hdy : (y == ("__debug__" : Str)) = false)
    (ha : PE X e (can κ W (rb κ) m)) (he : starEach (e :: [.Name y p2]) X.env = (false, eval e X.env) :: starEach [.Name y p2] X.env) :
    PE X (.Call (.Name "isinstance" p) [e, .Name y p2] [] pos) (can κ W (rv κ) (m1 (vIsi T) m)) := by
  refine pe_imp (pe_callB call_isi hg hm (by decide +kernel) (pa_cons ha (pa_cons (pe_bltn hy hmy hv (show RelV (.ty T.name) (.type T.name) from rfl) hny hdy) pa_nil (by rfl)) he) (by decide) (by decide) he (by rfl)) fun σ H Q => ?_
  rintro ⟨S, ι, h, σi, st, rs, hp⟩
  refine can_intro st rs hp fun v h1 S1 ι1 H1 x e ex st1 rs1 rx hp1 => ?_
  unfold vIsi at hp1
  split at hp1
  · rename_i t e2
    rw [hk]
    exact ⟨x, .ty T.name, .type t.name, .type T.name, isTy t T, rfl, .ty _, tyX_of st1 e2 rx, kit_ty (kitB_ty t T), hp1.done st1 (RV.blI _)⟩
  · exact hp1.elim
end

/-! ### displays of dicts -/
section
variable {X : Cx} {κ : Kx} {W : WX}
def dTrs (κ : Kx) (W : WX) (ks : List Ky) (ms : List ME) : List (TE × TE) := List.zipWith (fun k m => (tC (kV k), can κ W (rv κ) m)) ks ms
theorem pairs_of : ∀ {ks : List Ky} {ms : List ME} {σ : L2.St} {H : Hp} {Q : List (V × V) → Hp → Prop}, ks.length = ms.length →
    can κ W (rvs κ) (mAll ms) σ H (fun xs H' => Q ((ks.map kV).zip xs) H') → tPairs (dTrs κ W ks ms) σ H Q
  | [], [], σ, H, Q, _, q => by
    obtain ⟨S, ι, h, σi, st, rs, hp⟩ := q
    exact hp.done st RVs.nil
  | [], _ :: _, _, _, _, e, _ => by cases e
  | _ :: _, [], _, _, _, e, _ => by cases e
  | k :: ks, m :: ms, σ, H, Q, e, q => by
    obtain ⟨S, ι, h, σi, st, rs, hp⟩ := q
    show can κ W (rv κ) m σ H fun y H2 => tPairs (dTrs κ W ks ms) σ H2 fun ps H3 => Q ((kV k, y) :: ps) H3
    refine can_intro st rs hp fun v h1 S1 ι1 H1 x e1 ex st1 rs1 rx hp1 => ?_
    refine pairs_of (by simpa using e) ?_
    refine can_intro st1 rs1 hp1 fun w h2 S2 ι2 H2 y e2 ex2 st2 rs2 ry hp2 => ?_
    exact hp2.done st2 (RVs.cons (rx.ext ex2) ry)
theorem zip_kv {S : Hp} {ι : List Addr} : ∀ {ks : List Ky} {vs : List IV} {xs : List V}, ks.length = vs.length → RVs κ S ι vs xs →
    ∃ kvs : List (Ky × V), (ks.map kV).zip xs = kvs.map (fun kv => (kV kv.1, kv.2)) ∧ kvs.length = ks.length ∧ (ks.zip vs).map (·.1) = kvs.map (·.1) ∧ RVs κ S ι ((ks.zip vs).map (·.2)) (kvs.map (·.2))
  | [], [], xs, _, r => by rw [r.nil_inv]; exact ⟨[], rfl, rfl, rfl, RVs.nil⟩
  | [], _ :: _, _, e, _ => by cases e
  | _ :: _, [], _, e, _ => by cases e
  | k :: ks, v :: vs, xs, e, r => by
    obtain ⟨x, xs, rfl, r1, r2⟩ := r.cons_inv
    obtain ⟨kvs, e1, e2, e3, e4⟩ := zip_kv (by simpa using e) r2
    exact ⟨(k, x) :: kvs, by simp [e1], by simp [e2], by simp [e3], RVs.cons r1 e4⟩
theorem dic_of {ks : List Ky} {ms : List ME} {σ : L2.St} {H : Hp} {Q : VK} (hl : ks.length = ms.length) (h15 : ks.length ≤ 15) (mk : List Ky → List IV → MH → R IV)
    (hmk : ∀ (S S1 : Hp) (ι ι1 : List Addr) (h1 : MH) (H1 : Hp) (p : Addr) (kvs : List (Ky × V)) (ls : List Ky) (ws : List IV), Stt κ S1 ι1 h1 H1 → Ext S ι H S1 ι1 H1 → p ∉ ι1 → S1 p = none → H p = none → ls = kvs.map (·.1) → RVs κ S1 ι1 ws (kvs.map (·.2)) → ls.length ≤ line →
      PostR κ W (rv κ) Q S ι H σ (mk ls ws h1) → Q (.ref p) (upd H1 p (.dK kvs)))
    (q : can κ W (rv κ) (fun σ h => (mAll ms σ h).bind fun vs h1 => mk (kmerge [] [] (ks.zip vs)).1 (kmerge [] [] (ks.zip vs)).2 h1) σ H Q) : tDisp (dTrs κ W ks ms) σ H Q := by
  obtain ⟨S, ι, h, σi, st, rs, hp⟩ := q
  intro p hp0
  obtain ⟨hpi, hps⟩ := st.free hp0
  obtain ⟨st2, ex2⟩ := st.newR (u := .dK []) hp0
  refine pairs_of hl ⟨S, ι, h, σi, st2, rs.ext ex2, ?_⟩
  dsimp only at hp
  cases e : mAll ms σi h with
  | bad => rw [e] at hp; exact hp
  | ex x h1 =>
    rw [e] at hp
    intro S' ι' H' cls d ex' st' rx
    exact hp S' ι' H' cls d (ex2.trans ex') st' rx
  | ok vs h1 =>
    rw [e] at hp
    intro S1 ι1 H1 xs ex st1 rx
    obtain ⟨q1, q2, q3⟩ := ex.keep p _ upd_same hpi
    obtain ⟨kvs, e1, e2, e3, e4⟩ := zip_kv (hl.trans (mAll_length e).symm) rx
    obtain ⟨f1, f2⟩ := kmerge_ok (kvs := []) (ws := []) RVs.nil e3 e4
    refine ⟨q1, kvs, e1, by rw [e2]; exact h15, hmk S S1 ι ι1 h1 H1 p _ _ _ st1 (ex2.trans ex) q2 (q3 hps) hp0 f1 f2 ?_ hp⟩
    rw [f1, List.length_map]
    have h1' := length_mergeK kvs []
    have h0 : ([] : List (Ky × V)).length = 0 := rfl
    have h9 : line = 16777216 := rfl
    omega
theorem mk_frz {σ : L2.St} {H : Hp} {Q : VK} (S S1 : Hp) (ι ι1 : List Addr) (h1 : MH) (H1 : Hp) (p : Addr) (kvs : List (Ky × V)) (ls : List Ky) (ws : List IV) (st : Stt κ S1 ι1 h1 H1) (ex : Ext S ι H S1 ι1 H1) (hi : p ∉ ι1) (hs : S1 p = none) (h0 : H p = none) (ek : ls = kvs.map (·.1)) (r : RVs κ S1 ι1 ws (kvs.map (·.2))) (hl : ls.length ≤ line)
    (hp : PostR κ W (rv κ) Q S ι H σ (.ok (.dic ls ws) h1)) : Q (.ref p) (upd H1 p (.dK kvs)) := by
  obtain ⟨st', ex'⟩ := st.lay ex (u := .dK kvs) hi hs h0
  refine hp _ _ _ _ ex' st' ?_
  show RV κ _ _ (.dic ls ws) (.ref p)
  unfold RV
  exact ⟨hl, p, kvs, rfl, upd_same, ek, RVs.mono (fun a o z => by rw [upd_ne (by rintro rfl; rw [hs] at z; cases z)]; exact z) (fun _ _ z => z) _ _ r⟩
theorem mk_hp {σ : L2.St} {H : Hp} {Q : VK} (S S1 : Hp) (ι ι1 : List Addr) (h1 : MH) (H1 : Hp) (p : Addr) (kvs : List (Ky × V)) (ls : List Ky) (ws : List IV) (st : Stt κ S1 ι1 h1 H1) (ex : Ext S ι H S1 ι1 H1) (hi : p ∉ ι1) (hs : S1 p = none) (h0 : H p = none) (ek : ls = kvs.map (·.1)) (r : RVs κ S1 ι1 ws (kvs.map (·.2))) (hl : ls.length ≤ line)
    (hp : PostR κ W (rv κ) Q S ι H σ (alloc (.dic ls ws) h1)) : Q (.ref p) (upd H1 p (.dK kvs)) := by
  have ii : ∀ (n : Nat) (a : Addr), ι1[n]? = some a → (ι1 ++ [p])[n]? = some a := fun n a e => app_get e
  obtain ⟨st', ex'⟩ := st.adopt ex (u := .dK kvs) (o := .dic ls ws) hi hs h0 ⟨hl, kvs, upd_same, ek, RVs.mono (fun _ _ e => e) ii _ _ r⟩
  refine hp _ _ _ _ ex' st' ?_
  show RV κ _ _ (.ref h1.length) (.ref p)
  unfold RV
  refine ⟨p, rfl, ?_⟩
  rw [← st.len, List.getElem?_append_right (Nat.le_refl _)]
  simp
end

/-! ### methods -/
def MtOk (κ : Kx) (f : IV → List IV → MH → R IV) (r : V → List V → Hp → VK → Prop) : Prop := ∀ (W : WX) (S : Hp) (ι : List Addr) (h : MH) (H : Hp) (σ : L2.St) (v : IV) (vs : List IV) (x : V) (xs : List V) (Q : VK),
  Stt κ S ι h H → RB κ S ι H v x → RVs κ S ι vs xs → PostR κ W (rv κ) Q S ι H σ (f v vs h) → r x xs H Q
def ChkOk (κ : Kx) (chk : MH → IV → Bool) (T : String) : Prop := ∀ (S : Hp) (ι : List Addr) (h : MH) (H : Hp) (v : IV) (x : V), Stt κ S ι h H → RB κ S ι H v x → chk h v = true → tyV κ.K T x H
theorem chk_list {κ : Kx} : ChkOk κ chkL "list" := fun S ι h H v x st r e => by
  unfold chkL at e
  obtain ⟨ys, e1⟩ := Option.isSome_iff_exists.mp e
  obtain ⟨_, a, vs, rfl, q, rr⟩ := r.asL st e1
  exact .inl ⟨rfl, vs, q⟩
theorem chk_dict {κ : Kx} : ChkOk κ chkD "dict" := fun S ι h H v x st r e => by
  unfold chkD at e
  obtain ⟨⟨ks, ws⟩, e1⟩ := Option.isSome_iff_exists.mp e
  obtain ⟨_, a, kvs, rfl, q, _, _⟩ := r.asD st e1
  exact .inr (.inr (.inl ⟨rfl, .inl ⟨kvs, q⟩⟩))
theorem chk_str {κ : Kx} : ChkOk κ chkS "str" := fun S ι h H v x st r e => by
  unfold chkS at e
  split at e
  · rw [r.str.1]; rfl
  · cases e
section
variable {X : Cx} {κ : Kx} {W : WX} {o e : Expr} {es : List Expr} {mo : ME} {ms : List ME} {name : Str} {apos cpos : Pos} {T id : String} {r : V → List V → Hp → VK → Prop} {chk : MH → IV → Bool} {f : IV → List IV → MH → R IV}
theorem se_bm (hk : X.K = κ.K) (pa : PlainAttrs T) (slot : Slot T name id) (hty : typeOf (.builtin id) = pure (.type "method_descriptor")) (hm : MtR X id r) (hc : ChkOk κ chk T) (hf : MtOk κ f r) (ho : PE X o (can κ W (rb κ) mo)) (ha : PA X (e :: es) (can κ W (rvs κ) (mAll ms)))
    (hbase : attributeBase o name X.env (eval o X.env) = eval o X.env)
    (hfew : ((backTo cpos (starEach (e :: es) X.env)).all (fun x => !x.1) && (backToKw cpos (keywordEach [] X.env)).all (fun x => x.1.isSome)
      && decide ((e :: es).length + ([] : List Keyword).length + (if ([] : List Keyword).isEmpty then 0 else 1) < 30)) = true) (hline : (apos.endLine == cpos.line) = true) (hs : starEach (e :: es) X.env = (false, eval e X.env) :: starEach es X.env) (hpl : (backTo cpos (starEach es X.env)).any (·.1) = false) :
    PE X (.Call (.Attribute o name apos) (e :: es) [] cpos) (can κ W (rv κ) (mM chk f mo ms)) := by
  refine pe_imp (pe_bm (apos := apos) (cpos := cpos) pa slot hty hm ho ha hbase hfew hline hs hpl) fun σ H Q => ?_
  rintro ⟨S, ι, h, σi, st, rs, hp⟩
  refine can_intro st rs hp fun v h1 S1 ι1 H1 x e ex st1 rs1 rx hp1 => ?_
  split at hp1
  · rename_i hch
    refine ⟨by rw [hk]; exact hc S1 ι1 h1 H1 v x st1 rx hch, can_intro st1 rs1 hp1 fun vs h2 S2 ι2 H2 xs e2 ex2 st2 rs2 rxs hp2 => ?_⟩
    exact hf W S2 ι2 h2 H2 σ v vs x xs Q st2 (rx.ext ex2) rxs hp2
  · exact hp1.elim
theorem se_bm0 (hk : X.K = κ.K) (pa : PlainAttrs T) (slot : Slot T name id) (hty : typeOf (.builtin id) = pure (.type "method_descriptor")) (hm : MtR X id r) (hc : ChkOk κ chk T) (hf : MtOk κ f r) (ho : PE X o (can κ W (rb κ) mo))
    (hbase : attributeBase o name X.env (eval o X.env) = eval o X.env) (hline : (apos.endLine == cpos.line) = true) : PE X (.Call (.Attribute o name apos) [] [] cpos) (can κ W (rv κ) (mM chk f mo [])) := by
  refine pe_imp (pe_bm0 pa slot hty hm ho hbase hline) fun σ H Q => ?_
  rintro ⟨S, ι, h, σi, st, rs, hp⟩
  refine can_intro st rs hp fun v h1 S1 ι1 H1 x e ex st1 rs1 rx hp1 => ?_
  split at hp1
  · rename_i hch
    exact ⟨by rw [hk]; exact hc S1 ι1 h1 H1 v x st1 rx hch, hf W S1 ι1 h1 H1 σ v [] x [] Q st1 rx RVs.nil hp1⟩
  · exact hp1.elim
end
section
variable {κ : Kx}
theorem RB.lstAt {S H : Hp} {ι : List Addr} {h : MH} {v : IV} {x : V} {n : Nat} {xs : List IV} (st : Stt κ S ι h H) (e : lstAt h v = some (n, xs)) (r : RB κ S ι H v x) : ∃ a vs, x = .ref a ∧ ι[n]? = some a ∧ H a = some (.lst vs) ∧ RVs κ S ι xs vs ∧ xs.length ≤ line := by
  unfold Mi.lstAt at e
  split at e
  · split at e
    · rename_i m ys hm
      cases e
      obtain ⟨a, rfl, hi, hr⟩ := r.ref st
      obtain ⟨hl, vs, e1, q⟩ := hr _ hm
      exact ⟨a, vs, rfl, hi, e1, q, hl⟩
    · cases e
  · cases e
def rDGet : V → List V → Hp → VK → Prop := fun x xs H Q => ∃ a, x = .ref a ∧ ((∃ y o, xs = [y] ∧ DGet H a y o ∧ Q (o.getD .non) H) ∨ ∃ y d o, xs = [y, d] ∧ DGet H a y o ∧ Q (o.getD d) H)
theorem mt_dget {X : Cx} (hu : X.A.units + 1 < cLine) : MtR X "dict.get" rDGet := by
  intro pins s σ H x xs v us Q I rx rs q
  obtain ⟨a, rfl, q⟩ := q
  cases rx
  rcases q with ⟨y, o, rfl, g, q⟩ | ⟨y, d, o, rfl, g, q⟩
  · obtain ⟨u, rfl, ry⟩ := vals1 rs
    exact d_get1 hu I g ry fun w' s3 I3 rw' => ⟨_, H, I3, rw', q⟩
  · obtain ⟨u, w2, rfl, ry, rd⟩ := vals2 rs
    exact d_get2 hu I g ry rd fun w' s3 I3 rw' => ⟨_, H, I3, rw', q⟩
theorem mt_ok_get : MtOk κ tGet rDGet := by
  intro W S ι h H σ v vs x xs Q st rx rxs hp
  unfold tGet at hp
  split at hp
  · rename_i ks ws k z e0
    obtain ⟨ll, a, kvs, rfl, q, ek, rr⟩ := rx.asD st e0
    subst ek
    obtain ⟨y, l, rfl, ry, rl⟩ := rxs.cons_inv
    obtain ⟨d, l2, rfl, rd, rl2⟩ := rl.cons_inv
    rw [rl2.nil_inv]
    split at hp
    · rename_i q0 e1
      refine ⟨a, rfl, .inr ⟨y, d, valV kvs q0, rfl, by rw [toKy_kV e1 (RB.of (H := H) ry)]; exact DGet.k q, ?_⟩⟩
      rcases klook_valV (k := q0) rr with ⟨e3, e4⟩ | ⟨z1, z', e3, e4, rz⟩
      · rw [e3] at hp; rw [e4]; exact hp.done st rd
      · rw [e3] at hp; rw [e4]; exact hp.done st rz
    · exact hp.elim
  · rename_i ks ws k e0
    obtain ⟨ll, a, kvs, rfl, q, ek, rr⟩ := rx.asD st e0
    subst ek
    obtain ⟨y, l, rfl, ry, rl⟩ := rxs.cons_inv
    rw [rl.nil_inv]
    split at hp
    · rename_i q0 e1
      refine ⟨a, rfl, .inl ⟨y, valV kvs q0, rfl, by rw [toKy_kV e1 (RB.of (H := H) ry)]; exact DGet.k q, ?_⟩⟩
      rcases klook_valV (k := q0) rr with ⟨e3, e4⟩ | ⟨z1, z', e3, e4, rz⟩
      · rw [e3] at hp; rw [e4]; exact hp.done st RV.nonI
      · rw [e3] at hp; rw [e4]; exact hp.done st rz
    · exact hp.elim
  · exact hp.elim
theorem mt_ok_append : MtOk κ tAppend rAppend := by
  intro W S ι h H σ v vs x xs Q st rx rxs hp
  unfold tAppend at hp
  split at hp
  · rename_i n ys w e0
    obtain ⟨a, us, rfl, hi, ha, rr, ll⟩ := rx.lstAt st e0
    obtain ⟨y, l, rfl, ry, rl⟩ := rxs.cons_inv
    rw [rl.nil_inv]
    split at hp
    · rename_i hlt
      obtain ⟨st', ex⟩ := st.write (u := .lst (us ++ [y])) (o := .lst (ys ++ [w])) hi ⟨by rw [List.length_append]; exact hlt, us ++ [y], upd_same, rr.append (RVs.cons ry RVs.nil)⟩
      exact ⟨a, us, y, rfl, rfl, ha, by rw [← rr.length]; exact hlt, hp _ _ _ _ ex st' RV.nonI⟩
    · exact hp.elim
  · exact hp.elim
theorem mt_ok_pop : MtOk κ tPop rPop := by
  intro W S ι h H σ v vs x xs Q st rx rxs hp
  unfold tPop at hp
  split at hp
  · rename_i n ys e0
    obtain ⟨a, us, rfl, hi, ha, rr, ll⟩ := rx.lstAt st e0
    rw [rxs.nil_inv]
    split at hp
    · rename_i w e1
      obtain ⟨y, e2, ry⟩ := rr.get e1
      have hl2 : ys.dropLast.length ≤ line := by rw [List.length_dropLast]; omega
      obtain ⟨st', ex⟩ := st.write (u := .lst us.dropLast) (o := .lst ys.dropLast) hi ⟨hl2, us.dropLast, upd_same, rr.dropLast⟩
      exact ⟨a, us, y, rfl, rfl, ha, by rw [← rr.length]; exact e2, hp _ _ _ _ ex st' (ry.ext ex)⟩
    · exact hp.elim
  · exact hp.elim
end
end Mi
set_option linter.all false
set_option Elab.async false
set_option maxRecDepth 100000
set_option maxHeartbeats 4000000
/-! MiF: statements, targets, loops, comprehensions. -/
namespace Mi
open PySem PySem.Spec PyProof.Rows L2

/-- owned by a slot -/
def OwnS (σi : Sg) (σ : L2.St) (a : Addr) : Prop := ∃ (i : Nat) (o : MO), σi[i]? = some (.own o) ∧ σ[i]? = some (some (.ref a))
structure ExtS (S : Hp) (ι : List Addr) (H : Hp) (σi : Sg) (σ : L2.St) (S' : Hp) (ι' : List Addr) (H' : Hp) (σi' : Sg) (σ' : L2.St) : Prop where
  ss : ∀ a o, S a = some o → S' a = some o
  ii : ∀ (n : Nat) (a : Addr), ι[n]? = some a → ι'[n]? = some a
  keep : ∀ a o, H a = some o → a ∉ ι → ¬ OwnS σi σ a → H' a = some o ∧ a ∉ ι' ∧ ¬ OwnS σi' σ' a ∧ (S a = none → S' a = none)
section
variable {κ : Kx} {W : WX} {S S' S1 S2 : Hp} {ι ι' ι1 ι2 : List Addr} {H H' H1 H2 : Hp} {h h1 : MH} {σi σi1 σi2 : Sg} {σ σ1 σ2 : L2.St}
theorem ExtS.refl : ExtS S ι H σi σ S ι H σi σ := ⟨fun _ _ e => e, fun _ _ e => e, fun _ _ e n o => ⟨e, n, o, fun z => z⟩⟩
theorem ExtS.trans (a : ExtS S ι H σi σ S1 ι1 H1 σi1 σ1) (b : ExtS S1 ι1 H1 σi1 σ1 S2 ι2 H2 σi2 σ2) : ExtS S ι H σi σ S2 ι2 H2 σi2 σ2 :=
  ⟨fun x o e => b.ss x o (a.ss x o e), fun n x e => b.ii n x (a.ii n x e), fun x o e n w => by
    obtain ⟨e1, n1, w1, s1⟩ := a.keep x o e n w
    obtain ⟨e2, n2, w2, s2⟩ := b.keep x o e1 n1 w1
    exact ⟨e2, n2, w2, fun z => s2 (s1 z)⟩⟩
theorem ExtS.of (e : Ext S ι H S1 ι1 H1) (w : ∀ a, OwnS σi1 σ1 a → OwnS σi σ a) : ExtS S ι H σi σ S1 ι1 H1 σi1 σ1 :=
  ⟨e.ss, e.ii, fun x o q n z => by
    obtain ⟨e1, n1, s1⟩ := e.keep x o q n
    exact ⟨e1, n1, fun y => z (w x y), s1⟩⟩
theorem OwnS.set {i : Nat} {v : IV} {x : Option V} {a : Addr} (h : OwnS (σi.set i (.val v)) (σ.set i x) a) : OwnS σi σ a := by
  obtain ⟨j, o, h1, h2⟩ := h
  by_cases hj : i = j
  · subst hj
    have hl : i < σi.length := by have := (List.getElem?_eq_some_iff.mp h1).1; rwa [List.length_set] at this
    rw [List.getElem?_set_self hl] at h1
    cases h1
  · rw [List.getElem?_set_ne hj] at h1 h2
    exact ⟨j, o, h1, h2⟩
/-- a statement's outcome -/
def PostS (κ : Kx) (W : WX) (D : Ends) (S : Hp) (ι : List Addr) (H : Hp) (σi : Sg) (σ : L2.St) : RS → Prop
  | .nx σi' h' => ∀ S' ι' H' σ', ExtS S ι H σi σ S' ι' H' σi' σ' → Stt κ S' ι' h' H' → RSig κ S' ι' H' σi' σ' → D.nx σ' H'
  | .bk σi' h' => ∀ S' ι' H' σ', ExtS S ι H σi σ S' ι' H' σi' σ' → Stt κ S' ι' h' H' → RSig κ S' ι' H' σi' σ' → D.bk σ' H'
  | .ct σi' h' => ∀ S' ι' H' σ', ExtS S ι H σi σ S' ι' H' σi' σ' → Stt κ S' ι' h' H' → RSig κ S' ι' H' σi' σ' → D.ct σ' H'
  | .rt v h' => ∀ S' ι' H' x, ExtS S ι H σi σ S' ι' H' [] [] → Stt κ S' ι' h' H' → RV κ S' ι' v x → D.rt x H'
  | .ex e σi' h' => ∀ S' ι' H' σ' cls d, ExtS S ι H σi σ S' ι' H' σi' σ' → Stt κ S' ι' h' H' → RSig κ S' ι' H' σi' σ' → RX κ S' ι' e cls d → W cls d σ' H'
  | .bad => False
def canS (κ : Kx) (W : WX) (m : MS) : TS := fun D σ H => ∃ S ι h σi, Stt κ S ι h H ∧ RSig κ S ι H σi σ ∧ PostS κ W D S ι H σi σ (m σi h)
theorem PostS.ext {D : Ends} {r : RS} (e : ExtS S ι H σi σ S1 ι1 H1 σi1 σ1) (p : PostS κ W D S ι H σi σ r) : PostS κ W D S1 ι1 H1 σi1 σ1 r := by
  cases r with
  | nx σi' h' => exact fun S' ι' H' σ' e' st rs => p S' ι' H' σ' (e.trans e') st rs
  | bk σi' h' => exact fun S' ι' H' σ' e' st rs => p S' ι' H' σ' (e.trans e') st rs
  | ct σi' h' => exact fun S' ι' H' σ' e' st rs => p S' ι' H' σ' (e.trans e') st rs
  | rt v h' => exact fun S' ι' H' x e' st rl => p S' ι' H' x (e.trans e') st rl
  | ex x σi' h' => exact fun S' ι' H' σ' cls d e' st rs rx => p S' ι' H' σ' cls d (e.trans e') st rs rx
  | bad => exact p
theorem PostS.of {D : Ends} {r : RS} (e : Ext S ι H S1 ι1 H1) (p : PostS κ W D S ι H σi σ r) : PostS κ W D S1 ι1 H1 σi σ r := p.ext (.of e fun _ z => z)
theorem can_go {α β : Type} {rel : Rl α β} {Q : β → Hp → Prop} {D : Ends} {m : Sg → MH → R α} {k : α → MH → RS} (st : Stt κ S ι h H) (rs : RSig κ S ι H σi σ) (hp : PostS κ W D S ι H σi σ ((m σi h).go σi k))
    (hk : ∀ v h' S' ι' H' x, m σi h = .ok v h' → Ext S ι H S' ι' H' → Stt κ S' ι' h' H' → RSig κ S' ι' H' σi σ → rel S' ι' H' v x → PostS κ W D S' ι' H' σi σ (k v h') → Q x H') : can κ W rel m σ H Q := by
  refine ⟨S, ι, h, σi, st, rs, ?_⟩
  cases e : m σi h with
  | ok v h' =>
    rw [e] at hp
    exact fun S' ι' H' x ex st' rl => hk v h' S' ι' H' x e ex st' (rs.ext ex) rl (hp.of ex)
  | ex x h' =>
    rw [e] at hp
    exact fun S' ι' H' cls d ex st' rx => hp S' ι' H' σ cls d (.of ex fun _ z => z) st' (rs.ext ex) rx
  | bad =>
    rw [e] at hp
    exact hp
end

/-! ### targets -/
def canG (κ : Kx) (vs : List Nat) (g : MG) : TG := fun x σ H Q => ∃ S ι h σi v, Stt κ S ι h H ∧ RSig κ S ι H σi σ ∧ RV κ S ι v x ∧ ∃ σi', g v σi = some σi' ∧
  ∀ σ', RSig κ S ι H σi' σ' → (∀ a, OwnS σi' σ' a → OwnS σi σ a) → wipe σ' vs = wipe σ vs → Q σ' H
def canGs (κ : Kx) (vs : List Nat) (gs : List MG) : TGs := fun xs σ H Q => ∃ S ι h σi ws, Stt κ S ι h H ∧ RSig κ S ι H σi σ ∧ RVs κ S ι ws xs ∧ ∃ σi', gAll gs ws σi = some σi' ∧
  ∀ σ', RSig κ S ι H σi' σ' → (∀ a, OwnS σi' σ' a → OwnS σi σ a) → wipe σ' vs = wipe σ vs → Q σ' H
theorem wipe_set {σ : L2.St} {i : Nat} {x : Option V} : ∀ {vs : List Nat}, i ∈ vs → wipe (σ.set i x) vs = wipe σ vs
  | v :: vs, h => by
    unfold wipe
    by_cases hv : i ∈ vs
    · rw [wipe_set hv]
    · have e : v = i := by
        rcases List.mem_cons.mp h with z | z
        · exact z.symm
        · exact (hv z).elim
      subst e
      have key : ∀ (ws : List Nat), v ∉ ws → wipe (σ.set v x) ws = (wipe σ ws).set v x := fun ws => by
        induction ws with
        | nil => intro _; rfl
        | cons w ws ih =>
          intro hw
          unfold wipe
          rw [ih fun z => hw (List.mem_cons_of_mem _ z), List.set_comm]
          rintro rfl
          exact hw List.mem_cons_self
      rw [key vs hv, List.set_set]
section
variable {X : Cx} {κ : Kx} {W : WX} {pos : Pos} {vs : List Nat}
theorem pg_imp {tg : Expr} {t t' : TG} (h : PG X tg t) (i : ∀ x σ H Q, t' x σ H Q → t x σ H Q) : PG X tg t' := ⟨fun pins s σ H v u Q I r q => h.run pins s σ H v u Q I r (i v σ H Q q)⟩
theorem pgs_imp {tg : List Expr} {t t' : TGs} (h : PGs X tg t) (i : ∀ x σ H Q, t' x σ H Q → t x σ H Q) : PGs X tg t' := ⟨fun pins s σ H v u Q I r q => h.run pins s σ H v u Q I r (i v σ H Q q)⟩
theorem sg_name {i : Nat} {x : Str} (hN : X.N.Nodup) (hi : X.N[i]? = some x) (hx : Loc X.env.scope x) (hf : X.fn x = true ∨ X.env.scope.names.lookup x = some .local) (hv : i ∈ vs) : PG X (.Name x pos) (canG κ vs (gName i)) := by
  refine pg_imp (pg_name hN hi hx hf) fun y σ H Q => ?_
  rintro ⟨S, ι, h, σi, v, st, rs, r, σi', e, k⟩
  cases e
  exact k _ (rs.set r) (fun a z => z.set) (wipe_set hv)
theorem sgs_nil : PGs X [] (canGs κ vs []) := by
  refine pgs_imp pgs_nil fun y σ H Q => ?_
  rintro ⟨S, ι, h, σi, ws, st, rs, r, σi', e, k⟩
  cases ws with
  | nil =>
    have e' : some σi = some σi' := e
    cases e'
    exact ⟨r.nil_inv, k σ rs (fun _ z => z) rfl⟩
  | cons w ws => cases e
theorem sgs_cons {e : Expr} {es : List Expr} {g : MG} {gs : List MG} (h1 : PG X e (canG κ vs g)) (h2 : PGs X es (canGs κ vs gs)) (hs : (assignEach (e :: es) X.env).map (·.2) = assign e X.env :: (assignEach es X.env).map (·.2)) :
    PGs X (e :: es) (canGs κ vs (g :: gs)) := by
  refine pgs_imp (pgs_cons h1 h2 hs) fun y σ H Q => ?_
  rintro ⟨S, ι, h, σi, ws, st, rs, r, σi', e, k⟩
  cases ws with
  | nil => cases e
  | cons w ws =>
    obtain ⟨y1, ys, rfl, r1, r2⟩ := r.cons_inv
    have e' : (g w σi).bind (fun σ' => gAll gs ws σ') = some σi' := e
    obtain ⟨σ1, e1, e2⟩ := Option.bind_eq_some_iff.mp e'
    exact ⟨y1, ys, rfl, S, ι, h, σi, w, st, rs, r1, σ1, e1, fun σ' rs' w' wp => ⟨S, ι, h, σ1, ws, st, rs', r2, σi', e2, fun σ2 rs2 w2 wp2 => k σ2 rs2 (fun a z => w' a (w2 a z)) (wp2.trans wp)⟩⟩
theorem sg_tup {es : List Expr} {k : Nat} {gs : List MG} (hk : X.K = κ.K) (hc : X.calm = true) (h : PGs X es (canGs κ vs gs)) (hn : (assignEach es X.env).length = gs.length) (hst : (assignEach es X.env).findIdx? (·.1) = none) : PG X (.Tuple es k pos) (canG κ vs (gTup gs)) := by
  refine pg_imp (pg_tup hc h hn hst) fun y σ H Q => ?_
  rintro ⟨S, ι, h, σi, v, st, rs, r, σi', e, kk⟩
  unfold gTup at e
  split at e
  · rename_i ws
    obtain ⟨_, a, xs, rfl, q, rr⟩ := (RB.of (H := H) r).tup st
    have hl : ∀ {gs : List MG} {ws : List IV} {σ σ' : Sg}, gAll gs ws σ = some σ' → ws.length = gs.length := fun {gs} => by
      induction gs with
      | nil =>
        intro ws σ σ' e
        cases ws with
        | nil => rfl
        | cons w ws => cases e
      | cons g gs ih =>
        intro ws σ σ' e
        cases ws with
        | nil => cases e
        | cons w ws =>
          have e' : (g w σ).bind (fun σ' => gAll gs ws σ') = some σ' := e
          obtain ⟨σ1, e1, e2⟩ := Option.bind_eq_some_iff.mp e'
          rw [List.length_cons, List.length_cons, ih e2]
    rw [hk]
    exact ⟨a, xs, rfl, q, by rw [← rr.length]; exact hl e, S, ι, h, σi, ws, st, rs, rr, σi', e, kk⟩
  · cases e
end

/-! ### statements -/
section
variable {X : Cx} {κ : Kx} {W : WX} {pos : Pos} {e : Expr} {m : ME}
theorem ss_nil : PSs X [] (canS κ W sNext) := by
  refine pss_imp pss_nil fun D σ H => ?_
  rintro ⟨S, ι, h, σi, st, rs, hp⟩
  exact hp S ι H σ .refl st rs
theorem ss_cons {s : Stmt} {rest : List Stmt} {a b : MS} (h1 : PS X s (canS κ W a)) (h2 : PSs X rest (canS κ W b)) : PSs X (s :: rest) (canS κ W (sSeq a b)) := by
  refine pss_imp (pss_cons h1 h2) fun D σ H => ?_
  rintro ⟨S, ι, h, σi, st, rs, hp⟩
  refine ⟨S, ι, h, σi, st, rs, ?_⟩
  unfold sSeq at hp
  cases e : a σi h with
  | nx σ1 h1 =>
    rw [e] at hp
    exact fun S' ι' H' σ' ex st' rs' => ⟨S', ι', h1, σ1, st', rs', PostS.ext ex hp⟩
  | rt v h1 => rw [e] at hp; exact hp
  | bk v h1 => rw [e] at hp; exact hp
  | ct v h1 => rw [e] at hp; exact hp
  | ex v s1 h1 => rw [e] at hp; exact hp
  | bad => rw [e] at hp; exact hp
theorem ss_one {s : Stmt} {a : MS} (h1 : PS X s (canS κ W a)) : PSs X [s] (canS κ W a) := pss_one h1
theorem ss_pass : PS X (.Pass pos) (canS κ W sNext) := by
  refine ps_imp ps_pass fun D σ H => ?_
  rintro ⟨S, ι, h, σi, st, rs, hp⟩
  exact hp S ι H σ .refl st rs
theorem ss_break : PS X (.Break pos) (canS κ W sBrk) := by
  refine ps_imp ps_break fun D σ H => ?_
  rintro ⟨S, ι, h, σi, st, rs, hp⟩
  exact hp S ι H σ .refl st rs
theorem ss_continue : PS X (.Continue pos) (canS κ W sCont) := by
  refine ps_imp ps_continue fun D σ H => ?_
  rintro ⟨S, ι, h, σi, st, rs, hp⟩
  exact hp S ι H σ .refl st rs
theorem ss_never {s : Stmt} : PS X s (canS κ W sNever) := ⟨fun pins s σ H D I q => by obtain ⟨S, ι, h, σi, st, rs, hp⟩ := q; exact hp.elim⟩
theorem ss_ret (he : PE X e (can κ W (rv κ) m)) : PS X (.Return (some e) pos) (canS κ W (sRet m)) := by
  refine ps_imp (ps_ret he) fun D σ H => ?_
  rintro ⟨S, ι, h, σi, st, rs, hp⟩
  refine can_go st rs hp fun v h1 S1 ι1 H1 x e ex st1 rs1 rx hp1 => ?_
  exact hp1 S1 ι1 H1 x (.of Ext.refl fun a z => by obtain ⟨i, o, e1, _⟩ := z; cases e1) st1 rx
theorem ss_retN : PS X (.Return none pos) (canS κ W sRetN) := by
  refine ps_imp ps_retN fun D σ H => ?_
  rintro ⟨S, ι, h, σi, st, rs, hp⟩
  exact hp S ι H .non (.of Ext.refl fun a z => by obtain ⟨i, o, e1, _⟩ := z; cases e1) st RV.nonI
theorem ss_expr (he : PE X e (can κ W (rv κ) m)) (hs : swapsWith e none pos.line X.env = pure false) : PS X (.Expr e pos) (canS κ W (sExpr m)) := by
  refine ps_imp (ps_expr he hs) fun D σ H => ?_
  rintro ⟨S, ι, h, σi, st, rs, hp⟩
  refine can_go st rs hp fun v h1 S1 ι1 H1 x e ex st1 rs1 rx hp1 => ?_
  exact hp1 S1 ι1 H1 σ .refl st1 rs1
theorem ss_set_of {i : Nat} {s : Stmt} {te : TE} (h : PS X s (tAsg te (L2.gName i))) (he : ∀ σ H Q, can κ W (rv κ) m σ H Q → te σ H Q) : PS X s (canS κ W (sSet i m)) := by
  refine ps_imp h fun D σ H => ?_
  rintro ⟨S, ι, h, σi, st, rs, hp⟩
  refine he σ H _ (can_go st rs hp fun v h1 S1 ι1 H1 x e ex st1 rs1 rx hp1 => ?_)
  exact hp1 S1 ι1 H1 _ (.of Ext.refl fun a z => z.set) st1 (rs1.set rx)
theorem ss_set {i : Nat} {x : Str} {pos' : Pos} (hN : X.N.Nodup) (hi : X.N[i]? = some x) (hx : Loc X.env.scope x) (he : PE X e (can κ W (rv κ) m)) (hs : swapsWith e (some (.Name x pos')) pos.line X.env = pure false) (hf : X.fn x = true ∨ X.env.scope.names.lookup x = some .local) :
    PS X (.Assign [.Name x pos'] e pos) (canS κ W (sSet i m)) := ss_set_of (ps_set hN hi hx he hs hf) fun _ _ _ q => q
theorem ss_asg {tg : Expr} {vs : List Nat} {g : MG} (he : PE X e (can κ W (rv κ) m)) (hg : PG X tg (canG κ vs g)) (hs : swapsWithSole [tg] e pos.line X.env = pure false) (hw : swappedStores [tg] e X.env = pure none) (h1 : (assignEach [tg] X.env).map (·.2) = [assign tg X.env]) :
    PS X (.Assign [tg] e pos) (canS κ W (sAsg g m)) := by
  refine ps_imp (ps_asg he hg hs hw h1) fun D σ H => ?_
  rintro ⟨S, ι, h, σi, st, rs, hp⟩
  refine can_go st rs hp fun v h1 S1 ι1 H1 x e ex st1 rs1 rx hp1 => ?_
  cases eg : g v σi with
  | none => rw [eg] at hp1; exact hp1.elim
  | some σ1 =>
    rw [eg] at hp1
    exact ⟨S1, ι1, h1, σi, v, st1, rs1, rx, σ1, eg, fun σ' rs' w _ => hp1 S1 ι1 H1 σ' (.of Ext.refl w) st1 rs'⟩
theorem ss_if {c : Expr} {a b : List Stmt} {t : MT} {ma mb : MS} (hc : PT X c (can κ W Mi.rt t)) (ha : PSs X a (canS κ W ma)) (hb : PSs X b (canS κ W mb)) : PS X (.If c a b pos) (canS κ W (sIf t ma mb)) := by
  refine ps_imp (ps_if hc ha hb) fun D σ H => ?_
  rintro ⟨S, ι, h, σi, st, rs, hp⟩
  refine can_go st rs hp fun v h1 S1 ι1 H1 x e ex st1 rs1 rx hp1 => ?_
  have rx' : v = x := rx
  subst rx'
  cases v with
  | true => exact iteT ⟨S1, ι1, h1, σi, st1, rs1, hp1⟩
  | false => exact iteF ⟨S1, ι1, h1, σi, st1, rs1, hp1⟩
/-! o[i] = v on the heap -/
def rPutM : V → V → V → Hp → (Hp → Prop) → Prop := fun o i v H Q => rSetL o i v H Q ∨ ∃ a H4, o = .ref a ∧ DPut H a i v H4 ∧ Q H4
theorem set_M (hu : X.A.units + 1 < cLine) : PSet X rPutM := by
  intro pins s σ H o i v ov iv u Q I ro ri rv h
  rcases h with h | ⟨a, H4, rfl, g, q⟩
  · exact set_list pins s σ H o i v ov iv u Q I ro ri rv h
  · cases ro
    exact d_setItem hu I g ri rv fun s' I' => ⟨H4, I', q⟩
theorem putK_le {k : Ky} {x : V} (kvs : List (Ky × V)) : (putK kvs k x).length ≤ kvs.length + 1 := by
  unfold putK
  split
  · rw [List.length_map]; omega
  · rw [List.length_append] <;> exact Nat.le_refl _
theorem ss_put {o i : Expr} {mo mi : ME} {pos' : Pos} (hu : X.A.units + 1 < cLine) (he : PE X e (can κ W (rv κ) m)) (ho : PE X o (can κ W (rb κ) mo)) (hi : PE X i (can κ W (rb κ) mi))
    (ha : ∀ v, assign (.Subscript o i pos') X.env v = (do
      let ov ← holding [v] (eval o X.env)
      let iv ← holding [v, ov] (eval i X.env)
      standAt pos'
      holding [v, ov, iv] (setItem ov iv v)
      release [v, ov, iv] []))
    (hs : swapsWithSole [.Subscript o i pos'] e pos.line X.env = pure false) (hw : swappedStores [.Subscript o i pos'] e X.env = pure none) (h1 : (assignEach [.Subscript o i pos'] X.env).map (·.2) = [assign (.Subscript o i pos') X.env]) :
    PS X (.Assign [.Subscript o i pos'] e pos) (canS κ W (sPut mo mi m)) := by
  refine ps_imp (ps_asg he (pg_sub ho hi (set_M hu) ha) hs hw h1) fun D σ H => ?_
  rintro ⟨S, ι, h, σi, st, rs, hp⟩
  refine can_go st rs hp fun v h1 S1 ι1 H1 x e ex st1 rs1 rx hp1 => ?_
  refine can_go st1 rs1 hp1 fun w h2 S2 ι2 H2 y e2 ex2 st2 rs2 ry hp2 => ?_
  refine can_go st2 rs2 hp2 fun u h3 S3 ι3 H3 z e3 ex3 st3 rs3 rz hp3 => ?_
  have rx3 := rx.ext (ex2.trans ex3)
  have ry3 := ry.ext ex3
  unfold vPut at hp3
  split at hp3
  · rename_i h4 e4
    split at e4
    · rename_i n
      obtain ⟨a, rfl, hia, hr⟩ := ry3.ref st3
      split at e4
      · rename_i xs hn
        obtain ⟨hl, us, ea, rr⟩ := hr _ hn
        split at e4
        · rename_i k
          obtain ⟨j, ej, rfl⟩ := Option.map_eq_some_iff.mp e4
          have ej' : ixN us.length k = some j := by rw [← rr.length]; exact ej
          obtain ⟨st', ex'⟩ := st3.write (u := .lst (us.set j x)) (o := .lst (xs.set j v)) hia ⟨by rw [List.length_set]; exact hl, us.set j x, upd_same, rr.set j rx3⟩
          rw [rz.int]
          exact .inl ⟨a, us, k, j, rfl, rfl, ea, ej', hp3 _ _ _ σ (.of ex' fun _ z => z) st' (rs3.ext ex')⟩
        · cases e4
      · rename_i ks ws hn
        obtain ⟨hl, kvs, ea, ek, rr⟩ := hr _ hn
        subst ek
        split at e4
        · rename_i k ek
          split at e4
          · rename_i hlt
            cases e4
            rw [List.length_map] at hlt
            obtain ⟨f1, f2⟩ := kput_ok (k := k) rr rx3
            obtain ⟨st', ex'⟩ := st3.write (u := .dK (putK kvs k x)) (o := .dic (kput (kvs.map (·.1)) ws k v).1 (kput (kvs.map (·.1)) ws k v).2) hia ⟨by rw [f1, List.length_map]; exact Nat.le_trans (putK_le _) hlt, putK kvs k x, upd_same, f1, f2⟩
            rw [toKy_kV ek rz]
            exact .inr ⟨a, _, rfl, DPut.k ea hlt, hp3 _ _ _ σ (.of ex' fun _ z => z) st' (rs3.ext ex')⟩
          · cases e4
        · cases e4
      · cases e4
    · cases e4
  · exact hp3.elim
end

/-! ### what a loop walks -/
/-- J gives the values xs, one a turn, as long as what is stable now stands -/
def IterOk (κ : Kx) (S : Hp) (ι : List Addr) (J : It) (xs : List IV) : Prop := xs.length ≤ line ∧ ∃ (G : Hp → Prop) (Y : Nat → Hp → V → Hp → Prop), Walk J xs.length G Y ∧ (∀ (S' H' : Hp), (∀ a o, S a = some o → S' a = some o) → (∀ a o, S' a = some o → H' a = some o) → G H') ∧
  ∀ (i : Nat) (H : Hp) (x : V) (H' S' : Hp) (ι' : List Addr) (h' : MH), i < xs.length → (∀ a o, S a = some o → S' a = some o) → (∀ (n : Nat) (a : Addr), ι[n]? = some a → ι'[n]? = some a) → Stt κ S' ι' h' H → Y i H x H' →
    ∃ S'' v, Stt κ S'' ι' h' H' ∧ Ext S' ι' H S'' ι' H' ∧ xs[i]? = some v ∧ RV κ S'' ι' v x
def canI (κ : Kx) (W : WX) (src : MA) : TI := fun σ H R => can κ W (fun S ι _ xs J => IterOk κ S ι J xs) src σ H R
section
variable {X : Cx} {κ : Kx} {W : WX} {pos : Pos} {e : Expr} {m : ME} {tg : Expr}
/-- a list or a tuple -/
def iSeqT (K : PySem.W.Frag) (tl : TE) : TI := fun σ H R => tl σ H fun x H1 => (∃ a, x = .ref a ∧ (∃ xs, SqL K H1 a xs) ∧ R (Itl K a) H1) ∨ ∃ a, x = .ref a ∧ (∃ xs, SqT K H1 a xs) ∧ R (Itt K a) H1
theorem pi_seq {l : Expr} {tl : TE} (hl : PE X l tl) : PI X tg l (iSeqT X.K tl) := by
  refine ⟨fun pins s σ H R I h => ?_⟩
  refine thn (hl.run pins s σ H _ I h) fun v s1 ⟨x, H1, I1, r1, q1⟩ => ?_
  rcases q1 with ⟨a, e, ⟨xs, hq⟩, q⟩ | ⟨a, e, ⟨xs, hq⟩, q⟩
  · subst e
    cases r1
    obtain ⟨its, rv, p, hz⟩ := I1.list hq
    refine wpAny_pyIter_list p.isList ?_
    refine ⟨s1.heap.objs.size, [s1.heap.objs.size], _, _, H1, rfl, I1.kept (t' := s1.toks) fun b o e => Heap.get?_push_of_some _ e, turn_list a _, ⟨_, Heap.get?_push_size _ rfl, rfl, rfl⟩, fun b hb => ?_, q⟩
    have e : b = s1.heap.objs.size := by simpa using hb
    subst e
    exact I1.fpOk (Nat.le_refl _) (I1.hok.fresh (Nat.le_refl _))
  · subst e
    cases r1
    obtain ⟨its, rv, p, hz⟩ := I1.tuple hq
    refine wpAny_pyIter_tuple (show s1.heap.IsTuple a its.toArray from p) ?_
    refine ⟨s1.heap.objs.size, [s1.heap.objs.size], _, _, H1, rfl, I1.kept (t' := s1.toks) fun b o e => Heap.get?_push_of_some _ e, turn_tuple a _, ⟨_, Heap.get?_push_size _ rfl, rfl, rfl⟩, fun b hb => ?_, q⟩
    have e : b = s1.heap.objs.size := by simpa using hb
    subst e
    exact I1.fpOk (Nat.le_refl _) (I1.hok.fresh (Nat.le_refl _))
theorem si_seq (hk : X.K = κ.K) (he : PE X e (can κ W (rv κ) m)) : PI X tg e (canI κ W (iSeq m)) := by
  refine pi_imp (pi_seq he) fun σ H R => ?_
  rintro ⟨S, ι, h, σi, st, rs, hp⟩
  refine can_intro st rs hp fun v h1 S1 ι1 H1 x e ex st1 rs1 rx hp1 => ?_
  rw [hk]
  split at hp1
  · rename_i xs
    have rx0 := rx
    unfold rv RV at rx0
    obtain ⟨hl, a, vs, rfl, q, rr⟩ := rx0
    refine .inl ⟨a, rfl, ⟨vs, sqL_mono st1.sub q⟩, hp1.done st1 ⟨hl, fun H => SqL κ.K H a vs, YAt vs, by rw [rr.length]; exact walk_list, fun S' H' h1 h2 => sqL_mono h2 (sqL_mono h1 q), ?_⟩⟩
    rintro i H x H' S' ι' h' hi hs hii st' ⟨rfl, hx⟩
    obtain ⟨v, ev, rvx⟩ := rr.getV hx
    exact ⟨S', v, st', Ext.refl, ev, RV.mono hs hii v x rvx⟩
  · rename_i xs
    have rx0 := rx
    unfold rv RV at rx0
    obtain ⟨hl, a, vs, rfl, q, rr⟩ := rx0
    refine .inr ⟨a, rfl, ⟨vs, sqT_mono st1.sub q⟩, hp1.done st1 ⟨hl, fun H => SqT κ.K H a vs, YAt vs, by rw [rr.length]; exact walk_tup, fun S' H' h1 h2 => sqT_mono h2 (sqT_mono h1 q), ?_⟩⟩
    rintro i H x H' S' ι' h' hi hs hii st' ⟨rfl, hx⟩
    obtain ⟨v, ev, rvx⟩ := rr.getV hx
    exact ⟨S', v, st', Ext.refl, ev, RV.mono hs hii v x rvx⟩
  · exact hp1.elim
theorem rng_get {lo : Int} {n i : Nat} (h : i < n) : (rng lo n)[i]? = some (.int (lo + i)) := by
  unfold rng
  rw [List.getElem?_map, List.getElem?_range h] <;> rfl
theorem rng_length {lo : Int} {n : Nat} : (rng lo n).length = n := by unfold rng; rw [List.length_map, List.length_range]
theorem iter_rng {S : Hp} {ι : List Addr} {lo : Int} {n : Nat} (hl : n ≤ line) : IterOk κ S ι (Itr lo n) (rng lo n) := by
  refine ⟨by rw [rng_length]; exact hl, fun _ => True, YFn fun i => .int (lo + i), by rw [rng_length]; exact walk_range, fun _ _ _ _ => trivial, ?_⟩
  rintro i H x H' S' ι' h' hi hs hii st' ⟨rfl, rfl⟩
  rw [rng_length] at hi
  exact ⟨S', _, st', Ext.refl, rng_get hi, RV.intI _⟩
theorem si_range1 {a : Expr} {p : Pos} {ma : ME} (hg : Gl X "range") (hm : X.mg "range" = none) (ha : PE X a (can κ W (rv κ) ma)) (hs1 : starEach (a :: []) X.env = (false, eval a X.env) :: starEach [] X.env) (hs : starEach [a] X.env = [(false, eval a X.env)]) :
    PI X tg (.Call (.Name "range" p) [a] [] pos) (canI κ W (iRange1 ma)) := by
  refine pi_imp (pi_range1 hg hm (pa_cons ha pa_nil hs1) hs) fun σ H R => ?_
  rintro ⟨S, ι, h, σi, st, rs, hp⟩
  refine can_intro st rs hp fun v h1 S1 ι1 H1 x e ex st1 rs1 rx hp1 => ?_
  split at hp1
  · rename_i j
    rw [(RB.of (H := H1) rx).int]
    split at hp1
    · rename_i hj
      refine ⟨j, rfl, hj.1, by omega, ?_⟩
      exact hp1.done st1 (iter_rng (by show j.toNat ≤ 16777216; omega))
    · exact hp1.elim
  · exact hp1.elim
theorem si_range2 {a b : Expr} {p : Pos} {ma mb : ME} (hg : Gl X "range") (hm : X.mg "range" = none) (ha : PE X a (can κ W (rv κ) ma)) (hb : PE X b (can κ W (rv κ) mb)) (hs0 : starEach (a :: [b]) X.env = (false, eval a X.env) :: starEach [b] X.env) (hs1 : starEach (b :: []) X.env = (false, eval b X.env) :: starEach [] X.env)
    (hs : starEach [a, b] X.env = [(false, eval a X.env), (false, eval b X.env)]) (hs2 : starEach [b] X.env = [(false, eval b X.env)]) :
    PI X tg (.Call (.Name "range" p) [a, b] [] pos) (canI κ W (iRange2 ma mb)) := by
  refine pi_imp (pi_range2 hg hm (pa_cons ha (pa_cons hb pa_nil hs1) hs0) hs hs2) fun σ H R => ?_
  rintro ⟨S, ι, h, σi, st, rs, hp⟩
  refine can_intro st rs hp fun v h1 S1 ι1 H1 x e ex st1 rs1 rx hp1 => ?_
  refine can_intro st1 rs1 hp1 fun w h2 S2 ι2 H2 y e2 ex2 st2 rs2 ry hp2 => ?_
  split at hp2
  · rename_i i j
    rw [(RB.of (H := H1) rx).int, (RB.of (H := H2) ry).int]
    split at hp2
    · rename_i hj
      refine ⟨i, j, rfl, ⟨hj.1.1, hj.1.2, hj.2.1.1, hj.2.1.2⟩, ?_⟩
      exact hp2.done st2 (iter_rng (by show (j - i).toNat ≤ 16777216; omega))
    · exact hp2.elim
  · exact hp2.elim
/-! ### for -/
theorem drop_cons {α : Type} {xs : List α} {i : Nat} {v : α} (h : xs[i]? = some v) : xs.drop i = v :: xs.drop (i + 1) := by
  obtain ⟨hl, e⟩ := List.getElem?_eq_some_iff.mp h
  rw [List.drop_eq_getElem_cons hl, e]
theorem ss_for {iter : Expr} {body : List Stmt} {src : MA} {g : MG} {b : MS} {vs : List Nat} (hp : PassesOwn (model X.prog X.w) X.A X.env X.xe) (hc : X.calm = true) (hi : PI X tg iter (canI κ W src)) (hg : PG X tg (canG κ vs g)) (hb : PSs X body (canS κ W b))
    (hs : ∀ x, foldedSetIterable iter X.env x = pure x) : PS X (.For tg iter body [] pos) (canS κ W (sFor src g b)) := by
  refine ps_imp (ps_for hp hc hi hg hb hs) fun D σ H => ?_
  rintro ⟨S, ι, h, σi, st, rs, hpp⟩
  refine can_go st rs hpp fun xs h1 S1 ι1 H1 J e ex st1 rs1 rx hp1 => ?_
  obtain ⟨hl, G, Y, wk, hG, hY⟩ := rx
  refine ⟨fun i mm σ' H' => mm = xs.length - i ∧ i ≤ xs.length ∧ ∃ S' ι' h' σi', Stt κ S' ι' h' H' ∧ RSig κ S' ι' H' σi' σ' ∧ (∀ a o, S1 a = some o → S' a = some o) ∧ (∀ (n : Nat) (a : Addr), ι1[n]? = some a → ι'[n]? = some a) ∧
    PostS κ W D S' ι' H' σi' σ' (loopF g b (xs.drop i) σi' h'), ⟨xs.length, by omega, Nat.zero_le _, S1, ι1, h1, σi, st1, rs1, fun _ _ z => z, fun _ _ z => z, hp1⟩, ?_⟩
  rintro i mm σ' H' ⟨rfl, hle, S', ι', h', σi', st', rs', ss', ii', hp'⟩
  by_cases hlt : i < xs.length
  · refine .inr ⟨wk.goes i H' hlt (hG S' H' ss' st'.sub), fun σ2 H2 => i + 1 ≤ xs.length ∧ ∃ S' ι' h' σi', Stt κ S' ι' h' H2 ∧ RSig κ S' ι' H2 σi' σ2 ∧ (∀ a o, S1 a = some o → S' a = some o) ∧ (∀ (n : Nat) (a : Addr), ι1[n]? = some a → ι'[n]? = some a) ∧
      PostS κ W D S' ι' H2 σi' σ2 (loopF g b (xs.drop (i + 1)) σi' h'), fun σ2 H2 ⟨q1, q2⟩ => ⟨xs.length - (i + 1), by omega, rfl, q1, q2⟩, fun x H2 yl => ?_⟩
    obtain ⟨S2, v, st2, ex2, ev, rvx⟩ := hY i H' x H2 S' ι' h' hlt ss' ii' st' (wk.yields i H' x H2 hlt (hG S' H' ss' st'.sub) yl)
    rw [drop_cons ev] at hp'
    unfold loopF at hp'
    have hp2 := hp'.of ex2
    cases eg : g v σi' with
    | none => rw [eg] at hp2; exact hp2.elim
    | some σi3 =>
      rw [eg] at hp2
      refine ⟨S2, ι', h', σi', v, st2, rs'.ext ex2, rvx, σi3, eg, fun σ3 rs3 w3 _ => ⟨S2, ι', h', σi3, st2, rs3, ?_⟩⟩
      have base : ExtS S2 ι' H2 σi' σ' S2 ι' H2 σi3 σ3 := .of Ext.refl w3
      have ss2 : ∀ a o, S1 a = some o → S2 a = some o := fun a o z => ex2.ss a o (ss' a o z)
      cases eb : b σi3 h' with
      | nx σi4 h4 =>
        simp only [eb] at hp2
        exact fun S4 ι4 H4 σ4 ex4 st4 rs4 => ⟨hlt, S4, ι4, h4, σi4, st4, rs4, fun a o z => ex4.ss a o (ss2 a o z), fun n a z => ex4.ii n a (ii' n a z), PostS.ext (base.trans ex4) hp2⟩
      | ct σi4 h4 =>
        simp only [eb] at hp2
        exact fun S4 ι4 H4 σ4 ex4 st4 rs4 => ⟨hlt, S4, ι4, h4, σi4, st4, rs4, fun a o z => ex4.ss a o (ss2 a o z), fun n a z => ex4.ii n a (ii' n a z), PostS.ext (base.trans ex4) hp2⟩
      | bk σi4 h4 =>
        simp only [eb] at hp2
        exact fun S4 ι4 H4 σ4 ex4 st4 rs4 => hp2 S4 ι4 H4 σ4 (base.trans ex4) st4 rs4
      | rt v4 h4 => simp only [eb] at hp2; exact PostS.ext (D := D) (r := .rt v4 h4) base hp2
      | ex v4 σi4 h4 => simp only [eb] at hp2; exact PostS.ext (D := D) (r := .ex v4 σi4 h4) base hp2
      | bad => simp only [eb] at hp2; exact hp2
  · have e : i = xs.length := by omega
    subst e
    refine .inl ⟨wk.stops H' (hG S' H' ss' st'.sub), ?_⟩
    rw [List.drop_length] at hp'
    exact hp' S' ι' H' σ' .refl st' rs'
/-! ### while -/
theorem ss_while {c : Expr} {body : List Stmt} {t : MT} {b : MS} {fuel : Nat} (hp : PassesOwn (model X.prog X.w) X.A X.env X.xe) (hc : PT X c (can κ W Mi.rt t)) (hb : PSs X body (canS κ W b)) : PS X (.While c body [] pos) (canS κ W (sWhile fuel t b)) := by
  refine ps_imp (ps_while hp hc hb) fun D σ H => ?_
  rintro ⟨S, ι, h, σi, st, rs, hpp⟩
  refine ⟨fun mm σ' H' => ∃ S' ι' h' σi', Stt κ S' ι' h' H' ∧ RSig κ S' ι' H' σi' σ' ∧ PostS κ W D S' ι' H' σi' σ' (loopW t b mm σi' h'), ⟨fuel, S, ι, h, σi, st, rs, hpp⟩, ?_⟩
  rintro mm σ' H' ⟨S', ι', h', σi', st', rs', hp'⟩
  cases mm with
  | zero => exact hp'.elim
  | succ mm =>
    unfold loopW at hp'
    refine can_go st' rs' hp' fun v h1 S1 ι1 H1 x e ex st1 rs1 rx hp1 => ?_
    have rx' : v = x := rx
    subst rx'
    cases v with
    | false => exact iteF (hp1 S1 ι1 H1 σ' .refl st1 rs1)
    | true =>
      refine iteT ⟨fun σ2 H2 => ∃ S' ι' h' σi', Stt κ S' ι' h' H2 ∧ RSig κ S' ι' H2 σi' σ2 ∧ PostS κ W D S' ι' H2 σi' σ2 (loopW t b mm σi' h'), fun σ2 H2 q => ⟨mm, Nat.lt_succ_self _, q⟩, S1, ι1, h1, σi', st1, rs1, ?_⟩
      have hp2 : PostS κ W D S1 ι1 H1 σi' σ' (match b σi' h1 with
        | .nx σ2 h2 => loopW t b mm σ2 h2
        | .ct σ2 h2 => loopW t b mm σ2 h2
        | .bk σ2 h2 => .nx σ2 h2
        | o => o) := hp1
      cases eb : b σi' h1 with
      | nx σi4 h4 =>
        simp only [eb] at hp2
        exact fun S4 ι4 H4 σ4 ex4 st4 rs4 => ⟨S4, ι4, h4, σi4, st4, rs4, PostS.ext ex4 hp2⟩
      | ct σi4 h4 =>
        simp only [eb] at hp2
        exact fun S4 ι4 H4 σ4 ex4 st4 rs4 => ⟨S4, ι4, h4, σi4, st4, rs4, PostS.ext ex4 hp2⟩
      | bk σi4 h4 =>
        simp only [eb] at hp2
        exact hp2
      | rt v4 h4 => simp only [eb] at hp2; exact hp2
      | ex v4 σi4 h4 => simp only [eb] at hp2; exact hp2
      | bad => simp only [eb] at hp2; exact hp2
end
end Mi
set_option linter.all false
set_option Elab.async false
set_option maxRecDepth 100000
set_option maxHeartbeats 4000000
/-! MiG: comprehensions; a def's body keeps the interpreter's promise. -/
namespace Mi
open PySem PySem.Spec PyProof.Rows L2

theorem wipe_set_comm {σ : L2.St} {v : Nat} : ∀ {ws : List Nat}, (wipe σ ws).set v none = wipe (σ.set v none) ws
  | [] => rfl
  | w :: ws => by
    unfold wipe
    rw [← wipe_set_comm]
    by_cases h : w = v
    · subst h; rfl
    · exact List.set_comm _ _ (fun z => h z)
theorem wipe_idem {σ : L2.St} : ∀ {vs : List Nat}, wipe (wipe σ vs) vs = wipe σ vs
  | [] => rfl
  | v :: vs => by
    show (wipe ((wipe σ vs).set v none) vs).set v none = (wipe σ vs).set v none
    rw [← wipe_set_comm, wipe_idem, List.set_set]
section
variable {κ : Kx} {S : Hp} {ι : List Addr} {H : Hp} {σi : Sg} {σ : L2.St}
theorem RSig.wipe (r : RSig κ S ι H σi σ) : ∀ vs : List Nat, RSig κ S ι H (wipeM σi vs) (wipe σ vs)
  | [] => r
  | v :: vs => (RSig.wipe r vs).emp
end
/-- no exception leaves a comprehension's block -/
abbrev W0 : WX := fun _ _ _ _ => False
section
variable {κ : Kx} {W : WX}
theorem sts_nil {X : Cx} : PTs X [] (can κ W0 Mi.rt Mi.tYes) := ⟨fun pins s σ H Q I q => pts_nil.run pins s σ H Q I (by
  obtain ⟨S, ι, h, σi, st, rs, hp⟩ := q
  exact hp.done st rfl)⟩
theorem sts_one {X : Cx} {c : Expr} {m : MT} (h : PT X c (can κ W0 Mi.rt m)) : PTs X [c] (can κ W0 Mi.rt m) := pts_one h
theorem lc_of {src : MA} {g : MG} {cond : MT} {elt : ME} {vs : List Nat} {σ : L2.St} {H : Hp} {Q : VK} (q : can κ W (rv κ) (mComp src g cond elt vs) σ H Q) :
    tLc (canI κ W src) (canG κ vs g) (can κ W0 Mi.rt cond) (can κ W0 (rv κ) elt) vs σ H Q := by
  obtain ⟨S, ι, h, σi, st, rs, hpp⟩ := q
  have hpp' : PostR κ W (rv κ) Q S ι H σ ((src σi h).bind fun xs h1 => (loopC g cond elt vs xs σi h1).bind fun ys h2 => .ok (.lst ys) h2) := by
    have e : mComp src g cond elt vs σi h = (src σi h).bind fun xs h1 => (loopC g cond elt vs xs σi h1).bind fun ys h2 => .ok (.lst ys) h2 := by
      unfold mComp cItems
      cases src σi h <;> rfl
    rw [e] at hpp
    exact hpp
  refine can_intro st rs hpp' fun xs h1 S1 ι1 H1 J e ex st1 rs1 rx hp1 => ?_
  obtain ⟨hl, G, Y, wk, hG, hY⟩ := rx
  intro D hD
  obtain ⟨hDi, hDs⟩ := st1.free hD
  obtain ⟨st2, ex2⟩ := st1.newR (u := .lst []) hD
  refine ⟨fun i mm H' => mm = xs.length - i ∧ i ≤ xs.length ∧ ∃ S' ι' h' done acc, Stt κ S' ι' h' H' ∧ Ext S1 ι1 H1 S' ι' H' ∧ D ∉ ι' ∧ S' D = none ∧ H' D = some (.lst acc) ∧ RVs κ S' ι' done acc ∧ done.length ≤ i ∧
    PostR κ W (rv κ) Q S1 ι1 H1 σ ((loopC g cond elt vs (xs.drop i) σi h').bind fun ys h2 => .ok (.lst (done ++ ys)) h2), ⟨xs.length, by omega, Nat.zero_le _, S1, ι1, h1, [], [], st2, ex2, hDi, hDs, upd_same, RVs.nil, Nat.le_refl _, hp1⟩, ?_⟩
  rintro i mm H' ⟨rfl, hle, S', ι', h', done, acc, st', ex', hDi', hDs', hDa, rr, hdl, hp'⟩
  have hGH := hG S' H' ex'.ss st'.sub
  by_cases hlt : i < xs.length
  · refine .inr ⟨wk.goes i H' hlt hGH, fun H2 => i + 1 ≤ xs.length ∧ ∃ S' ι' h' done acc, Stt κ S' ι' h' H2 ∧ Ext S1 ι1 H1 S' ι' H2 ∧ D ∉ ι' ∧ S' D = none ∧ H2 D = some (.lst acc) ∧ RVs κ S' ι' done acc ∧ done.length ≤ i + 1 ∧
      PostR κ W (rv κ) Q S1 ι1 H1 σ ((loopC g cond elt vs (xs.drop (i + 1)) σi h').bind fun ys h2 => .ok (.lst (done ++ ys)) h2), fun H2 ⟨q1, q2⟩ => ⟨xs.length - (i + 1), by omega, rfl, q1, q2⟩, fun x H2 yl => ?_⟩
    obtain ⟨S2, v, st2, exY, ev, rvx⟩ := hY i H' x H2 S' ι' h' hlt ex'.ss ex'.ii st' (wk.yields i H' x H2 hlt hGH yl)
    rw [drop_cons ev] at hp'
    unfold loopC at hp'
    obtain ⟨k1, k2, k3⟩ := exY.keep D _ hDa hDi'
    have k3 := k3 hDs'
    have exS2 : Ext S1 ι1 H1 S2 ι' H2 := ex'.trans exY
    have rsw : RSig κ S2 ι' H2 (wipeM σi vs) (wipe σ vs) := (rs1.ext exS2).wipe vs
    cases eg : g v (wipeM σi vs) with
    | none => rw [eg] at hp'; exact hp'.elim
    | some σ3 =>
      rw [eg] at hp'
      refine ⟨S2, ι', h', wipeM σi vs, v, st2, rsw, rvx, σ3, eg, fun σ4 rs4 _ w4 => ⟨w4.trans wipe_idem, ?_⟩⟩
      refine ⟨S2, ι', h', σ3, st2, rs4, ?_⟩
      cases ec : cond σ3 h' with
      | bad => simp only [ec] at hp'; exact hp'
      | ex x5 h5 => simp only [ec] at hp'; exact hp'.elim
      | ok c h5 =>
        simp only [ec] at hp'
        intro S5 ι5 H5 c' ex5 st5 rc
        have rc' : c = c' := rc
        subst rc'
        obtain ⟨m1, m2, m3⟩ := ex5.keep D _ k1 k2
        have m3 := m3 k3
        cases c with
        | false =>
          refine iteF ⟨hlt, S5, ι5, h5, done, acc, st5, exS2.trans ex5, m2, m3, m1, rr.ext (exY.trans ex5), by omega, hp'⟩
        | true =>
          refine iteT ⟨S5, ι5, h5, σ3, st5, rs4.ext ex5, ?_⟩
          cases ee : elt σ3 h5 with
          | bad => simp only [ee] at hp'; exact hp'
          | ex x6 h6 => simp only [ee] at hp'; exact hp'.elim
          | ok y h6 =>
            simp only [ee] at hp'
            intro S6 ι6 H6 y' ex6 st6 ry
            obtain ⟨n1, n2, n3⟩ := ex6.keep D _ m1 m2
            have n3 := n3 m3
            have exA : Ext S1 ι1 H1 S6 ι6 H6 := (exS2.trans ex5).trans ex6
            have rA := rr.ext ((exY.trans ex5).trans ex6)
            refine ⟨acc, n1, by rw [← rr.length, ← line_eq]; omega, hlt, S6, ι6, h6, done ++ [y], acc ++ [y'], st6.writeR n2 n3, exA.writeR hD, n2, n3, upd_same, rA.append (RVs.cons ry RVs.nil), by rw [List.length_append] <;> (show done.length + 1 ≤ i + 1); omega, ?_⟩
            have e7 : ((loopC g cond elt vs (xs.drop (i + 1)) σi h6).bind fun ys h3 => R.ok (y :: ys) h3).bind (fun ys h2 => R.ok (IV.lst (done ++ ys)) h2) = (loopC g cond elt vs (xs.drop (i + 1)) σi h6).bind fun ys h2 => .ok (.lst ((done ++ [y]) ++ ys)) h2 := by
              cases loopC g cond elt vs (xs.drop (i + 1)) σi h6 with
              | ok ys h7 => simp
              | ex x h7 => rfl
              | bad => rfl
            rw [e7] at hp'
            exact hp'
  · have e : i = xs.length := by omega
    subst e
    refine .inl ⟨wk.stops H' hGH, ?_⟩
    rw [List.drop_length] at hp'
    have hp2 : PostR κ W (rv κ) Q S1 ι1 H1 σ (.ok (.lst (done ++ [])) h') := hp'
    rw [List.append_nil] at hp2
    obtain ⟨stF, exF⟩ := st'.freeze ex' hDa hDi' hDs' hD
    refine hp2 _ _ _ _ exF stF ?_
    exact RV.lstI (by omega) (SqL.of upd_same) (RVs.mono (fun a o z => by rw [upd_ne (by rintro rfl; rw [hDs'] at z; cases z)]; exact z) (fun _ _ z => z) _ _ rr)
theorem se_comp {X : Cx} {elt tg iter : Expr} {ifs : List Expr} {scope : Scope} {own : List (Str × Nat)} {pos : Pos} {src : MA} {g : MG} {cond : MT} {m : ME} (hc : X.calm = true) (hN : X.N.Nodup) (hi : PI X tg iter (canI κ W src)) (ok : BlkOk X.N X.env.scope scope own)
    (hg : ∀ (s : Shared) (H : Hp) (C : Addr) (cl : List (Str × Addr)) (fp : List Addr), PG (X.blk s H scope (compEnvC scope cl C X.env) fp) tg (canG κ (own.map (·.2)) g))
    (ht : ∀ (s : Shared) (H : Hp) (C : Addr) (cl : List (Str × Addr)) (fp : List Addr), PTs (X.blk s H scope (compEnvC scope cl C X.env) fp) ifs (can κ W0 Mi.rt cond))
    (he : ∀ (s : Shared) (H : Hp) (C : Addr) (cl : List (Str × Addr)) (fp : List Addr), PE (X.blk s H scope (compEnvC scope cl C X.env) fp) elt (can κ W0 (rv κ) m)) (hs : ∀ x, foldedSetIterable iter X.env x = pure x) :
    PE X (.ListComp elt [⟨tg, iter, ifs, 0⟩] scope pos) (can κ W (rv κ) (mComp src g cond m (own.map (·.2)))) :=
  pe_imp (pe_lc hc hN hi ok hg ht he hs) fun _ _ _ q => lc_of q
theorem ss_setComp {X : Cx} {i : Nat} {y : Str} {py : Pos} {elt tg iter : Expr} {ifs : List Expr} {scope : Scope} {own : List (Str × Nat)} {pos spos : Pos} {src : MA} {g : MG} {cond : MT} {m : ME} (hc : X.calm = true) (hN : X.N.Nodup) (hy : X.N[i]? = some y) (hyl : X.env.scope.names.lookup y = some .local)
    (hsw : swapsWith (.ListComp elt [⟨tg, iter, ifs, 0⟩] scope pos) (some (.Name y py)) spos.line X.env = pure true) (hi : PI X tg iter (canI κ W src)) (ok : BlkOk X.N X.env.scope scope own)
    (hg : ∀ (s : Shared) (H : Hp) (C : Addr) (cl : List (Str × Addr)) (fp : List Addr), PG (X.blk s H scope (compEnvC scope cl C X.env) fp) tg (canG κ (own.map (·.2)) g))
    (ht : ∀ (s : Shared) (H : Hp) (C : Addr) (cl : List (Str × Addr)) (fp : List Addr), PTs (X.blk s H scope (compEnvC scope cl C X.env) fp) ifs (can κ W0 Mi.rt cond))
    (he : ∀ (s : Shared) (H : Hp) (C : Addr) (cl : List (Str × Addr)) (fp : List Addr), PE (X.blk s H scope (compEnvC scope cl C X.env) fp) elt (can κ W0 (rv κ) m)) (hs : ∀ x, foldedSetIterable iter X.env x = pure x) :
    PS X (.Assign [.Name y py] (.ListComp elt [⟨tg, iter, ifs, 0⟩] scope pos) spos) (canS κ W (sSet i (mComp src g cond m (own.map (·.2))))) :=
  ss_set_of (ps_setLc hc hN hy hyl hsw hi ok hg ht he hs) fun _ _ _ q => lc_of q
end

/-! ### a def -/
theorem start_sig {κ : Kx} {S : Hp} {ι : List Addr} {H : Hp} {ivs : List IV} {vs : List V} {N : List Str} (r : RVs κ S ι ivs vs) : RSig κ S ι H (Mi.start N.length ivs) (L2.start N vs) := by
  have hl := r.length
  refine ⟨?_, fun i s e => ?_, fun i j o o' a e1 e2 => ?_⟩
  · unfold Mi.start L2.start
    rw [List.length_append, List.length_append, List.length_map, List.length_map, List.length_replicate, List.length_replicate, hl]
  · unfold Mi.start at e
    by_cases h : i < ivs.length
    · rw [List.getElem?_append_left (by rw [List.length_map]; exact h), List.getElem?_map] at e
      obtain ⟨v, ev, es⟩ := Option.map_eq_some_iff.mp e
      subst es
      obtain ⟨x, ex, rx⟩ := r.get ev
      refine ⟨x, ?_, rx⟩
      unfold L2.start
      rw [List.getElem?_append_left (by rw [List.length_map, ← hl]; exact h), List.getElem?_map, ex]
      all_goals rfl
    · rw [List.getElem?_append_right (by rw [List.length_map]; omega), List.getElem?_replicate] at e
      split at e
      · cases e; trivial
      · cases e
  · exfalso
    unfold Mi.start at e1
    by_cases h : i < ivs.length
    · rw [List.getElem?_append_left (by rw [List.length_map]; exact h), List.getElem?_map] at e1
      obtain ⟨v, ev, es⟩ := Option.map_eq_some_iff.mp e1
      cases es
    · rw [List.getElem?_append_right (by rw [List.length_map]; omega), List.getElem?_replicate] at e1
      split at e1 <;> cases e1
/-- a def's body as a combinator: the def keeps the interpreter's promise -/
theorem body_post {κ : Kx} {N : List Str} {np : Nat} {m : MS} {f : Nat} {rc : Rec} {vs : List V} {H : Hp} {Q : VK} {E : XK} (hrc : ∀ ivs h, ivs.length = np → rc f ivs h = (m (Mi.start N.length ivs) h).out) (q : spI κ rc f np vs H Q E) :
    canS κ (fun c d _ H => E c d H) m { nx := fun _ H' => Q .non H', rt := Q } (L2.start N vs) H := by
  obtain ⟨S, ι, h, ivs, st, r, hl, hp⟩ := q
  refine ⟨S, ι, h, _, st, start_sig r, ?_⟩
  rw [hrc ivs h (r.length.trans hl)] at hp
  have own0 : ∀ a, ¬ OwnS (Mi.start N.length ivs) (L2.start N vs) a := fun a z => by
    obtain ⟨i, o, e1, _⟩ := z
    unfold Mi.start at e1
    by_cases h : i < ivs.length
    · rw [List.getElem?_append_left (by rw [List.length_map]; exact h), List.getElem?_map] at e1
      obtain ⟨v, ev, es⟩ := Option.map_eq_some_iff.mp e1
      cases es
    · rw [List.getElem?_append_right (by rw [List.length_map]; omega), List.getElem?_replicate] at e1
      split at e1 <;> cases e1
  have down : ∀ {S' ι' H' σi' σ'}, ExtS S ι H (Mi.start N.length ivs) (L2.start N vs) S' ι' H' σi' σ' → Ext S ι H S' ι' H' := fun e => ⟨e.ss, e.ii, fun a o q n => by
    obtain ⟨q1, q2, _, q4⟩ := e.keep a o q n (own0 a)
    exact ⟨q1, q2, q4⟩⟩
  cases e : m (Mi.start N.length ivs) h with
  | nx σ' h' => rw [e] at hp; exact fun S' ι' H' σ' ex st' rs' => hp S' ι' H' .non (down ex) st' RV.nonI
  | rt v h' => rw [e] at hp; exact fun S' ι' H' x ex st' rx => hp S' ι' H' x (down ex) st' rx
  | bk σ' h' => rw [e] at hp; exact hp.elim
  | ct σ' h' => rw [e] at hp; exact hp.elim
  | ex x σ' h' => rw [e] at hp; exact fun S' ι' H' σ' cls d ex st' rs' rx => hp S' ι' H' cls d (down ex) st' rx
  | bad => rw [e] at hp; exact hp
end Mi
set_option linter.all false
set_option Elab.async false
set_option maxRecDepth 100000
set_option maxHeartbeats 4000000
/-! MiH: a def's text compiled to combinators, and that the compiled text is the text's reading. -/
namespace Mi
open PySem PySem.Spec PyProof.Rows L2

/-- what a global name is: a def (its number, its parameters, its defaults), a built-in, a constant -/
inductive GI where
  | fn (idx np : Nat) (dl : List IV)
  | blt
  | con (v : IV)
/-- where one stands: the slots' names, the scope, the scope whose names are stored, the globals; displays that lie on the heap (line, column) -/
structure Cc where
  N : List Str
  sc : Scope
  raw : Scope
  go : Str → Option GI
  hp : List (Nat × Nat)
def ixOf : List Str → Str → Option Nat
  | [], _ => none
  | y :: ys, x => if x = y then some 0 else (ixOf ys x).map (· + 1)
theorem ixOf_get : ∀ {N : List Str} {x : Str} {i : Nat}, ixOf N x = some i → N[i]? = some x
  | y :: ys, x, i, h => by
    unfold ixOf at h
    split at h
    · rename_i e; cases h; subst e; rfl
    · obtain ⟨j, e, rfl⟩ := Option.map_eq_some_iff.mp h
      simpa using ixOf_get e
def Cc.slot (c : Cc) (x : Str) : Option Nat := match c.sc.names.lookup x with
  | some .local => ixOf c.N x
  | some .cell => ixOf c.N x
  | some .free => ixOf c.N x
  | _ => none
def Cc.dst (c : Cc) (x : Str) : Option Nat := match c.raw.names.lookup x with
  | some .local => ixOf c.N x
  | some .cell => ixOf c.N x
  | _ => none
def Cc.glob (c : Cc) (x : Str) : Option GI := match c.sc.names.lookup x with
  | some .globalImplicit => c.go x
  | _ => none
def Cc.onHeap (c : Cc) (p : Pos) : Bool := c.hp.any fun q => q.1 == p.line && q.2 == p.col

/-! ### facts of the surroundings -/
def GFact (κ : Kx) (P : Program) (w : World) (mg : Str → Option Value) (base : Heap) (k : Nat) (rc : Rec) (x : Str) : GI → Prop
  | .fn idx np dl => ∃ (f : Addr) (fd : FuncData) (ps : List Str) (dvs : List V), mg x = some (.ref f) ∧ PySem.W.keepIn κ.K (.ref f) = true ∧ ps.length = np ∧ dl.length ≤ np ∧ (∀ S ι, RVs κ S ι dl dvs) ∧
      (∀ j, j ≤ dl.length → ∃ ds, Vals (dvs.drop j) ds ∧ Binds κ.K fd ps ds) ∧ FnOk P w κ.K mg base (L2.CX P w) k f fd ps (spI κ rc idx ps.length)
  | .blt => mg x = none
  | .con v => ∃ (vv : V) (u : Value), mg x = some u ∧ RelV vv u ∧ ∀ S ι, RV κ S ι v vv
structure Okx (κ : Kx) (rc : Rec) (X : Cx) (c : Cc) (W : WX) : Prop where
  hN : X.N = c.N
  nd : c.N.Nodup
  sc : X.env.scope = c.sc
  fk : X.env.scope.kind = .function
  K : X.K = κ.K
  calm : X.calm = true
  okn : ∀ x ∈ c.N, (x == ("__debug__" : Str)) = false ∧ (x == ("__classdict__" : Str)) = false
  room : ∃ k, Room k X.A ∧ ∀ x g, c.go x = some g → (x == ("__debug__" : Str)) = false ∧ x ≠ "__name__" ∧ GFact κ X.prog X.w X.mg X.base k rc x g
  tk : Takes X W
  st : ∀ x, c.raw.names.lookup x = some .local ∨ c.raw.names.lookup x = some .cell → Loc X.env.scope x ∧ (X.fn x = true ∨ X.env.scope.names.lookup x = some .local)
section
variable {κ : Kx} {rc : Rec} {X : Cx} {c : Cc} {W : WX}
theorem Okx.hu (o : Okx κ rc X c W) : X.A.units + 64 < cLine := let ⟨_, r, _⟩ := o.room; r.units
theorem Okx.hu65 (o : Okx κ rc X c W) : X.A.units + 65 < cLine := by
  obtain ⟨_, r, _⟩ := o.room
  have := r.un
  omega
theorem Okx.hu1 (o : Okx κ rc X c W) : X.A.units + 1 < cLine := by have := o.hu; omega
theorem slot_ok (o : Okx κ rc X c W) {x : Str} {i : Nat} (h : c.slot x = some i) : X.N[i]? = some x ∧ Vis X.env.scope x ∧ (x == ("__debug__" : Str)) = false ∧ (x == ("__classdict__" : Str)) = false := by
  unfold Cc.slot at h
  have key : ∀ k, c.sc.names.lookup x = some k → (k = .local ∨ k = .cell ∨ k = .free) → ixOf c.N x = some i → X.N[i]? = some x ∧ Vis X.env.scope x ∧ (x == ("__debug__" : Str)) = false ∧ (x == ("__classdict__" : Str)) = false := fun k e hk hi => by
    have hg := ixOf_get hi
    obtain ⟨n1, n2⟩ := o.okn x (List.mem_of_getElem? hg)
    refine ⟨by rw [o.hN]; exact hg, ?_, n1, n2⟩
    unfold Vis
    rw [o.sc, e]
    rcases hk with rfl | rfl | rfl
    · exact .inl rfl
    · exact .inr (.inl rfl)
    · exact .inr (.inr rfl)
  split at h
  · rename_i e; exact key _ e (.inl rfl) h
  · rename_i e; exact key _ e (.inr (.inl rfl)) h
  · rename_i e; exact key _ e (.inr (.inr rfl)) h
  · cases h
theorem dst_ok (o : Okx κ rc X c W) {x : Str} {i : Nat} (h : c.dst x = some i) : X.N[i]? = some x ∧ Loc X.env.scope x ∧ (X.fn x = true ∨ X.env.scope.names.lookup x = some .local) := by
  unfold Cc.dst at h
  split at h
  · rename_i e
    obtain ⟨a, b⟩ := o.st x (.inl e)
    exact ⟨by rw [o.hN]; exact ixOf_get h, a, b⟩
  · rename_i e
    obtain ⟨a, b⟩ := o.st x (.inr e)
    exact ⟨by rw [o.hN]; exact ixOf_get h, a, b⟩
  · cases h
theorem glob_ok (o : Okx κ rc X c W) {x : Str} {g : GI} (h : c.glob x = some g) : Gl X x ∧ c.go x = some g := by
  unfold Cc.glob at h
  split at h
  · rename_i e
    refine ⟨?_, h⟩
    show X.env.scope.names.lookup x = _
    rw [o.sc]; exact e
  · cases h
theorem blt_ok (o : Okx κ rc X c W) {x : Str} (h : c.glob x = some .blt) : Gl X x ∧ X.mg x = none := by
  obtain ⟨a, b⟩ := glob_ok o h
  obtain ⟨k, _, q⟩ := o.room
  exact ⟨a, (q x _ b).2.2⟩
end

/-! ### the compiler -/
structure CF where
  E : Cc → Expr → Option ME
  T : Cc → Expr → Option MT
def opF : Operator → Option (IV → IV → MH → R IV)
  | .Add => some vAdd | .Sub => some vSub | .Mult => some vMul | .FloorDiv => some vDiv | .Mod => some vMod | .Pow => some vPow
  | _ => none
def cmpF : CmpOp → Option (IV → IV → MH → R IV)
  | .Eq => some vEqR | .NotEq => some vNeR | .Lt => some vLt | .LtE => some vLe | .Gt => some vGt | .GtE => some vGe | .In => some vIn | .NotIn => some vNotIn
  | _ => none
def sokB (s : Str) : Bool := decide (s.length ≤ line) && PyData.strOk s
def isStar : Expr → Bool
  | .Starred _ _ => true
  | _ => false
def isSet : Expr → Bool
  | .Set _ _ _ => true
  | _ => false
def isSlice : Expr → Bool
  | .Slice _ _ _ _ => true
  | _ => false
def isComp : Expr → Bool
  | .ListComp _ _ _ _ => true
  | .SetComp _ _ _ _ => true
  | .DictComp _ _ _ _ _ => true
  | _ => false
def isCall : Expr → Bool
  | .Call _ _ _ _ => true
  | _ => false
def isTuple : Expr → Bool
  | .Tuple _ _ _ => true
  | _ => false
def isPlain : Expr → Bool
  | .Name _ _ => true
  | .Call _ _ _ _ => true
  | .Subscript _ _ _ => true
  | .Attribute _ _ _ => true
  | .Constant _ _ _ => true
  | .List _ _ => true
  | .Tuple _ _ _ => true
  | .BinOp _ _ _ _ => true
  | _ => false
def cB (r : CF) (c : Cc) (e : Expr) : Option ME := match e with
  | .Name x _ => match c.slot x with
    | some i => some (mBv i)
    | none => r.E c e
  | _ => r.E c e
def cAll (f : Expr → Option ME) : List Expr → Option (List ME)
  | [] => some []
  | e :: es => if isStar e then none else match f e, cAll f es with
    | some m, some ms => some (m :: ms)
    | _, _ => none
def cPart (r : CF) (c : Cc) : Option Expr → Option (Option ME)
  | none => some none
  | some e => (r.E c e).map some
/-- a display's written keys -/
def cKeys : List (Option Expr) → Option (List Ky)
  | [] => some []
  | some (.Constant (.str s) _ _) :: r => if sokB s then (cKeys r).map fun l => .inr s :: l else none
  | some (.Constant (.int i) _ _) :: r => (cKeys r).map fun l => .inl i :: l
  | _ :: _ => none
/-- built-in calls with plain arguments: by the name -/
def bltF (x : Str) : Option (List IV → MH → R IV) :=
  if x = "len" then some bLen else if x = "all" then some bAll else if x = "any" then some bAny else if x = "min" then some bMin else if x = "max" then some bMax
  else if x = "int" then some bInt else if x = "list" then some bList else if x = "tuple" then some bTuple else if x = "dict" then some bDict else none
def tyF (x : Str) : Option Ty :=
  if x = "int" then some .int else if x = "bool" then some .bool else if x = "str" then some .str else if x = "tuple" then some .tup else if x = "list" then some .lst else if x = "dict" then some .dic else none
def cIter (r : CF) (c : Cc) (e : Expr) : Option MA := match e with
  | .Call (.Name x _) [a] [] _ => if x = "range" then (if isStar a then none else match c.glob "range", r.E c a with
      | some .blt, some m => some (iRange1 m)
      | _, _ => none) else (r.E c e).map iSeq
  | .Call (.Name x _) [a, b] [] _ => if x = "range" then (if isStar a || isStar b then none else match c.glob "range", r.E c a, r.E c b with
      | some .blt, some m, some n => some (iRange2 m n)
      | _, _, _ => none) else (r.E c e).map iSeq
  | e => if isSet e then none else (r.E c e).map iSeq
def cTgt (c : Cc) (vs : List Nat) : Nat → Expr → Option MG
  | 0, _ => none
  | _ + 1, .Name x _ => match c.dst x with
    | some i => if i ∈ vs then some (gName i) else none
    | none => none
  | n + 1, .Tuple es _ _ => (cTgts (cTgt c vs n) es).map gTup
  | _, _ => none
where
  cTgts (f : Expr → Option MG) : List Expr → Option (List MG)
  | [] => some []
  | e :: es => if isStar e then none else match f e, cTgts f es with
    | some m, some ms => some (m :: ms)
    | _, _ => none
def ownOf (c : Cc) (scope : Scope) : List (Str × Nat) := scope.names.filterMap fun y => match y.2 with
  | .local => (ixOf c.N y.1).map fun i => (y.1, i)
  | .cell => (ixOf c.N y.1).map fun i => (y.1, i)
  | _ => none
def cComp (r : CF) (c : Cc) (elt tg iter : Expr) (ifs : List Expr) (scope : Scope) : Option ME :=
  let own := ownOf c scope
  let vs := own.map (·.2)
  let c' : Cc := { c with sc := relS scope c.sc, raw := scope }
  if blkC c.N c.sc scope own then
    match cIter r c iter, cTgt c' vs 4 tg, (match ifs with
        | [] => some Mi.tYes
        | [t] => r.T c' t
        | _ => none), r.E c' elt with
      | some src, some g, some t, some m => some (mComp src g t m vs)
      | _, _, _, _ => none
  else none
def stepE (rc : Rec) (r : CF) (c : Cc) : Expr → Option ME
  | .Name x _ => match c.slot x with
    | some i => some (mVar i)
    | none => match c.glob x with
      | some (.con v) => some (mLit v)
      | _ => none
  | .Constant (.int i) _ _ => some (mLit (.int i))
  | .Constant (.bool b) _ _ => some (mLit (.bl b))
  | .Constant .none _ _ => some (mLit .non)
  | .Constant (.str s) _ _ => if sokB s then some (mLit (.str s)) else none
  | .BinOp a op b _ => match opF op, cB r c a, cB r c b with
    | some f, some x, some y => some (m2 f x y)
    | _, _, _ => none
  | .UnaryOp .USub a _ => (cB r c a).map (m1 vNeg)
  | .UnaryOp .Not a _ => (r.E c a).map mNot
  | .Compare a [op] [b] _ => match op, b with
    | .Is, .Constant .none _ _ => (cB r c a).map (m1 vIsN)
    | .IsNot, .Constant .none _ _ => (cB r c a).map (m1 vNotN)
    | _, _ => if isSet b then none else match cmpF op, cB r c a, cB r c b with
      | some f, some x, some y => some (m2 f x y)
      | _, _, _ => none
  | .Compare a [op, op'] [b, d] _ => if isSet b || isSet d then none else match cmpF op, cmpF op', cB r c a, cB r c b, cB r c d with
    | some f, some g, some x, some y, some z => some (mChain f g x y z)
    | _, _, _, _, _ => none
  | .BoolOp op [a] _ => r.E c a
  | .BoolOp .And (a :: b :: rest) p => match r.E c a, r.E c (.BoolOp .And (b :: rest) p) with
    | some x, some y => some (mAnd x y)
    | _, _ => none
  | .BoolOp .Or (a :: b :: rest) p => match r.E c a, r.E c (.BoolOp .Or (b :: rest) p) with
    | some x, some y => some (mOr x y)
    | _, _ => none
  | .IfExp t a b _ => match r.T c t, r.E c a, r.E c b with
    | some m, some x, some y => some (mIf m x y)
    | _, _, _ => none
  | .Subscript a (.Slice none none (some (.UnaryOp .USub (.Constant (.int 1) _ _) _)) _) _ => (cB r c a).map (m1 vRev)
  | .Subscript a (.Slice lo hi none _) _ => match cB r c a, cPart r c lo, cPart r c hi with
    | some x, some l, some u => some (mSlc x l u)
    | _, _, _ => none
  | .Subscript a b _ => if isSlice b then none else match cB r c a, cB r c b with
    | some x, some y => some (m2 vIdx x y)
    | _, _ => none
  | .Tuple es _ _ => if es.length ≤ 1000 then (cAll (r.E c) es).map mTup else none
  | .List es pos => if es.length ≤ 1000 then (cAll (r.E c) es).map fun ms => if c.onHeap pos then mHLst ms else mLst ms else none
  | .Dict [] [] pos => some (if c.onHeap pos then mHDic [] [] else mDic [] [])
  | .Dict (k :: ks) vs pos => if (k :: ks).length = vs.length ∧ (k :: ks).length ≤ 15 then (match cKeys (k :: ks), cAll (r.E c) vs with
    | some l, some ms => some (if c.onHeap pos then mHDic l ms else mDic l ms)
    | _, _ => none) else none
  | .Call (.Name x _) (e :: es) [] _ => match c.glob x with
    | some (.fn idx np dl) => match cAll (r.E c) (e :: es) with
      | some ms => if ms.length ≤ np ∧ np ≤ ms.length + dl.length then some (if ms.length = np then mCall rc idx ms else mCallD rc idx ms (dl.drop (ms.length + dl.length - np))) else none
      | none => none
    | some .blt => if x = "isinstance" then (match es with
        | [.Name y _] => match c.glob y, tyF y, (if isStar e then none else cB r c e) with
          | some .blt, some T, some m => some (m1 (vIsi T) m)
          | _, _, _ => none
        | _ => none) else match bltF x, cAll (cB r c) (e :: es) with
          | some f, some ms => some (mB f ms)
          | _, _ => none
    | _ => none
  | .Call (.Attribute o m apos) (e :: es) [] cpos => if isCall o || !(apos.endLine == cpos.line) || decide (es.length > 5) then none else match cB r c o, cAll (r.E c) (e :: es) with
    | some x, some ms => if m = "append" then some (mM chkL tAppend x ms) else if m = "get" then some (mM chkD tGet x ms) else none
    | _, _ => none
  | .Call (.Attribute o m apos) [] [] cpos => if isCall o || !(apos.endLine == cpos.line) then none else match cB r c o with
    | some x => if m = "pop" then some (mM chkL tPop x []) else none
    | none => none
  | .ListComp elt [⟨tg, iter, ifs, 0⟩] scope _ => cComp r c elt tg iter ifs scope
  | _ => none
/-- a bool as a test -/
def tBl (a : ME) : MT := fun σ h => (a σ h).bind fun x h1 => .of (asBl x) h1
def cAnds (f : Expr → Option MT) : List Expr → Option MT
  | [] => none
  | [a] => f a
  | a :: b :: r => match f a, cAnds f (b :: r) with
    | some x, some y => some (Mi.tAnd x y)
    | _, _ => none
def cOrs (f : Expr → Option MT) : List Expr → Option MT
  | [] => none
  | [a] => f a
  | a :: b :: r => match f a, cOrs f (b :: r) with
    | some x, some y => some (Mi.tOr x y)
    | _, _ => none
def stepT (r : CF) (c : Cc) : Expr → Option MT
  | .UnaryOp .Not a _ => (r.T c a).map Mi.tNot
  | .BoolOp .And es _ => cAnds (r.T c) es
  | .BoolOp .Or es _ => cOrs (r.T c) es
  | .Compare a [op] [b] _ => match op, b with
    | .Is, .Constant .none _ _ => (cB r c a).map fun m => tBl (m1 vIsN m)
    | .IsNot, .Constant .none _ _ => (cB r c a).map fun m => tBl (m1 vNotN m)
    | _, _ => if isSet b then none else match cmpF op, cB r c a, cB r c b with
      | some f, some x, some y => some (tBl (m2 f x y))
      | _, _, _ => none
  | .Compare a [op, op'] [b, d] _ => if isSet b || isSet d then none else match cmpF op, cmpF op', cB r c a, cB r c b, cB r c d with
    | some f, some g, some x, some y, some z => some (tBl (mChain f g x y z))
    | _, _, _, _, _ => none
  | e => if isPlain e then (cB r c e).map tTru else none
def comp (rc : Rec) : Nat → CF
  | 0 => ⟨fun _ _ => none, fun _ _ => none⟩
  | n + 1 => ⟨stepE rc (comp rc n), stepT (comp rc n)⟩
end Mi
set_option linter.all false
set_option Elab.async false
set_option maxRecDepth 100000
set_option maxHeartbeats 4000000
/-! MiI: the compiled text is the text's reading: parts. -/
namespace Mi
open PySem PySem.Spec PyProof.Rows L2

theorem star_ok {e : Expr} {es : List Expr} {env : Env} (h : isStar e = false) : starEach (e :: es) env = (false, eval e env) :: starEach es env := by
  cases e <;> first | rfl | cases h
theorem asg_each {e : Expr} {es : List Expr} {env : Env} (h : isStar e = false) : assignEach (e :: es) env = (false, assign e env) :: assignEach es env := by
  cases e <;> first | rfl | cases h
theorem cAll_star {f : Expr → Option ME} : ∀ {es : List Expr} {ms : List ME}, cAll f es = some ms → ∀ e ∈ es, isStar e = false
  | [], _, _ => fun e h => by cases h
  | e :: es, ms, h => by
    unfold cAll at h
    split at h
    · cases h
    · rename_i hs
      split at h
      · rename_i m ms' e1 e2
        intro x hx
        rcases List.mem_cons.mp hx with rfl | hx
        · simpa using hs
        · exact cAll_star e2 x hx
      · cases h
theorem cAll_cons {f : Expr → Option ME} {e : Expr} {es : List Expr} {ms : List ME} (h : cAll f (e :: es) = some ms) : isStar e = false ∧ ∃ m ms', ms = m :: ms' ∧ f e = some m ∧ cAll f es = some ms' := by
  unfold cAll at h
  split at h
  · cases h
  · rename_i hs
    split at h
    · rename_i m ms' e1 e2
      cases h
      exact ⟨by simpa using hs, m, ms', rfl, e1, e2⟩
    · cases h
theorem cAll_length {f : Expr → Option ME} : ∀ {es : List Expr} {ms : List ME}, cAll f es = some ms → ms.length = es.length
  | [], ms, h => by cases h; rfl
  | e :: es, ms, h => by
    obtain ⟨_, m, ms', rfl, _, h2⟩ := cAll_cons h
    rw [List.length_cons, List.length_cons, cAll_length h2]
theorem star_none : ∀ {es : List Expr} {env : Env}, (∀ e ∈ es, isStar e = false) → (starEach es env).any (·.1) = false
  | [], _, _ => rfl
  | e :: es, env, h => by
    rw [star_ok (h e List.mem_cons_self), List.any_cons, star_none fun x hx => h x (List.mem_cons_of_mem _ hx)] <;> rfl
theorem pl_ok {es : List Expr} {env : Env} {pos : Pos} (h : ∀ e ∈ es, isStar e = false) : (backTo pos (starEach es env)).any (·.1) = false := by
  unfold backTo
  rw [List.any_map]
  exact star_none h
theorem few_ok {e : Expr} {es : List Expr} {env : Env} {pos : Pos} (h : ∀ x ∈ e :: es, isStar x = false) (hl : es.length ≤ 5) :
    ((backTo pos (starEach (e :: es) env)).all (fun x => !x.1) && (backToKw pos (keywordEach [] env)).all (fun x => x.1.isSome) && decide ((e :: es).length + ([] : List Keyword).length + (if ([] : List Keyword).isEmpty then 0 else 1) < 30)) = true := by
  have h1 : (backTo pos (starEach (e :: es) env)).all (fun x => !x.1) = true := by
    have := pl_ok (env := env) (pos := pos) h
    rw [List.all_eq_not_any_not]
    simpa using this
  rw [h1]
  have h2 : (backToKw pos (keywordEach [] env)).all (fun x => x.1.isSome) = true := rfl
  rw [h2]
  have h3 : (e :: es).length + ([] : List Keyword).length + (if ([] : List Keyword).isEmpty then 0 else 1) < 30 := by
    show es.length + 1 + 0 + 0 < 30
    omega
  simpa using h3
theorem mark_ok {op : CmpOp} {b : Expr} (h : isSet b = false) : behindInMarks op b = false := by
  cases b <;> first | rfl | cases h
theorem marks_ok {op op' : CmpOp} {b c : Expr} (h : isSet c = false) : lastMarks [op, op'] [b, c] = false := by
  show behindInMarks op' c = false
  exact mark_ok h
theorem folded_ok {e : Expr} {env : Env} (h : isSet e = false) : ∀ x, foldedSetIterable e env x = pure x := by
  cases e <;> first | (intro x; rfl) | cases h
theorem plainIx_ok {b : Expr} (h : isSlice b = false) : PlainIx b := by
  cases b <;> first | (intro o i; rfl) | cases h
theorem base_ok {o : Expr} {f : Str} {env : Env} (h : isCall o = false) : attributeBase o f env (eval o env) = eval o env := by
  cases o <;> first | rfl | cases h
theorem plain_ok {a : Expr} {env : Env} (h : isPlain a = true) : ∀ whole, isTrue a env whole = (do let v ← whole; standAt a.pos; holding [v] (truthy v)) := by
  cases a <;> first | (intro w; rfl) | cases h

/-- a compiler keeps its word -/
structure CFOk (rc : Rec) (r : CF) : Prop where
  E : ∀ {κ : Kx} {X : Cx} {c : Cc} {W : WX} {e : Expr} {m : ME}, Okx κ rc X c W → r.E c e = some m → PE X e (can κ W (rv κ) m)
  T : ∀ {κ : Kx} {X : Cx} {c : Cc} {W : WX} {e : Expr} {m : MT}, Okx κ rc X c W → r.T c e = some m → PT X e (can κ W Mi.rt m)
section
variable {κ : Kx} {rc : Rec} {r : CF} {X : Cx} {c : Cc} {W : WX}
theorem opF_ok {op : Operator} {f : IV → IV → MH → R IV} (h : opF op = some f) : ∃ g : R2, OpR X (binaryOp op) (g) ∧ (X.K = κ.K → BinOk κ f g) := by
  cases op with
  | Add => cases h; exact ⟨_, op_addM, fun hk => by rw [hk]; exact ok_add⟩
  | Sub => cases h; exact ⟨_, op_sub, fun _ => ok_sub⟩
  | Mult => cases h; exact ⟨_, op_mul, fun _ => ok_mul⟩
  | FloorDiv => cases h; exact ⟨_, op_fdiv, fun _ => ok_div⟩
  | Mod => cases h; exact ⟨_, op_mod, fun _ => ok_mod⟩
  | Pow => cases h; exact ⟨_, op_pow, fun _ => ok_pow⟩
  | _ => cases h
theorem cmpF_ok {op : CmpOp} {f : IV → IV → MH → R IV} (hu : X.A.units + 65 < cLine) (h : cmpF op = some f) : ∃ g : R2, OpR X (compareOp op) g ∧ (X.K = κ.K → BinOk κ f g) := by
  cases op with
  | Eq => cases h; exact ⟨_, op_eqM (by omega), fun hk => by rw [hk]; exact ok_eq⟩
  | NotEq => cases h; exact ⟨_, op_neM (by omega), fun hk => by rw [hk]; exact ok_ne⟩
  | Lt => cases h; exact ⟨_, op_lt, fun _ => ok_lt⟩
  | LtE => cases h; exact ⟨_, op_le, fun _ => ok_le⟩
  | Gt => cases h; exact ⟨_, op_gt, fun _ => ok_gt⟩
  | GtE => cases h; exact ⟨_, op_ge, fun _ => ok_ge⟩
  | In => cases h; exact ⟨_, op_inM hu, fun hk => by rw [hk]; exact ok_in⟩
  | NotIn => cases h; exact ⟨_, op_notInM hu, fun hk => by rw [hk]; exact ok_notIn⟩
  | _ => cases h
theorem cB_ok (hr : CFOk rc r) (o : Okx κ rc X c W) {e : Expr} {m : ME} (h : cB r c e = some m) : PE X e (can κ W (rb κ) m) := by
  unfold cB at h
  split at h
  · split at h
    · rename_i i e1
      cases h
      obtain ⟨h1, h2, h3, h4⟩ := slot_ok o e1
      exact se_bvar h1 h2 h3 h4
    · exact se_b (hr.E o h)
  · exact se_b (hr.E o h)
theorem cAll_ok (hr : CFOk rc r) (o : Okx κ rc X c W) : ∀ {es : List Expr} {ms : List ME}, cAll (r.E c) es = some ms → PA X es (can κ W (rvs κ) (mAll ms))
  | [], ms, h => by cases h; exact sa_nil
  | e :: es, ms, h => by
    obtain ⟨hs, m, ms', rfl, h1, h2⟩ := cAll_cons h
    exact sa_cons (hr.E o h1) (cAll_ok hr o h2) (star_ok hs)
theorem cAllB_ok (hr : CFOk rc r) (o : Okx κ rc X c W) : ∀ {es : List Expr} {ms : List ME}, cAll (cB r c) es = some ms → PA X es (can κ W (rbs κ) (mAll ms))
  | [], ms, h => by cases h; exact sb_nil
  | e :: es, ms, h => by
    obtain ⟨hs, m, ms', rfl, h1, h2⟩ := cAll_cons h
    exact sb_cons (cB_ok hr o h1) (cAllB_ok hr o h2) (star_ok hs)
theorem cPart_ok (hr : CFOk rc r) (o : Okx κ rc X c W) {e : Option Expr} {m : Option ME} (h : cPart r c e = some m) : PO X e (can κ W ro (mPart m)) := by
  cases e with
  | none => cases h; exact so_none
  | some e =>
    obtain ⟨m', h1, rfl⟩ := Option.map_eq_some_iff.mp h
    exact so_some (hr.E o h1)
theorem cIter_ok (hr : CFOk rc r) (o : Okx κ rc X c W) {tg e : Expr} {m : MA} (h : cIter r c e = some m) : PI X tg e (canI κ W m) ∧ isSet e = false := by
  have plain : ∀ {e : Expr} {m : MA}, (r.E c e).map iSeq = some m → PI X tg e (canI κ W m) := fun {e m} h => by
    obtain ⟨m', h1, rfl⟩ := Option.map_eq_some_iff.mp h
    exact si_seq o.K (hr.E o h1)
  unfold cIter at h
  split at h
  · split at h
    · rename_i x _ a _ hx
      subst hx
      split at h
      · cases h
      · rename_i hs
        split at h
        · rename_i m' e1 e2
          cases h
          obtain ⟨g1, g2⟩ := blt_ok o e1
          have hs' : isStar a = false := by simpa using hs
          exact ⟨si_range1 g1 g2 (hr.E o e2) (star_ok hs') (star_ok hs'), rfl⟩
        · cases h
    · exact ⟨plain h, rfl⟩
  · split at h
    · rename_i x _ a b _ hx
      subst hx
      split at h
      · cases h
      · rename_i hs
        split at h
        · rename_i m' n' e1 e2 e3
          cases h
          obtain ⟨g1, g2⟩ := blt_ok o e1
          have hs' : isStar a = false ∧ isStar b = false := by simpa using hs
          have q2 : starEach [b] X.env = [(false, eval b X.env)] := star_ok hs'.2
          exact ⟨si_range2 g1 g2 (hr.E o e2) (hr.E o e3) (star_ok hs'.1) q2 (by rw [star_ok hs'.1, q2]) q2, rfl⟩
        · cases h
    · exact ⟨plain h, rfl⟩
  · split at h
    · cases h
    · rename_i hs
      exact ⟨plain h, by simpa using hs⟩
/-! targets -/
theorem cTgts_len {f : Expr → Option MG} : ∀ {es : List Expr} {gs : List MG} {env : Env}, cTgt.cTgts f es = some gs → (assignEach es env).length = gs.length ∧ (assignEach es env).findIdx? (·.1) = none
  | [], gs, env, h => by cases h; exact ⟨rfl, rfl⟩
  | e :: es, gs, env, h => by
    unfold cTgt.cTgts at h
    split at h
    · cases h
    · rename_i hs
      split at h
      · rename_i m ms e1 e2
        cases h
        have hs' : isStar e = false := by simpa using hs
        obtain ⟨a, b⟩ := cTgts_len (env := env) e2
        rw [asg_each hs']
        refine ⟨by rw [List.length_cons, List.length_cons, a], ?_⟩
        rw [List.findIdx?_cons]
        simp [b]
      · cases h
theorem cTgts_ok {vs : List Nat} {f : Expr → Option MG} (hf : ∀ e g, f e = some g → PG X e (canG κ vs g)) : ∀ {es : List Expr} {gs : List MG}, cTgt.cTgts f es = some gs → PGs X es (canGs κ vs gs)
  | [], gs, h => by cases h; exact sgs_nil
  | e :: es, gs, h => by
    unfold cTgt.cTgts at h
    split at h
    · cases h
    · rename_i hs
      split at h
      · rename_i m ms e1 e2
        cases h
        have hs' : isStar e = false := by simpa using hs
        exact sgs_cons (hf _ _ e1) (cTgts_ok hf e2) (by rw [asg_each hs'] <;> rfl)
      · cases h
theorem cTgt_ok (o : Okx κ rc X c W) {vs : List Nat} : ∀ {n : Nat} {e : Expr} {g : MG}, cTgt c vs n e = some g → PG X e (canG κ vs g)
  | 0, e, g, h => by cases h
  | n + 1, e, g, h => by
    unfold cTgt at h
    split at h
    · rename_i e0; cases e0
    · split at h
      · rename_i i e1
        split at h
        · rename_i hv
          cases h
          obtain ⟨h1, h2, h3⟩ := dst_ok o e1
          exact sg_name (by rw [o.hN]; exact o.nd) h1 h2 h3 hv
        · cases h
      · cases h
    · rename_i e0
      cases e0
      obtain ⟨gs, h1, rfl⟩ := Option.map_eq_some_iff.mp h
      obtain ⟨a, b⟩ := cTgts_len (env := X.env) h1
      exact sg_tup o.K o.calm (cTgts_ok (fun e g he => cTgt_ok o he) h1) a b
    · cases h
/-! comprehensions -/
theorem Takes.zero {X : Cx} : Takes X W0 := fun u s' e => by
  obtain ⟨a, B, sI, pins, σ, H, cls, d, _, _, _, _, _, _, _, _, w⟩ := e
  exact w.elim
theorem lookup_mapk {f : Str × NameKind → NameKind} {x : Str} {k : NameKind} (hf : ∀ n, f (n, k) = k) : ∀ {l : List (Str × NameKind)}, l.lookup x = some k → (l.map fun y => (y.1, f y)).lookup x = some k
  | [], h => by cases h
  | (n, k') :: l, h => by
    rw [List.lookup_cons] at h
    rw [List.map_cons, List.lookup_cons]
    cases hb : x == n with
    | true =>
      rw [hb] at h
      cases h
      exact congrArg some (hf n)
    | false =>
      rw [hb] at h
      exact lookup_mapk hf h
theorem lookup_relS {scope sc : Scope} {x : Str} {k : NameKind} (h : scope.names.lookup x = some k) (hk : k ≠ .free) : (relS scope sc).names.lookup x = some k := by
  have e : (relS scope sc).names = scope.names.map fun y => (y.1, if (y.2 == .free && sc.kind == .function && sc.names.lookup y.1 == some .cell) = true then .cell else y.2) := by
    unfold relS
    refine List.map_congr_left fun y _ => ?_
    obtain ⟨n, k'⟩ := y
    show (if _ then _ else _) = _
    split <;> rfl
  rw [e]
  refine lookup_mapk (fun n => ?_) h
  have e2 : (k == NameKind.free) = false := by cases k <;> first | rfl | exact absurd rfl hk
  show (if (k == NameKind.free && sc.kind == .function && sc.names.lookup n == some .cell) = true then _ else k) = k
  rw [e2, Bool.false_and, Bool.false_and]
  exact if_neg Bool.false_ne_true
theorem blk_okx (o : Okx κ rc X c W) {scope : Scope} (hb : scope.kind = .function) (s : Shared) (H : Hp) (C : Addr) (cl : List (Str × Addr)) (fp : List Addr) :
    Okx κ rc (X.blk s H scope (compEnvC scope cl C X.env) fp) { c with sc := relS scope c.sc, raw := scope } W0 := by
  have hsc : (compEnvC scope cl C X.env).scope = relS scope X.env.scope := rfl
  refine ⟨o.hN, o.nd, ?_, ?_, o.K, o.calm, o.okn, o.room, Takes.zero, fun x hx => ?_⟩
  · show (compEnvC scope cl C X.env).scope = _
    rw [hsc, o.sc]
  · show (compEnvC scope cl C X.env).scope.kind = _
    rw [hsc]
    exact hb
  · show Loc (compEnvC scope cl C X.env).scope x ∧ ((scope.names.lookup x == some .cell) = true ∨ (compEnvC scope cl C X.env).scope.names.lookup x = some .local)
    rw [hsc]
    rcases hx with hx | hx
    · have hx' : scope.names.lookup x = some .local := hx
      have e := lookup_relS (sc := X.env.scope) hx' (by decide)
      exact ⟨.inl e, .inr e⟩
    · have hx' : scope.names.lookup x = some .cell := hx
      have e := lookup_relS (sc := X.env.scope) hx' (by decide)
      exact ⟨.inr e, .inl (by rw [hx'] <;> rfl)⟩
/-- what a compiled comprehension is -/
structure CompPre (κ : Kx) (W : WX) (X : Cx) (elt tg iter : Expr) (ifs : List Expr) (scope : Scope) (own : List (Str × Nat)) (src : MA) (g : MG) (t : MT) (m : ME) : Prop where
  src_ : PI X tg iter (canI κ W src)
  ok : BlkOk X.N X.env.scope scope own
  tg_ : ∀ (s : Shared) (H : Hp) (C : Addr) (cl : List (Str × Addr)) (fp : List Addr), PG (X.blk s H scope (compEnvC scope cl C X.env) fp) tg (canG κ (own.map (·.2)) g)
  ts_ : ∀ (s : Shared) (H : Hp) (C : Addr) (cl : List (Str × Addr)) (fp : List Addr), PTs (X.blk s H scope (compEnvC scope cl C X.env) fp) ifs (can κ W0 Mi.rt t)
  el_ : ∀ (s : Shared) (H : Hp) (C : Addr) (cl : List (Str × Addr)) (fp : List Addr), PE (X.blk s H scope (compEnvC scope cl C X.env) fp) elt (can κ W0 (rv κ) m)
  fo_ : ∀ x, foldedSetIterable iter X.env x = pure x
theorem cComp_pre (hr : CFOk rc r) (o : Okx κ rc X c W) {elt tg iter : Expr} {ifs : List Expr} {scope : Scope} {mm : ME} (h : cComp r c elt tg iter ifs scope = some mm) :
    ∃ src g t m, mm = mComp src g t m ((ownOf c scope).map (·.2)) ∧ CompPre κ W X elt tg iter ifs scope (ownOf c scope) src g t m := by
  unfold cComp at h
  simp only at h
  split at h
  · rename_i hb
    split at h
    · rename_i src g t m e1 e2 e3 e4
      cases h
      have hok := blkOk_by hb
      have hk : scope.kind = .function := hok.kind
      have ob := blk_okx o hk
      refine ⟨src, g, t, m, rfl, (cIter_ok hr o e1).1, by rw [o.hN, o.sc]; exact hok, fun s H C cl fp => cTgt_ok (ob s H C cl fp) e2, fun s H C cl fp => ?_, fun s H C cl fp => hr.E (ob s H C cl fp) e4, folded_ok (cIter_ok (tg := tg) hr o e1).2⟩
      split at e3
      · cases e3; exact sts_nil
      · exact sts_one (hr.T (ob s H C cl fp) e3)
      · cases e3
    · cases h
  · cases h
theorem cComp_ok (hr : CFOk rc r) (o : Okx κ rc X c W) {elt tg iter : Expr} {ifs : List Expr} {scope : Scope} {mm : ME} {pos : Pos} (h : cComp r c elt tg iter ifs scope = some mm) : PE X (.ListComp elt [⟨tg, iter, ifs, 0⟩] scope pos) (can κ W (rv κ) mm) := by
  obtain ⟨src, g, t, m, rfl, p⟩ := cComp_pre hr o h
  exact se_comp o.calm (by rw [o.hN]; exact o.nd) p.src_ p.ok p.tg_ p.ts_ p.el_ p.fo_
/-! built-ins -/
theorem bltF_ok (hr : CFOk rc r) (o : Okx κ rc X c W) {x : Str} {e : Expr} {es : List Expr} {f : List IV → MH → R IV} {ms : List ME} {p pos : Pos} (hx : bltF x = some f) (hg : c.glob x = some .blt) (ha : cAll (cB r c) (e :: es) = some ms) :
    PE X (.Call (.Name x p) (e :: es) [] pos) (can κ W (rv κ) (mB f ms)) := by
  obtain ⟨g1, g2⟩ := blt_ok o hg
  have hst := cAll_star ha
  have hpa := cAllB_ok hr o ha
  have h1 := star_ok (es := es) (env := X.env) (hst e List.mem_cons_self)
  have h2 := pl_ok (env := X.env) (pos := pos) fun y hy => hst y (List.mem_cons_of_mem e hy)
  have hk := o.K
  unfold bltF at hx
  split at hx
  · rename_i ex; subst ex; cases hx
    exact se_blt (id := "len") call_lenM (by rw [hk]; exact ok_len) g1 g2 (by decide +kernel) hpa (by decide +kernel) (by decide +kernel) h1 h2
  split at hx
  · rename_i ex; subst ex; cases hx
    exact se_blt (id := "all") (cr_all o.calm) (by rw [hk]; exact ok_all) g1 g2 (by decide +kernel) hpa (by decide +kernel) (by decide +kernel) h1 h2
  split at hx
  · rename_i ex; subst ex; cases hx
    exact se_blt (id := "any") (cr_any o.calm) (by rw [hk]; exact ok_any) g1 g2 (by decide +kernel) hpa (by decide +kernel) (by decide +kernel) h1 h2
  split at hx
  · rename_i ex; subst ex; cases hx
    exact se_blt (id := "min") (call_min2 o.calm) ok_min g1 g2 (by decide +kernel) hpa (by decide +kernel) (by decide +kernel) h1 h2
  split at hx
  · rename_i ex; subst ex; cases hx
    exact se_blt (id := "max") (call_max2 o.calm) ok_max g1 g2 (by decide +kernel) hpa (by decide +kernel) (by decide +kernel) h1 h2
  split at hx
  · rename_i ex; subst ex; cases hx
    exact se_bty (T := "int") call_int1 ok_int g1 g2 (by decide +kernel) hpa (by decide +kernel) (by decide +kernel) h1 h2
  split at hx
  · rename_i ex; subst ex; cases hx
    exact se_bty (T := "list") call_list_of (by rw [hk]; exact ok_list) g1 g2 (by decide +kernel) hpa (by decide +kernel) (by decide +kernel) h1 h2
  split at hx
  · rename_i ex; subst ex; cases hx
    exact se_bty (T := "tuple") call_tuple_of (by rw [hk]; exact ok_tuple) g1 g2 (by decide +kernel) hpa (by decide +kernel) (by decide +kernel) h1 h2
  split at hx
  · rename_i ex; subst ex; cases hx
    exact se_bty (T := "dict") (call_dictM o.calm) (by rw [hk]; exact ok_dict) g1 g2 (by decide +kernel) hpa (by decide +kernel) (by decide +kernel) h1 h2
  · cases hx
end
end Mi
set_option linter.all false
set_option Elab.async false
set_option maxRecDepth 100000
set_option maxHeartbeats 4000000
/-! MiJ: the compiled expression is the expression's reading. -/
namespace Mi
open PySem PySem.Spec PyProof.Rows L2
section
variable {κ : Kx} {rc : Rec} {r : CF} {X : Cx} {c : Cc} {W : WX}
theorem se_gvar (o : Okx κ rc X c W) {x : Str} {v : IV} {pos : Pos} (h : c.glob x = some (.con v)) : PE X (.Name x pos) (can κ W (rv κ) (mLit v)) := by
  obtain ⟨a, b⟩ := glob_ok o h
  obtain ⟨k, _, q⟩ := o.room
  obtain ⟨h1, h2, vv, u, h3, h4, h5⟩ := q x _ b
  refine pe_imp (pe_glob a h3 h4 h1) fun σ H Q => ?_
  rintro ⟨S, ι, h, σi, st, rs, hp⟩
  exact hp.done st (h5 S ι)
theorem drop_RVs {κ : Kx} {S : Hp} {ι : List Addr} {dl : List IV} {dvs : List V} (h : RVs κ S ι dl dvs) (j : Nat) : RVs κ S ι (dl.drop j) (dvs.drop j) := h.drop j
theorem call_ok (hr : CFOk rc r) (o : Okx κ rc X c W) {x : Str} {e : Expr} {es : List Expr} {idx np : Nat} {dl : List IV} {ms : List ME} {p pos : Pos} (hg : c.glob x = some (.fn idx np dl)) (ha : cAll (r.E c) (e :: es) = some ms) (hl : ms.length ≤ np ∧ np ≤ ms.length + dl.length) :
    PE X (.Call (.Name x p) (e :: es) [] pos) (can κ W (rv κ) (if ms.length = np then mCall rc idx ms else mCallD rc idx ms (dl.drop (ms.length + dl.length - np)))) := by
  obtain ⟨a, b⟩ := glob_ok o hg
  obtain ⟨k, rk, q⟩ := o.room
  obtain ⟨h1, h2, f, fd, ps, dvs, h3, h4, h5, h6, h7, h8, F⟩ := q x _ b
  subst h5
  have hst := cAll_star ha
  have hpa := cAll_ok hr o ha
  have s1 := star_ok (es := es) (env := X.env) (hst e List.mem_cons_self)
  have s2 := pl_ok (env := X.env) (pos := pos) fun y hy => hst y (List.mem_cons_of_mem e hy)
  have hk := o.K
  have hld : dl.length = dvs.length := (h7 (fun _ => none) []).length
  rw [← hk] at F h4 h8
  by_cases hm : ms.length = ps.length
  · rw [if_pos hm]
    obtain ⟨ds, d1, d2⟩ := h8 dl.length (Nat.le_refl _)
    rw [List.drop_of_length_le (by omega)] at d1
    cases d1
    exact se_call F rk a h3 h4 d2 hm o.tk hpa h1 s1 s2
  · rw [if_neg hm]
    obtain ⟨ds, d1, d2⟩ := h8 (ms.length + dl.length - ps.length) (by omega)
    exact se_callD F rk a h3 h4 d2 d1 (fun S ι => (h7 S ι).drop _) (by rw [List.length_drop]; omega) o.tk hpa h1 s1 s2
theorem tyF_ok {y : Str} {T : Ty} (h : tyF y = some T) : bootBuiltins y = some (.type T.name) ∧ y ≠ "__name__" ∧ (y == ("__debug__" : Str)) = false := by
  unfold tyF at h
  split at h
  · rename_i ex; subst ex; cases h; exact ⟨by decide +kernel, by decide +kernel, by decide +kernel⟩
  split at h
  · rename_i ex; subst ex; cases h; exact ⟨by decide +kernel, by decide +kernel, by decide +kernel⟩
  split at h
  · rename_i ex; subst ex; cases h; exact ⟨by decide +kernel, by decide +kernel, by decide +kernel⟩
  split at h
  · rename_i ex; subst ex; cases h; exact ⟨by decide +kernel, by decide +kernel, by decide +kernel⟩
  split at h
  · rename_i ex; subst ex; cases h; exact ⟨by decide +kernel, by decide +kernel, by decide +kernel⟩
  split at h
  · rename_i ex; subst ex; cases h; exact ⟨by decide +kernel, by decide +kernel, by decide +kernel⟩
  · cases h
theorem sokB_ok {s : Str} (h : sokB s = true) : SOk s := by
  unfold sokB at h
  rw [Bool.and_eq_true] at h
  exact ⟨of_decide_eq_true h.1, h.2⟩
theorem isi_ok (hr : CFOk rc r) (o : Okx κ rc X c W) {e : Expr} {y : Str} {p p2 pos : Pos} {T : Ty} {m : ME} (hg : c.glob "isinstance" = some .blt) (hy : c.glob y = some .blt) (hT : tyF y = some T) (hm : (if isStar e then none else cB r c e) = some m) :
    PE X (.Call (.Name "isinstance" p) [e, .Name y p2] [] pos) (can κ W (rv κ) (m1 (vIsi T) m)) := by
  split at hm
  · cases hm
  · rename_i hs
    have hs' : isStar e = false := by simpa using hs
    obtain ⟨g1, g2⟩ := blt_ok o hg
    obtain ⟨g3, g4⟩ := blt_ok o hy
    obtain ⟨t1, t2, t3⟩ := tyF_ok hT
    exact se_isi T o.K g1 g2 g3 g4 t1 t2 t3 (cB_ok hr o hm) (star_ok hs')
theorem cKeys_ok : ∀ {ks : List (Option Expr)} {l : List Ky}, cKeys ks = some l → l.length = ks.length ∧ ks.all (·.isSome) = true ∧ ∀ {vs : List Expr} {ms : List ME} {pos : Pos}, ks.length = vs.length → (∀ (i : Nat) (e : Expr) (m : ME), vs[i]? = some e → ms[i]? = some m → PE X e (can κ W (rv κ) m)) → ms.length = vs.length → PPs X pos ks vs (dTrs κ W l ms)
  | [], l, h => by
    cases h
    refine ⟨rfl, rfl, fun {vs ms pos} hl hv hm => ?_⟩
    cases vs with
    | nil => exact pps_nil
    | cons v vs => cases hl
  | k :: ks, l, h => by
    have key : ∀ {q : Ky} {e0 : Expr} {l' : List Ky}, k = some e0 → PE X e0 (tC (kV q)) → cKeys ks = some l' → l = q :: l' →
        l.length = (k :: ks).length ∧ (k :: ks).all (·.isSome) = true ∧ ∀ {vs : List Expr} {ms : List ME} {pos : Pos}, (k :: ks).length = vs.length → (∀ (i : Nat) (e : Expr) (m : ME), vs[i]? = some e → ms[i]? = some m → PE X e (can κ W (rv κ) m)) → ms.length = vs.length → PPs X pos (k :: ks) vs (dTrs κ W l ms) := by
      intro q e0 l' ek hk hc el
      subst ek
      subst el
      obtain ⟨a, b, d⟩ := cKeys_ok hc
      refine ⟨by rw [List.length_cons, List.length_cons, a], by rw [List.all_cons, b] <;> rfl, fun {vs ms pos} hl hv hm => ?_⟩
      cases vs with
      | nil => cases hl
      | cons v vs =>
        cases ms with
        | nil => cases hm
        | cons m ms => exact pps_cons hk (hv 0 v m rfl rfl) (d (by simpa using hl) (fun i e m h1 h2 => hv (i + 1) e m (by simpa using h1) (by simpa using h2)) (by simpa using hm))
    unfold cKeys at h
    split at h
    · rename_i e; cases e
    · rename_i s _ _ r e
      cases e
      split at h
      · obtain ⟨l', h1, rfl⟩ := Option.map_eq_some_iff.mp h
        exact key rfl pe_str h1 rfl
      · cases h
    · rename_i i _ _ r e
      cases e
      obtain ⟨l', h1, rfl⟩ := Option.map_eq_some_iff.mp h
      exact key rfl pe_int h1 rfl
    · cases h
theorem cAll_at {f : Expr → Option ME} : ∀ {es : List Expr} {ms : List ME} {i : Nat} {e : Expr} {m : ME}, cAll f es = some ms → es[i]? = some e → ms[i]? = some m → f e = some m
  | [], ms, i, e, m, h, h1, _ => by simp at h1
  | x :: xs, ms, i, e, m, h, h1, h2 => by
    obtain ⟨_, y, ys, rfl, e1, e2⟩ := cAll_cons h
    cases i with
    | zero => simp at h1 h2; subst h1; subst h2; exact e1
    | succ i => exact cAll_at (i := i) e2 (by simpa using h1) (by simpa using h2)
theorem disp_ok (hr : CFOk rc r) (o : Okx κ rc X c W) {k : Option Expr} {ks : List (Option Expr)} {vs : List Expr} {l : List Ky} {ms : List ME} {pos : Pos} {b : Bool} (h1 : (k :: ks).length = vs.length) (h2 : (k :: ks).length ≤ 15) (hk : cKeys (k :: ks) = some l) (hv : cAll (r.E c) vs = some ms) :
    PE X (.Dict (k :: ks) vs pos) (can κ W (rv κ) (if b then mHDic l ms else mDic l ms)) := by
  obtain ⟨a1, a2, a3⟩ := cKeys_ok (X := X) (κ := κ) (W := W) hk
  have hml := cAll_length hv
  have hlm : l.length = ms.length := by omega
  have pp := pe_disp (pos := pos) (a3 (pos := pos) h1 (fun i e m g1 g2 => hr.E o (cAll_at hv g1 g2)) hml) a2 h1 (by simp) h2
  cases b with
  | true => exact pe_imp pp fun σ H Q q => dic_of hlm (by omega) (fun ls ws h => alloc (.dic ls ws) h) (fun S S1 ι ι1 h1 H1 p kvs ls ws => mk_hp S S1 ι ι1 h1 H1 p kvs ls ws) q
  | false => exact pe_imp pp fun σ H Q q => dic_of hlm (by omega) (fun ls ws h => .ok (.dic ls ws) h) (fun S S1 ι ι1 h1 H1 p kvs ls ws => mk_frz S S1 ι ι1 h1 H1 p kvs ls ws) q
theorem disp0_ok {pos : Pos} {b : Bool} : PE X (.Dict [] [] pos) (can κ W (rv κ) (if b then mHDic [] [] else mDic [] [])) := by
  refine pe_imp pe_dnewK fun σ H Q => ?_
  rintro ⟨S, ι, h, σi, st, rs, hp⟩
  intro p hp0
  obtain ⟨hpi, hps⟩ := st.free hp0
  cases b with
  | true => exact mk_hp S S ι ι h H p [] [] [] st Ext.refl hpi hps hp0 rfl RVs.nil (Nat.zero_le _) hp
  | false => exact mk_frz S S ι ι h H p [] [] [] st Ext.refl hpi hps hp0 rfl RVs.nil (Nat.zero_le _) hp
theorem stepE_ok (hr : CFOk rc r) (o : Okx κ rc X c W) {e : Expr} {m : ME} (h : stepE rc r c e = some m) : PE X e (can κ W (rv κ) m) := by
  unfold stepE at h
  split at h
  · -- Name
    split at h
    · rename_i i e1
      cases h
      obtain ⟨h1, h2, h3, h4⟩ := slot_ok o e1
      exact se_var h1 h2 h3 h4
    · split at h
      · rename_i v e2
        cases h
        exact se_gvar o e2
      · cases h
  · cases h; exact se_int
  · cases h; exact se_bl
  · cases h; exact se_non
  · split at h
    · rename_i hs; cases h; exact se_str (sokB_ok hs)
    · cases h
  · -- BinOp
    split at h
    · rename_i f x y e1 e2 e3
      cases h
      obtain ⟨g, g1, g2⟩ := opF_ok (X := X) (κ := κ) e1
      exact se_bin g1 (g2 o.K) (cB_ok hr o e2) (cB_ok hr o e3)
    · cases h
  · obtain ⟨x, e1, rfl⟩ := Option.map_eq_some_iff.mp h
    exact se_un un_neg ok_neg (cB_ok hr o e1)
  · obtain ⟨x, e1, rfl⟩ := Option.map_eq_some_iff.mp h
    exact se_not (hr.E o e1)
  · -- Compare
    split at h
    · obtain ⟨x, e1, rfl⟩ := Option.map_eq_some_iff.mp h
      exact se_isN (cB_ok hr o e1)
    · obtain ⟨x, e1, rfl⟩ := Option.map_eq_some_iff.mp h
      exact se_notN (cB_ok hr o e1)
    · split at h
      · cases h
      · rename_i hs
        split at h
        · rename_i f x y e1 e2 e3
          cases h
          obtain ⟨g, g1, g2⟩ := cmpF_ok (X := X) (κ := κ) o.hu65 e1
          exact se_cmp g1 (g2 o.K) (cB_ok hr o e2) (cB_ok hr o e3) (mark_ok (by simpa using hs))
        · cases h
  · split at h
    · cases h
    · rename_i hs
      have hs' := by simpa using hs
      split at h
      · rename_i f f' x y z e1 e1' e2 e3 e4
        cases h
        obtain ⟨g, g1, g2⟩ := cmpF_ok (X := X) (κ := κ) o.hu65 e1
        obtain ⟨g', g1', g2'⟩ := cmpF_ok (X := X) (κ := κ) o.hu65 e1'
        exact se_chain g1 g1' (g2 o.K) (g2' o.K) (cB_ok hr o e2) (cB_ok hr o e3) (cB_ok hr o e4) (marks_ok hs'.2)
      · cases h
  · exact se_one (hr.E o h)
  · split at h
    · rename_i x y e1 e2
      cases h
      exact se_and (hr.E o e1) (hr.E o e2)
    · cases h
  · split at h
    · rename_i x y e1 e2
      cases h
      exact se_or (hr.E o e1) (hr.E o e2)
    · cases h
  · split at h
    · rename_i x y z e1 e2 e3
      cases h
      exact se_if (hr.T o e1) (hr.E o e2) (hr.E o e3)
    · cases h
  · obtain ⟨x, e1, rfl⟩ := Option.map_eq_some_iff.mp h
    exact se_rev o.K (cB_ok hr o e1)
  · split at h
    · rename_i x y z e1 e2 e3
      cases h
      exact se_slc o.K (cB_ok hr o e1) (cPart_ok hr o e2) (cPart_ok hr o e3)
    · cases h
  · split at h
    · cases h
    · rename_i hs
      split at h
      · rename_i x y e1 e2
        cases h
        exact se_idx o.K o.hu1 (cB_ok hr o e1) (cB_ok hr o e2) (plainIx_ok (by simpa using hs))
      · cases h
  · split at h
    · rename_i hl
      obtain ⟨ms, e1, rfl⟩ := Option.map_eq_some_iff.mp h
      exact se_tup (cAll_ok hr o e1) (by rw [cAll_length e1]; exact Nat.le_trans hl (by decide))
    · cases h
  · split at h
    · rename_i hl
      obtain ⟨ms, e1, rfl⟩ := Option.map_eq_some_iff.mp h
      have hl' : ms.length ≤ line := by rw [cAll_length e1]; exact Nat.le_trans hl (by decide)
      split
      · exact se_hlst (cAll_ok hr o e1) hl'
      · exact se_lst (cAll_ok hr o e1) hl'
    · cases h
  · cases h; exact disp0_ok
  · split at h
    · rename_i hc
      split at h
      · rename_i l ms e1 e2
        cases h
        exact disp_ok hr o hc.1 hc.2 e1 e2
      · cases h
    · cases h
  · -- call
    split at h
    · rename_i idx np dl e1
      split at h
      · rename_i ms e2
        split at h
        · rename_i hl
          cases h
          exact call_ok hr o e1 e2 hl
        · cases h
      · cases h
    · rename_i e1
      split at h
      · rename_i hx
        subst hx
        split at h
        · split at h
          · rename_i e2 e3 e4
            cases h
            exact isi_ok hr o e1 e2 e3 e4
          · cases h
        · cases h
      · split at h
        · rename_i e2 e3
          cases h
          exact bltF_ok hr o e2 e1 e3
        · cases h
    · cases h
  · -- method
    split at h
    · cases h
    · rename_i hq
      have hq' := by simpa using hq
      split at h
      · rename_i x ms e1 e2
        have hst := cAll_star e2
        split at h
        · rename_i hn
          subst hn
          cases h
          exact se_bm o.K PySem.F.plainAttrs_list PySem.F.slot_list_append PySem.F.type_list_append mt_append chk_list mt_ok_append (cB_ok hr o e1) (cAll_ok hr o e2) (base_ok hq'.1.1) (few_ok hst (by omega)) (by simpa using hq'.1.2) (star_ok (hst _ List.mem_cons_self)) (pl_ok fun y hy => hst y (List.mem_cons_of_mem _ hy))
        split at h
        · rename_i hn
          subst hn
          cases h
          exact se_bm o.K PySem.F.plainAttrs_dict PySem.F.slot_dict_get PySem.F.type_dict_get (mt_dget o.hu1) chk_dict mt_ok_get (cB_ok hr o e1) (cAll_ok hr o e2) (base_ok hq'.1.1) (few_ok hst (by omega)) (by simpa using hq'.1.2) (star_ok (hst _ List.mem_cons_self)) (pl_ok fun y hy => hst y (List.mem_cons_of_mem _ hy))
        · cases h
      · cases h
  · split at h
    · cases h
    · rename_i hq
      have hq' := by simpa using hq
      split at h
      · rename_i x e1
        split at h
        · rename_i hn
          subst hn
          cases h
          exact se_bm0 o.K PySem.F.plainAttrs_list PySem.F.slot_list_pop PySem.F.type_list_pop mt_pop chk_list mt_ok_pop (cB_ok hr o e1) (base_ok hq'.1) (by simpa using hq'.2)
        · cases h
      · cases h
  · exact cComp_ok hr o h
  · cases h
end
end Mi
set_option linter.all false
set_option Elab.async false
set_option maxRecDepth 100000
set_option maxHeartbeats 4000000
/-! MiK: tests; the compiler of expressions keeps its word; statements. -/
namespace Mi
open PySem PySem.Spec PyProof.Rows L2
section
variable {κ : Kx} {rc : Rec} {r : CF} {X : Cx} {c : Cc} {W : WX}
theorem can_bl {m : ME} {σ : L2.St} {H : Hp} {Q : Bool → Hp → Prop} (q : can κ W Mi.rt (tBl m) σ H Q) : can κ W (rv κ) m σ H fun x H' => ∃ k, x = .bl k ∧ Q k H' := by
  obtain ⟨S, ι, h, σi, st, rs, hp⟩ := q
  refine can_intro st rs hp fun v h1 S1 ι1 H1 x e ex st1 rs1 rx hp1 => ?_
  cases v with
  | bl k =>
    have hp2 : PostR κ W Mi.rt Q S1 ι1 H1 σ (.ok k h1) := hp1
    rw [(RB.of (H := H1) rx).bl]
    exact ⟨k, rfl, hp2.done st1 rfl⟩
  | _ => exact hp1.elim
theorem cAnds_ok {f : Expr → Option MT} {pos : Pos} (hf : ∀ e m, f e = some m → PT X e (can κ W Mi.rt m)) : ∀ {es : List Expr} {m : MT}, cAnds f es = some m → PW X (.BoolOp .And es pos) (can κ W Mi.rt m)
  | [], m, h => by cases h
  | [a], m, h => sw_and1 (hf a m h)
  | a :: b :: r, m, h => by
    unfold cAnds at h
    split at h
    · rename_i x y e1 e2
      cases h
      exact sw_and (hf a x e1) (cAnds_ok hf e2)
    · cases h
theorem cOrs_ok {f : Expr → Option MT} {pos : Pos} (hf : ∀ e m, f e = some m → PT X e (can κ W Mi.rt m)) : ∀ {es : List Expr} {m : MT}, cOrs f es = some m → PW X (.BoolOp .Or es pos) (can κ W Mi.rt m)
  | [], m, h => by cases h
  | [a], m, h => sw_or1 (hf a m h)
  | a :: b :: r, m, h => by
    unfold cOrs at h
    split at h
    · rename_i x y e1 e2
      cases h
      exact sw_or (hf a x e1) (cOrs_ok hf e2)
    · cases h
theorem stepT_ok (hr : CFOk rc r) (o : Okx κ rc X c W) {e : Expr} {m : MT} (h : stepT r c e = some m) : PT X e (can κ W Mi.rt m) := by
  unfold stepT at h
  split at h
  · obtain ⟨x, e1, rfl⟩ := Option.map_eq_some_iff.mp h
    exact st_not (t := fun _ _ _ => True) (hr.T o e1)
  · exact (cAnds_ok (fun e m => hr.T o) h).pt
  · exact (cOrs_ok (fun e m => hr.T o) h).pt
  · split at h
    · obtain ⟨x, e1, rfl⟩ := Option.map_eq_some_iff.mp h
      exact pt_imp (pt_cmp (pc_isN (cB_ok hr o e1))) fun _ _ _ q => isN_of (can_bl q)
    · obtain ⟨x, e1, rfl⟩ := Option.map_eq_some_iff.mp h
      exact pt_imp (pt_cmp (pc_notN (cB_ok hr o e1))) fun _ _ _ q => notN_of (can_bl q)
    · split at h
      · cases h
      · rename_i hs
        split at h
        · rename_i f x y e1 e2 e3
          cases h
          obtain ⟨g, g1, g2⟩ := cmpF_ok (X := X) (κ := κ) o.hu65 e1
          exact pt_imp (pt_cmpR g1 (cB_ok hr o e2) (cB_ok hr o e3) (mark_ok (by simpa using hs))) fun _ _ _ q => can_op (g2 o.K) (can_bl q)
        · cases h
  · split at h
    · cases h
    · rename_i hs
      have hs' := by simpa using hs
      split at h
      · rename_i f f' x y z e1 e1' e2 e3 e4
        cases h
        obtain ⟨g, g1, g2⟩ := cmpF_ok (X := X) (κ := κ) o.hu65 e1
        obtain ⟨g', g1', g2'⟩ := cmpF_ok (X := X) (κ := κ) o.hu65 e1'
        exact pt_imp (pt_chain g1 g1' (cB_ok hr o e2) (cB_ok hr o e3) (cB_ok hr o e4) (marks_ok hs'.2)) fun _ _ _ q => chain_of (g2 o.K) (g2' o.K) (can_bl q)
      · cases h
  · split at h
    · rename_i hp
      obtain ⟨x, e1, rfl⟩ := Option.map_eq_some_iff.mp h
      exact st_tru o.K (cB_ok hr o e1) (plain_ok hp)
    · cases h
theorem comp_ok : ∀ n : Nat, CFOk rc (comp rc n)
  | 0 => ⟨fun _ h => (by cases h), fun _ h => (by cases h)⟩
  | n + 1 => ⟨fun o h => stepE_ok (comp_ok n) o h, fun o h => stepT_ok (comp_ok n) o h⟩
end

/-! ### statements -/
def fuelW : Nat := 16777216
def cSS (f : Stmt → Option MS) : List Stmt → Option MS
  | [] => some sNext
  | [s] => f s
  | s :: t :: rest => match f s, cSS f (t :: rest) with
    | some a, some b => some (sSeq a b)
    | _, _ => none
def stepS (r : CF) (f : Cc → Stmt → Option MS) (c : Cc) : Stmt → Option MS
  | .Assign [.Name x p] (.ListComp elt [⟨tg, iter, ifs, 0⟩] scope pos) _ => match c.dst x with
    | some i => if decide (c.sc.names.lookup x = some .local) && (p.line == pos.line) && !(scope.names.any fun (n, k) => n == x && (k == .local || k == .cell)) then (cComp r c elt tg iter ifs scope).map (sSet i) else none
    | none => none
  | .Assign [.Name x _] e _ => if isComp e then none else match c.dst x, r.E c e with
    | some i, some m => some (sSet i m)
    | _, _ => none
  | .Assign [.Tuple ts k p] e _ => if isComp e || isTuple e then none else match cTgt c (List.range c.N.length) 4 (.Tuple ts k p), r.E c e with
    | some g, some m => some (sAsg g m)
    | _, _ => none
  | .Assign [.Subscript o i _] e _ => if isComp e || isSlice i then none else match cB r c o, cB r c i, r.E c e with
    | some x, some y, some m => some (sPut x y m)
    | _, _, _ => none
  | .Expr e _ => if isComp e then none else (r.E c e).map sExpr
  | .Return (some e) _ => (r.E c e).map sRet
  | .Return none _ => some sRetN
  | .If t a b _ => match r.T c t, cSS (f c) a, cSS (f c) b with
    | some m, some x, some y => some (sIf m x y)
    | _, _, _ => none
  | .For tg iter body [] _ => match cIter r c iter, cTgt c (List.range c.N.length) 4 tg, cSS (f c) body with
    | some s, some g, some b => some (sFor s g b)
    | _, _, _ => none
  | .While t body [] _ => match r.T c t, cSS (f c) body with
    | some m, some b => some (sWhile fuelW m b)
    | _, _ => none
  | .Pass _ => some sNext
  | .Break _ => some sBrk
  | .Continue _ => some sCont
  | .Raise _ _ _ => some sNever
  | _ => none
def compS (rc : Rec) : Nat → Cc → Stmt → Option MS
  | 0, _, _ => none
  | n + 1, c, s => stepS (comp rc 40) (compS rc n) c s
section
variable {κ : Kx} {rc : Rec} {r : CF} {X : Cx} {c : Cc} {W : WX}
theorem sw_no {e : Expr} {t : Option Expr} {l : Nat} {env : Env} (h : isComp e = false) : swapsWith e t l env = pure false := by
  cases e <;> first | rfl | cases h
theorem sw_one {e t : Expr} {l : Nat} {env : Env} (h : isComp e = false) : swapsWithSole [t] e l env = pure false := sw_no h
theorem sws_tup {ts : List Expr} {k : Nat} {p : Pos} {e : Expr} {env : Env} (h : isTuple e = false) : swappedStores [.Tuple ts k p] e env = pure none := by
  cases e <;> first | rfl | cases h
theorem sws_sub {o i : Expr} {p : Pos} {e : Expr} {env : Env} : swappedStores [.Subscript o i p] e env = pure none := by
  cases e <;> rfl
theorem asg_sub {o i : Expr} {pos' : Pos} {env : Env} (h : isSlice i = false) (v : Value) : assign (.Subscript o i pos') env v = (do
      let ov ← holding [v] (eval o env)
      let iv ← holding [v, ov] (eval i env)
      standAt pos'
      holding [v, ov, iv] (setItem ov iv v)
      release [v, ov, iv] []) := by
  cases i <;> first | rfl | cases h
theorem cSS_ok {f : Stmt → Option MS} (hf : ∀ s m, f s = some m → PS X s (canS κ W m)) : ∀ {ss : List Stmt} {m : MS}, cSS f ss = some m → PSs X ss (canS κ W m)
  | [], m, h => by cases h; exact ss_nil
  | [s], m, h => ss_one (hf s m h)
  | s :: t :: rest, m, h => by
    unfold cSS at h
    split at h
    · rename_i a b e1 e2
      cases h
      exact ss_cons (hf s a e1) (cSS_ok hf e2)
    · cases h
theorem stepS_ok (hr : CFOk rc r) (o : Okx κ rc X c W) (po : PassesOwn (model X.prog X.w) X.A X.env X.xe) {f : Cc → Stmt → Option MS} (hf : ∀ s m, f c s = some m → PS X s (canS κ W m)) {s : Stmt} {m : MS} (h : stepS r f c s = some m) : PS X s (canS κ W m) := by
  have nd : X.N.Nodup := by rw [o.hN]; exact o.nd
  unfold stepS at h
  split at h
  · split at h
    · rename_i i e1
      split at h
      · rename_i hc
        rw [Bool.and_eq_true, Bool.and_eq_true] at hc
        obtain ⟨⟨c1, c2⟩, c3⟩ := hc
        obtain ⟨mm, e2, rfl⟩ := Option.map_eq_some_iff.mp h
        obtain ⟨src, g, t, m, rfl, p⟩ := cComp_pre hr o e2
        obtain ⟨h1, h2, h3⟩ := dst_ok o e1
        have hl := of_decide_eq_true c1
        rw [← o.sc] at hl
        exact ss_setComp o.calm nd h1 hl (sw_true o.fk hl c2 (by simpa using c3)) p.src_ p.ok p.tg_ p.ts_ p.el_ p.fo_
      · cases h
    · cases h
  · split at h
    · cases h
    · rename_i hc
      split at h
      · rename_i i m e1 e2
        cases h
        obtain ⟨h1, h2, h3⟩ := dst_ok o e1
        exact ss_set nd h1 h2 (hr.E o e2) (sw_no (by simpa using hc)) h3
      · cases h
  · split at h
    · cases h
    · rename_i hc
      have hc' := by simpa using hc
      split at h
      · rename_i g m e1 e2
        cases h
        exact ss_asg (hr.E o e2) (cTgt_ok o e1) (sw_one hc'.1) (sws_tup hc'.2) rfl
      · cases h
  · split at h
    · cases h
    · rename_i hc
      have hc' := by simpa using hc
      split at h
      · rename_i x y m e1 e2 e3
        cases h
        exact ss_put o.hu1 (hr.E o e3) (cB_ok hr o e1) (cB_ok hr o e2) (asg_sub hc'.2) (sw_one hc'.1) sws_sub rfl
      · cases h
  · split at h
    · cases h
    · rename_i hc
      obtain ⟨x, e1, rfl⟩ := Option.map_eq_some_iff.mp h
      exact ss_expr (hr.E o e1) (sw_no (by simpa using hc))
  · obtain ⟨x, e1, rfl⟩ := Option.map_eq_some_iff.mp h
    exact ss_ret (hr.E o e1)
  · cases h; exact ss_retN
  · split at h
    · rename_i t x y e1 e2 e3
      cases h
      exact ss_if (hr.T o e1) (cSS_ok hf e2) (cSS_ok hf e3)
    · cases h
  · split at h
    · rename_i s g b e1 e2 e3
      cases h
      obtain ⟨i1, i2⟩ := cIter_ok hr o e1
      exact ss_for po o.calm i1 (cTgt_ok o e2) (cSS_ok hf e3) (folded_ok i2)
    · cases h
  · split at h
    · rename_i t b e1 e2
      cases h
      exact ss_while po (hr.T o e1) (cSS_ok hf e2)
    · cases h
  · cases h; exact ss_pass
  · cases h; exact ss_break
  · cases h; exact ss_continue
  · cases h; exact ss_never
  · cases h
theorem compS_ok (o : Okx κ rc X c W) (po : PassesOwn (model X.prog X.w) X.A X.env X.xe) : ∀ (n : Nat) (s : Stmt) (m : MS), compS rc n c s = some m → PS X s (canS κ W m)
  | 0, s, m, h => by cases h
  | n + 1, s, m, h => stepS_ok (comp_ok 40) o po (compS_ok o po n) h
end
end Mi
set_option linter.all false
set_option Elab.async false
set_option maxRecDepth 100000
set_option maxHeartbeats 4000000
/-! MiL: a whole program: every def keeps the interpreter's promise; the law's end. -/
namespace Mi
open PySem PySem.Spec PyProof.Rows L2

/-! ### defs -/
structure Df where
  name : Str
  args : Arguments
  body : List Stmt
  scope : Scope
  N : List Str
  ps : List Str
  dfl : List He.Dv
def dvI : He.Dv → IV
  | .non => .non
  | .bl b => .bl b
  | .int i => .int i
  | .str s => .str s
  | _ => .err 0 [] []
def dvV : He.Dv → V
  | .non => .non
  | .bl b => .bl b
  | .int i => .int i
  | .str s => .str s
  | _ => .non
def dvOk : He.Dv → Bool
  | .non => true
  | .bl _ => true
  | .int _ => true
  | .str s => sokB s
  | _ => false
def Df.dl (d : Df) : List IV := d.dfl.map dvI
def Df.dvs (d : Df) : List V := d.dfl.map dvV
def Df.d (d : Df) : He.DefD := ⟨(d.name, none), d.name, d.name, d.args, d.body, d.scope, d.dfl, []⟩
theorem dv_rv {κ : Kx} {S : Hp} {ι : List Addr} : ∀ {l : List He.Dv}, l.all dvOk = true → RVs κ S ι (l.map dvI) (l.map dvV)
  | [], _ => RVs.nil
  | v :: l, h => by
    rw [List.all_cons, Bool.and_eq_true] at h
    refine RVs.cons ?_ (dv_rv h.2)
    cases v <;> first | exact RV.nonI | exact RV.blI _ | exact RV.intI _ | exact RV.strI (sokB_ok h.1) | (have := h.1; cases this)
theorem dv_v {K : PySem.W.Frag} : ∀ {l : List He.Dv}, l.all dvOk = true → l.map (He.Dv.v K) = l.map dvV
  | [], _ => rfl
  | v :: l, h => by
    rw [List.all_cons, Bool.and_eq_true] at h
    rw [List.map_cons, List.map_cons, dv_v h.2]
    cases v <;> first | rfl | (have := h.1; cases this)
def ccOf (go : Str → Option GI) (hp : List (Nat × Nat)) (d : Df) : Cc := ⟨d.N, d.scope, d.scope, go, hp⟩
def okName (x : Str) : Bool := !(x == ("__debug__" : Str)) && !(x == ("__classdict__" : Str)) && !(x == ("__name__" : Str))
theorem okName_ok {x : Str} (h : okName x = true) : (x == ("__debug__" : Str)) = false ∧ (x == ("__classdict__" : Str)) = false ∧ x ≠ "__name__" := by
  unfold okName at h
  rw [Bool.and_eq_true, Bool.and_eq_true] at h
  refine ⟨by simpa using h.1.1, by simpa using h.1.2, fun e => ?_⟩
  have := h.2
  rw [e] at this
  exact absurd this (by decide +kernel)
structure DfOk (go : Str → Option GI) (hp : List (Nat × Nat)) (d : Df) (fn : Fn) : Prop where
  sc : FnScope d.N d.ps d.scope
  okn : d.N.all okName = true
  np : fn.ps = d.ps.length
  ns : fn.ns = d.N.length
  body : ∀ rc, cSS (compS rc 40 (ccOf go hp d)) d.body = some (fn.body rc)
  dl : d.dfl.all dvOk = true
  le : d.dfl.length ≤ d.ps.length
  bind : ∀ (K : PySem.W.Frag) (f : Addr) (fd : FuncData), FunD K d.name d.name d.args d.body d.scope d.dvs [] f fd → ∀ j, j ≤ d.dfl.length → ∃ ds, Vals (d.dvs.drop j) ds ∧ Binds K fd d.ps ds
def AllOk (go : Str → Option GI) (hp : List (Nat × Nat)) : List Df → List Fn → Prop
  | [], [] => True
  | d :: ds, f :: fs => DfOk go hp d f ∧ AllOk go hp ds fs
  | _, _ => False
theorem AllOk.at_ {go : Str → Option GI} {hp : List (Nat × Nat)} : ∀ {ds : List Df} {fs : List Fn} {i : Nat} {d : Df}, AllOk go hp ds fs → ds[i]? = some d → ∃ fn, fs[i]? = some fn ∧ DfOk go hp d fn
  | [], _, i, d, _, e => by simp at e
  | d :: ds, [], i, d', h, e => h.elim
  | d :: ds, f :: fs, i, d', h, e => by
    cases i with
    | zero => simp at e; subst e; exact ⟨f, by simp, h.1⟩
    | succ i =>
      obtain ⟨fn, h1, h2⟩ := AllOk.at_ (i := i) h.2 (by simpa using e)
      exact ⟨fn, by simpa using h1, h2⟩
structure GOk (κ : Kx) (mg : Str → Option Value) (ds : List Df) (go : Str → Option GI) : Prop where
  fact : ∀ x g, go x = some g → okName x = true ∧ match g with
    | .fn idx np dl => ∃ d, ds[idx]? = some d ∧ d.name = x ∧ np = d.ps.length ∧ dl = d.dl
    | .blt => mg x = none
    | .con v => ∃ (vv : V) (u : Value), mg x = some u ∧ RelV vv u ∧ ∀ S ι, RV κ S ι v vv
  defs : ∀ (i : Nat) (d : Df), ds[i]? = some d → ∃ f fd, mg d.name = some (.ref f) ∧ FunD κ.K d.name d.name d.args d.body d.scope d.dvs [] f fd
section
variable {κ : Kx} {P : Program} {w : World} {mg : Str → Option Value} {base : Heap} {ds : List Df} {fs : List Fn} {go : Str → Option GI} {hp : List (Nat × Nat)}
theorem FunD.fd_eq {K : PySem.W.Frag} {x q x' q' : Str} {a a' : Arguments} {b b' : List Stmt} {s s' : Scope} {dv dv' : List V} {kw kw' : List (Str × V)} {f : Addr} {fd fd' : FuncData} (F : FunD K x q a b s dv kw f fd) (F' : FunD K x' q' a' b' s' dv' kw' f fd') : fd = fd' := by
  obtain ⟨_, _, _, _, _, _, _, _, _, _, _, e, _⟩ := F.ex
  obtain ⟨_, _, _, _, _, _, _, _, _, _, _, e', _⟩ := F'.ex
  rw [e] at e'
  cases e'
  rfl
theorem spI_len {rc : Rec} {i np : Nat} {vs : List V} {H : Hp} {Q : VK} {E : XK} (h : spI κ rc i np vs H Q E) : vs.length = np := by
  obtain ⟨_, _, _, _, _, _, h, _⟩ := h
  exact h
theorem prog_ok (G : GOk κ mg ds go) (D : AllOk go hp ds fs) : ∀ (n i : Nat) (d : Df) (f : Addr) (fd : FuncData), ds[i]? = some d → FunD κ.K d.name d.name d.args d.body d.scope d.dvs [] f fd →
    FnOk P w κ.K mg base (L2.CX P w) n f fd d.ps (spI κ (run fs n) i d.ps.length)
  | 0, i, d, f, fd, _, _ => ⟨fun vs H Q E h => spI_len h, fun A outer s H args us vs Q E _ _ _ _ h => by
    obtain ⟨_, _, _, _, _, _, _, h⟩ := h
    rw [run_zero] at h
    exact h.elim⟩
  | n + 1, i, d, f, fd, hi, F => by
    obtain ⟨fn, hfn, O⟩ := D.at_ hi
    refine F.ok O.sc (fun vs H Q E h => spI_len h) fun cdv A outer s H vs Q E hr hsp => ⟨canS κ (fun c d _ H => E c d H) (fn.body (run fs n)), ?_, body_post (np := d.ps.length) (fun ivs h hl => ?_) hsp⟩
    · have okx : Okx κ (run fs n) (cxOf (L2.CX P w) P w κ.K mg base d.N d.name d.scope f cdv A outer s H E) (ccOf go hp d) (fun c d _ H => E c d H) := by
        refine ⟨rfl, O.sc.nd, rfl, O.sc.kind, rfl, rfl, fun x hx => ?_, ⟨n, hr, fun x g hg => ?_⟩, takes_of rfl rfl rfl rfl, fun x hx => ⟨hx, .inl rfl⟩⟩
        · obtain ⟨h1, h2, _⟩ := okName_ok (List.all_eq_true.mp O.okn x hx)
          exact ⟨h1, h2⟩
        · obtain ⟨h1, h2⟩ := G.fact x g hg
          obtain ⟨n1, _, n3⟩ := okName_ok h1
          refine ⟨n1, n3, ?_⟩
          cases g with
          | fn idx np dl =>
            obtain ⟨d', e1, rfl, rfl, rfl⟩ := h2
            obtain ⟨fn', _, O'⟩ := D.at_ e1
            obtain ⟨f', fd', m1, F'⟩ := G.defs idx d' e1
            have hlen : d'.dl.length = d'.dfl.length := List.length_map _
            exact ⟨f', fd', d'.ps, d'.dvs, m1, F'.kp, rfl, by rw [hlen]; exact O'.le, fun S ι => dv_rv O'.dl, fun j hj => O'.bind κ.K f' fd' F' j (by rw [← hlen]; exact hj), prog_ok G D n idx d' f' fd' e1 F'⟩
          | blt => exact h2
          | con v => exact h2
      exact cSS_ok (fun s m => compS_ok okx (passes_of rfl) 40 s m) (O.body _)
    · rw [run_succ, hfn]
      show (if ivs.length = fn.ps then (fn.body (run fs n) (start fn.ns ivs) h).out else .bad) = _
      rw [if_pos (hl.trans O.np.symm), O.ns]
end

/-! ### constants -/
def conAll (f : IV → Value → Bool) : List IV → List Value → Bool
  | [], [] => true
  | x :: xs, u :: us => f x u && conAll f xs us
  | _, _ => false
def conB (K : PySem.W.Frag) : Nat → IV → Value → Bool
  | _, .non, .none => true
  | _, .bl b, .bool c => b == c
  | _, .int i, .int j _ => decide (i = j)
  | _, .str s, .str y _ => decide (s = y) && sokB s
  | n + 1, .tup xs, .ref a => match K.lookup a with
    | some ⟨.type c, _, .seq its _, _⟩ => decide (c = "tuple") && (decide (its.size ≤ sizeLine) && conAll (conB K n) xs its.toList)
    | _ => false
  | n + 1, .lst xs, .ref a => match K.lookup a with
    | some ⟨.type c, none, .seq its _, _⟩ => decide (c = "list") && (decide (its.size ≤ sizeLine) && conAll (conB K n) xs its.toList)
    | _ => false
  | _, _, _ => false
theorem conAll_ok {κ : Kx} {f : IV → Value → Bool} (hf : ∀ v u, f v u = true → ∃ vv, RelV vv u ∧ ∀ S ι, RV κ S ι v vv) : ∀ {xs : List IV} {us : List Value}, conAll f xs us = true → xs.length = us.length ∧ ∃ vs, Vals vs us ∧ ∀ S ι, RVs κ S ι xs vs
  | [], [], _ => ⟨rfl, [], .nil, fun _ _ => RVs.nil⟩
  | [], _ :: _, h => by cases h
  | _ :: _, [], h => by cases h
  | x :: xs, u :: us, h => by
    obtain ⟨h1, h2⟩ := He.ba (show (f x u && conAll f xs us) = true from h)
    obtain ⟨vv, r, q⟩ := hf x u h1
    obtain ⟨hl, vs, r2, q2⟩ := conAll_ok hf h2
    exact ⟨by rw [List.length_cons, List.length_cons, hl], vv :: vs, .cons r r2, fun S ι => RVs.cons (q S ι) (q2 S ι)⟩
theorem conB_ok {κ : Kx} : ∀ (n : Nat) (v : IV) (u : Value), conB κ.K n v u = true → ∃ vv, RelV vv u ∧ ∀ S ι, RV κ S ι v vv := by
  intro n
  induction n with
  | zero =>
    intro v u h
    unfold conB at h
    split at h
    · exact ⟨.non, rfl, fun _ _ => RV.nonI⟩
    · exact ⟨.bl _, congrArg Value.bool (eq_of_beq h).symm, fun _ _ => RV.blI _⟩
    · rename_i i j t; exact ⟨.int i, ⟨t, by rw [of_decide_eq_true h]⟩, fun _ _ => RV.intI _⟩
    · rename_i s y t
      obtain ⟨h1, h2⟩ := He.ba h
      exact ⟨.str s, ⟨t, by rw [of_decide_eq_true h1]⟩, fun _ _ => RV.strI (sokB_ok h2)⟩
    · contradiction
    · contradiction
    · cases h
  | succ n ih =>
    intro v u h
    unfold conB at h
    split at h
    · exact ⟨.non, rfl, fun _ _ => RV.nonI⟩
    · exact ⟨.bl _, congrArg Value.bool (eq_of_beq h).symm, fun _ _ => RV.blI _⟩
    · rename_i i j t; exact ⟨.int i, ⟨t, by rw [of_decide_eq_true h]⟩, fun _ _ => RV.intI _⟩
    · rename_i s y t
      obtain ⟨h1, h2⟩ := He.ba h
      exact ⟨.str s, ⟨t, by rw [of_decide_eq_true h1]⟩, fun _ _ => RV.strI (sokB_ok h2)⟩
    · rename_i m xs a e
      cases e
      split at h
      · rename_i c od its k sl q
        obtain ⟨h1, h2⟩ := He.ba h
        obtain ⟨h3, h4⟩ := He.ba h2
        obtain ⟨hl, vs, r, q2⟩ := conAll_ok (κ := κ) ih h4
        refine ⟨.ref a, rfl, fun S ι => RV.tupI ?_ (.inr ⟨_, its, k, q, congrArg Value.type (of_decide_eq_true h1), rfl, of_decide_eq_true h3, r⟩) (q2 S ι)⟩
        rw [hl, Array.length_toList]; exact of_decide_eq_true h3
      · cases h
    · rename_i m xs a e
      cases e
      split at h
      · rename_i c its k sl q
        obtain ⟨h1, h2⟩ := He.ba h
        obtain ⟨h3, h4⟩ := He.ba h2
        obtain ⟨hl, vs, r, q2⟩ := conAll_ok (κ := κ) ih h4
        refine ⟨.ref a, rfl, fun S ι => RV.lstI ?_ (.inr ⟨_, its, k, q, congrArg Value.type (of_decide_eq_true h1), rfl, rfl, of_decide_eq_true h3, r⟩) (q2 S ι)⟩
        rw [hl, Array.length_toList]; exact of_decide_eq_true h3
      · cases h
    · cases h

/-! ### the head's hook -/
def conE (cs : List (Str × IV)) (K : PySem.W.Frag) : Bool := cs.all fun p => match PySem.W.nsIn K mainGlobals p.1 with
  | some (some u) => conB K 8 p.2 u
  | _ => false
abbrev AlE : Type := He.AlD × Bool
def obsE (fa : List He.Fa) (fn : List He.DefD) (cs : List (Str × IV)) (K : PySem.W.Frag) : AlE := (He.obsD fa fn K, conE cs K)
def obsEG (n : Nat) (fa : List He.Fa) (fn : List He.DefD) (cs : List (Str × IV)) (g : Addr → Option Obj) : AlE := obsE fa fn cs (He.frG g (He.asD g n))
structure SaysE (fa : List He.Fa) (fn : List He.DefD) (cs : List (Str × IV)) (K : PySem.W.Frag) : Prop where
  d : He.SaysD fa fn K
  c : conE cs K = true
def hookE (n : Nat) (fa : List He.Fa) (fn : List He.DefD) (cs : List (Str × IV)) : PySem.W.Hook where
  α := AlE
  obs := fun s => obsEG n fa fn cs s.heap.get?
  val := fun _ => (He.valD fn, true)
  says := fun _ h => ∃ K : PySem.W.Frag, K.In h ∧ SaysE fa fn cs K
  of := fun _ _ e => ⟨_, He.frG_in, ⟨congrArg (fun z : AlE => z.1) e, congrArg (fun z : AlE => z.2) e⟩⟩
  keeps := fun _ _ _ ⟨K, hK, c⟩ k => ⟨K, PySem.W.Frag.In.keeps hK k, c⟩
theorem obsEG_eq {n : Nat} {fa : List He.Fa} {fn : List He.DefD} {cs : List (Str × IV)} {g : Addr → Option Obj} {s : Shared} (h : ∀ a, g a = s.heap.get? a) : obsEG n fa fn cs g = (hookE n fa fn cs).obs s := by
  have e : g = s.heap.get? := funext h
  rw [e] <;> rfl

/-! ### a law's text: its defs, the built-ins, the constants -/
def mapIx {α β : Type} (f : Nat → α → β) : Nat → List α → List β
  | _, [] => []
  | n, x :: xs => f n x :: mapIx f (n + 1) xs
theorem mapIx_mem {α β : Type} {f : Nat → α → β} {y : β} : ∀ {xs : List α} {n : Nat}, y ∈ mapIx f n xs → ∃ i x, xs[i]? = some x ∧ y = f (n + i) x
  | [], n, h => by cases h
  | x :: xs, n, h => by
    rcases List.mem_cons.mp h with rfl | h
    · exact ⟨0, x, rfl, rfl⟩
    · obtain ⟨i, z, e1, e2⟩ := mapIx_mem h
      exact ⟨i + 1, z, by simpa using e1, by rw [e2]; congr 1; omega⟩
def goOf (ds : List Df) (bs : List Str) (cs : List (Str × IV)) : List (Str × GI) := mapIx (fun i (d : Df) => (d.name, GI.fn i d.ps.length d.dl)) 0 ds ++ (bs.map (fun b => (b, GI.blt)) ++ cs.map fun p => (p.1, GI.con p.2))
def goF (l : List (Str × GI)) (x : Str) : Option GI := l.lookup x
def faOf (ds : List Df) (bs : List Str) : List He.Fa := ds.map (fun d => He.Fa.glo d.name) ++ bs.map He.Fa.free
theorem lookup_mem' {α : Type} : ∀ {l : List (Str × α)} {x : Str} {v : α}, l.lookup x = some v → (x, v) ∈ l
  | (k, u) :: r, x, v, h => by
    rw [List.lookup_cons] at h
    cases hb : x == k with
    | true =>
      rw [hb] at h
      cases h
      rw [eq_of_beq hb]
      exact List.mem_cons_self
    | false =>
      rw [hb] at h
      exact List.mem_cons_of_mem _ (lookup_mem' h)
theorem gok_of {κ : Kx} {h : Heap} {mg : Str → Option Value} {ds : List Df} {bs : List Str} {cs : List (Str × IV)} (X : κ.K.In h) (G : h.Ns mainGlobals mg) (c : SaysE (faOf ds bs) (ds.map Df.d) cs κ.K)
    (hn : (goOf ds bs cs).all (fun p => okName p.1) = true) (hd : ∀ d ∈ ds, d.dfl.all dvOk = true) : GOk κ mg ds (goF (goOf ds bs cs)) := by
  refine ⟨fun x g hg => ?_, fun i d hi => ?_⟩
  · have hm := lookup_mem' hg
    refine ⟨List.all_eq_true.mp hn _ hm, ?_⟩
    unfold goOf at hm
    rcases List.mem_append.mp hm with hm | hm
    · obtain ⟨i, d, e1, e2⟩ := mapIx_mem hm
      cases e2
      exact ⟨d, by rw [Nat.zero_add]; exact e1, rfl, rfl, rfl⟩
    · rcases List.mem_append.mp hm with hm | hm
      · obtain ⟨b, hb, e⟩ := List.mem_map.mp hm
        cases e
        have hf : He.Fa.free x ∈ faOf ds bs := List.mem_append_right _ (List.mem_map.mpr ⟨x, hb, rfl⟩)
        obtain ⟨j, hj⟩ := List.getElem?_of_mem hf
        exact He.free_ok X G (c.d.fact j hj)
      · obtain ⟨p, hp, e⟩ := List.mem_map.mp hm
        cases e
        have h1 := List.all_eq_true.mp (show (cs.all fun p => match PySem.W.nsIn κ.K mainGlobals p.1 with
          | some (some u) => conB κ.K 8 p.2 u
          | _ => false) = true from c.c) p hp
        cases e1 : PySem.W.nsIn κ.K mainGlobals p.1 with
        | none => rw [e1] at h1; cases h1
        | some r =>
          cases r with
          | none => rw [e1] at h1; cases h1
          | some u =>
            rw [e1] at h1
            obtain ⟨vv, r, q⟩ := conB_ok 8 p.2 u h1
            exact ⟨vv, u, PySem.W.mg_of X G e1, r, q⟩
  · have hf : He.Fa.glo d.name ∈ faOf ds bs := List.mem_append_left _ (List.mem_map.mpr ⟨d, List.mem_of_getElem? hi, rfl⟩)
    obtain ⟨j, hj⟩ := List.getElem?_of_mem hf
    have e : (ds.map Df.d)[i]? = some d.d := by rw [List.getElem?_map, hi] <;> rfl
    obtain ⟨fd, F⟩ := c.d.def_ i e
    have e2 : d.d.dvs κ.K = d.dvs := dv_v (hd d (List.mem_of_getElem? hi))
    rw [e2] at F
    exact ⟨_, fd, He.glo_ok X G (c.d.fact j hj), F⟩
/-- the law's end -/
theorem law_sp {κ : Kx} {rc : Rec} {li : Nat} (hl : ∀ ns : List Int, ns.length ≤ 63 → ∃ h', rc li [.lst (ns.map .int)] [] = .ok (.bl true) h') (H : Hp) (a : Addr) (ns : List Int) (hlen : ns.length ≤ 63) (hO : Only H) (hS : SqL κ.K H a (ns.map V.int)) :
    spI κ rc li 1 [.ref a] H (fun v _ => v = .bl true) fun _ _ _ => False := by
  obtain ⟨h', e⟩ := hl ns hlen
  have hin : ∀ l : List Int, RVs κ H [] (l.map IV.int) (l.map V.int) := fun l => by
    induction l with
    | nil => exact RVs.nil
    | cons i l ih => exact RVs.cons (RV.intI i) ih
  have hle : (ns.map IV.int).length ≤ line := by
    rw [List.length_map]
    exact Nat.le_trans hlen (by decide)
  refine ⟨H, [], [], [.lst (ns.map .int)], ⟨fun _ _ e => e, rfl, List.nodup_nil, fun a ha => (by cases ha), fun n o e => (by simp at e)⟩, RVs.cons (RV.lstI hle hS (hin ns)) RVs.nil, rfl, ?_⟩
  rw [e]
  intro S' ι' H' x _ _ rx
  exact (RB.of (H := H') rx).bl
theorem law_F {κ : Kx} {P : Program} {w : World} {h : Heap} {mg : Str → Option Value} {ds : List Df} {fs : List Fn} {bs : List Str} {cs : List (Str × IV)} {hp : List (Nat × Nat)} {k li : Nat} {d : Df} {x : Str} {fa : Addr} (X : κ.K.In h) (G : h.Ns mainGlobals mg) (c : SaysE (faOf ds bs) (ds.map Df.d) cs κ.K)
    (hn : (goOf ds bs cs).all (fun p => okName p.1) = true) (D : AllOk (goF (goOf ds bs cs)) hp ds fs) (hi : ds[li]? = some d) (hm : mg d.name = some (.ref fa)) (hps : d.ps = [x]) (hdf : d.dfl = [])
    (hb : ∀ fd, FunD κ.K d.name d.name d.args d.body d.scope [] [] fa fd → ∀ (s : Shared) (u : Value), BindsTo s fd ⟨[u], []⟩ [(x, u)])
    (hl : ∀ ns : List Int, ns.length ≤ 63 → ∃ h', run fs k li [.lst (ns.map .int)] [] = .ok (.bl true) h') :
    ∃ (fd : FuncData) (sp : Sp), (∀ (s : Shared) (u : Value), BindsTo s fd ⟨[u], []⟩ [(x, u)]) ∧
        (∀ (H : Hp) (a : Addr) (ns : List Int), ns.length ≤ 63 → Only H → SqL κ.K H a (ns.map V.int) → sp [.ref a] H (fun v _ => v = .bl true) fun _ _ _ => False) ∧
        ∀ base : Heap, κ.K.In base → base.Ns mainGlobals mg → FnOk P w κ.K mg base (L2.CX P w) k fa fd [x] sp := by
  have hd : ∀ d ∈ ds, d.dfl.all dvOk = true := fun d hd => by
    obtain ⟨j, hj⟩ := List.getElem?_of_mem hd
    obtain ⟨fn, _, O⟩ := D.at_ hj
    exact O.dl
  have GO := gok_of X G c hn hd
  obtain ⟨f, fd, m1, F⟩ := GO.defs li d hi
  rw [hm] at m1
  cases m1
  refine ⟨fd, spI κ (run fs k) li 1, hb fd ?_, law_sp hl, fun base _ _ => ?_⟩
  · have e : d.dvs = [] := by unfold Df.dvs; rw [hdf] <;> rfl
    rw [e] at F
    exact F
  · have q := prog_ok (P := P) (w := w) (base := base) GO D k li d fa fd hi F
    rw [hps] at q
    exact q
/-- the end of the walk: exceptions may leave a def by the layer's CX -/
theorem walk_w {l : PySem.W.OpenLaw} {n k : Nat} {q : Program} {loose : List Str} {XP : (Str → Option Value) → Heap → Prop} {YP : World → Heap → Prop} {d : DefRec} {x : Str}
    (hn : l.most = some n) (hn2 : n ≤ sizeLine) (hdf : d.params.defaults = []) (hr : Room k callerA)
    (F : ∀ (w : World) (mg : Str → Option Value) (fa : Addr) (h : Heap), YP w h → h.Ns mainGlobals mg → mg d.name = some (.ref fa) →
      ∃ (K : PySem.W.Frag) (fd : FuncData) (sp : Sp), K.In h ∧ (∀ (s : Shared) (u : Value), BindsTo s fd ⟨[u], []⟩ [(x, u)]) ∧
        (∀ (H : Hp) (a : Addr) (ns : List Int), ns.length ≤ n → Only H → SqL K H a (ns.map V.int) → sp [.ref a] H (fun v _ => v = .bl true) fun _ _ _ => False) ∧
        ∀ base : Heap, K.In base → base.Ns mainGlobals mg → FnOk l.prog w K mg base (L2.CX l.prog w) k fa fd [x] sp) :
    PySem.W.WalkO q loose XP YP l.row.toRowW d [] (fun f vs => PySem.call f vs) := by
  refine Att.attach_call hn hdf fun w s₀ s₁ mg mb fa o pm cd doc a vs ns G Y ho hd hcd hmg hobj hin hlen hg => ?_
  obtain ⟨K, fd, sp, KX, hb, hsp, hF⟩ := F w mg fa _ Y G.T.g hmg
  refine law_call KX G.T.g G.T.b G.T.builtins G.T.nolimit hg hobj hin (Nat.le_trans hlen hn2) hr hF hb (fun H hO hS => hsp H a ns hlen hO hS) fun H e s' z => ?_
  obtain ⟨_, _, _, _, _, _, _, _, _, _, _, _, z⟩ := z
  exact z
end Mi
set_option linter.all false
set_option Elab.async false
set_option maxRecDepth 100000
set_option maxHeartbeats 4000000
/-! MiS: the interpreter by simp. -/
namespace Mi
open PySem
section
variable {σ : Sg} {h : MH} {i : Nat} {v : IV} {a b c : ME} {t u : MT} {ms : List ME} {m : ME} {x y z : MS}
@[simp] theorem mVar_ap : mVar i σ h = (match σ[i]? with
  | some (.val v) => .ok v h
  | _ => .bad) := rfl
@[simp] theorem mBv_ap : mBv i σ h = (match σ[i]? with
  | some (.val v) => .ok v h
  | some (.own (.lst xs)) => .ok (.lst xs) h
  | some (.own (.dic ks vs)) => .ok (.dic ks vs) h
  | _ => .bad) := rfl
@[simp] theorem mLit_ap : mLit v σ h = .ok v h := rfl
@[simp] theorem m1_ap {f : IV → MH → R IV} : m1 f a σ h = (a σ h).bind f := rfl
@[simp] theorem m2_ap {f : IV → IV → MH → R IV} : m2 f a b σ h = (a σ h).bind fun x h1 => (b σ h1).bind fun y h2 => f x y h2 := rfl
@[simp] theorem mAll_nil : mAll [] σ h = .ok [] h := rfl
@[simp] theorem mAll_cons : mAll (m :: ms) σ h = (m σ h).bind fun x h1 => (mAll ms σ h1).bind fun xs h2 => .ok (x :: xs) h2 := rfl
@[simp] theorem mTup_ap : mTup ms σ h = (mAll ms σ h).bind fun xs h1 => .ok (.tup xs) h1 := rfl
@[simp] theorem mLst_ap : mLst ms σ h = (mAll ms σ h).bind fun xs h1 => .ok (.lst xs) h1 := rfl
@[simp] theorem mHLst_ap : mHLst ms σ h = (mAll ms σ h).bind fun xs h1 => .ok (.ref h1.length) (h1 ++ [.lst xs]) := rfl
@[simp] theorem mPart_none : mPart none σ h = .ok none h := rfl
@[simp] theorem mPart_some : mPart (some m) σ h = (m σ h).bind fun y h2 => (match y with
  | .int i => .ok (some i) h2
  | _ => .bad) := rfl
@[simp] theorem mSlc_ap {lo hi : Option ME} : mSlc a lo hi σ h = (a σ h).bind fun x h1 => (mPart lo σ h1).bind fun l h2 => (mPart hi σ h2).bind fun u h3 => vSlc x l u h3 := rfl
@[simp] theorem mCall_ap {rec : Rec} {f : Nat} : mCall rec f ms σ h = (mAll ms σ h).bind fun xs h1 => rec f xs h1 := rfl
@[simp] theorem mCallD_ap {rec : Rec} {f : Nat} {dl : List IV} : mCallD rec f ms dl σ h = (mAll ms σ h).bind fun xs h1 => rec f (xs ++ dl) h1 := rfl
@[simp] theorem mB_ap {f : List IV → MH → R IV} : mB f ms σ h = (mAll ms σ h).bind f := rfl
@[simp] theorem mM_ap {chk : MH → IV → Bool} {f : IV → List IV → MH → R IV} : mM chk f a ms σ h = (a σ h).bind fun x h1 => if chk h1 x = true then (mAll ms σ h1).bind fun vs h2 => f x vs h2 else .bad := rfl
@[simp] theorem mDic_ap {ks : List Ky} : mDic ks ms σ h = (mAll ms σ h).bind fun vs h1 => .ok (.dic (kmerge [] [] (ks.zip vs)).1 (kmerge [] [] (ks.zip vs)).2) h1 := rfl
@[simp] theorem mHDic_ap {ks : List Ky} : mHDic ks ms σ h = (mAll ms σ h).bind fun vs h1 => .ok (.ref h1.length) (h1 ++ [.dic (kmerge [] [] (ks.zip vs)).1 (kmerge [] [] (ks.zip vs)).2]) := rfl
/-- by a bool -/
def tst (x : IV) (A B : R IV) : R IV := match x with
  | .bl k => if k then A else B
  | _ => .bad
@[simp] theorem tst_bl {k : Bool} {A B : R IV} : tst (.bl k) A B = if k then A else B := rfl
theorem bind_congr {α β : Type} {r : R α} {f g : α → MH → R β} (e : ∀ x h, f x h = g x h) : r.bind f = r.bind g := by
  have : f = g := funext fun x => funext fun h => e x h
  rw [this]
@[simp] theorem mAnd_ap : mAnd a b σ h = (a σ h).bind fun x h1 => tst x (b σ h1) (.ok (.bl false) h1) := bind_congr fun x h1 => by
  cases x with
  | bl k => cases k <;> rfl
  | _ => rfl
@[simp] theorem mOr_ap : mOr a b σ h = (a σ h).bind fun x h1 => tst x (.ok (.bl true) h1) (b σ h1) := bind_congr fun x h1 => by
  cases x with
  | bl k => cases k <;> rfl
  | _ => rfl
@[simp] theorem mNot_ap : mNot a σ h = (a σ h).bind fun x h1 => (match x with
  | .bl b => .ok (.bl (!b)) h1
  | _ => .bad) := rfl
@[simp] theorem mChain_ap {f g : IV → IV → MH → R IV} : mChain f g a b c σ h = (a σ h).bind fun x h1 => (b σ h1).bind fun y h2 => (f x y h2).bind fun z h3 => tst z ((c σ h3).bind fun w h4 => g y w h4) (.ok (.bl false) h3) := bind_congr fun x h1 => bind_congr fun y h2 => bind_congr fun z h3 => by
  cases z with
  | bl k => cases k <;> rfl
  | _ => rfl
@[simp] theorem tTru_ap : tTru a σ h = (a σ h).bind fun x h1 => .of (tru h1 x) h1 := rfl
@[simp] theorem tBl_ap : tBl a σ h = (a σ h).bind fun x h1 => .of (asBl x) h1 := rfl
@[simp] theorem asBl_bl {k : Bool} : asBl (.bl k) = some k := rfl
@[simp] theorem tNot_ap : Mi.tNot t σ h = (t σ h).bind fun b h1 => .ok (!b) h1 := rfl
@[simp] theorem tAnd_ap : Mi.tAnd t u σ h = (t σ h).bind fun b h1 => if b then u σ h1 else .ok false h1 := rfl
@[simp] theorem tOr_ap : Mi.tOr t u σ h = (t σ h).bind fun b h1 => if b then .ok true h1 else u σ h1 := rfl
@[simp] theorem mIf_ap : mIf t a b σ h = (t σ h).bind fun c h1 => if c then a σ h1 else b σ h1 := rfl
@[simp] theorem tYes_ap : Mi.tYes σ h = .ok true h := rfl
@[simp] theorem gName_ap : Mi.gName i v σ = some (σ.set i (.val v)) := rfl
@[simp] theorem gAll_nil : gAll [] [] σ = some σ := rfl
@[simp] theorem gAll_cons {g : MG} {gs : List MG} {vs : List IV} : gAll (g :: gs) (v :: vs) σ = (g v σ).bind fun σ' => gAll gs vs σ' := rfl
@[simp] theorem gTup_ap {gs : List MG} {vs : List IV} : gTup gs (.tup vs) σ = gAll gs vs σ := rfl
@[simp] theorem sNext_ap : sNext σ h = .nx σ h := rfl
@[simp] theorem sSeq_ap : sSeq x y σ h = (match x σ h with
  | .nx σ1 h1 => y σ1 h1
  | r => r) := rfl
@[simp] theorem sSet_ap : sSet i m σ h = (m σ h).go σ fun v h1 => .nx (σ.set i (.val v)) h1 := rfl
@[simp] theorem sAsg_ap {g : MG} : sAsg g m σ h = (m σ h).go σ fun v h1 => (match g v σ with
  | some σ1 => .nx σ1 h1
  | none => .bad) := rfl
@[simp] theorem sExpr_ap : sExpr m σ h = (m σ h).go σ fun _ h1 => .nx σ h1 := rfl
@[simp] theorem sRet_ap : sRet m σ h = (m σ h).go σ fun v h1 => .rt v h1 := rfl
@[simp] theorem sRetN_ap : sRetN σ h = .rt .non h := rfl
@[simp] theorem sIf_ap : sIf t x y σ h = (t σ h).go σ fun c h1 => if c then x σ h1 else y σ h1 := rfl
@[simp] theorem sBrk_ap : sBrk σ h = .bk σ h := rfl
@[simp] theorem sCont_ap : sCont σ h = .ct σ h := rfl
@[simp] theorem sPut_ap {o i e : ME} : sPut o i e σ h = (e σ h).go σ fun v h1 => (o σ h1).go σ fun x h2 => (i σ h2).go σ fun y h3 => (match vPut x y v h3 with
  | some h4 => .nx σ h4
  | none => .bad) := rfl
@[simp] theorem loopF_nil {g : MG} : loopF g x [] σ h = .nx σ h := rfl
theorem loopF_cons {g : MG} {vs : List IV} : loopF g x (v :: vs) σ h = (match g v σ with
    | none => .bad
    | some σ1 => match x σ1 h with
      | .nx σ2 h2 => loopF g x vs σ2 h2
      | .ct σ2 h2 => loopF g x vs σ2 h2
      | .bk σ2 h2 => .nx σ2 h2
      | o => o) := rfl
theorem loop_nx {g : MG} {vs : List IV} {σ1 σ2 : Sg} {h2 : MH} (e1 : g v σ = some σ1) (e2 : x σ1 h = .nx σ2 h2) : loopF g x (v :: vs) σ h = loopF g x vs σ2 h2 := by
  rw [loopF_cons, e1]
  show (match x σ1 h with
      | .nx σ2 h2 => loopF g x vs σ2 h2
      | .ct σ2 h2 => loopF g x vs σ2 h2
      | .bk σ2 h2 => .nx σ2 h2
      | o => o) = _
  rw [e2]
theorem loopC_yes {g : MG} {vs : List Nat} {l : List IV} {σ1 : Sg} {h1 h2 : MH} {w : IV} (e1 : g v (wipeM σ vs) = some σ1) (e2 : t σ1 h = .ok true h1) (e3 : m σ1 h1 = .ok w h2) : loopC g t m vs (v :: l) σ h = (loopC g t m vs l σ h2).bind fun ys h3 => .ok (w :: ys) h3 := by
  rw [show loopC g t m vs (v :: l) σ h = (match g v (wipeM σ vs) with
    | none => .bad
    | some σ1 => match t σ1 h with
      | .ok true h1 => match m σ1 h1 with
        | .ok y h2 => (loopC g t m vs l σ h2).bind fun ys h3 => .ok (y :: ys) h3
        | _ => .bad
      | .ok false h1 => loopC g t m vs l σ h1
      | _ => .bad) from rfl, e1]
  simp only [e2, e3]
theorem loopC_no {g : MG} {vs : List Nat} {l : List IV} {σ1 : Sg} {h1 : MH} (e1 : g v (wipeM σ vs) = some σ1) (e2 : t σ1 h = .ok false h1) : loopC g t m vs (v :: l) σ h = loopC g t m vs l σ h1 := by
  rw [show loopC g t m vs (v :: l) σ h = (match g v (wipeM σ vs) with
    | none => .bad
    | some σ1 => match t σ1 h with
      | .ok true h1 => match m σ1 h1 with
        | .ok y h2 => (loopC g t m vs l σ h2).bind fun ys h3 => .ok (y :: ys) h3
        | _ => .bad
      | .ok false h1 => loopC g t m vs l σ h1
      | _ => .bad) from rfl, e1]
  simp only [e2]
@[simp] theorem sFor_ap {src : MA} {g : MG} : sFor src g x σ h = (src σ h).go σ fun xs h1 => loopF g x xs σ h1 := rfl
@[simp] theorem iSeq_ap : iSeq m σ h = (m σ h).bind fun v h1 => (match v with
  | .lst xs => .ok xs h1
  | .tup xs => .ok xs h1
  | _ => .bad) := rfl
@[simp] theorem iRange1_ap : iRange1 m σ h = (m σ h).bind fun v h1 => (match v with
  | .int j => if -(2 ^ 62) ≤ j ∧ j ≤ 16777216 then .ok (rng 0 j.toNat) h1 else .bad
  | _ => .bad) := rfl
@[simp] theorem sWhile_ap {n : Nat} : sWhile n t x σ h = loopW t x n σ h := rfl
@[simp] theorem mComp_ap {src : MA} {g : MG} {vs : List Nat} : mComp src g t m vs σ h = (src σ h).bind fun xs h1 => (loopC g t m vs xs σ h1).bind fun ys h2 => .ok (.lst ys) h2 := by
  unfold mComp cItems
  cases src σ h <;> rfl
@[simp] theorem loopC_nil {g : MG} {vs : List Nat} : loopC g t m vs [] σ h = .ok [] h := rfl
@[simp] theorem wipeM_nil : wipeM σ [] = σ := rfl
@[simp] theorem wipeM_cons {v : Nat} {vs : List Nat} : wipeM σ (v :: vs) = (wipeM σ vs).set v .emp := rfl
@[simp] theorem out_nx : (RS.nx σ h).out = .ok .non h := rfl
@[simp] theorem out_rt : (RS.rt v h).out = .ok v h := rfl
@[simp] theorem start_ap {n : Nat} {vs : List IV} : start n vs = vs.map .val ++ List.replicate (n - vs.length) .emp := rfl
@[simp] theorem ofString_inj {a b : String} : (Str.ofString a = Str.ofString b) = (a = b) := by
  refine propext ⟨fun e => ?_, fun e => by rw [e]⟩
  rw [Str.ofString_eq_toList, Str.ofString_eq_toList] at e
  have e1 : (a.toList.map Char.toNat).toArray = (b.toList.map Char.toNat).toArray := congrArg Str.cps e
  have e2 : a.toList.map Char.toNat = b.toList.map Char.toNat := by simpa using e1
  have inj : ∀ x y : Char, x.toNat = y.toNat → x = y := fun x y h => Char.ext (UInt32.toNat_inj.mp h)
  have e3 : a.toList = b.toList := List.map_inj_right inj |>.mp e2
  exact String.toList_inj.mp e3
/-! operators -/
variable {j k : Int} {s r : Str} {xs ys : List IV} {ks : List Ky}
@[simp] theorem vAdd_int : vAdd (.int j) (.int k) h = .ok (.int (j + k)) h := rfl
theorem vAdd_lst (hl : xs.length + ys.length ≤ 16777216) : vAdd (.lst xs) (.lst ys) h = .ok (.lst (xs ++ ys)) h := if_pos hl
@[simp] theorem vSub_int : vSub (.int j) (.int k) h = .ok (.int (j - k)) h := rfl
theorem vMul_int (hw : (wide64 j || wide64 k) = true) : vMul (.int j) (.int k) h = .ok (.int (j * k)) h := if_pos hw
theorem vMul_l (h1 : -(2 ^ 64) < j) (h2 : j < 2 ^ 64) : vMul (.int j) (.int k) h = .ok (.int (j * k)) h := vMul_int (by unfold wide64; simp only [h1, h2, decide_true, Bool.and_self, Bool.true_or])
theorem vMul_r (h1 : -(2 ^ 64) < k) (h2 : k < 2 ^ 64) : vMul (.int j) (.int k) h = .ok (.int (j * k)) h := vMul_int (by unfold wide64; simp only [h1, h2, decide_true, Bool.and_self, Bool.or_true])
theorem vDiv_int (h1 : 0 < k) (h2 : k < 1073741824) : vDiv (.int j) (.int k) h = .ok (.int (j / k)) h := if_pos ⟨h1, h2⟩
theorem vMod_int (h1 : 0 < k) : vMod (.int j) (.int k) h = .ok (.int (j % k)) h := if_pos h1
@[simp] theorem vNeg_int : vNeg (.int j) h = .ok (.int (-j)) h := rfl
@[simp] theorem vLt_int : vLt (.int j) (.int k) h = .ok (.bl (decide (j < k))) h := rfl
@[simp] theorem vLe_int : vLe (.int j) (.int k) h = .ok (.bl (decide (j ≤ k))) h := rfl
@[simp] theorem vGt_int : vGt (.int j) (.int k) h = .ok (.bl (decide (k < j))) h := rfl
@[simp] theorem vGe_int : vGe (.int j) (.int k) h = .ok (.bl (decide (k ≤ j))) h := rfl
theorem vEq_of {u w : IV} {d e : PyData} (h1 : pd h deep u = some d) (h2 : pd h deep w = some e) : vEq h u w = some (PyData.eqv d e) := by
  unfold vEq
  rw [h1, h2]
@[simp] theorem pd_non {n : Nat} : pd h n .non = some .none := by cases n <;> rfl
@[simp] theorem pd_bl {n : Nat} {k : Bool} : pd h n (.bl k) = some (.bool k) := by cases n <;> rfl
@[simp] theorem pd_int {n : Nat} : pd h n (.int j) = some (.int j) := by cases n <;> rfl
@[simp] theorem pd_str {n : Nat} : pd h n (.str s) = some (.str s) := by cases n <;> rfl
theorem pd_tup {n : Nat} : pd h (n + 1) (.tup xs) = (mapO (pd h n) xs).map .tuple := rfl
theorem pd_lst {n : Nat} : pd h (n + 1) (.lst xs) = (mapO (pd h n) xs).map .list := rfl
theorem eqv_int {i j : Int} : PyData.eqv (.int i) (.int j) = decide (i = j) := by
  simp only [PyData.eqv]
  by_cases e : i = j
  · subst e; simp
  · rw [decide_eq_false e]; exact beq_eq_false_iff_ne.mpr e
theorem eqv_str {i j : Str} : PyData.eqv (.str i) (.str j) = decide (i = j) := by
  simp only [PyData.eqv]
  by_cases e : i = j
  · subst e; simp
  · rw [decide_eq_false e]; exact beq_eq_false_iff_ne.mpr e
theorem eqv_bl {i j : Bool} : PyData.eqv (.bool i) (.bool j) = decide (i = j) := by
  simp only [PyData.eqv]
  cases i <;> cases j <;> rfl
@[simp] theorem vEqR_int : vEqR (.int j) (.int k) h = .ok (.bl (decide (j = k))) h := by
  unfold vEqR
  rw [vEq_of pd_int pd_int, eqv_int]
@[simp] theorem vEqR_str : vEqR (.str s) (.str r) h = .ok (.bl (decide (s = r))) h := by
  unfold vEqR
  rw [vEq_of pd_str pd_str, eqv_str]
@[simp] theorem vNeR_int : vNeR (.int j) (.int k) h = .ok (.bl (!decide (j = k))) h := by
  unfold vNeR
  rw [vEq_of pd_int pd_int, eqv_int]
@[simp] theorem vNeR_str : vNeR (.str s) (.str r) h = .ok (.bl (!decide (s = r))) h := by
  unfold vNeR
  rw [vEq_of pd_str pd_str, eqv_str]
@[simp] theorem vNeR_bl {k l : Bool} : vNeR (.bl k) (.bl l) h = .ok (.bl (!decide (k = l))) h := by
  unfold vNeR
  rw [vEq_of pd_bl pd_bl, eqv_bl]
@[simp] theorem vIsN_ap : vIsN v h = .ok (.bl (isNon v)) h := rfl
@[simp] theorem vNotN_ap : vNotN v h = .ok (.bl (!isNon v)) h := rfl
@[simp] theorem isNon_non : isNon .non = true := rfl
@[simp] theorem isNon_int : isNon (.int j) = false := rfl
@[simp] theorem isNon_tup : isNon (.tup xs) = false := rfl
@[simp] theorem isNon_str : isNon (.str s) = false := rfl
@[simp] theorem asL_lst : asL h (.lst xs) = some xs := rfl
@[simp] theorem asL_ref {n : Nat} : asL h (.ref n) = (match h[n]? with
    | some (.lst xs) => some xs
    | _ => none) := rfl
@[simp] theorem asL_dic : asL h (.dic ks xs) = none := rfl
@[simp] theorem asD_dic : asD h (.dic ks xs) = some (ks, xs) := rfl
@[simp] theorem asD_ref {n : Nat} : asD h (.ref n) = (match h[n]? with
    | some (.dic ks vs) => some (ks, vs)
    | _ => none) := rfl
@[simp] theorem vIdx_tup : vIdx (.tup xs) (.int j) h = .of (atI xs j) h := rfl
@[simp] theorem vIdx_lst : vIdx (.lst xs) (.int j) h = .of (atI xs j) h := rfl
theorem vIdx_ref {n : Nat} (e : h[n]? = some (.lst xs)) : vIdx (.ref n) (.int j) h = .of (atI xs j) h := by
  unfold vIdx
  simp [e]
@[simp] theorem vIdx_dic : vIdx (.dic ks xs) v h = (match toKy v with
  | some k => .of (klook ks xs k) h
  | none => .bad) := by
  unfold vIdx
  simp
  cases toKy v <;> rfl
@[simp] theorem toKy_int : toKy (.int j) = some (.inl j) := rfl
@[simp] theorem toKy_str : toKy (.str s) = some (.inr s) := rfl
theorem atI_nat {α : Type} {xs : List α} {n : Nat} {x : α} (e : xs[n]? = some x) : atI xs (n : Int) = some x := by
  have hl := (List.getElem?_eq_some_iff.mp e).1
  unfold atI ixI
  rw [if_pos (by omega), if_pos (by omega)]
  simpa using e
@[simp] theorem atI_0 {α : Type} {x : α} {xs : List α} : atI (x :: xs) 0 = some x := atI_nat (n := 0) rfl
@[simp] theorem atI_1 {α : Type} {x y : α} {xs : List α} : atI (x :: y :: xs) 1 = some y := atI_nat (n := 1) rfl
@[simp] theorem atI_2 {α : Type} {x y z : α} {xs : List α} : atI (x :: y :: z :: xs) 2 = some z := atI_nat (n := 2) rfl
@[simp] theorem atI_3 {α : Type} {x y z w : α} {xs : List α} : atI (x :: y :: z :: w :: xs) 3 = some w := atI_nat (n := 3) rfl
@[simp] theorem atI_4 {α : Type} {x y z w v : α} {xs : List α} : atI (x :: y :: z :: w :: v :: xs) 4 = some v := atI_nat (n := 4) rfl
theorem atI_of {α : Type} {xs : List α} {i : Int} (h1 : 0 ≤ i) (h2 : i < xs.length) : ∃ x, x ∈ xs ∧ atI xs i = some x := by
  obtain ⟨n, rfl⟩ := Int.eq_ofNat_of_zero_le h1
  have hl : n < xs.length := by omega
  exact ⟨xs[n], List.getElem_mem hl, atI_nat (by simp [hl])⟩
@[simp] theorem mapO_nil {α β : Type} {f : α → Option β} : mapO f [] = some [] := rfl
@[simp] theorem mapO_cons {α β : Type} {f : α → Option β} {x : α} {l : List α} : mapO f (x :: l) = (match f x, mapO f l with
    | some y, some ys => some (y :: ys)
    | _, _ => none) := rfl
theorem vIn_tup {d : PyData} {es : List PyData} (h1 : pd h deep v = some d) (h2 : mapO (pd h deep) xs = some es) : vIn v (.tup xs) h = .ok (.bl (anyEq d es)) h := by
  unfold vIn vInB
  simp [h1, h2]
theorem vIn_lst {d : PyData} {es : List PyData} (h1 : pd h deep v = some d) (h2 : mapO (pd h deep) xs = some es) : vIn v (.lst xs) h = .ok (.bl (anyEq d es)) h := by
  unfold vIn vInB
  simp [h1, h2]
theorem set_same {n : Nat} {o p : MO} (e : h[n]? = some o) : (h.set n p)[n]? = some p := by
  have hl := (List.getElem?_eq_some_iff.mp e).1
  rw [List.getElem?_set_self hl]
@[simp] theorem tru_bl {k : Bool} : tru h (.bl k) = some k := rfl
@[simp] theorem vLen_lst : vLen (.lst xs) h = .ok (.int xs.length) h := rfl
@[simp] theorem vLen_tup : vLen (.tup xs) h = .ok (.int xs.length) h := rfl
@[simp] theorem bLen_lst : bLen [.lst xs] h = .ok (.int xs.length) h := rfl
@[simp] theorem bLen_tup : bLen [.tup xs] h = .ok (.int xs.length) h := rfl
@[simp] theorem bInt_bl {k : Bool} : bInt [.bl k] h = .ok (.int (if k then 1 else 0)) h := rfl
@[simp] theorem bInt_int : bInt [.int j] h = .ok (.int j) h := rfl
@[simp] theorem bMin_int : bMin [.int j, .int k] h = .ok (.int (if k < j then k else j)) h := rfl
@[simp] theorem bMax_int : bMax [.int j, .int k] h = .ok (.int (if k > j then k else j)) h := rfl
@[simp] theorem vIsi_int {T : Ty} : vIsi T (.int j) h = .ok (.bl (isTy .int T)) h := rfl
@[simp] theorem vIsi_str {T : Ty} : vIsi T (.str s) h = .ok (.bl (isTy .str T)) h := rfl
@[simp] theorem vIsi_tup {T : Ty} : vIsi T (.tup xs) h = .ok (.bl (isTy .tup T)) h := rfl
@[simp] theorem vIsi_bl {T : Ty} {k : Bool} : vIsi T (.bl k) h = .ok (.bl (isTy .bool T)) h := rfl
@[simp] theorem vRev_lst : vRev (.lst xs) h = .ok (.lst xs.reverse) h := rfl
@[simp] theorem vSlc_tup {lo hi : Option Int} : vSlc (.tup xs) lo hi h = .ok (.tup (cutI xs lo hi)) h := rfl
@[simp] theorem vSlc_lst {lo hi : Option Int} : vSlc (.lst xs) lo hi h = .ok (.lst (cutI xs lo hi)) h := rfl
theorem tAppend_ref {n : Nat} (e : h[n]? = some (.lst xs)) (hl : xs.length < 16777216) : tAppend (.ref n) [v] h = .ok .non (h.set n (.lst (xs ++ [v]))) := by
  unfold tAppend lstAt
  simp only [e]
  exact if_pos hl
theorem chkL_ref {n : Nat} (e : h[n]? = some (.lst xs)) : chkL h (.ref n) = true := by
  unfold chkL
  simp [e]
theorem tPop_ref {n : Nat} (e : h[n]? = some (.lst (xs ++ [v]))) : tPop (.ref n) [] h = .ok v (h.set n (.lst xs)) := by
  unfold tPop lstAt
  simp [e]
theorem vPut_ref {n m : Nat} (e : h[n]? = some (.lst xs)) (hm : m < xs.length) : vPut (.ref n) (.int (m : Int)) v h = some (h.set n (.lst (xs.set m v))) := by
  unfold vPut
  simp only [e]
  unfold ixI
  rw [if_pos (by omega), if_pos (by omega)]
  simp
end
end Mi
set_option linter.all false
set_option Elab.async false
set_option maxRecDepth 100000
set_option maxHeartbeats 0
namespace L02
open PySem PySem.Spec PyProof.Rows L2 Mi
def b_names : List Str := ["int", "max", "min", "len", "isinstance", "tuple", "bool", "dict", "range"]
def c_vals : List (Str × IV) := [("MOST_NUMBER", (.int 9))]
def marks : List (Nat × Nat) := [(30, 11), (66, 16)]
def top (i : Nat) : Stmt := (PySem.Challenge.pw_strongboxes_k02_numbers_of_expressions).main.body.getD i (.Pass ⟨0, 0, 0, 0⟩)
def dnumber_of : Df := ⟨"number_of", defArgs (top 2), defBody (top 2), defScope (top 2), ["expression", "numbers", "word", "one", "other"], ["expression", "numbers"], []⟩
def d_law_cell_at : Df := ⟨"_law_cell_at", defArgs (top 4), defBody (top 4), defScope (top 4), ["_law_script", "_law_k"], ["_law_script", "_law_k"], []⟩
def d_law_well : Df := ⟨"_law_well", defArgs (top 5), defBody (top 5), defScope (top 5), ["_law_cell"], ["_law_cell"], []⟩
def d_law_draw : Df := ⟨"_law_draw", defArgs (top 6), defBody (top 6), defScope (top 6), ["_law_well_here", "_law_base", "_law_number", "_law_found"], ["_law_well_here", "_law_base"], []⟩
def d_law_expr : Df := ⟨"_law_expr", defArgs (top 7), defBody (top 7), defScope (top 7), ["_law_well_here", "_law_names", "_law_deep", "_law_way", "_law_word"], ["_law_well_here", "_law_names", "_law_deep"], []⟩
def d_law_words : Df := ⟨"_law_words", defArgs (top 8), defBody (top 8), defScope (top 8), ["_law_expr_here", "_law_found", "_law_one"], ["_law_expr_here"], []⟩
def d_law_paired : Df := ⟨"_law_paired", defArgs (top 9), defBody (top 9), defScope (top 9), ["_law_word", "_law_one", "_law_other", "_law_truths"], ["_law_word", "_law_one", "_law_other"], []⟩
def d_law_due : Df := ⟨"_law_due", defArgs (top 10), defBody (top 10), defScope (top 10), ["_law_expr_here", "_law_numbers", "_law_heap", "_law_word", "_law_one"], ["_law_expr_here", "_law_numbers"], []⟩
def d_law_right : Df := ⟨"_law_right", defArgs (top 11), defBody (top 11), defScope (top 11), ["_law_expr_here", "_law_numbers", "_law_kept", "_law_found"], ["_law_expr_here", "_law_numbers"], []⟩
def dlaw : Df := ⟨"law", defArgs (top 12), defBody (top 12), defScope (top 12), ["_law_script", "_law_names", "_law_cell", "_law_one", "_law_well_here", "_law_expr_here", "_law_some", "_law_numbers", "_law_other", "_law_word", "_law_k", "_law_name"], ["_law_script"], []⟩
def dfs : List Df := [dnumber_of, d_law_cell_at, d_law_well, d_law_draw, d_law_expr, d_law_words, d_law_paired, d_law_due, d_law_right, dlaw]
def go : Str → Option GI := goF (goOf dfs b_names c_vals)
def bnumber_of (rc : Rec) : MS :=
  (sSeq (sSet 2 (m2 vIdx (mBv 0) (mLit (.int 0))))
  (sSeq (sIf (tBl (m2 vEqR (mBv 2) (mLit (.str "num"))))
   (sRet (m2 vIdx (mBv 0) (mLit (.int 1))))
   sNext)
  (sSeq (sIf (tBl (m2 vEqR (mBv 2) (mLit (.str "var"))))
   (sRet (m2 vIdx (mBv 1) (m2 vIdx (mBv 0) (mLit (.int 1)))))
   sNext)
  (sSeq (sSet 3 (mCall rc 0 [(m2 vIdx (mBv 0) (mLit (.int 1))), (mVar 1)]))
  (sSeq (sIf (tBl (m2 vEqR (mBv 2) (mLit (.str "not"))))
   (sRet (mB bInt [(m2 vEqR (mBv 3) (mLit (.int 0)))]))
   sNext)
  (sSeq (sSet 4 (mCall rc 0 [(m2 vIdx (mBv 0) (mLit (.int 2))), (mVar 1)]))
  (sSeq (sIf (tBl (m2 vEqR (mBv 2) (mLit (.str "+"))))
   (sRet (mB bMin [(m2 vAdd (mBv 3) (mBv 4)), (mLit (.int 9))]))
   sNext)
  (sSeq (sIf (tBl (m2 vEqR (mBv 2) (mLit (.str "-"))))
   (sRet (mB bMax [(m2 vSub (mBv 3) (mBv 4)), (mLit (.int 0))]))
   sNext)
  (sSeq (sIf (tBl (m2 vEqR (mBv 2) (mLit (.str "="))))
   (sRet (mB bInt [(m2 vEqR (mBv 3) (mBv 4))]))
   sNext)
  (sSeq (sIf (tBl (m2 vEqR (mBv 2) (mLit (.str "<"))))
   (sRet (mB bInt [(m2 vLt (mBv 3) (mBv 4))]))
   sNext)
  (sSeq (sIf (tBl (m2 vEqR (mBv 2) (mLit (.str "and"))))
   (sRet (mB bInt [(mAnd (m2 vNeR (mBv 3) (mLit (.int 0))) (m2 vNeR (mBv 4) (mLit (.int 0))))]))
   sNext)
  (sRet (mB bInt [(mOr (m2 vNeR (mBv 3) (mLit (.int 0))) (m2 vNeR (mBv 4) (mLit (.int 0))))])))))))))))))
def fnumber_of : Fn := ⟨2, 5, bnumber_of⟩
def b_law_cell_at (rc : Rec) : MS :=
  (sSeq (sIf (tBl (m2 vLt (mBv 1) (mB bLen [(mBv 0)])))
   (sRet (m2 vIdx (mBv 0) (mBv 1)))
   sNext)
  (sRet (mLit (.int 0))))
def f_law_cell_at : Fn := ⟨2, 2, b_law_cell_at⟩
def b_law_well (rc : Rec) : MS :=
  (sRet (mHLst [(mB bMax [(mLit (.int 0)), (m2 vSub (mBv 0) (m2 vPow (mLit (.int 10)) (mLit (.int 9))))]), (m2 vMod (mBv 0) (mLit (.int 2147483647))), (mLit (.int 0))]))
def f_law_well : Fn := ⟨1, 1, b_law_well⟩
def b_law_draw (rc : Rec) : MS :=
  (sSeq (sIf (tBl (m2 vGt (m2 vIdx (mBv 0) (mLit (.int 0))) (mLit (.int 0))))
   (sSeq (sSet 3 (m2 vMod (m2 vIdx (mBv 0) (mLit (.int 0))) (mBv 1)))
   (sSeq (sPut (mBv 0) (mLit (.int 0)) (m2 vDiv (m2 vIdx (mBv 0) (mLit (.int 0))) (mBv 1)))
   (sRet (mVar 3))))
   sNext)
  (sSeq (sPut (mBv 0) (mLit (.int 2)) (m2 vAdd (m2 vIdx (mBv 0) (mLit (.int 2))) (mLit (.int 1))))
  (sSeq (sSet 2 (m2 vMod (m2 vMul (m2 vAdd (m2 vAdd (m2 vIdx (mBv 0) (mLit (.int 1))) (m2 vMul (mLit (.int 7919)) (m2 vIdx (mBv 0) (mLit (.int 2))))) (mLit (.int 1))) (mLit (.int 48271))) (mLit (.int 2147483647))))
  (sSeq (sSet 2 (m2 vMod (m2 vMul (mBv 2) (m2 vAdd (m2 vDiv (mBv 2) (mLit (.int 1009))) (mLit (.int 69621)))) (mLit (.int 2147483647))))
  (sSeq (sSet 2 (m2 vMod (m2 vMul (mBv 2) (m2 vAdd (m2 vDiv (mBv 2) (mLit (.int 2003))) (mLit (.int 40692)))) (mLit (.int 2147483399))))
  (sRet (m2 vMod (m2 vAdd (m2 vMul (mBv 2) (mLit (.int 48271))) (m2 vDiv (mBv 2) (mLit (.int 7)))) (mBv 1))))))))
def f_law_draw : Fn := ⟨2, 4, b_law_draw⟩
def b_law_expr (rc : Rec) : MS :=
  (sSeq (sSet 3 (mCall rc 3 [(mVar 0), (mLit (.int 10))]))
  (sSeq (sIf (Mi.tOr (tBl (m2 vEqR (mBv 2) (mLit (.int 1)))) (tBl (m2 vLt (mBv 3) (mLit (.int 2)))))
   (sSeq (sIf (tBl (m2 vEqR (mCall rc 3 [(mVar 0), (mLit (.int 3))]) (mLit (.int 0))))
    (sRet (mTup [(mLit (.str "num")), (mCall rc 3 [(mVar 0), (mLit (.int 10))])]))
    sNext)
   (sRet (mTup [(mLit (.str "var")), (m2 vIdx (mBv 1) (mCall rc 3 [(mVar 0), (mB bLen [(mBv 1)])]))])))
   sNext)
  (sSeq (sIf (tBl (m2 vEqR (mBv 3) (mLit (.int 2))))
   (sRet (mTup [(mLit (.str "not")), (mCall rc 4 [(mVar 0), (mVar 1), (m2 vSub (mBv 2) (mLit (.int 1)))])]))
   sNext)
  (sSeq (sSet 4 (m2 vIdx (mLst [(mLit (.str "+")), (mLit (.str "-")), (mLit (.str "=")), (mLit (.str "<")), (mLit (.str "and")), (mLit (.str "or")), (mLit (.str "-"))]) (m2 vSub (mBv 3) (mLit (.int 3)))))
  (sRet (mTup [(mVar 4), (mCall rc 4 [(mVar 0), (mVar 1), (m2 vSub (mBv 2) (mLit (.int 1)))]), (mCall rc 4 [(mVar 0), (mVar 1), (m2 vSub (mBv 2) (mLit (.int 1)))])]))))))
def f_law_expr : Fn := ⟨3, 5, b_law_expr⟩
def l_law_words_1 (rc : Rec) : MS :=
  (sSet 1 (m2 vAdd (mBv 1) (mCall rc 5 [(mVar 2)])))
def b_law_words (rc : Rec) : MS :=
  (sSeq (sIf (tBl (m2 vIn (m2 vIdx (mBv 0) (mLit (.int 0))) (mTup [(mLit (.str "num")), (mLit (.str "var"))])))
   (sRet (mLst [(mVar 0)]))
   sNext)
  (sSeq (sSet 1 (mLst [(m2 vIdx (mBv 0) (mLit (.int 0)))]))
  (sSeq (sFor (iSeq (mSlc (mBv 0) (some (mLit (.int 1))) none)) (Mi.gName 2) (l_law_words_1 rc))
  (sRet (mVar 1)))))
def f_law_words : Fn := ⟨1, 3, b_law_words⟩
def b_law_paired (rc : Rec) : MS :=
  (sSeq (sIf (tBl (m2 vEqR (mBv 0) (mLit (.str "+"))))
   (sRet (m2 vIdx (mLst [(m2 vAdd (mBv 1) (mBv 2)), (mLit (.int 9))]) (mB bInt [(m2 vGt (m2 vAdd (mBv 1) (mBv 2)) (mLit (.int 9)))])))
   sNext)
  (sSeq (sIf (tBl (m2 vEqR (mBv 0) (mLit (.str "-"))))
   (sRet (m2 vMul (m2 vSub (mBv 1) (mBv 2)) (mB bInt [(m2 vGt (mBv 1) (mBv 2))])))
   sNext)
  (sSeq (sSet 3 (mDic [.inr "=", .inr "<", .inr "and", .inr "or"] [(m2 vEqR (mBv 1) (mBv 2)), (m2 vLt (mBv 1) (mBv 2)), (m2 vGt (m2 vMul (mBv 1) (mBv 2)) (mLit (.int 0))), (m2 vGt (m2 vAdd (mBv 1) (mBv 2)) (mLit (.int 0)))]))
  (sRet (mB bInt [(m2 vIdx (mBv 3) (mBv 0))])))))
def f_law_paired : Fn := ⟨3, 4, b_law_paired⟩
def l_law_due_1 (rc : Rec) : MS :=
  (sIf (tTru (m1 (vIsi .tup) (mBv 3)))
   (sExpr (mM chkL tAppend (mBv 2) [(m2 vIdx (mLst [(mM chkD tGet (mBv 1) [(m2 vIdx (mBv 3) (mLit (.int 1))), (m1 vNeg (mLit (.int 1)))]), (m2 vIdx (mBv 3) (mLit (.int 1)))]) (mB bInt [(m2 vEqR (m2 vIdx (mBv 3) (mLit (.int 0))) (mLit (.str "num")))]))]))
   (sIf (tBl (m2 vEqR (mBv 3) (mLit (.str "not"))))
    (sExpr (mM chkL tAppend (mBv 2) [(mB bInt [(m2 vEqR (mM chkL tPop (mBv 2) []) (mLit (.int 0)))])]))
    (sSeq (sSet 4 (mM chkL tPop (mBv 2) []))
    (sExpr (mM chkL tAppend (mBv 2) [(mCall rc 6 [(mVar 3), (mVar 4), (mM chkL tPop (mBv 2) [])])])))))
def b_law_due (rc : Rec) : MS :=
  (sSeq (sSet 2 (mHLst []))
  (sSeq (sFor (iSeq (m1 vRev (mCall rc 5 [(mVar 0)]))) (Mi.gName 3) (l_law_due_1 rc))
  (sRet (m2 vIdx (mBv 2) (mLit (.int 0))))))
def f_law_due : Fn := ⟨2, 5, b_law_due⟩
def b_law_right (rc : Rec) : MS :=
  (sSeq (sSet 2 (mB bDict [(mBv 1)]))
  (sSeq (sSet 3 (mCall rc 0 [(mVar 0), (mVar 1)]))
  (sRet (mAnd (m1 (vIsi .int) (mBv 3)) (mAnd (mNot (m1 (vIsi .bool) (mBv 3))) (mAnd (m2 vEqR (mBv 3) (mCall rc 7 [(mVar 0), (mVar 2)])) (m2 vEqR (mBv 1) (mBv 2))))))))
def f_law_right : Fn := ⟨2, 4, b_law_right⟩
def llaw_3 (rc : Rec) : MS :=
  (sIf (tBl (m2 vNeR (mCall rc 0 [(mTup [(mVar 9), (mTup [(mLit (.str "num")), (mVar 3)]), (mTup [(mLit (.str "var")), (mLit (.str "x"))])]), (mDic [.inr "x"] [(mVar 8)])]) (mCall rc 6 [(mVar 9), (mVar 3), (mVar 8)])))
   (sRet (mLit (.bl false)))
   sNext)
def llaw_2 (rc : Rec) : MS :=
  (sFor (iSeq (mLst [(mLit (.str "+")), (mLit (.str "-")), (mLit (.str "=")), (mLit (.str "<")), (mLit (.str "and")), (mLit (.str "or"))])) (Mi.gName 9) (llaw_3 rc))
def llaw_1 (rc : Rec) : MS :=
  (sSeq (sIf (tBl (m2 vNeR (mCall rc 0 [(mTup [(mLit (.str "not")), (mTup [(mLit (.str "num")), (mVar 3)])]), (mDic [] [])]) (mB bInt [(m2 vEqR (mBv 3) (mLit (.int 0)))])))
   (sRet (mLit (.bl false)))
   sNext)
  (sFor (iSeq (mLst [(mLit (.int 0)), (mLit (.int 1)), (mLit (.int 2)), (mLit (.int 5)), (mLit (.int 9))])) (Mi.gName 8) (llaw_2 rc)))
def llaw_5 (rc : Rec) : MS :=
  (sIf (Mi.tNot (tTru (mCall rc 8 [(mVar 5), (mVar 7)])))
   (sRet (mLit (.bl false)))
   sNext)
def llaw_4 (rc : Rec) : MS :=
  (sSeq (sSet 4 (mCall rc 2 [(mVar 2)]))
  (sSeq (sSet 5 (mCall rc 4 [(mVar 4), (mSlc (mBv 1) none (some (m2 vAdd (mLit (.int 1)) (mCall rc 3 [(mVar 4), (mLit (.int 5))])))), (m2 vAdd (mLit (.int 1)) (mCall rc 3 [(mVar 4), (mLit (.int 5))]))]))
  (sSeq (sSet 6 (mComp (iRange1 (mLit (.int 2))) (Mi.gName 10) Mi.tYes (mB bDict [(mComp (iSeq (mVar 1)) (Mi.gName 11) Mi.tYes (mTup [(mVar 11), (mCall rc 3 [(mVar 4), (mLit (.int 10))])]) [11])]) [10]))
  (sFor (iSeq (m2 vAdd (mBv 6) (mLst [(m2 vIdx (mBv 6) (mLit (.int 0)))]))) (Mi.gName 7) (llaw_5 rc)))))
def blaw (rc : Rec) : MS :=
  (sSeq (sSet 1 (mLst [(mLit (.str "x")), (mLit (.str "v")), (mLit (.str "num")), (mLit (.str "var")), (mLit (.str "abcdefgh"))]))
  (sSeq (sFor (iSeq (m2 vAdd (mLst [(mCall rc 1 [(mVar 0), (mLit (.int 0))])]) (mSlc (mBv 0) (some (mLit (.int 1))) (some (mLit (.int 12)))))) (Mi.gName 2) (llaw_4 rc))
  (sSeq (sFor (iSeq (mLst [(mLit (.int 0)), (mLit (.int 1)), (mLit (.int 2)), (mLit (.int 5)), (mLit (.int 9))])) (Mi.gName 3) (llaw_1 rc))
  (sRet (mLit (.bl true))))))
def flaw : Fn := ⟨1, 12, blaw⟩
def fns : List Fn := [fnumber_of, f_law_cell_at, f_law_well, f_law_draw, f_law_expr, f_law_words, f_law_paired, f_law_due, f_law_right, flaw]
theorem knumber_of : ∀ rc, cSS (compS rc 40 (ccOf go marks dnumber_of)) dnumber_of.body = some (bnumber_of rc) := fun rc => by with_unfolding_all kernel_rfl
theorem k_law_cell_at : ∀ rc, cSS (compS rc 40 (ccOf go marks d_law_cell_at)) d_law_cell_at.body = some (b_law_cell_at rc) := fun rc => by with_unfolding_all kernel_rfl
theorem k_law_well : ∀ rc, cSS (compS rc 40 (ccOf go marks d_law_well)) d_law_well.body = some (b_law_well rc) := fun rc => by with_unfolding_all kernel_rfl
theorem k_law_draw : ∀ rc, cSS (compS rc 40 (ccOf go marks d_law_draw)) d_law_draw.body = some (b_law_draw rc) := fun rc => by with_unfolding_all kernel_rfl
theorem k_law_expr : ∀ rc, cSS (compS rc 40 (ccOf go marks d_law_expr)) d_law_expr.body = some (b_law_expr rc) := fun rc => by with_unfolding_all kernel_rfl
theorem k_law_words : ∀ rc, cSS (compS rc 40 (ccOf go marks d_law_words)) d_law_words.body = some (b_law_words rc) := fun rc => by with_unfolding_all kernel_rfl
theorem k_law_paired : ∀ rc, cSS (compS rc 40 (ccOf go marks d_law_paired)) d_law_paired.body = some (b_law_paired rc) := fun rc => by with_unfolding_all kernel_rfl
theorem k_law_due : ∀ rc, cSS (compS rc 40 (ccOf go marks d_law_due)) d_law_due.body = some (b_law_due rc) := fun rc => by with_unfolding_all kernel_rfl
theorem k_law_right : ∀ rc, cSS (compS rc 40 (ccOf go marks d_law_right)) d_law_right.body = some (b_law_right rc) := fun rc => by with_unfolding_all kernel_rfl
theorem klaw : ∀ rc, cSS (compS rc 40 (ccOf go marks dlaw)) dlaw.body = some (blaw rc) := fun rc => by with_unfolding_all kernel_rfl
theorem rnumber_of (n : Nat) (vs : List IV) (h : MH) (hl : vs.length = 2) : run fns (n + 1) 0 vs h = (bnumber_of (run fns n) (start 5 vs) h).out := by
  rw [run_succ]
  exact if_pos hl
theorem r_law_cell_at (n : Nat) (vs : List IV) (h : MH) (hl : vs.length = 2) : run fns (n + 1) 1 vs h = (b_law_cell_at (run fns n) (start 2 vs) h).out := by
  rw [run_succ]
  exact if_pos hl
theorem r_law_well (n : Nat) (vs : List IV) (h : MH) (hl : vs.length = 1) : run fns (n + 1) 2 vs h = (b_law_well (run fns n) (start 1 vs) h).out := by
  rw [run_succ]
  exact if_pos hl
theorem r_law_draw (n : Nat) (vs : List IV) (h : MH) (hl : vs.length = 2) : run fns (n + 1) 3 vs h = (b_law_draw (run fns n) (start 4 vs) h).out := by
  rw [run_succ]
  exact if_pos hl
theorem r_law_expr (n : Nat) (vs : List IV) (h : MH) (hl : vs.length = 3) : run fns (n + 1) 4 vs h = (b_law_expr (run fns n) (start 5 vs) h).out := by
  rw [run_succ]
  exact if_pos hl
theorem r_law_words (n : Nat) (vs : List IV) (h : MH) (hl : vs.length = 1) : run fns (n + 1) 5 vs h = (b_law_words (run fns n) (start 3 vs) h).out := by
  rw [run_succ]
  exact if_pos hl
theorem r_law_paired (n : Nat) (vs : List IV) (h : MH) (hl : vs.length = 3) : run fns (n + 1) 6 vs h = (b_law_paired (run fns n) (start 4 vs) h).out := by
  rw [run_succ]
  exact if_pos hl
theorem r_law_due (n : Nat) (vs : List IV) (h : MH) (hl : vs.length = 2) : run fns (n + 1) 7 vs h = (b_law_due (run fns n) (start 5 vs) h).out := by
  rw [run_succ]
  exact if_pos hl
theorem r_law_right (n : Nat) (vs : List IV) (h : MH) (hl : vs.length = 2) : run fns (n + 1) 8 vs h = (b_law_right (run fns n) (start 4 vs) h).out := by
  rw [run_succ]
  exact if_pos hl
theorem rlaw (n : Nat) (vs : List IV) (h : MH) (hl : vs.length = 1) : run fns (n + 1) 9 vs h = (blaw (run fns n) (start 12 vs) h).out := by
  rw [run_succ]
  exact if_pos hl
section
theorem onumber_of : DfOk go marks dnumber_of fnumber_of := by
  refine ⟨⟨rfl, rfl, rfl, by decide +kernel, rfl, by decide +kernel, by decide +kernel⟩, by decide +kernel, rfl, rfl, knumber_of, by decide +kernel, by decide, fun K f fd F j hj => ?_⟩
  obtain rfl : j = 0 := Nat.le_zero.mp hj
  exact ⟨[], .nil, FunD.bindsN F fun _ _ _ _ _ _ us hl => match us, hl with | [_, _], _ => rfl⟩
theorem o_law_cell_at : DfOk go marks d_law_cell_at f_law_cell_at := by
  refine ⟨⟨rfl, rfl, rfl, by decide +kernel, rfl, by decide +kernel, by decide +kernel⟩, by decide +kernel, rfl, rfl, k_law_cell_at, by decide +kernel, by decide, fun K f fd F j hj => ?_⟩
  obtain rfl : j = 0 := Nat.le_zero.mp hj
  exact ⟨[], .nil, FunD.bindsN F fun _ _ _ _ _ _ us hl => match us, hl with | [_, _], _ => rfl⟩
theorem o_law_well : DfOk go marks d_law_well f_law_well := by
  refine ⟨⟨rfl, rfl, rfl, by decide +kernel, rfl, by decide +kernel, by decide +kernel⟩, by decide +kernel, rfl, rfl, k_law_well, by decide +kernel, by decide, fun K f fd F j hj => ?_⟩
  obtain rfl : j = 0 := Nat.le_zero.mp hj
  exact ⟨[], .nil, FunD.bindsN F fun _ _ _ _ _ _ us hl => match us, hl with | [_], _ => rfl⟩
theorem o_law_draw : DfOk go marks d_law_draw f_law_draw := by
  refine ⟨⟨rfl, rfl, rfl, by decide +kernel, rfl, by decide +kernel, by decide +kernel⟩, by decide +kernel, rfl, rfl, k_law_draw, by decide +kernel, by decide, fun K f fd F j hj => ?_⟩
  obtain rfl : j = 0 := Nat.le_zero.mp hj
  exact ⟨[], .nil, FunD.bindsN F fun _ _ _ _ _ _ us hl => match us, hl with | [_, _], _ => rfl⟩
theorem o_law_expr : DfOk go marks d_law_expr f_law_expr := by
  refine ⟨⟨rfl, rfl, rfl, by decide +kernel, rfl, by decide +kernel, by decide +kernel⟩, by decide +kernel, rfl, rfl, k_law_expr, by decide +kernel, by decide, fun K f fd F j hj => ?_⟩
  obtain rfl : j = 0 := Nat.le_zero.mp hj
  exact ⟨[], .nil, FunD.bindsN F fun _ _ _ _ _ _ us hl => match us, hl with | [_, _, _], _ => rfl⟩
theorem o_law_words : DfOk go marks d_law_words f_law_words := by
  refine ⟨⟨rfl, rfl, rfl, by decide +kernel, rfl, by decide +kernel, by decide +kernel⟩, by decide +kernel, rfl, rfl, k_law_words, by decide +kernel, by decide, fun K f fd F j hj => ?_⟩
  obtain rfl : j = 0 := Nat.le_zero.mp hj
  exact ⟨[], .nil, FunD.bindsN F fun _ _ _ _ _ _ us hl => match us, hl with | [_], _ => rfl⟩
theorem o_law_paired : DfOk go marks d_law_paired f_law_paired := by
  refine ⟨⟨rfl, rfl, rfl, by decide +kernel, rfl, by decide +kernel, by decide +kernel⟩, by decide +kernel, rfl, rfl, k_law_paired, by decide +kernel, by decide, fun K f fd F j hj => ?_⟩
  obtain rfl : j = 0 := Nat.le_zero.mp hj
  exact ⟨[], .nil, FunD.bindsN F fun _ _ _ _ _ _ us hl => match us, hl with | [_, _, _], _ => rfl⟩
theorem o_law_due : DfOk go marks d_law_due f_law_due := by
  refine ⟨⟨rfl, rfl, rfl, by decide +kernel, rfl, by decide +kernel, by decide +kernel⟩, by decide +kernel, rfl, rfl, k_law_due, by decide +kernel, by decide, fun K f fd F j hj => ?_⟩
  obtain rfl : j = 0 := Nat.le_zero.mp hj
  exact ⟨[], .nil, FunD.bindsN F fun _ _ _ _ _ _ us hl => match us, hl with | [_, _], _ => rfl⟩
theorem o_law_right : DfOk go marks d_law_right f_law_right := by
  refine ⟨⟨rfl, rfl, rfl, by decide +kernel, rfl, by decide +kernel, by decide +kernel⟩, by decide +kernel, rfl, rfl, k_law_right, by decide +kernel, by decide, fun K f fd F j hj => ?_⟩
  obtain rfl : j = 0 := Nat.le_zero.mp hj
  exact ⟨[], .nil, FunD.bindsN F fun _ _ _ _ _ _ us hl => match us, hl with | [_, _], _ => rfl⟩
theorem olaw : DfOk go marks dlaw flaw := by
  refine ⟨⟨rfl, rfl, rfl, by decide +kernel, rfl, by decide +kernel, by decide +kernel⟩, by decide +kernel, rfl, rfl, klaw, by decide +kernel, by decide, fun K f fd F j hj => ?_⟩
  obtain rfl : j = 0 := Nat.le_zero.mp hj
  exact ⟨[], .nil, FunD.bindsN F fun _ _ _ _ _ _ us hl => match us, hl with | [_], _ => rfl⟩
end
theorem oall : AllOk go marks dfs fns := ⟨onumber_of, o_law_cell_at, o_law_well, o_law_draw, o_law_expr, o_law_words, o_law_paired, o_law_due, o_law_right, olaw, trivial⟩
theorem gon : (goOf dfs b_names c_vals).all (fun p => okName p.1) = true := by decide +kernel
end L02
set_option linter.all false
set_option Elab.async false
set_option maxRecDepth 100000
set_option maxHeartbeats 4000000
namespace L02
open PySem Mi
inductive Wd | pls | mns | eq | lt | and | or
def Wd.s : Wd → Str
  | .pls => "+" | .mns => "-" | .eq => "=" | .lt => "<" | .and => "and" | .or => "or"
inductive Ep where
  | num (i : Int) | var (s : Str) | not (e : Ep) | bin (w : Wd) (a b : Ep)
def Ep.iv : Ep → IV
  | .num i => .tup [.str "num", .int i]
  | .var s => .tup [.str "var", .str s]
  | .not e => .tup [.str "not", e.iv]
  | .bin w a b => .tup [.str w.s, a.iv, b.iv]
def Wd.f : Wd → Int → Int → Int
  | .pls, x, y => if 9 < x + y then 9 else x + y
  | .mns, x, y => if y < x then x - y else 0
  | .eq, x, y => if x = y then 1 else 0
  | .lt, x, y => if x < y then 1 else 0
  | .and, x, y => if x ≠ 0 ∧ y ≠ 0 then 1 else 0
  | .or, x, y => if x ≠ 0 ∨ y ≠ 0 then 1 else 0
def Ep.ev (d : Str → Int) : Ep → Int
  | .num i => i
  | .var s => d s
  | .not e => if e.ev d = 0 then 1 else 0
  | .bin w a b => w.f (a.ev d) (b.ev d)
def Ep.dp : Ep → Nat
  | .num _ => 1 | .var _ => 1 | .not e => e.dp + 1 | .bin _ a b => max a.dp b.dp + 1
/-- numbers from 0 to 9, variables that P knows -/
def Ep.Ok (P : Str → Prop) : Ep → Prop
  | .num i => 0 ≤ i ∧ i ≤ 9
  | .var s => P s
  | .not e => e.Ok P
  | .bin _ a b => a.Ok P ∧ b.Ok P
def Ep.wd : Ep → List IV
  | .num i => [.tup [.str "num", .int i]]
  | .var s => [.tup [.str "var", .str s]]
  | .not e => .str "not" :: e.wd
  | .bin w a b => .str w.s :: (a.wd ++ b.wd)
theorem Ep.wd_len : ∀ e : Ep, e.wd.length < 2 ^ e.dp
  | .num i => by simp [Ep.wd, Ep.dp]
  | .var i => by simp [Ep.wd, Ep.dp]
  | .not e => by
    have := Ep.wd_len e
    simp only [Ep.wd, Ep.dp, List.length_cons, Nat.pow_succ]
    omega
  | .bin w a b => by
    have h1 := Ep.wd_len a
    have h2 := Ep.wd_len b
    have h3 : 2 ^ a.dp ≤ 2 ^ max a.dp b.dp := Nat.pow_le_pow_right (by omega) (Nat.le_max_left _ _)
    have h4 : 2 ^ b.dp ≤ 2 ^ max a.dp b.dp := Nat.pow_le_pow_right (by omega) (Nat.le_max_right _ _)
    simp only [Ep.wd, Ep.dp, List.length_cons, List.length_append, Nat.pow_succ]
    omega
theorem Wd.rng (w : Wd) {x y : Int} (hx : 0 ≤ x ∧ x ≤ 9) (hy : 0 ≤ y ∧ y ≤ 9) : 0 ≤ w.f x y ∧ w.f x y ≤ 9 := by
  cases w <;> simp only [Wd.f] <;> split <;> omega
theorem Ep.rng {d : Str → Int} : ∀ e : Ep, e.Ok (fun s => 0 ≤ d s ∧ d s ≤ 9) → 0 ≤ e.ev d ∧ e.ev d ≤ 9
  | .num i, h => h
  | .var i, h => h
  | .not e, h => by
    simp only [Ep.ev]
    split <;> omega
  | .bin w a b, h => Wd.rng w (Ep.rng a h.1) (Ep.rng b h.2)
theorem Ep.Ok.imp {P Q : Str → Prop} (hpq : ∀ s, P s → Q s) : ∀ e : Ep, e.Ok P → e.Ok Q
  | .num i, h => h
  | .var i, h => hpq _ h
  | .not e, h => Ep.Ok.imp hpq e h
  | .bin w a b, h => ⟨Ep.Ok.imp hpq a h.1, Ep.Ok.imp hpq b h.2⟩
theorem number_ok {ks : List Ky} {vs : List IV} {d : Str → Int} : ∀ (e : Ep) (n : Nat) (h : MH), e.dp ≤ n → e.Ok (fun s => klook ks vs (.inr s) = some (.int (d s))) →
    run fns n 0 [e.iv, .dic ks vs] h = .ok (.int (e.ev d)) h
  | .num i, n, h, hn, hv => by
    obtain ⟨m, rfl⟩ := Nat.exists_eq_add_of_le' (show 1 ≤ n from hn)
    rw [rnumber_of _ _ _ rfl]
    simp [bnumber_of, Ep.iv, Ep.ev]
  | .var s, n, h, hn, hv => by
    obtain ⟨m, rfl⟩ := Nat.exists_eq_add_of_le' (show 1 ≤ n from hn)
    have hv' : klook ks vs (.inr s) = some (.int (d s)) := hv
    rw [rnumber_of _ _ _ rfl]
    simp [bnumber_of, Ep.iv, Ep.ev, hv']
  | .not e, n, h, hn, hv => by
    obtain ⟨m, rfl⟩ := Nat.exists_eq_add_of_le' (show 1 ≤ n from Nat.le_trans (Nat.le_add_left _ _) hn)
    have ih := number_ok e m h (by have : e.dp + 1 ≤ m + 1 := hn; omega) hv
    rw [rnumber_of _ _ _ rfl]
    simp [bnumber_of, Ep.iv, Ep.ev, ih]
  | .bin w a b, n, h, hn, hv => by
    obtain ⟨m, rfl⟩ := Nat.exists_eq_add_of_le' (show 1 ≤ n from Nat.le_trans (Nat.le_add_left _ _) hn)
    have hn' : max a.dp b.dp + 1 ≤ m + 1 := hn
    have ia := number_ok a m h (by omega) hv.1
    have ib := number_ok b m h (by omega) hv.2
    rw [rnumber_of _ _ _ rfl]
    cases w <;> simp [bnumber_of, Ep.iv, Ep.ev, ia, ib, Wd.s, Wd.f]
    · split <;> split <;> omega
    · by_cases h1 : a.ev d = 0 <;> by_cases h2 : b.ev d = 0 <;> simp [h1, h2]
    · by_cases h1 : a.ev d = 0 <;> by_cases h2 : b.ev d = 0 <;> simp [h1, h2]
theorem words_ok : ∀ (e : Ep) (n : Nat) (h : MH), e.dp ≤ n → e.dp ≤ 20 → run fns n 5 [e.iv] h = .ok (.lst e.wd) h
  | .num i, n, h, hn, h20 => by
    obtain ⟨m, rfl⟩ := Nat.exists_eq_add_of_le' (show 1 ≤ n from hn)
    rw [r_law_words _ _ _ rfl]
    simp [b_law_words, Ep.iv, Ep.wd, vIn_tup, anyEq, eqv_str]
  | .var s, n, h, hn, h20 => by
    obtain ⟨m, rfl⟩ := Nat.exists_eq_add_of_le' (show 1 ≤ n from hn)
    rw [r_law_words _ _ _ rfl]
    simp [b_law_words, Ep.iv, Ep.wd, vIn_tup, anyEq, eqv_str]
  | .not e, n, h, hn, h20 => by
    obtain ⟨m, rfl⟩ := Nat.exists_eq_add_of_le' (show 1 ≤ n from Nat.le_trans (Nat.le_add_left _ _) hn)
    have h20' : e.dp + 1 ≤ 20 := h20
    have hn' : e.dp + 1 ≤ m + 1 := hn
    have ih := words_ok e m h (by omega) (by omega)
    have hl := e.wd_len
    have h2 : 2 ^ e.dp ≤ 2 ^ 20 := Nat.pow_le_pow_right (by omega) (by omega)
    rw [r_law_words _ _ _ rfl]
    simp [b_law_words, l_law_words_1, Ep.iv, Ep.wd, vIn_tup, anyEq, eqv_str, cutI, sIx, loopF_cons, ih]
    rw [vAdd_lst (by simp; omega)]
    simp
  | .bin w a b, n, h, hn, h20 => by
    obtain ⟨m, rfl⟩ := Nat.exists_eq_add_of_le' (show 1 ≤ n from Nat.le_trans (Nat.le_add_left _ _) hn)
    have h20' : max a.dp b.dp + 1 ≤ 20 := h20
    have hn' : max a.dp b.dp + 1 ≤ m + 1 := hn
    have ia := words_ok a m h (by omega) (by omega)
    have ib := words_ok b m h (by omega) (by omega)
    have la := a.wd_len
    have lb := b.wd_len
    have h2 : 2 ^ a.dp ≤ 2 ^ 20 := Nat.pow_le_pow_right (by omega) (by omega)
    have h3 : 2 ^ b.dp ≤ 2 ^ 20 := Nat.pow_le_pow_right (by omega) (by omega)
    rw [r_law_words _ _ _ rfl]
    have hw : anyEq (.str w.s) [.str "num", .str "var"] = false := by
      cases w <;> simp [anyEq, eqv_str, Wd.s]
    have e1 : vIn (.str w.s) (.tup [.str "num", .str "var"]) h = .ok (.bl false) h := by
      rw [vIn_tup (d := .str w.s) (es := [.str "num", .str "var"]) pd_str (by simp), hw]
    simp [b_law_words, l_law_words_1, Ep.iv, Ep.wd, e1, cutI, sIx, loopF_cons, ia]
    rw [vAdd_lst (by simp; omega)]
    simp [ib]
    rw [vAdd_lst (by simp; omega)]
    simp
theorem paired_ok (w : Wd) {x y : Int} (hx : 0 ≤ x ∧ x ≤ 9) (hy : 0 ≤ y ∧ y ≤ 9) (n : Nat) (h : MH) : run fns (n + 1) 6 [.str w.s, .int x, .int y] h = .ok (.int (w.f x y)) h := by
  rw [r_law_paired _ _ _ rfl]
  have mul : 0 < x * y ↔ x ≠ 0 ∧ y ≠ 0 := by
    constructor
    · intro h
      refine ⟨?_, ?_⟩ <;> rintro rfl <;> simp at h
    · rintro ⟨h1, h2⟩
      exact Int.mul_pos (by omega) (by omega)
  cases w <;> simp [b_law_paired, Wd.s, Wd.f, kmerge, kput, kset, klook, vMul_l (j := x) (k := y) (h := h) (by omega) (by omega)]
  · by_cases h1 : 9 < x + y <;> simp [h1]
  · by_cases h1 : y < x <;> simp [h1, vMul_r]
  · simp only [mul]
  · by_cases h1 : x = 0 <;> by_cases h2 : y = 0 <;> simp [h1, h2] <;> omega
theorem draw_ok {w : Nat} {a s c b : Int} {h : MH} (e : h[w]? = some (.lst [.int a, .int s, .int c])) (hb : 0 < b) (hb2 : b < 1073741824) (n : Nat) :
    ∃ r a' c', 0 ≤ r ∧ r < b ∧ run fns (n + 1) 3 [.ref w, .int b] h = .ok (.int r) (h.set w (.lst [.int a', .int s, .int c'])) := by
  have e2 : ∀ xs j, vIdx (.ref w) (.int j) (h.set w (.lst xs)) = .of (atI xs j) (h.set w (.lst xs)) := fun xs j => vIdx_ref (set_same e)
  have p0 : ∀ v, vPut (.ref w) (.int 0) v h = some (h.set w (.lst [v, .int s, .int c])) := fun v => vPut_ref (m := 0) e (by simp)
  have p2 : ∀ v, vPut (.ref w) (.int 2) v h = some (h.set w (.lst [.int a, .int s, v])) := fun v => vPut_ref (m := 2) e (by simp)
  rw [r_law_draw _ _ _ rfl]
  by_cases ha : 0 < a
  · refine ⟨a % b, a / b, c, Int.emod_nonneg _ (by omega), Int.emod_lt_of_pos _ hb, ?_⟩
    simp [b_law_draw, vIdx_ref e, ha, vMod_int hb, vDiv_int hb hb2, p0]
  · have key : ∃ X : Int, (b_law_draw (run fns n) (start 4 [.ref w, .int b]) h).out = .ok (.int (X % b)) (h.set w (.lst [.int a, .int s, .int (c + 1)])) := by
      refine ⟨?X, ?hx⟩
      case hx =>
        have m1 : ∀ (x : Int) (h : MH), vMul (.int 7919) (.int x) h = .ok (.int (7919 * x)) h := fun x h => vMul_l (by omega) (by omega)
        have m2 : ∀ (x : Int) (h : MH), vMul (.int x) (.int 48271) h = .ok (.int (x * 48271)) h := fun x h => vMul_r (by omega) (by omega)
        have m3 : ∀ (x y : Int) (h : MH), vMul (.int (x % 2147483647)) (.int y) h = .ok (.int (x % 2147483647 * y)) h := fun x y h => vMul_l (by omega) (by omega)
        have d1 : ∀ (x : Int) (h : MH), vDiv (.int x) (.int 1009) h = .ok (.int (x / 1009)) h := fun x h => vDiv_int (by omega) (by omega)
        have d2 : ∀ (x : Int) (h : MH), vDiv (.int x) (.int 2003) h = .ok (.int (x / 2003)) h := fun x h => vDiv_int (by omega) (by omega)
        have d3 : ∀ (x : Int) (h : MH), vDiv (.int x) (.int 7) h = .ok (.int (x / 7)) h := fun x h => vDiv_int (by omega) (by omega)
        have q1 : ∀ (x : Int) (h : MH), vMod (.int x) (.int 2147483647) h = .ok (.int (x % 2147483647)) h := fun x h => vMod_int (by omega)
        have q2 : ∀ (x : Int) (h : MH), vMod (.int x) (.int 2147483399) h = .ok (.int (x % 2147483399)) h := fun x h => vMod_int (by omega)
        simp [b_law_draw, vIdx_ref e, ha, p2, e2, m1, m2, m3, d1, d2, d3, q1, q2, vMod_int hb]
        rfl
    obtain ⟨X, hX⟩ := key
    exact ⟨X % b, a, c + 1, Int.emod_nonneg _ (by omega), Int.emod_lt_of_pos _ hb, hX⟩
theorem due_loop {ks : List Ky} {vs : List IV} {d : Str → Int} {n m : Nat} {a0 : SV} (hr : ∀ s, klook ks vs (.inr s) = some (.int (d s)) → 0 ≤ d s ∧ d s ≤ 9) : ∀ (e : Ep) (st : List IV) (h : MH) (x3 x4 : SV) (rest : List IV),
    h[n]? = some (.lst st) → st.length + e.wd.length < 16777216 → e.Ok (fun s => klook ks vs (.inr s) = some (.int (d s))) →
    ∃ y3 y4, loopF (Mi.gName 3) (l_law_due_1 (run fns (m + 1))) (e.wd.reverse ++ rest) [a0, .val (.dic ks vs), .val (.ref n), x3, x4] h = loopF (Mi.gName 3) (l_law_due_1 (run fns (m + 1))) rest [a0, .val (.dic ks vs), .val (.ref n), y3, y4] (h.set n (.lst (st ++ [.int (e.ev d)])))
  | .num i, st, h, x3, x4, rest, e, hl, hv => by
    have hl' : st.length < 16777216 := by omega
    refine ⟨.val (.tup [.str "num", .int i]), x4, loop_nx (σ1 := [a0, .val (.dic ks vs), .val (.ref n), .val (.tup [.str "num", .int i]), x4]) rfl ?_⟩
    have g : ∃ z, tGet (.dic ks vs) [.int i, .int (-1)] h = .ok z h := ⟨_, rfl⟩
    obtain ⟨z, hz⟩ := g
    simp [l_law_due_1, isTy, hz, chkD, chkL_ref e, tAppend_ref e hl', Ep.ev]
  | .var s, st, h, x3, x4, rest, e, hl, hv => by
    have hl' : st.length < 16777216 := by omega
    have hv' : klook ks vs (.inr s) = some (.int (d s)) := hv
    refine ⟨.val (.tup [.str "var", .str s]), x4, loop_nx (σ1 := [a0, .val (.dic ks vs), .val (.ref n), .val (.tup [.str "var", .str s]), x4]) rfl ?_⟩
    have hz : tGet (.dic ks vs) [.str s, .int (-1)] h = .ok (.int (d s)) h := by
      unfold tGet
      simp [hv']
    simp [l_law_due_1, isTy, hz, chkD, chkL_ref e, tAppend_ref e hl', Ep.ev]
  | .not e0, st, h, x3, x4, rest, e, hl, hv => by
    have hl2 : st.length + (e0.wd.length + 1) < 16777216 := hl
    obtain ⟨y3, y4, q⟩ := due_loop hr e0 st h x3 x4 (.str "not" :: rest) e (by omega) hv
    have e1 : (Ep.wd (.not e0)).reverse ++ rest = e0.wd.reverse ++ (.str "not" :: rest) := by simp [Ep.wd]
    rw [e1, q]
    have S : ∀ xs, (h.set n (.lst xs))[n]? = some (.lst xs) := fun xs => set_same e
    have C : ∀ xs, chkL (h.set n (.lst xs)) (.ref n) = true := fun xs => chkL_ref (S xs)
    have P1 : ∀ v, tPop (.ref n) [] (h.set n (.lst (st ++ [v]))) = .ok v (h.set n (.lst st)) := fun v => by rw [tPop_ref (S _), List.set_set]
    have A : ∀ v, tAppend (.ref n) [v] (h.set n (.lst st)) = .ok .non (h.set n (.lst (st ++ [v]))) := fun v => by rw [tAppend_ref (S _) (by omega), List.set_set]
    refine ⟨.val (.str "not"), y4, loop_nx (σ1 := [a0, .val (.dic ks vs), .val (.ref n), .val (.str "not"), y4]) rfl ?_⟩
    simp [l_law_due_1, isTy, C, P1, A, Ep.ev]
  | .bin w a b, st, h, x3, x4, rest, e, hl, hv => by
    have hl2 : st.length + ((a.wd ++ b.wd).length + 1) < 16777216 := hl
    rw [List.length_append] at hl2
    obtain ⟨y3, y4, q⟩ := due_loop hr b st h x3 x4 (a.wd.reverse ++ (.str w.s :: rest)) e (by omega) hv.2
    have s1 := set_same (p := .lst (st ++ [.int (b.ev d)])) e
    have hb0 : 0 < b.wd.length := by cases b <;> simp [Ep.wd]
    obtain ⟨z3, z4, q2⟩ := due_loop hr a (st ++ [.int (b.ev d)]) _ y3 y4 (.str w.s :: rest) s1 (by rw [List.length_append]; show st.length + 1 + _ < _; omega) hv.1
    have e1 : (Ep.wd (.bin w a b)).reverse ++ rest = b.wd.reverse ++ (a.wd.reverse ++ (.str w.s :: rest)) := by simp [Ep.wd]
    rw [e1, q, q2]
    have ra := Ep.rng a (Ep.Ok.imp hr a hv.1)
    have rb := Ep.rng b (Ep.Ok.imp hr b hv.2)
    have hw : w.s ≠ Str.ofString "not" := by cases w <;> simp [Wd.s]
    have S : ∀ xs, (h.set n (.lst xs))[n]? = some (.lst xs) := fun xs => set_same e
    have C : ∀ xs, chkL (h.set n (.lst xs)) (.ref n) = true := fun xs => chkL_ref (S xs)
    have P2 : ∀ v u, tPop (.ref n) [] (h.set n (.lst (st ++ [v, u]))) = .ok u (h.set n (.lst (st ++ [v]))) := fun v u => by rw [tPop_ref (xs := st ++ [v]) (v := u) (by rw [S]; simp), List.set_set]
    have P1 : ∀ v, tPop (.ref n) [] (h.set n (.lst (st ++ [v]))) = .ok v (h.set n (.lst st)) := fun v => by rw [tPop_ref (S _), List.set_set]
    have A : ∀ v, tAppend (.ref n) [v] (h.set n (.lst st)) = .ok .non (h.set n (.lst (st ++ [v]))) := fun v => by rw [tAppend_ref (S _) (by omega), List.set_set]
    refine ⟨.val (.str w.s), .val (.int (a.ev d)), loop_nx (σ1 := [a0, .val (.dic ks vs), .val (.ref n), .val (.str w.s), z4]) rfl ?_⟩
    simp [l_law_due_1, isTy, hw, C, P1, P2, A, paired_ok w ra rb, Ep.ev]
theorem due_ok {ks : List Ky} {vs : List IV} {d : Str → Int} (hr : ∀ s, klook ks vs (.inr s) = some (.int (d s)) → 0 ≤ d s ∧ d s ≤ 9) (e : Ep) (m : Nat) (h : MH) (h1 : e.dp ≤ m + 1) (h2 : e.dp ≤ 20) (hv : e.Ok (fun s => klook ks vs (.inr s) = some (.int (d s)))) :
    ∃ o, run fns (m + 2) 7 [e.iv, .dic ks vs] h = .ok (.int (e.ev d)) (h ++ [o]) := by
  have hg : (h ++ [MO.lst []])[h.length]? = some (.lst []) := by simp
  have hl := e.wd_len
  have h3 : 2 ^ e.dp ≤ 2 ^ 20 := Nat.pow_le_pow_right (by omega) h2
  obtain ⟨y3, y4, q⟩ := due_loop (n := h.length) (m := m) (a0 := .val e.iv) hr e [] (h ++ [.lst []]) .emp .emp [] hg (by simp; omega) hv
  rw [List.append_nil] at q
  refine ⟨.lst [.int (e.ev d)], ?_⟩
  rw [r_law_due _ _ _ rfl]
  have e2 : (h ++ [MO.lst []]).set h.length (.lst ([] ++ [.int (e.ev d)])) = h ++ [.lst [.int (e.ev d)]] := by simp
  rw [e2] at q
  have w1 : ∀ h, run fns (m + 1) 5 [e.iv] h = .ok (.lst e.wd) h := fun h => words_ok e _ h h1 h2
  simp [b_law_due, w1, q, vIdx_ref (h := h ++ [MO.lst [.int (e.ev d)]]) (n := h.length) (xs := [.int (e.ev d)]) (by simp)]
/-- the heap with the well at w -/
def wl (h : MH) (w : Nat) (s a c : Int) : MH := h.set w (.lst [.int a, .int s, .int c])
theorem draw_wl {h : MH} {w : Nat} {s : Int} (hw : w < h.length) {b : Int} (hb : 0 < b) (hb2 : b < 1073741824) (n : Nat) (a c : Int) :
    ∃ r a' c', 0 ≤ r ∧ r < b ∧ run fns (n + 1) 3 [.ref w, .int b] (wl h w s a c) = .ok (.int r) (wl h w s a' c') := by
  obtain ⟨r, a', c', h1, h2, h3⟩ := draw_ok (h := wl h w s a c) (w := w) (a := a) (s := s) (c := c) (b := b) (by unfold wl; simp [hw]) hb hb2 n
  refine ⟨r, a', c', h1, h2, ?_⟩
  rw [h3]
  unfold wl
  rw [List.set_set]
theorem six_ok {r : Int} (h1 : 0 ≤ r) (h2 : r < 7) : ∃ w : Wd, atI [IV.str "+", .str "-", .str "=", .str "<", .str "and", .str "or", .str "-"] r = some (.str w.s) := by
  have : r = 0 ∨ r = 1 ∨ r = 2 ∨ r = 3 ∨ r = 4 ∨ r = 5 ∨ r = 6 := by omega
  rcases this with rfl | rfl | rfl | rfl | rfl | rfl | rfl
  · exact ⟨.pls, atI_nat (n := 0) rfl⟩
  · exact ⟨.mns, atI_nat (n := 1) rfl⟩
  · exact ⟨.eq, atI_nat (n := 2) rfl⟩
  · exact ⟨.lt, atI_nat (n := 3) rfl⟩
  · exact ⟨.and, atI_nat (n := 4) rfl⟩
  · exact ⟨.or, atI_nat (n := 5) rfl⟩
  · exact ⟨.mns, atI_nat (n := 6) rfl⟩
theorem expr_ok {h : MH} {w : Nat} {s : Int} (hw : w < h.length) {ns : List Str} (h0 : ns ≠ []) (hnl : ns.length < 1073741824) : ∀ (d n : Nat) (a c : Int),
    ∃ (ep : Ep) (a' c' : Int), run fns (n + d + 2) 4 [.ref w, .lst (ns.map .str), .int ((d : Int) + 1)] (wl h w s a c) = .ok ep.iv (wl h w s a' c') ∧ ep.dp ≤ d + 1 ∧ ep.Ok (fun x => x ∈ ns) := by
  have hl : 0 < ns.length := by cases ns with
    | nil => exact absurd rfl h0
    | cons x xs => simp
  intro d
  induction d with
  | zero =>
    intro n a c
    obtain ⟨r, a1, c1, r1, r2, e1⟩ := draw_wl (s := s) hw (b := 10) (by omega) (by omega) n a c
    obtain ⟨r3, a2, c2, r4, r5, e2⟩ := draw_wl (s := s) hw (b := 3) (by omega) (by omega) n a1 c1
    rw [r_law_expr _ _ _ rfl]
    by_cases hr : r3 = 0
    · obtain ⟨q, a3, c3, q1, q2, e3⟩ := draw_wl (s := s) hw (b := 10) (by omega) (by omega) n a2 c2
      refine ⟨.num q, a3, c3, ?_, Nat.le_refl _, ⟨q1, by omega⟩⟩
      simp [b_law_expr, e1, e2, hr, e3, Ep.iv]
    · obtain ⟨q, a3, c3, q1, q2, e3⟩ := draw_wl (s := s) hw (b := (ns.length : Int)) (by omega) (by omega) n a2 c2
      obtain ⟨j, rfl⟩ := Int.eq_ofNat_of_zero_le q1
      have hj : j < ns.length := by omega
      have e4 : atI (ns.map IV.str) (j : Int) = some (.str ns[j]) := atI_nat (by simp [hj])
      refine ⟨.var ns[j], a3, c3, ?_, Nat.le_refl _, List.getElem_mem hj⟩
      simp [b_law_expr, e1, e2, hr, e3, e4, Ep.iv]
  | succ d ih =>
    intro n a c
    obtain ⟨r, a1, c1, r1, r2, e1⟩ := draw_wl (s := s) hw (b := 10) (by omega) (by omega) (n + d + 1) a c
    have hd : ¬ ((d : Int) + 1 + 1 = 1) := by omega
    have hc : (((d + 1 : Nat) : Int) + 1) = (d : Int) + 1 + 1 := by omega
    have hs : (d : Int) + 1 + 1 - 1 = (d : Int) + 1 := by omega
    rw [hc, show n + (d + 1) + 2 = n + d + 2 + 1 from by omega, r_law_expr _ _ _ rfl]
    by_cases hr2 : r < 2
    · obtain ⟨r3, a2, c2, r4, r5, e2⟩ := draw_wl (s := s) hw (b := 3) (by omega) (by omega) (n + d + 1) a1 c1
      by_cases hr : r3 = 0
      · obtain ⟨q, a3, c3, q1, q2, e3⟩ := draw_wl (s := s) hw (b := 10) (by omega) (by omega) (n + d + 1) a2 c2
        refine ⟨.num q, a3, c3, ?_, by show 1 ≤ _; omega, ⟨q1, by omega⟩⟩
        simp [b_law_expr, e1, e2, hr, e3, Ep.iv, hd, hr2]
      · obtain ⟨q, a3, c3, q1, q2, e3⟩ := draw_wl (s := s) hw (b := (ns.length : Int)) (by omega) (by omega) (n + d + 1) a2 c2
        obtain ⟨j, rfl⟩ := Int.eq_ofNat_of_zero_le q1
        have hj : j < ns.length := by omega
        have e4 : atI (ns.map IV.str) (j : Int) = some (.str ns[j]) := atI_nat (by simp [hj])
        refine ⟨.var ns[j], a3, c3, ?_, by show 1 ≤ _; omega, List.getElem_mem hj⟩
        simp [b_law_expr, e1, e2, hr, e3, e4, Ep.iv, hd, hr2]
    · obtain ⟨x, a2, c2, e2, x1, x2⟩ := ih n a1 c1
      by_cases hr : r = 2
      · refine ⟨.not x, a2, c2, ?_, by show x.dp + 1 ≤ _; omega, x2⟩
        simp [b_law_expr, e1, e2, hr, Ep.iv, hd, hr2, hs]
      · obtain ⟨y, a3, c3, e3, y1, y2⟩ := ih n a2 c2
        obtain ⟨k, hk⟩ := six_ok (r := r - 3) (by omega) (by omega)
        refine ⟨.bin k x y, a3, c3, ?_, by show max x.dp y.dp + 1 ≤ _; omega, ⟨x2, y2⟩⟩
        simp [b_law_expr, e1, e2, e3, hr, Ep.iv, hd, hr2, hs, hk]
/-! the dicts -/
def five : List Str := ["x", "v", "num", "var", "abcdefgh"]
def fiveK : List Ky := [.inr "x", .inr "v", .inr "num", .inr "var", .inr "abcdefgh"]
def vals (v1 v2 v3 v4 v5 : Int) : List IV := [.int v1, .int v2, .int v3, .int v4, .int v5]
def look (ks : List Ky) (vs : List IV) (s : Str) : Int := match klook ks vs (.inr s) with
  | some (.int i) => i
  | _ => 0
theorem klook_mem : ∀ {ks : List Ky} {vs : List IV} {q : Ky} {v : IV}, klook ks vs q = some v → v ∈ vs
  | [], _, _, _, h => by cases h
  | _ :: _, [], _, _, h => by cases h
  | k :: ks, w :: vs, q, v, h => by
    unfold klook at h
    split at h
    · cases h; exact List.mem_cons_self
    · exact List.mem_cons_of_mem _ (klook_mem h)
theorem right_ok {v1 v2 v3 v4 v5 : Int} (b1 : 0 ≤ v1 ∧ v1 ≤ 9) (b2 : 0 ≤ v2 ∧ v2 ≤ 9) (b3 : 0 ≤ v3 ∧ v3 ≤ 9) (b4 : 0 ≤ v4 ∧ v4 ≤ 9) (b5 : 0 ≤ v5 ∧ v5 ≤ 9) (e : Ep) (n : Nat) (h : MH) (h1 : e.dp ≤ n + 1) (h2 : e.dp ≤ 20) (hv : e.Ok (fun s => s ∈ five)) :
    ∃ o, run fns (n + 3) 8 [e.iv, .dic fiveK (vals v1 v2 v3 v4 v5)] h = .ok (.bl true) (h ++ [o]) := by
  have hr : ∀ s, klook fiveK (vals v1 v2 v3 v4 v5) (.inr s) = some (.int (look fiveK (vals v1 v2 v3 v4 v5) s)) → 0 ≤ look fiveK (vals v1 v2 v3 v4 v5) s ∧ look fiveK (vals v1 v2 v3 v4 v5) s ≤ 9 := fun s hs => by
    have hm := klook_mem hs
    generalize look fiveK (vals v1 v2 v3 v4 v5) s = q at hm ⊢
    simp only [vals, List.mem_cons, IV.int.injEq, List.not_mem_nil, or_false] at hm
    omega
  have hk : ∀ s, s ∈ five → klook fiveK (vals v1 v2 v3 v4 v5) (.inr s) = some (.int (look fiveK (vals v1 v2 v3 v4 v5) s)) := fun s hs => by
    simp only [five, List.mem_cons, List.not_mem_nil, or_false] at hs
    rcases hs with rfl | rfl | rfl | rfl | rfl <;> simp [look, klook, fiveK, vals]
  have hv' := Ep.Ok.imp hk e hv
  obtain ⟨o, hd⟩ := due_ok hr e n h h1 h2 hv'
  refine ⟨o, ?_⟩
  have hn := number_ok e (n + 2) h (by omega) hv'
  rw [r_law_right _ _ _ rfl]
  have hq : ∀ h : MH, vEqR (.dic fiveK (vals v1 v2 v3 v4 v5)) (.dic fiveK (vals v1 v2 v3 v4 v5)) h = .ok (.bl true) h := fun h => by
    have : vEq h (.dic fiveK (vals v1 v2 v3 v4 v5)) (.dic fiveK (vals v1 v2 v3 v4 v5)) = some true := by
      unfold vEq dEq
      have e1 : pd h deep (.dic fiveK (vals v1 v2 v3 v4 v5)) = none := rfl
      rw [e1]
      simp [hits, klook, fiveK, vals, flatEq]
    unfold vEqR
    rw [this]
  have hc : bDict [.dic fiveK (vals v1 v2 v3 v4 v5)] h = .ok (.dic fiveK (vals v1 v2 v3 v4 v5)) h := rfl
  simp [b_law_right, hc, hn, hd, hq, isTy]
/-! the law -/
theorem names_ok {h : MH} {w : Nat} {s : Int} {σ : Sg} {n : Nat} (hw : w < h.length) (h4 : σ[4]? = some (.val (.ref w))) (h11 : 11 < σ.length) : ∀ (ns : List Str) (a c : Int), ∃ (rs : List Int) (a' c' : Int), rs.length = ns.length ∧ (∀ r ∈ rs, 0 ≤ r ∧ r ≤ 9) ∧
    loopC (Mi.gName 11) Mi.tYes (mTup [(mVar 11), (mCall (run fns (n + 1)) 3 [(mVar 4), (mLit (.int 10))])]) [11] (ns.map .str) σ (wl h w s a c) = .ok (List.zipWith (fun x r => .tup [.str x, .int r]) ns rs) (wl h w s a' c')
  | [], a, c => ⟨[], a, c, rfl, by simp, rfl⟩
  | x :: ns, a, c => by
    obtain ⟨r, a1, c1, r1, r2, e1⟩ := draw_wl (s := s) hw (b := 10) (by omega) (by omega) n a c
    obtain ⟨rs, a2, c2, l1, l2, e2⟩ := names_ok hw h4 h11 ns a1 c1
    refine ⟨r :: rs, a2, c2, by simp [l1], fun q hq => ?_, ?_⟩
    · rcases List.mem_cons.mp hq with rfl | hq
      · exact ⟨r1, by omega⟩
      · exact l2 q hq
    · rw [List.map_cons, loopC_yes (σ1 := (σ.set 11 .emp).set 11 (.val (.str x))) (h1 := wl h w s a c) (h2 := wl h w s a1 c1) (w := .tup [.str x, .int r]) rfl rfl, e2]
      · rfl
      · have g11 : (σ.set 11 (.val (.str x)))[11]? = some (.val (.str x)) := by simp [h11]
        simp [h4, g11, e1]
theorem dict_ok {rs : List Int} (hl : rs.length = 5) (hr : ∀ r ∈ rs, 0 ≤ r ∧ r ≤ 9) (h : MH) : ∃ v1 v2 v3 v4 v5 : Int, (0 ≤ v1 ∧ v1 ≤ 9) ∧ (0 ≤ v2 ∧ v2 ≤ 9) ∧ (0 ≤ v3 ∧ v3 ≤ 9) ∧ (0 ≤ v4 ∧ v4 ≤ 9) ∧ (0 ≤ v5 ∧ v5 ≤ 9) ∧
    bDict [.lst (List.zipWith (fun x r => .tup [.str x, .int r]) five rs)] h = .ok (.dic fiveK (vals v1 v2 v3 v4 v5)) h := by
  match rs, hl with
  | [v1, v2, v3, v4, v5], _ =>
    refine ⟨v1, v2, v3, v4, v5, hr _ (by simp), hr _ (by simp), hr _ (by simp), hr _ (by simp), hr _ (by simp), ?_⟩
    simp [bDict, five, asPairs, asD, kmerge, kput, fiveK, vals]
def Sh (σ : Sg) : Prop := ∃ x0 x2 x3 x4 x5 x6 x7 x8 x9 x10 x11, σ = [x0, .val (.lst (five.map .str)), x2, x3, x4, x5, x6, x7, x8, x9, x10, x11]
theorem cut_ok {r : Int} (h1 : 0 ≤ r) (h2 : r < 5) : ∃ ns : List Str, ns ≠ [] ∧ ns.length < 1073741824 ∧ (∀ x ∈ ns, x ∈ five) ∧ cutI (five.map IV.str) none (some (1 + r)) = ns.map .str := by
  have : r = 0 ∨ r = 1 ∨ r = 2 ∨ r = 3 ∨ r = 4 := by omega
  rcases this with rfl | rfl | rfl | rfl | rfl
  · exact ⟨["x"], by simp, by simp, by simp [five], by simp [cutI, sIx, five]⟩
  · exact ⟨["x", "v"], by simp, by simp, by simp [five], by simp [cutI, sIx, five]⟩
  · exact ⟨["x", "v", "num"], by simp, by simp, by simp [five], by simp [cutI, sIx, five]⟩
  · exact ⟨["x", "v", "num", "var"], by simp, by simp, by simp [five], by simp [cutI, sIx, five]⟩
  · exact ⟨["x", "v", "num", "var", "abcdefgh"], by simp, by simp, by simp [five], by simp [cutI, sIx, five]⟩
theorem dicts_loop {n : Nat} {ep : Ep} (h1 : ep.dp ≤ n + 1) (h2 : ep.dp ≤ 20) (hv : ep.Ok (fun s => s ∈ five)) {x0 x2 x3 x4 x6 x8 x9 x10 x11 : SV} : ∀ (l : List IV) (x7 : SV) (h : MH), (∀ v ∈ l, ∃ v1 v2 v3 v4 v5 : Int, (0 ≤ v1 ∧ v1 ≤ 9) ∧ (0 ≤ v2 ∧ v2 ≤ 9) ∧ (0 ≤ v3 ∧ v3 ≤ 9) ∧ (0 ≤ v4 ∧ v4 ≤ 9) ∧ (0 ≤ v5 ∧ v5 ≤ 9) ∧ v = .dic fiveK (vals v1 v2 v3 v4 v5)) →
    ∃ y7 h', loopF (Mi.gName 7) (llaw_5 (run fns (n + 3))) l [x0, .val (.lst (five.map .str)), x2, x3, x4, .val ep.iv, x6, x7, x8, x9, x10, x11] h = .nx [x0, .val (.lst (five.map .str)), x2, x3, x4, .val ep.iv, x6, y7, x8, x9, x10, x11] h'
  | [], x7, h, _ => ⟨x7, h, rfl⟩
  | v :: l, x7, h, hl => by
    obtain ⟨v1, v2, v3, v4, v5, b1, b2, b3, b4, b5, rfl⟩ := hl v List.mem_cons_self
    obtain ⟨o, e⟩ := right_ok b1 b2 b3 b4 b5 ep n h h1 h2 hv
    obtain ⟨y7, h', q⟩ := dicts_loop h1 h2 hv l (.val (.dic fiveK (vals v1 v2 v3 v4 v5))) (h ++ [o]) (fun v hv => hl v (List.mem_cons_of_mem _ hv))
    refine ⟨y7, h', ?_⟩
    rw [loop_nx (σ1 := [x0, .val (.lst (five.map .str)), x2, x3, x4, .val ep.iv, x6, .val (.dic fiveK (vals v1 v2 v3 v4 v5)), x8, x9, x10, x11]) rfl (by simp [llaw_5, e]; exact ⟨rfl, rfl⟩), q]
theorem cell_loop : ∀ (l : List Int) (σ : Sg) (h : MH), Sh σ → ∃ σ' h', Sh σ' ∧ loopF (Mi.gName 2) (llaw_4 (run fns 59)) (l.map .int) σ h = .nx σ' h'
  | [], σ, h, hσ => ⟨σ, h, hσ, rfl⟩
  | i :: l, σ, h, hσ => by
    obtain ⟨x0, x2, x3, x4, x5, x6, x7, x8, x9, x10, x11, rfl⟩ := hσ
    have wel : ∃ a s c, run fns 59 2 [.int i] h = .ok (.ref h.length) (h ++ [.lst [.int a, .int s, .int c]]) := by
      refine ⟨if i - 1000000000 > 0 then i - 1000000000 else 0, i % 2147483647, 0, ?_⟩
      rw [r_law_well _ _ _ rfl]
      have pw : ∀ h, vPow (.int 10) (.int 9) h = .ok (.int 1000000000) h := fun h => rfl
      simp [b_law_well, pw, vMod_int (k := 2147483647) (by omega)]
    obtain ⟨a, s, c, ew⟩ := wel
    have eh : h ++ [.lst [.int a, .int s, .int c]] = wl (h ++ [.lst []]) h.length s a c := by unfold wl; simp
    rw [eh] at ew
    have hw : h.length < (h ++ [MO.lst []]).length := by simp
    obtain ⟨r, a1, c1, r1, r2, e1⟩ := draw_wl (s := s) hw (b := 5) (by omega) (by omega) 58 a c
    obtain ⟨q, a2, c2, q1, q2, e2⟩ := draw_wl (s := s) hw (b := 5) (by omega) (by omega) 58 a1 c1
    obtain ⟨ns, n1, n2, n3, n4⟩ := cut_ok r1 r2
    obtain ⟨d, rfl⟩ := Int.eq_ofNat_of_zero_le q1
    obtain ⟨ep, a3, c3, e3, p1, p2⟩ := expr_ok (s := s) hw n1 n2 d (57 - d) a2 c2
    rw [show 57 - d + d + 2 = 59 from by omega] at e3
    have hv := Ep.Ok.imp n3 ep p2
    have e4 : cutI (five.map IV.str) none (some (1 + r)) = ns.map .str := n4
    have dc : (1 : Int) + d = (d : Int) + 1 := by omega
    -- the two dicts
    have comp : ∃ v1 v2 v3 v4 v5 u1 u2 u3 u4 u5 a' c' : Int, ((0 ≤ v1 ∧ v1 ≤ 9) ∧ (0 ≤ v2 ∧ v2 ≤ 9) ∧ (0 ≤ v3 ∧ v3 ≤ 9) ∧ (0 ≤ v4 ∧ v4 ≤ 9) ∧ (0 ≤ v5 ∧ v5 ≤ 9)) ∧ ((0 ≤ u1 ∧ u1 ≤ 9) ∧ (0 ≤ u2 ∧ u2 ≤ 9) ∧ (0 ≤ u3 ∧ u3 ≤ 9) ∧ (0 ≤ u4 ∧ u4 ≤ 9) ∧ (0 ≤ u5 ∧ u5 ≤ 9)) ∧
        mComp (iRange1 (mLit (.int 2))) (Mi.gName 10) Mi.tYes (mB bDict [(mComp (iSeq (mVar 1)) (Mi.gName 11) Mi.tYes (mTup [(mVar 11), (mCall (run fns 59) 3 [(mVar 4), (mLit (.int 10))])]) [11])]) [10] [x0, .val (.lst (five.map .str)), .val (.int i), x3, .val (.ref h.length), .val ep.iv, x6, x7, x8, x9, x10, x11] (wl (h ++ [.lst []]) h.length s a3 c3) =
          .ok (.lst [.dic fiveK (vals v1 v2 v3 v4 v5), .dic fiveK (vals u1 u2 u3 u4 u5)]) (wl (h ++ [.lst []]) h.length s a' c') := by
      have one : ∀ (k : Int) (y10 : SV) (a c : Int), ∃ v1 v2 v3 v4 v5 a' c' : Int, (0 ≤ v1 ∧ v1 ≤ 9) ∧ (0 ≤ v2 ∧ v2 ≤ 9) ∧ (0 ≤ v3 ∧ v3 ≤ 9) ∧ (0 ≤ v4 ∧ v4 ≤ 9) ∧ (0 ≤ v5 ∧ v5 ≤ 9) ∧ mB bDict [(mComp (iSeq (mVar 1)) (Mi.gName 11) Mi.tYes (mTup [(mVar 11), (mCall (run fns 59) 3 [(mVar 4), (mLit (.int 10))])]) [11])] [x0, .val (.lst (five.map .str)), .val (.int i), x3, .val (.ref h.length), .val ep.iv, x6, x7, x8, x9, y10, x11] (wl (h ++ [.lst []]) h.length s a c) = .ok (.dic fiveK (vals v1 v2 v3 v4 v5)) (wl (h ++ [.lst []]) h.length s a' c') := by
        intro k y10 a c
        obtain ⟨rs, a', c', l1, l2, e⟩ := names_ok (s := s) (n := 58) (σ := [x0, .val (.lst (five.map .str)), .val (.int i), x3, .val (.ref h.length), .val ep.iv, x6, x7, x8, x9, y10, x11]) hw rfl (by simp) five a c
        obtain ⟨v1, v2, v3, v4, v5, b1, b2, b3, b4, b5, e'⟩ := dict_ok (rs := rs) (by rw [l1]; rfl) l2 (wl (h ++ [.lst []]) h.length s a' c')
        refine ⟨v1, v2, v3, v4, v5, a', c', b1, b2, b3, b4, b5, ?_⟩
        rw [mB_ap, mAll_cons, mComp_ap, iSeq_ap, mVar_ap]
        simp only [List.getElem?_cons_succ, List.getElem?_cons_zero, R.bind_ok]
        rw [e]
        simp only [R.bind_ok, mAll_nil]
        exact e'
      obtain ⟨v1, v2, v3, v4, v5, a4, c4, b1, b2, b3, b4, b5, k1⟩ := one 0 (.val (.int 0)) a3 c3
      obtain ⟨u1, u2, u3, u4, u5, a5, c5, g1, g2, g3, g4, g5, k2⟩ := one 1 (.val (.int 1)) a4 c4
      refine ⟨v1, v2, v3, v4, v5, u1, u2, u3, u4, u5, a5, c5, ⟨b1, b2, b3, b4, b5⟩, ⟨g1, g2, g3, g4, g5⟩, ?_⟩
      have er : rng 0 2 = [.int 0, .int 1] := rfl
      rw [mComp_ap, iRange1_ap, mLit_ap]
      simp only [R.bind_ok]
      rw [if_pos (by omega)]
      simp only [R.bind_ok, show (2 : Int).toNat = 2 from rfl, er]
      rw [loopC_yes (σ1 := [x0, .val (.lst (five.map .str)), .val (.int i), x3, .val (.ref h.length), .val ep.iv, x6, x7, x8, x9, .val (.int 0), x11]) (by simp) (by simp) k1,
        loopC_yes (σ1 := [x0, .val (.lst (five.map .str)), .val (.int i), x3, .val (.ref h.length), .val ep.iv, x6, x7, x8, x9, .val (.int 1), x11]) (by simp) (by simp) k2]
      simp
    obtain ⟨v1, v2, v3, v4, v5, u1, u2, u3, u4, u5, a4, c4, ⟨b1, b2, b3, b4, b5⟩, ⟨g1, g2, g3, g4, g5⟩, ec⟩ := comp
    obtain ⟨y7, h', ed⟩ := dicts_loop (n := 56) (ep := ep) (by omega) (by omega) hv (x0 := x0) (x2 := .val (.int i)) (x3 := x3) (x4 := .val (.ref h.length)) (x6 := .val (.lst [.dic fiveK (vals v1 v2 v3 v4 v5), .dic fiveK (vals u1 u2 u3 u4 u5)])) (x8 := x8) (x9 := x9) (x10 := x10) (x11 := x11)
      [.dic fiveK (vals v1 v2 v3 v4 v5), .dic fiveK (vals u1 u2 u3 u4 u5), .dic fiveK (vals v1 v2 v3 v4 v5)] x7 (wl (h ++ [.lst []]) h.length s a4 c4) (fun v hv => by
        simp only [List.mem_cons, List.not_mem_nil, or_false] at hv
        rcases hv with rfl | rfl | rfl
        · exact ⟨_, _, _, _, _, b1, b2, b3, b4, b5, rfl⟩
        · exact ⟨_, _, _, _, _, g1, g2, g3, g4, g5, rfl⟩
        · exact ⟨_, _, _, _, _, b1, b2, b3, b4, b5, rfl⟩)
    obtain ⟨σ', h2, s2, ef⟩ := cell_loop l [x0, .val (.lst (five.map .str)), .val (.int i), x3, .val (.ref h.length), .val ep.iv, .val (.lst [.dic fiveK (vals v1 v2 v3 v4 v5), .dic fiveK (vals u1 u2 u3 u4 u5)]), y7, x8, x9, x10, x11] h' ⟨_, _, _, _, _, _, _, _, _, _, _, rfl⟩
    refine ⟨σ', h2, s2, ?_⟩
    rw [List.map_cons, loop_nx (σ1 := [x0, .val (.lst (five.map .str)), .val (.int i), x3, x4, x5, x6, x7, x8, x9, x10, x11]) rfl ?_, ef]
    unfold llaw_4
    simp [ew, e1, e2, e3, e4, dc, -mComp_ap, -mB_ap]
    rw [ec]
    simp [vAdd_lst]
    rw [ed]
/-! the words that take two -/
theorem two_ok (w : Wd) {x y : Int} (hx : 0 ≤ x ∧ x ≤ 9) (hy : 0 ≤ y ∧ y ≤ 9) (h : MH) : run fns 59 0 [.tup [.str w.s, .tup [.str "num", .int x], .tup [.str "var", .str "x"]], .dic [.inr "x"] [.int y]] h = .ok (.int (w.f x y)) h := by
  have e := number_ok (ks := [.inr "x"]) (vs := [.int y]) (d := fun _ => y) (.bin w (.num x) (.var "x")) 59 h (by simp [Ep.dp]) ⟨hx, by simp [Ep.Ok, klook]⟩
  exact e
theorem w_loop {x0 x1 x2 x4 x5 x6 x7 x10 x11 : SV} {x y : Int} (hx : 0 ≤ x ∧ x ≤ 9) (hy : 0 ≤ y ∧ y ≤ 9) : ∀ (l : List Wd) (x9 : SV) (h : MH), ∃ y9,
    loopF (Mi.gName 9) (llaw_3 (run fns 59)) (l.map fun w => .str w.s) [x0, x1, x2, .val (.int x), x4, x5, x6, x7, .val (.int y), x9, x10, x11] h = .nx [x0, x1, x2, .val (.int x), x4, x5, x6, x7, .val (.int y), y9, x10, x11] h
  | [], x9, h => ⟨x9, rfl⟩
  | w :: l, x9, h => by
    obtain ⟨y9, e⟩ := w_loop hx hy l (.val (.str w.s)) h
    refine ⟨y9, ?_⟩
    rw [List.map_cons, loop_nx (σ1 := [x0, x1, x2, .val (.int x), x4, x5, x6, x7, .val (.int y), .val (.str w.s), x10, x11]) (σ2 := [x0, x1, x2, .val (.int x), x4, x5, x6, x7, .val (.int y), .val (.str w.s), x10, x11]) (h2 := h) rfl ?_, e]
    have e2 := two_ok w hx hy h
    have e3 : run fns 59 6 [.str w.s, .int x, .int y] h = .ok (.int (w.f x y)) h := paired_ok w hx hy 58 h
    simp [llaw_3, kmerge, kput, e2, e3]
theorem o_loop {x0 x1 x2 x4 x5 x6 x7 x10 x11 : SV} {x : Int} (hx : 0 ≤ x ∧ x ≤ 9) : ∀ (l : List Int) (x8 x9 : SV) (h : MH), (∀ y ∈ l, 0 ≤ y ∧ y ≤ 9) → ∃ y8 y9,
    loopF (Mi.gName 8) (llaw_2 (run fns 59)) (l.map .int) [x0, x1, x2, .val (.int x), x4, x5, x6, x7, x8, x9, x10, x11] h = .nx [x0, x1, x2, .val (.int x), x4, x5, x6, x7, y8, y9, x10, x11] h
  | [], x8, x9, h, _ => ⟨x8, x9, rfl⟩
  | y :: l, x8, x9, h, hl => by
    obtain ⟨z9, e1⟩ := w_loop hx (hl y List.mem_cons_self) (x0 := x0) (x1 := x1) (x2 := x2) (x4 := x4) (x5 := x5) (x6 := x6) (x7 := x7) (x10 := x10) (x11 := x11) [.pls, .mns, .eq, .lt, .and, .or] x9 h
    obtain ⟨y8, y9, e⟩ := o_loop hx l (.val (.int y)) z9 h (fun y hy => hl y (List.mem_cons_of_mem _ hy))
    refine ⟨y8, y9, ?_⟩
    rw [List.map_cons, loop_nx (σ1 := [x0, x1, x2, .val (.int x), x4, x5, x6, x7, .val (.int y), x9, x10, x11]) (σ2 := [x0, x1, x2, .val (.int x), x4, x5, x6, x7, .val (.int y), z9, x10, x11]) (h2 := h) rfl ?_, e]
    simp only [List.map_cons, List.map_nil, Wd.s] at e1
    simp [llaw_2, e1]
theorem x_loop {x0 x1 x2 x4 x5 x6 x7 x10 x11 : SV} : ∀ (l : List Int) (x3 x8 x9 : SV) (h : MH), (∀ y ∈ l, 0 ≤ y ∧ y ≤ 9) → ∃ σ',
    loopF (Mi.gName 3) (llaw_1 (run fns 59)) (l.map .int) [x0, x1, x2, x3, x4, x5, x6, x7, x8, x9, x10, x11] h = .nx σ' h
  | [], x3, x8, x9, h, _ => ⟨_, rfl⟩
  | x :: l, x3, x8, x9, h, hl => by
    have hx := hl x List.mem_cons_self
    obtain ⟨y8, y9, e1⟩ := o_loop hx (x0 := x0) (x1 := x1) (x2 := x2) (x4 := x4) (x5 := x5) (x6 := x6) (x7 := x7) (x10 := x10) (x11 := x11) [0, 1, 2, 5, 9] x8 x9 h (by simp)
    obtain ⟨σ', e⟩ := x_loop l (.val (.int x)) y8 y9 h (fun y hy => hl y (List.mem_cons_of_mem _ hy))
    refine ⟨σ', ?_⟩
    rw [List.map_cons, loop_nx (σ1 := [x0, x1, x2, .val (.int x), x4, x5, x6, x7, x8, x9, x10, x11]) (σ2 := [x0, x1, x2, .val (.int x), x4, x5, x6, x7, y8, y9, x10, x11]) (h2 := h) rfl ?_, e]
    have e2 := number_ok (ks := []) (vs := []) (d := fun _ => 0) (.not (.num x)) 59 h (by simp [Ep.dp]) hx
    have e3 : run fns 59 0 [.tup [.str "not", .tup [.str "num", .int x]], .dic [] []] h = .ok (.int (if x = 0 then 1 else 0)) h := e2
    simp only [List.map_cons, List.map_nil] at e1
    simp [llaw_1, kmerge, e3, e1]
theorem law_true (ns : List Int) (hl : ns.length ≤ 63) : ∃ h', run fns 60 9 [.lst (ns.map .int)] [] = .ok (.bl true) h' := by
  have e0 : ∃ i, run fns 59 1 [.lst (ns.map .int), .int 0] [] = .ok (.int i) [] := by
    rw [r_law_cell_at 58 _ _ rfl]
    cases ns with
    | nil => exact ⟨0, by simp [b_law_cell_at]⟩
    | cons i ns => exact ⟨i, by simp [b_law_cell_at]⟩
  obtain ⟨i, e0⟩ := e0
  have ec : ∃ l : List Int, l.length ≤ 12 ∧ cutI (ns.map IV.int) (some 1) (some 12) = l.map IV.int := by
    refine ⟨(ns.drop (sIx ns.length 0 (some 1))).take (sIx ns.length ns.length (some 12) - sIx ns.length 0 (some 1)), ?_, ?_⟩
    · rw [List.length_take]
      have : sIx ns.length ns.length (some 12) ≤ 12 := by simp only [sIx]; rw [if_neg (by omega)]; exact Nat.min_le_left _ _
      omega
    · unfold cutI
      rw [List.length_map, List.map_take, List.map_drop]
  obtain ⟨l, hl2, ec⟩ := ec
  obtain ⟨σ', h1, s1, e1⟩ := cell_loop (i :: l) [.val (.lst (ns.map .int)), .val (.lst (five.map .str)), .emp, .emp, .emp, .emp, .emp, .emp, .emp, .emp, .emp, .emp] [] ⟨_, _, _, _, _, _, _, _, _, _, _, rfl⟩
  obtain ⟨x0, x2, x3, x4, x5, x6, x7, x8, x9, x10, x11, rfl⟩ := s1
  obtain ⟨σ2, e2⟩ := x_loop (x0 := x0) (x1 := .val (.lst (five.map .str))) (x2 := x2) (x4 := x4) (x5 := x5) (x6 := x6) (x7 := x7) (x10 := x10) (x11 := x11) [0, 1, 2, 5, 9] x3 x8 x9 h1 (by simp)
  refine ⟨h1, ?_⟩
  rw [rlaw 59 _ _ rfl]
  have ef : [IV.str "x", IV.str "v", IV.str "num", IV.str "var", IV.str "abcdefgh"] = five.map IV.str := rfl
  have ev : vAdd (.lst [.int i]) (.lst (l.map IV.int)) [] = .ok (.lst ((i :: l).map IV.int)) [] := by
    rw [vAdd_lst (by simp; omega)]
    rfl
  simp only [List.map_cons, List.map_nil] at e2
  simp only [List.map_cons] at e1 ev
  simp [blaw, ef, e0, ec, ev, e1, e2]
end L02
set_option linter.all false
set_option Elab.async false
set_option maxRecDepth 100000
set_option maxHeartbeats 0
namespace L02
open PySem PySem.Spec PyProof.Rows L2 Mi
/-! ### the head -/
abbrev R : PySem.W.OpenRow := PySem.W.OpenLaw.row PySem.Challenge.rw_strongboxes_k02_numbers_of_expressions
abbrev hk : PySem.W.Hook := hookE 4 (faOf dfs b_names) (dfs.map Df.d) c_vals
def ob (s : PySem.W.SharedT) : AlE := obsEG 4 (faOf dfs b_names) (dfs.map Df.d) c_vals (HandSHeadRun.getT s)
theorem ob_eq (s : PySem.W.SharedT) : ob s = hk.obs s.abs := obsEG_eq (HandSHeadRun.getT_eq s)
def loose : List PySem.Str := ["MOST_NUMBER", "number_of", "_law_cell_at", "_law_well", "_law_draw", "_law_expr", "_law_words", "_law_paired", "_law_due", "_law_right"]
theorem hrun (w : World) : HandSHeadRun.RunEq R (PySem.W.view R.prog [12]) hk ob 1500 loose w := by
  intro os
  kernel_rfl

end L02
set_option linter.all false
set_option Elab.async false
set_option maxRecDepth 100000
set_option maxHeartbeats 0
open PySem PySem.W PySem.Calls PyProof.Rows Mi
theorem PySem.Challenge.cw_strongboxes_k02_numbers_of_expressions_holds : PySem.Challenge.rw_strongboxes_k02_numbers_of_expressions.Holds := by
  w_on; o_law
  refine HandSHeadRun.head_any (r := OpenLaw.row PySem.Challenge.rw_strongboxes_k02_numbers_of_expressions) (q := view (OpenLaw.row PySem.Challenge.rw_strongboxes_k02_numbers_of_expressions).prog [12]) (H := L02.hk) (ob := L02.ob) (M := 1500) (loose := L02.loose) (d := HandSHeadRun.topDef (OpenLaw.row PySem.Challenge.rw_strongboxes_k02_numbers_of_expressions).prog 12) (kwd := []) L02.ob_eq
    (by kernel_rfl) (fun s => by kernel_rfl) L02.hrun (by kernel_rfl) (by kernel_rfl) (by kernel_rfl) (by rfl) (by first | assumption | decide +kernel) (by decide +kernel) ⟨rfl, rfl, rfl, rfl, rfl, by decide +kernel⟩ ?hw ?hc
  case hw => w_witness2
  case hc =>
    refine Mi.walk_w (l := PySem.Challenge.rw_strongboxes_k02_numbers_of_expressions) (n := 63) (k := 60) (x := "_law_script") rfl (by decide) (by kernel_rfl) ⟨rfl, by decide, by decide⟩ ?F
    intro w mg fa h Y G hmg0
    obtain ⟨K, KX, c⟩ := Y
    have hmg : mg ("law" : PySem.Str) = some (.ref fa) := by
      have e : (HandSHeadRun.topDef (OpenLaw.row PySem.Challenge.rw_strongboxes_k02_numbers_of_expressions).prog 12).name = ("law" : PySem.Str) := by kernel_rfl
      rw [← e]
      exact hmg0
    obtain ⟨fd, sp, h1, h2, h3⟩ := Mi.law_F (κ := ⟨K, fun _ => 0⟩) (P := (PySem.Challenge.rw_strongboxes_k02_numbers_of_expressions).prog) (w := w) (k := 60) (li := 9) KX G c L02.gon L02.oall (d := L02.dlaw) rfl hmg rfl rfl (fun fd F s v => L2.FunD.bindsA (ps := ["_law_script"]) F (fun _ _ _ _ _ _ us hl => match us, hl with | [_], _ => rfl) s [v] rfl) L02.law_true
    exact ⟨K, fd, sp, KX, h1, h2, h3⟩
