import PyProof.Rows.All
import Wide.All
import OpenK.AllK
import Wide.FinOn
import HandS.ForMost
import HandS.ForExc
import HandS.Wide
import HandS.Lambda
import HandS.Nested
import HandS.IsInst
import HandS.RaiseMore
import PyProof.StrBlock2
import HandS.ListItems
import HandS.Defaults
import HandS.Zip
import HandS.Rev
import HandS.Style
import HandS.ExcField
import HandS.ExcOwn
import KE.KExcIs
import HandS.ExcIs
import HandS.ExcInit
import KE.KExcSuper
import KE.KSuper
import HandS.HeadWalk
import HandS.HeadHook1
import HandS.HeadHook2
import HandS.HeadHook3
import HandS.HeadHook4
import HandS.HeadEnd
import HandS.Head2
import HandS.Iter
import KE.GoesEnum
import PySem.Challenge.RW_allruns_k88_values_written
section
/-! Ir: a small language of values, expressions and statements with a plain evaluator (own text). -/
set_option Elab.async false
set_option linter.all false
set_option maxRecDepth 100000
namespace AR
open PySem L2

/-! ### values -/
/-- a value: tuples by content, what may change by its number -/
inductive D where
  | non | bl (b : Bool) | int (i : Int) | str (s : Str) | tup (xs : List D) | ref (n : Nat)

/-- what a slot holds: a value, or a function made on the way (its number, what it captured) -/
inductive SV where
  | d (x : D)
  | clo (i : Nat) (caps : List SV)

/-- what stands at a number: a list, a list that is only read, a dict, an error -/
inductive HOb where
  | lst (xs : List D)
  | rol (xs : List D)
  | dct (kvs : List (Key × D))
  | exc (c : Nat) (fs : List (Str × D))

abbrev Hm := List HOb
/-- an error that flies: its class, its fields -/
structure Exn where
  cls : Nat
  fs : List (Str × D)

inductive R (α : Type) where
  | ok (a : α) (h : Hm)
  | exc (x : Exn) (h : Hm)
  | stuck
abbrev Env := List (Option SV)

def R.bind {α β : Type} (r : R α) (f : α → Hm → R β) : R β :=
  match r with
  | .ok a h => f a h
  | .exc x h => .exc x h
  | .stuck => .stuck

/-! ### operations on values -/
inductive Ty where
  | non | str | int | bool | tuple | list | dict | err (c : Nat)
  deriving DecidableEq

inductive Op where
  -- two places
  | add | sub | mul | fdiv | mod | pow
  | eq | ne | lt | le | gt | ge | isin | notin
  | ix
  -- one place
  | neg | len | abs | int | str | isNon | notNon | isTrue | notTrue | isFalse | notFalse
  | isi (ts : List Ty)
  | isErr (cs : List (Nat × Bool))
  | eqNil | neNil
  | all | any | tupleOf | listOf | items
  -- slices: lo, hi, both, none
  | slL | slH | slB | slN | asInt
  -- methods
  | append | extend | pop | popAt | join | get | getD
  -- displays
  | tup | lst
  | min
  | fld (f : Str) (cs : List Nat)

/-- a value as plain data, k deep -/
def mapO {α β : Type} (f : α → Option β) : List α → Option (List β)
  | [] => some []
  | x :: xs => match f x, mapO f xs with
    | some y, some ys => some (y :: ys)
    | _, _ => none
def toP (h : Hm) : Nat → D → Option PyData
  | _, .non => some .none
  | _, .bl b => some (.bool b)
  | _, .int i => some (.int i)
  | _, .str s => some (.str s)
  | k + 1, .tup xs => (mapO (toP h k) xs).map .tuple
  | k + 1, .ref n => match h[n]? with
    | some (.lst xs) => (mapO (toP h k) xs).map .list
    | some (.rol xs) => (mapO (toP h k) xs).map .list
    | _ => none
  | 0, .tup _ => none
  | 0, .ref _ => none
def eqP (h : Hm) (a b : D) : Option Bool :=
  match toP h 64 a, toP h 64 b with
  | some x, some y => if SeqAt.shaped x = true ∧ SeqAt.shaped y = true then some (PyData.eqv x y) else none
  | _, _ => none

def tyOf (h : Hm) : D → Option Ty
  | .non => some .non
  | .bl _ => some .bool
  | .int _ => some .int
  | .str _ => some .str
  | .tup _ => some .tuple
  | .ref n => match h[n]? with
    | some (.lst _) => some .list
    | some (.rol _) => some .list
    | some (.dct _) => some .dict
    | some (.exc c _) => some (.err c)
    | none => none

/-- new things -/
def newH (h : Hm) (o : HOb) : R D := .ok (.ref h.length) (h ++ [o])
def newL (h : Hm) (xs : List D) : R D := if xs.length ≤ sizeLine then newH h (.lst xs) else .stuck
def newT (h : Hm) (xs : List D) : R D := if xs.length ≤ sizeLine then .ok (.tup xs) h else .stuck

def asB (h : Hm) (o : Option Bool) : R D := match o with
  | some b => .ok (.bl b) h
  | none => .stuck
/-- the items of a list or a tuple -/
def seqOf (h : Hm) : D → Option (List D)
  | .tup xs => some xs
  | .ref n => match h[n]? with
    | some (.lst xs) => some xs
    | some (.rol xs) => some xs
    | _ => none
  | _ => none
def seqLT (h : Hm) : D → Option (List D)
  | .tup xs => some xs
  | .ref n => match h[n]? with
    | some (.lst xs) => some xs
    | _ => none
  | _ => none
def flatD : D → Bool
  | .non => true
  | .bl _ => true
  | .int _ => true
  | .str _ => true
  | _ => false
def eqFlat : D → D → Bool
  | .non, .non => true
  | .bl a, .bl b => a == b
  | .bl a, .int b => (if a then 1 else 0) == b
  | .int a, .bl b => a == (if b then 1 else 0)
  | .int a, .int b => a == b
  | .str a, .str b => a == b
  | _, _ => false
/-- x in xs -/
def inSeq (x : D) (xs : List D) : Option Bool := if flatD x = true ∧ xs.all flatD = true then some (xs.any fun y => eqFlat y x) else none
def signOf : D → Option Nat
  | .str s => match s.cps.toList with
    | [c] => some c
    | _ => none
  | _ => none
def txtOf : D → Option Str
  | .str s => some s
  | _ => none
def isInD (h : Hm) (x y : D) : Option Bool := match txtOf y with
  | some z => match signOf x with
    | some c => some (decide (c ∈ z.cps.toList))
    | none => none
  | none => match seqOf h y with
    | some xs => inSeq x xs
    | none => none
def keyOf : D → Option Key
  | .int i => some (.inl i)
  | .str s => some (.inr s)
  | _ => none
def valD (kvs : List (Key × D)) (k : Key) : Option D := (kvs.find? fun kv => decide (kv.1 = k)).map (·.2)
def putD (kvs : List (Key × D)) (k : Key) (v : D) : List (Key × D) :=
  if (kvs.any fun kv => decide (kv.1 = k)) = true then kvs.map (fun kv => if kv.1 = k then (kv.1, v) else kv) else kvs ++ [(k, v)]
def mergeD (kvs more : List (Key × D)) : List (Key × D) := more.foldl (fun acc kv => putD acc kv.1 kv.2) kvs
def dOfKey : Key → D
  | .inl i => .int i
  | .inr s => .str s
def okO {α : Type} (h : Hm) (o : Option α) (f : α → D) : R D := match o with
  | some a => .ok (f a) h
  | none => .stuck
def bools : List D → Option (List Bool)
  | [] => some []
  | .bl b :: r => (bools r).map (b :: ·)
  | _ :: _ => none
def txts : List D → Option (List Str)
  | [] => some []
  | .str b :: r => (txts r).map (b :: ·)
  | _ :: _ => none
def cutD (xs : List D) (lo hi : Option Int) : List D := (xs.drop (HT.sIx xs.length 0 lo)).take (HT.sIx xs.length xs.length hi - HT.sIx xs.length 0 lo)
def slD (h : Hm) (x : D) (lo hi : Option Int) : R D := match x with
  | .str z => if z.length ≤ sizeLine then .ok (.str (cutS z lo hi)) h else .stuck
  | .tup xs => if HT.sIx xs.length 0 lo = 0 ∧ HT.sIx xs.length xs.length hi = xs.length then .stuck else .ok (.tup (cutD xs lo hi)) h
  | .ref n => match h[n]? with
    | some (.lst xs) => newH h (.lst (cutD xs lo hi))
    | some (.rol xs) => newH h (.lst (cutD xs lo hi))
    | _ => .stuck
  | _ => .stuck
def Ty.isErr : Ty → Bool
  | .err _ => true
  | _ => false
def isiTy (t : Ty) (ts : List Ty) : Option Bool := match t with
  | .err _ => none
  | t => some (ts.any fun u => t == u || (t == .bool && u == .int))
def dSlL (h : Hm) (x y : D) : R D := match y with
    | .int i => slD h x (some i) none
    | _ => .stuck
def dSlH (h : Hm) (x y : D) : R D := match y with
    | .int i => slD h x none (some i)
    | _ => .stuck
def dSlB (h : Hm) (x y z : D) : R D := match y, z with
    | .int i, .int j => slD h x (some i) (some j)
    | _, _ => .stuck
def dAsInt (h : Hm) (x : D) : R D := match x with
  | .int i => .ok (.int i) h
  | _ => .stuck
def isiD (h : Hm) (x : D) (ts : List Ty) : Option Bool := match tyOf h x with
  | some t => isiTy t ts
  | none => none
def itemD : Key × D → D := fun kv => .tup [dOfKey kv.1, kv.2]
def zipK (ks : List Key) (vs : List D) : List (Key × D) := ks.zip vs

def dAdd (h : Hm) : D → D → R D
  | .int i, .int j => .ok (.int (i + j)) h
  | .str x, .str y => if x.length + y.length ≤ sizeLine then .ok (.str (x ++ y)) h else .stuck
  | .tup xs, .tup ys => if xs ≠ [] ∧ xs.length + ys.length ≤ sizeLine then .ok (.tup (xs ++ ys)) h else .stuck
  | .ref m, .ref n => match h[m]?, h[n]? with
    | some (.lst xs), some (.lst ys) => if xs.length + ys.length ≤ sizeLine then newH h (.lst (xs ++ ys)) else .stuck
    | _, _ => .stuck
  | _, _ => .stuck
def dSub (h : Hm) : D → D → R D
  | .int i, .int j => .ok (.int (i - j)) h
  | _, _ => .stuck
def dMul (h : Hm) : D → D → R D
  | .int i, .int j => if i.natAbs.log2 + j.natAbs.log2 < 1000000 then .ok (.int (i * j)) h else .stuck
  | .str x, .int k => if 0 ≤ k ∧ k < 2 ^ 20 ∧ x.length * k.toNat ≤ 2 ^ 20 then .ok (.str (Txt.mul x k)) h else .stuck
  | _, _ => .stuck
def dFdiv (h : Hm) : D → D → R D
  | .int i, .int j => if j ≠ 0 ∧ j.natAbs < 1073741824 then .ok (.int (i.fdiv j)) h else if 0 < j ∧ j.natAbs.log2 < 9000 then .ok (.int (i / j)) h else .stuck
  | _, _ => .stuck
def dMod (h : Hm) : D → D → R D
  | .int i, .int j => if j ≠ 0 then .ok (.int (i.fmod j)) h else .stuck
  | _, _ => .stuck
def dPow (h : Hm) : D → D → R D
  | .int i, .int j => if 0 ≤ j ∧ j ≤ 1000000 ∧ i.natAbs < 2 ^ 64 then .ok (.int (i ^ j.toNat)) h else .stuck
  | _, _ => .stuck
def dCmp (f : Int → Int → Bool) (h : Hm) : D → D → R D
  | .int i, .int j => .ok (.bl (f i j)) h
  | _, _ => .stuck
def dIxR (h : Hm) (o : Option HOb) (y : D) : R D := match o with
  | some (.lst xs) => match y with
    | .int i => okO h (atI xs i) id
    | _ => .stuck
  | some (.rol xs) => match y with
    | .int i => okO h (atI xs i) id
    | _ => .stuck
  | some (.dct kvs) => match keyOf y with
    | some k => okO h (valD kvs k) id
    | none => .stuck
  | _ => .stuck
def dIx (h : Hm) : D → D → R D
  | .ref n, y => dIxR h h[n]? y
  | .tup xs, .int i => okO h (atI xs i) id
  | .str z, .int i => if z.length ≤ sizeLine then okO h (atI z.cps.toList i) (fun c => .str ⟨#[c]⟩) else .stuck
  | _, _ => .stuck
def dNeg (h : Hm) : D → R D
  | .int i => .ok (.int (-i)) h
  | _ => .stuck
def dLen (h : Hm) (x : D) : R D := match x with
  | .str z => if z.length ≤ sizeLine then .ok (.int z.length) h else .stuck
  | x => match seqOf h x with
    | some xs => .ok (.int xs.length) h
    | none => .stuck
def dAbs (h : Hm) : D → R D
  | .int i => .ok (.int (if i < 0 then -i else i)) h
  | _ => .stuck
def dInt (h : Hm) : D → R D
  | .int i => .ok (.int i) h
  | .bl k => .ok (.int (if k then 1 else 0)) h
  | .str x => if x.length ≤ 640 then okO h (intText? x) .int else .stuck
  | _ => .stuck
def dStr (h : Hm) : D → R D
  | .int i => if i.natAbs.log2 < 1920 then .ok (.str (toString i)) h else .stuck
  | .str x => .ok (.str x) h
  | _ => .stuck
def isNonD : D → Bool
  | .non => true
  | _ => false
def isBlD (b : Bool) : D → Bool
  | .bl c => b == c
  | _ => false
def dBools (f : List Bool → Bool) (h : Hm) : D → R D
  | .ref n => match h[n]? with
    | some (.lst xs) => okO h (bools xs) (fun bs => .bl (f bs))
    | _ => .stuck
  | _ => .stuck
def dListOf (h : Hm) (x : D) : R D := match seqOf h x with
    | some xs => newH h (.lst xs)
    | none => .stuck
def dItems (h : Hm) : D → R D
  | .ref n => match h[n]? with
    | some (.dct kvs) => newL h (kvs.map itemD)
    | _ => .stuck
  | _ => .stuck
def dAppend (h : Hm) : D → D → R D
  | .ref n, y => match h[n]? with
    | some (.lst xs) => if xs.length < sizeLine then .ok .non (h.set n (.lst (xs ++ [y]))) else .stuck
    | _ => .stuck
  | _, _ => .stuck
def dExtend (h : Hm) : D → D → R D
  | .ref n, y => match h[n]? with
    | some (.lst xs) => match seqLT h y with
      | some ys => if xs.length + ys.length ≤ sizeLine then .ok .non (h.set n (.lst (xs ++ ys))) else .stuck
      | none => .stuck
    | _ => .stuck
  | _, _ => .stuck
def dPop (h : Hm) : D → R D
  | .ref n => match h[n]? with
    | some (.lst xs) => match xs[xs.length - 1]? with
      | some y => .ok y (h.set n (.lst xs.dropLast))
      | none => .stuck
    | _ => .stuck
  | _ => .stuck
def dPopAt (h : Hm) : D → D → R D
  | .ref n, .int i => match h[n]? with
    | some (.lst xs) => if -(2 ^ 63) ≤ i ∧ i < 2 ^ 63 then match seqIndex? i xs.length with
        | some k => match xs[k]? with
          | some y => .ok y (h.set n (.lst (xs.eraseIdx k)))
          | none => .stuck
        | none => .stuck
      else .stuck
    | _ => .stuck
  | _, _ => .stuck
def dJoin (h : Hm) : D → D → R D
  | .str z, x => match seqOf h x with
    | some xs => match txts xs with
      | some ys => if (ys.map (·.length)).sum + ys.length * z.length ≤ 16777216 then .ok (.str (Txt.join z ys)) h else .stuck
      | none => .stuck
    | none => .stuck
  | _, _ => .stuck
def dGet (h : Hm) (x y z : D) : R D := match x with
  | .ref n => match h[n]? with
    | some (.dct kvs) => match keyOf y with
      | some k => .ok ((valD kvs k).getD z) h
      | none => .stuck
    | _ => .stuck
  | _ => .stuck
def dMin (h : Hm) : D → D → R D
  | .int i, .int j => .ok (.int (if j < i then j else i)) h
  | _, _ => .stuck
def dFld (f : Str) (cs : List Nat) (h : Hm) : D → R D
  | .ref n => match h[n]? with
    | some (.exc c fs) => if cs.contains c then okO h (fs.lookup f) id else .stuck
    | _ => .stuck
  | _ => .stuck
def a1 (f : D → R D) : List D → R D
  | [x] => f x
  | _ => .stuck
def a2 (f : D → D → R D) : List D → R D
  | [x, y] => f x y
  | _ => .stuck
def a3 (f : D → D → D → R D) : List D → R D
  | [x, y, z] => f x y z
  | _ => .stuck
/-- isinstance(an error, a class of errors): by its class's number -/
def isErrD (h : Hm) (cs : List (Nat × Bool)) : D → Option Bool
  | .ref n => match h[n]? with
    | some (.exc c _) => cs.lookup c
    | _ => none
  | _ => none
/-- a list: whether it has nothing in it -/
def nilD (h : Hm) : D → Option Bool
  | .ref n => match h[n]? with
    | some (.lst xs) => some xs.isEmpty
    | _ => none
  | _ => none
def op (o : Op) (a : List D) (h : Hm) : R D := match o with
  | .add => a2 (dAdd h) a
  | .sub => a2 (dSub h) a
  | .mul => a2 (dMul h) a
  | .fdiv => a2 (dFdiv h) a
  | .mod => a2 (dMod h) a
  | .pow => a2 (dPow h) a
  | .eq => a2 (fun x y => asB h (eqP h x y)) a
  | .ne => a2 (fun x y => asB h ((eqP h x y).map (!·))) a
  | .lt => a2 (dCmp (fun i j => decide (i < j)) h) a
  | .le => a2 (dCmp (fun i j => decide (i ≤ j)) h) a
  | .gt => a2 (dCmp (fun i j => decide (j < i)) h) a
  | .ge => a2 (dCmp (fun i j => decide (j ≤ i)) h) a
  | .isin => a2 (fun x y => asB h (isInD h x y)) a
  | .notin => a2 (fun x y => asB h ((isInD h x y).map (!·))) a
  | .ix => a2 (dIx h) a
  | .neg => a1 (dNeg h) a
  | .len => a1 (dLen h) a
  | .abs => a1 (dAbs h) a
  | .int => a1 (dInt h) a
  | .str => a1 (dStr h) a
  | .isNon => a1 (fun x => .ok (.bl (isNonD x)) h) a
  | .notNon => a1 (fun x => .ok (.bl (!isNonD x)) h) a
  | .isTrue => a1 (fun x => .ok (.bl (isBlD true x)) h) a
  | .notTrue => a1 (fun x => .ok (.bl (!isBlD true x)) h) a
  | .isFalse => a1 (fun x => .ok (.bl (isBlD false x)) h) a
  | .notFalse => a1 (fun x => .ok (.bl (!isBlD false x)) h) a
  | .isi ts => a1 (fun x => asB h (isiD h x ts)) a
  | .isErr cs => a1 (fun x => asB h (isErrD h cs x)) a
  | .eqNil => a1 (fun x => asB h (nilD h x)) a
  | .neNil => a1 (fun x => asB h ((nilD h x).map (!·))) a
  | .all => a1 (dBools (·.all id) h) a
  | .any => a1 (dBools (·.any id) h) a
  | .tupleOf => a1 (fun x => okO h (seqOf h x) .tup) a
  | .listOf => a1 (dListOf h) a
  | .items => a1 (dItems h) a
  | .slL => a2 (dSlL h) a
  | .slH => a2 (dSlH h) a
  | .slB => a3 (dSlB h) a
  | .asInt => a1 (dAsInt h) a
  | .slN => a1 (fun x => slD h x none none) a
  | .append => a2 (dAppend h) a
  | .extend => a2 (dExtend h) a
  | .pop => a1 (dPop h) a
  | .popAt => a2 (dPopAt h) a
  | .join => a2 (dJoin h) a
  | .get => a2 (fun x y => dGet h x y .non) a
  | .getD => a3 (fun x y z => dGet h x y z) a
  | .tup => newT h a
  | .lst => newL h a
  | .min => a2 (dMin h) a
  | .fld f cs => a1 (dFld f cs h) a

/-- o[i] = v -/
def setIxR (h : Hm) (n : Nat) (o : Option HOb) (i v : D) : Option Hm := match o with
  | some (.lst xs) => match i with
    | .int k => (ixN xs.length k).map fun j => h.set n (.lst (xs.set j v))
    | _ => none
  | some (.dct kvs) => match keyOf i with
    | some k => if kvs.length < sizeLine then some (h.set n (.dct (putD kvs k v))) else none
    | none => none
  | _ => none
def setIx (h : Hm) (o i v : D) : Option Hm := match o with
  | .ref n => setIxR h n h[n]? i v
  | _ => none

/-! ### expressions -/
/-- how a walk begins -/
inductive W where
  | seq | rng | enm | zip | rev | enmRev
/-- what a walk goes over -/
inductive It where
  | lst (n : Nat)
  | tup (xs : List D)
  | rng (lo : Int) (n : Nat)
  | str (s : Str)
  | enm (j : It)
  | zip (i j : It)
  | rev (n : Nat) (m : Nat)
  | revT (xs : List D)
/-- the items of a list -/
def lstAt (h : Hm) (n : Nat) : Option (List D) := match h[n]? with
  | some (.lst xs) => some xs
  | some (.rol xs) => some xs
  | _ => none
/-- none: stuck; some none: the end -/
def It.at (h : Hm) : It → Nat → Option (Option D)
  | .lst n, i => (lstAt h n).map fun xs => xs[i]?
  | .tup xs, i => some xs[i]?
  | .rng lo n, i => some (if i < n then some (.int (lo + i)) else none)
  | .str s, i => some ((s.cps[i]?).map fun c => .str ⟨#[c]⟩)
  | .enm j, i => (j.at h i).map fun o => o.map fun d => .tup [.int i, d]
  | .zip j k, i => match j.at h i, k.at h i with
    | some (some x), some (some y) => some (some (.tup [x, y]))
    | some none, some _ => some none
    | some _, some none => some none
    | _, _ => none
  | .rev n m, i => (lstAt h n).bind fun xs => if i < m then (match xs[m - 1 - i]? with
    | some x => some (some x)
    | none => none) else some none
  | .revT xs, i => some xs.reverse[i]?
def itSeq (h : Hm) : D → Option It
  | .ref n => match h[n]? with
    | some (.lst _) => some (.lst n)
    | some (.rol _) => some (.lst n)
    | _ => none
  | .tup xs => some (.tup xs)
  | .str s => some (.str s)
  | _ => none
def itRev (h : Hm) : D → Option It
  | .ref n => match h[n]? with
    | some (.lst xs) => some (.rev n xs.length)
    | some (.rol xs) => some (.rev n xs.length)
    | _ => none
  | .tup xs => some (.revT xs)
  | _ => none
def isSeq : It → Bool
  | .lst _ => true
  | .tup _ => true
  | _ => false
def itRng1 : D → Option It
  | .int n => if -(2 ^ 62) ≤ n ∧ n < 2 ^ 62 then some (.rng 0 n.toNat) else none
  | _ => none
def itRng2 : D → D → Option It
  | .int a, .int b => if -(2 ^ 62) ≤ a ∧ a < 2 ^ 62 ∧ -(2 ^ 62) ≤ b ∧ b < 2 ^ 62 then some (.rng a (b - a).toNat) else none
  | _, _ => none
def itZip : Option It → Option It → Option It
  | some (.lst n), some (.lst m) => some (.zip (.lst n) (.lst m))
  | some (.tup n), some (.tup m) => some (.zip (.tup n) (.tup m))
  | _, _ => none
def itEnm : Option It → Option It
  | some (.lst n) => some (.enm (.lst n))
  | _ => none
def itEnmRev : Option It → Option It
  | some (.revT xs) => some (.enm (.revT xs))
  | _ => none
def i1 (f : D → Option It) : List D → Option It
  | [x] => f x
  | _ => none
def itOf (w : W) (vs : List D) (h : Hm) : Option It := match w with
  | .seq => i1 (itSeq h) vs
  | .rng => match vs with
    | [x] => itRng1 x
    | [x, y] => itRng2 x y
    | _ => none
  | .enm => i1 (fun x => itEnm (itSeq h x)) vs
  | .zip => match vs with
    | [x, y] => itZip (itSeq h x) (itSeq h y)
    | _ => none
  | .rev => i1 (itRev h) vs
  | .enmRev => i1 (fun x => itEnmRev (itRev h x)) vs

/-- a target: a name's slot, or several -/
inductive T where
  | nm (i : Nat)
  | tp (ts : List T)
inductive E where
  | bad
  | c (d : D)
  | v (i : Nat)
  | op (o : Op) (as : List E)
  | and (a b : E)
  | or (a b : E)
  | not (a : E)
  | ite (c a b : E)
  | chain (o o' : Op) (a b c : E)
  | call (f : Nat) (as : List E)
  | callv (i : Nat) (as : List E)
  | callL (f : Nat) (l : Nat) (caps : List Nat)
  | meth (t : Ty) (o : Op) (a : E) (as : List E)
  | dict (ks : List Key) (vs : List E)
  | lc (t : T) (own : List Nat) (w : W) (it : List E) (cond elt : E)

inductive S where
  | bad
  | asg (t : T) (e : E)
  | par (i j : Nat) (a b : E)
  | par3 (i j l : Nat) (a b c : E)
  | setIx (o i v : E)
  | aug (i : Nat) (o : Op) (e : E)
  | expr (e : E)
  | ret (e : E)
  | retN
  | pass | brk | cont
  | ifs (c : E) (a b : List S)
  | while (c : E) (b : List S)
  | for (t : T) (w : W) (it : List E) (b : List S)
  | raise (c : Nat) (f : Option Str) (as : List E)
  | try (b : List S) (cs : List (Nat × Bool)) (i : Nat) (hs : List S)

@[irreducible] def fuelW : Nat := 1073741824

def allD : List SV → Option (List D)
  | [] => some []
  | .d x :: r => (allD r).map (x :: ·)
  | .clo _ _ :: _ => none
def toSV (r : R D) : R SV := match r with
  | .ok x h => .ok (.d x) h
  | _ => .stuck
def noX (r : R D) : R D := match r with
  | .ok x h => .ok x h
  | _ => .stuck
def unSV : SV → Option D
  | .d x => some x
  | .clo _ _ => none
/-- a truth -/
def truth (r : R SV) : R Bool := r.bind fun x h => match x with
  | .d (.bl b) => .ok b h
  | _ => .stuck

def T.slots : T → List Nat
  | .nm i => [i]
  | .tp ts => slotsL ts
where slotsL : List T → List Nat
  | [] => []
  | t :: ts => t.slots ++ slotsL ts
def setT : T → D → Env → Option Env
  | .nm i, x, env => if i < env.length then some (env.set i (some (.d x))) else none
  | .tp ts, .tup xs, env => setTs ts xs env
  | .tp _, _, _ => none
where setTs : List T → List D → Env → Option Env
  | [], [], env => some env
  | t :: ts, x :: xs, env => match setT t x env with
    | some env' => setTs ts xs env'
    | none => none
  | _, _, _ => none

def wipeE (env : Env) : List Nat → Env
  | [] => env
  | v :: vs => (wipeE env vs).set v none
/-- without the functions made on the way -/
def dOnly : Option SV → Option SV
  | some (.d x) => some (.d x)
  | _ => none

def lcStep (n : Nat) (next : Hm → R D) (r : R (Option D)) : R D := match r with
  | .ok (some y) h' => match h'[n]? with
    | some (.lst acc) => if acc.length < sizeLine then next (h'.set n (.lst (acc ++ [y]))) else .stuck
    | _ => .stuck
  | .ok none h' => next h'
  | _ => .stuck
def lcGo (get : Hm → Nat → Option (Option D)) (body : D → Hm → R (Option D)) (n : Nat) : Nat → Nat → Hm → R D
  | 0, _, _ => .stuck
  | fuel + 1, i, h => match get h i with
    | none => .stuck
    | some none => .ok (.ref n) h
    | some (some x) => lcStep n (lcGo get body n fuel (i + 1)) (body x h)
/-! the parts of the evaluator that call nothing -/
def opRun (o : Op) (xs : List SV) (h : Hm) : R SV := match allD xs with
  | some ds => toSV (op o ds h)
  | none => .stuck
def okB (b : Bool) (h : Hm) : R SV := .ok (.d (.bl b)) h
def getV (env : Env) (i : Nat) (h : Hm) : R SV := match env[i]? with
  | some (some x) => .ok x h
  | _ => .stuck
def chain1 (o : Op) (x y : SV) (h : Hm) : R Bool := match x, y with
  | .d x, .d y => truth (toSV (op o [x, y] h))
  | _, _ => .stuck
def getC (env : Env) (i : Nat) : Option (Nat × List SV) := match env[i]? with
  | some (some (.clo f caps)) => some (f, caps)
  | _ => none
def lcEl (y : SV) (h : Hm) : R (Option D) := match y with
  | .d y => .ok (some y) h
  | _ => .stuck
def lcTurn (t : T) (env0 : Env) (c : Env → Hm → R Bool) (e : Env → Hm → R SV) (x : D) (h : Hm) : R (Option D) := match setT t x env0 with
  | none => .stuck
  | some env' => (c env' h).bind fun b h => if b = true then (e env' h).bind lcEl else .ok none h
def lcRun (w : W) (xs : List SV) (h : Hm) (turn : D → Hm → R (Option D)) : R SV := match allD xs with
  | none => .stuck
  | some ds => match itOf w ds h with
    | none => .stuck
    | some j => toSV (lcGo (fun h i => j.at h i) turn h.length fuelW 0 (h ++ [.lst []]))
def methRun (t : Ty) (x : SV) (h : Hm) (f : Hm → R SV) : R SV := match x with
  | .d x => if tyOf h x = some t then f h else .stuck
  | _ => .stuck
def dictRun (n : Nat) (ks : List Key) (xs : List SV) (h : Hm) : R SV := match allD xs with
  | none => .stuck
  | some ds => match h[n]? with
    | some (.dct []) => if ks.length = ds.length ∧ ks.length ≤ 15 then .ok (.d (.ref n)) (h.set n (.dct (mergeD [] (zipK ks ds)))) else .stuck
    | _ => .stuck
def lamRun (k : Nat → List SV → List SV → Hm → R SV) (f l : Nat) (o : Option (List SV)) (h : Hm) : R SV := match o with
  | some cs => k f [.clo l cs] [] h
  | none => .stuck
def callC (k : Nat → List SV → List SV → Hm → R SV) (o : Option (Nat × List SV)) (xs : List SV) (h : Hm) : R SV := match o with
  | some (f, caps) => k f xs caps h
  | none => .stuck

section
variable (k : Nat → List SV → List SV → Hm → R SV)
mutual
def evE : E → Env → Hm → R SV
  | .bad, _, _ => .stuck
  | .c d, _, h => .ok (.d d) h
  | .v i, env, h => getV env i h
  | .op o as, env, h => (evEs as env h).bind (opRun o)
  | .and a b, env, h => (truth (evE a env h)).bind fun x h => if x = true then (truth (evE b env h)).bind okB else okB false h
  | .or a b, env, h => (truth (evE a env h)).bind fun x h => if x = true then okB true h else (truth (evE b env h)).bind okB
  | .not a, env, h => (truth (evE a env h)).bind fun x h => okB (!x) h
  | .ite c a b, env, h => (truth (evE c env h)).bind fun x h => if x = true then evE a env h else evE b env h
  | .chain o o' a b c, env, h => (evE a env h).bind fun x h => (evE b env h).bind fun y h => (chain1 o x y h).bind fun z h => if z = true then (evE c env h).bind fun w h => opRun o' [y, w] h else okB false h
  | .call f as, env, h => (evEs as env h).bind fun xs h => k f xs [] h
  | .callv i as, env, h => (evEs as env h).bind fun xs h => callC k (getC env i) xs h
  | .callL f l caps, env, h => lamRun k f l (mapO (fun j => (env[j]?).join) caps) h
  | .meth t o a as, env, h => (evE a env h).bind fun x h => methRun t x h fun h => (evEs as env h).bind fun xs h => opRun o (x :: xs) h
  | .dict ks vs, env, h => (evEs vs env (h ++ [.dct []])).bind fun xs h' => dictRun h.length ks xs h'
  | .lc t own w it cond elt, env, h => (evEs it env h).bind fun xs h => lcRun w xs h (lcTurn t (wipeE (env.map dOnly) own) (fun env h => truth (evE cond env h)) fun env h => evE elt env h)
def evEs : List E → Env → Hm → R (List SV)
  | [], _, h => .ok [] h
  | e :: es, env, h => (evE e env h).bind fun x h => (evEs es env h).bind fun xs h => .ok (x :: xs) h
end
theorem evE_bad (env : Env) (h : Hm) : evE k .bad env h = .stuck := rfl
theorem evE_c (d : D) (env : Env) (h : Hm) : evE k (.c d) env h = .ok (.d d) h := rfl
theorem evE_v (i : Nat) (env : Env) (h : Hm) : evE k (.v i) env h = getV env i h := rfl
theorem evE_op (o : Op) (as : List E) (env : Env) (h : Hm) : evE k (.op o as) env h = (evEs k as env h).bind (opRun o) := rfl
theorem evE_and (a b : E) (env : Env) (h : Hm) : evE k (.and a b) env h = (truth (evE k a env h)).bind fun x h => if x = true then (truth (evE k b env h)).bind okB else okB false h := rfl
theorem evE_or (a b : E) (env : Env) (h : Hm) : evE k (.or a b) env h = (truth (evE k a env h)).bind fun x h => if x = true then okB true h else (truth (evE k b env h)).bind okB := rfl
theorem evE_not (a : E) (env : Env) (h : Hm) : evE k (.not a) env h = (truth (evE k a env h)).bind fun x h => okB (!x) h := rfl
theorem evE_ite (c a b : E) (env : Env) (h : Hm) : evE k (.ite c a b) env h = (truth (evE k c env h)).bind fun x h => if x = true then evE k a env h else evE k b env h := rfl
theorem evE_chain (o o' : Op) (a b c : E) (env : Env) (h : Hm) : evE k (.chain o o' a b c) env h = (evE k a env h).bind fun x h => (evE k b env h).bind fun y h => (chain1 o x y h).bind fun z h => if z = true then (evE k c env h).bind fun w h => opRun o' [y, w] h else okB false h := rfl
theorem evE_call (f : Nat) (as : List E) (env : Env) (h : Hm) : evE k (.call f as) env h = (evEs k as env h).bind fun xs h => k f xs [] h := rfl
theorem evE_callv (i : Nat) (as : List E) (env : Env) (h : Hm) : evE k (.callv i as) env h = (evEs k as env h).bind fun xs h => callC k (getC env i) xs h := rfl
theorem evE_callL (f l : Nat) (caps : List Nat) (env : Env) (h : Hm) : evE k (.callL f l caps) env h = lamRun k f l (mapO (fun j => (env[j]?).join) caps) h := rfl
theorem evE_meth (t : Ty) (o : Op) (a : E) (as : List E) (env : Env) (h : Hm) : evE k (.meth t o a as) env h = (evE k a env h).bind fun x h => methRun t x h fun h => (evEs k as env h).bind fun xs h => opRun o (x :: xs) h := rfl
theorem evE_dict (ks : List Key) (vs : List E) (env : Env) (h : Hm) : evE k (.dict ks vs) env h = (evEs k vs env (h ++ [.dct []])).bind fun xs h' => dictRun h.length ks xs h' := rfl
theorem evE_lc (t : T) (own : List Nat) (w : W) (it : List E) (cond elt : E) (env : Env) (h : Hm) : evE k (.lc t own w it cond elt) env h = (evEs k it env h).bind fun xs h => lcRun w xs h (lcTurn t (wipeE (env.map dOnly) own) (fun env h => truth (evE k cond env h)) fun env h => evE k elt env h) := rfl
theorem evEs_nil (env : Env) (h : Hm) : evEs k [] env h = .ok [] h := rfl
theorem evEs_cons (e : E) (es : List E) (env : Env) (h : Hm) : evEs k (e :: es) env h = (evE k e env h).bind fun x h => (evEs k es env h).bind fun xs h => .ok (x :: xs) h := rfl
end

inductive RS where
  | nx (env : Env) (h : Hm)
  | rt (x : SV) (h : Hm)
  | bk (env : Env) (h : Hm)
  | ct (env : Env) (h : Hm)
  | exc (x : Exn) (env : Env) (h : Hm)
  | stuck
def R.st {α : Type} (env : Env) (r : R α) (f : α → Hm → RS) : RS := match r with
  | .ok a h => f a h
  | .exc x h => .exc x env h
  | .stuck => .stuck
def whileGo (c : Env → Hm → R Bool) (b : Env → Hm → RS) : Nat → Env → Hm → RS
  | 0, _, _ => .stuck
  | fuel + 1, env, h => (c env h).st env fun x h => if x = true then (match b env h with
      | .nx env h => whileGo c b fuel env h
      | .ct env h => whileGo c b fuel env h
      | .bk env h => .nx env h
      | r => r) else .nx env h
def forGo (get : Hm → Nat → Option (Option D)) (t : T) (b : Env → Hm → RS) : Nat → Nat → Env → Hm → RS
  | 0, _, _, _ => .stuck
  | fuel + 1, i, env, h => match get h i with
    | none => .stuck
    | some none => .nx env h
    | some (some x) => match setT t x env with
      | none => .stuck
      | some env' => match b env' h with
        | .nx env h => forGo get t b fuel (i + 1) env h
        | .ct env h => forGo get t b fuel (i + 1) env h
        | .bk env h => .nx env h
        | r => r
def mkExn (c : Nat) (f : Option Str) (ds : List D) : Option Exn := match f, ds with
  | none, [_] => some ⟨c, []⟩
  | some f, [_, x] => some ⟨c, [(f, x)]⟩
  | some f, [_] => some ⟨c, [(f, .non)]⟩
  | _, _ => none
def asgRun (t : T) (env : Env) (x : SV) (h : Hm) : RS := match t with
  | .nm i => if i < env.length then .nx (env.set i (some x)) h else .stuck
  | .tp ts => match x with
    | .d x => match setT (.tp ts) x env with
      | some env' => .nx env' h
      | none => .stuck
    | _ => .stuck
def parRun (i j : Nat) (env : Env) (x y : SV) (h : Hm) : RS := if i < env.length ∧ j < env.length then .nx ((env.set i (some x)).set j (some y)) h else .stuck
def setRun (env : Env) (x y z : SV) (h : Hm) : RS := match x, y, z with
  | .d x, .d y, .d z => match setIx h y z x with
    | some h' => .nx env h'
    | none => .stuck
  | _, _, _ => .stuck
def augRun (i : Nat) (o : Op) (env : Env) (x y : SV) (h : Hm) : RS := match o, x, y with
  | .add, .d (.int a), .d (.int b) => .nx (env.set i (some (.d (.int (a + b))))) h
  | .sub, .d (.int a), .d (.int b) => .nx (env.set i (some (.d (.int (a - b))))) h
  | _, _, _ => .stuck
def par3Run (i j l : Nat) (env : Env) (x y z : SV) (h : Hm) : RS := if i < env.length ∧ j < env.length ∧ l < env.length then .nx (((env.set i (some x)).set j (some y)).set l (some z)) h else .stuck
def forRun (t : T) (w : W) (env : Env) (xs : List SV) (h : Hm) (b : Env → Hm → RS) : RS := match allD xs with
  | none => .stuck
  | some ds => match itOf w ds h with
    | none => .stuck
    | some j => forGo (fun h i => j.at h i) t b fuelW 0 env h
def raiseRun (c : Nat) (f : Option Str) (env : Env) (xs : List SV) (h : Hm) : RS := match allD xs with
  | none => .stuck
  | some ds => match mkExn c f ds with
    | some x => .exc x env h
    | none => .stuck
def tryEnd (i : Nat) (r : RS) : RS := match r with
  | .nx env h => .nx (env.set i none) h
  | .bk env h => .bk (env.set i none) h
  | .ct env h => .ct (env.set i none) h
  | .rt v h => .rt v h
  | _ => .stuck
def tryRun (r : RS) (cs : List (Nat × Bool)) (i : Nat) (hs : Env → Hm → RS) : RS := match r with
  | .exc x env h => match cs.lookup x.cls with
    | some true => tryEnd i (hs (env.set i (some (.d (.ref h.length)))) (h ++ [.exc x.cls x.fs]))
    | some false => .exc x env h
    | none => .stuck
  | r => r
def seqRun (r : RS) (f : Env → Hm → RS) : RS := match r with
  | .nx env h => f env h
  | x => x
section
variable (k : Nat → List SV → List SV → Hm → R SV)
mutual
def exec : S → Env → Hm → RS
  | .bad, _, _ => .stuck
  | .asg t e, env, h => (evE k e env h).st env (asgRun t env)
  | .par i j a b, env, h => (evE k a env h).st env fun x h => (evE k b env h).st env fun y h => parRun i j env x y h
  | .par3 i j l a b c, env, h => (evE k a env h).st env fun x h => (evE k b env h).st env fun y h => (evE k c env h).st env fun z h => par3Run i j l env x y z h
  | .setIx o i v, env, h => (evE k v env h).st env fun x h => (evE k o env h).st env fun y h => (evE k i env h).st env fun z h => setRun env x y z h
  | .aug i o e, env, h => (getV env i h).st env fun x h => (evE k e env h).st env fun y h => augRun i o env x y h
  | .expr e, env, h => (evE k e env h).st env fun _ h => .nx env h
  | .ret e, env, h => (evE k e env h).st env .rt
  | .retN, _, h => .rt (.d .non) h
  | .pass, env, h => .nx env h
  | .brk, env, h => .bk env h
  | .cont, env, h => .ct env h
  | .ifs c a b, env, h => (truth (evE k c env h)).st env fun x h => if x = true then execs a env h else execs b env h
  | .while c b, env, h => whileGo (fun env h => truth (evE k c env h)) (fun env h => execs b env h) fuelW env h
  | .for t w it b, env, h => (evEs k it env h).st env fun xs h => forRun t w env xs h fun env h => execs b env h
  | .raise c f as, env, h => (evEs k as env h).st env (raiseRun c f env)
  | .try b cs i hs, env, h => tryRun (execs b env h) cs i fun env h => execs hs env h
def execs : List S → Env → Hm → RS
  | [], env, h => .nx env h
  | s :: r, env, h => seqRun (exec s env h) fun env h => execs r env h
end
theorem exec_bad (env : Env) (h : Hm) : exec k .bad env h = .stuck := rfl
theorem exec_asg (t : T) (e : E) (env : Env) (h : Hm) : exec k (.asg t e) env h = (evE k e env h).st env (asgRun t env) := rfl
theorem exec_par (i j : Nat) (a b : E) (env : Env) (h : Hm) : exec k (.par i j a b) env h = (evE k a env h).st env fun x h => (evE k b env h).st env fun y h => parRun i j env x y h := rfl
theorem exec_par3 (i j l : Nat) (a b c : E) (env : Env) (h : Hm) : exec k (.par3 i j l a b c) env h = (evE k a env h).st env fun x h => (evE k b env h).st env fun y h => (evE k c env h).st env fun z h => par3Run i j l env x y z h := rfl
theorem exec_setIx (o i v : E) (env : Env) (h : Hm) : exec k (.setIx o i v) env h = (evE k v env h).st env fun x h => (evE k o env h).st env fun y h => (evE k i env h).st env fun z h => setRun env x y z h := rfl
theorem exec_aug (i : Nat) (o : Op) (e : E) (env : Env) (h : Hm) : exec k (.aug i o e) env h = (getV env i h).st env fun x h => (evE k e env h).st env fun y h => augRun i o env x y h := rfl
theorem exec_expr (e : E) (env : Env) (h : Hm) : exec k (.expr e) env h = (evE k e env h).st env fun _ h => .nx env h := rfl
theorem exec_ret (e : E) (env : Env) (h : Hm) : exec k (.ret e) env h = (evE k e env h).st env .rt := rfl
theorem exec_retN (env : Env) (h : Hm) : exec k .retN env h = .rt (.d .non) h := rfl
theorem exec_pass (env : Env) (h : Hm) : exec k .pass env h = .nx env h := rfl
theorem exec_brk (env : Env) (h : Hm) : exec k .brk env h = .bk env h := rfl
theorem exec_cont (env : Env) (h : Hm) : exec k .cont env h = .ct env h := rfl
theorem exec_ifs (c : E) (a b : List S) (env : Env) (h : Hm) : exec k (.ifs c a b) env h = (truth (evE k c env h)).st env fun x h => if x = true then execs k a env h else execs k b env h := rfl
theorem exec_while (c : E) (b : List S) (env : Env) (h : Hm) : exec k (.while c b) env h = whileGo (fun env h => truth (evE k c env h)) (fun env h => execs k b env h) fuelW env h := rfl
theorem exec_for (t : T) (w : W) (it : List E) (b : List S) (env : Env) (h : Hm) : exec k (.for t w it b) env h = (evEs k it env h).st env fun xs h => forRun t w env xs h fun env h => execs k b env h := rfl
theorem exec_raise (c : Nat) (f : Option Str) (as : List E) (env : Env) (h : Hm) : exec k (.raise c f as) env h = (evEs k as env h).st env (raiseRun c f env) := rfl
theorem exec_try (b : List S) (cs : List (Nat × Bool)) (i : Nat) (hs : List S) (env : Env) (h : Hm) : exec k (.try b cs i hs) env h = tryRun (execs k b env h) cs i fun env h => execs k hs env h := rfl
theorem execs_nil (env : Env) (h : Hm) : execs k [] env h = .nx env h := rfl
theorem execs_cons (s : S) (r : List S) (env : Env) (h : Hm) : execs k (s :: r) env h = seqRun (exec k s env h) fun env h => execs k r env h := rfl
end

/-- a def: how many parameters (a lambda: and captured ones), how many slots, its body -/
structure DefI where
  np : Nat
  nc : Nat
  ns : Nat
  body : List S
def finish : RS → R SV
  | .nx _ h => .ok (.d .non) h
  | .rt (.d x) h => .ok (.d x) h
  | .exc x _ h => .exc x h
  | _ => .stuck
def startE (ns : Nat) (args caps : List SV) : Env := args.map some ++ caps.map some ++ List.replicate (ns - args.length - caps.length) none
def run (P : Nat → Option DefI) : Nat → Nat → List SV → List SV → Hm → R SV
  | 0, _, _, _, _ => .stuck
  | n + 1, f, args, caps, h => match P f with
    | none => .stuck
    | some d => if args.length = d.np ∧ caps.length = d.nc then finish (execs (run P n) d.body (startE d.ns args caps) h) else .stuck

theorem run_succ (P : Nat → Option DefI) (n f : Nat) (args caps : List SV) (h : Hm) : run P (n + 1) f args caps h = match P f with
    | none => .stuck
    | some d => if args.length = d.np ∧ caps.length = d.nc then finish (execs (run P n) d.body (startE d.ns args caps) h) else .stuck := rfl
end AR
end
section
/-! Rel: how the small language's values lie to the layer's. -/
set_option Elab.async false
set_option linter.all false
set_option maxRecDepth 100000
set_option maxHeartbeats 4000000
namespace AR
open PySem L2

mutual
def DRel (K : PySem.W.Frag) (ρ : List Addr) (H : Hp) : D → V → Prop
  | .non, v => v = .non
  | .bl b, v => v = .bl b
  | .int i, v => v = .int i
  | .str s, v => v = .str s
  | .tup ds, v => ∃ a vs, v = .ref a ∧ SqT K H a vs ∧ DRels K ρ H ds vs
  | .ref n, v => ∃ a, ρ[n]? = some a ∧ v = .ref a
def DRels (K : PySem.W.Frag) (ρ : List Addr) (H : Hp) : List D → List V → Prop
  | [], vs => vs = []
  | d :: ds, vs => ∃ v vs', vs = v :: vs' ∧ DRel K ρ H d v ∧ DRels K ρ H ds vs'
end

/-- what stays from one state to a later one -/
structure Fwd (ρ : List Addr) (H : Hp) (ρ' : List Addr) (H' : Hp) : Prop where
  pre : ∀ (n : Nat) (a : Addr), ρ[n]? = some a → ρ'[n]? = some a
  tup : ∀ b xs, H b = some (.tup xs) → H' b = some (.tup xs)
  frz : ∀ b o u, H b = some (.frz o u) → H' b = some (.frz o u)
  ext : ∀ b φ, H b = some (.ext φ) → H' b = some (.ext φ)
  xd : ∀ b fs, H b = some (.xd fs) → H' b = some (.xd fs)
theorem Fwd.refl (ρ : List Addr) (H : Hp) : Fwd ρ H ρ H := ⟨fun _ _ h => h, fun _ _ h => h, fun _ _ _ h => h, fun _ _ h => h, fun _ _ h => h⟩
theorem Fwd.trans {ρ ρ1 ρ2 : List Addr} {H H1 H2 : Hp} (a : Fwd ρ H ρ1 H1) (b : Fwd ρ1 H1 ρ2 H2) : Fwd ρ H ρ2 H2 :=
  ⟨fun n x h => b.pre n x (a.pre n x h), fun x xs h => b.tup x xs (a.tup x xs h), fun x o u h => b.frz x o u (a.frz x o u h), fun x φ h => b.ext x φ (a.ext x φ h), fun x φ h => b.xd x φ (a.xd x φ h)⟩
theorem Fwd.sqT {K : PySem.W.Frag} {ρ ρ' : List Addr} {H H' : Hp} {a : Addr} {xs : List V} (f : Fwd ρ H ρ' H') (h : SqT K H a xs) : SqT K H' a xs := by
  rcases h with (h | ⟨o, h⟩) | h
  · exact .inl (.inl (f.tup _ _ h))
  · exact .inl (.inr ⟨o, f.frz _ _ _ h⟩)
  · exact .inr h
mutual
theorem DRel.fwd {K : PySem.W.Frag} {ρ ρ' : List Addr} {H H' : Hp} (f : Fwd ρ H ρ' H') : ∀ {d : D} {v : V}, DRel K ρ H d v → DRel K ρ' H' d v
  | .non, _, h => by simpa [DRel] using h
  | .bl _, _, h => by simpa [DRel] using h
  | .int _, _, h => by simpa [DRel] using h
  | .str _, _, h => by simpa [DRel] using h
  | .tup ds, v, h => by
    simp only [DRel] at h ⊢
    obtain ⟨a, vs, e, s, r⟩ := h
    exact ⟨a, vs, e, f.sqT s, DRels.fwd f r⟩
  | .ref n, v, h => by
    simp only [DRel] at h ⊢
    obtain ⟨a, e, r⟩ := h
    exact ⟨a, f.pre _ _ e, r⟩
theorem DRels.fwd {K : PySem.W.Frag} {ρ ρ' : List Addr} {H H' : Hp} (f : Fwd ρ H ρ' H') : ∀ {ds : List D} {vs : List V}, DRels K ρ H ds vs → DRels K ρ' H' ds vs
  | [], _, h => by simpa [DRels] using h
  | d :: ds, vs, h => by
    simp only [DRels] at h ⊢
    obtain ⟨v, vs', e, r, rs⟩ := h
    exact ⟨v, vs', e, DRel.fwd f r, DRels.fwd f rs⟩
end
section
variable {K : PySem.W.Frag} {ρ : List Addr} {H : Hp}
theorem DRels.nil_iff {vs : List V} : DRels K ρ H [] vs ↔ vs = [] := by simp [DRels]
theorem DRels.cons_iff {d : D} {ds : List D} {vs : List V} : DRels K ρ H (d :: ds) vs ↔ ∃ v vs', vs = v :: vs' ∧ DRel K ρ H d v ∧ DRels K ρ H ds vs' := by simp [DRels]
theorem DRels.mk {d : D} {ds : List D} {v : V} {vs : List V} (a : DRel K ρ H d v) (b : DRels K ρ H ds vs) : DRels K ρ H (d :: ds) (v :: vs) := DRels.cons_iff.mpr ⟨v, vs, rfl, a, b⟩
theorem DRels.nil : DRels K ρ H [] [] := DRels.nil_iff.mpr rfl
theorem DRels.len : ∀ {ds : List D} {vs : List V}, DRels K ρ H ds vs → ds.length = vs.length
  | [], _, h => by rw [DRels.nil_iff.mp h]; rfl
  | d :: ds, _, h => by
    obtain ⟨v, vs', e, _, r⟩ := DRels.cons_iff.mp h
    rw [e, List.length_cons, List.length_cons, DRels.len r]
theorem DRels.get : ∀ {ds : List D} {vs : List V} {i : Nat} {d : D}, DRels K ρ H ds vs → ds[i]? = some d → ∃ v, vs[i]? = some v ∧ DRel K ρ H d v
  | [], _, _, _, h, e => by simp at e
  | d :: ds, _, 0, _, h, e => by
    obtain ⟨v, vs', rfl, r, _⟩ := DRels.cons_iff.mp h
    simp at e
    subst e
    exact ⟨v, rfl, r⟩
  | d :: ds, _, i + 1, _, h, e => by
    obtain ⟨v, vs', rfl, _, r⟩ := DRels.cons_iff.mp h
    obtain ⟨u, h1, h2⟩ := DRels.get (i := i) r (by simpa using e)
    exact ⟨u, by simpa using h1, h2⟩
theorem DRels.getV : ∀ {ds : List D} {vs : List V} {i : Nat} {v : V}, DRels K ρ H ds vs → vs[i]? = some v → ∃ d, ds[i]? = some d ∧ DRel K ρ H d v
  | [], _, _, _, h, e => by rw [DRels.nil_iff.mp h] at e; simp at e
  | d :: ds, _, 0, _, h, e => by
    obtain ⟨v, vs', rfl, r, _⟩ := DRels.cons_iff.mp h
    simp at e
    subst e
    exact ⟨d, rfl, r⟩
  | d :: ds, _, i + 1, _, h, e => by
    obtain ⟨v, vs', rfl, _, r⟩ := DRels.cons_iff.mp h
    obtain ⟨u, h1, h2⟩ := DRels.getV (i := i) r (by simpa using e)
    exact ⟨u, by simpa using h1, h2⟩
theorem DRels.app : ∀ {ds es : List D} {vs us : List V}, DRels K ρ H ds vs → DRels K ρ H es us → DRels K ρ H (ds ++ es) (vs ++ us)
  | [], _, _, _, h, g => by rw [DRels.nil_iff.mp h]; exact g
  | d :: ds, _, _, _, h, g => by
    obtain ⟨v, vs', rfl, r, rs⟩ := DRels.cons_iff.mp h
    exact DRels.mk r (DRels.app rs g)
theorem DRels.drop : ∀ {ds : List D} {vs : List V} (n : Nat), DRels K ρ H ds vs → DRels K ρ H (ds.drop n) (vs.drop n)
  | [], _, n, h => by rw [DRels.nil_iff.mp h, List.drop_nil, List.drop_nil]; exact DRels.nil
  | d :: ds, _, 0, h => by simpa using h
  | d :: ds, _, n + 1, h => by
    obtain ⟨v, vs', rfl, _, rs⟩ := DRels.cons_iff.mp h
    simpa using DRels.drop n rs
theorem DRels.take : ∀ {ds : List D} {vs : List V} (n : Nat), DRels K ρ H ds vs → DRels K ρ H (ds.take n) (vs.take n)
  | [], _, n, h => by rw [DRels.nil_iff.mp h, List.take_nil, List.take_nil]; exact DRels.nil
  | d :: ds, _, 0, h => by simpa using DRels.nil
  | d :: ds, _, n + 1, h => by
    obtain ⟨v, vs', rfl, r, rs⟩ := DRels.cons_iff.mp h
    simpa using DRels.mk r (DRels.take n rs)
theorem DRels.dropLast {ds : List D} {vs : List V} (h : DRels K ρ H ds vs) : DRels K ρ H ds.dropLast vs.dropLast := by
  rw [List.dropLast_eq_take, List.dropLast_eq_take, ← h.len]
  exact h.take _
theorem DRels.set : ∀ {ds : List D} {vs : List V} {d : D} {v : V} (i : Nat), DRels K ρ H ds vs → DRel K ρ H d v → DRels K ρ H (ds.set i d) (vs.set i v)
  | [], _, _, _, i, h, _ => by rw [DRels.nil_iff.mp h]; simpa using DRels.nil
  | d :: ds, _, _, _, 0, h, g => by
    obtain ⟨v, vs', rfl, r, rs⟩ := DRels.cons_iff.mp h
    simpa using DRels.mk g rs
  | d :: ds, _, _, _, i + 1, h, g => by
    obtain ⟨v, vs', rfl, r, rs⟩ := DRels.cons_iff.mp h
    simpa using DRels.mk r (DRels.set i rs g)
theorem DRels.erase : ∀ {ds : List D} {vs : List V} (i : Nat), DRels K ρ H ds vs → DRels K ρ H (ds.eraseIdx i) (vs.eraseIdx i)
  | [], _, i, h => by rw [DRels.nil_iff.mp h]; simpa using DRels.nil
  | d :: ds, _, 0, h => by
    obtain ⟨v, vs', rfl, r, rs⟩ := DRels.cons_iff.mp h
    simpa using rs
  | d :: ds, _, i + 1, h => by
    obtain ⟨v, vs', rfl, r, rs⟩ := DRels.cons_iff.mp h
    simpa using DRels.mk r (DRels.erase i rs)
theorem DRels.reverse : ∀ {ds : List D} {vs : List V}, DRels K ρ H ds vs → DRels K ρ H ds.reverse vs.reverse
  | [], _, h => by rw [DRels.nil_iff.mp h]; simpa using DRels.nil
  | d :: ds, _, h => by
    obtain ⟨v, vs', rfl, r, rs⟩ := DRels.cons_iff.mp h
    rw [List.reverse_cons, List.reverse_cons]
    exact DRels.app (DRels.reverse rs) (DRels.mk r DRels.nil)
theorem DRels.cut {ds : List D} {vs : List V} (lo hi : Option Int) (h : DRels K ρ H ds vs) : DRels K ρ H (cutD ds lo hi) (cutV vs lo hi) := by
  unfold cutD cutV
  rw [h.len]
  exact (h.drop _).take _
end

/-! ### dicts -/
abbrev KRel (K : PySem.W.Frag) (ρ : List Addr) (H : Hp) : List (Key × D) → List (Key × V) → Prop := Paired fun (p : Key × D) (q : Key × V) => p.1 = q.1 ∧ DRel K ρ H p.2 q.2

/-! ### objects -/
def HOb.mut : HOb → Bool
  | .lst _ => true
  | .dct _ => true
  | _ => false
/-- an error as a value: its class at C, its own dict -/
def ErrO (cls : Value) (d : Option Addr) (a : Addr) : HO := .ext fun h => ∃ (oe : Obj) (vs : Array Value), h.get? a = some oe ∧ Zc cls d oe ∧ oe.data = .fields vs
structure Glo where
  /-- the classes of errors: where each stands -/
  cls : Nat → Addr
  /-- the tables of code objects -/
  T : List (Addr × Str)
def ORel (G : Glo) (K : PySem.W.Frag) (ρ : List Addr) (H : Hp) (a : Addr) : HOb → Prop
  | .lst ds => ∃ vs, H a = some (.lst vs) ∧ DRels K ρ H ds vs
  | .rol ds => ∃ vs, ((∃ o, H a = some (.frz o (.lst vs))) ∨ (SqL K (fun _ => none) a vs)) ∧ DRels K ρ H ds vs
  | .dct kvs => ∃ vs, H a = some (.dK vs) ∧ KRel K ρ H kvs vs
  | .exc c fs => ∃ d, H a = some (ErrO (.ref (G.cls c)) d a) ∧ (fs = [] ∧ d = none ∨ ∃ dd vs, d = some dd ∧ H dd = some (.xd vs) ∧ Paired (fun (p : Str × D) (q : Str × V) => p.1 = q.1 ∧ DRel K ρ H p.2 q.2) fs vs)
structure HRel (G : Glo) (K : PySem.W.Frag) (ρ : List Addr) (hm : Hm) (H : Hp) : Prop where
  len : ρ.length = hm.length
  at_ : ∀ (n : Nat) (o : HOb) (a : Addr), hm[n]? = some o → ρ[n]? = some a → ORel G K ρ H a o
  inj : ∀ (m n : Nat) (a : Addr) (om on : HOb), hm[m]? = some om → hm[n]? = some on → om.mut = true → on.mut = true → ρ[m]? = some a → ρ[n]? = some a → m = n
  tabs : LamX.Tabs G.T H

section
variable {G : Glo} {K : PySem.W.Frag} {ρ ρ' : List Addr} {hm : Hm} {H H' : Hp} {a p : Addr}
theorem KRel.fwd (f : Fwd ρ H ρ' H') {x : List (Key × D)} {y : List (Key × V)} (h : KRel K ρ H x y) : KRel K ρ' H' x y := Paired.mapP h fun _ _ z => ⟨z.1, z.2.fwd f⟩
theorem ORel.fwd (f : Fwd ρ H ρ' H') {o : HOb} (st : o.mut = true → ∀ u, H a = some u → H' a = some u) (h : ORel G K ρ H a o) : ORel G K ρ' H' a o := by
  cases o with
  | lst ds => obtain ⟨vs, e, r⟩ := h; exact ⟨vs, st rfl _ e, r.fwd f⟩
  | rol ds =>
    obtain ⟨vs, e, r⟩ := h
    refine ⟨vs, ?_, r.fwd f⟩
    rcases e with ⟨o, e⟩ | e
    · exact .inl ⟨o, f.frz _ _ _ e⟩
    · exact .inr e
  | dct kvs => obtain ⟨vs, e, r⟩ := h; exact ⟨vs, st rfl _ e, KRel.fwd f r⟩
  | exc c fs =>
    obtain ⟨d, e, r⟩ := h
    refine ⟨d, f.ext _ _ e, ?_⟩
    rcases r with r | ⟨dd, vs, e1, e2, r⟩
    · exact .inl r
    · exact .inr ⟨dd, vs, e1, f.xd _ _ e2, Paired.mapP r fun _ _ z => ⟨z.1, z.2.fwd f⟩⟩
theorem ORel.some_of {o : HOb} (mu : o.mut = true) (h : ORel G K ρ H a o) : ∃ u, H a = some u ∧ Mut (some u) ∧ (∀ ps, u ≠ .tbl ps) ∧ ∀ φ, u ≠ .ext φ := by
  cases o with
  | lst ds => obtain ⟨vs, e, _⟩ := h; exact ⟨_, e, True.intro, (fun ps z => by cases z), (fun φ z => by cases z)⟩
  | dct kvs => obtain ⟨vs, e, _⟩ := h; exact ⟨_, e, True.intro, (fun ps z => by cases z), (fun φ z => by cases z)⟩
  | rol ds => cases mu
  | exc c fs => cases mu
/-- all that is tracked stays, but the tables (these as they must) -/
theorem HRel.stay (h : HRel G K ρ hm H) (f : Fwd ρ H ρ H') (st : ∀ b u, H b = some u → (∀ ps, u ≠ .tbl ps) → H' b = some u) (tb : LamX.Tabs G.T H') : HRel G K ρ hm H' :=
  ⟨h.len, fun n o a e1 e2 => (h.at_ n o a e1 e2).fwd f fun mu u e => by
    obtain ⟨u', e', _, nt, _⟩ := (h.at_ n o a e1 e2).some_of mu
    rw [e'] at e
    cases e
    exact st _ _ e' nt, h.inj, tb⟩
/-- something new, not known to the small heap -/
theorem Fwd.new {o : HO} (hp : H p = none) (pre : ∀ (n : Nat) (b : Addr), ρ[n]? = some b → ρ'[n]? = some b) : Fwd ρ H ρ' (upd H p o) :=
  ⟨pre, fun b xs e => by rw [upd_ne (ne_of_none e hp)]; exact e, fun b o u e => by rw [upd_ne (ne_of_none e hp)]; exact e, fun b φ e => by rw [upd_ne (ne_of_none e hp)]; exact e, fun b φ e => by rw [upd_ne (ne_of_none e hp)]; exact e⟩
theorem HRel.aside {o : HO} (h : HRel G K ρ hm H) (hp : H p = none) : HRel G K ρ hm (upd H p o) ∧ Fwd ρ H ρ (upd H p o) := by
  have f : Fwd ρ H ρ (upd H p o) := Fwd.new hp fun _ _ e => e
  refine ⟨h.stay f (fun b u e _ => by rw [upd_ne (ne_of_none e hp)]; exact e) (h.tabs.ext fun b u e => by rw [upd_ne (ne_of_none e hp)]; exact e), f⟩
theorem get_snoc {α : Type} {l : List α} {x y : α} {n : Nat} (h : (l ++ [x])[n]? = some y) : l[n]? = some y ∨ (n = l.length ∧ y = x) := by
  by_cases hn : n < l.length
  · rw [List.getElem?_append_left hn] at h; exact .inl h
  · rw [List.getElem?_append_right (by omega)] at h
    by_cases e : n = l.length
    · subst e; simp at h; exact .inr ⟨rfl, h.symm⟩
    · rw [List.getElem?_eq_none (by simp; omega)] at h; cases h
theorem snoc_pre {α : Type} {l : List α} {x y : α} {n : Nat} (h : l[n]? = some y) : (l ++ [x])[n]? = some y := by
  rw [List.getElem?_append_left (List.getElem?_eq_some_iff.mp h).1]; exact h
/-- something new that the small heap gets too -/
theorem HRel.new {o : HOb} {u : HO} (h : HRel G K ρ hm H) (hp : H p = none) (new : Fwd ρ H (ρ ++ [p]) (upd H p u) → ORel G K (ρ ++ [p]) (upd H p u) p o) :
    HRel G K (ρ ++ [p]) (hm ++ [o]) (upd H p u) ∧ Fwd ρ H (ρ ++ [p]) (upd H p u) ∧ (ρ ++ [p])[hm.length]? = some p := by
  have f : Fwd ρ H (ρ ++ [p]) (upd H p u) := Fwd.new hp fun _ _ e => snoc_pre e
  have hl := h.len
  have old : ∀ {n : Nat} {o' : HOb} {a : Addr}, hm[n]? = some o' → (ρ ++ [p])[n]? = some a → ρ[n]? = some a := fun {n o' a} e1 e2 => by
    have hn := (List.getElem?_eq_some_iff.mp e1).1
    rw [List.getElem?_append_left (by omega)] at e2
    exact e2
  have fresh : ∀ {n : Nat} {o' : HOb} {a : Addr}, hm[n]? = some o' → ρ[n]? = some a → o'.mut = true → a ≠ p := fun {n o' a} e1 e2 mu => by
    obtain ⟨u', e', _, _, _⟩ := (h.at_ n o' a e1 e2).some_of mu
    exact ne_of_none e' hp
  refine ⟨⟨by simp [hl], fun n o' a e1 e2 => ?_, fun m n a om on e1 e2 mu1 mu2 e3 e4 => ?_, h.tabs.ext fun b u e => by rw [upd_ne (ne_of_none e hp)]; exact e⟩, f, ?_⟩
  · rcases get_snoc e1 with e1' | ⟨rfl, rfl⟩
    · have e2' := old e1' e2
      exact (h.at_ n o' a e1' e2').fwd f fun mu u' e => by rw [upd_ne (fresh e1' e2' mu)]; exact e
    · have ea : a = p := by
        rw [← hl] at e2
        simp at e2
        exact e2.symm
      subst ea
      exact new f
  · rcases get_snoc e1 with e1' | ⟨rfl, rfl⟩
    · rcases get_snoc e2 with e2' | ⟨rfl, rfl⟩
      · exact h.inj m n a om on e1' e2' mu1 mu2 (old e1' e3) (old e2' e4)
      · exfalso
        have ea : a = p := by rw [← hl] at e4; simp at e4; exact e4.symm
        exact fresh e1' (old e1' e3) mu1 ea
    · rcases get_snoc e2 with e2' | ⟨rfl, rfl⟩
      · exfalso
        have ea : a = p := by rw [← hl] at e3; simp at e3; exact e3.symm
        exact fresh e2' (old e2' e4) mu2 ea
      · rfl
  · rw [← hl]; simp
/-- an object is changed -/
theorem HRel.put {n : Nat} {o o' : HOb} {u : HO} (h : HRel G K ρ hm H) (hn : hm[n]? = some o) (ha : ρ[n]? = some a) (mu : o.mut = true) (new : Fwd ρ H ρ (upd H a u) → ORel G K ρ (upd H a u) a o') (mu' : o'.mut = true) :
    HRel G K ρ (hm.set n o') (upd H a u) ∧ Fwd ρ H ρ (upd H a u) := by
  obtain ⟨w, ew, mw, nt, nx⟩ := (h.at_ n o a hn ha).some_of mu
  have ne : ∀ b x, H b = some x → ¬ Mut (some x) → b ≠ a := fun b x e nm z => by
    subst z; rw [ew] at e; cases e; exact nm mw
  have f : Fwd ρ H ρ (upd H a u) := ⟨fun _ _ e => e, fun b xs e => by rw [upd_ne (ne b _ e fun z => z)]; exact e, fun b o u e => by rw [upd_ne (ne b _ e fun z => z)]; exact e, fun b φ e => by rw [upd_ne (fun z => by subst z; rw [ew] at e; cases e; exact nx φ rfl)]; exact e, fun b φ e => by rw [upd_ne (ne b _ e fun z => z)]; exact e⟩
  refine ⟨⟨by rw [List.length_set]; exact h.len, fun m om b e1 e2 => ?_, fun m k b om ok e1 e2 mu1 mu2 e3 e4 => ?_, fun q hq => ?_⟩, f⟩
  · by_cases hm' : m = n
    · subst hm'
      rw [List.getElem?_set_self (List.getElem?_eq_some_iff.mp hn).1] at e1
      cases e1
      rw [ha] at e2
      cases e2
      exact new f
    · rw [List.getElem?_set_ne (Ne.symm hm')] at e1
      exact (h.at_ m om b e1 e2).fwd f fun mu1 u' e => by
        have : b ≠ a := fun z => hm' (h.inj m n a om o e1 hn mu1 mu (z ▸ e2) ha)
        rw [upd_ne this]; exact e
  · have get : ∀ {j : Nat} {oj : HOb}, (hm.set n o')[j]? = some oj → oj.mut = true → ∃ oj' : HOb, hm[j]? = some oj' ∧ oj'.mut = true := fun {j oj} e mj => by
      by_cases hj : j = n
      · subst hj; exact ⟨o, hn, mu⟩
      · rw [List.getElem?_set_ne (Ne.symm hj)] at e; exact ⟨oj, e, mj⟩
    obtain ⟨o1, g1, m1⟩ := get e1 mu1
    obtain ⟨o2, g2, m2⟩ := get e2 mu2
    exact h.inj m k b o1 o2 g1 g2 m1 m2 e3 e4
  · obtain ⟨ps, h1, h2, h3⟩ := h.tabs q hq
    refine ⟨ps, by rw [upd_ne (ne _ _ h1 fun z => z)]; exact h1, h2, fun pos cv hc => ?_⟩
    obtain ⟨c, e1, e2⟩ := h3 pos cv hc
    exact ⟨c, e1, f.ext _ _ e2⟩
end
end AR
end
section
/-! Ops: the operations on values, as the layer's rules have them. -/
set_option Elab.async false
set_option linter.all false
set_option maxRecDepth 100000
set_option maxHeartbeats 4000000
namespace AR
open PySem L2 PySem.Spec PyProof.Rows

def PostD (G : Glo) (K : PySem.W.Frag) (ρ : List Addr) (H : Hp) (r : R D) (Q : VK) : Prop := match r with
  | .ok d hm' => ∀ ρ' H' v, Fwd ρ H ρ' H' → HRel G K ρ' hm' H' → DRel K ρ' H' d v → Q v H'
  | _ => False
section
variable {G : Glo} {K : PySem.W.Frag} {ρ : List Addr} {hm : Hm} {H : Hp} {d e : D} {x y : V} {Q : VK} {ds : List D} {vs : List V}

theorem PostD.here {d : D} {v : V} (p : PostD G K ρ H (.ok d hm) Q) (h : HRel G K ρ hm H) (r : DRel K ρ H d v) : Q v H := p ρ H v (Fwd.refl _ _) h r
theorem PostD.asB {b : Bool} {o : Option Bool} (p : PostD G K ρ H (asB hm o) Q) (h : HRel G K ρ hm H) : ∃ b, o = some b ∧ Q (.bl b) H := by
  cases o with
  | none => exact p.elim
  | some b => exact ⟨b, rfl, PostD.here p h (by simp [DRel])⟩

/-! ### shapes -/
theorem dr_int {i : Int} (h : DRel K ρ H (.int i) x) : x = .int i := by simpa [DRel] using h
theorem dr_bl {i : Bool} (h : DRel K ρ H (.bl i) x) : x = .bl i := by simpa [DRel] using h
theorem dr_str {i : Str} (h : DRel K ρ H (.str i) x) : x = .str i := by simpa [DRel] using h
theorem dr_non (h : DRel K ρ H .non x) : x = .non := by simpa [DRel] using h
theorem dr_tup (h : DRel K ρ H (.tup ds) x) : ∃ a vs, x = .ref a ∧ SqT K H a vs ∧ DRels K ρ H ds vs := by simpa [DRel] using h
theorem dr_ref {n : Nat} (h : DRel K ρ H (.ref n) x) : ∃ a, ρ[n]? = some a ∧ x = .ref a := by simpa [DRel] using h
theorem mk_int (i : Int) : DRel K ρ H (.int i) (.int i) := by simp [DRel]
theorem mk_bl (i : Bool) : DRel K ρ H (.bl i) (.bl i) := by simp [DRel]
theorem mk_str (i : Str) : DRel K ρ H (.str i) (.str i) := by simp [DRel]
theorem mk_non : DRel K ρ H .non .non := by simp [DRel]
theorem mk_tup {a : Addr} (s : SqT K H a vs) (r : DRels K ρ H ds vs) : DRel K ρ H (.tup ds) (.ref a) := by simp only [DRel]; exact ⟨a, vs, rfl, s, r⟩
theorem mk_ref {n : Nat} {a : Addr} (e : ρ[n]? = some a) : DRel K ρ H (.ref n) (.ref a) := by simp only [DRel]; exact ⟨a, e, rfl⟩
theorem at_lst {n : Nat} {xs : List D} {a : Addr} (h : HRel G K ρ hm H) (e : hm[n]? = some (.lst xs)) (ea : ρ[n]? = some a) : ∃ vs, H a = some (.lst vs) ∧ DRels K ρ H xs vs := h.at_ n _ a e ea
theorem at_dct {n : Nat} {xs : List (Key × D)} {a : Addr} (h : HRel G K ρ hm H) (e : hm[n]? = some (.dct xs)) (ea : ρ[n]? = some a) : ∃ vs, H a = some (.dK vs) ∧ KRel K ρ H xs vs := h.at_ n _ a e ea
theorem at_rol {n : Nat} {xs : List D} {a : Addr} (h : HRel G K ρ hm H) (e : hm[n]? = some (.rol xs)) (ea : ρ[n]? = some a) : ∃ vs, SqL K H a vs ∧ DRels K ρ H xs vs := by
  obtain ⟨vs, z, r⟩ := h.at_ n _ a e ea
  refine ⟨vs, ?_, r⟩
  rcases z with ⟨o, z⟩ | z
  · exact .inl (.inr ⟨o, z⟩)
  · rcases z with z | z
    · rcases z with z | ⟨o, z⟩ <;> cases z
    · exact .inr z
/-- the items of a list or a tuple -/
theorem seq_s (h : HRel G K ρ hm H) (r : DRel K ρ H d x) (e : seqOf hm d = some ds) : ∃ a vs, x = .ref a ∧ DRels K ρ H ds vs ∧
    ((∃ n, d = .ref n ∧ SqL K H a vs ∧ ρ[n]? = some a ∧ (hm[n]? = some (.lst ds) ∨ hm[n]? = some (.rol ds))) ∨ (d = .tup ds ∧ SqT K H a vs)) := by
  unfold seqOf at e
  split at e
  · cases e
    obtain ⟨a, vs, rfl, s, rs⟩ := dr_tup r
    exact ⟨a, vs, rfl, rs, .inr ⟨rfl, s⟩⟩
  · rename_i n
    obtain ⟨a, ea, rfl⟩ := dr_ref r
    split at e
    · rename_i xs hx
      cases e
      obtain ⟨vs, hv, rs⟩ := at_lst h hx ea
      exact ⟨a, vs, rfl, rs, .inl ⟨n, rfl, .inl (.inl hv), ea, .inl hx⟩⟩
    · rename_i xs hx
      cases e
      obtain ⟨vs, hv, rs⟩ := at_rol h hx ea
      exact ⟨a, vs, rfl, rs, .inl ⟨n, rfl, hv, ea, .inr hx⟩⟩
    · cases e
  · cases e

/-! ### new things -/
theorem new_tup (h : HRel G K ρ hm H) (rs : DRels K ρ H ds vs) (p : PostD G K ρ H (.ok (.tup ds) hm) Q) : ∀ q, H q = none → Q (.ref q) (upd H q (.tup vs)) := fun q hq => by
  obtain ⟨h2, f⟩ := h.aside (o := .tup vs) hq
  exact p ρ _ _ f h2 (mk_tup (.inl (.inl upd_same)) (rs.fwd f))
theorem new_lst (h : HRel G K ρ hm H) (rs : DRels K ρ H ds vs) (p : PostD G K ρ H (newH hm (.lst ds)) Q) : ∀ q, H q = none → Q (.ref q) (upd H q (.lst vs)) := fun q hq => by
  obtain ⟨h2, f, e⟩ := h.new (o := .lst ds) (u := .lst vs) hq fun f => ⟨vs, upd_same, rs.fwd f⟩
  exact p _ _ _ f h2 (mk_ref e)
theorem put_lst {n : Nat} {a : Addr} {xs ys : List D} {us : List V} (h : HRel G K ρ hm H) (e : hm[n]? = some (.lst xs)) (ea : ρ[n]? = some a) (rs : DRels K ρ H ys us) {z : D} {v : V} (rz : DRel K ρ H z v)
    (p : PostD G K ρ H (.ok z (hm.set n (.lst ys))) Q) : Q v (upd H a (.lst us)) := by
  obtain ⟨h2, f⟩ := h.put (o' := .lst ys) (u := .lst us) e ea rfl (fun f => ⟨us, upd_same, rs.fwd f⟩) rfl
  exact p _ _ _ f h2 (rz.fwd f)

/-! ### data -/
theorem toP_all {f : D → Option PyData} (ih : ∀ d v pd, f d = some pd → DRel K ρ H d v → Dp K H v pd) : ∀ {ds : List D} {vs : List V} {ps : List PyData}, mapO f ds = some ps → DRels K ρ H ds vs → DpAll K H vs ps
  | [], _, _, e, r => by
    rw [DRels.nil_iff.mp r]
    simp only [mapO] at e
    cases e
    exact .nil
  | d :: ds, _, _, e, r => by
    obtain ⟨v, vs', rfl, r1, r2⟩ := DRels.cons_iff.mp r
    simp only [mapO] at e
    split at e
    · rename_i y ys h1 h2
      cases e
      exact .cons (ih _ _ _ h1 r1) (toP_all ih h2 r2)
    · cases e
theorem toP_s (h : HRel G K ρ hm H) : ∀ (k : Nat) (d : D) (v : V) (pd : PyData), toP hm k d = some pd → DRel K ρ H d v → Dp K H v pd
  | k, .non, v, pd, e, r => by simp only [toP] at e; cases e; rw [dr_non r]; exact .non
  | k, .bl b, v, pd, e, r => by simp only [toP] at e; cases e; rw [dr_bl r]; exact .bl b
  | k, .int i, v, pd, e, r => by simp only [toP] at e; cases e; rw [dr_int r]; exact .int i
  | k, .str i, v, pd, e, r => by simp only [toP] at e; cases e; rw [dr_str r]; exact .str i
  | 0, .tup _, v, pd, e, r => by simp only [toP] at e; cases e
  | 0, .ref _, v, pd, e, r => by simp only [toP] at e; cases e
  | k + 1, .tup xs, v, pd, e, r => by
    simp only [toP] at e
    obtain ⟨a, vs, rfl, s, rs⟩ := dr_tup r
    cases e1 : mapO (toP hm k) xs with
    | none => rw [e1] at e; cases e
    | some ps =>
      rw [e1] at e
      cases e
      exact .tup s (toP_all (toP_s h k) e1 rs)
  | k + 1, .ref n, v, pd, e, r => by
    simp only [toP] at e
    obtain ⟨a, ea, rfl⟩ := dr_ref r
    split at e
    · rename_i xs hx
      obtain ⟨vs, hv, rs⟩ := at_lst h hx ea
      cases e1 : mapO (toP hm k) xs with
      | none => rw [e1] at e; cases e
      | some ps => rw [e1] at e; cases e; exact .lst (.inl (.inl hv)) (toP_all (toP_s h k) e1 rs)
    · rename_i xs hx
      obtain ⟨vs, hv, rs⟩ := at_rol h hx ea
      cases e1 : mapO (toP hm k) xs with
      | none => rw [e1] at e; cases e
      | some ps => rw [e1] at e; cases e; exact .lst hv (toP_all (toP_s h k) e1 rs)
    · cases e
theorem eqP_s (h : HRel G K ρ hm H) {b : Bool} (r1 : DRel K ρ H d x) (r2 : DRel K ρ H e y) (q : eqP hm d e = some b) : ∃ p1 p2, Dp K H x p1 ∧ Dp K H y p2 ∧ SeqAt.shaped p1 = true ∧ SeqAt.shaped p2 = true ∧ PyData.eqv p1 p2 = b := by
  unfold eqP at q
  split at q
  · rename_i p1 p2 h1 h2
    split at q
    · rename_i hs
      cases q
      exact ⟨p1, p2, toP_s h 64 _ _ _ h1 r1, toP_s h 64 _ _ _ h2 r2, hs.1, hs.2, rfl⟩
    · cases q
  · cases q
theorem eq_s (h : HRel G K ρ hm H) (r1 : DRel K ρ H d x) (r2 : DRel K ρ H e y) (p : PostD G K ρ H (asB hm (eqP hm d e)) Q) : rEqD K x y H Q := by
  obtain ⟨b, e1, q⟩ := PostD.asB (b := true) p h
  obtain ⟨p1, p2, a1, a2, a3, a4, a5⟩ := eqP_s h r1 r2 e1
  exact ⟨p1, p2, a1, a2, a3, a4, by rw [a5]; exact q⟩
theorem ne_s (h : HRel G K ρ hm H) (r1 : DRel K ρ H d x) (r2 : DRel K ρ H e y) (p : PostD G K ρ H (asB hm ((eqP hm d e).map (!·))) Q) : rNeD K x y H Q := by
  obtain ⟨b, e1, q⟩ := PostD.asB (b := true) p h
  cases e2 : eqP hm d e with
  | none => rw [e2] at e1; cases e1
  | some c =>
    rw [e2] at e1
    cases e1
    obtain ⟨p1, p2, a1, a2, a3, a4, a5⟩ := eqP_s h r1 r2 e2
    exact ⟨p1, p2, a1, a2, a3, a4, by rw [a5]; exact q⟩

/-! ### arithmetic -/
def orR (a b : R2) : R2 := fun x y H Q => a x y H Q ∨ b x y H Q
theorem OpR.or {X : Cx} {f : Value → Value → Sem Value} {a b : R2} (h : OpR X f a) (g : OpR X f b) : OpR X f (orR a b) := fun pins s σ H x y v u Q I rx ry q => q.elim (h pins s σ H x y v u Q I rx ry) (g pins s σ H x y v u Q I rx ry)
def rAddS : R2 := fun x y H Q => ∃ i j, x = .str i ∧ y = .str j ∧ i.length + j.length ≤ sizeLine ∧ Q (.str (i ++ j)) H
def rAddA (K : PySem.W.Frag) : R2 := orR (rI0 fun i j => .int (i + j)) (orR rAddS (orR (rCatT K) rCat))
theorem op_addA {X : Cx} : OpR X (binaryOp .Add) (rAddA X.K) := OpR.or op_add (OpR.or op_add_str (OpR.or op_catT op_cat))
theorem add_s (h : HRel G K ρ hm H) (r1 : DRel K ρ H d x) (r2 : DRel K ρ H e y) (p : PostD G K ρ H (dAdd hm d e) Q) : rAddA K x y H Q := by
  unfold dAdd at p
  split at p <;> try (exact p.elim)
  · rw [dr_int r1, dr_int r2]
    exact .inl ⟨_, _, rfl, rfl, p.here h (mk_int _)⟩
  · rw [dr_str r1, dr_str r2]
    split at p
    · rename_i hz
      exact .inr (.inl ⟨_, _, rfl, rfl, hz, p.here h (mk_str _)⟩)
    · exact p.elim
  · obtain ⟨a, vs, rfl, s1, rs1⟩ := dr_tup r1
    obtain ⟨b, us, rfl, s2, rs2⟩ := dr_tup r2
    split at p
    · rename_i hz
      have l1 := rs1.len
      have l2 := rs2.len
      refine .inr (.inr (.inl ⟨a, b, vs, us, rfl, rfl, s1, s2, ?_, by omega, fun z => ?_, fun z => ?_⟩))
      · intro z
        subst z
        exact hz.1 (List.length_eq_zero_iff.mp (by simpa using l1))
      · subst z
        have e2 := List.length_eq_zero_iff.mp (show _ = 0 by simpa using l2)
        subst e2
        rw [List.append_nil] at p
        exact p.here h (mk_tup s1 rs1)
      · exact new_tup h (rs1.app rs2) p
    · exact p.elim
  · rename_i m n
    obtain ⟨a, ea, rfl⟩ := dr_ref r1
    obtain ⟨b, eb, rfl⟩ := dr_ref r2
    split at p
    · rename_i xs ys h1 h2
      obtain ⟨vs, hv, rs⟩ := at_lst h h1 ea
      obtain ⟨us, hu, ru⟩ := at_lst h h2 eb
      split at p
      · rename_i hz
        have l1 := rs.len
        have l2 := ru.len
        exact .inr (.inr (.inr ⟨a, b, vs, us, rfl, rfl, hv, hu, by omega, new_lst h (rs.app ru) p⟩))
      · exact p.elim
    · exact p.elim
def rSubA : R2 := rI0 fun i j => .int (i - j)
theorem sub_s (h : HRel G K ρ hm H) (r1 : DRel K ρ H d x) (r2 : DRel K ρ H e y) (p : PostD G K ρ H (dSub hm d e) Q) : rSubA x y H Q := by
  unfold dSub at p
  split at p <;> try (exact p.elim)
  rw [dr_int r1, dr_int r2]
  exact ⟨_, _, rfl, rfl, p.here h (mk_int _)⟩
def rMulS : R2 := fun x y H Q => ∃ z k, x = .str z ∧ y = .int k ∧ (0 ≤ k ∧ k < 2 ^ 20 ∧ z.length * k.toNat ≤ 2 ^ 20) ∧ Q (.str (Txt.mul z k)) H
theorem mulOk_of {z : Str} {k : Int} (h0 : 0 ≤ k) (h1 : k < 2 ^ 20) (h2 : z.length * k.toNat ≤ 2 ^ 20) : MulOk z k := by
  refine ⟨by simp; omega, fun a b => ?_, fun _ _ => ?_⟩
  · intro c
    have hk : 1 ≤ k := by omega
    have hz : z.length ≤ 2 ^ 20 := Nat.le_trans (by
      have : 1 ≤ k.toNat := by omega
      exact Nat.le_mul_of_pos_right _ this) h2
    have hd : (2 ^ 63 - 1) / k ≥ (2 ^ 63 - 1) / (2 ^ 20) := by
      rw [ge_iff_le, Int.le_ediv_iff_mul_le (by omega)]
      have : (2 ^ 63 - 1 : Int) / 2 ^ 20 * k ≤ (2 ^ 63 - 1) / 2 ^ 20 * 2 ^ 20 := Int.mul_le_mul_of_nonneg_left (by omega) (by decide)
      refine Int.le_trans this (by decide)
    have h3 : ((2 ^ 63 - 1 : Int) / (2 ^ 20)) = 8796093022207 := by decide
    omega
  · unfold Builtin.Str.tooLong
    simp only [decide_eq_false_iff_not]
    have : (2 : Nat) ^ 20 ≤ sizeLine := by rw [sizeLine_eq]; decide
    omega
theorem op_mulS {X : Cx} : OpR X (binaryOp .Mult) rMulS := by
  intro pins s σ H x y v u Q I rx ry h
  obtain ⟨z, k, rfl, rfl, ⟨h0, h1, h2⟩, q⟩ := h
  obtain ⟨t, rfl⟩ := rx
  obtain ⟨t', rfl⟩ := ry
  exact SB.mul (mulOk_of h0 h1 h2) fun t2 k2 => ⟨.str _, H, I.tok _, ⟨_, rfl⟩, q⟩
def rMulA : R2 := orR (rI CMulW fun i j => .int (i * j)) rMulS
theorem op_mulA {X : Cx} : OpR X (binaryOp .Mult) rMulA := OpR.or op_mulW op_mulS
theorem mul_s (h : HRel G K ρ hm H) (r1 : DRel K ρ H d x) (r2 : DRel K ρ H e y) (p : PostD G K ρ H (dMul hm d e) Q) : rMulA x y H Q := by
  unfold dMul at p
  split at p <;> try (exact p.elim)
  · split at p
    · rename_i hz
      rw [dr_int r1, dr_int r2]
      exact .inl ⟨_, _, rfl, rfl, hz, p.here h (mk_int _)⟩
    · exact p.elim
  · split at p
    · rename_i hz
      rw [dr_str r1, dr_int r2]
      exact .inr ⟨_, _, rfl, rfl, hz, p.here h (mk_str _)⟩
    · exact p.elim
def rFdivA : R2 := orR (rI CDivN fun i j => .int (i.fdiv j)) (rI CDivW fun i j => .int (i / j))
theorem op_fdivA {X : Cx} : OpR X (binaryOp .FloorDiv) rFdivA := OpR.or op_fdivN op_fdivW
theorem fdiv_s (h : HRel G K ρ hm H) (r1 : DRel K ρ H d x) (r2 : DRel K ρ H e y) (p : PostD G K ρ H (dFdiv hm d e) Q) : rFdivA x y H Q := by
  unfold dFdiv at p
  split at p <;> try (exact p.elim)
  rw [dr_int r1, dr_int r2]
  split at p
  · rename_i hz
    exact .inl ⟨_, _, rfl, rfl, hz, p.here h (mk_int _)⟩
  · split at p
    · rename_i hz
      exact .inr ⟨_, _, rfl, rfl, hz, p.here h (mk_int _)⟩
    · exact p.elim
theorem mod_s (h : HRel G K ρ hm H) (r1 : DRel K ρ H d x) (r2 : DRel K ρ H e y) (p : PostD G K ρ H (dMod hm d e) Q) : rI (fun _ j => j ≠ 0) (fun i j => .int (i.fmod j)) x y H Q := by
  unfold dMod at p
  split at p <;> try (exact p.elim)
  rw [dr_int r1, dr_int r2]
  split at p
  · rename_i hz
    exact ⟨_, _, rfl, rfl, hz, p.here h (mk_int _)⟩
  · exact p.elim
theorem pow_s (h : HRel G K ρ hm H) (r1 : DRel K ρ H d x) (r2 : DRel K ρ H e y) (p : PostD G K ρ H (dPow hm d e) Q) : rI CPow (fun i j => .int (i ^ j.toNat)) x y H Q := by
  unfold dPow at p
  split at p <;> try (exact p.elim)
  rw [dr_int r1, dr_int r2]
  split at p
  · rename_i hz
    exact ⟨_, _, rfl, rfl, hz, p.here h (mk_int _)⟩
  · exact p.elim
theorem cmp_s {f : Int → Int → Bool} (h : HRel G K ρ hm H) (r1 : DRel K ρ H d x) (r2 : DRel K ρ H e y) (p : PostD G K ρ H (dCmp f hm d e) Q) : rI0 (fun i j => .bl (f i j)) x y H Q := by
  unfold dCmp at p
  split at p <;> try (exact p.elim)
  rw [dr_int r1, dr_int r2]
  exact ⟨_, _, rfl, rfl, p.here h (mk_bl _)⟩
theorem min_s (h : HRel G K ρ hm H) (r1 : DRel K ρ H d x) (r2 : DRel K ρ H e y) (p : PostD G K ρ H (dMin hm d e) Q) : ∃ i j, [x, y] = [.int i, .int j] ∧ Q (.int (if j < i then j else i)) H := by
  unfold dMin at p
  split at p <;> try (exact p.elim)
  rw [dr_int r1, dr_int r2]
  exact ⟨_, _, rfl, p.here h (mk_int _)⟩
end
end AR
end
section
/-! Ops2: the operations on values, further. -/
set_option Elab.async false
set_option linter.all false
set_option maxRecDepth 100000
set_option maxHeartbeats 4000000
namespace AR
open PySem L2 PySem.Spec PyProof.Rows
section
variable {G : Glo} {K : PySem.W.Frag} {ρ : List Addr} {hm : Hm} {H : Hp} {d e : D} {x y : V} {Q : VK} {ds : List D} {vs : List V}

theorem PostD.okO {α : Type} {o : Option α} {f : α → D} (p : PostD G K ρ H (okO hm o f) Q) : ∃ a, o = some a ∧ PostD G K ρ H (.ok (f a) hm) Q := by
  cases o with
  | none => exact p.elim
  | some a => exact ⟨a, rfl, p⟩
/-! ### in -/
theorem flat_s : ∀ {d : D} {v : V}, flatD d = true → DRel K ρ H d v → flatV v = true
  | .non, _, _, r => by rw [dr_non r]; rfl
  | .bl _, _, _, r => by rw [dr_bl r]; rfl
  | .int _, _, _, r => by rw [dr_int r]; rfl
  | .str _, _, _, r => by rw [dr_str r]; rfl
  | .tup _, _, h, _ => by simp [flatD] at h
  | .ref _, _, h, _ => by simp [flatD] at h
theorem flats_s : ∀ {ds : List D} {vs : List V}, ds.all flatD = true → DRels K ρ H ds vs → vs.all flatV = true
  | [], _, _, r => by rw [DRels.nil_iff.mp r]; rfl
  | d :: ds, _, h, r => by
    obtain ⟨v, vs', rfl, r1, r2⟩ := DRels.cons_iff.mp r
    rw [List.all_cons, Bool.and_eq_true] at h ⊢
    exact ⟨flat_s h.1 r1, flats_s h.2 r2⟩
theorem eqFlat_s {a b : D} {v u : V} (ha : flatD a = true) (hb : flatD b = true) (r1 : DRel K ρ H a v) (r2 : DRel K ρ H b u) : eqV v u = eqFlat a b := by
  cases a <;> first | (simp [flatD] at ha; done) | skip
  all_goals (cases b <;> first | (simp [flatD] at hb; done) | skip)
  all_goals simp only [DRel] at r1 r2
  all_goals (subst r1; subst r2; rfl)
theorem anyFlat_s {a : D} {v : V} (ha : flatD a = true) (r1 : DRel K ρ H a v) : ∀ {ds : List D} {vs : List V}, ds.all flatD = true → DRels K ρ H ds vs → inV v vs = ds.any fun y => eqFlat y a
  | [], _, _, r => by rw [DRels.nil_iff.mp r]; rfl
  | d :: ds, _, h, r => by
    obtain ⟨u, vs', rfl, r2, r3⟩ := DRels.cons_iff.mp r
    rw [List.all_cons, Bool.and_eq_true] at h
    have ih := anyFlat_s ha r1 h.2 r3
    unfold inV at ih ⊢
    rw [List.any_cons, List.any_cons, ih, eqFlat_s h.1 ha r2 r1]
def rSign (neg : Bool) : R2 := fun x y H Q => ∃ (c : Nat) (z : Str), x = .str ⟨#[c]⟩ ∧ y = .str z ∧ Q (.bl (if neg then !decide (c ∈ z.cps.toList) else decide (c ∈ z.cps.toList))) H
def rInA (K : PySem.W.Frag) (neg : Bool) : R2 := orR (rSign neg) (rIn K neg)
theorem op_inA {X : Cx} : OpR X (compareOp .In) (rInA X.K false) := OpR.or (fun pins s σ H x y v u Q I rx ry h => op_in_sign pins s σ H x y v u Q I rx ry (by obtain ⟨c, z, a, b, q⟩ := h; exact ⟨c, z, a, b, q⟩)) op_in_seq
theorem op_notinA {X : Cx} : OpR X (compareOp .NotIn) (rInA X.K true) := OpR.or (fun pins s σ H x y v u Q I rx ry h => op_notIn_sign pins s σ H x y v u Q I rx ry (by obtain ⟨c, z, a, b, q⟩ := h; exact ⟨c, z, a, b, q⟩)) op_notIn_seq
theorem isIn_s (h : HRel G K ρ hm H) {b : Bool} (r1 : DRel K ρ H d x) (r2 : DRel K ρ H e y) (q : isInD hm d e = some b) (neg : Bool) (p : Q (.bl (if neg then !b else b)) H) : rInA K neg x y H Q := by
  unfold isInD at q
  split at q
  · rename_i z hz
    split at q
    · rename_i c hc
      cases q
      cases e <;> first | (simp [txtOf] at hz; done) | skip
      simp only [txtOf, Option.some.injEq] at hz
      subst hz
      cases d <;> first | (simp [signOf] at hc; done) | skip
      rename_i s
      simp only [signOf] at hc
      split at hc
      · rename_i c' hs
        cases hc
        have es : s = ⟨#[c]⟩ := by
          cases s with
          | mk cps => congr 1; exact Array.ext' (by simpa using hs)
        subst es
        rw [dr_str r1, dr_str r2]
        exact .inl ⟨c, _, rfl, rfl, p⟩
      · cases hc
    · cases q
  · split at q
    · rename_i xs hx
      unfold inSeq at q
      split at q
      · rename_i hf
        cases q
        obtain ⟨a, vs, rfl, rs, hq⟩ := seq_s h r2 hx
        refine .inr ⟨a, vs, rfl, ?_, flat_s hf.1 r1, flats_s hf.2 rs, ?_⟩
        · rcases hq with ⟨n, _, hl, _⟩ | ⟨_, ht⟩
          · exact .inl hl
          · exact .inr ht
        · rw [anyFlat_s hf.1 r1 hf.2 rs]
          exact p
      · cases q
    · cases q
theorem in_s (h : HRel G K ρ hm H) (r1 : DRel K ρ H d x) (r2 : DRel K ρ H e y) (p : PostD G K ρ H (asB hm (isInD hm d e)) Q) : rInA K false x y H Q := by
  obtain ⟨b, e1, q⟩ := PostD.asB (b := true) p h
  exact isIn_s h r1 r2 e1 false q
theorem notin_s (h : HRel G K ρ hm H) (r1 : DRel K ρ H d x) (r2 : DRel K ρ H e y) (p : PostD G K ρ H (asB hm ((isInD hm d e).map (!·))) Q) : rInA K true x y H Q := by
  obtain ⟨b, e1, q⟩ := PostD.asB (b := true) p h
  cases e2 : isInD hm d e with
  | none => rw [e2] at e1; cases e1
  | some c =>
    rw [e2] at e1
    cases e1
    exact isIn_s h r1 r2 e2 true q
/-! ### one place -/
theorem neg_s (h : HRel G K ρ hm H) (r : DRel K ρ H d x) (p : PostD G K ρ H (dNeg hm d) Q) : rU (fun i => .int (-i)) x H Q := by
  unfold dNeg at p
  split at p <;> try (exact p.elim)
  rw [dr_int r]
  exact ⟨_, rfl, p.here h (mk_int _)⟩
theorem len_s (h : HRel G K ρ hm H) (r : DRel K ρ H d x) (p : PostD G K ρ H (dLen hm d) Q) : ∃ y n, [x] = [y] ∧ LenV K y H n ∧ Q (.int n) H := by
  unfold dLen at p
  split at p
  · rename_i z
    rw [dr_str r]
    split at p
    · rename_i hz
      exact ⟨_, _, rfl, ⟨hz, rfl⟩, p.here h (mk_int _)⟩
    · exact p.elim
  · split at p
    · rename_i xs hx
      obtain ⟨a, vs, rfl, rs, hq⟩ := seq_s h r hx
      have q := p.here h (mk_int _)
      refine ⟨.ref a, vs.length, rfl, ?_, by rw [← rs.len]; exact q⟩
      rcases hq with ⟨n, _, hl, _⟩ | ⟨_, ht⟩
      · exact .inl ⟨vs, hl, rfl⟩
      · exact .inr ⟨vs, ht, rfl⟩
    · exact p.elim
theorem abs_s (h : HRel G K ρ hm H) (r : DRel K ρ H d x) (p : PostD G K ρ H (dAbs hm d) Q) : ∃ i, [x] = [.int i] ∧ Q (.int (if i < 0 then -i else i)) H := by
  unfold dAbs at p
  split at p <;> try (exact p.elim)
  rw [dr_int r]
  exact ⟨_, rfl, p.here h (mk_int _)⟩
def orC (a b : List V → Hp → VK → Prop) : List V → Hp → VK → Prop := fun xs H Q => a xs H Q ∨ b xs H Q
theorem CallR.orC {X : Cx} {f : Value} {a b : List V → Hp → VK → Prop} (h : CallR X f a) (g : CallR X f b) : CallR X f (orC a b) := fun pins s σ H xs us Q I r q => q.elim (h pins s σ H xs us Q I r) (g pins s σ H xs us Q I r)
def rInt0 : List V → Hp → VK → Prop := fun xs H Q => (∃ i, xs = [.int i] ∧ Q (.int i) H) ∨ ∃ k, xs = [.bl k] ∧ Q (.int (if k then 1 else 0)) H
def rIntS : List V → Hp → VK → Prop := fun xs H Q => ∃ a n, xs = [.str a] ∧ PySem.intText? a = some n ∧ a.length ≤ 640 ∧ Q (.int n) H
def rIntA : List V → Hp → VK → Prop := orC rInt0 rIntS
theorem call_intA {X : Cx} : CallR X (.type "int") rIntA := CallR.orC call_int1 call_int_str
theorem int_s (h : HRel G K ρ hm H) (r : DRel K ρ H d x) (p : PostD G K ρ H (dInt hm d) Q) : rIntA [x] H Q := by
  unfold dInt at p
  split at p <;> try (exact p.elim)
  · rw [dr_int r]; exact .inl (.inl ⟨_, rfl, p.here h (mk_int _)⟩)
  · rw [dr_bl r]; exact .inl (.inr ⟨_, rfl, p.here h (mk_int _)⟩)
  · rw [dr_str r]
    split at p
    · rename_i hz
      obtain ⟨n, e, p⟩ := PostD.okO p
      exact .inr ⟨_, n, rfl, e, hz, p.here h (mk_int _)⟩
    · exact p.elim
def rStrI : List V → Hp → VK → Prop := fun xs H Q => ∃ i, xs = [.int i] ∧ i.natAbs.log2 < 1920 ∧ Q (.str (toString i)) H
def rStrS : List V → Hp → VK → Prop := fun xs H Q => ∃ a, xs = [.str a] ∧ Q (.str a) H
def rStrA : List V → Hp → VK → Prop := orC rStrI rStrS
theorem call_strA {X : Cx} : CallR X (.type "str") rStrA := CallR.orC call_str_int SkE.call_str_str
theorem str_s (h : HRel G K ρ hm H) (r : DRel K ρ H d x) (p : PostD G K ρ H (dStr hm d) Q) : rStrA [x] H Q := by
  unfold dStr at p
  split at p <;> try (exact p.elim)
  · rw [dr_int r]
    split at p
    · rename_i hz
      exact .inl ⟨_, rfl, hz, p.here h (mk_str _)⟩
    · exact p.elim
  · rw [dr_str r]; exact .inr ⟨_, rfl, p.here h (mk_str _)⟩
theorem bools_s : ∀ {ds : List D} {vs : List V} {bs : List Bool}, bools ds = some bs → DRels K ρ H ds vs → vs = bs.map V.bl
  | [], _, _, e, r => by rw [DRels.nil_iff.mp r]; simp only [bools] at e; cases e; rfl
  | .bl b :: ds, _, bs, e, r => by
    obtain ⟨v, vs', rfl, r1, r2⟩ := DRels.cons_iff.mp r
    simp only [bools] at e
    cases e2 : bools ds with
    | none => rw [e2] at e; cases e
    | some cs =>
      rw [e2] at e
      cases e
      rw [dr_bl r1, bools_s e2 r2]
      rfl
  | .non :: _, _, _, e, _ => by simp [bools] at e
  | .int _ :: _, _, _, e, _ => by simp [bools] at e
  | .str _ :: _, _, _, e, _ => by simp [bools] at e
  | .tup _ :: _, _, _, e, _ => by simp [bools] at e
  | .ref _ :: _, _, _, e, _ => by simp [bools] at e
theorem txts_s : ∀ {ds : List D} {vs : List V} {bs : List Str}, txts ds = some bs → DRels K ρ H ds vs → vs = bs.map V.str
  | [], _, _, e, r => by rw [DRels.nil_iff.mp r]; simp only [txts] at e; cases e; rfl
  | .str b :: ds, _, bs, e, r => by
    obtain ⟨v, vs', rfl, r1, r2⟩ := DRels.cons_iff.mp r
    simp only [txts] at e
    cases e2 : txts ds with
    | none => rw [e2] at e; cases e
    | some cs =>
      rw [e2] at e
      cases e
      rw [dr_str r1, txts_s e2 r2]
      rfl
  | .non :: _, _, _, e, _ => by simp [txts] at e
  | .int _ :: _, _, _, e, _ => by simp [txts] at e
  | .bl _ :: _, _, _, e, _ => by simp [txts] at e
  | .tup _ :: _, _, _, e, _ => by simp [txts] at e
  | .ref _ :: _, _, _, e, _ => by simp [txts] at e
def rBoolsF (K : PySem.W.Frag) (f : List Bool → Bool) : List V → Hp → VK → Prop := fun vs H Q => ∃ (a : Addr) (bs : List Bool), vs = [V.ref a] ∧ SqL K H a (bs.map V.bl) ∧ Q (.bl (f bs)) H
theorem bools2_s {f : List Bool → Bool} (h : HRel G K ρ hm H) (r : DRel K ρ H d x) (p : PostD G K ρ H (dBools f hm d) Q) : rBoolsF K f [x] H Q := by
  unfold dBools at p
  split at p <;> try (exact p.elim)
  obtain ⟨a, ea, rfl⟩ := dr_ref r
  split at p <;> try (exact p.elim)
  rename_i xs hx
  obtain ⟨vs, hv, rs⟩ := at_lst h hx ea
  obtain ⟨bs, e1, p⟩ := PostD.okO p
  have e2 := bools_s e1 rs
  subst e2
  exact ⟨a, bs, rfl, .inl (.inl hv), p.here h (mk_bl _)⟩
def rTupOf (K : PySem.W.Frag) : List V → Hp → VK → Prop := fun xs H Q => ∃ p ys, xs = [.ref p] ∧ ((SqL K H p ys ∧ ∀ l, H l = none → Q (.ref l) (upd H l (.tup ys))) ∨ (SqT K H p ys ∧ Q (.ref p) H))
theorem tupleOf_s (h : HRel G K ρ hm H) (r : DRel K ρ H d x) (p : PostD G K ρ H (okO hm (seqOf hm d) .tup) Q) : rTupOf K [x] H Q := by
  obtain ⟨xs, e1, p⟩ := PostD.okO p
  obtain ⟨a, vs, rfl, rs, hq⟩ := seq_s h r e1
  rcases hq with ⟨n, _, hl, _⟩ | ⟨_, ht⟩
  · exact ⟨a, vs, rfl, .inl ⟨hl, new_tup h rs p⟩⟩
  · exact ⟨a, vs, rfl, .inr ⟨ht, p.here h (mk_tup ht rs)⟩⟩
def rListOf (K : PySem.W.Frag) : List V → Hp → VK → Prop := fun xs H Q => ∃ p ys, xs = [.ref p] ∧ (SqL K H p ys ∨ SqT K H p ys) ∧ ∀ l, H l = none → Q (.ref l) (upd H l (.lst ys))
theorem listOf_s (h : HRel G K ρ hm H) (r : DRel K ρ H d x) (p : PostD G K ρ H (dListOf hm d) Q) : rListOf K [x] H Q := by
  unfold dListOf at p
  split at p <;> try (exact p.elim)
  rename_i xs e1
  obtain ⟨a, vs, rfl, rs, hq⟩ := seq_s h r e1
  refine ⟨a, vs, rfl, ?_, new_lst h rs p⟩
  rcases hq with ⟨n, _, hl, _⟩ | ⟨_, ht⟩
  · exact .inl hl
  · exact .inr ht
/-! ### index, slices -/
theorem atI_s {i : Int} (rs : DRels K ρ H ds vs) (e : atI ds i = some d) : ∃ v, atI vs i = some v ∧ DRel K ρ H d v := by
  unfold atI at e ⊢
  rw [← rs.len]
  cases q : ixN ds.length i with
  | none => rw [q] at e; cases e
  | some j =>
    rw [q] at e
    exact rs.get e
def rIxDct : R2 := fun x y H Q => ∃ a v, x = .ref a ∧ DGet H a y (some v) ∧ Q v H
theorem val_s {kvs : List (Key × D)} {us : List (Key × V)} (r : KRel K ρ H kvs us) (k : Key) : (valD kvs k = none ∧ valV us k = none) ∨ ∃ d v, valD kvs k = some d ∧ valV us k = some v ∧ DRel K ρ H d v := by
  unfold valD valV
  induction r with
  | nil => exact .inl ⟨rfl, rfl⟩
  | @cons p q xs ys h1 h2 ih =>
    by_cases e : p.1 = k
    · have e' : q.1 = k := h1.1 ▸ e
      refine .inr ⟨p.2, q.2, ?_, ?_, h1.2⟩
      · simp [List.find?, e]
      · simp [List.find?, e']
    · have e' : ¬ q.1 = k := fun z => e (h1.1.trans z)
      rcases ih with ⟨a, b⟩ | ⟨d, v, a, b, c⟩
      · exact .inl ⟨by simpa [List.find?, e] using a, by simpa [List.find?, e'] using b⟩
      · exact .inr ⟨d, v, by simpa [List.find?, e] using a, by simpa [List.find?, e'] using b, c⟩
theorem key_s {k : Key} (e : keyOf d = some k) (r : DRel K ρ H d x) : x = kV k := by
  unfold keyOf at e
  split at e <;> cases e
  · rw [dr_int r]; rfl
  · rw [dr_str r]; rfl
theorem ix_s (h : HRel G K ρ hm H) (r1 : DRel K ρ H d x) (r2 : DRel K ρ H e y) (p : PostD G K ρ H (dIx hm d e) Q) : rIx K x y H Q ∨ rIxDct x y H Q := by
  unfold dIx at p
  split at p <;> try (exact p.elim)
  · rename_i n
    obtain ⟨a, ea, rfl⟩ := dr_ref r1
    unfold dIxR at p
    split at p
    · rename_i xs hx
      split at p <;> try (exact p.elim)
      obtain ⟨vs, hv, rs⟩ := at_lst h hx ea
      obtain ⟨z, e1, p⟩ := PostD.okO p
      obtain ⟨v, e2, rz⟩ := atI_s rs e1
      rw [dr_int r2]
      exact .inl (.inl ⟨a, vs, _, v, rfl, rfl, .inl (.inl hv), e2, p.here h rz⟩)
    · rename_i xs hx
      split at p <;> try (exact p.elim)
      obtain ⟨vs, hv, rs⟩ := at_rol h hx ea
      obtain ⟨z, e1, p⟩ := PostD.okO p
      obtain ⟨v, e2, rz⟩ := atI_s rs e1
      rw [dr_int r2]
      exact .inl (.inl ⟨a, vs, _, v, rfl, rfl, hv, e2, p.here h rz⟩)
    · rename_i kvs hx
      split at p <;> try (exact p.elim)
      rename_i k hk
      obtain ⟨us, hv, rs⟩ := at_dct h hx ea
      obtain ⟨z, e1, p⟩ := PostD.okO p
      rw [key_s hk r2]
      rcases val_s rs k with ⟨z1, _⟩ | ⟨d', v, z1, z2, z3⟩
      · rw [z1] at e1; cases e1
      · rw [z1] at e1; cases e1
        refine .inr ⟨a, v, rfl, ?_, p.here h z3⟩
        rw [← z2]
        exact DGet.k hv
    · exact p.elim
  · obtain ⟨a, vs, rfl, s, rs⟩ := dr_tup r1
    obtain ⟨z, e1, p⟩ := PostD.okO p
    obtain ⟨v, e2, rz⟩ := atI_s rs e1
    rw [dr_int r2]
    exact .inl (.inr (.inl ⟨a, vs, _, v, rfl, rfl, s, e2, p.here h rz⟩))
  · rw [dr_str r1, dr_int r2]
    split at p
    · rename_i hz
      obtain ⟨c, e1, p⟩ := PostD.okO p
      exact .inl (.inr (.inr ⟨_, _, c, rfl, rfl, hz, e1, p.here h (mk_str _)⟩))
    · exact p.elim
end
end AR
end
section
/-! Ops3: the operations on values, further. -/
set_option Elab.async false
set_option linter.all false
set_option maxRecDepth 100000
set_option maxHeartbeats 4000000
namespace AR
open PySem L2 PySem.Spec PyProof.Rows

theorem extend_tupG (l : Addr) (items : Array Value) (n : Nat) (b : Addr) (items2 : Array Value) (n2 : Nat) (dd : Option Addr) (sl : Array (Option Value)) (hs0 : ¬(!items.isEmpty && Builtin.List.listTooLong (items.size + items2.size)) = true) (hs1 : items.size ≤ sizeLine) (hs2 : items.size + items2.size ≤ sizeLine + 1) :
    Meets (Builtin.«list.extend» ⟨[.ref l, .ref b], []⟩) (fun _ R s => s.heap.get? l = some { cls := .type "list", dict := none, data := .seq items n, slots := #[] } ∧ s.heap.get? b = some { cls := .type "tuple", dict := dd, data := .seq items2 n2, slots := sl } ∧ R (.ok (.ret Value.none)) { s with heap := s.heap.update l (Obj.mapSeq fun x => x ++ items2), toks := s.toks }) :=
  .of_wp fun prog w A R s h => by
    obtain ⟨hp, g, d, tk, os⟩ := s; obtain ⟨hl, hb, h⟩ := h; have f1 := AutoSeq1.idx_int; have f2 := AutoSeq1.sub_tuple_tuple; have f3 := AutoSeq1.sub_list_list; have f4 := AutoSeq1.sub_tuple_list; have f5 := AutoSeq1.sub_list_tuple;
    have hz' : (items ++ items2).size ≤ sizeLine + 1 := by rw [Array.size_append]; exact hs2
    wp_walk using (wpAny_updateSeq hl rfl (hz := hs1) (_hz' := hz')), AutoSeq1.wpAny_loadPart' hl, AutoSeq1.wpAny_loadPart' hb; exact ⟨_, rfl, h⟩
section
variable {G : Glo} {K : PySem.W.Frag} {ρ : List Addr} {hm : Hm} {H : Hp} {d e : D} {x y : V} {Q : VK} {ds : List D} {vs : List V}
/-! ### slices -/
def rSlTA (K : PySem.W.Frag) : V → Option Int → Option Int → Hp → VK → Prop := fun x lo hi H Q => ∃ a xs, x = .ref a ∧ SqT K H a xs ∧
  ¬ (HT.sIx xs.length 0 lo = 0 ∧ HT.sIx xs.length xs.length hi = xs.length) ∧ ∀ p, H p = none → Q (.ref p) (upd H p (.tup (cutV xs lo hi)))
def rSlW (K : PySem.W.Frag) : V → Option Int → Option Int → Hp → VK → Prop := fun x lo hi H Q => rSlS x lo hi H Q ∨ (rSlT K x lo hi H Q ∨ rSlL K x lo hi H Q)
theorem sl_all {X : Cx} : SlR X (rSlW X.K) := SlR.or sl_str (SlR.or sl_tup sl_list)
theorem sl_s {lo hi : Option Int} (h : HRel G K ρ hm H) (r : DRel K ρ H d x) (p : PostD G K ρ H (slD hm d lo hi) Q) : rSlW K x lo hi H Q := by
  unfold slD at p
  split at p
  · rw [dr_str r]
    split at p
    · rename_i hz
      exact .inl ⟨_, rfl, hz, p.here h (mk_str _)⟩
    · exact p.elim
  · rename_i xs
    obtain ⟨a, vs, rfl, s, rs⟩ := dr_tup r
    split at p
    · exact p.elim
    · rename_i hz
      refine .inr (.inl ⟨a, vs, rfl, s, ?_, new_tup h (rs.cut lo hi) p⟩)
      rw [← rs.len]
      exact hz
  · rename_i n
    obtain ⟨a, ea, rfl⟩ := dr_ref r
    split at p
    · rename_i xs hx
      obtain ⟨vs, hv, rs⟩ := at_lst h hx ea
      exact .inr (.inr ⟨a, vs, rfl, .inl (.inl hv), new_lst h (rs.cut lo hi) p⟩)
    · rename_i xs hx
      obtain ⟨vs, hv, rs⟩ := at_rol h hx ea
      exact .inr (.inr ⟨a, vs, rfl, hv, new_lst h (rs.cut lo hi) p⟩)
    · exact p.elim
  · exact p.elim
/-! ### methods of lists -/
theorem append_s (h : HRel G K ρ hm H) (r1 : DRel K ρ H d x) (r2 : DRel K ρ H e y) (p : PostD G K ρ H (dAppend hm d e) Q) : (∃ a vs, x = .ref a ∧ H a = some (.lst vs)) ∧ rAppend x [y] H Q := by
  unfold dAppend at p
  split at p <;> try (exact p.elim)
  obtain ⟨a, ea, rfl⟩ := dr_ref r1
  split at p <;> try (exact p.elim)
  rename_i xs hx
  obtain ⟨vs, hv, rs⟩ := at_lst h hx ea
  split at p
  · rename_i hz
    exact ⟨⟨a, vs, rfl, hv⟩, a, vs, y, rfl, rfl, hv, by rw [← rs.len]; exact hz, put_lst h hx ea (rs.app (DRels.mk r2 DRels.nil)) mk_non p⟩
  · exact p.elim
def rExtT (K : PySem.W.Frag) : V → List V → Hp → VK → Prop := fun x vs H Q => ∃ l b xs zs, x = .ref l ∧ vs = [.ref b] ∧ H l = some (.lst xs) ∧ SqT K H b zs ∧ xs.length + zs.length ≤ sizeLine ∧ Q .non (upd H l (.lst (xs ++ zs)))
theorem mt_extT {X : Cx} : MtM X "list.extend" (rExtT X.K) := by
  intro pins s σ H x vs v us Q I rx rv h
  obtain ⟨l, b, xs, zs, rfl, rfl, hH, hB, hz, q⟩ := h
  cases rx
  obtain ⟨u, rfl, ru⟩ := rv.one
  cases ru
  obtain ⟨z, its, n, r, hl, e⟩ := I.lstM hH
  obtain ⟨its2, r2, ⟨⟨c2, dd, dt, sl⟩, ho2, hc2, n2, hd2⟩, _⟩ := I.tuple hB
  have hc2 : c2 = .type "tuple" := hc2
  have hd2 : dt = .seq its2.toArray n2 := hd2
  subst hc2
  subst hd2
  have hl2 := r2.length
  have hsz : its.toArray.size + its2.toArray.size ≤ sizeLine := by rw [List.size_toArray, List.size_toArray]; omega
  have hlong : ¬ (!its.toArray.isEmpty && Builtin.List.listTooLong (its.toArray.size + its2.toArray.size)) = true := by
    rw [notLongL hsz, Bool.and_false]
    exact Bool.false_ne_true
  refine call_meets F.slot_list_extend ⟨_, e, rfl⟩ F.entry_list_extend (F.args_list_extend_2 _ _)
    (extend_tupG l its.toArray n b its2.toArray n2 dd sl hlong (by rw [List.size_toArray]; omega) (by omega)) ⟨e, ho2, ?_⟩
  refine ⟨.non, _, I.lset (its' := its ++ its2) hH e (by simp) (r.append r2) ?_, rfl, q⟩
  rw [List.length_append]
  omega
def orM (a b : V → List V → Hp → VK → Prop) : V → List V → Hp → VK → Prop := fun x xs H Q => a x xs H Q ∨ b x xs H Q
theorem MtM.orM {X : Cx} {id : String} {r r' : V → List V → Hp → VK → Prop} (h : MtM X id r) (h' : MtM X id r') : MtM X id (AR.orM r r') := fun pins s σ H x xs v us Q I r1 r2 q => q.elim (h pins s σ H x xs v us Q I r1 r2) (h' pins s σ H x xs v us Q I r1 r2)
def rExtA (K : PySem.W.Frag) := orM rExtend (rExtT K)
theorem mt_extA {X : Cx} : MtM X "list.extend" (rExtA X.K) := MtM.orM mt_extend mt_extT
theorem extend_s (h : HRel G K ρ hm H) (r1 : DRel K ρ H d x) (r2 : DRel K ρ H e y) (p : PostD G K ρ H (dExtend hm d e) Q) : (∃ a vs, x = .ref a ∧ H a = some (.lst vs)) ∧ rExtA K x [y] H Q := by
  unfold dExtend at p
  split at p <;> try (exact p.elim)
  obtain ⟨a, ea, rfl⟩ := dr_ref r1
  split at p <;> try (exact p.elim)
  rename_i xs hx
  obtain ⟨vs, hv, rs⟩ := at_lst h hx ea
  split at p <;> try (exact p.elim)
  rename_i ys hy
  split at p <;> try (exact p.elim)
  rename_i hz
  have l1 := rs.len
  refine ⟨⟨a, vs, rfl, hv⟩, ?_⟩
  unfold seqLT at hy
  split at hy
  · cases hy
    obtain ⟨b, us, rfl, s, ru⟩ := dr_tup r2
    have l2 := ru.len
    exact .inr ⟨a, b, vs, us, rfl, rfl, hv, s, by omega, put_lst h hx ea (rs.app ru) mk_non p⟩
  · obtain ⟨b, eb, rfl⟩ := dr_ref r2
    split at hy
    · rename_i ys' e2
      cases hy
      obtain ⟨us, hu, ru⟩ := at_lst h e2 eb
      have l2 := ru.len
      exact .inl ⟨a, b, vs, us, rfl, rfl, hv, hu, by omega, put_lst h hx ea (rs.app ru) mk_non p⟩
    · cases hy
  · cases hy
theorem pop_s (h : HRel G K ρ hm H) (r1 : DRel K ρ H d x) (p : PostD G K ρ H (dPop hm d) Q) : (∃ a vs, x = .ref a ∧ H a = some (.lst vs)) ∧ rPop x [] H Q := by
  unfold dPop at p
  split at p <;> try (exact p.elim)
  obtain ⟨a, ea, rfl⟩ := dr_ref r1
  split at p <;> try (exact p.elim)
  rename_i xs hx
  obtain ⟨vs, hv, rs⟩ := at_lst h hx ea
  split at p <;> try (exact p.elim)
  rename_i z hz
  obtain ⟨v, hv2, rz⟩ := rs.get hz
  exact ⟨⟨a, vs, rfl, hv⟩, a, vs, v, rfl, rfl, hv, by rw [← rs.len]; exact hv2, put_lst h hx ea rs.dropLast rz p⟩
theorem popAt_s (h : HRel G K ρ hm H) (r1 : DRel K ρ H d x) (r2 : DRel K ρ H e y) (p : PostD G K ρ H (dPopAt hm d e) Q) : (∃ a vs, x = .ref a ∧ H a = some (.lst vs)) ∧ rPopAt x [y] H Q := by
  unfold dPopAt at p
  split at p <;> try (exact p.elim)
  obtain ⟨a, ea, rfl⟩ := dr_ref r1
  rw [dr_int r2]
  split at p <;> try (exact p.elim)
  rename_i xs hx
  obtain ⟨vs, hv, rs⟩ := at_lst h hx ea
  split at p <;> try (exact p.elim)
  rename_i hb
  split at p <;> try (exact p.elim)
  rename_i k hk
  split at p <;> try (exact p.elim)
  rename_i z hz
  obtain ⟨v, hv2, rz⟩ := rs.get hz
  exact ⟨⟨a, vs, rfl, hv⟩, a, vs, _, k, v, rfl, rfl, hv, hb.1, hb.2, by rw [← rs.len]; exact hk, hv2, put_lst h hx ea (rs.erase k) rz p⟩
/-! ### texts -/
def rJoin (K : PySem.W.Frag) : V → List V → Hp → VK → Prop := fun x xs H Q => ∃ a p, ∃ ys : List Str, x = .str a ∧ xs = [.ref p] ∧ (SqL K H p (ys.map V.str) ∨ SqT K H p (ys.map V.str)) ∧
    (ys.map (·.length)).sum + ys.length * a.length ≤ 16777216 ∧ Q (.str (Txt.join a ys)) H
theorem join_s (h : HRel G K ρ hm H) (r1 : DRel K ρ H d x) (r2 : DRel K ρ H e y) (p : PostD G K ρ H (dJoin hm d e) Q) : (∃ a, x = .str a) ∧ rJoin K x [y] H Q := by
  unfold dJoin at p
  split at p <;> try (exact p.elim)
  rw [dr_str r1]
  split at p <;> try (exact p.elim)
  rename_i xs hx
  split at p <;> try (exact p.elim)
  rename_i ys hy
  split at p <;> try (exact p.elim)
  rename_i hz
  obtain ⟨a, vs, rfl, rs, hq⟩ := seq_s h r2 hx
  have e1 := txts_s hy rs
  subst e1
  refine ⟨⟨_, rfl⟩, _, a, ys, rfl, rfl, ?_, hz, p.here h (mk_str _)⟩
  rcases hq with ⟨n, _, hl, _⟩ | ⟨_, ht⟩
  · exact .inl hl
  · exact .inr ht
/-! ### dicts -/
theorem get_s {f : D} {z : V} (h : HRel G K ρ hm H) (r1 : DRel K ρ H d x) (r2 : DRel K ρ H e y) (r3 : DRel K ρ H f z) (p : PostD G K ρ H (dGet hm d e f) Q) : ∃ a o, x = .ref a ∧ IsD H a ∧ DGet H a y o ∧ Q (o.getD z) H := by
  unfold dGet at p
  split at p <;> try (exact p.elim)
  obtain ⟨a, ea, rfl⟩ := dr_ref r1
  split at p <;> try (exact p.elim)
  rename_i kvs hx
  split at p <;> try (exact p.elim)
  rename_i k hk
  obtain ⟨us, hv, rs⟩ := at_dct h hx ea
  rw [key_s hk r2]
  refine ⟨a, valV us k, rfl, .inl ⟨us, .inl hv⟩, DGet.k hv, ?_⟩
  rcases val_s rs k with ⟨z1, z2⟩ | ⟨d', v, z1, z2, z3⟩
  · rw [z1] at p; rw [z2]; exact p.here h r3
  · rw [z1] at p; rw [z2]; exact p.here h z3
theorem any_key {kvs : List (Key × D)} {us : List (Key × V)} (r : KRel K ρ H kvs us) (k : Key) : (us.any fun kv => decide (kv.1 = k)) = kvs.any fun kv => decide (kv.1 = k) := by
  induction r with
  | nil => rfl
  | cons h1 h2 ih => rw [List.any_cons, List.any_cons, ih, h1.1]
theorem KRel.putMap {kvs : List (Key × D)} {us : List (Key × V)} (r : KRel K ρ H kvs us) (k : Key) (rd : DRel K ρ H d x) : KRel K ρ H (kvs.map fun kv => if kv.1 = k then (kv.1, d) else kv) (us.map fun kv => if kv.1 = k then (kv.1, x) else kv) := by
  induction r with
  | nil => exact .nil
  | @cons p q xs ys h1 h2 ih =>
    refine .cons ?_ ih
    by_cases e : p.1 = k
    · have e' : q.1 = k := h1.1 ▸ e
      dsimp only
      rw [if_pos e, if_pos e']
      exact ⟨h1.1, rd⟩
    · have e' : ¬ q.1 = k := fun z => e (h1.1.trans z)
      dsimp only
      rw [if_neg e, if_neg e']
      exact h1
theorem KRel.snoc {kvs : List (Key × D)} {us : List (Key × V)} {p : Key × D} {q : Key × V} (r : KRel K ρ H kvs us) (h : p.1 = q.1 ∧ DRel K ρ H p.2 q.2) : KRel K ρ H (kvs ++ [p]) (us ++ [q]) := by
  induction r with
  | nil => exact .cons h .nil
  | cons h1 h2 ih => exact .cons h1 ih
theorem KRel.put {kvs : List (Key × D)} {us : List (Key × V)} (r : KRel K ρ H kvs us) (k : Key) (rd : DRel K ρ H d x) : KRel K ρ H (putD kvs k d) (putK us k x) := by
  unfold putD putK
  rw [any_key r k]
  split
  · exact KRel.putMap r k rd
  · exact KRel.snoc r ⟨rfl, rd⟩
theorem KRel.merge {more : List (Key × D)} {ms : List (Key × V)} (r2 : KRel K ρ H more ms) : ∀ {kvs : List (Key × D)} {us : List (Key × V)}, KRel K ρ H kvs us → KRel K ρ H (mergeD kvs more) (mergeK us ms) := by
  induction r2 with
  | nil => intro kvs us r; exact r
  | @cons p q xs ys h1 h2 ih =>
    intro kvs us r
    have e := h1.1
    unfold mergeD mergeK at ih ⊢
    rw [List.foldl_cons, List.foldl_cons, ← e]
    exact ih (r.put p.1 h1.2)
theorem zip_s : ∀ {ks : List Key} {ds : List D} {vs : List V}, DRels K ρ H ds vs → KRel K ρ H (zipK ks ds) (ks.zip vs)
  | [], _, _, _ => by unfold zipK; simp; exact .nil
  | k :: ks, [], _, r => by rw [DRels.nil_iff.mp r]; unfold zipK; simp; exact .nil
  | k :: ks, d :: ds, _, r => by
    obtain ⟨v, vs', rfl, r1, r2⟩ := DRels.cons_iff.mp r
    exact .cons ⟨rfl, r1⟩ (zip_s r2)
theorem setIx_s {f : D} {z : V} {hm' : Hm} (h : HRel G K ρ hm H) (r1 : DRel K ρ H d x) (r2 : DRel K ρ H e y) (r3 : DRel K ρ H f z) (q : setIx hm d e f = some hm') :
    ∃ a, x = .ref a ∧ ((∃ xs k j, y = .int k ∧ H a = some (.lst xs) ∧ ixN xs.length k = some j ∧ HRel G K ρ hm' (upd H a (.lst (xs.set j z))) ∧ Fwd ρ H ρ (upd H a (.lst (xs.set j z)))) ∨
      ∃ H', DPut H a y z H' ∧ HRel G K ρ hm' H' ∧ Fwd ρ H ρ H') := by
  unfold setIx at q
  split at q <;> try (cases q; done)
  rename_i n
  obtain ⟨a, ea, rfl⟩ := dr_ref r1
  refine ⟨a, rfl, ?_⟩
  unfold setIxR at q
  split at q
  · rename_i xs hx
    split at q <;> try (cases q; done)
    rename_i k
    obtain ⟨vs, hv, rs⟩ := at_lst h hx ea
    cases e1 : ixN xs.length k with
    | none => rw [e1] at q; cases q
    | some j =>
      rw [e1] at q
      cases q
      obtain ⟨h2, f2⟩ := h.put (o' := .lst (xs.set j f)) (u := .lst (vs.set j z)) hx ea rfl (fun f2 => ⟨_, upd_same, (rs.set j r3).fwd f2⟩) rfl
      exact .inl ⟨vs, k, j, dr_int r2, hv, by rw [← rs.len]; exact e1, h2, f2⟩
  · rename_i kvs hx
    split at q <;> try (cases q; done)
    rename_i k hk
    split at q <;> try (cases q; done)
    rename_i hz
    cases q
    obtain ⟨us, hv, rs⟩ := at_dct h hx ea
    have hl : kvs.length = us.length := Paired.length rs
    obtain ⟨h2, f2⟩ := h.put (o' := .dct (putD kvs k f)) (u := .dK (putK us k z)) hx ea rfl (fun f2 => ⟨_, upd_same, KRel.fwd f2 (rs.put k r3)⟩) rfl
    rw [key_s hk r2]
    exact .inr ⟨_, DPut.k hv (by omega), h2, f2⟩
  · cases q
end
end AR
end
section
/-! Snd: expressions of the small language lie under the layer's readings. -/
set_option Elab.async false
set_option linter.all false
set_option maxRecDepth 100000
set_option maxHeartbeats 4000000
namespace AR
open PySem L2 PySem.Spec PyProof.Rows

/-- a function made on the way: its words -/
structure LamI where
  qual : Str
  params : Arguments
  body : Expr
  scope : Scope
  ps : List Str
  fr : List Str
  lam : Bool := true
/-- its object -/
def LamO (L : LamI) (cl : List (Str × Addr)) (c' f : Addr) : HO := .ext fun h => ∃ pm ctv, h.get? f = some (PySem.W.kla_obj "<lambda>" L.qual L.params L.body L.scope cl pm c' ctv)

abbrev CAp := List (Str × Addr) → List Str → List (Option V) → Prop
mutual
def SVRel (L : Nat → LamI) (K : PySem.W.Frag) (CA : CAp) (ρ : List Addr) (H : Hp) : SV → V → Prop
  | .d x, v => DRel K ρ H x v
  | .clo i caps, v => ∃ (f : Addr) (cl : List (Str × Addr)) (c' : Addr) (ws : List V), v = .ref f ∧ (L i).lam = true ∧ H f = some (LamO (L i) cl c' f) ∧ H c' = some (LamX.CodeO c' (L i).qual) ∧ CA cl (L i).fr (ws.map some) ∧ SVRels L K CA ρ H caps ws
def SVRels (L : Nat → LamI) (K : PySem.W.Frag) (CA : CAp) (ρ : List Addr) (H : Hp) : List SV → List V → Prop
  | [], vs => vs = []
  | x :: xs, vs => ∃ v vs', vs = v :: vs' ∧ SVRel L K CA ρ H x v ∧ SVRels L K CA ρ H xs vs'
end
mutual
theorem SVRel.fwd {L : Nat → LamI} {K : PySem.W.Frag} {CA CA' : CAp} {ρ ρ' : List Addr} {H H' : Hp} (f : Fwd ρ H ρ' H') (hc : ∀ cl fr ws, CA cl fr ws → CA' cl fr ws) : ∀ {x : SV} {v : V}, SVRel L K CA ρ H x v → SVRel L K CA' ρ' H' x v
  | .d x, v, h => by simp only [SVRel] at h ⊢; exact h.fwd f
  | .clo i caps, v, h => by
    simp only [SVRel] at h ⊢
    obtain ⟨g, cl, c', ws, e, hl, h1, h2, h3, h4⟩ := h
    exact ⟨g, cl, c', ws, e, hl, f.ext _ _ h1, f.ext _ _ h2, hc _ _ _ h3, SVRels.fwd f hc h4⟩
theorem SVRels.fwd {L : Nat → LamI} {K : PySem.W.Frag} {CA CA' : CAp} {ρ ρ' : List Addr} {H H' : Hp} (f : Fwd ρ H ρ' H') (hc : ∀ cl fr ws, CA cl fr ws → CA' cl fr ws) : ∀ {x : List SV} {v : List V}, SVRels L K CA ρ H x v → SVRels L K CA' ρ' H' x v
  | [], v, h => by simp only [SVRels] at h ⊢; exact h
  | x :: xs, v, h => by
    simp only [SVRels] at h ⊢
    obtain ⟨v, vs', e, h1, h2⟩ := h
    exact ⟨v, vs', e, SVRel.fwd f hc h1, SVRels.fwd f hc h2⟩
end
/-- the whole program: its small form, the words of its errors and lambdas -/
structure Wd where
  P : Nat → Option DefI
  G : Glo
  L : Nat → LamI
section
variable {D0 : Wd} {K : PySem.W.Frag} {CA : CAp} {ρ ρ' : List Addr} {hm : Hm} {H H' : Hp} {env : AR.Env} {σ : L2.St}
theorem SVRel.d_iff {x : D} {v : V} : SVRel D0.L K CA ρ H (.d x) v ↔ DRel K ρ H x v := by simp [SVRel]
theorem SVRels.cons_iff {x : SV} {xs : List SV} {vs : List V} : SVRels D0.L K CA ρ H (x :: xs) vs ↔ ∃ v vs', vs = v :: vs' ∧ SVRel D0.L K CA ρ H x v ∧ SVRels D0.L K CA ρ H xs vs' := by simp [SVRels]
theorem SVRels.nil_iff {vs : List V} : SVRels D0.L K CA ρ H [] vs ↔ vs = [] := by simp [SVRels]
theorem SVRels.len : ∀ {xs : List SV} {vs : List V}, SVRels D0.L K CA ρ H xs vs → xs.length = vs.length
  | [], _, h => by rw [SVRels.nil_iff.mp h]; rfl
  | x :: xs, _, h => by
    obtain ⟨v, vs', e, _, r⟩ := SVRels.cons_iff.mp h
    rw [e, List.length_cons, List.length_cons, SVRels.len r]
theorem allD_s : ∀ {xs : List SV} {ds : List D} {vs : List V}, allD xs = some ds → SVRels D0.L K CA ρ H xs vs → DRels K ρ H ds vs
  | [], _, _, e, h => by simp only [allD] at e; cases e; rw [SVRels.nil_iff.mp h]; exact DRels.nil
  | .d x :: xs, _, _, e, h => by
    obtain ⟨v, vs', rfl, r1, r2⟩ := SVRels.cons_iff.mp h
    simp only [allD] at e
    cases e2 : allD xs with
    | none => rw [e2] at e; cases e
    | some cs =>
      rw [e2] at e
      cases e
      exact DRels.mk (SVRel.d_iff.mp r1) (allD_s e2 r2)
  | .clo _ _ :: _, _, _, e, _ => by simp [allD] at e

/-- the slots -/
structure ERel (D0 : Wd) (K : PySem.W.Frag) (CA : CAp) (ρ : List Addr) (H : Hp) (env : AR.Env) (σ : L2.St) : Prop where
  len : env.length = σ.length
  at_ : ∀ (i : Nat) (x : SV), env[i]? = some (some x) → ∃ v, σ[i]? = some (some v) ∧ SVRel D0.L K CA ρ H x v
theorem ERel.fwd (e : ERel D0 K CA ρ H env σ) (f : Fwd ρ H ρ' H') : ERel D0 K CA ρ' H' env σ :=
  ⟨e.len, fun i x h => let ⟨v, a, b⟩ := e.at_ i x h; ⟨v, a, b.fwd f fun _ _ _ z => z⟩⟩
theorem ERel.set (e : ERel D0 K CA ρ H env σ) {x : SV} {v : V} (i : Nat) (r : SVRel D0.L K CA ρ H x v) : ERel D0 K CA ρ H (env.set i (some x)) (σ.set i (some v)) := by
  refine ⟨by simp [e.len], fun j y h => ?_⟩
  by_cases hj : i = j
  · subst hj
    have hl : i < env.length := by
      have q := (List.getElem?_eq_some_iff.mp h).1
      simpa using q
    rw [List.getElem?_set_self hl] at h
    cases h
    exact ⟨v, by rw [List.getElem?_set_self (by rw [← e.len]; exact hl)], r⟩
  · rw [List.getElem?_set_ne hj] at h ⊢
    exact e.at_ j y h
theorem ERel.clear (e : ERel D0 K CA ρ H env σ) (i : Nat) : ERel D0 K CA ρ H (env.set i none) (σ.set i none) := by
  refine ⟨by simp [e.len], fun j y h => ?_⟩
  by_cases hj : i = j
  · subst hj
    by_cases hl : i < env.length
    · rw [List.getElem?_set_self hl] at h; cases h
    · rw [List.getElem?_eq_none (by simpa using hl)] at h; cases h
  · rw [List.getElem?_set_ne hj] at h ⊢
    exact e.at_ j y h

/-- an error that flies -/
def XRel (D0 : Wd) (K : PySem.W.Frag) (ρ : List Addr) (H : Hp) (x : Exn) (cls : Value) (dd : Option Addr) : Prop :=
  cls = .ref (D0.G.cls x.cls) ∧ (x.fs = [] ∧ dd = none ∨ ∃ d vs, dd = some d ∧ H d = some (.xd vs) ∧ Paired (fun (p : Str × D) (q : Str × V) => p.1 = q.1 ∧ DRel K ρ H p.2 q.2) x.fs vs)
theorem XRel.fwd {x : Exn} {cls : Value} {dd : Option Addr} (h : XRel D0 K ρ H x cls dd) (f : Fwd ρ H ρ' H') : XRel D0 K ρ' H' x cls dd := by
  refine ⟨h.1, ?_⟩
  rcases h.2 with e | ⟨d, vs, e1, e2, r⟩
  · exact .inl e
  · exact .inr ⟨d, vs, e1, f.xd _ _ e2, Paired.mapP r fun _ _ z => ⟨z.1, z.2.fwd f⟩⟩
abbrev XW := Value → Option Addr → Hp → Prop
/-- what is wanted of an outcome -/
def PO (D0 : Wd) (K : PySem.W.Frag) (ρ : List Addr) (H : Hp) (W : XW) {α β : Type} (Rl : List Addr → Hp → α → β → Prop) (r : R α) (N : α → Hm → List Addr → Hp → β → Prop) : Prop := match r with
  | .ok x hm' => ∀ ρ' H' v, Fwd ρ H ρ' H' → HRel D0.G K ρ' hm' H' → Rl ρ' H' x v → N x hm' ρ' H' v
  | .exc x hm' => ∀ ρ' H' cls dd, Fwd ρ H ρ' H' → HRel D0.G K ρ' hm' H' → XRel D0 K ρ' H' x cls dd → W cls dd H'
  | .stuck => False
theorem PO.later {W : XW} {α β : Type} {Rl : List Addr → Hp → α → β → Prop} {r : R α} {N : α → Hm → List Addr → Hp → β → Prop} (p : PO D0 K ρ H W Rl r N) (f : Fwd ρ H ρ' H') : PO D0 K ρ' H' W Rl r N := by
  cases r with
  | ok x hm' => exact fun ρ2 H2 v f2 => p ρ2 H2 v (f.trans f2)
  | exc x hm' => exact fun ρ2 H2 cls dd f2 => p ρ2 H2 cls dd (f.trans f2)
  | stuck => exact p
theorem PO.mono {W : XW} {α β : Type} {Rl : List Addr → Hp → α → β → Prop} {r : R α} {N N' : α → Hm → List Addr → Hp → β → Prop} (p : PO D0 K ρ H W Rl r N) (h : ∀ x hm' ρ' H' v, Fwd ρ H ρ' H' → HRel D0.G K ρ' hm' H' → Rl ρ' H' x v → N x hm' ρ' H' v → N' x hm' ρ' H' v) : PO D0 K ρ H W Rl r N' := by
  cases r with
  | ok x hm' => exact fun ρ2 H2 v f2 h2 r2 => h x hm' ρ2 H2 v f2 h2 r2 (p ρ2 H2 v f2 h2 r2)
  | exc x hm' => exact p
  | stuck => exact p
theorem PO.bind {W : XW} {α β γ δ : Type} {Rl : List Addr → Hp → α → β → Prop} {Rl' : List Addr → Hp → γ → δ → Prop} {r : R α} {f : α → Hm → R γ} {N : γ → Hm → List Addr → Hp → δ → Prop} (p : PO D0 K ρ H W Rl' (r.bind f) N) :
    PO D0 K ρ H W Rl r (fun x hm' ρ' H' _ => PO D0 K ρ' H' W Rl' (f x hm') N) := by
  cases r with
  | ok x hm' => exact fun ρ2 H2 v f2 h2 r2 => PO.later (show PO D0 K ρ H W Rl' (f x hm') N from p) f2
  | exc x hm' => exact p
  | stuck => exact p
abbrev RlE (D0 : Wd) (K : PySem.W.Frag) (CA : CAp) : List Addr → Hp → SV → V → Prop := fun ρ H => SVRel D0.L K CA ρ H
abbrev RlD (K : PySem.W.Frag) : List Addr → Hp → D → V → Prop := fun ρ H => DRel K ρ H
abbrev RlB : List Addr → Hp → Bool → Bool → Prop := fun _ _ a b => a = b
abbrev RlS (D0 : Wd) (K : PySem.W.Frag) (CA : CAp) : List Addr → Hp → List SV → List V → Prop := fun ρ H => SVRels D0.L K CA ρ H
/-- an expression's reading -/
def tI (D0 : Wd) (n : Nat) (K : PySem.W.Frag) (CA : CAp) (W : WX) (e : E) : TE := fun σ H Q => ∃ ρ hm env, ERel D0 K CA ρ H env σ ∧ HRel D0.G K ρ hm H ∧ PO D0 K ρ H (fun c d H => W c d σ H) (RlE D0 K CA) (evE (run D0.P n) e env hm) fun _ _ _ H' v => Q v H'
def tIb (D0 : Wd) (n : Nat) (K : PySem.W.Frag) (CA : CAp) (W : WX) (e : E) : TT := fun σ H Q => ∃ ρ hm env, ERel D0 K CA ρ H env σ ∧ HRel D0.G K ρ hm H ∧ PO D0 K ρ H (fun c d H => W c d σ H) RlB (truth (evE (run D0.P n) e env hm)) fun _ _ _ H' v => Q v H'
def tIs (D0 : Wd) (n : Nat) (K : PySem.W.Frag) (CA : CAp) (W : WX) (es : List E) : TA := fun σ H Q => ∃ ρ hm env, ERel D0 K CA ρ H env σ ∧ HRel D0.G K ρ hm H ∧ PO D0 K ρ H (fun c d H => W c d σ H) (RlS D0 K CA) (evEs (run D0.P n) es env hm) fun _ _ _ H' v => Q v H'
end

/-- the expression e is ir -/
structure SE (D0 : Wd) (n : Nat) (X : Cx) (CA : CAp) (e : Expr) (ir : E) : Prop where
  run : ∀ W, Takes X W → PE X e (tI D0 n X.K CA W ir)
structure ST (D0 : Wd) (n : Nat) (X : Cx) (CA : CAp) (e : Expr) (ir : E) : Prop where
  run : ∀ W, Takes X W → PT X e (tIb D0 n X.K CA W ir)
structure SA (D0 : Wd) (n : Nat) (X : Cx) (CA : CAp) (es : List Expr) (irs : List E) : Prop where
  run : ∀ W, Takes X W → PA X es (tIs D0 n X.K CA W irs)

theorem PE.weak {X : Cx} {e : Expr} {t t' : TE} (h : PE X e t) (w : ∀ σ H Q, t' σ H Q → t σ H Q) : PE X e t' := ⟨fun pins s σ H Q I q => h.run pins s σ H Q I (w σ H Q q)⟩
theorem PT.weak {X : Cx} {e : Expr} {t t' : TT} (h : PT X e t) (w : ∀ σ H Q, t' σ H Q → t σ H Q) : PT X e t' := ⟨fun pins s σ H Q I q => h.run pins s σ H Q I (w σ H Q q)⟩
theorem PA.weak {X : Cx} {e : List Expr} {t t' : TA} (h : PA X e t) (w : ∀ σ H Q, t' σ H Q → t σ H Q) : PA X e t' := ⟨fun pos pins s σ H Q I q => h.run pos pins s σ H Q I (w σ H Q q)⟩
theorem PE.or {X : Cx} {e : Expr} {t t' : TE} (h : PE X e t) (h' : PE X e t') : PE X e (fun σ H Q => t σ H Q ∨ t' σ H Q) := ⟨fun pins s σ H Q I q => q.elim (h.run pins s σ H Q I) (h'.run pins s σ H Q I)⟩
end AR
end
section
/-! Snd2: expressions, one construct after another. -/
set_option Elab.async false
set_option linter.all false
set_option maxRecDepth 100000
set_option maxHeartbeats 4000000
namespace AR
open PySem L2 PySem.Spec PyProof.Rows
section
variable {D0 : Wd} {n : Nat} {K : PySem.W.Frag} {CA : CAp} {W : WX} {ρ : List Addr} {hm : Hm} {H : Hp} {env : AR.Env} {σ : L2.St} {Q Q' : VK}
theorem tI_mono {e : E} (h : tI D0 n K CA W e σ H Q) (m : ∀ v H, Q v H → Q' v H) : tI D0 n K CA W e σ H Q' := by
  obtain ⟨ρ, hm, env, h1, h2, p⟩ := h
  exact ⟨ρ, hm, env, h1, h2, p.mono fun _ _ _ H' v _ _ _ q => m v H' q⟩
theorem tIs_mono {es : List E} {Q Q' : List V → Hp → Prop} (h : tIs D0 n K CA W es σ H Q) (m : ∀ v H, Q v H → Q' v H) : tIs D0 n K CA W es σ H Q' := by
  obtain ⟨ρ, hm, env, h1, h2, p⟩ := h
  exact ⟨ρ, hm, env, h1, h2, p.mono fun _ _ _ H' v _ _ _ q => m v H' q⟩
theorem tI_of {e : E} {N : SV → Hm → List Addr → Hp → V → Prop} (h1 : ERel D0 K CA ρ H env σ) (h2 : HRel D0.G K ρ hm H) (p : PO D0 K ρ H (fun c d H => W c d σ H) (RlE D0 K CA) (evE (run D0.P n) e env hm) N)
    (m : ∀ x hm' ρ' H' v, Fwd ρ H ρ' H' → HRel D0.G K ρ' hm' H' → SVRel D0.L K CA ρ' H' x v → N x hm' ρ' H' v → Q v H') : tI D0 n K CA W e σ H Q :=
  ⟨ρ, hm, env, h1, h2, p.mono m⟩
theorem tIb_of {e : E} {N : Bool → Hm → List Addr → Hp → Bool → Prop} {Q : Bool → Hp → Prop} (h1 : ERel D0 K CA ρ H env σ) (h2 : HRel D0.G K ρ hm H) (p : PO D0 K ρ H (fun c d H => W c d σ H) RlB (truth (evE (run D0.P n) e env hm)) N)
    (m : ∀ x hm' ρ' H' v, Fwd ρ H ρ' H' → HRel D0.G K ρ' hm' H' → x = v → N x hm' ρ' H' v → Q v H') : tIb D0 n K CA W e σ H Q :=
  ⟨ρ, hm, env, h1, h2, p.mono m⟩
theorem tIs_of {e : List E} {N : List SV → Hm → List Addr → Hp → List V → Prop} {Q : List V → Hp → Prop} (h1 : ERel D0 K CA ρ H env σ) (h2 : HRel D0.G K ρ hm H) (p : PO D0 K ρ H (fun c d H => W c d σ H) (RlS D0 K CA) (evEs (run D0.P n) e env hm) N)
    (m : ∀ x hm' ρ' H' v, Fwd ρ H ρ' H' → HRel D0.G K ρ' hm' H' → SVRels D0.L K CA ρ' H' x v → N x hm' ρ' H' v → Q v H') : tIs D0 n K CA W e σ H Q :=
  ⟨ρ, hm, env, h1, h2, p.mono m⟩
theorem PO.toSV {Wx : XW} {r : R D} (p : PO D0 K ρ H Wx (RlE D0 K CA) (toSV r) fun _ _ _ H' v => Q v H') : PostD D0.G K ρ H r Q := by
  cases r with
  | ok d h => exact fun ρ' H' v f h r => p ρ' H' v f h (SVRel.d_iff.mpr r)
  | exc x h => exact p
  | stuck => exact p
/-- arguments, then what follows -/
theorem tI_opn {o : Op} {as : List E} (h : tI D0 n K CA W (.op o as) σ H Q) : tIs D0 n K CA W as σ H fun vs H1 => ∃ ρ1 hm1 ds, HRel D0.G K ρ1 hm1 H1 ∧ DRels K ρ1 H1 ds vs ∧ PostD D0.G K ρ1 H1 (op o ds hm1) Q := by
  obtain ⟨ρ, hm, env, h1, h2, p⟩ := h
  rw [evE_op] at p
  refine tIs_of h1 h2 (PO.bind p) fun xs hm1 ρ1 H1 vs f hr r q => ?_
  unfold opRun at q
  split at q
  · rename_i ds e
    exact ⟨ρ1, hm1, ds, hr, allD_s e r, PO.toSV q⟩
  · exact q.elim
theorem tIs_nil {Q : List V → Hp → Prop} (h : tIs D0 n K CA W [] σ H Q) : Q [] H := by
  obtain ⟨ρ, hm, env, h1, h2, p⟩ := h
  rw [evEs_nil] at p
  exact p ρ H [] (Fwd.refl _ _) h2 (SVRels.nil_iff.mpr rfl)
theorem tIs_cons {e : E} {es : List E} {Q : List V → Hp → Prop} (h : tIs D0 n K CA W (e :: es) σ H Q) : tI D0 n K CA W e σ H fun v H1 => tIs D0 n K CA W es σ H1 fun vs H2 => Q (v :: vs) H2 := by
  obtain ⟨ρ, hm, env, h1, h2, p⟩ := h
  rw [evEs_cons] at p
  refine tI_of h1 h2 (PO.bind p) fun x hm1 ρ1 H1 v f hr r q => ?_
  refine tIs_of (h1.fwd f) hr (PO.bind q) fun xs hm2 ρ2 H2 vs f2 hr2 r2 q2 => ?_
  exact q2 ρ2 H2 (v :: vs) (Fwd.refl _ _) hr2 (SVRels.cons_iff.mpr ⟨v, vs, rfl, r.fwd f2 fun _ _ _ z => z, r2⟩)
theorem tI_op1 {o : Op} {a : E} (h : tI D0 n K CA W (.op o [a]) σ H Q) : tI D0 n K CA W a σ H fun v H1 => ∃ ρ1 hm1 d, HRel D0.G K ρ1 hm1 H1 ∧ DRel K ρ1 H1 d v ∧ PostD D0.G K ρ1 H1 (op o [d] hm1) Q := by
  refine tI_mono (tIs_cons (tI_opn h)) fun v H1 q => ?_
  obtain ⟨ρ1, hm1, ds, h1, h2, h3⟩ := tIs_nil q
  cases ds with
  | nil => have := DRels.nil_iff.mp h2; cases this
  | cons d ds =>
    obtain ⟨v', vs', e, r1, r2⟩ := DRels.cons_iff.mp h2
    cases e
    cases ds with
    | nil => exact ⟨ρ1, hm1, d, h1, r1, h3⟩
    | cons d2 ds => obtain ⟨_, _, e, _⟩ := DRels.cons_iff.mp r2; cases e
theorem tI_op2 {o : Op} {a b : E} (h : tI D0 n K CA W (.op o [a, b]) σ H Q) : tI D0 n K CA W a σ H fun v H1 => tI D0 n K CA W b σ H1 fun u H2 => ∃ ρ1 hm1 d e, HRel D0.G K ρ1 hm1 H2 ∧ DRel K ρ1 H2 d v ∧ DRel K ρ1 H2 e u ∧ PostD D0.G K ρ1 H2 (op o [d, e] hm1) Q := by
  refine tI_mono (tIs_cons (tI_opn h)) fun v H1 q => tI_mono (tIs_cons q) fun u H2 q => ?_
  obtain ⟨ρ1, hm1, ds, h1, h2, h3⟩ := tIs_nil q
  cases ds with
  | nil => have := DRels.nil_iff.mp h2; cases this
  | cons d ds =>
    obtain ⟨v', vs', e, r1, r2⟩ := DRels.cons_iff.mp h2
    cases e
    cases ds with
    | nil => have := DRels.nil_iff.mp r2; cases this
    | cons d2 ds =>
      obtain ⟨v', vs', e, s2, r3⟩ := DRels.cons_iff.mp r2
      cases e
      cases ds with
      | nil => exact ⟨ρ1, hm1, d, d2, h1, r1, s2, h3⟩
      | cons d3 ds => obtain ⟨_, _, e, _⟩ := DRels.cons_iff.mp r3; cases e
theorem tI_op3 {o : Op} {a b c : E} (h : tI D0 n K CA W (.op o [a, b, c]) σ H Q) : tI D0 n K CA W a σ H fun v H1 => tI D0 n K CA W b σ H1 fun u H2 => tI D0 n K CA W c σ H2 fun w H3 => ∃ ρ1 hm1 d e f, HRel D0.G K ρ1 hm1 H3 ∧ DRel K ρ1 H3 d v ∧ DRel K ρ1 H3 e u ∧ DRel K ρ1 H3 f w ∧ PostD D0.G K ρ1 H3 (op o [d, e, f] hm1) Q := by
  refine tI_mono (tIs_cons (tI_opn h)) fun v H1 q => tI_mono (tIs_cons q) fun u H2 q => tI_mono (tIs_cons q) fun w H3 q => ?_
  obtain ⟨ρ1, hm1, ds, h1, h2, h3⟩ := tIs_nil q
  cases ds with
  | nil => have := DRels.nil_iff.mp h2; cases this
  | cons d ds =>
    obtain ⟨v', vs', e, r1, r2⟩ := DRels.cons_iff.mp h2
    cases e
    cases ds with
    | nil => have := DRels.nil_iff.mp r2; cases this
    | cons d2 ds =>
      obtain ⟨v', vs', e, s2, r3⟩ := DRels.cons_iff.mp r2
      cases e
      cases ds with
      | nil => have := DRels.nil_iff.mp r3; cases this
      | cons d3 ds =>
        obtain ⟨v', vs', e, s3, r4⟩ := DRels.cons_iff.mp r3
        cases e
        cases ds with
        | nil => exact ⟨ρ1, hm1, d, d2, d3, h1, r1, s2, s3, h3⟩
        | cons d4 ds => obtain ⟨_, _, e, _⟩ := DRels.cons_iff.mp r4; cases e
/-- a truth -/
theorem tI_b {e : E} {Q : Bool → Hp → Prop} (h : tIb D0 n K CA W e σ H Q) : tI D0 n K CA W e σ H fun x H1 => ∃ k, x = .bl k ∧ Q k H1 := by
  obtain ⟨ρ, hm, env, h1, h2, p⟩ := h
  unfold truth at p
  refine tI_of h1 h2 (PO.bind p) fun x hm1 ρ1 H1 v f hr r q => ?_
  split at q
  · rename_i b
    exact ⟨b, dr_bl (SVRel.d_iff.mp r), q ρ1 H1 b (Fwd.refl _ _) hr rfl⟩
  · exact q.elim
theorem tIs_list {as : List E} : ∀ {Q : List V → Hp → Prop} {σ : L2.St} {H : Hp}, tIs D0 n K CA W as σ H Q → tIs D0 n K CA W as σ H Q := fun h => h
end
section
variable {D0 : Wd} {n : Nat} {X : Cx} {CA : CAp} {a b c e : Expr} {ia ib ic : E} {pos : Pos} {es : List Expr} {ies : List E}
/-! ### arguments -/
theorem sa_nil : SA D0 n X CA [] [] := ⟨fun W tk => PA.weak pa_nil fun σ H Q h => tIs_nil h⟩
theorem sa_cons (ha : SE D0 n X CA e ia) (hr : SA D0 n X CA es ies) (hs : starEach (e :: es) X.env = (false, eval e X.env) :: starEach es X.env := by rfl) : SA D0 n X CA (e :: es) (ia :: ies) :=
  ⟨fun W tk => PA.weak (pa_cons (ha.run W tk) (hr.run W tk) hs) fun σ H Q h => tIs_cons h⟩
/-! ### names, constants -/
theorem se_bad : SE D0 n X CA e .bad := ⟨fun W tk => ⟨fun pins s σ H Q I h => by obtain ⟨_, _, _, _, _, p⟩ := h; rw [evE_bad] at p; exact p.elim⟩⟩
theorem st_bad : ST D0 n X CA e .bad := ⟨fun W tk => ⟨fun pins s σ H Q I h => by obtain ⟨_, _, _, _, _, p⟩ := h; rw [evE_bad] at p; exact p.elim⟩⟩
theorem se_v (i : Nat) {x : Str} (hN : X.N[i]? = some x := by rfl) (hv : Vis X.env.scope x := by first | exact Or.inl rfl | exact Or.inr (Or.inl rfl) | exact Or.inr (Or.inr rfl)) (hd : (x == ("__debug__" : Str)) = false := by decide) (hcd : (x == ("__classdict__" : Str)) = false := by decide) : SE D0 n X CA (.Name x pos) (.v i) :=
  ⟨fun W tk => PE.weak (pe_var hN hv hd hcd) fun σ H Q h => by
    obtain ⟨ρ, hm, env, h1, h2, p⟩ := h
    rw [evE_v] at p
    unfold getV at p
    split at p
    · rename_i x e
      obtain ⟨v, hv, r⟩ := h1.at_ i x e
      exact ⟨v, hv, p ρ H v (Fwd.refl _ _) h2 r⟩
    · exact p.elim⟩
theorem se_k {d : D} {v : V} (hp : ∀ W, Takes X W → PE X e (tC v)) (r : ∀ ρ H, DRel X.K ρ H d v) : SE D0 n X CA e (.c d) :=
  ⟨fun W tk => PE.weak (hp W tk) fun σ H Q h => by
    obtain ⟨ρ, hm, env, h1, h2, p⟩ := h
    rw [evE_c] at p
    exact p ρ H v (Fwd.refl _ _) h2 (SVRel.d_iff.mpr (r ρ H))⟩
theorem se_int {i : Int} {j : Nat} : SE D0 n X CA (.Constant (.int i) j pos) (.c (.int i)) := se_k (fun _ _ => pe_int) fun _ _ => mk_int i
theorem se_bl {i : Bool} {j : Nat} : SE D0 n X CA (.Constant (.bool i) j pos) (.c (.bl i)) := se_k (fun _ _ => pe_bl) fun _ _ => mk_bl i
theorem se_str {i : Str} {j : Nat} : SE D0 n X CA (.Constant (.str i) j pos) (.c (.str i)) := se_k (fun _ _ => pe_str) fun _ _ => mk_str i
theorem se_non {j : Nat} : SE D0 n X CA (.Constant .none j pos) (.c .non) := se_k (fun _ _ => pe_non) fun _ _ => mk_non
theorem se_g {d : D} {v : V} {u : Value} {x : Str} (hm : X.mg x = some u) (rv : RelV v u) (r : ∀ ρ H, DRel X.K ρ H d v) (hg : Gl X x := by rfl) (hd : (x == ("__debug__" : Str)) = false := by decide) : SE D0 n X CA (.Name x pos) (.c d) := se_k (fun _ _ => pe_glob hg hm rv hd) r
/-! ### operators -/
theorem se_bin {o : Op} {bop : Operator} {r : R2} (ho : OpR X (binaryOp bop) r) (hs : ∀ {ρ hm H d e x y Q}, HRel D0.G X.K ρ hm H → DRel X.K ρ H d x → DRel X.K ρ H e y → PostD D0.G X.K ρ H (op o [d, e] hm) Q → r x y H Q)
    (ha : SE D0 n X CA a ia) (hb : SE D0 n X CA b ib) : SE D0 n X CA (.BinOp a bop b pos) (.op o [ia, ib]) :=
  ⟨fun W tk => PE.weak (pe_op ho (ha.run W tk) (hb.run W tk)) fun σ H Q h => tI_mono (tI_op2 h) fun v H1 q => tI_mono q fun u H2 q => by
    obtain ⟨ρ1, hm1, d, e, h1, h2, h3, p⟩ := q
    exact hs h1 h2 h3 p⟩
theorem se_add (ha : SE D0 n X CA a ia) (hb : SE D0 n X CA b ib) : SE D0 n X CA (.BinOp a .Add b pos) (.op .add [ia, ib]) := se_bin op_addA (fun h1 h2 h3 p => add_s h1 h2 h3 p) ha hb
theorem se_sub (ha : SE D0 n X CA a ia) (hb : SE D0 n X CA b ib) : SE D0 n X CA (.BinOp a .Sub b pos) (.op .sub [ia, ib]) := se_bin op_sub (fun h1 h2 h3 p => sub_s h1 h2 h3 p) ha hb
theorem se_mul (ha : SE D0 n X CA a ia) (hb : SE D0 n X CA b ib) : SE D0 n X CA (.BinOp a .Mult b pos) (.op .mul [ia, ib]) := se_bin op_mulA (fun h1 h2 h3 p => mul_s h1 h2 h3 p) ha hb
theorem se_fdiv (ha : SE D0 n X CA a ia) (hb : SE D0 n X CA b ib) : SE D0 n X CA (.BinOp a .FloorDiv b pos) (.op .fdiv [ia, ib]) := se_bin op_fdivA (fun h1 h2 h3 p => fdiv_s h1 h2 h3 p) ha hb
theorem se_mod (ha : SE D0 n X CA a ia) (hb : SE D0 n X CA b ib) : SE D0 n X CA (.BinOp a .Mod b pos) (.op .mod [ia, ib]) := se_bin op_modN (fun h1 h2 h3 p => mod_s h1 h2 h3 p) ha hb
theorem se_pow (ha : SE D0 n X CA a ia) (hb : SE D0 n X CA b ib) : SE D0 n X CA (.BinOp a .Pow b pos) (.op .pow [ia, ib]) := se_bin op_pow (fun h1 h2 h3 p => pow_s h1 h2 h3 p) ha hb
theorem se_un {o : Op} {bop : UnaryOp} {r : V → Hp → VK → Prop} (ho : UnR X (unaryOp bop) r) (hs : ∀ {ρ hm H d x Q}, HRel D0.G X.K ρ hm H → DRel X.K ρ H d x → PostD D0.G X.K ρ H (op o [d] hm) Q → r x H Q)
    (ha : SE D0 n X CA a ia) : SE D0 n X CA (.UnaryOp bop a pos) (.op o [ia]) :=
  ⟨fun W tk => PE.weak (pe_un ho (ha.run W tk)) fun σ H Q h => tI_mono (tI_op1 h) fun v H1 q => by
    obtain ⟨ρ1, hm1, d, h1, h2, p⟩ := q
    exact hs h1 h2 p⟩
theorem se_neg (ha : SE D0 n X CA a ia) : SE D0 n X CA (.UnaryOp .USub a pos) (.op .neg [ia]) := se_un un_neg (fun h1 h2 p => neg_s h1 h2 p) ha
/-! ### comparisons -/
abbrev CmpS (D0 : Wd) (K : PySem.W.Frag) (o : Op) (r : R2) : Prop := ∀ {ρ hm H d e x y Q}, HRel D0.G K ρ hm H → DRel K ρ H d x → DRel K ρ H e y → PostD D0.G K ρ H (op o [d, e] hm) Q → r x y H Q
theorem se_cmp {o : Op} {cop : CmpOp} {r : R2} (ho : OpR X (compareOp cop) r) (hs : CmpS D0 X.K o r) (hm : behindInMarks cop b = false) (ha : SE D0 n X CA a ia) (hb : SE D0 n X CA b ib) : SE D0 n X CA (.Compare a [cop] [b] pos) (.op o [ia, ib]) :=
  ⟨fun W tk => PE.weak (pe_cmpR ho (ha.run W tk) (hb.run W tk) hm) fun σ H Q h => tI_mono (tI_op2 h) fun v H1 q => tI_mono q fun u H2 q => by
    obtain ⟨ρ1, hm1, d, e, h1, h2, h3, p⟩ := q
    exact hs h1 h2 h3 p⟩
theorem st_cmp {o : Op} {cop : CmpOp} {r : R2} (ho : OpR X (compareOp cop) r) (hs : CmpS D0 X.K o r) (hm : behindInMarks cop b = false) (ha : SE D0 n X CA a ia) (hb : SE D0 n X CA b ib) : ST D0 n X CA (.Compare a [cop] [b] pos) (.op o [ia, ib]) :=
  ⟨fun W tk => PT.weak (pt_cmpR ho (ha.run W tk) (hb.run W tk) hm) fun σ H Q h => tI_mono (tI_op2 (tI_b h)) fun v H1 q => tI_mono q fun u H2 q => by
    obtain ⟨ρ1, hm1, d, e, h1, h2, h3, p⟩ := q
    exact hs h1 h2 h3 p⟩
theorem lt_S : CmpS D0 X.K .lt (rI0 fun i j => .bl (decide (i < j))) := fun h1 h2 h3 p => cmp_s h1 h2 h3 p
theorem le_S : CmpS D0 X.K .le (rI0 fun i j => .bl (decide (i ≤ j))) := fun h1 h2 h3 p => cmp_s h1 h2 h3 p
theorem gt_S : CmpS D0 X.K .gt (rI0 fun i j => .bl (decide (j < i))) := fun h1 h2 h3 p => cmp_s h1 h2 h3 p
theorem ge_S : CmpS D0 X.K .ge (rI0 fun i j => .bl (decide (j ≤ i))) := fun h1 h2 h3 p => cmp_s h1 h2 h3 p
theorem eq_S : CmpS D0 X.K .eq (rEqD X.K) := fun h1 h2 h3 p => eq_s h1 h2 h3 p
theorem ne_S : CmpS D0 X.K .ne (rNeD X.K) := fun h1 h2 h3 p => ne_s h1 h2 h3 p
theorem in_S : CmpS D0 X.K .isin (rInA X.K false) := fun h1 h2 h3 p => in_s h1 h2 h3 p
theorem notin_S : CmpS D0 X.K .notin (rInA X.K true) := fun h1 h2 h3 p => notin_s h1 h2 h3 p
theorem chain_S {W : WX} {σ : L2.St} {H : Hp} {Q : VK} {o o' : Op} {r r' : R2} (hs : CmpS D0 X.K o r) (hs' : CmpS D0 X.K o' r') (h : tI D0 n X.K CA W (.chain o o' ia ib ic) σ H Q) : tChain r r' (tI D0 n X.K CA W ia) (tI D0 n X.K CA W ib) (tI D0 n X.K CA W ic) σ H Q := by
    obtain ⟨ρ, hm, env, h1, h2, p⟩ := h
    rw [evE_chain] at p
    refine tI_of h1 h2 (PO.bind p) fun x hm1 ρ1 H1 v f1 hr1 r1 q1 => ?_
    refine tI_of (h1.fwd f1) hr1 (PO.bind q1) fun y hm2 ρ2 H2 u f2 hr2 r2 q2 => ?_
    have q3 := PO.bind (Rl := RlB) q2
    unfold chain1 at q3
    split at q3
    · rename_i x y
      have r1' : DRel X.K ρ2 H2 x v := (SVRel.d_iff.mp r1).fwd f2
      have r2' : DRel X.K ρ2 H2 y u := SVRel.d_iff.mp r2
      refine hs hr2 r1' r2' (PO.toSV (CA := CA) (PO.mono (PO.bind q3) fun z hm3 ρ3 H3 w f3 hr3 r3 q4 => ?_))
      split at q4
      · rename_i b
        refine ⟨b, dr_bl (SVRel.d_iff.mp r3), ?_⟩
        have q5 := q4 ρ3 H3 b (Fwd.refl _ _) hr3 rfl
        cases b with
        | true =>
          rw [if_pos rfl]
          rw [if_pos rfl] at q5
          refine tI_of (h1.fwd (f1.trans (f2.trans f3))) hr3 (PO.bind q5) fun z hm4 ρ4 H4 w4 f4 hr4 r4 q6 => ?_
          unfold opRun at q6
          split at q6
          · rename_i ds e
            cases z with
            | clo _ _ => simp [allD] at e
            | d z =>
              simp only [allD, Option.map_some, Option.some.injEq] at e
              subst e
              exact hs' hr4 (r2'.fwd (f3.trans f4)) (SVRel.d_iff.mp r4) (PO.toSV q6)
          · exact q6.elim
        | false =>
          rw [if_neg (by decide)]
          rw [if_neg (by decide)] at q5
          exact q5 ρ3 H3 _ (Fwd.refl _ _) hr3 (SVRel.d_iff.mpr (mk_bl false))
      · exact q4.elim
    · exact q3.elim
theorem se_chain {o o' : Op} {c1 c2 : CmpOp} {r r' : R2} (ho : OpR X (compareOp c1) r) (hs : CmpS D0 X.K o r) (ho' : OpR X (compareOp c2) r') (hs' : CmpS D0 X.K o' r') (ha : SE D0 n X CA a ia) (hb : SE D0 n X CA b ib) (hc : SE D0 n X CA c ic)
    (hm : lastMarks [c1, c2] [b, c] = false := by with_unfolding_all rfl) : SE D0 n X CA (.Compare a [c1, c2] [b, c] pos) (.chain o o' ia ib ic) :=
  ⟨fun W tk => PE.weak (pe_chain ho ho' (ha.run W tk) (hb.run W tk) (hc.run W tk) hm) fun σ H Q h => chain_S hs hs' h⟩
theorem st_chain {o o' : Op} {c1 c2 : CmpOp} {r r' : R2} (ho : OpR X (compareOp c1) r) (hs : CmpS D0 X.K o r) (ho' : OpR X (compareOp c2) r') (hs' : CmpS D0 X.K o' r') (ha : SE D0 n X CA a ia) (hb : SE D0 n X CA b ib) (hc : SE D0 n X CA c ic)
    (hm : lastMarks [c1, c2] [b, c] = false := by with_unfolding_all rfl) : ST D0 n X CA (.Compare a [c1, c2] [b, c] pos) (.chain o o' ia ib ic) :=
  ⟨fun W tk => PT.weak (pt_chain ho ho' (ha.run W tk) (hb.run W tk) (hc.run W tk) hm) fun σ H Q h => chain_S hs hs' (tI_b h)⟩
end
end AR
end
section
/-! Snd3: expressions, further. -/
set_option Elab.async false
set_option linter.all false
set_option maxRecDepth 100000
set_option maxHeartbeats 4000000
namespace AR
open PySem L2 PySem.Spec PyProof.Rows
structure SW (D0 : Wd) (n : Nat) (X : Cx) (CA : CAp) (e : Expr) (ir : E) : Prop where
  run : ∀ W, Takes X W → PW X e (tIb D0 n X.K CA W ir)
theorem PW.weak {X : Cx} {e : Expr} {t t' : TT} (h : PW X e t) (w : ∀ σ H Q, t' σ H Q → t σ H Q) : PW X e t' := ⟨fun wh pins s σ H Q I q => h.run wh pins s σ H Q I (w σ H Q q)⟩
section
variable {D0 : Wd} {n : Nat} {K : PySem.W.Frag} {CA : CAp} {W : WX} {ρ : List Addr} {hm : Hm} {H : Hp} {env : AR.Env} {σ : L2.St} {Q Q' : VK}
theorem tIb_mono {e : E} {Q Q' : Bool → Hp → Prop} (h : tIb D0 n K CA W e σ H Q) (m : ∀ v H, Q v H → Q' v H) : tIb D0 n K CA W e σ H Q' := by
  obtain ⟨ρ, hm, env, h1, h2, p⟩ := h
  exact ⟨ρ, hm, env, h1, h2, p.mono fun _ _ _ H' v _ _ _ q => m v H' q⟩
/-- a truth, told as a value -/
theorem PO.okB {Wx : XW} {b : Bool} {h : Hm} {N : SV → Hm → List Addr → Hp → V → Prop} (p : PO D0 K ρ H Wx (RlE D0 K CA) (AR.okB b h) N) (hr : HRel D0.G K ρ h H) : N (.d (.bl b)) h ρ H (.bl b) := p ρ H (.bl b) (Fwd.refl _ _) hr (SVRel.d_iff.mpr (mk_bl b))
theorem tI_and {a b : E} (h : tI D0 n K CA W (.and a b) σ H Q) : tIb D0 n K CA W a σ H fun c H1 => if c = true then (tIb D0 n K CA W b σ H1 fun d H2 => Q (.bl d) H2) else Q (.bl false) H1 := by
  obtain ⟨ρ, hm, env, h1, h2, p⟩ := h
  rw [evE_and] at p
  refine tIb_of h1 h2 (PO.bind p) fun x hm1 ρ1 H1 v f hr e q => ?_
  subst e
  cases x with
  | true =>
    rw [if_pos rfl] at q ⊢
    refine tIb_of (h1.fwd f) hr (PO.bind q) fun y hm2 ρ2 H2 u f2 hr2 e q2 => ?_
    subst e
    exact PO.okB q2 hr2
  | false =>
    rw [if_neg (by decide)] at q ⊢
    exact PO.okB q hr
theorem tI_or {a b : E} (h : tI D0 n K CA W (.or a b) σ H Q) : tIb D0 n K CA W a σ H fun c H1 => if c = true then Q (.bl true) H1 else (tIb D0 n K CA W b σ H1 fun d H2 => Q (.bl d) H2) := by
  obtain ⟨ρ, hm, env, h1, h2, p⟩ := h
  rw [evE_or] at p
  refine tIb_of h1 h2 (PO.bind p) fun x hm1 ρ1 H1 v f hr e q => ?_
  subst e
  cases x with
  | false =>
    rw [if_neg (by decide)] at q ⊢
    refine tIb_of (h1.fwd f) hr (PO.bind q) fun y hm2 ρ2 H2 u f2 hr2 e q2 => ?_
    subst e
    exact PO.okB q2 hr2
  | true =>
    rw [if_pos rfl] at q ⊢
    exact PO.okB q hr
theorem tI_not {a : E} (h : tI D0 n K CA W (.not a) σ H Q) : tIb D0 n K CA W a σ H fun c H1 => Q (.bl (!c)) H1 := by
  obtain ⟨ρ, hm, env, h1, h2, p⟩ := h
  rw [evE_not] at p
  refine tIb_of h1 h2 (PO.bind p) fun x hm1 ρ1 H1 v f hr e q => ?_
  subst e
  exact PO.okB q hr
theorem tI_ite {c a b : E} (h : tI D0 n K CA W (.ite c a b) σ H Q) : tIb D0 n K CA W c σ H fun c H1 => if c = true then tI D0 n K CA W a σ H1 Q else tI D0 n K CA W b σ H1 Q := by
  obtain ⟨ρ, hm, env, h1, h2, p⟩ := h
  rw [evE_ite] at p
  refine tIb_of h1 h2 (PO.bind p) fun x hm1 ρ1 H1 v f hr e q => ?_
  subst e
  cases x with
  | true =>
    rw [if_pos rfl] at q ⊢
    exact ⟨ρ1, hm1, env, h1.fwd f, hr, q⟩
  | false =>
    rw [if_neg (by decide)] at q ⊢
    exact ⟨ρ1, hm1, env, h1.fwd f, hr, q⟩
/-- a test is the value's reading -/
theorem tIb_of_tI {e : E} {Q : Bool → Hp → Prop} (h : tIb D0 n K CA W e σ H Q) : tI D0 n K CA W e σ H fun x H1 => ∃ k, x = .bl k ∧ Q k H1 := tI_b h
end
section
variable {D0 : Wd} {n : Nat} {X : Cx} {CA : CAp} {a b c e : Expr} {ia ib ic ie : E} {pos : Pos} {es rest : List Expr} {ies : List E}
theorem se_and (ha : SE D0 n X CA a ia) (hb : SE D0 n X CA (.BoolOp .And (b :: rest) pos) ib) : SE D0 n X CA (.BoolOp .And (a :: b :: rest) pos) (.and ia ib) :=
  ⟨fun W tk => PE.weak (pe_and (ha.run W tk) (hb.run W tk)) fun σ H Q h => tI_mono (tI_b (tI_and h)) fun v H1 ⟨k, e, q⟩ => ⟨k, e, by
    cases k with
    | true => rw [if_pos rfl] at q ⊢; exact tI_mono (tI_b q) fun u H2 ⟨d, e, q⟩ => by subst e; exact q
    | false => rw [if_neg (by decide)] at q ⊢; exact q⟩⟩
theorem se_or (ha : SE D0 n X CA a ia) (hb : SE D0 n X CA (.BoolOp .Or (b :: rest) pos) ib) : SE D0 n X CA (.BoolOp .Or (a :: b :: rest) pos) (.or ia ib) :=
  ⟨fun W tk => PE.weak (pe_or (ha.run W tk) (hb.run W tk)) fun σ H Q h => tI_mono (tI_b (tI_or h)) fun v H1 ⟨k, e, q⟩ => ⟨k, e, by
    cases k with
    | false => rw [if_neg (by decide)] at q ⊢; exact tI_mono (tI_b q) fun u H2 ⟨d, e, q⟩ => by subst e; exact q
    | true => rw [if_pos rfl] at q ⊢; exact q⟩⟩
theorem se_one {op : BoolOp} (ha : SE D0 n X CA a ia) : SE D0 n X CA (.BoolOp op [a] pos) ia := ⟨fun W tk => pe_one (ha.run W tk)⟩
theorem se_not (ha : SE D0 n X CA a ia) : SE D0 n X CA (.UnaryOp .Not a pos) (.not ia) :=
  ⟨fun W tk => PE.weak (pe_not (ha.run W tk)) fun σ H Q h => tI_b (tI_not h)⟩
theorem se_ite (hc : ST D0 n X CA c ic) (ha : SE D0 n X CA a ia) (hb : SE D0 n X CA b ib) : SE D0 n X CA (.IfExp c a b pos) (.ite ic ia ib) :=
  ⟨fun W tk => PE.weak (pe_ifExp (hc.run W tk) (ha.run W tk) (hb.run W tk)) fun σ H Q h => tI_ite h⟩
/-! ### tests -/
theorem st_val (h : SE D0 n X CA e ie) (he : ∀ whole, isTrue e X.env whole = (do let v ← whole; standAt e.pos; holding [v] (truthy v)) := by intro _; rfl) : ST D0 n X CA e ie :=
  ⟨fun W tk => PT.weak (pt_val (h.run W tk) he) fun σ H Q h => tI_b h⟩
theorem tIb_andE {n : Nat} {K : PySem.W.Frag} {W : WX} {σ : L2.St} {H : Hp} {ia ib : E} {Q : Bool → Hp → Prop} (h : tIb D0 n K CA W (.and ia ib) σ H Q) : tAnd (tIb D0 n K CA W ia) (tIb D0 n K CA W ib) σ H Q := by
  refine tIb_mono (tI_and (tI_b h)) fun c H1 q => ?_
  cases c with
  | true => rw [if_pos rfl] at q ⊢; exact tIb_mono q fun d H2 ⟨k, e, q⟩ => by cases e; exact q
  | false =>
    rw [if_neg (by decide)] at q ⊢
    obtain ⟨k, e, q⟩ := q
    cases e
    exact q
theorem tIb_orE {n : Nat} {K : PySem.W.Frag} {W : WX} {σ : L2.St} {H : Hp} {ia ib : E} {Q : Bool → Hp → Prop} (h : tIb D0 n K CA W (.or ia ib) σ H Q) : tOr (tIb D0 n K CA W ia) (tIb D0 n K CA W ib) σ H Q := by
  refine tIb_mono (tI_or (tI_b h)) fun c H1 q => ?_
  cases c with
  | false => rw [if_neg (by decide)] at q ⊢; exact tIb_mono q fun d H2 ⟨k, e, q⟩ => by cases e; exact q
  | true =>
    rw [if_pos rfl] at q ⊢
    obtain ⟨k, e, q⟩ := q
    cases e
    exact q
theorem sw_and (ha : ST D0 n X CA a ia) (hb : SW D0 n X CA (.BoolOp .And (b :: rest) pos) ib) : SW D0 n X CA (.BoolOp .And (a :: b :: rest) pos) (.and ia ib) :=
  ⟨fun W tk => PW.weak (pw_and (ha.run W tk) (hb.run W tk)) fun σ H Q h => tIb_andE h⟩
theorem sw_or (ha : ST D0 n X CA a ia) (hb : SW D0 n X CA (.BoolOp .Or (b :: rest) pos) ib) : SW D0 n X CA (.BoolOp .Or (a :: b :: rest) pos) (.or ia ib) :=
  ⟨fun W tk => PW.weak (pw_or (ha.run W tk) (hb.run W tk)) fun σ H Q h => tIb_orE h⟩
theorem sw_and1 (ha : ST D0 n X CA a ia) : SW D0 n X CA (.BoolOp .And [a] pos) ia := ⟨fun W tk => pw_and1 (ha.run W tk)⟩
theorem sw_or1 (ha : ST D0 n X CA a ia) : SW D0 n X CA (.BoolOp .Or [a] pos) ia := ⟨fun W tk => pw_or1 (ha.run W tk)⟩
theorem st_w (h : SW D0 n X CA e ie) : ST D0 n X CA e ie := ⟨fun W tk => (h.run W tk).pt⟩
theorem st_not (ha : ST D0 n X CA a ia) : ST D0 n X CA (.UnaryOp .Not a pos) (.not ia) :=
  ⟨fun W tk => PT.weak (pt_not (ha.run W tk)) fun σ H Q h => tIb_mono (tI_not (tI_b h)) fun c H1 ⟨k, e, q⟩ => by cases e; exact q⟩
/-! ### is -/
theorem PostD.okV {G : Glo} {K : PySem.W.Frag} {ρ : List Addr} {hm : Hm} {H : Hp} {b : Bool} {Q : VK} (p : PostD G K ρ H (.ok (.bl b) hm) Q) (h : HRel G K ρ hm H) : Q (.bl b) H := PostD.here p h (mk_bl b)
theorem isNon_s {K : PySem.W.Frag} {ρ : List Addr} {H : Hp} {d : D} {x : V} (r : DRel K ρ H d x) : decide (x = .non) = isNonD d := by
  cases d with
  | non => rw [dr_non r]; rfl
  | bl b => rw [dr_bl r]; rfl
  | int b => rw [dr_int r]; rfl
  | str b => rw [dr_str r]; rfl
  | tup b => obtain ⟨a, vs, rfl, _⟩ := dr_tup r; rfl
  | ref b => obtain ⟨a, _, rfl⟩ := dr_ref r; rfl
theorem isBl_s {K : PySem.W.Frag} {ρ : List Addr} {H : Hp} {d : D} {x : V} {b : Bool} (r : DRel K ρ H d x) : decide (x = .bl b) = isBlD b d := by
  cases d with
  | non => rw [dr_non r]; rfl
  | bl c =>
    rw [dr_bl r]
    show decide (V.bl c = V.bl b) = (b == c)
    cases b <;> cases c <;> rfl
  | int b => rw [dr_int r]; rfl
  | str b => rw [dr_str r]; rfl
  | tup b => obtain ⟨a, vs, rfl, _⟩ := dr_tup r; rfl
  | ref b => obtain ⟨a, _, rfl⟩ := dr_ref r; rfl
theorem is_bool_any {M : Model} {A : Around} {E : Value → Shared → Prop} {s : Shared} {Q : Value → Shared → Prop} {x : V} {v : Value} {b : Bool} (r : RelV x v) (h : Q (.bool (decide (x = .bl b))) s) : wpAny M A (compareOp .Is v (.bool b)) Q E s := by
  cases x with
  | non => cases r; exact wpAny_pure h
  | bl c =>
    cases r
    have e : decide (V.bl c = V.bl b) = (c == b) := by cases b <;> cases c <;> rfl
    rw [e] at h
    exact is_bool h
  | int i => obtain ⟨t, rfl⟩ := r; exact wpAny_pure h
  | str i => obtain ⟨t, rfl⟩ := r; exact wpAny_pure h
  | byt i => obtain ⟨t, rfl⟩ := r; exact wpAny_pure h
  | flt i => obtain ⟨t, rfl⟩ := r; exact wpAny_pure h
  | ref i => cases r; exact wpAny_pure h
  | ty i => cases r; exact wpAny_pure h
theorem isnot_bool_any {M : Model} {A : Around} {E : Value → Shared → Prop} {s : Shared} {Q : Value → Shared → Prop} {x : V} {v : Value} {b : Bool} (r : RelV x v) (h : Q (.bool (!decide (x = .bl b))) s) : wpAny M A (compareOp .IsNot v (.bool b)) Q E s := by
  cases x with
  | non => cases r; exact wpAny_pure h
  | bl c =>
    cases r
    have e : (!decide (V.bl c = V.bl b)) = (c != b) := by cases b <;> cases c <;> rfl
    rw [e] at h
    exact isnot_bool h
  | int i => obtain ⟨t, rfl⟩ := r; exact wpAny_pure h
  | str i => obtain ⟨t, rfl⟩ := r; exact wpAny_pure h
  | byt i => obtain ⟨t, rfl⟩ := r; exact wpAny_pure h
  | flt i => obtain ⟨t, rfl⟩ := r; exact wpAny_pure h
  | ref i => cases r; exact wpAny_pure h
  | ty i => cases r; exact wpAny_pure h
def tIsB (b : Bool) (ta : TE) : TE := fun σ H Q => ta σ H fun x H1 => Q (.bl (decide (x = .bl b))) H1
def tNotB (b : Bool) (ta : TE) : TE := fun σ H Q => ta σ H fun x H1 => Q (.bl (!decide (x = .bl b))) H1
theorem pc_isB {X : Cx} {a : Expr} {ta : TE} {b : Bool} {j : Nat} {p : Pos} (ha : PE X a ta) : PC X .Is a (.Constant (.bool b) j p) (tIsB b ta) := by
  refine ⟨fun pins s σ H Q I h => ?_⟩
  refine thn (ha.run pins s σ H _ I h) fun v s1 ⟨x, H1, I1, r1, q1⟩ => ?_
  refine thn (pe_bl.run pins s1 σ H1 (fun y H2 => y = .bl b ∧ H2 = H1) I1 ⟨rfl, rfl⟩) fun u s2 ⟨y, H2, I2, r2, e1, e2⟩ => ?_
  subst e1
  subst e2
  cases r2
  exact is_bool_any r1 ⟨.bl _, _, I2, rfl, q1⟩
theorem pc_notB {X : Cx} {a : Expr} {ta : TE} {b : Bool} {j : Nat} {p : Pos} (ha : PE X a ta) : PC X .IsNot a (.Constant (.bool b) j p) (tNotB b ta) := by
  refine ⟨fun pins s σ H Q I h => ?_⟩
  refine thn (ha.run pins s σ H _ I h) fun v s1 ⟨x, H1, I1, r1, q1⟩ => ?_
  refine thn (pe_bl.run pins s1 σ H1 (fun y H2 => y = .bl b ∧ H2 = H1) I1 ⟨rfl, rfl⟩) fun u s2 ⟨y, H2, I2, r2, e1, e2⟩ => ?_
  subst e1
  subst e2
  cases r2
  exact isnot_bool_any r1 ⟨.bl _, _, I2, rfl, q1⟩
theorem se_pc {o : Op} {cop : CmpOp} {b : Expr} {tt : TE → TE} (hp : ∀ t, PE X a t → PC X cop a b (tt t)) (hs : ∀ W σ H Q, tI D0 n X.K CA W (.op o [ia]) σ H Q → tt (tI D0 n X.K CA W ia) σ H Q) (ha : SE D0 n X CA a ia) (hm : behindInMarks cop b = false) : SE D0 n X CA (.Compare a [cop] [b] pos) (.op o [ia]) :=
  ⟨fun W tk => PE.weak (pe_cmp (hp _ (ha.run W tk)) hm) fun σ H Q h => hs W σ H Q h⟩
theorem st_pc {o : Op} {cop : CmpOp} {b : Expr} {tt : TE → TE} (hp : ∀ t, PE X a t → PC X cop a b (tt t)) (hs : ∀ W σ H Q, tI D0 n X.K CA W (.op o [ia]) σ H Q → tt (tI D0 n X.K CA W ia) σ H Q) (ha : SE D0 n X CA a ia) (hm : behindInMarks cop b = false) : ST D0 n X CA (.Compare a [cop] [b] pos) (.op o [ia]) :=
  ⟨fun W tk => PT.weak (pt_cmp (hp _ (ha.run W tk)) hm) fun σ H Q h => hs W σ H _ (tI_b h)⟩
theorem isN_S {W : WX} {σ : L2.St} {H : Hp} {Q : VK} (h : tI D0 n X.K CA W (.op .isNon [ia]) σ H Q) : tIsN (tI D0 n X.K CA W ia) σ H Q := tI_mono (tI_op1 h) fun v H1 ⟨ρ1, hm1, d, h1, h2, p⟩ => by rw [isNon_s h2]; exact PostD.okV p h1
theorem notN_S {W : WX} {σ : L2.St} {H : Hp} {Q : VK} (h : tI D0 n X.K CA W (.op .notNon [ia]) σ H Q) : tNotN (tI D0 n X.K CA W ia) σ H Q := tI_mono (tI_op1 h) fun v H1 ⟨ρ1, hm1, d, h1, h2, p⟩ => by rw [isNon_s h2]; exact PostD.okV p h1
theorem isT_S {W : WX} {σ : L2.St} {H : Hp} {Q : VK} (h : tI D0 n X.K CA W (.op .isTrue [ia]) σ H Q) : tIsB true (tI D0 n X.K CA W ia) σ H Q := tI_mono (tI_op1 h) fun v H1 ⟨ρ1, hm1, d, h1, h2, p⟩ => by rw [isBl_s h2]; exact PostD.okV p h1
theorem notT_S {W : WX} {σ : L2.St} {H : Hp} {Q : VK} (h : tI D0 n X.K CA W (.op .notTrue [ia]) σ H Q) : tNotB true (tI D0 n X.K CA W ia) σ H Q := tI_mono (tI_op1 h) fun v H1 ⟨ρ1, hm1, d, h1, h2, p⟩ => by rw [isBl_s h2]; exact PostD.okV p h1
theorem isF_S {W : WX} {σ : L2.St} {H : Hp} {Q : VK} (h : tI D0 n X.K CA W (.op .isFalse [ia]) σ H Q) : tIsB false (tI D0 n X.K CA W ia) σ H Q := tI_mono (tI_op1 h) fun v H1 ⟨ρ1, hm1, d, h1, h2, p⟩ => by rw [isBl_s h2]; exact PostD.okV p h1
theorem notF_S {W : WX} {σ : L2.St} {H : Hp} {Q : VK} (h : tI D0 n X.K CA W (.op .notFalse [ia]) σ H Q) : tNotB false (tI D0 n X.K CA W ia) σ H Q := tI_mono (tI_op1 h) fun v H1 ⟨ρ1, hm1, d, h1, h2, p⟩ => by rw [isBl_s h2]; exact PostD.okV p h1
theorem se_isN {j : Nat} {p : Pos} (ha : SE D0 n X CA a ia) : SE D0 n X CA (.Compare a [.Is] [.Constant .none j p] pos) (.op .isNon [ia]) := se_pc (fun _ h => pc_isN h) (fun _ _ _ _ h => isN_S h) ha rfl
theorem se_notN {j : Nat} {p : Pos} (ha : SE D0 n X CA a ia) : SE D0 n X CA (.Compare a [.IsNot] [.Constant .none j p] pos) (.op .notNon [ia]) := se_pc (fun _ h => pc_notN h) (fun _ _ _ _ h => notN_S h) ha rfl
theorem st_isN {j : Nat} {p : Pos} (ha : SE D0 n X CA a ia) : ST D0 n X CA (.Compare a [.Is] [.Constant .none j p] pos) (.op .isNon [ia]) := st_pc (fun _ h => pc_isN h) (fun _ _ _ _ h => isN_S h) ha rfl
theorem st_notN {j : Nat} {p : Pos} (ha : SE D0 n X CA a ia) : ST D0 n X CA (.Compare a [.IsNot] [.Constant .none j p] pos) (.op .notNon [ia]) := st_pc (fun _ h => pc_notN h) (fun _ _ _ _ h => notN_S h) ha rfl
theorem se_isT {j : Nat} {p : Pos} (ha : SE D0 n X CA a ia) : SE D0 n X CA (.Compare a [.Is] [.Constant (.bool true) j p] pos) (.op .isTrue [ia]) := se_pc (fun _ h => pc_isB h) (fun _ _ _ _ h => isT_S h) ha rfl
theorem st_isT {j : Nat} {p : Pos} (ha : SE D0 n X CA a ia) : ST D0 n X CA (.Compare a [.Is] [.Constant (.bool true) j p] pos) (.op .isTrue [ia]) := st_pc (fun _ h => pc_isB h) (fun _ _ _ _ h => isT_S h) ha rfl
theorem se_notT {j : Nat} {p : Pos} (ha : SE D0 n X CA a ia) : SE D0 n X CA (.Compare a [.IsNot] [.Constant (.bool true) j p] pos) (.op .notTrue [ia]) := se_pc (fun _ h => pc_notB h) (fun _ _ _ _ h => notT_S h) ha rfl
theorem st_notT {j : Nat} {p : Pos} (ha : SE D0 n X CA a ia) : ST D0 n X CA (.Compare a [.IsNot] [.Constant (.bool true) j p] pos) (.op .notTrue [ia]) := st_pc (fun _ h => pc_notB h) (fun _ _ _ _ h => notT_S h) ha rfl
theorem se_isF {j : Nat} {p : Pos} (ha : SE D0 n X CA a ia) : SE D0 n X CA (.Compare a [.Is] [.Constant (.bool false) j p] pos) (.op .isFalse [ia]) := se_pc (fun _ h => pc_isB h) (fun _ _ _ _ h => isF_S h) ha rfl
theorem st_isF {j : Nat} {p : Pos} (ha : SE D0 n X CA a ia) : ST D0 n X CA (.Compare a [.Is] [.Constant (.bool false) j p] pos) (.op .isFalse [ia]) := st_pc (fun _ h => pc_isB h) (fun _ _ _ _ h => isF_S h) ha rfl
theorem se_notF {j : Nat} {p : Pos} (ha : SE D0 n X CA a ia) : SE D0 n X CA (.Compare a [.IsNot] [.Constant (.bool false) j p] pos) (.op .notFalse [ia]) := se_pc (fun _ h => pc_notB h) (fun _ _ _ _ h => notF_S h) ha rfl
theorem st_notF {j : Nat} {p : Pos} (ha : SE D0 n X CA a ia) : ST D0 n X CA (.Compare a [.IsNot] [.Constant (.bool false) j p] pos) (.op .notFalse [ia]) := st_pc (fun _ h => pc_notB h) (fun _ _ _ _ h => notF_S h) ha rfl
end
end AR
end
section
/-! Snd4: index, slices, built-ins, methods, displays. -/
set_option Elab.async false
set_option linter.all false
set_option maxRecDepth 100000
set_option maxHeartbeats 4000000
namespace AR
open PySem L2 PySem.Spec PyProof.Rows
section
variable {D0 : Wd} {n : Nat} {K : PySem.W.Frag} {CA : CAp} {W : WX} {ρ : List Addr} {hm : Hm} {H : Hp} {env : AR.Env} {σ : L2.St} {Q Q' : VK}
theorem drs1 {ds : List D} {x : V} (r : DRels K ρ H ds [x]) : ∃ d, ds = [d] ∧ DRel K ρ H d x := by
  cases ds with
  | nil => have := DRels.nil_iff.mp r; cases this
  | cons d ds =>
    obtain ⟨v', vs', e, r1, r2⟩ := DRels.cons_iff.mp r
    cases e
    cases ds with
    | nil => exact ⟨d, rfl, r1⟩
    | cons d2 ds => obtain ⟨_, _, e, _⟩ := DRels.cons_iff.mp r2; cases e
/-- a receiver of a known type, then the arguments -/
theorem tI_meth {t : Ty} {o : Op} {a : E} {as : List E} (h : tI D0 n K CA W (.meth t o a as) σ H Q) : tI D0 n K CA W a σ H fun x H1 => (∃ ρ1 hm1 d, HRel D0.G K ρ1 hm1 H1 ∧ DRel K ρ1 H1 d x ∧ tyOf hm1 d = some t) ∧
    tIs D0 n K CA W as σ H1 fun vs H2 => ∃ ρ2 hm2 d ds, HRel D0.G K ρ2 hm2 H2 ∧ DRel K ρ2 H2 d x ∧ DRels K ρ2 H2 ds vs ∧ PostD D0.G K ρ2 H2 (op o (d :: ds) hm2) Q := by
  obtain ⟨ρ, hm, env, h1, h2, p⟩ := h
  rw [evE_meth] at p
  refine tI_of h1 h2 (PO.bind p) fun x hm1 ρ1 H1 v f hr r q => ?_
  unfold methRun at q
  split at q
  · rename_i x
    split at q
    · rename_i ht
      refine ⟨⟨ρ1, hm1, x, hr, SVRel.d_iff.mp r, ht⟩, ?_⟩
      refine tIs_of (h1.fwd f) hr (PO.bind q) fun xs hm2 ρ2 H2 vs f2 hr2 r2 q2 => ?_
      unfold opRun at q2
      split at q2
      · rename_i ds e
        simp only [allD] at e
        cases e2 : allD xs with
        | none => rw [e2] at e; cases e
        | some cs =>
          rw [e2] at e
          cases e
          exact ⟨ρ2, hm2, x, cs, hr2, (SVRel.d_iff.mp r).fwd f2, allD_s e2 r2, PO.toSV q2⟩
      · exact q2.elim
    · exact q.elim
  · exact q.elim
theorem ty_list (h : HRel D0.G K ρ hm H) {d : D} {x : V} (r : DRel K ρ H d x) (e : tyOf hm d = some .list) : tyV K "list" x H := by
  unfold tyOf at e
  split at e <;> try (cases e; done)
  rename_i n
  obtain ⟨a, ea, rfl⟩ := dr_ref r
  split at e <;> try (cases e; done)
  · rename_i xs hx
    obtain ⟨vs, hv, _⟩ := at_lst h hx ea
    exact .inl ⟨rfl, vs, .inl (.inl hv)⟩
  · rename_i xs hx
    obtain ⟨vs, hv, _⟩ := at_rol h hx ea
    exact .inl ⟨rfl, vs, hv⟩
theorem ty_str {d : D} {x : V} (r : DRel K ρ H d x) (e : tyOf hm d = some .str) : ∃ z, x = .str z := by
  unfold tyOf at e
  split at e <;> try (cases e; done)
  · exact ⟨_, dr_str r⟩
  · split at e <;> cases e
theorem ty_dict (h : HRel D0.G K ρ hm H) {d : D} {x : V} (r : DRel K ρ H d x) (e : tyOf hm d = some .dict) : ∃ a kvs, x = .ref a ∧ H a = some (.dK kvs) := by
  unfold tyOf at e
  split at e <;> try (cases e; done)
  rename_i n
  obtain ⟨a, ea, rfl⟩ := dr_ref r
  split at e <;> try (cases e; done)
  rename_i kvs hx
  obtain ⟨us, hu, _⟩ := at_dct h hx ea
  exact ⟨a, us, rfl, hu⟩
end
section
variable {D0 : Wd} {n : Nat} {X : Cx} {CA : CAp} {a b c e : Expr} {ia ib ic ie : E} {pos : Pos} {es rest : List Expr} {ies : List E}
/-! ### index, slices -/
theorem ix_dct (hu : X.A.units + 1 < cLine) : IxR X rIxDct := by
  intro value slice pins s σ H x y v u Q I rx ry h hs
  obtain ⟨a, r, rfl, g, q⟩ := h
  obtain rfl : v = Value.ref a := rx
  exact tail_any (dict_typeIs I g) F.slot_dict_getitem.lookup (d_getItem hu I g ry fun w' s3 I3 rw' => ⟨r, H, I3, rw', q⟩) hs
theorem se_ix (hu : X.A.units + 1 < cLine) (ha : SE D0 n X CA a ia) (hb : SE D0 n X CA b ib) (hs : ∀ ov iv, subscripted b false ov iv = operate [ov, iv] (getItem ov iv) := by exact fun _ _ => rfl) : SE D0 n X CA (.Subscript a b pos) (.op .ix [ia, ib]) :=
  ⟨fun W tk => PE.weak (pe_ix (IxR.or ix_seq (ix_dct hu)) (ha.run W tk) (hb.run W tk) hs) fun σ H Q h => tI_mono (tI_op2 h) fun v H1 q => tI_mono q fun u H2 q => by
    obtain ⟨ρ1, hm1, d, e, h1, h2, h3, p⟩ := q
    exact ix_s h1 h2 h3 p⟩
theorem se_slL {lo : Expr} {p2 : Pos} (ha : SE D0 n X CA a ia) (hb : SE D0 n X CA lo ib) : SE D0 n X CA (.Subscript a (.Slice (some lo) none none p2) pos) (.op .slL [ia, ib]) :=
  ⟨fun W tk => PE.weak (pe_slice sl_all (ha.run W tk) (po_some (hb.run W tk)) po_none) fun σ H Q h => tI_mono (tI_op2 h) fun v H1 q => tI_mono q fun u H2 q => by
    obtain ⟨ρ1, hm1, d, e, h1, h2, h3, p⟩ := q
    have p : PostD D0.G X.K ρ1 H2 (dSlL hm1 d e) Q := p
    unfold dSlL at p
    split at p
    · exact ⟨_, dr_int h3, sl_s h1 h2 p⟩
    · exact p.elim⟩
theorem se_slH {hi : Expr} {p2 : Pos} (ha : SE D0 n X CA a ia) (hb : SE D0 n X CA hi ib) : SE D0 n X CA (.Subscript a (.Slice none (some hi) none p2) pos) (.op .slH [ia, ib]) :=
  ⟨fun W tk => PE.weak (pe_slice sl_all (ha.run W tk) po_none (po_some (hb.run W tk))) fun σ H Q h => tI_mono (tI_op2 h) fun v H1 q => tI_mono q fun u H2 q => by
    obtain ⟨ρ1, hm1, d, e, h1, h2, h3, p⟩ := q
    have p : PostD D0.G X.K ρ1 H2 (dSlH hm1 d e) Q := p
    unfold dSlH at p
    split at p
    · exact ⟨_, dr_int h3, sl_s h1 h2 p⟩
    · exact p.elim⟩
theorem asInt_S {W : WX} {σ : L2.St} {H : Hp} {Q : VK} (h : tI D0 n X.K CA W (.op .asInt [ia]) σ H Q) : tI D0 n X.K CA W ia σ H fun x H1 => ∃ i, x = .int i ∧ Q (.int i) H1 :=
  tI_mono (tI_op1 h) fun v H1 ⟨ρ1, hm1, d, h1, h2, p⟩ => by
    have p : PostD D0.G X.K ρ1 H1 (dAsInt hm1 d) Q := p
    unfold dAsInt at p
    split at p
    · exact ⟨_, dr_int h2, p.here h1 (mk_int _)⟩
    · exact p.elim
theorem se_slB {lo hi : Expr} {p2 : Pos} (ha : SE D0 n X CA a ia) (hb : SE D0 n X CA lo ib) (hc : SE D0 n X CA hi ic) : SE D0 n X CA (.Subscript a (.Slice (some lo) (some hi) none p2) pos) (.op .slB [ia, .op .asInt [ib], .op .asInt [ic]]) :=
  ⟨fun W tk => PE.weak (pe_slice sl_all (ha.run W tk) (po_some (hb.run W tk)) (po_some (hc.run W tk))) fun σ H Q h => tI_mono (tI_op3 h) fun v H1 q => tI_mono (asInt_S q) fun u H2 ⟨i, e, q⟩ => ⟨i, e, tI_mono (asInt_S q) fun w H3 ⟨j, e2, q⟩ => ⟨j, e2, by
    obtain ⟨ρ1, hm1, d, e, f, h1, h2, h3, h4, p⟩ := q
    have p : PostD D0.G X.K ρ1 H3 (dSlB hm1 d e f) Q := p
    unfold dSlB at p
    split at p
    · cases dr_int h3
      cases dr_int h4
      exact sl_s h1 h2 p
    · exact p.elim⟩⟩⟩
theorem se_slN {p2 : Pos} (ha : SE D0 n X CA a ia) : SE D0 n X CA (.Subscript a (.Slice none none none p2) pos) (.op .slN [ia]) :=
  ⟨fun W tk => PE.weak (pe_slice sl_all (ha.run W tk) po_none po_none) fun σ H Q h => tI_mono (tI_op1 h) fun v H1 q => by
    obtain ⟨ρ1, hm1, d, h1, h2, p⟩ := q
    exact sl_s h1 h2 p⟩
/-! ### built-ins -/
theorem se_call1 {o : Op} {r : List V → Hp → VK → Prop} (hp : ∀ t, PA X [a] t → PE X e (tCB r t)) (hs : ∀ {ρ hm H d x Q}, HRel D0.G X.K ρ hm H → DRel X.K ρ H d x → PostD D0.G X.K ρ H (op o [d] hm) Q → r [x] H Q) (ha : SE D0 n X CA a ia)
    (hst : starEach [a] X.env = (false, eval a X.env) :: starEach [] X.env := by rfl) : SE D0 n X CA e (.op o [ia]) :=
  ⟨fun W tk => PE.weak (hp _ (pa_cons (ha.run W tk) pa_nil hst)) fun σ H Q h => tI_mono (tI_op1 h) fun v H1 q => by
    obtain ⟨ρ1, hm1, d, h1, h2, p⟩ := q
    exact hs h1 h2 p⟩
theorem se_call2 {o : Op} {r : List V → Hp → VK → Prop} (hp : ∀ t, PA X [a, b] t → PE X e (tCB r t)) (hs : ∀ {ρ hm H d f x y Q}, HRel D0.G X.K ρ hm H → DRel X.K ρ H d x → DRel X.K ρ H f y → PostD D0.G X.K ρ H (op o [d, f] hm) Q → r [x, y] H Q) (ha : SE D0 n X CA a ia) (hb : SE D0 n X CA b ib)
    (hst : starEach [a, b] X.env = (false, eval a X.env) :: starEach [b] X.env := by rfl) (hst2 : starEach [b] X.env = (false, eval b X.env) :: starEach [] X.env := by rfl) : SE D0 n X CA e (.op o [ia, ib]) :=
  ⟨fun W tk => PE.weak (hp _ (pa_cons (ha.run W tk) (pa_cons (hb.run W tk) pa_nil hst2) hst)) fun σ H Q h => tI_mono (tI_op2 h) fun v H1 q => tI_mono q fun u H2 q => by
    obtain ⟨ρ1, hm1, d, e, h1, h2, h3, p⟩ := q
    exact hs h1 h2 h3 p⟩
section
variable {p : Pos}
abbrev StA (X : Cx) (a : Expr) : Prop := starEach [a] X.env = (false, eval a X.env) :: starEach [] X.env
abbrev StB (X : Cx) (a b : Expr) : Prop := starEach [a, b] X.env = (false, eval a X.env) :: starEach [b] X.env
abbrev Pl (X : Cx) (pos : Pos) (es : List Expr) : Prop := (backTo pos (starEach es X.env)).any (·.1) = false
theorem se_len (ha : SE D0 n X CA a ia) (hm : X.mg "len" = none) (hg : Gl X "len" := by rfl) (hst : StA X a := by rfl) (hpl : Pl X pos [] := by rfl) : SE D0 n X CA (.Call (.Name "len" p) [a] [] pos) (.op .len [ia]) :=
  se_call1 (fun t h => pe_callB call_len hg hm boot_len h (by decide) (by decide) hst hpl) (fun h1 h2 q => len_s h1 h2 q) ha hst
theorem se_abs (ha : SE D0 n X CA a ia) (hm : X.mg "abs" = none) (hg : Gl X "abs" := by rfl) (hst : StA X a := by rfl) (hpl : Pl X pos [] := by rfl) : SE D0 n X CA (.Call (.Name "abs" p) [a] [] pos) (.op .abs [ia]) :=
  se_call1 (fun t h => pe_callB call_abs hg hm (by decide +kernel) h (by decide) (by decide) hst hpl) (fun h1 h2 q => abs_s h1 h2 q) ha hst
theorem se_int1 (ha : SE D0 n X CA a ia) (hm : X.mg "int" = none) (hg : Gl X "int" := by rfl) (hst : StA X a := by rfl) (hpl : Pl X pos [] := by rfl) : SE D0 n X CA (.Call (.Name "int" p) [a] [] pos) (.op .int [ia]) :=
  se_call1 (fun t h => pe_callTy call_intA hg hm (by decide +kernel) h (by decide) (by decide) hst hpl) (fun h1 h2 q => int_s h1 h2 q) ha hst
theorem se_str1 (ha : SE D0 n X CA a ia) (hm : X.mg "str" = none) (hg : Gl X "str" := by rfl) (hst : StA X a := by rfl) (hpl : Pl X pos [] := by rfl) : SE D0 n X CA (.Call (.Name "str" p) [a] [] pos) (.op .str [ia]) :=
  se_call1 (fun t h => pe_callTy call_strA hg hm (by decide +kernel) h (by decide) (by decide) hst hpl) (fun h1 h2 q => str_s h1 h2 q) ha hst
theorem se_all (hc : X.calm = true) (ha : SE D0 n X CA a ia) (hm : X.mg "all" = none) (hg : Gl X "all" := by rfl) (hst : StA X a := by rfl) (hpl : Pl X pos [] := by rfl) : SE D0 n X CA (.Call (.Name "all" p) [a] [] pos) (.op .all [ia]) :=
  se_call1 (fun t h => pe_callB (cr_all hc) hg hm (by decide +kernel) h (by decide) (by decide) hst hpl) (fun h1 h2 q => bools2_s h1 h2 q) ha hst
theorem se_any (hc : X.calm = true) (ha : SE D0 n X CA a ia) (hm : X.mg "any" = none) (hg : Gl X "any" := by rfl) (hst : StA X a := by rfl) (hpl : Pl X pos [] := by rfl) : SE D0 n X CA (.Call (.Name "any" p) [a] [] pos) (.op .any [ia]) :=
  se_call1 (fun t h => pe_callB (cr_any hc) hg hm (by decide +kernel) h (by decide) (by decide) hst hpl) (fun h1 h2 q => bools2_s h1 h2 q) ha hst
theorem se_tuple1 (ha : SE D0 n X CA a ia) (hm : X.mg "tuple" = none) (hg : Gl X "tuple" := by rfl) (hst : StA X a := by rfl) (hpl : Pl X pos [] := by rfl) : SE D0 n X CA (.Call (.Name "tuple" p) [a] [] pos) (.op .tupleOf [ia]) :=
  se_call1 (fun t h => pe_callTy call_tuple_of hg hm (by decide +kernel) h (by decide) (by decide) hst hpl) (fun h1 h2 q => tupleOf_s h1 h2 q) ha hst
theorem se_list1 (ha : SE D0 n X CA a ia) (hm : X.mg "list" = none) (hg : Gl X "list" := by rfl) (hst : StA X a := by rfl) (hpl : Pl X pos [] := by rfl) : SE D0 n X CA (.Call (.Name "list" p) [a] [] pos) (.op .listOf [ia]) :=
  se_call1 (fun t h => pe_callTy call_list_of hg hm (by decide +kernel) h (by decide) (by decide) hst hpl) (fun h1 h2 q => listOf_s h1 h2 q) ha hst
theorem se_min2 (hc : X.calm = true) (ha : SE D0 n X CA a ia) (hb : SE D0 n X CA b ib) (hm : X.mg "min" = none) (hg : Gl X "min" := by rfl) (hst : StB X a b := by rfl) (hst2 : StA X b := by rfl) (hpl : Pl X pos [b] := by rfl) : SE D0 n X CA (.Call (.Name "min" p) [a, b] [] pos) (.op .min [ia, ib]) :=
  se_call2 (fun t h => pe_callB (call_min2 hc) hg hm (by decide +kernel) h (by decide) (by decide) hst hpl) (fun h1 h2 h3 q => min_s h1 h2 h3 q) ha hb hst hst2
end
/-! ### methods -/
section
variable {ap : Pos}
abbrev Few (X : Cx) (pos : Pos) (es : List Expr) : Prop := ((backTo pos (starEach es X.env)).all (fun x => !x.1) && (backToKw pos (keywordEach [] X.env)).all (fun x => x.1.isSome)
      && decide (es.length + ([] : List Keyword).length + (if ([] : List Keyword).isEmpty then 0 else 1) < 30)) = true
abbrev Bs (X : Cx) (a : Expr) (m : Str) : Prop := attributeBase a m X.env (eval a X.env) = eval a X.env
theorem tIs1 {W : WX} {σ : L2.St} {H : Hp} {Q : List V → Hp → Prop} (h : tIs D0 n X.K CA W [ib] σ H Q) : tCons (tI D0 n X.K CA W ib) tNil σ H Q := tI_mono (tIs_cons h) fun v H1 q => tIs_nil q
theorem se_meth1 {m : Str} {id : String} {o : Op} {r : V → List V → Hp → VK → Prop} (slot : Slot "list" m id) (hty : typeOf (.builtin id) = pure (.type "method_descriptor")) (hmt : MtR X id r)
    (hs : ∀ {ρ hm H d e x y Q}, HRel D0.G X.K ρ hm H → DRel X.K ρ H d x → DRel X.K ρ H e y → PostD D0.G X.K ρ H (op o [d, e] hm) Q → r x [y] H Q) (ha : SE D0 n X CA a ia) (hb : SE D0 n X CA b ib) (hbase : Bs X a m := by rfl) (hfew : Few X pos [b] := by rfl) (hst : StA X b := by rfl) (hpl : Pl X pos [] := by rfl) (hline : (ap.endLine == pos.line) = true := by rfl) :
    SE D0 n X CA (.Call (.Attribute a m ap) [b] [] pos) (.meth .list o ia [ib]) :=
  ⟨fun W tk => PE.weak (pe_bm F.plainAttrs_list slot hty hmt (ha.run W tk) (pa_cons (hb.run W tk) pa_nil hst) hbase hfew hline hst hpl) fun σ H Q h => tI_mono (tI_meth h) fun x H1 ⟨⟨ρ1, hm1, d, h1, h2, ht⟩, q⟩ => ⟨ty_list h1 h2 ht, tI_mono (tIs_cons q) fun y H2 q => by
    obtain ⟨ρ2, hm2, d, ds, h1, h2, h3, p⟩ := tIs_nil q
    obtain ⟨e, rfl, h4⟩ := drs1 h3
    exact hs h1 h2 h4 p⟩⟩
theorem se_append (ha : SE D0 n X CA a ia) (hb : SE D0 n X CA b ib) (hbase : Bs X a "append" := by rfl) (hfew : Few X pos [b] := by rfl) (hst : StA X b := by rfl) (hpl : Pl X pos [] := by rfl) (hline : (ap.endLine == pos.line) = true := by rfl) : SE D0 n X CA (.Call (.Attribute a "append" ap) [b] [] pos) (.meth .list .append ia [ib]) :=
  se_meth1 F.slot_list_append F.type_list_append mt_append (fun h1 h2 h3 p => (append_s h1 h2 h3 p).2) ha hb hbase hfew hst hpl hline
theorem se_extend (ha : SE D0 n X CA a ia) (hb : SE D0 n X CA b ib) (hbase : Bs X a "extend" := by rfl) (hfew : Few X pos [b] := by rfl) (hst : StA X b := by rfl) (hpl : Pl X pos [] := by rfl) (hline : (ap.endLine == pos.line) = true := by rfl) : SE D0 n X CA (.Call (.Attribute a "extend" ap) [b] [] pos) (.meth .list .extend ia [ib]) :=
  se_meth1 F.slot_list_extend F.type_list_extend mt_extA (fun h1 h2 h3 p => (extend_s h1 h2 h3 p).2) ha hb hbase hfew hst hpl hline
theorem se_popAt (ha : SE D0 n X CA a ia) (hb : SE D0 n X CA b ib) (hbase : Bs X a "pop" := by rfl) (hfew : Few X pos [b] := by rfl) (hst : StA X b := by rfl) (hpl : Pl X pos [] := by rfl) (hline : (ap.endLine == pos.line) = true := by rfl) : SE D0 n X CA (.Call (.Attribute a "pop" ap) [b] [] pos) (.meth .list .popAt ia [ib]) :=
  se_meth1 F.slot_list_pop F.type_list_pop mt_popAt (fun h1 h2 h3 p => (popAt_s h1 h2 h3 p).2) ha hb hbase hfew hst hpl hline
theorem se_pop (ha : SE D0 n X CA a ia) (hbase : Bs X a "pop" := by rfl) (hline : (ap.endLine == pos.line) = true := by rfl) : SE D0 n X CA (.Call (.Attribute a "pop" ap) [] [] pos) (.meth .list .pop ia []) :=
  ⟨fun W tk => PE.weak (pe_bm0 F.plainAttrs_list F.slot_list_pop F.type_list_pop mt_pop (ha.run W tk) hbase hline) fun σ H Q h => tI_mono (tI_meth h) fun x H1 ⟨⟨ρ1, hm1, d, h1, h2, ht⟩, q⟩ => ⟨ty_list h1 h2 ht, by
    obtain ⟨ρ2, hm2, d, ds, h1, h2, h3, p⟩ := tIs_nil q
    cases ds with
    | nil => exact (pop_s h1 h2 p).2
    | cons d ds => obtain ⟨_, _, e, _⟩ := DRels.cons_iff.mp h3; cases e⟩⟩
theorem se_join (ha : SE D0 n X CA a ia) (hb : SE D0 n X CA b ib) (hst : starEach [b] X.env = [(false, eval b X.env)] := by rfl) (hbase : Bs X a "join" := by rfl) (hline : (ap.endLine == pos.line) = true := by rfl) : SE D0 n X CA (.Call (.Attribute a "join" ap) [b] [] pos) (.meth .str .join ia [ib]) :=
  ⟨fun W tk => PE.weak (pe_join (ha.run W tk) (hb.run W tk) hst hbase hline) fun σ H Q h => tI_mono (tI_meth h) fun x H1 ⟨⟨ρ1, hm1, d, h1, h2, ht⟩, q⟩ => ⟨ty_str h2 ht, tI_mono (tIs_cons q) fun y H2 q => by
    obtain ⟨ρ2, hm2, d, ds, h1, h2, h3, p⟩ := tIs_nil q
    obtain ⟨e, rfl, h4⟩ := drs1 h3
    exact (join_s h1 h2 h4 p).2⟩⟩
end
/-! ### displays -/
theorem newT_s {G : Glo} {K : PySem.W.Frag} {ρ : List Addr} {hm : Hm} {H : Hp} {Q : VK} {ds : List D} {vs : List V} (h : HRel G K ρ hm H) (rs : DRels K ρ H ds vs) (p : PostD G K ρ H (newT hm ds) Q) : vs.length ≤ sizeLine ∧ ∀ q, H q = none → Q (.ref q) (upd H q (.tup vs)) := by
  unfold newT at p
  split at p
  · rename_i hz
    exact ⟨by rw [← rs.len]; exact hz, new_tup h rs p⟩
  · exact p.elim
theorem newL_s {G : Glo} {K : PySem.W.Frag} {ρ : List Addr} {hm : Hm} {H : Hp} {Q : VK} {ds : List D} {vs : List V} (h : HRel G K ρ hm H) (rs : DRels K ρ H ds vs) (p : PostD G K ρ H (newL hm ds) Q) : vs.length ≤ sizeLine ∧ ∀ q, H q = none → Q (.ref q) (upd H q (.lst vs)) := by
  unfold newL at p
  split at p
  · rename_i hz
    exact ⟨by rw [← rs.len]; exact hz, new_lst h rs p⟩
  · exact p.elim
theorem se_tup {x1 : Nat} (h : SA D0 n X CA es ies) : SE D0 n X CA (.Tuple es x1 pos) (.op .tup ies) :=
  ⟨fun W tk => PE.weak (pe_tup (h.run W tk)) fun σ H Q h => tIs_mono (tI_opn h) fun vs H1 ⟨ρ1, hm1, ds, h1, h2, p⟩ => newT_s h1 h2 p⟩
theorem se_lst (h : SA D0 n X CA es ies) : SE D0 n X CA (.List es pos) (.op .lst ies) :=
  ⟨fun W tk => PE.weak (pe_lst (h.run W tk)) fun σ H Q h => tIs_mono (tI_opn h) fun vs H1 ⟨ρ1, hm1, ds, h1, h2, p⟩ => newL_s h1 h2 p⟩
end
end AR
end
section
/-! Snd5: calls of defs. -/
set_option Elab.async false
set_option linter.all false
set_option maxRecDepth 100000
set_option maxHeartbeats 4000000
namespace AR
open PySem L2 PySem.Spec PyProof.Rows
/-- cells that functions made on the way have captured, as they stand at an entry -/
def CAe (outer : List PySem.Env) (s : Shared) (H : Hp) : CAp := fun cl fr ws => NdefX.CellsAt cl fr ws s.heap H ∧ ∀ y c, cl.lookup y = some c → c ∉ frs outer
def CAx (X : Cx) : CAp := CAe X.outer X.s_0 X.H_0
abbrev CAn : CAp := fun _ _ _ => False
/-- a def's promise, told of the state at the entry -/
structure FnI (P : Program) (w : World) (K : PySem.W.Frag) (mg : Str → Option Value) (base : Heap) (k : Nat) (f : Addr) (fd : FuncData) (ps : List Str) (sp : List PySem.Env → Shared → Sp) : Prop where
  len : ∀ outer s vs H Q E, sp outer s vs H Q E → vs.length = ps.length
  run : ∀ (A : Around) (outer : List PySem.Env) (s : Shared) (H : Hp) (args : Args) (us : List Value) (vs : List V) (Q : VK) (E : XK), Room k A → Env0 P w K mg base A outer s H → BindsTo s fd args (ps.zip us) → Vals vs us → sp outer s vs H Q E →
    codeAny (model P w) A (.call (.ref f) args) (CR (L2.CX P w) outer P w H s Q E) s
/-- what a def of the small program promises -/
def spI (D0 : Wd) (K : PySem.W.Frag) (n i np : Nat) : List PySem.Env → Shared → Sp := fun outer s vs H Q E => vs.length = np ∧ ∃ ρ hm xs, SVRels D0.L K (CAe outer s H) ρ H xs vs ∧ HRel D0.G K ρ hm H ∧ PO D0 K ρ H E (RlE D0 K CAn) (run D0.P n i xs [] hm) fun _ _ _ H' v => Q v H'
structure CxOk (n : Nat) (X : Cx) (CA : CAp) : Prop where
  calm : X.calm = true
  room : Room (n + 5) X.A
  ca : ∀ pins σ H s, Inv X pins σ H s → ∀ cl fr ws, CA cl fr ws → CAe X.stack s H cl fr ws
theorem CxOk.hu {n : Nat} {X : Cx} {CA : CAp} (C : CxOk n X CA) : X.A.units + 64 < cLine := by have := C.room.un; omega
theorem CxOk.hu1 {n : Nat} {X : Cx} {CA : CAp} (C : CxOk n X CA) : X.A.units + 1 < cLine := by have := C.room.un; omega
/-- what the top has of the def with the number i, called with fewer arguments by as many as dv tells -/
structure GOk (D0 : Wd) (n : Nat) (X : Cx) (i : Nat) (x : Str) (dv : List D) : Prop where
  ex : ∃ (f : Addr) (fd : FuncData) (ps : List Str) (ds : List Value) (dvs : List V), X.mg x = some (.ref f) ∧ PySem.W.keepIn X.K (.ref f) = true ∧ Binds X.K fd ps ds ∧ Vals dvs ds ∧ (∀ ρ H, DRels X.K ρ H dv dvs) ∧ (∀ d, D0.P i = some d → d.np = ps.length) ∧ FnI X.prog X.w X.K X.mg X.base (n + 5) f fd ps (spI D0 X.K n i ps.length)

theorem cae_later {X : Cx} {pins : List (Addr × Obj)} {σ : L2.St} {H : Hp} {s : Shared} (hex : X.ex = []) (I : Inv X pins σ H s) {cl : List (Str × Addr)} {fr : List Str} {ws : List (Option V)} (h : CAx X cl fr ws) : CAe X.stack s H cl fr ws := by
  obtain ⟨C, nf⟩ := h
  refine ⟨C.later nf (fun y c e z => by rw [hex] at z; cases z) I, fun y c e z => ?_⟩
  rcases List.mem_cons.mp (I.stkSub c z) with e2 | e2
  · obtain ⟨_, v, q⟩ := C.all y c e
    have h1 := q.lt
    have h2 := I.ok.above
    rw [e2] at h1
    exact absurd (Nat.lt_of_lt_of_le h1 h2) (Nat.lt_irrefl _)
  · exact nf y c e e2
section
variable {X : Cx} {k : Nat} {f : Addr} {fd : FuncData} {ps : List Str} {sp : List PySem.Env → Shared → Sp} {dvs : List V} {ds : List Value} {E : L2.St → XK}
theorem run_fnI {pins : List (Addr × Obj)} {σ : L2.St} {H : Hp} {s : Shared} {Q : VK} {us : List Value} {vs : List V} (F : FnI X.prog X.w X.K X.mg X.base k f fd ps sp) (hr : Room k X.A) (hb : Binds X.K fd ps ds) (hd : Vals dvs ds) (hx : PassesAt (L2.CX X.prog X.w) X σ (E σ))
    (I : Inv X pins σ H s) (r : Vals vs us) (h : sp X.stack s (vs ++ dvs) H Q (E σ)) : wpAny (model X.prog X.w) X.A (call (.ref f) us) (EP X pins σ Q) X.xe s := by
  have r2 : Vals (vs ++ dvs) (us ++ ds) := r.append hd
  have hl : (us ++ ds).length = ps.length := by rw [← r2.length]; exact F.len _ _ _ _ _ _ h
  have b := hb s us I.kIn hl
  refine wpAny_call (codeAny_mono (F.run X.A X.stack s H ⟨us, []⟩ (us ++ ds) (vs ++ dvs) Q (E σ) hr I.env0 b r2 h) fun r s' hq => ?_)
  cases r with
  | error e => exact hx pins H s e s' I hq
  | ok fl =>
    cases fl with
    | ret u => exact I.after hq
    | next => exact False.elim hq
    | brk => exact False.elim hq
    | cont => exact False.elim hq
/-- the reading of a call, whatever the state is -/
def tCallI (X : Cx) (sp : List PySem.Env → Shared → Sp) (dvs : List V) (E : L2.St → XK) (t : TA) : TE := fun σ H Q => t σ H fun vs H1 => ∀ pins s, Inv X pins σ H1 s → sp X.stack s (vs ++ dvs) H1 Q (E σ)
theorem pe_callI {x : Str} {p pos : Pos} {e : Expr} {es : List Expr} {t : TA} (F : FnI X.prog X.w X.K X.mg X.base k f fd ps sp) (hr : Room k X.A) (hg : Gl X x) (hm : X.mg x = some (.ref f)) (hk : PySem.W.keepIn X.K (.ref f) = true) (hb : Binds X.K fd ps ds) (hd : Vals dvs ds) (hx : ∀ σ, PassesAt (L2.CX X.prog X.w) X σ (E σ))
    (ha : PA X (e :: es) t) (hdb : (x == ("__debug__" : Str)) = false := by decide) (he : starEach (e :: es) X.env = (false, eval e X.env) :: starEach es X.env := by rfl) (hpl : (backTo pos (starEach es X.env)).any (·.1) = false := by rfl) :
    PE X (.Call (.Name x p) (e :: es) [] pos) (tCallI X sp dvs E t) := by
  refine ⟨fun pins s σ H Q I h => ?_⟩
  refine wpAny_Call_Name_kw (ld_glob I hg hm ?_ hdb)
  refine PySem.W.callWith_K (h₀ := X.base) I.ok.mod.kin hk (thn (ha.run pos pins s σ H _ I h) fun us s1 ⟨vs, H1, I1, r, q⟩ => ⟨I1.kIn, ?_⟩) he hpl
  exact run_fnI F hr hb hd (hx σ) I1 r (q pins s1 I1)
theorem pe_callI0 {x : Str} {p pos : Pos} (F : FnI X.prog X.w X.K X.mg X.base k f fd ps sp) (hr : Room k X.A) (hg : Gl X x) (hm : X.mg x = some (.ref f)) (hk : PySem.W.keepIn X.K (.ref f) = true) (hb : Binds X.K fd ps ds) (hd : Vals dvs ds) (hx : ∀ σ, PassesAt (L2.CX X.prog X.w) X σ (E σ))
    (hdb : (x == ("__debug__" : Str)) = false := by decide) :
    PE X (.Call (.Name x p) [] [] pos) (tCallI X sp dvs E tNil) := by
  refine ⟨fun pins s σ H Q I h => ?_⟩
  refine wpAny_Call_Name_kw (ld_glob I hg hm ?_ hdb)
  exact PySem.W.callWith_K0 I.kIn hk (run_fnI (us := []) (vs := []) F hr hb hd (hx σ) I .nil (h pins s I))
end
section
variable {D0 : Wd} {n : Nat} {X : Cx} {CA : CAp} {e : Expr} {es : List Expr} {ies : List E} {pos p : Pos} {x : Str} {i : Nat} {dv : List D}
theorem evEs_app (k : Nat → List SV → List SV → Hm → R SV) (dv : List D) : ∀ (ies : List E) (env : AR.Env) (h : Hm), evEs k (ies ++ dv.map E.c) env h = (evEs k ies env h).bind fun xs h => .ok (xs ++ dv.map SV.d) h
  | [], env, h => by
    rw [List.nil_append, evEs_nil]
    show _ = R.ok ([] ++ dv.map SV.d) h
    rw [List.nil_append]
    induction dv with
    | nil => rfl
    | cons d dv ih =>
      rw [List.map_cons, evEs_cons, evE_c]
      show (evEs k (dv.map E.c) env h).bind _ = _
      rw [ih]
      rfl
  | e :: ies, env, h => by
    rw [List.cons_append, evEs_cons, evEs_cons]
    cases evE k e env h with
    | ok x h1 =>
      show (evEs k (ies ++ dv.map E.c) env h1).bind _ = R.bind (R.bind (evEs k ies env h1) _) _
      rw [evEs_app k dv ies env h1]
      cases evEs k ies env h1 <;> rfl
    | exc x h1 => rfl
    | stuck => rfl
theorem svs_app {L : Nat → LamI} {K : PySem.W.Frag} {CA : CAp} {ρ : List Addr} {H : Hp} : ∀ {xs : List SV} {vs : List V} {ys : List SV} {us : List V}, SVRels L K CA ρ H xs vs → SVRels L K CA ρ H ys us → SVRels L K CA ρ H (xs ++ ys) (vs ++ us)
  | [], vs, _, _, h, g => by
    simp only [SVRels] at h
    subst h
    exact g
  | x :: xs, vs, _, _, h, g => by
    simp only [SVRels] at h
    obtain ⟨v, vs', rfl, h1, h2⟩ := h
    show SVRels L K CA ρ H (x :: (xs ++ _)) _
    simp only [SVRels]
    exact ⟨v, vs' ++ _, rfl, h1, svs_app h2 g⟩
theorem svs_d {L : Nat → LamI} {K : PySem.W.Frag} {CA : CAp} {ρ : List Addr} {H : Hp} : ∀ {ds : List D} {vs : List V}, DRels K ρ H ds vs → SVRels L K CA ρ H (ds.map SV.d) vs
  | [], vs, h => by
    rw [DRels.nil_iff.mp h]
    simp [SVRels]
  | d :: ds, vs, h => by
    obtain ⟨v, vs', rfl, r1, r2⟩ := DRels.cons_iff.mp h
    simp only [List.map_cons, SVRels]
    exact ⟨v, vs', rfl, r1, svs_d r2⟩
theorem PO.none {K : PySem.W.Frag} {ρ : List Addr} {H : Hp} {W : XW} {r : R SV} {N : SV → Hm → List Addr → Hp → V → Prop} (p : PO D0 K ρ H W (RlE D0 K CA) r N) : PO D0 K ρ H W (RlE D0 K CAn) r N := by
  cases r with
  | ok x hm' => exact fun ρ2 H2 v f2 h2 r2 => p ρ2 H2 v f2 h2 (SVRel.fwd (Fwd.refl _ _) (fun _ _ _ z => z.elim) r2)
  | exc x hm' => exact p
  | stuck => exact p
theorem tI_call {K : PySem.W.Frag} {W : WX} {σ : L2.St} {H : Hp} {Q : VK} (h : tI D0 n K CA W (.call i (ies ++ dv.map E.c)) σ H Q) : tIs D0 n K CA W ies σ H fun vs H1 => ∃ ρ1 hm1 xs, HRel D0.G K ρ1 hm1 H1 ∧ SVRels D0.L K CA ρ1 H1 xs vs ∧ PO D0 K ρ1 H1 (fun c d H => W c d σ H) (RlE D0 K CA) (run D0.P n i (xs ++ dv.map SV.d) [] hm1) fun _ _ _ H' v => Q v H' := by
  obtain ⟨ρ, hm, env, h1, h2, p⟩ := h
  rw [evE_call, evEs_app] at p
  refine tIs_of h1 h2 (PO.bind (Rl := RlS D0 K CA) (f := fun xs h => run D0.P n i (xs ++ dv.map SV.d) [] h) ?_) fun xs hm1 ρ1 H1 vs f hr r q => ⟨ρ1, hm1, xs, hr, r, q⟩
  cases e : evEs (AR.run D0.P n) ies env hm with
  | ok xs h => rw [e] at p; exact p
  | exc x h => rw [e] at p; exact p
  | stuck => rw [e] at p; exact p
theorem run_len {K : PySem.W.Frag} {ρ : List Addr} {H : Hp} {W : XW} {xs caps : List SV} {hm : Hm} {N : SV → Hm → List Addr → Hp → V → Prop} {Rl : List Addr → Hp → SV → V → Prop} (p : PO D0 K ρ H W Rl (run D0.P n i xs caps hm) N) : ∃ d m, n = m + 1 ∧ D0.P i = some d ∧ xs.length = d.np ∧ caps.length = d.nc ∧ PO D0 K ρ H W Rl (finish (execs (run D0.P m) d.body (startE d.ns xs caps) hm)) N := by
  cases n with
  | zero => exact p.elim
  | succ m =>
    rw [run_succ] at p
    split at p
    · exact p.elim
    · rename_i d e
      split at p
      · rename_i hl
        exact ⟨d, m, rfl, e, hl.1, hl.2, p⟩
      · exact p.elim
theorem se_call (C : CxOk n X CA) (G : GOk D0 n X i x dv) (ha : SA D0 n X CA (e :: es) ies) (hg : Gl X x := by rfl) (hdb : (x == ("__debug__" : Str)) = false := by decide) (he : starEach (e :: es) X.env = (false, eval e X.env) :: starEach es X.env := by rfl) (hpl : (backTo pos (starEach es X.env)).any (·.1) = false := by rfl) :
    SE D0 n X CA (.Call (.Name x p) (e :: es) [] pos) (.call i (ies ++ dv.map E.c)) :=
  ⟨fun W tk => by
    obtain ⟨f, fd, ps, ds, dvs, hm, hk, hb, hd, hdr, hnp, F⟩ := G.ex
    refine PE.weak (pe_callI (E := WE W) F C.room hg hm hk hb hd (fun σ => passAt tk σ) (ha.run W tk) hdb he hpl) fun σ H Q h => tIs_mono (tI_call h) fun vs H1 ⟨ρ1, hm1, xs, h1, h2, p⟩ pins s I => ?_
    have r2 := svs_app h2 (svs_d (hdr ρ1 H1))
    obtain ⟨d, m, _, e1, e2, _, _⟩ := run_len p
    refine ⟨by rw [← r2.len, e2]; exact hnp d e1, ρ1, hm1, _, SVRels.fwd (Fwd.refl _ _) (C.ca pins σ H1 s I) r2, h1, p.none⟩⟩
theorem se_call0 (C : CxOk n X CA) (G : GOk D0 n X i x dv) (hg : Gl X x := by rfl) (hdb : (x == ("__debug__" : Str)) = false := by decide) :
    SE D0 n X CA (.Call (.Name x p) [] [] pos) (.call i (dv.map E.c)) :=
  ⟨fun W tk => by
    obtain ⟨f, fd, ps, ds, dvs, hm, hk, hb, hd, hdr, hnp, F⟩ := G.ex
    refine PE.weak (pe_callI0 (E := WE W) F C.room hg hm hk hb hd (fun σ => passAt tk σ) hdb) fun σ H Q h => ?_
    obtain ⟨ρ1, hm1, xs, h1, h2, p⟩ := tIs_nil (tI_call (ies := []) h)
    intro pins s I
    have r2 := svs_app h2 (svs_d (hdr ρ1 H))
    obtain ⟨d, m, _, e1, e2, _, _⟩ := run_len p
    refine ⟨by rw [← r2.len, e2]; exact hnp d e1, ρ1, hm1, _, SVRels.fwd (Fwd.refl _ _) (C.ca pins σ H s I) r2, h1, p.none⟩⟩
end
end AR
end
section
/-! Snd6: targets, walks, comprehensions. -/
set_option Elab.async false
set_option linter.all false
set_option maxRecDepth 100000
set_option maxHeartbeats 4000000
namespace AR
open PySem L2 PySem.Spec PyProof.Rows
/-! ### targets -/
def gT (D0 : Wd) (K : PySem.W.Frag) (CA : CAp) (t : T) : TG := fun v σ H Q => ∃ ρ env x env', ERel D0 K CA ρ H env σ ∧ DRel K ρ H x v ∧ setT t x env = some env' ∧ ∀ σ', ERel D0 K CA ρ H env' σ' → σ'.length = σ.length → (∀ i : Nat, i ∉ t.slots → σ'[i]? = σ[i]?) → Q σ' H
def gTs (D0 : Wd) (K : PySem.W.Frag) (CA : CAp) (ts : List T) : TGs := fun vs σ H Q => ∃ ρ env xs env', ERel D0 K CA ρ H env σ ∧ DRels K ρ H xs vs ∧ setT.setTs ts xs env = some env' ∧ ∀ σ', ERel D0 K CA ρ H env' σ' → σ'.length = σ.length → (∀ i : Nat, i ∉ T.slots.slotsL ts → σ'[i]? = σ[i]?) → Q σ' H
theorem setT_nm (i : Nat) (x : D) (env : AR.Env) : setT (.nm i) x env = if i < env.length then some (env.set i (some (.d x))) else none := rfl
theorem setT_tp (ts : List T) (xs : List D) (env : AR.Env) : setT (.tp ts) (.tup xs) env = setT.setTs ts xs env := rfl
theorem setTs_nil (env : AR.Env) : setT.setTs [] [] env = some env := rfl
theorem setTs_cons (t : T) (ts : List T) (x : D) (xs : List D) (env : AR.Env) : setT.setTs (t :: ts) (x :: xs) env = match setT t x env with
    | some env' => setT.setTs ts xs env'
    | none => none := rfl
theorem PG.weak {X : Cx} {e : Expr} {t t' : TG} (h : PG X e t) (w : ∀ v σ H Q, t' v σ H Q → t v σ H Q) : PG X e t' := ⟨fun pins s σ H v u Q I r q => h.run pins s σ H v u Q I r (w v σ H Q q)⟩
theorem PGs.weak {X : Cx} {e : List Expr} {t t' : TGs} (h : PGs X e t) (w : ∀ v σ H Q, t' v σ H Q → t v σ H Q) : PGs X e t' := ⟨fun pins s σ H v u Q I r q => h.run pins s σ H v u Q I r (w v σ H Q q)⟩
section
variable {D0 : Wd} {n : Nat} {X : Cx} {CA : CAp} {tg e : Expr} {tgs : List Expr} {t : T} {ts : List T} {pos : Pos}
theorem sg_nm (i : Nat) {x : Str} (hN : X.N.Nodup) (hi : X.N[i]? = some x := by rfl) (hx : Loc X.env.scope x := by first | exact Or.inl rfl | exact Or.inr rfl) (hf : X.fn x = true ∨ X.env.scope.names.lookup x = some .local := by first | exact .inl rfl | exact .inr rfl | assumption) : PG X (.Name x pos) (gT D0 X.K CA (.nm i)) :=
  PG.weak (pg_name hN hi hx hf) fun v σ H Q ⟨ρ, env, d, env', h1, h2, h3, h4⟩ => by
    rw [setT_nm] at h3
    split at h3
    · cases h3
      exact h4 _ (h1.set i (SVRel.d_iff.mpr h2)) (by simp) fun j hj => by
        rw [List.getElem?_set_ne]
        intro z
        subst z
        exact hj (by simp [T.slots])
    · cases h3
theorem sgs_nil : PGs X [] (gTs D0 X.K CA []) :=
  PGs.weak pgs_nil fun vs σ H Q ⟨ρ, env, xs, env', h1, h2, h3, h4⟩ => by
    cases xs with
    | nil =>
      cases h3
      exact ⟨DRels.nil_iff.mp h2, h4 σ h1 rfl fun _ _ => rfl⟩
    | cons x xs => cases h3
theorem sgs_cons (h1 : PG X tg (gT D0 X.K CA t)) (h2 : PGs X tgs (gTs D0 X.K CA ts)) (hs : (assignEach (tg :: tgs) X.env).map (·.2) = assign tg X.env :: (assignEach tgs X.env).map (·.2) := by rfl) : PGs X (tg :: tgs) (gTs D0 X.K CA (t :: ts)) :=
  PGs.weak (pgs_cons h1 h2 hs) fun vs σ H Q ⟨ρ, env, xs, env', h1, h2, h3, h4⟩ => by
    cases xs with
    | nil => cases h3
    | cons x xs =>
      obtain ⟨v, vs', rfl, r1, r2⟩ := DRels.cons_iff.mp h2
      rw [setTs_cons] at h3
      split at h3
      · rename_i env1 e1
        refine ⟨v, vs', rfl, ρ, env, x, env1, h1, r1, e1, fun σ1 hr1 hl1 hk1 => ?_⟩
        refine ⟨ρ, env1, xs, env', hr1, r2, h3, fun σ2 hr2 hl2 hk2 => h4 σ2 hr2 (hl2.trans hl1) fun i hi => ?_⟩
        have hi' : i ∉ t.slots ++ T.slots.slotsL ts := hi
        rw [List.mem_append, not_or] at hi'
        rw [hk2 i hi'.2, hk1 i hi'.1]
      · cases h3
theorem setTs_len : ∀ {ts : List T} {xs : List D} {env env' : AR.Env}, setT.setTs ts xs env = some env' → xs.length = ts.length
  | [], [], _, _, _ => rfl
  | [], _ :: _, _, _, h => by cases h
  | _ :: _, [], _, _, h => by cases h
  | t :: ts, x :: xs, env, env', h => by
    rw [setTs_cons] at h
    split at h
    · rw [List.length_cons, List.length_cons, setTs_len h]
    · cases h
theorem sg_tp {es : List Expr} {k : Nat} (hc : X.calm = true) (h : PGs X es (gTs D0 X.K CA ts)) (hn : (assignEach es X.env).length = ts.length := by rfl) (hst : (assignEach es X.env).findIdx? (·.1) = none := by rfl) : PG X (.Tuple es k pos) (gT D0 X.K CA (.tp ts)) :=
  PG.weak (pg_tup hc h hn hst) fun v σ H Q ⟨ρ, env, x, env', h1, h2, h3, h4⟩ => by
    cases x with
    | tup xs =>
      obtain ⟨a, vs, rfl, s, rs⟩ := dr_tup h2
      rw [setT_tp] at h3
      exact ⟨a, vs, rfl, s, by rw [← rs.len]; exact setTs_len h3, ρ, env, xs, env', h1, rs, h3, h4⟩
    | non => cases h3
    | bl _ => cases h3
    | int _ => cases h3
    | str _ => cases h3
    | ref _ => cases h3
end
/-! ### walks -/
/-- an iterator of the layer does what one of the small language does -/
def IRel (D0 : Wd) (K : PySem.W.Frag) (ρ0 : List Addr) (H0 : Hp) (j : AR.It) (J : L2.It) : Prop := ∀ (i : Nat) (ρ : List Addr) (hm : Hm) (H : Hp), Fwd ρ0 H0 ρ H → HRel D0.G K ρ hm H → match j.at hm i with
  | none => True
  | some none => J.stop i H
  | some (some x) => J.go i H ∧ ∀ v H', J.yld i H v H' → HRel D0.G K ρ hm H' ∧ Fwd ρ H ρ H' ∧ DRel K ρ H' x v
section
variable {D0 : Wd} {K : PySem.W.Frag} {ρ0 : List Addr} {H0 : Hp}
theorem lstAt_s {ρ : List Addr} {hm : Hm} {H : Hp} {n : Nat} {a : Addr} {xs : List D} (h : HRel D0.G K ρ hm H) (ea : ρ[n]? = some a) (e : lstAt hm n = some xs) : ∃ vs, SqL K H a vs ∧ DRels K ρ H xs vs := by
  unfold lstAt at e
  split at e
  · rename_i ys hx
    cases e
    obtain ⟨vs, hv, rs⟩ := at_lst h hx ea
    exact ⟨vs, .inl (.inl hv), rs⟩
  · rename_i ys hx
    cases e
    exact at_rol h hx ea
  · cases e
/-- what stands as a list at an address is one list -/
theorem SqL.one {H : Hp} {a : Addr} {xs ys : List V} (h1 : SqL K H a xs) (h2 : SqL K H a ys) (u : ∀ zs, SqL K H a zs → zs = xs) : ys = xs := u ys h2
theorem irel_rng {lo : Int} {m : Nat} : IRel D0 K ρ0 H0 (.rng lo m) (L2.Itr lo m) := by
  intro i ρ hm H f h
  simp only [AR.It.at]
  by_cases hi : i < m
  · rw [if_pos hi]
    exact ⟨hi, fun v H' ⟨e1, e2⟩ => by subst e1; subst e2; exact ⟨h, Fwd.refl _ _, mk_int _⟩⟩
  · rw [if_neg hi]
    exact Nat.le_of_not_lt hi
theorem irel_str {s : Str} : IRel D0 K ρ0 H0 (.str s) (L2.Its s) := by
  intro i ρ hm H f h
  simp only [AR.It.at]
  cases e : s.cps[i]? with
  | none =>
    show s.cps.size ≤ i
    exact Array.getElem?_eq_none_iff.mp e
  | some c =>
    refine ⟨(Array.getElem?_eq_some_iff.mp e).1, fun v H' ⟨e1, c', e2, e3⟩ => ?_⟩
    subst e1
    subst e3
    rw [e] at e2
    cases e2
    exact ⟨h, Fwd.refl _ _, mk_str _⟩
theorem irel_lst {n : Nat} {a : Addr} (ea : ρ0[n]? = some a) : IRel D0 K ρ0 H0 (.lst n) (L2.Itl K a) := by
  intro i ρ hm H f h
  simp only [AR.It.at]
  cases e : lstAt hm n with
  | none => trivial
  | some xs =>
    obtain ⟨vs, hs, rs⟩ := lstAt_s h (f.pre _ _ ea) e
    simp only [Option.map_some]
    cases ei : xs[i]? with
    | none =>
      have := List.getElem?_eq_none_iff.mp ei
      exact ⟨vs, hs, by rw [← rs.len]; exact this⟩
    | some x =>
      obtain ⟨v, hv, r⟩ := rs.get ei
      exact ⟨⟨vs, v, hs, hv⟩, fun w H' ⟨e1, e2⟩ => by
        subst e1
        have := e2 vs hs
        rw [hv] at this
        cases this
        exact ⟨h, Fwd.refl _ _, r⟩⟩
theorem irel_tup {xs : List D} {vs : List V} {a : Addr} (s : SqT K H0 a vs) (rs : DRels K ρ0 H0 xs vs) : IRel D0 K ρ0 H0 (.tup xs) (L2.Itt K a) := by
  intro i ρ hm H f h
  simp only [AR.It.at]
  have s' := f.sqT s
  have rs' := rs.fwd f
  cases ei : xs[i]? with
  | none =>
    have := List.getElem?_eq_none_iff.mp ei
    exact ⟨vs, s', by rw [← rs'.len]; exact this⟩
  | some x =>
    obtain ⟨v, hv, r⟩ := rs'.get ei
    exact ⟨⟨vs, v, s', hv⟩, fun w H' ⟨e1, e2⟩ => by
      subst e1
      have := e2 vs s'
      rw [hv] at this
      cases this
      exact ⟨h, Fwd.refl _ _, r⟩⟩
theorem irel_zipL {n m : Nat} {a b : Addr} (ea : ρ0[n]? = some a) (eb : ρ0[m]? = some b) : IRel D0 K ρ0 H0 (.zip (.lst n) (.lst m)) (L2.Itz K a b) := by
  intro i ρ hm H f h
  simp only [AR.It.at]
  cases e1 : lstAt hm n with
  | none => trivial
  | some xs =>
    cases e2 : lstAt hm m with
    | none =>
      simp only [Option.map_some, Option.map_none]
      cases xs[i]? <;> trivial
    | some ys =>
      obtain ⟨vs, hs, rs⟩ := lstAt_s h (f.pre _ _ ea) e1
      obtain ⟨us, hu, ru⟩ := lstAt_s h (f.pre _ _ eb) e2
      simp only [Option.map_some]
      cases ei : xs[i]? with
      | none =>
        have := List.getElem?_eq_none_iff.mp ei
        exact ⟨vs, us, hs, hu, .inl (by rw [← rs.len]; exact this)⟩
      | some x =>
        cases ej : ys[i]? with
        | none =>
          have := List.getElem?_eq_none_iff.mp ej
          exact ⟨vs, us, hs, hu, .inr (by rw [← ru.len]; exact this)⟩
        | some y =>
          obtain ⟨v, hv, r⟩ := rs.get ei
          obtain ⟨u, hu2, r2⟩ := ru.get ej
          refine ⟨⟨vs, us, v, u, hs, hu, hv, hu2⟩, fun w H' ⟨T, v', u', e3, e4, e5, e6, e7⟩ => ?_⟩
          have e6 := e6 vs hs
          have e7 := e7 us hu
          rw [hv] at e6
          rw [hu2] at e7
          cases e6
          cases e7
          subst e5
          obtain ⟨h2, f2⟩ := h.aside (o := .tup [v, u]) e4
          rw [e3]
          exact ⟨h2, f2, mk_tup (.inl (.inl upd_same)) (DRels.mk (r.fwd f2) (DRels.mk (r2.fwd f2) DRels.nil))⟩
theorem irel_zipT {xs ys : List D} {vs us : List V} {a b : Addr} (s1 : SqT K H0 a vs) (rs : DRels K ρ0 H0 xs vs) (s2 : SqT K H0 b us) (ru : DRels K ρ0 H0 ys us) : IRel D0 K ρ0 H0 (.zip (.tup xs) (.tup ys)) (RZ.ItzT K a b) := by
  intro i ρ hm H f h
  simp only [AR.It.at]
  have hs := f.sqT s1
  have hu := f.sqT s2
  have rs := rs.fwd f
  have ru := ru.fwd f
  cases ei : xs[i]? with
  | none =>
    have := List.getElem?_eq_none_iff.mp ei
    exact ⟨vs, us, hs, hu, .inl (by rw [← rs.len]; exact this)⟩
  | some x =>
    cases ej : ys[i]? with
    | none =>
      have := List.getElem?_eq_none_iff.mp ej
      exact ⟨vs, us, hs, hu, .inr (by rw [← ru.len]; exact this)⟩
    | some y =>
      obtain ⟨v, hv, r⟩ := rs.get ei
      obtain ⟨u, hu2, r2⟩ := ru.get ej
      refine ⟨⟨vs, us, v, u, hs, hu, hv, hu2⟩, fun w H' ⟨T, v', u', e3, e4, e5, e6, e7⟩ => ?_⟩
      have e6 := e6 vs hs
      have e7 := e7 us hu
      rw [hv] at e6
      rw [hu2] at e7
      cases e6
      cases e7
      subst e5
      obtain ⟨h2, f2⟩ := h.aside (o := .tup [v, u]) e4
      rw [e3]
      exact ⟨h2, f2, mk_tup (.inl (.inl upd_same)) (DRels.mk (r.fwd f2) (DRels.mk (r2.fwd f2) DRels.nil))⟩
end
end AR
end
section
/-! Snd7: walks begun, comprehensions. -/
set_option Elab.async false
set_option linter.all false
set_option maxRecDepth 100000
set_option maxHeartbeats 4000000
namespace AR
open PySem L2 PySem.Spec PyProof.Rows
def tII (D0 : Wd) (n : Nat) (K : PySem.W.Frag) (CA : CAp) (W : WX) (w : AR.W) (its : List E) : L2.TI := fun σ H Rr => ∃ ρ hm env, ERel D0 K CA ρ H env σ ∧ HRel D0.G K ρ hm H ∧ PO D0 K ρ H (fun c d H => W c d σ H) (RlS D0 K CA) (evEs (run D0.P n) its env hm) fun xs hm' ρ' H' _ => ∃ ds j, allD xs = some ds ∧ itOf w ds hm' = some j ∧ ∀ J, IRel D0 K ρ' H' j J → Rr J H'
structure SI (D0 : Wd) (n : Nat) (X : Cx) (CA : CAp) (tg e : Expr) (w : AR.W) (its : List E) : Prop where
  run : ∀ Wx, Takes X Wx → PI X tg e (tII D0 n X.K CA Wx w its)
theorem PI.weak {X : Cx} {tg e : Expr} {t t' : L2.TI} (h : PI X tg e t) (w : ∀ σ H Q, t' σ H Q → t σ H Q) : PI X tg e t' := ⟨fun pins s σ H Q I q => h.run pins s σ H Q I (w σ H Q q)⟩
theorem PI.or {X : Cx} {tg e : Expr} {t t' : L2.TI} (h : PI X tg e t) (h' : PI X tg e t') : PI X tg e (fun σ H Q => t σ H Q ∨ t' σ H Q) := ⟨fun pins s σ H Q I q => q.elim (h.run pins s σ H Q I) (h'.run pins s σ H Q I)⟩
section
variable {D0 : Wd} {n : Nat} {X : Cx} {CA : CAp} {tg e a b : Expr} {ie ia ib : E} {pos p : Pos}
theorem tII_1 {K : PySem.W.Frag} {W : WX} {w : AR.W} {σ : L2.St} {H : Hp} {Rr : L2.It → Hp → Prop} (h : tII D0 n K CA W w [ie] σ H Rr) : tI D0 n K CA W ie σ H fun v H1 => ∃ ρ1 hm1 d j, HRel D0.G K ρ1 hm1 H1 ∧ DRel K ρ1 H1 d v ∧ itOf w [d] hm1 = some j ∧ ∀ J, IRel D0 K ρ1 H1 j J → Rr J H1 := by
  obtain ⟨ρ, hm, env, h1, h2, p⟩ := h
  rw [evEs_cons] at p
  refine tI_of h1 h2 (PO.bind p) fun x hm1 ρ1 H1 v f hr r q => ?_
  rw [evEs_nil] at q
  obtain ⟨ds, j, e1, e2, q'⟩ := q ρ1 H1 [v] (Fwd.refl _ _) hr (SVRels.cons_iff.mpr ⟨v, [], rfl, r, SVRels.nil_iff.mpr rfl⟩)
  cases x with
  | clo _ _ => simp [allD] at e1
  | d x =>
    simp only [allD, Option.map_some, Option.some.injEq] at e1
    subst e1
    exact ⟨ρ1, hm1, x, j, hr, SVRel.d_iff.mp r, e2, q'⟩
theorem tII_2 {K : PySem.W.Frag} {W : WX} {w : AR.W} {σ : L2.St} {H : Hp} {Rr : L2.It → Hp → Prop} (h : tII D0 n K CA W w [ia, ib] σ H Rr) : tI D0 n K CA W ia σ H fun v H1 => tI D0 n K CA W ib σ H1 fun u H2 => ∃ ρ1 hm1 d f j, HRel D0.G K ρ1 hm1 H2 ∧ DRel K ρ1 H2 d v ∧ DRel K ρ1 H2 f u ∧ itOf w [d, f] hm1 = some j ∧ ∀ J, IRel D0 K ρ1 H2 j J → Rr J H2 := by
  obtain ⟨ρ, hm, env, h1, h2, p⟩ := h
  rw [evEs_cons] at p
  refine tI_of h1 h2 (PO.bind p) fun x hm1 ρ1 H1 v f hr r q => ?_
  rw [evEs_cons] at q
  have q := PO.bind (Rl := RlS D0 K CA) q
  rw [show ((evE (AR.run D0.P n) ib env hm1).bind fun x h => (evEs (AR.run D0.P n) [] env h).bind fun xs h => R.ok (x :: xs) h) = _ from rfl] at q
  have q2 := PO.bind (Rl := RlE D0 K CA) (f := fun x h => (evEs (AR.run D0.P n) [] env h).bind fun xs h => R.ok (x :: xs) h) q
  refine tI_of (h1.fwd f) hr q2 fun y hm2 ρ2 H2 u f2 hr2 r2 q => ?_
  rw [evEs_nil] at q
  have q := q ρ2 H2 [u] (Fwd.refl _ _) hr2 (SVRels.cons_iff.mpr ⟨u, [], rfl, r2, SVRels.nil_iff.mpr rfl⟩)
  have r' := r.fwd f2 (fun _ _ _ z => z)
  obtain ⟨ds, j, e1, e2, q'⟩ := q ρ2 H2 [v, u] (Fwd.refl _ _) hr2 (SVRels.cons_iff.mpr ⟨v, [u], rfl, r', SVRels.cons_iff.mpr ⟨u, [], rfl, r2, SVRels.nil_iff.mpr rfl⟩⟩)
  cases x with
  | clo _ _ => simp [allD] at e1
  | d x =>
    cases y with
    | clo _ _ => simp [allD] at e1
    | d y =>
      simp only [allD, Option.map_some, Option.some.injEq] at e1
      subst e1
      exact ⟨ρ2, hm2, x, y, j, hr2, (SVRel.d_iff.mp r').fwd (Fwd.refl _ _), SVRel.d_iff.mp r2, e2, q'⟩
/-- a list, a tuple, a text is walked -/
def iSeqA (K : PySem.W.Frag) (te : TE) : L2.TI := fun σ H Rr => te σ H fun x H1 => (∃ a xs, x = .ref a ∧ SqL K H1 a xs ∧ Rr (L2.Itl K a) H1) ∨ (∃ a xs, x = .ref a ∧ SqT K H1 a xs ∧ Rr (L2.Itt K a) H1) ∨ ∃ s, x = .str s ∧ Rr (L2.Its s) H1
theorem pi_seqA {te : TE} (he : PE X e te) : PI X tg e (iSeqA X.K te) := by
  refine ⟨fun pins s σ H Rr I h => ?_⟩
  refine thn (he.run pins s σ H _ I h) fun v s1 ⟨x, H1, I1, r1, q1⟩ => ?_
  rcases q1 with ⟨a, xs, ex, hq, q⟩ | ⟨a, xs, ex, hq, q⟩ | ⟨z, ex, q⟩
  · subst ex
    cases r1
    obtain ⟨its, rv, p, hz⟩ := I1.list hq
    exact wpAny_pyIter_list p.isList (pi_one (tk := s1.toks) I1 _ (turn_list a _) ⟨_, Heap.get?_push_size _ rfl, rfl, rfl⟩ q)
  · subst ex
    cases r1
    obtain ⟨its, rv, p, hz⟩ := I1.tuple hq
    exact wpAny_pyIter_tuple (show s1.heap.IsTuple a its.toArray from p) (pi_one (tk := s1.toks) I1 _ (turn_tuple a _) ⟨_, Heap.get?_push_size _ rfl, rfl, rfl⟩ q)
  · subst ex
    obtain ⟨t, rfl⟩ := r1
    cases ha : z.cps.all (· < 128)
    · exact wpAny_pyIter_wide ha (pi_one (tk := s1.toks) I1 _ (turn_str _ z t "str_iterator" (.inr rfl)) ⟨_, Heap.get?_push_size _ rfl, rfl, rfl⟩ q)
    · exact wpAny_pyIter_ascii ha (pi_one (tk := s1.toks) I1 _ (turn_str _ z t "str_ascii_iterator" (.inl rfl)) ⟨_, Heap.get?_push_size _ rfl, rfl, rfl⟩ q)
/-- where a walk over a value begins -/
theorem itSeq_s {K : PySem.W.Frag} {ρ : List Addr} {hm : Hm} {H : Hp} {d : D} {x : V} {j : AR.It} (h : HRel D0.G K ρ hm H) (r : DRel K ρ H d x) (e : itSeq hm d = some j) :
    (∃ n a xs, d = .ref n ∧ j = .lst n ∧ x = .ref a ∧ ρ[n]? = some a ∧ SqL K H a xs) ∨ (∃ ds a vs, d = .tup ds ∧ j = .tup ds ∧ x = .ref a ∧ SqT K H a vs ∧ DRels K ρ H ds vs) ∨ ∃ s, d = .str s ∧ j = .str s ∧ x = .str s := by
  unfold itSeq at e
  split at e
  · rename_i n
    obtain ⟨a, ea, rfl⟩ := dr_ref r
    split at e
    · rename_i xs hx
      cases e
      obtain ⟨vs, hv, _⟩ := at_lst h hx ea
      exact .inl ⟨n, a, vs, rfl, rfl, rfl, ea, .inl (.inl hv)⟩
    · rename_i xs hx
      cases e
      obtain ⟨vs, hv, _⟩ := at_rol h hx ea
      exact .inl ⟨n, a, vs, rfl, rfl, rfl, ea, hv⟩
    · cases e
  · cases e
    obtain ⟨a, vs, rfl, s, rs⟩ := dr_tup r
    exact .inr (.inl ⟨_, a, vs, rfl, rfl, rfl, s, rs⟩)
  · cases e
    exact .inr (.inr ⟨_, rfl, rfl, dr_str r⟩)
  · cases e
theorem si_seq (h : SE D0 n X CA e ie) : SI D0 n X CA tg e .seq [ie] :=
  ⟨fun W tk => PI.weak (pi_seqA (h.run W tk)) fun σ H Rr q => tI_mono (tII_1 q) fun v H1 ⟨ρ1, hm1, d, j, h1, h2, e1, q⟩ => by
    rcases itSeq_s h1 h2 e1 with ⟨n, a, xs, _, rfl, rfl, ea, hs⟩ | ⟨ds, a, vs, _, rfl, rfl, s, rs⟩ | ⟨s, _, rfl, rfl⟩
    · exact .inl ⟨a, xs, rfl, hs, q _ (irel_lst ea)⟩
    · exact .inr (.inl ⟨a, vs, rfl, s, q _ (irel_tup s rs)⟩)
    · exact .inr (.inr ⟨s, rfl, q _ irel_str⟩)⟩
theorem si_rng1 (h : SE D0 n X CA a ia) (hm : X.mg "range" = none) (hg : Gl X "range" := by rfl) (hst : starEach [a] X.env = [(false, eval a X.env)] := by rfl) (hst2 : StA X a := by rfl) : SI D0 n X CA tg (.Call (.Name "range" p) [a] [] pos) .rng [ia] :=
  ⟨fun W tk => PI.weak (pi_range1 hg hm (pa_cons (h.run W tk) pa_nil hst2) hst) fun σ H Rr q => tI_mono (tII_1 q) fun v H1 ⟨ρ1, hm1, d, j, h1, h2, e1, q⟩ => by
    have e1 : itRng1 d = some j := e1
    unfold itRng1 at e1
    split at e1 <;> try (cases e1; done)
    split at e1 <;> try (cases e1; done)
    rename_i hb
    cases e1
    exact ⟨_, by rw [dr_int h2], hb.1, hb.2, q _ irel_rng⟩⟩
theorem si_rng2 (ha : SE D0 n X CA a ia) (hb : SE D0 n X CA b ib) (hm : X.mg "range" = none) (hg : Gl X "range" := by rfl) (hs : starEach [a, b] X.env = [(false, eval a X.env), (false, eval b X.env)] := by rfl) (hs2 : starEach [b] X.env = [(false, eval b X.env)] := by rfl) (hst : StB X a b := by rfl) (hst2 : StA X b := by rfl) : SI D0 n X CA tg (.Call (.Name "range" p) [a, b] [] pos) .rng [ia, ib] :=
  ⟨fun W tk => PI.weak (pi_range2 hg hm (pa_cons (ha.run W tk) (pa_cons (hb.run W tk) pa_nil hst2) hst) hs hs2) fun σ H Rr q => tI_mono (tII_2 q) fun v H1 q => tI_mono q fun u H2 ⟨ρ1, hm1, d, f, j, h1, h2, h3, e1, q⟩ => by
    have e1 : itRng2 d f = some j := e1
    unfold itRng2 at e1
    split at e1 <;> try (cases e1; done)
    split at e1 <;> try (cases e1; done)
    rename_i hb
    cases e1
    exact ⟨_, _, by rw [dr_int h2, dr_int h3], hb, q _ irel_rng⟩⟩
theorem si_zip {elts : List Expr} {kk : Nat} {tpos : Pos} (ha : SE D0 n X CA a ia) (hb : SE D0 n X CA b ib) (hm : X.mg "zip" = none) (hg : Gl X "zip" := by rfl) (hst : StB X a b := by rfl) (hst2 : StA X b := by rfl) (hpl : Pl X pos [b] := by rfl) : SI D0 n X CA (.Tuple elts kk tpos) (.Call (.Name "zip" p) [a, b] [] pos) .zip [ia, ib] :=
  ⟨fun W tk => PI.weak (RZ.pi_zipA hg hm (pa_cons (ha.run W tk) (pa_cons (hb.run W tk) pa_nil hst2) hst) hst hpl) fun σ H Rr q => tI_mono (tII_2 q) fun v H1 q => tI_mono q fun u H2 ⟨ρ1, hm1, d, f, j, h1, h2, h3, e1, q2⟩ => by
    have e1 : itZip (itSeq hm1 d) (itSeq hm1 f) = some j := e1
    unfold itZip at e1
    split at e1
    · rename_i n m e2 e3
      cases e1
      rcases itSeq_s h1 h2 e2 with ⟨n', a, xs, rfl, e4, rfl, ea, hs⟩ | ⟨ds, a, vs, _, e4, _⟩ | ⟨s, _, e4, _⟩ <;> cases e4
      rcases itSeq_s h1 h3 e3 with ⟨n', b, ys, rfl, e4, rfl, eb, hs2⟩ | ⟨ds, a, vs, _, e4, _⟩ | ⟨s, _, e4, _⟩ <;> cases e4
      exact ⟨a, b, xs, ys, rfl, .inl ⟨hs, hs2, q2 _ (irel_zipL ea eb)⟩⟩
    · rename_i n m e2 e3
      cases e1
      rcases itSeq_s h1 h2 e2 with ⟨n', a, xs, rfl, e4, rfl, ea, hs⟩ | ⟨ds, a, vs, rfl, e4, rfl, s, rs⟩ | ⟨s, _, e4, _⟩ <;> cases e4
      rcases itSeq_s h1 h3 e3 with ⟨n', b, ys, rfl, e4, rfl, eb, hs2⟩ | ⟨ds, b, us, rfl, e4, rfl, s2, ru⟩ | ⟨s, _, e4, _⟩ <;> cases e4
      exact ⟨a, b, vs, us, rfl, .inr ⟨s, s2, q2 _ (irel_zipT s rs s2 ru)⟩⟩
    · cases e1⟩
end
/-! ### comprehensions -/
section
variable {D0 : Wd} {n : Nat} {X : Cx} {CA : CAp} {tg iter elt c : Expr} {ie ic : E} {pos : Pos} {w : AR.W} {its : List E} {t : T} {scope : Scope} {own : List (Str × Nat)}
theorem PostD.later {G : Glo} {K : PySem.W.Frag} {ρ ρ' : List Addr} {H H' : Hp} {r : R D} {Q : VK} (p : PostD G K ρ H r Q) (f : Fwd ρ H ρ' H') : PostD G K ρ' H' r Q := by
  cases r with
  | ok x hm' => exact fun ρ2 H2 v f2 => p ρ2 H2 v (f.trans f2)
  | exc x hm' => exact p.elim
  | stuck => exact p.elim
theorem ERel.dOnly {K : PySem.W.Frag} {ρ : List Addr} {H : Hp} {env : AR.Env} {σ : L2.St} (h : ERel D0 K CA ρ H env σ) : ERel D0 K CAn ρ H (env.map AR.dOnly) σ := by
  refine ⟨by rw [List.length_map]; exact h.len, fun i x e => ?_⟩
  rw [List.getElem?_map] at e
  cases e1 : env[i]? with
  | none => rw [e1] at e; cases e
  | some o =>
    rw [e1] at e
    cases o with
    | none => simp [AR.dOnly] at e
    | some y =>
      cases y with
      | clo _ _ => simp [AR.dOnly] at e
      | d y =>
        simp only [AR.dOnly, Option.map_some, Option.some.injEq] at e
        subst e
        obtain ⟨v, h1, h2⟩ := h.at_ i _ e1
        exact ⟨v, h1, SVRel.d_iff.mpr (SVRel.d_iff.mp h2)⟩
theorem ERel.wipe {K : PySem.W.Frag} {CA : CAp} {ρ : List Addr} {H : Hp} {env : AR.Env} {σ : L2.St} (h : ERel D0 K CA ρ H env σ) : ∀ vs : List Nat, ERel D0 K CA ρ H (wipeE env vs) (L2.wipe σ vs)
  | [] => h
  | v :: vs => (ERel.wipe h vs).clear v
theorem wipe_get (σ : L2.St) : ∀ (vs : List Nat) (i : Nat), (L2.wipe σ vs)[i]? = if i ∈ vs then (σ[i]?).map (fun _ => none) else σ[i]?
  | [], i => by simp [L2.wipe]
  | v :: vs, i => by
    show ((L2.wipe σ vs).set v none)[i]? = _
    by_cases e : v = i
    · subst e
      rw [if_pos (by simp)]
      by_cases hl : v < σ.length
      · rw [List.getElem?_set_self (by rw [L2.wipe_length]; exact hl), List.getElem?_eq_getElem hl]; rfl
      · rw [List.getElem?_eq_none (by rw [List.length_set, L2.wipe_length]; omega), List.getElem?_eq_none (by omega)]; rfl
    · rw [List.getElem?_set_ne e, wipe_get σ vs i]
      have : i ∈ v :: vs ↔ i ∈ vs := by simp [Ne.symm e]
      simp only [this]
theorem wipe_same {σ σ' : L2.St} {vs : List Nat} {sl : List Nat} (hl : σ'.length = (L2.wipe σ vs).length) (hk : ∀ i : Nat, i ∉ sl → σ'[i]? = (L2.wipe σ vs)[i]?) (hs : ∀ i ∈ sl, i ∈ vs) : L2.wipe σ' vs = L2.wipe σ vs := by
  apply List.ext_getElem?
  intro i
  rw [wipe_get, wipe_get]
  by_cases hi : i ∈ vs
  · rw [if_pos hi, if_pos hi]
    rw [L2.wipe_length] at hl
    by_cases h : i < σ.length
    · rw [List.getElem?_eq_getElem h, List.getElem?_eq_getElem (by omega)]; rfl
    · rw [List.getElem?_eq_none (by omega), List.getElem?_eq_none (by omega)]
  · rw [if_neg hi, if_neg hi, hk i (fun z => hi (hs i z)), wipe_get, if_neg hi]
abbrev Blk (X : Cx) (s : Shared) (H : Hp) (scope : Scope) (C : Addr) (cl : List (Str × Addr)) (fp : List Addr) : Cx := X.blk s H scope (compEnvC scope cl C X.env) fp
theorem CxOk.blk (C : CxOk n X CA) (s : Shared) (H : Hp) (scope : Scope) (Cc : Addr) (cl : List (Str × Addr)) (fp : List Addr) : CxOk n (Blk X s H scope Cc cl fp) CAn := ⟨C.calm, C.room, fun _ _ _ _ _ _ _ _ z => z.elim⟩
/-- the turns of a comprehension -/
theorem lc_S {K : PySem.W.Frag} {W : WX} {σ : L2.St} {H : Hp} {Q : VK} {tt : TT} {vs : List Nat} (hsl : ∀ i ∈ t.slots, i ∈ vs)
    (htt : ∀ σ H Q, tIb D0 n K CAn (fun _ _ _ _ => False) ic σ H Q → tt σ H Q)
    (h : tI D0 n K CA W (.lc t vs w its ic ie) σ H Q) : tLc (tII D0 n K CA W w its) (gT D0 K CAn t) tt (tI D0 n K CAn (fun _ _ _ _ => False) ie) vs σ H Q := by
  obtain ⟨ρ, hm, env, h1, h2, p⟩ := h
  rw [evE_lc] at p
  refine ⟨ρ, hm, env, h1, h2, (PO.bind p).mono fun xs hm1 ρ1 H1 v f1 hr1 r1 q => ?_⟩
  unfold lcRun at q
  split at q
  · exact q.elim
  · rename_i ds e1
    split at q
    · exact q.elim
    · rename_i j e2
      refine ⟨ds, j, e1, e2, fun J IJ D hD => ?_⟩
      have q := PO.toSV q
      obtain ⟨turn, ht⟩ : ∃ f, f = lcTurn t (wipeE (env.map AR.dOnly) vs) (fun env h => truth (evE (AR.run D0.P n) ic env h)) (fun env h => evE (AR.run D0.P n) ie env h) := ⟨_, rfl⟩
      rw [← ht] at q
      obtain ⟨hn1, hn2, hn3⟩ := hr1.new (o := .lst []) (u := .lst []) hD fun f => ⟨[], upd_same, DRels.nil⟩
      have er := (h1.fwd f1)
      refine ⟨fun i m H => ∃ ρ' hm', Fwd ρ1 H1 ρ' H ∧ HRel D0.G K ρ' hm' H ∧ ρ'[hm1.length]? = some D ∧ PostD D0.G K ρ' H (lcGo (fun h i => j.at h i) turn hm1.length m i hm') Q,
        ⟨fuelW, _, _, hn2, hn1, hn3, q.later hn2⟩, ?_⟩
      rintro i m H2 ⟨ρ2, hm2, f2, hr2, eD, q2⟩
      cases m with
      | zero => exact q2.elim
      | succ m =>
        have q2 : PostD D0.G K ρ2 H2 (match j.at hm2 i with
          | none => .stuck
          | some none => .ok (.ref hm1.length) hm2
          | some (some x) => lcStep hm1.length (lcGo (fun h i => j.at h i) turn hm1.length m (i + 1)) (turn x hm2)) Q := q2
        have ij := IJ i ρ2 hm2 H2 f2 hr2
        cases e3 : j.at hm2 i with
        | none => rw [e3] at q2; exact q2.elim
        | some o =>
          rw [e3] at q2 ij
          cases o with
          | none => exact .inl ⟨ij, q2.here hr2 (mk_ref eD)⟩
          | some x =>
            obtain ⟨go, ij⟩ := ij
            refine .inr ⟨go, _, fun H' z => ⟨m, Nat.lt_succ_self m, z⟩, fun v H3 y => ?_⟩
            obtain ⟨hr3, f3, rx⟩ := ij v H3 y
            have q3 : PostD D0.G K ρ2 H3 (lcStep hm1.length (lcGo (fun h i => j.at h i) turn hm1.length m (i + 1)) (turn x hm2)) Q := q2.later f3
            have er3 : ERel D0 K CAn ρ2 H3 (wipeE (env.map AR.dOnly) vs) (L2.wipe σ vs) := ((er.fwd (f2.trans f3)).dOnly).wipe vs
            show gT D0 K CAn t v (L2.wipe σ vs) H3 _
            cases es : setT t x (wipeE (env.map AR.dOnly) vs) with
            | none =>
              have e5 : turn x hm2 = .stuck := by rw [ht]; unfold lcTurn; rw [es]
              rw [e5] at q3
              exact q3.elim
            | some env' =>
              have e5 : turn x hm2 = (truth (evE (AR.run D0.P n) ic env' hm2)).bind fun b h => if b = true then (evE (AR.run D0.P n) ie env' h).bind lcEl else .ok none h := by rw [ht]; unfold lcTurn; rw [es]
              rw [e5] at q3
              refine ⟨ρ2, _, x, env', er3, rx, es, fun σ4 er4 hl4 hk4 => ⟨wipe_same hl4 hk4 hsl, htt _ _ _ ?_⟩⟩
              refine ⟨ρ2, hm2, env', er4, hr3, ?_⟩
              cases hc : truth (evE (AR.run D0.P n) ic env' hm2) with
              | stuck => rw [hc] at q3; exact q3.elim
              | exc z h5 => rw [hc] at q3; exact q3.elim
              | ok b h5 =>
                rw [hc] at q3
                intro ρ5 H5 b' f5 hr5 eb
                subst eb
                have q5 := q3.later f5
                show if b = true then _ else _
                cases b with
                | false =>
                  rw [if_neg (by decide)]
                  exact ⟨ρ5, h5, f2.trans (f3.trans f5), hr5, f5.pre _ _ eD, q5⟩
                | true =>
                  rw [if_pos rfl]
                  refine ⟨ρ5, h5, env', er4.fwd f5, hr5, ?_⟩
                  have q5 : PostD D0.G K ρ5 H5 (lcStep hm1.length (lcGo (fun h i => j.at h i) turn hm1.length m (i + 1)) ((evE (AR.run D0.P n) ie env' h5).bind lcEl)) Q := q5
                  cases he : evE (AR.run D0.P n) ie env' h5 with
                  | stuck => rw [he] at q5; exact q5.elim
                  | exc z h6 => rw [he] at q5; exact q5.elim
                  | ok y h6 =>
                    rw [he] at q5
                    intro ρ6 H6 v6 f6 hr6 r6
                    have q6 := q5.later f6
                    cases y with
                    | clo _ _ => exact q6.elim
                    | d y =>
                      have q6 : PostD D0.G K ρ6 H6 (match h6[hm1.length]? with
                        | some (.lst acc) => if acc.length < sizeLine then lcGo (fun h i => j.at h i) turn hm1.length m (i + 1) (h6.set hm1.length (.lst (acc ++ [y]))) else .stuck
                        | _ => .stuck) Q := q6
                      have eD6 := f6.pre _ _ (f5.pre _ _ eD)
                      split at q6
                      · rename_i acc ea
                        obtain ⟨us, hu, ru⟩ := at_lst hr6 ea eD6
                        split at q6
                        · rename_i hz
                          refine ⟨us, hu, by rw [← ru.len]; exact hz, ?_⟩
                          obtain ⟨hr7, f7⟩ := hr6.put (o' := .lst (acc ++ [y])) (u := .lst (us ++ [v6])) ea eD6 rfl (fun f7 => ⟨_, upd_same, (ru.app (DRels.mk (SVRel.d_iff.mp r6) DRels.nil)).fwd f7⟩) rfl
                          exact ⟨ρ6, _, f2.trans (f3.trans (f5.trans (f6.trans f7))), hr7, eD6, q6.later f7⟩
                        · exact q6.elim
                      · exact q6.elim
theorem se_lc (C : CxOk n X CA) (hN : X.N.Nodup) (hi : SI D0 n X CA tg iter w its) (ok : BlkOk X.N X.env.scope scope own) (hsl : ∀ i ∈ t.slots, i ∈ own.map (·.2))
    (hg : ∀ (s : Shared) (H : Hp) (Cc : Addr) (cl : List (Str × Addr)) (fp : List Addr), PG (Blk X s H scope Cc cl fp) tg (gT D0 X.K CAn t))
    (he : ∀ (s : Shared) (H : Hp) (Cc : Addr) (cl : List (Str × Addr)) (fp : List Addr), SE D0 n (Blk X s H scope Cc cl fp) CAn elt ie) (hs : ∀ x, foldedSetIterable iter X.env x = pure x := by intro _; rfl) :
    SE D0 n X CA (.ListComp elt [⟨tg, iter, [], 0⟩] scope pos) (.lc t (own.map (·.2)) w its (.c (.bl true)) ie) :=
  ⟨fun W tk => PE.weak (pe_lc C.calm hN (hi.run W tk) ok hg (fun _ _ _ _ _ => pts_nil) (fun s H Cc cl fp => (he s H Cc cl fp).run _ takes0) hs) fun σ H Q h => lc_S hsl (fun σ H Q h => by
    obtain ⟨ρ, hm, env, h1, h2, p⟩ := h
    rw [evE_c] at p
    exact p ρ H true (Fwd.refl _ _) h2 rfl) h⟩
theorem se_lc1 (C : CxOk n X CA) (hN : X.N.Nodup) (hi : SI D0 n X CA tg iter w its) (ok : BlkOk X.N X.env.scope scope own) (hsl : ∀ i ∈ t.slots, i ∈ own.map (·.2))
    (hg : ∀ (s : Shared) (H : Hp) (Cc : Addr) (cl : List (Str × Addr)) (fp : List Addr), PG (Blk X s H scope Cc cl fp) tg (gT D0 X.K CAn t))
    (hc : ∀ (s : Shared) (H : Hp) (Cc : Addr) (cl : List (Str × Addr)) (fp : List Addr), ST D0 n (Blk X s H scope Cc cl fp) CAn c ic)
    (he : ∀ (s : Shared) (H : Hp) (Cc : Addr) (cl : List (Str × Addr)) (fp : List Addr), SE D0 n (Blk X s H scope Cc cl fp) CAn elt ie) (hs : ∀ x, foldedSetIterable iter X.env x = pure x := by intro _; rfl) :
    SE D0 n X CA (.ListComp elt [⟨tg, iter, [c], 0⟩] scope pos) (.lc t (own.map (·.2)) w its ic ie) :=
  ⟨fun W tk => PE.weak (pe_lc C.calm hN (hi.run W tk) ok hg (fun s H Cc cl fp => pts_one ((hc s H Cc cl fp).run _ takes0)) (fun s H Cc cl fp => (he s H Cc cl fp).run _ takes0) hs) fun σ H Q h => lc_S hsl (fun σ H Q h => h) h⟩
end
end AR
end
section
/-! Snd8: statements. -/
set_option Elab.async false
set_option linter.all false
set_option maxRecDepth 100000
set_option maxHeartbeats 4000000
namespace AR
open PySem L2 PySem.Spec PyProof.Rows
section
variable {D0 : Wd} {K : PySem.W.Frag} {CA : CAp} {ρ ρ' : List Addr} {hm : Hm} {H H' : Hp} {env : AR.Env} {σ : L2.St}
/-- what is wanted of a statement's outcome -/
def PRS (D0 : Wd) (K : PySem.W.Frag) (CA : CAp) (ρ : List Addr) (H : Hp) (W : WX) (D : Ends) (r : RS) : Prop := match r with
  | .nx env hm' => ∀ ρ' H' σ', Fwd ρ H ρ' H' → ERel D0 K CA ρ' H' env σ' → HRel D0.G K ρ' hm' H' → D.nx σ' H'
  | .bk env hm' => ∀ ρ' H' σ', Fwd ρ H ρ' H' → ERel D0 K CA ρ' H' env σ' → HRel D0.G K ρ' hm' H' → D.bk σ' H'
  | .ct env hm' => ∀ ρ' H' σ', Fwd ρ H ρ' H' → ERel D0 K CA ρ' H' env σ' → HRel D0.G K ρ' hm' H' → D.ct σ' H'
  | .rt x hm' => ∀ ρ' H' v, Fwd ρ H ρ' H' → HRel D0.G K ρ' hm' H' → SVRel D0.L K CA ρ' H' x v → D.rt v H'
  | .exc x env hm' => ∀ ρ' H' cls dd σ', Fwd ρ H ρ' H' → ERel D0 K CA ρ' H' env σ' → HRel D0.G K ρ' hm' H' → XRel D0 K ρ' H' x cls dd → W cls dd σ' H'
  | .stuck => False
theorem PRS.later {W : WX} {D : Ends} {r : RS} (p : PRS D0 K CA ρ H W D r) (f : Fwd ρ H ρ' H') : PRS D0 K CA ρ' H' W D r := by
  cases r with
  | nx e h => exact fun ρ2 H2 s2 f2 => p ρ2 H2 s2 (f.trans f2)
  | bk e h => exact fun ρ2 H2 s2 f2 => p ρ2 H2 s2 (f.trans f2)
  | ct e h => exact fun ρ2 H2 s2 f2 => p ρ2 H2 s2 (f.trans f2)
  | rt x h => exact fun ρ2 H2 s2 f2 => p ρ2 H2 s2 (f.trans f2)
  | exc x e h => exact fun ρ2 H2 c d s2 f2 => p ρ2 H2 c d s2 (f.trans f2)
  | stuck => exact p
def tIS (D0 : Wd) (n : Nat) (K : PySem.W.Frag) (CA : CAp) (W : WX) (ir : S) : TS := fun D σ H => ∃ ρ hm env, ERel D0 K CA ρ H env σ ∧ HRel D0.G K ρ hm H ∧ PRS D0 K CA ρ H W D (AR.exec (run D0.P n) ir env hm)
def tISs (D0 : Wd) (n : Nat) (K : PySem.W.Frag) (CA : CAp) (W : WX) (irs : List S) : TS := fun D σ H => ∃ ρ hm env, ERel D0 K CA ρ H env σ ∧ HRel D0.G K ρ hm H ∧ PRS D0 K CA ρ H W D (AR.execs (run D0.P n) irs env hm)
theorem PRS.st {W : WX} {D : Ends} {α β : Type} {r : R α} {f : α → Hm → RS} {Rl : List Addr → Hp → α → β → Prop} (er : ERel D0 K CA ρ H env σ) (p : PRS D0 K CA ρ H W D (R.st env r f)) :
    PO D0 K ρ H (fun c d H => W c d σ H) Rl r (fun x hm' ρ' H' _ => PRS D0 K CA ρ' H' W D (f x hm')) := by
  cases r with
  | ok x hm' => exact fun ρ2 H2 v f2 h2 r2 => PRS.later (show PRS D0 K CA ρ H W D (f x hm') from p) f2
  | exc x hm' => exact fun ρ2 H2 c d f2 h2 x2 => p ρ2 H2 c d σ f2 (er.fwd f2) h2 x2
  | stuck => exact p
theorem PRS.here {W : WX} {D : Ends} {hm' : Hm} {env' : AR.Env} {σ' : L2.St} (p : PRS D0 K CA ρ H W D (.nx env' hm')) (e : ERel D0 K CA ρ H env' σ') (h : HRel D0.G K ρ hm' H) : D.nx σ' H := p ρ H σ' (Fwd.refl _ _) e h
end
structure SS (D0 : Wd) (n : Nat) (X : Cx) (CA : CAp) (st : Stmt) (ir : S) : Prop where
  run : ∀ W, Takes X W → PassesOwn (model X.prog X.w) X.A X.env X.xe → PS X st (tIS D0 n X.K CA W ir)
structure SSs (D0 : Wd) (n : Nat) (X : Cx) (CA : CAp) (sts : List Stmt) (irs : List S) : Prop where
  run : ∀ W, Takes X W → PassesOwn (model X.prog X.w) X.A X.env X.xe → PSs X sts (tISs D0 n X.K CA W irs)
theorem PS.weak {X : Cx} {e : Stmt} {t t' : TS} (h : PS X e t) (w : ∀ D σ H, t' D σ H → t D σ H) : PS X e t' := ⟨fun pins s σ H Q I q => h.run pins s σ H Q I (w Q σ H q)⟩
theorem PSs.weak {X : Cx} {e : List Stmt} {t t' : TS} (h : PSs X e t) (w : ∀ D σ H, t' D σ H → t D σ H) : PSs X e t' := ⟨fun pins s σ H Q I q => h.run pins s σ H Q I (w Q σ H q)⟩
section
variable {D0 : Wd} {n : Nat} {X : Cx} {CA : CAp} {st : Stmt} {rest a b body : List Stmt} {e c tg iter : Expr} {ir : S} {irs ia ib : List S} {ie ic : E} {t : T} {pos p : Pos} {x y : Str} {i j : Nat} {w : AR.W} {its : List E}
theorem st_stuck {v : S} (h : ∀ (k : Nat → List SV → List SV → Hm → R SV) env hm, exec k v env hm = .stuck) : SS D0 n X CA st v :=
  ⟨fun W _ _ => ⟨fun _ _ _ _ _ _ ⟨_, _, _, _, _, q⟩ => by rw [h] at q; exact q.elim⟩⟩
theorem ss_bad : SS D0 n X CA st .bad := st_stuck fun _ _ _ => rfl
theorem sss_nil : SSs D0 n X CA [] [] := ⟨fun W _ _ => PSs.weak pss_nil fun D σ H ⟨ρ, hm, env, h1, h2, p⟩ => by
  rw [execs_nil] at p
  exact p.here h1 h2⟩
theorem sss_cons (h1 : SS D0 n X CA st ir) (h2 : SSs D0 n X CA rest irs) : SSs D0 n X CA (st :: rest) (ir :: irs) := ⟨fun W tk po => PSs.weak (pss_cons (h1.run W tk po) (h2.run W tk po)) fun D σ H ⟨ρ, hm, env, h1, h2, p⟩ => by
  rw [execs_cons] at p
  refine ⟨ρ, hm, env, h1, h2, ?_⟩
  cases e : exec (AR.run D0.P n) ir env hm with
  | nx env' hm' =>
    rw [e] at p
    exact fun ρ2 H2 s2 f2 e2 r2 => ⟨ρ2, hm', env', e2, r2, PRS.later p f2⟩
  | bk e h => rw [e] at p; exact p
  | ct e h => rw [e] at p; exact p
  | rt x h => rw [e] at p; exact p
  | exc x e h => rw [e] at p; exact p
  | stuck => rw [e] at p; exact p⟩
theorem ss_pass : SS D0 n X CA (.Pass pos) .pass := ⟨fun W _ _ => PS.weak ps_pass fun D σ H ⟨ρ, hm, env, h1, h2, p⟩ => p.here h1 h2⟩
theorem ss_doc {z : Str} {k} {pos' : Pos} : SS D0 n X CA (.Expr (.Constant (.str z) k pos) pos') .pass := ⟨fun W _ _ => PS.weak ps_doc fun D σ H ⟨ρ, hm, env, h1, h2, p⟩ => p.here h1 h2⟩
theorem ss_brk : SS D0 n X CA (.Break pos) .brk := ⟨fun W _ _ => PS.weak ps_break fun D σ H ⟨ρ, hm, env, h1, h2, p⟩ => p ρ H σ (Fwd.refl _ _) h1 h2⟩
theorem ss_cont : SS D0 n X CA (.Continue pos) .cont := ⟨fun W _ _ => PS.weak ps_continue fun D σ H ⟨ρ, hm, env, h1, h2, p⟩ => p ρ H σ (Fwd.refl _ _) h1 h2⟩
theorem ss_retN : SS D0 n X CA (.Return none pos) .retN := ⟨fun W _ _ => PS.weak ps_retN fun D σ H ⟨ρ, hm, env, h1, h2, p⟩ => p ρ H .non (Fwd.refl _ _) h2 (SVRel.d_iff.mpr (by simp [DRel]))⟩
theorem tI_st {K : PySem.W.Frag} {W : WX} {σ : L2.St} {H : Hp} {Q : VK} {ρ : List Addr} {hm : Hm} {env : AR.Env} {D : Ends} {f : SV → Hm → RS} (h1 : ERel D0 K CA ρ H env σ) (h2 : HRel D0.G K ρ hm H) (p : PRS D0 K CA ρ H W D ((evE (AR.run D0.P n) ie env hm).st env f))
    (m : ∀ x hm' ρ' H' v, ERel D0 K CA ρ' H' env σ → HRel D0.G K ρ' hm' H' → SVRel D0.L K CA ρ' H' x v → PRS D0 K CA ρ' H' W D (f x hm') → Q v H') : tI D0 n K CA W ie σ H Q :=
  tI_of h1 h2 (PRS.st h1 p) fun x hm' ρ' H' v f hr r q => m x hm' ρ' H' v (h1.fwd f) hr r q
theorem ss_expr (he : SE D0 n X CA e ie) (hs : swapsWith e none pos.line X.env = pure false := by rfl) : SS D0 n X CA (.Expr e pos) (.expr ie) := ⟨fun W tk _ => PS.weak (ps_expr (he.run W tk) hs) fun D σ H ⟨ρ, hm, env, h1, h2, p⟩ => by
  rw [exec_expr] at p
  exact tI_st h1 h2 p fun x hm' ρ' H' v e' hr r q => q.here e' hr⟩
theorem ss_ret (he : SE D0 n X CA e ie) : SS D0 n X CA (.Return (some e) pos) (.ret ie) := ⟨fun W tk _ => PS.weak (ps_ret (he.run W tk)) fun D σ H ⟨ρ, hm, env, h1, h2, p⟩ => by
  rw [exec_ret] at p
  exact tI_st h1 h2 p fun x hm' ρ' H' v e' hr r q => q ρ' H' v (Fwd.refl _ _) hr r⟩
theorem ss_if (hc : ST D0 n X CA c ic) (ha : SSs D0 n X CA a ia) (hb : SSs D0 n X CA b ib) : SS D0 n X CA (.If c a b pos) (.ifs ic ia ib) := ⟨fun W tk po => PS.weak (ps_if (hc.run W tk) (ha.run W tk po) (hb.run W tk po)) fun D σ H ⟨ρ, hm, env, h1, h2, p⟩ => by
  rw [exec_ifs] at p
  refine tIb_of h1 h2 (PRS.st h1 p) fun x hm' ρ' H' v f hr r q => ?_
  subst r
  cases x with
  | true => rw [if_pos rfl] at q ⊢; exact ⟨ρ', hm', env, h1.fwd f, hr, q⟩
  | false => rw [if_neg (by decide)] at q ⊢; exact ⟨ρ', hm', env, h1.fwd f, hr, q⟩⟩
/-! ### stores -/
theorem asg_nm {K : PySem.W.Frag} {W : WX} {σ : L2.St} {H : Hp} {D : Ends} (h : tIS D0 n K CA W (.asg (.nm i) ie) D σ H) : tAsg (tI D0 n K CA W ie) (gName i) D σ H := by
  obtain ⟨ρ, hm, env, h1, h2, p⟩ := h
  rw [exec_asg] at p
  refine tI_st h1 h2 p fun x hm' ρ' H' v e' hr r q => ?_
  unfold asgRun at q
  simp only at q
  split at q
  · exact q.here (e'.set i r) hr
  · exact q.elim
theorem ss_set (hN : X.N.Nodup) (i : Nat) (he : SE D0 n X CA e ie) (hi : X.N[i]? = some x := by rfl) (hx : Loc X.env.scope x := by first | exact Or.inl rfl | exact Or.inr rfl) (hs : swapsWith e (some (.Name x p)) pos.line X.env = pure false := by rfl) (hf : X.fn x = true ∨ X.env.scope.names.lookup x = some .local := by first | exact .inl rfl | exact .inr rfl | assumption) :
    SS D0 n X CA (.Assign [.Name x p] e pos) (.asg (.nm i) ie) := ⟨fun W tk _ => PS.weak (ps_set hN hi hx (he.run W tk) hs hf) fun D σ H h => asg_nm h⟩
theorem ss_asg (ts : List T) (he : SE D0 n X CA e ie) (hg : PG X tg (gT D0 X.K CA (.tp ts))) (hs : swapsWithSole [tg] e pos.line X.env = pure false := by rfl) (hw : swappedStores [tg] e X.env = pure none := by rfl)
    (ha : (assignEach [tg] X.env).map (·.2) = [assign tg X.env] := by rfl) : SS D0 n X CA (.Assign [tg] e pos) (.asg (.tp ts) ie) := ⟨fun W tk _ => PS.weak (ps_asg (he.run W tk) hg hs hw ha) fun D σ H ⟨ρ, hm, env, h1, h2, p⟩ => by
  rw [exec_asg] at p
  refine tI_st h1 h2 p fun x hm' ρ' H' v e' hr r q => ?_
  unfold asgRun at q
  simp only at q
  split at q
  · rename_i d
    split at q
    · rename_i env' es
      exact ⟨ρ', env, d, env', e', SVRel.d_iff.mp r, es, fun σ' e2 _ _ => q.here e2 hr⟩
    · exact q.elim
  · exact q.elim⟩
theorem ss_par {pt pe px py : Pos} {kt ke : Nat} (hc : X.calm = true) (hN : X.N.Nodup) (i j : Nat) {ea eb : Expr} {fa fb : E} (ha : SE D0 n X CA ea fa) (hb : SE D0 n X CA eb fb)
    (hi : X.N[i]? = some x := by rfl) (hj : X.N[j]? = some y := by rfl) (hij : i ≠ j := by decide) (hx : X.env.scope.names.lookup x = some .local := by rfl) (hy : X.env.scope.names.lookup y = some .local := by rfl)
    (hw : swappedStores [.Tuple [.Name x px, .Name y py] kt pt] (.Tuple [ea, eb] ke pe) X.env = pure (some [x, y]) := by rfl)
    (hs : swapsWithSole [.Tuple [.Name x px, .Name y py] kt pt] (.Tuple [ea, eb] ke pe) pos.line X.env = pure false := by rfl)
    (he1 : starEach [ea, eb] X.env = (false, eval ea X.env) :: starEach [eb] X.env := by rfl) (he2 : starEach [eb] X.env = (false, eval eb X.env) :: starEach [] X.env := by rfl) :
    SS D0 n X CA (.Assign [.Tuple [.Name x px, .Name y py] kt pt] (.Tuple [ea, eb] ke pe) pos) (.par i j fa fb) := ⟨fun W tk _ => PS.weak (ps_par hc hN hi hj hij hx hy (pa_cons (ha.run W tk) (pa_cons (hb.run W tk) pa_nil he2) he1) hw hs) fun D σ H ⟨ρ, hm, env, h1, h2, p⟩ => by
  rw [exec_par] at p
  refine tI_st h1 h2 p fun u hm1 ρ1 H1 v1 e1 hr1 r1 q => ?_
  refine tI_of e1 hr1 (PRS.st e1 q) fun w2 hm2 ρ2 H2 v2 f2 hr2 r2 q => ?_
  unfold parRun at q
  split at q
  · exact ⟨v1, v2, rfl, q.here (((e1.fwd f2).set i (r1.fwd f2 fun _ _ _ z => z)).set j r2) hr2⟩
  · exact q.elim⟩
theorem ss_par3 {z : Str} {pt pe px py pz : Pos} {kt ke : Nat} (hc : X.calm = true) (hN : X.N.Nodup) (i j l : Nat) {ea eb ec : Expr} {fa fb fc : E} (ha : SE D0 n X CA ea fa) (hb : SE D0 n X CA eb fb) (hcc : SE D0 n X CA ec fc)
    (hi : X.N[i]? = some x := by rfl) (hj : X.N[j]? = some y := by rfl) (hl : X.N[l]? = some z := by rfl) (hij : i ≠ j := by decide) (hil : i ≠ l := by decide) (hjl : j ≠ l := by decide) (hx : X.env.scope.names.lookup x = some .local := by rfl) (hy : X.env.scope.names.lookup y = some .local := by rfl) (hz : X.env.scope.names.lookup z = some .local := by rfl)
    (hw : swappedStores [.Tuple [.Name x px, .Name y py, .Name z pz] kt pt] (.Tuple [ea, eb, ec] ke pe) X.env = pure (some [x, y, z]) := by rfl)
    (hs : swapsWithSole [.Tuple [.Name x px, .Name y py, .Name z pz] kt pt] (.Tuple [ea, eb, ec] ke pe) pos.line X.env = pure false := by rfl)
    (he1 : starEach [ea, eb, ec] X.env = (false, eval ea X.env) :: starEach [eb, ec] X.env := by rfl) (he2 : starEach [eb, ec] X.env = (false, eval eb X.env) :: starEach [ec] X.env := by rfl) (he3 : starEach [ec] X.env = (false, eval ec X.env) :: starEach [] X.env := by rfl) :
    SS D0 n X CA (.Assign [.Tuple [.Name x px, .Name y py, .Name z pz] kt pt] (.Tuple [ea, eb, ec] ke pe) pos) (.par3 i j l fa fb fc) := ⟨fun W tk _ => PS.weak (ps_par3 hc hN hi hj hl hij hil hjl hx hy hz (pa_cons (ha.run W tk) (pa_cons (hb.run W tk) (pa_cons (hcc.run W tk) pa_nil he3) he2) he1) hw hs) fun D σ H ⟨ρ, hm, env, h1, h2, p⟩ => by
  rw [exec_par3] at p
  refine tI_st h1 h2 p fun u hm1 ρ1 H1 v1 e1 hr1 r1 q => ?_
  refine tI_of e1 hr1 (PRS.st e1 q) fun w2 hm2 ρ2 H2 v2 f2 hr2 r2 q => ?_
  have e2 := e1.fwd f2
  refine tI_of e2 hr2 (PRS.st e2 q) fun w3 hm3 ρ3 H3 v3 f3 hr3 r3 q => ?_
  unfold par3Run at q
  split at q
  · exact ⟨v1, v2, v3, rfl, q.here ((((e2.fwd f3).set i (r1.fwd (f2.trans f3) fun _ _ _ z => z)).set j (r2.fwd f3 fun _ _ _ z => z)).set l r3) hr3⟩
  · exact q.elim⟩
/-- o[i] = v: a list's place, a dict's -/
def rSetA : TSet := fun o i v H Q => rSetL o i v H Q ∨ ∃ a H', o = .ref a ∧ DPut H a i v H' ∧ Q H'
theorem set_any (hu : X.A.units + 1 < cLine) : PSet X rSetA := fun pins s σ H o i v ov iv u Q I ro ri rv h => by
  rcases h with h | ⟨a, H', rfl, g, q⟩
  · exact set_list pins s σ H o i v ov iv u Q I ro ri rv h
  · obtain rfl : ov = Value.ref a := ro
    exact d_setItem hu I g ri rv fun s' I' => ⟨H', I', q⟩
theorem ss_setIx (C : CxOk n X CA) {o i v : Expr} {io ii iv : E} {ps : Pos} (ho : SE D0 n X CA o io) (hi : SE D0 n X CA i ii) (hv : SE D0 n X CA v iv) (hs : swapsWithSole [.Subscript o i ps] v pos.line X.env = pure false := by rfl) (hw : swappedStores [.Subscript o i ps] v X.env = pure none := by rfl)
    (ha : (assignEach [.Subscript o i ps] X.env).map (·.2) = [assign (.Subscript o i ps) X.env] := by rfl)
    (hb : ∀ v, assign (.Subscript o i ps) X.env v = (do
      let ov ← holding [v] (eval o X.env)
      let iv ← holding [v, ov] (eval i X.env)
      standAt ps
      holding [v, ov, iv] (setItem ov iv v)
      release [v, ov, iv] []) := by intro _; rfl) :
    SS D0 n X CA (.Assign [.Subscript o i ps] v pos) (.setIx io ii iv) := ⟨fun W tk _ => PS.weak (ps_asg (hv.run W tk) (pg_sub (ho.run W tk) (hi.run W tk) (set_any C.hu1) hb) hs hw ha) fun D σ H ⟨ρ, hm, env, h1, h2, p⟩ => by
  rw [exec_setIx] at p
  refine tI_st h1 h2 p fun u hm1 ρ1 H1 v1 e1 hr1 r1 q => ?_
  refine tI_of e1 hr1 (PRS.st e1 q) fun w2 hm2 ρ2 H2 v2 f2 hr2 r2 q => ?_
  have e2 := e1.fwd f2
  refine tI_of e2 hr2 (PRS.st e2 q) fun w3 hm3 ρ3 H3 v3 f3 hr3 r3 q => ?_
  unfold setRun at q
  split at q
  · rename_i x1 x2 x3
    split at q
    · rename_i hm' e
      have s1 := SVRel.d_iff.mp (r1.fwd (f2.trans f3) fun _ _ _ z => z)
      have s2 := SVRel.d_iff.mp (r2.fwd f3 fun _ _ _ z => z)
      have s3 := SVRel.d_iff.mp r3
      obtain ⟨a, ea, k⟩ := setIx_s hr3 s2 s3 s1 e
      rcases k with ⟨xs, k, j, ek, hl, hj, h4, f4⟩ | ⟨H', g, h4, f4⟩
      · exact .inl ⟨a, xs, k, j, ea, ek, hl, hj, PRS.here (q.later f4) ((e2.fwd f3).fwd f4) h4⟩
      · exact .inr ⟨a, H', ea, g, PRS.here (q.later f4) ((e2.fwd f3).fwd f4) h4⟩
    · exact q.elim
  · exact q.elim⟩
theorem dr_int' {K : PySem.W.Frag} {ρ : List Addr} {H : Hp} {i : Int} {v : V} (h : DRel K ρ H (.int i) v) : v = .int i := by simpa [DRel] using h
theorem aug_S {K : PySem.W.Frag} {W : WX} {σ : L2.St} {H : Hp} {D : Ends} {o : Op} {f : Int → Int → Int} (ho : ∀ env x y h, augRun i o env x y h = match x, y with
    | .d (.int a), .d (.int b) => .nx (env.set i (some (.d (.int (f a b))))) h
    | _, _ => .stuck) (h : tIS D0 n K CA W (.aug i o ie) D σ H) : tAug i (tI D0 n K CA W ie) (ipI f) D σ H := by
  obtain ⟨ρ, hm, env, h1, h2, p⟩ := h
  rw [exec_aug] at p
  unfold getV at p
  split at p
  · rename_i x e
    obtain ⟨v, ev, r⟩ := h1.at_ i x e
    refine ⟨v, ev, ?_⟩
    refine tI_st h1 h2 (show PRS D0 K CA ρ H W D ((evE (AR.run D0.P n) ie env hm).st env fun y h => augRun i o env x y h) from p) fun y hm1 ρ1 H1 v1 e1 hr1 r1 q => ?_
    rw [ho] at q
    split at q
    · rename_i a b
      obtain ⟨v', ev', r'⟩ := e1.at_ i _ e
      rw [ev] at ev'
      cases ev'
      exact ⟨a, b, dr_int' (SVRel.d_iff.mp r'), dr_int' (SVRel.d_iff.mp r1), q.here (e1.set i (SVRel.d_iff.mpr (by simp [DRel]))) hr1⟩
    · exact q.elim
  · exact p.elim
theorem ss_augA (hN : X.N.Nodup) (i : Nat) (he : SE D0 n X CA e ie) (hi : X.N[i]? = some x := by rfl) (hx : Loc X.env.scope x := by first | exact Or.inl rfl | exact Or.inr rfl) (hf : X.fn x = true ∨ X.env.scope.names.lookup x = some .local := by first | exact .inl rfl | exact .inr rfl | assumption) :
    SS D0 n X CA (.AugAssign (.Name x p) .Add e pos) (.aug i .add ie) := ⟨fun W tk _ => PS.weak (ps_aug hN hi hx (he.run W tk) ip_add hf) fun D σ H h => aug_S (fun env x y h => by unfold augRun; split <;> first | rfl | (split <;> simp_all)) h⟩
/-! ### loops -/
theorem ss_while {sb : List S} (hc : ST D0 n X CA c ic) (hb : SSs D0 n X CA body sb) : SS D0 n X CA (.While c body [] pos) (.while ic sb) := ⟨fun W tk po => PS.weak (ps_while po (hc.run W tk) (hb.run W tk po)) fun D σ H ⟨ρ, hm, env, h1, h2, p⟩ => by
  rw [exec_while] at p
  obtain ⟨cf, ec⟩ : ∃ f, f = (fun env h => truth (evE (AR.run D0.P n) ic env h)) := ⟨_, rfl⟩
  obtain ⟨bf, eb⟩ : ∃ f, f = (fun env h => execs (AR.run D0.P n) sb env h) := ⟨_, rfl⟩
  rw [← ec, ← eb] at p
  refine ⟨fun m σ H => ∃ ρ hm env, ERel D0 X.K CA ρ H env σ ∧ HRel D0.G X.K ρ hm H ∧ PRS D0 X.K CA ρ H W D (whileGo cf bf m env hm), ⟨_, ρ, hm, env, h1, h2, p⟩, ?_⟩
  rintro m σ1 H1 ⟨ρ1, hm1, env1, e1, r1, q⟩
  cases m with
  | zero => exact q.elim
  | succ m =>
    have q : PRS D0 X.K CA ρ1 H1 W D ((cf env1 hm1).st env1 fun x h => if x = true then (match bf env1 h with
      | .nx env h => whileGo cf bf m env h
      | .ct env h => whileGo cf bf m env h
      | .bk env h => .nx env h
      | r => r) else .nx env1 h) := q
    rw [ec] at q
    refine tIb_of e1 r1 (PRS.st e1 q) fun x hm2 ρ2 H2 v f2 r2 ev q => ?_
    subst ev
    have e2 := e1.fwd f2
    rw [← ec] at q
    cases x with
    | false => rw [if_neg (by decide)] at q ⊢; exact q.here e2 r2
    | true =>
      rw [if_pos rfl] at q ⊢
      refine ⟨fun σ' H' => ∃ ρ hm env, ERel D0 X.K CA ρ H' env σ' ∧ HRel D0.G X.K ρ hm H' ∧ PRS D0 X.K CA ρ H' W D (whileGo cf bf m env hm), fun σ' H' z => ⟨m, Nat.lt_succ_self m, z⟩, ρ2, hm2, env1, e2, r2, ?_⟩
      have eb' : execs (AR.run D0.P n) sb env1 hm2 = bf env1 hm2 := by rw [eb]
      rw [eb']
      cases hx : bf env1 hm2 with
      | nx env3 h3 => rw [hx] at q; exact fun ρ' H' σ' f' e' r' => ⟨ρ', h3, env3, e', r', PRS.later q f'⟩
      | ct env3 h3 => rw [hx] at q; exact fun ρ' H' σ' f' e' r' => ⟨ρ', h3, env3, e', r', PRS.later q f'⟩
      | bk env3 h3 => rw [hx] at q; exact q
      | rt v3 h3 => rw [hx] at q; exact q
      | exc x3 env3 h3 => rw [hx] at q; exact q
      | stuck => rw [hx] at q; exact q⟩
theorem ss_for {sb : List S} (hc : X.calm = true) (hi : SI D0 n X CA tg iter w its) (hg : PG X tg (gT D0 X.K CA t)) (hb : SSs D0 n X CA body sb) (hs : ∀ x, foldedSetIterable iter X.env x = pure x := by intro _; rfl) : SS D0 n X CA (.For tg iter body [] pos) (.for t w its sb) := ⟨fun W tk po => PS.weak (ps_for po hc (hi.run W tk) hg (hb.run W tk po) hs) fun D σ H ⟨ρ, hm, env, h1, h2, p⟩ => by
  rw [exec_for] at p
  refine ⟨ρ, hm, env, h1, h2, (PRS.st h1 p).mono fun xs hm1 ρ1 H1 v f1 hr1 r1 q => ?_⟩
  unfold forRun at q
  split at q
  · exact q.elim
  · rename_i ds e1
    split at q
    · exact q.elim
    · rename_i j e2
      refine ⟨ds, j, e1, e2, fun J IJ => ?_⟩
      obtain ⟨bf, eb⟩ : ∃ f, f = (fun env h => execs (AR.run D0.P n) sb env h) := ⟨_, rfl⟩
      rw [← eb] at q
      refine ⟨fun i m σ H => ∃ ρ hm env, Fwd ρ1 H1 ρ H ∧ ERel D0 X.K CA ρ H env σ ∧ HRel D0.G X.K ρ hm H ∧ PRS D0 X.K CA ρ H W D (forGo (fun h i => j.at h i) t bf m i env hm), ⟨_, ρ1, hm1, env, Fwd.refl _ _, h1.fwd f1, hr1, q⟩, ?_⟩
      rintro i m σ2 H2 ⟨ρ2, hm2, env2, f2, er2, hr2, q⟩
      cases m with
      | zero => exact q.elim
      | succ m =>
        have q : PRS D0 X.K CA ρ2 H2 W D (match j.at hm2 i with
          | none => .stuck
          | some none => .nx env2 hm2
          | some (some x) => match setT t x env2 with
            | none => .stuck
            | some env' => match bf env' hm2 with
              | .nx env h => forGo (fun h i => j.at h i) t bf m (i + 1) env h
              | .ct env h => forGo (fun h i => j.at h i) t bf m (i + 1) env h
              | .bk env h => .nx env h
              | r => r) := q
        have ij := IJ i ρ2 hm2 H2 f2 hr2
        cases e3 : j.at hm2 i with
        | none => rw [e3] at q; exact q.elim
        | some o =>
          rw [e3] at q ij
          cases o with
          | none => exact .inl ⟨ij, q.here er2 hr2⟩
          | some x =>
            obtain ⟨go, ij⟩ := ij
            refine .inr ⟨go, fun σ' H' => ∃ ρ hm env, Fwd ρ1 H1 ρ H' ∧ ERel D0 X.K CA ρ H' env σ' ∧ HRel D0.G X.K ρ hm H' ∧ PRS D0 X.K CA ρ H' W D (forGo (fun h i => j.at h i) t bf m (i + 1) env hm), fun σ' H' z => ⟨m, Nat.lt_succ_self m, z⟩, fun v H3 y => ?_⟩
            obtain ⟨hr3, f3, rx⟩ := ij v H3 y
            simp only at q
            split at q
            · exact q.elim
            · rename_i env' es
              refine ⟨ρ2, env2, x, env', er2.fwd f3, rx, es, fun σ4 er4 _ _ => ⟨ρ2, hm2, env', er4, hr3, ?_⟩⟩
              have q := q.later f3
              have eb' : execs (AR.run D0.P n) sb env' hm2 = bf env' hm2 := by rw [eb]
              rw [eb']
              cases hx : bf env' hm2 with
              | nx env3 h3 => rw [hx] at q; exact fun ρ' H' σ' f' e' r' => ⟨ρ', h3, env3, f2.trans (f3.trans f'), e', r', PRS.later q f'⟩
              | ct env3 h3 => rw [hx] at q; exact fun ρ' H' σ' f' e' r' => ⟨ρ', h3, env3, f2.trans (f3.trans f'), e', r', PRS.later q f'⟩
              | bk env3 h3 => rw [hx] at q; exact q
              | rt v3 h3 => rw [hx] at q; exact q
              | exc x3 env3 h3 => rw [hx] at q; exact q
              | stuck => rw [hx] at q; exact q⟩
end
end AR
end
section
/-! Snd9: isinstance. -/
set_option Elab.async false
set_option linter.all false
set_option maxRecDepth 100000
set_option maxHeartbeats 4000000
namespace AR
open PySem L2 PySem.Spec PyProof.Rows
def tyN : Ty → String
  | .non => "NoneType"
  | .str => "str"
  | .int => "int"
  | .bool => "bool"
  | .tuple => "tuple"
  | .list => "list"
  | .dict => "dict"
  | .err _ => "object"
def Ty.plain : Ty → Bool
  | .non => false
  | .err _ => false
  | _ => true
section
variable {G : Glo} {K : PySem.W.Frag} {ρ : List Addr} {hm : Hm} {H : Hp}
theorem tyx_s {d : D} {x : V} {t : Ty} (h : HRel G K ρ hm H) (r : DRel K ρ H d x) (e : tyOf hm d = some t) (ne : ∀ c, t ≠ .err c) : TyX K H x (.type (tyN t)) := by
  cases d with
  | non => simp only [tyOf, Option.some.injEq] at e; subst e; simp only [DRel] at r; subst r; exact .base .non
  | bl b => simp only [tyOf, Option.some.injEq] at e; subst e; simp only [DRel] at r; subst r; exact .base (.bl b)
  | int b => simp only [tyOf, Option.some.injEq] at e; subst e; simp only [DRel] at r; subst r; exact .base (.int b)
  | str b => simp only [tyOf, Option.some.injEq] at e; subst e; simp only [DRel] at r; subst r; exact .base (.str b)
  | tup xs =>
    simp only [tyOf, Option.some.injEq] at e; subst e
    obtain ⟨a, vs, rfl, s, rs⟩ := dr_tup r
    rcases s with (s | ⟨o, s⟩) | ⟨o, its, k, e1, e2, _⟩
    · exact .base (.tup s)
    · exact .fTuple s
    · exact .kTuple e1 e2
  | ref n =>
    obtain ⟨a, ea, rfl⟩ := dr_ref r
    simp only [tyOf] at e
    split at e
    · rename_i xs hx
      cases e
      obtain ⟨vs, hv, rs⟩ := at_lst h hx ea
      exact .base (.lst hv)
    · rename_i xs hx
      cases e
      obtain ⟨vs, hv, rs⟩ := (h.at_ n _ a hx ea)
      rcases hv with ⟨o, hv⟩ | hv
      · exact .base (.frz hv)
      · rcases hv with (hv | ⟨o, hv⟩) | ⟨o, its, k, e1, e2, _⟩
        · cases hv
        · cases hv
        · exact .kList e1 e2
    · rename_i kvs hx
      cases e
      obtain ⟨vs, hv, rs⟩ := (h.at_ n _ a hx ea)
      exact .base (.dK hv)
    · rename_i c fs hx
      cases e
      exact absurd rfl (ne c)
    · cases e
theorem kitB_s {t u : Ty} (ht : ∀ c, t ≠ .err c) (hu : u.plain = true) : kitB (tyN t) (tyN u) = some (t == u || (t == .bool && u == .int)) := by
  cases t <;> cases u <;> first | exact absurd rfl (ht _) | (exact absurd (show false = true from hu) (by decide)) | (show kitB _ _ = some _; decide +kernel) | kernel_rfl
theorem kit_s {t u : Ty} (ht : ∀ c, t ≠ .err c) (hu : u.plain = true) : PySem.W.kitOne K (.type (tyN t)) (.type (tyN u)) = some (t == u || (t == .bool && u == .int)) := by
  exact kit_ty (kitB_s ht hu)
theorem kits_s {t : Ty} (ht : ∀ c, t ≠ .err c) : ∀ {ts : List Ty}, ts.all Ty.plain = true → PySem.W.kitAny K (.type (tyN t)) (ts.map fun u => Value.type (tyN u)) = some (ts.any fun u => t == u || (t == .bool && u == .int))
  | [], _ => kitAny_nil
  | u :: ts, h => by
    rw [List.all_cons, Bool.and_eq_true] at h
    rw [List.map_cons, List.any_cons]
    refine kitAny_cons (kit_s ht h.1) (fun e => ?_) (fun e => ?_)
    · rw [e, Bool.false_or]; exact kits_s ht h.2
    · rw [e, Bool.true_or]
theorem isi_S {t : Ty} {ts : List Ty} {b : Bool} (e : isiTy t ts = some b) : (∀ c, t ≠ .err c) ∧ b = ts.any fun u => t == u || (t == .bool && u == .int) := by
  unfold isiTy at e
  split at e
  · cases e
  · rename_i h
    exact ⟨fun c z => h c z, (Option.some.inj e).symm⟩
end
section
variable {D0 : Wd} {n : Nat} {X : Cx} {CA : CAp} {a : Expr} {ia : E} {p p2 pos : Pos} {nm : Str} {es : List Expr}
theorem pe_tyn (t : Ty) (hm : X.mg nm = none) (hg : Gl X nm := by rfl) (hv : bootBuiltins nm = some (.type (tyN t)) := by decide +kernel) (hn : nm ≠ "__name__" := by decide) (hd : (nm == ("__debug__" : Str)) = false := by decide) : PE X (.Name nm p) (tC (.ty (tyN t))) := pe_bltn hg hm hv rfl hn hd
/-- isinstance(a, T) -/
theorem se_isi (t : Ty) (ha : SE D0 n X CA a ia) (hm : X.mg "isinstance" = none) (hm2 : X.mg nm = none) (ht : t.plain = true := by rfl) (hg : Gl X "isinstance" := by rfl) (hg2 : Gl X nm := by rfl) (hv : bootBuiltins nm = some (.type (tyN t)) := by decide +kernel) (hn : nm ≠ "__name__" := by decide) (hd : (nm == ("__debug__" : Str)) = false := by decide)
    (hst : StB X a (.Name nm p2) := by rfl) (hst2 : StA X (.Name nm p2) := by rfl) (hpl : Pl X pos [.Name nm p2] := by rfl) : SE D0 n X CA (.Call (.Name "isinstance" p) [a, .Name nm p2] [] pos) (.op (.isi [t]) [ia]) :=
  ⟨fun W tk => PE.weak (pe_callB call_isi hg hm PyProof.Rows.boot_isinstance (pa_cons (ha.run W tk) (pa_cons (pe_tyn t hm2 hg2 hv hn hd) pa_nil hst2) hst) (by decide) (by decide) hst hpl) fun σ H Q h => tI_mono (tI_op1 h) fun v H1 ⟨ρ1, hm1, d, h1, h2, q⟩ => by
    simp only [op, a1] at q
    obtain ⟨b, e, q⟩ := PostD.asB (b := true) q h1
    unfold isiD at e
    split at e
    · rename_i ty et
      obtain ⟨hne, rfl⟩ := isi_S e
      refine ⟨v, .ty (tyN t), .type (tyN ty), .type (tyN t), _, rfl, .ty _, tyx_s h1 h2 et hne, kit_s hne ht, ?_⟩
      simpa using q
    · cases e⟩
/-- names of types -/
def PTys (X : Cx) (es : List Expr) (ts : List Ty) : Prop := PA X es fun σ H Q => Q (ts.map fun u => V.ty (tyN u)) H
theorem ptys_nil : PTys X [] [] := pa_nil
theorem ptys_cons {t : Ty} {ts : List Ty} (hm : X.mg nm = none) (hr : PTys X es ts) (hg : Gl X nm := by rfl) (hv : bootBuiltins nm = some (.type (tyN t)) := by decide +kernel) (hn : nm ≠ "__name__" := by decide) (hd : (nm == ("__debug__" : Str)) = false := by decide)
    (hs : starEach (.Name nm p :: es) X.env = (false, eval (.Name nm p) X.env) :: starEach es X.env := by rfl) : PTys X (.Name nm p :: es) (t :: ts) := PA.weak (pa_cons (pe_tyn t hm hg hv hn hd) hr hs) fun σ H Q h => h
theorem tys_cls : ∀ {ts : List Ty}, Paired ClsV (ts.map fun u => V.ty (tyN u)) (ts.map fun u => Value.type (tyN u))
  | [] => .nil
  | u :: ts => .cons (.ty _) tys_cls
theorem se_isiT {k : Nat} {ts : List Ty} {tpos : Pos} (ha : SE D0 n X CA a ia) (hm : X.mg "isinstance" = none) (hts : PTys X es ts) (ht : ts.all Ty.plain = true := by rfl) (hsz : ts.length ≤ 9 := by decide) (hg : Gl X "isinstance" := by rfl)
    (hst : StB X a (.Tuple es k tpos) := by rfl) (hst2 : StA X (.Tuple es k tpos) := by rfl) (hpl : Pl X pos [.Tuple es k tpos] := by rfl) : SE D0 n X CA (.Call (.Name "isinstance" p) [a, .Tuple es k tpos] [] pos) (.op (.isi ts) [ia]) :=
  ⟨fun W tk => PE.weak (pe_callB call_isiT hg hm PyProof.Rows.boot_isinstance (pa_cons (ha.run W tk) (pa_cons (pe_tup hts) pa_nil hst2) hst) (by decide) (by decide) hst hpl) fun σ H Q h => tI_mono (tI_op1 h) fun v H1 ⟨ρ1, hm1, d, h1, h2, q⟩ => by
    refine ⟨by rw [List.length_map, sizeLine_eq]; omega, fun tp hp => ?_⟩
    simp only [op, a1] at q
    obtain ⟨h1', f1⟩ := h1.aside (o := .tup (ts.map fun u => V.ty (tyN u))) hp
    obtain ⟨b, e, q⟩ := PostD.asB (b := true) (q.later f1) h1'
    unfold isiD at e
    split at e
    · rename_i ty et
      obtain ⟨hne, rfl⟩ := isi_S e
      exact ⟨v, tp, _, .type (tyN ty), ts.map (fun u => Value.type (tyN u)), _, rfl, upd_same, tys_cls, tyx_s h1' (h2.fwd f1) et hne, kits_s hne ht, q⟩
    · cases e⟩
end
end AR
end
section
/-! Snd10: functions made on the way: made, handed on, called. -/
set_option Elab.async false
set_option linter.all false
set_option maxRecDepth 100000
set_option maxHeartbeats 4000000
namespace AR
open PySem L2 PySem.Spec PyProof.Rows
/-- what a function made on the way has of its maker -/
structure LamMk (X : Cx) (T : List (Addr × Str)) (L : LamI) : Prop where
  tab : ∃ c P, LamX.TabB X.base X.mg c P ∧ X.env.code = .ref c ∧ (P, L.qual) ∈ T ∧ ∀ p ∈ T, p.1 = P → p.2 = L.qual
  qual : L.qual = X.env.qual ++ "<lambda>"
  defs : defaultsOf L.params X.env = ([], [])
  free : ∀ y ∈ L.scope.names, y.2 = .free → X.env.scope.names.lookup y.1 = some .cell ∨ X.env.scope.names.lookup y.1 = some .free
section
variable {X : Cx} {pins : List (Addr × Obj)} {σ : L2.St} {H : Hp} {s : Shared} {T : List (Addr × Str)} {L : LamI}
theorem LamMk.cells (M : LamMk X T L) (ok : X.Ok) : ∀ y ∈ L.scope.names, y.2 = .free → ∃ c, X.env.cells.lookup y.1 = some c := fun y hy e => by
  rcases M.free y hy e with z | z
  · exact ok.has _ (Or.inl z)
  · exact ok.has _ (Or.inr z)
abbrev lamCl (X : Cx) (L : LamI) : List (Str × Addr) := cloFrom X.env.cells L.scope.names []
theorem inv_lam {c' : Addr} {t' : Nat} {pm ctv : Value} (I : Inv X pins σ H s) :
    Inv X pins σ (upd H s.heap.objs.size (LamO L (lamCl X L) c' s.heap.objs.size)) { s with heap := s.heap.push (PySem.W.kla_obj "<lambda>" L.qual L.params L.body L.scope (lamCl X L) pm c' ctv), toks := t' } := by
  have e : (s.heap.push (PySem.W.kla_obj "<lambda>" L.qual L.params L.body L.scope (lamCl X L) pm c' ctv)).get? s.heap.objs.size = some _ := Heap.get?_push_size _ rfl
  exact I.laid (a := s.heap.objs.size) (fun b u z => Heap.get?_push_of_some _ z) (Nat.le_refl _) ⟨⟨pm, ctv, e⟩, ⟨_, e⟩, fun h1 h2 ⟨p, t, z⟩ st => ⟨p, t, st _ z⟩⟩
theorem up2 {P c' f b : Addr} {o p q r : HO} (e : H b = some o) (n1 : b ≠ P) (n2 : H c' = none) (n3 : H f = none) : upd (upd (upd H P p) c' q) f r b = some o := by
  rw [upd_ne (ne_of_none e n3), upd_ne (ne_of_none e n2), upd_ne n1]
  exact e
/-- the reading of a function made on the way -/
def tLamI (X : Cx) (T : List (Addr × Str)) (L : LamI) : TE := fun _ H Q => LamX.Tabs T H ∧ ∀ f c' H1, LamX.ExtN H H1 → LamX.Tabs T H1 → H f = none → H1 f = some (LamO L (lamCl X L) c' f) → H1 c' = some (LamX.CodeO c' L.qual) → Q (.ref f) H1
theorem pe_lamI {lpos : Pos} (M : LamMk X T L) : PE X (.Lambda L.params L.body L.scope lpos) (tLamI X T L) := by
  refine ⟨fun pins s σ H Q I hw => ?_⟩
  obtain ⟨hT, hq⟩ := hw
  obtain ⟨c, P, TB, hcode, hm, hu⟩ := M.tab
  obtain ⟨ps, hP, tri, among⟩ := hT _ hm
  refine PySem.W.kla_eval M.defs ?_
  rw [← M.qual]
  have cl := closure_ok (M.cells I.ok)
  have onP : s.heap.get? P = some { cls := .none, data := .fields ps } := I.hok P _ hP
  have bl := TB.bm.keeps I.bk
  have gl := I.mod.glob.keeps I.bk
  have cd := TB.code.keeps I.bk
  cases hc : codeAmong lpos ps.toList with
  | some cv =>
    obtain ⟨c', e, hco⟩ := among lpos cv hc
    subst e
    refine PySem.W.kla_makeFunctionHit (mg := X.mg) (c := c) (P := P) (ps := ps) cl I.ok.glob gl hcode cd onP tri hc bl fun ctv h' tk hx _ => ?_
    have I1 : Inv X pins σ H { s with heap := h', toks := tk } := I.kept hx
    have nf : H h'.objs.size = none := I1.hok.fresh (Nat.le_refl _)
    have xt : ∀ b o, H b = some o → upd H h'.objs.size (LamO L (lamCl X L) c' h'.objs.size) b = some o := fun b o e => (upd_ne (ne_of_none e nf)).trans e
    exact ⟨.ref h'.objs.size, _, inv_lam (L := L) (c' := c') I1, rfl, hq _ c' _ (LamX.ExtN.of xt) (hT.ext xt) nf upd_same (xt _ _ hco)⟩
  | none =>
    refine PySem.W.kla_makeFunction (mg := X.mg) (c := c) (P := P) (ps := ps) cl I.ok.glob gl hcode cd onP tri hc TB.gP bl fun c' ctv h' tk hx ge lt rec htb => ?_
    obtain ⟨c2, oc, vs, t, e2, hoc, hd, hv⟩ := rec
    cases e2
    have nc : H c' = none := I.hok.fresh ge
    have I1 := LamX.inv_table (q := L.qual) (t' := tk) (more := #[rawInt lpos.line, rawInt lpos.col, .ref c']) (h' := h') I hP hx htb ge ⟨oc, vs, t, hoc, hd, hv⟩
    have le : s.heap.objs.size ≤ h'.objs.size := Nat.le_trans ge (Nat.le_of_lt lt)
    have nf : H h'.objs.size = none := I.hok.fresh le
    have nfP : h'.objs.size ≠ P := Nat.ne_of_gt (Nat.lt_of_lt_of_le (Heap.lt_size onP) le)
    have nfc : c' ≠ h'.objs.size := Nat.ne_of_lt lt
    have xt : ∀ b o, H b = some o → b ≠ P → upd (upd (upd H P (.tbl (ps ++ #[rawInt lpos.line, rawInt lpos.col, .ref c']))) c' (LamX.CodeO c' L.qual)) h'.objs.size (LamO L (lamCl X L) c' h'.objs.size) b = some o := fun b o e n => up2 e n nc nf
    have xn : ∀ b o, H b = some o → (∀ ps, o ≠ .tbl ps) → b ≠ P := fun b o e n z => n ps (Option.some.inj (e.symm.trans (z ▸ hP)))
    have same : upd (upd (upd H P (.tbl (ps ++ #[rawInt lpos.line, rawInt lpos.col, .ref c']))) c' (LamX.CodeO c' L.qual)) h'.objs.size (LamO L (lamCl X L) c' h'.objs.size) c' = some (LamX.CodeO c' L.qual) := (upd_ne nfc).trans upd_same
    have eL : (ps ++ #[rawInt lpos.line, rawInt lpos.col, .ref c']).toList = ps.toList ++ [rawInt lpos.line, rawInt lpos.col, .ref c'] := by simp
    refine ⟨.ref h'.objs.size, _, inv_lam (L := L) (c' := c') I1, rfl, hq _ c' _ (fun b o e n => xt b o e (xn b o e n)) (fun p hp => ?_) nf upd_same same⟩
    by_cases hb : p.1 = P
    · rw [hu p hp hb, hb]
      refine ⟨_, (upd_ne (Ne.symm nfP)).trans ((upd_ne (ne_of_none hP nc)).trans upd_same), by rw [eL]; exact PySem.TriplesOk_snoc _ _ _ _ tri, fun p' cv hcv => ?_⟩
      rw [eL] at hcv
      rcases LamX.among_app _ tri hcv with z | z
      · obtain ⟨c0, e1, e2⟩ := among p' cv z
        exact ⟨c0, e1, xt _ _ e2 (xn _ _ e2 LamX.codeO_ne)⟩
      · exact ⟨c', z, same⟩
    · obtain ⟨ps', a1, a2, a3⟩ := hT p hp
      refine ⟨ps', xt _ _ a1 hb, a2, fun p' cv hcv => ?_⟩
      obtain ⟨c0, e1, e2⟩ := a3 p' cv hcv
      exact ⟨c0, e1, xt _ _ e2 (xn _ _ e2 LamX.codeO_ne)⟩
end
/-! ### handed to a def -/
section
variable {D0 : Wd} {n : Nat} {X : Cx} {CA : CAp} {pos p lpos : Pos} {x : Str} {i l : Nat} {dv : List D} {caps : List Nat}
theorem mapO_cons {α β : Type} (f : α → Option β) (x : α) (xs : List α) : mapO f (x :: xs) = match f x, mapO f xs with
  | some y, some ys => some (y :: ys)
  | _, _ => none := rfl
theorem mapO_caps {K : PySem.W.Frag} {CA : CAp} {ρ : List Addr} {H : Hp} {env : AR.Env} {σ : L2.St} (er : ERel D0 K CA ρ H env σ) : ∀ {caps : List Nat} {cs : List SV}, mapO (fun j => (env[j]?).join) caps = some cs → ∃ ws : List V, caps.map (NdefX.slotAt σ) = ws.map some ∧ SVRels D0.L K CA ρ H cs ws
  | [], cs, e => by
    simp only [mapO] at e
    cases e
    exact ⟨[], rfl, SVRels.nil_iff.mpr rfl⟩
  | j :: caps, cs, e => by
    rw [mapO_cons] at e
    split at e
    · rename_i sv cs' e1 e2
      cases e
      have ej : env[j]? = some (some sv) := by
        cases h : env[j]? with
        | none => rw [h] at e1; cases e1
        | some o => rw [h] at e1; exact congrArg some e1
      obtain ⟨v, ev, r⟩ := er.at_ j sv ej
      obtain ⟨ws, ew, rw'⟩ := mapO_caps er e2
      exact ⟨v :: ws, by rw [List.map_cons, List.map_cons, NdefX.slotAt_of ev, ew], SVRels.cons_iff.mpr ⟨v, ws, rfl, r, rw'⟩⟩
    · cases e
theorem hrel_lam {K : PySem.W.Frag} {ρ : List Addr} {hm : Hm} {H H1 : Hp} (h : HRel D0.G K ρ hm H) (x : LamX.ExtN H H1) (t : LamX.Tabs D0.G.T H1) : HRel D0.G K ρ hm H1 ∧ Fwd ρ H ρ H1 := by
  have f : Fwd ρ H ρ H1 := ⟨fun _ _ e => e, fun b xs e => x b _ e (fun ps z => by cases z), fun b o u e => x b _ e (fun ps z => by cases z), fun b φ e => x b _ e (fun ps z => by cases z), fun b fs e => x b _ e (fun ps z => by cases z)⟩
  exact ⟨h.stay f (fun b u e n => x b u e n) t, f⟩
theorem cell_nofr {pins : List (Addr × Obj)} {σ : L2.St} {H : Hp} {s : Shared} (hfn : ∀ y, X.fn y = true) (I : Inv X pins σ H s) {y : Str} {c : Addr} (e : X.env.cells.lookup y = some c) : c ∉ frs X.stack := fun z => by
  rcases List.mem_cons.mp (I.stkSub c z) with q | q
  · exact I.cne y c e q
  · obtain ⟨_, o, ho, _⟩ := I.ok.funs.mem q
    have h1 := Heap.lt_size ho
    have h2 := I.ok.cab y c (hfn y) e
    exact Nat.lt_irrefl _ (Nat.lt_of_lt_of_le h1 h2)
theorem tI_callL {K : PySem.W.Frag} {W : WX} {σ : L2.St} {H : Hp} {Q : VK} (h : tI D0 n K CA W (.callL i l caps) σ H Q) : ∃ ρ hm env cs, ERel D0 K CA ρ H env σ ∧ HRel D0.G K ρ hm H ∧ mapO (fun j => (env[j]?).join) caps = some cs ∧ PO D0 K ρ H (fun c d H => W c d σ H) (RlE D0 K CA) (run D0.P n i [.clo l cs] [] hm) fun _ _ _ H' v => Q v H' := by
  obtain ⟨ρ, hm, env, h1, h2, p⟩ := h
  rw [evE_callL] at p
  unfold lamRun at p
  split at p
  · rename_i cs e
    exact ⟨ρ, hm, env, cs, h1, h2, e, p⟩
  · exact p.elim
theorem se_callL {params : Arguments} {body : Expr} {scope : Scope} (C : CxOk n X CA) (hfn : ∀ y, X.fn y = true) (G : GOk D0 n X i x []) (l : Nat) (caps : List Nat) (M : LamMk X D0.G.T (D0.L l)) (hl : D0.L l = ⟨(D0.L l).qual, params, body, scope, (D0.L l).ps, (D0.L l).fr, true⟩)
    (hfr : ∀ y ∈ (D0.L l).fr, (y, NameKind.free) ∈ (D0.L l).scope.names) (hcaps : caps.map (fun j => X.N[j]?) = (D0.L l).fr.map some) (hg : Gl X x := by rfl) (hdb : (x == ("__debug__" : Str)) = false := by decide)
    (he : starEach [.Lambda params body scope lpos] X.env = (false, eval (.Lambda params body scope lpos) X.env) :: starEach [] X.env := by rfl) (hpl : (backTo pos (starEach [] X.env)).any (·.1) = false := by rfl) :
    SE D0 n X CA (.Call (.Name x p) [.Lambda params body scope lpos] [] pos) (.callL i l caps) :=
  ⟨fun W tk => by
    obtain ⟨f, fd, ps, ds, dvs, hm, hk, hb, hd, hdr, hnp, F⟩ := G.ex
    have hdv : dvs = [] := DRels.nil_iff.mp (hdr [] fun _ => none)
    subst hdv
    have eq : (.Lambda params body scope lpos : Expr) = .Lambda (D0.L l).params (D0.L l).body (D0.L l).scope lpos := by rw [hl]
    have pl : PE X (.Lambda params body scope lpos) (tLamI X D0.G.T (D0.L l)) := by rw [eq]; exact pe_lamI M
    refine PE.weak (pe_callI (E := WE W) F C.room hg hm hk hb hd (fun σ => passAt tk σ) (pa_cons pl pa_nil he) hdb he hpl) fun σ H Q h => ?_
    obtain ⟨ρ, hm, env, cs, er, hr, em, p⟩ := tI_callL h
    refine ⟨hr.tabs, fun f c' H1 xt tb nf ef ec pins s I => ?_⟩
    obtain ⟨hr1, f1⟩ := hrel_lam hr xt tb
    obtain ⟨ws, ew, rs⟩ := mapO_caps er em
    have p1 := p.later f1
    have cp : NdefX.Caps X (lamCl X (D0.L l)) (D0.L l).fr caps := NdefX.Caps.made I.ok M.free hfr hcaps
    have cells := NdefX.cells_of I cp
    rw [ew] at cells
    have rel : SVRels D0.L X.K (CAe X.stack s H1) ρ H1 [.clo l cs] [.ref f] := by
      simp only [SVRels, SVRel]
      exact ⟨.ref f, [], rfl, ⟨f, lamCl X (D0.L l), c', ws, rfl, by rw [hl], ef, ec, ⟨cells, fun y c e => cell_nofr hfn I (cp.sub y c e)⟩, rs.fwd f1 fun cl fr ws z => C.ca pins σ H1 s I cl fr ws z⟩, rfl⟩
    obtain ⟨d, m, _, e1, e2, _, _⟩ := run_len p1
    exact ⟨by rw [List.append_nil, ← hnp d e1, ← e2]; rfl, ρ, hm, [.clo l cs], by rw [List.append_nil]; exact rel, hr1, p1.none⟩⟩
end
end AR
end
section
/-! Snd11: functions made on the way, called; defs by their bodies. -/
set_option Elab.async false
set_option linter.all false
set_option maxRecDepth 100000
set_option maxHeartbeats 4000000
namespace AR
open PySem L2 PySem.Spec PyProof.Rows
/-- what a function made on the way promises -/
structure LamP (D0 : Wd) (P : Program) (w : World) (K : PySem.W.Frag) (mg : Str → Option Value) (base : Heap) (k n l : Nat) : Prop where
  run : ∀ (A : Around) (outer : List PySem.Env) (s : Shared) (H : Hp) (f c' : Addr) (cl : List (Str × Addr)) (ws : List V) (caps : List SV) (ρ : List Addr) (hm : Hm) (Q : VK) (E : XK), Room k A → Env0 P w K mg base A outer s H → H f = some (LamO (D0.L l) cl c' f) → H c' = some (LamX.CodeO c' (D0.L l).qual) →
    CAe outer s H cl (D0.L l).fr (ws.map some) → SVRels D0.L K (CAe outer s H) ρ H caps ws → HRel D0.G K ρ hm H → PO D0 K ρ H E (RlE D0 K CAn) (AR.run D0.P n l [] caps hm) (fun _ _ _ H' v => Q v H') →
    codeAny (model P w) A (.call (.ref f) ⟨[], []⟩) (CR (L2.CX P w) outer P w H s Q E) s
theorem lamO_at {P : Program} {w : World} {H : Hp} {h : Heap} {L : LamI} {cl : List (Str × Addr)} {c' f : Addr} (ok : HOk P w H h) (e : H f = some (LamO L cl c' f)) : ∃ pm ctv, h.get? f = some (PySem.W.kla_obj "<lambda>" L.qual L.params L.body L.scope cl pm c' ctv) := by
  obtain ⟨z, _, _⟩ := ok f _ e
  exact z
section
variable {D0 : Wd} {n : Nat} {X : Cx} {CA : CAp} {pos p : Pos} {x : Str} {i : Nat}
theorem tI_callv {K : PySem.W.Frag} {W : WX} {σ : L2.St} {H : Hp} {Q : VK} (h : tI D0 n K CA W (.callv i []) σ H Q) : ∃ ρ hm l caps f cl c' ws, HRel D0.G K ρ hm H ∧ (D0.L l).lam = true ∧ σ[i]? = some (some (V.ref f)) ∧ H f = some (LamO (D0.L l) cl c' f) ∧ H c' = some (LamX.CodeO c' (D0.L l).qual) ∧ CA cl (D0.L l).fr (ws.map some) ∧ SVRels D0.L K CA ρ H caps ws ∧
    PO D0 K ρ H (fun c d H => W c d σ H) (RlE D0 K CA) (run D0.P n l [] caps hm) fun _ _ _ H' v => Q v H' := by
  obtain ⟨ρ, hm, env, h1, h2, p⟩ := h
  rw [evE_callv, evEs_nil] at p
  have p : PO D0 K ρ H (fun c d H => W c d σ H) (RlE D0 K CA) (callC (run D0.P n) (getC env i) [] hm) fun _ _ _ H' v => Q v H' := p
  unfold getC at p
  split at p
  · rename_i f caps e
    obtain ⟨v, ev, r⟩ := h1.at_ i _ e
    simp only [SVRel] at r
    obtain ⟨g, cl, c', ws, rfl, r0, r1, r2, r3, r4⟩ := r
    exact ⟨ρ, hm, f, caps, g, cl, c', ws, h2, r0, ev, r1, r2, r3, r4, p⟩
  · exact p.elim
theorem se_callv (C : CxOk n X CA) (LP : ∀ l, (D0.L l).lam = true → LamP D0 X.prog X.w X.K X.mg X.base (n + 5) n l) (hN : X.N[i]? = some x := by rfl) (hv : Vis X.env.scope x := by first | exact Or.inl rfl | exact Or.inr (Or.inl rfl) | exact Or.inr (Or.inr rfl)) (hd : (x == ("__debug__" : Str)) = false := by decide) (hcd : (x == ("__classdict__" : Str)) = false := by decide) :
    SE D0 n X CA (.Call (.Name x p) [] [] pos) (.callv i []) :=
  ⟨fun W tk => ⟨fun pins s σ H Q I h => by
    obtain ⟨ρ, hm, l, caps, f, cl, c', ws, h1, r0, ev, r1, r2, r3, r4, po⟩ := tI_callv h
    refine wpAny_Call_Name_kw (thn ((pe_var (pos := p) (i := i) hN hv hd hcd).run pins s σ H (fun v H1 => v = .ref f ∧ H1 = H) I ⟨.ref f, ev, rfl, rfl⟩) fun u s1 ⟨v, H1, I1, rv, q1⟩ => ?_)
    obtain ⟨rfl, rfl⟩ := q1
    obtain rfl : u = Value.ref f := rv
    obtain ⟨pm, ctv, at_⟩ := lamO_at I1.hok r1
    refine PySem.W.callWith_F0 ⟨_, _, _, _, at_⟩ ?_
    obtain ⟨d, m, en, e1, e2, e3, _⟩ := run_len po
    have ca := C.ca pins σ H1 s1 I1
    refine wpAny_call (codeAny_mono ((LP l r0).run X.A X.stack s1 H1 f c' cl ws caps ρ hm Q (WE W σ) C.room I1.env0 r1 r2 (ca _ _ _ r3) (r4.fwd (Fwd.refl _ _) ca) h1 po.none) fun r s' hq => ?_)
    cases r with
    | error e => exact passAt tk σ pins H1 s1 e s' I1 hq
    | ok fl =>
      cases fl with
      | ret u => exact I1.after hq
      | next => exact False.elim hq
      | brk => exact False.elim hq
      | cont => exact False.elim hq⟩⟩
end
/-! ### a def by its body -/
theorem startE_S {D0 : Wd} {K : PySem.W.Frag} {CA : CAp} {ρ : List Addr} {H : Hp} : ∀ {xs : List SV} {vs : List V}, SVRels D0.L K CA ρ H xs vs → ∀ m, ERel D0 K CA ρ H (xs.map some ++ List.replicate m none) (vs.map some ++ List.replicate m none) := fun {xs vs} r m => by
  refine ⟨by rw [List.length_append, List.length_append, List.length_map, List.length_map, SVRels.len r]; simp, fun i x e => ?_⟩
  induction xs generalizing vs i with
  | nil =>
    rw [List.map_nil, List.nil_append, List.getElem?_replicate] at e
    split at e <;> cases e
  | cons y ys ih =>
    obtain ⟨v, vs', rfl, r1, r2⟩ := SVRels.cons_iff.mp r
    cases i with
    | zero =>
      simp at e
      subst e
      exact ⟨v, by simp, r1⟩
    | succ i =>
      obtain ⟨u, eu, ru⟩ := ih r2 i (by simpa using e)
      exact ⟨u, by simpa using eu, ru⟩
theorem finish_S {D0 : Wd} {K : PySem.W.Frag} {CA : CAp} {ρ : List Addr} {H : Hp} {E : XK} {Q : VK} {r : RS} (p : PO D0 K ρ H E (RlE D0 K CAn) (finish r) fun _ _ _ H' v => Q v H') : PRS D0 K CA ρ H (fun c d _ H => E c d H) { nx := fun _ H' => Q .non H', rt := Q } r := by
  cases r with
  | nx env h => exact fun ρ' H' σ' f e hr => p ρ' H' .non f hr (SVRel.d_iff.mpr (by simp [DRel]))
  | rt x h =>
    cases x with
    | d x => exact fun ρ' H' v f hr r => p ρ' H' v f hr (SVRel.d_iff.mpr (SVRel.d_iff.mp r))
    | clo _ _ => exact p.elim
  | bk env h => exact p.elim
  | ct env h => exact p.elim
  | exc x env h => exact fun ρ' H' c d σ' f e hr xr => p ρ' H' c d f hr xr
  | stuck => exact p.elim
section
variable {D0 : Wd} {P : Program} {w : World} {K : PySem.W.Frag} {mg : Str → Option Value} {base : Heap} {n i : Nat} {f : Addr} {name qual : Str} {params : Arguments} {body : List Stmt} {scope : Scope} {dV kV doc pm cdv ct oc : Value} {an od : Option Addr} {osl : Array (Option Value)} {N ps : List Str} {irs : List S}
/-- the context of a def's body -/
abbrev Cd (D0 : Wd) (P : Program) (w : World) (K : PySem.W.Frag) (mg : Str → Option Value) (base : Heap) (N : List Str) (qual : Str) (scope : Scope) (f : Addr) (cd : Value) (A : Around) (outer : List PySem.Env) (s : Shared) (H : Hp) (E : XK) : Cx := cxOf (L2.CX P w) P w K mg base N qual scope f cd A outer s H E
theorem fnI_of (lk : K.lookup f = some ⟨oc, od, .func (PySem.W.fnOf name qual params body scope dV kV doc pm an cdv ct), osl⟩) (hcd : PySem.W.codeIn K cdv qual = true) (S : FnScope N ps scope) (hP : D0.P i = some ⟨ps.length, 0, N.length, irs⟩)
    (hbody : ∀ (A : Around) (outer : List PySem.Env) (s : Shared) (H : Hp) (E : XK), CxOk n (Cd D0 P w K mg base N qual scope f cdv A outer s H E) (CAe outer s H) → SSs D0 n (Cd D0 P w K mg base N qual scope f cdv A outer s H E) (CAe outer s H) body irs) :
    FnI P w K mg base (n + 6) f (PySem.W.fnOf name qual params body scope dV kV doc pm an cdv ct) ps (spI D0 K (n + 1) i ps.length) := by
  refine ⟨fun outer s vs H Q E h => h.1, fun A outer s H args us vs Q E hr e0 hb r h => ?_⟩
  obtain ⟨hl, ρ, hm, xs, rs, hrel, po⟩ := h
  refine LamX.run_ofS (k := n + 5) lk hcd S hr e0 hb r hl fun hr2 => ?_
  have ok : CxOk n (Cd D0 P w K mg base N qual scope f cdv A outer s H E) (CAe outer s H) := ⟨rfl, hr2, fun pins σ H' s' I cl fr ws z => cae_later rfl I z⟩
  have tk : Takes (Cd D0 P w K mg base N qual scope f cdv A outer s H E) (fun c d _ H => E c d H) := takes_of (E := E) rfl rfl rfl rfl
  have po2 : PassesOwn (model P w) (Cd D0 P w K mg base N qual scope f cdv A outer s H E).A (Cd D0 P w K mg base N qual scope f cdv A outer s H E).env (Cd D0 P w K mg base N qual scope f cdv A outer s H E).xe := passes_of rfl
  refine ⟨_, (hbody A outer s H E ok).run _ tk po2, ρ, hm, xs.map some ++ List.replicate (N.length - vs.length) none, ?_, hrel, ?_⟩
  · exact startE_S rs (N.length - vs.length)
  · rw [run_succ, hP] at po
    simp only at po
    split at po
    · have q := finish_S (CA := CAe outer s H) po
      unfold startE at q
      rw [List.map_nil, List.append_nil, List.length_nil, Nat.sub_zero, SVRels.len rs] at q
      exact q
    · exact po.elim
/-- the context of the body of a function made on the way -/
abbrev lamNF (L : LamI) (cl : List (Str × Addr)) (c' : Addr) : NdefX.NF := ⟨"<lambda>", L.qual, L.params, [], L.scope, cl, c'⟩
abbrev Cl (P : Program) (w : World) (K : PySem.W.Frag) (mg : Str → Option Value) (base : Heap) (N : List Str) (L : LamI) (cl : List (Str × Addr)) (c' : Addr) (f : Addr) (A : Around) (outer : List PySem.Env) (s : Shared) (H : Hp) (E : XK) : Cx := NdefX.ncx (L2.CX P w) P w K mg base N (lamNF L cl c') f A outer s H E
theorem startL_S {CA : CAp} {ρ : List Addr} {H : Hp} {caps : List SV} {ws : List V} (r : SVRels D0.L K CA ρ H caps ws) (N : List Str) : ERel D0 K CA ρ H (startE N.length [] caps) (NdefX.startF N [] (ws.map some)) := by
  have q := startE_S r (N.length - ws.length)
  unfold startE NdefX.startF
  rw [List.map_nil, List.nil_append, List.map_nil, List.nil_append, List.length_nil, List.length_map, Nat.sub_zero, SVRels.len r]
  exact q
theorem lamP_of {l : Nat} {ie : E} {fr : List Str} (hP : D0.P l = some ⟨0, fr.length, N.length, [.ret ie]⟩) (hfr : (D0.L l).fr = fr) (S : NdefX.NScope N [] fr (D0.L l).scope) (hb : ∀ (pm ctv : Value) (cl : List (Str × Addr)) (c' : Addr), bindArgs (PySem.W.kla_fn "<lambda>" (D0.L l).qual (D0.L l).params (D0.L l).body (D0.L l).scope cl pm (.ref c') ctv) ⟨[], []⟩ = pure [])
    (hbody : ∀ (cl : List (Str × Addr)) (c' f : Addr) (A : Around) (outer : List PySem.Env) (s : Shared) (H : Hp) (E : XK), CxOk n (Cl P w K mg base N (D0.L l) cl c' f A outer s H E) (CAe outer s H) → SE D0 n (Cl P w K mg base N (D0.L l) cl c' f A outer s H E) (CAe outer s H) (D0.L l).body ie) :
    LamP D0 P w K mg base (n + 6) (n + 1) l := by
  refine ⟨fun A outer s H f c' cl ws caps ρ hm Q E hr e0 hf hc ca rs hrel po => ?_⟩
  obtain ⟨pm, ctv, ho⟩ := lamO_at e0.hok hf
  have lim : s.heap.NoLimit := e0.mod.nolimit.keeps fun b o e => (e0.bs b o e).1
  obtain ⟨C, nf⟩ := ca
  rw [hfr] at C
  refine PySem.W.kla_callFunE hr.depth ho rfl S.co S.gen rfl (NdefX.codeO_at e0.hok hc) ?_
  rw [hb pm ctv cl c']
  refine wpAny_pure (wpAny_newFunctionEnv (fun y hy => S.nocell y hy) (fun y hy => absurd hy (by simp)) (fun h₁ hns hsb => ⟨lim.fresh _ hsb, ?_⟩) S.kind)
  show codeAny _ _ (.expr (D0.L l).body (NdefX.envF (lamNF (D0.L l) cl c') f s.heap.objs.size)) _ _
  have kp : ∀ b o, s.heap.get? b = some o → h₁.get? b = some o := fun b o e => hsb.extBut b o (Nat.ne_of_lt (Heap.lt_size e)) (Heap.get?_push_of_some _ e)
  have I : Inv (Cl P w K mg base N (D0.L l) cl c' f A outer s H E) [] (NdefX.startF N [] (ws.map some)) H { s with heap := h₁, toks := s.toks + ([] : List (Str × Value)).length } := NdefX.inv_startN (us := []) S hr.hd e0 rfl .nil C hns kp
  have ok : CxOk n (Cl P w K mg base N (D0.L l) cl c' f A outer s H E) (CAe outer s H) := ⟨rfl, hr.deeper _, fun pins σ H' s' I cl fr ws z => cae_later rfl I z⟩
  have tk : Takes (Cl P w K mg base N (D0.L l) cl c' f A outer s H E) (fun c d _ H => E c d H) := takes_of (E := E) rfl rfl rfl rfl
  have t := (hbody cl c' f A outer s H E ok).run _ tk
  rw [run_succ, hP] at po
  simp only at po
  split at po
  · rename_i hl
    have q := finish_S (CA := CAe outer s H) po
    rw [execs_cons, exec_ret] at q
    have tt : tI D0 n K (CAe outer s H) (fun c d _ H => E c d H) ie (NdefX.startF N [] (ws.map some)) H Q := by
      refine ⟨ρ, hm, startE N.length [] caps, startL_S rs N, hrel, ?_⟩
      cases e : evE (AR.run D0.P n) ie (startE N.length [] caps) hm with
      | ok x h => rw [e] at q; exact fun ρ' H' v f hr r => q ρ' H' v f hr r
      | exc x h => rw [e] at q; exact fun ρ' H' c d f hr xr => q ρ' H' c d _ f ((startL_S rs N).fwd f) hr xr
      | stuck => rw [e] at q; exact q.elim
    refine PySem.W.kla_codeExpr (wpAny_mono (t.run [] _ _ H Q I tt) (fun v s' hq => ?_) fun e s' hq => hq)
    obtain ⟨w', H', J', rv, q⟩ := hq
    exact ⟨w', H', J'.os, J'.bare, J'.base, J'.hok, rv, q⟩
  · exact po.elim
end
end AR
end
section
/-! Snd12: try, with the error kept. -/
set_option Elab.async false
set_option linter.all false
set_option maxRecDepth 100000
set_option maxHeartbeats 4000000
namespace AR
open PySem L2 PySem.Spec PyProof.Rows
theorem errO_ok {P : Program} {w : World} {H : Hp} {h : Heap} {a : Addr} {cls : Value} {d : Option Addr} {oe : Obj} {vs : Array Value} (e : h.get? a = some oe) (z : Zc cls d oe) (q : oe.data = .fields vs) : ObjOk P w H h a (ErrO cls d a) :=
  ⟨⟨oe, vs, e, z, q⟩, ⟨oe, e⟩, fun h1 h2 ⟨o, v, e1, e2, e3⟩ st => ⟨o, v, st _ e1, e2, e3⟩⟩
section
variable {X : Cx} {pins : List (Addr × Obj)} {σ : L2.St} {H : Hp} {s : Shared} {a : Addr}
/-- an object of the heap that was not known before is known from now on -/
theorem inv_track {φ : Heap → Prop} (I : Inv X pins σ H s) (na : H a = none) (new : X.s_0.heap.get? a = none) (nL : a ≠ X.env.locals) (nc : ∀ y c, X.env.cells.lookup y = some c → c ≠ a) (np : ∀ p ∈ X.pn ++ pins, p.1 ≠ a) (ok : ObjOk X.prog X.w (upd H a (.ext φ)) s.heap a (.ext φ)) : Inv X pins σ (upd H a (.ext φ)) s := by
  have old : ∀ {b : Addr} {o : HO}, H b = some o → upd H a (.ext φ) b = some o := fun {b o} e => (upd_ne (ne_of_none e na)).trans e
  have non : ∀ {b : Addr}, b ≠ a → H b = none → upd H a (.ext φ) b = none := fun {b} n e => (upd_ne n).trans e
  refine ⟨I.ok, I.os, I.bare, ⟨I.base.keep, I.base.slot, fun b o e n hx => non (fun z => ?_) (I.base.free b o e n hx), I.base.there, fun b xs e => old (I.base.tups b xs e), fun b o u e => old (I.base.frzs b o u e), fun b ps e => ?_⟩, I.loc, I.cell, non (Ne.symm nL) I.free, fun y c e => non (nc y c e) (I.freeC y c e), fun p hp => ?_, fun b o e => ?_, I.len⟩
  · subst z
    rw [new] at e
    cases e
  · obtain ⟨more, q⟩ := I.base.tbls b ps e
    exact ⟨more, old q⟩
  · obtain ⟨q1, q2, q3⟩ := I.pin p hp
    exact ⟨q1, non (np p hp) q2, q3⟩
  · by_cases hb : b = a
    · subst hb
      rw [upd_same] at e
      cases e
      exact ok
    · rw [upd_ne hb] at e
      exact (I.hok b o e).stay (fun c v _ q => q) (fun c q => old q) fun c xs q => old q
theorem inv_suite (I : Inv X pins σ H s) : Inv (X.suite a (X.pn ++ pins)) [] σ H s :=
  ⟨I.ok.suite a _, I.os, I.bare, I.base, I.loc, I.cell, I.free, I.freeC, fun p hp => I.pin p (by simpa using hp), I.hok, I.len⟩
theorem inv_unsuite {pn : List (Addr × Obj)} (I : Inv (X.suite a (X.pn ++ pins)) pn σ H s) (ok : X.Ok) : Inv X pins σ H s :=
  ⟨ok, I.os, I.bare, I.base, I.loc, I.cell, I.free, I.freeC, fun p hp => I.pin p (List.mem_append_left _ hp), I.hok, I.len⟩
end
/-- what 'except c as n' wishes of an error of the body -/
def wAsT (K : PySem.W.Frag) (c : Value) (i : Nat) (ts : TS) (Wout : WX) (D : Ends) : WX := fun cls d σ H => ∃ b, PySem.W.exmOne K cls c = some b ∧
  (b = true → ∀ a, H a = none → ts { nx := fun σ' H' => D.nx (σ'.set i none) H', rt := D.rt, bk := fun σ' H' => D.bk (σ'.set i none) H', ct := fun σ' H' => D.ct (σ'.set i none) H' } (σ.set i (some (.ref a))) (upd H a (ErrO cls d a))) ∧
  (b = false → Wout cls d σ H)
section
variable {X : Cx} {x n : Str} {c : Value} {i : Nat} {body suite : List Stmt} {b₀ : Stmt} {np pos pos' : Pos} {tb : WX → TS} {ts : TS} {Wout : WX}
theorem ps_tryT (hs : X.stack = X.env :: X.outer) (hf : X.env.frame = some X.env.locals) (hx : X.ex = []) (hN : X.N.Nodup) (hi : X.N[i]? = some n) (hln : X.env.kindOf n = some .local) (hc : Names X x c) (tk : Takes X Wout)
    (hb : ∀ (W : WX) (pn : List (Addr × Obj)) (xe : Value → Shared → Prop), Takes (X.tr pn xe) W → PassesOwn (model X.prog X.w) X.A X.env xe → PSs (X.tr pn xe) body (tb W))
    (hsu : ∀ (a : Addr) (pn : List (Addr × Obj)), PSs (X.suite a pn) (b₀ :: suite) ts) :
    PS X (.Try body [.ExceptHandler (some (.Name x np)) (some n) (b₀ :: suite) pos'] [] [] pos) (fun D σ H => tb (wAsT X.K c i ts Wout D) D σ H) := by
  refine ⟨fun pins s σ H D I hw => ?_⟩
  have okX := I.ok
  have frames : X.A.frames = some (X.env :: X.outer) := okX.frames.trans (congrArg some hs)
  refine wpAny_Try_except ?_
  have Ib := I.toTry (fun e s₁ => wpAny (model X.prog X.w) X.A (noteFrame e X.env) (fun _ s₂ => wpAny (model X.prog X.w) X.A (setFlight e none) (fun _ s₃ => wpAny (model X.prog X.w) X.A (handleBy e X.env [.ExceptHandler (some (.Name x np)) (some n) (b₀ :: suite) pos']) (SP X pins D) X.xe s₃) X.xe s₂) X.xe s₁)
  refine wpAny_mono ((hb (wAsT X.K c i ts Wout D) (X.pn ++ pins) _ (fun u s1 air => ?caught) PassesOwn.looking).run [] s σ H D Ib hw) (fun fl s1 ends => ?ends) (fun e s1 z => z)
  case ends =>
    cases fl with
    | next => obtain ⟨σ2, H2, J, q⟩ := ends; exact wpAny_execs_nil ⟨σ2, H2, J.ofTry okX, q⟩
    | brk => obtain ⟨σ2, H2, J, q⟩ := ends; exact ⟨σ2, H2, J.ofTry okX, q⟩
    | cont => obtain ⟨σ2, H2, J, q⟩ := ends; exact ⟨σ2, H2, J.ofTry okX, q⟩
    | ret u => obtain ⟨v, σ2, H2, J, r, q⟩ := ends; exact ⟨v, σ2, H2, J.ofTry okX, r, q⟩
  case caught =>
    obtain ⟨a, B, sI, pinsB, σ2, H2, cls, d, rfl, J0, nb, up, sky, na, os, ag, b, hb1, yes, no⟩ := air
    have JI : Inv X pins σ2 H2 sI := J0.ofTry okX
    have sky2 : Sky B (X.env :: X.outer) a (Zc cls d) X.env.locals s1.heap := by rw [← hs]; exact sky
    show wpAny (model X.prog X.w) X.A (noteFrame (.ref a) X.env) _ _ _
    refine Sky.land Zc.steady frames hf sky2 fun hL flL upL => ?_
    have JL : Inv X pins σ2 H2 { s1 with heap := hL } := JI.landed nb flL.1 (up.trans upL) os ag
    obtain ⟨oL, vL, eL, zL, dL⟩ := flL.there
    have noB : B.get? a = none := flL.2.1
    have nofr : a ∉ frs (X.env :: X.outer) := fun hm => by
      obtain ⟨_, o', e', hnf⟩ := flL.2.2.1.mem hm
      rw [eL] at e'
      cases e'
      exact hnf _ dL
    have nstk : a ∉ frs X.stack := by rw [hs]; exact nofr
    have nL : a ≠ X.env.locals := fun z => nofr (List.mem_filterMap.mpr ⟨X.env, List.mem_cons_self, by rw [hf, z]⟩)
    have inI : ∀ {b : Addr} {o : Obj}, sI.heap.get? b = some o → b ∉ frs X.stack → b ≠ a := fun {b o} e nf z => by
      have q := nb b o e nf
      rw [z, noB] at q
      cases q
    have new : X.s_0.heap.get? a = none := by
      cases q : X.s_0.heap.get? a with
      | none => rfl
      | some o =>
        obtain ⟨o', q2⟩ := JI.base.there a o q (by rw [hx]; simp)
        exact absurd rfl (inI q2 nstk)
    have npin : ∀ p ∈ X.pn ++ pins, p.1 ≠ a := fun p hp => by
      obtain ⟨q1, _, q3, q4, _⟩ := JI.pin p hp
      refine inI q1 fun z => ?_
      rcases List.mem_cons.mp (JI.stkSub _ z) with y | y
      · exact q3 y
      · exact q4 y
    have ncell : ∀ {h : Heap} {o : Obj} {vs : Array Value} (J : Inv X pins σ2 H2 { s1 with heap := h }), h.get? a = some o → o.data = .fields vs → ∀ y c, X.env.cells.lookup y = some c → c ≠ a := fun {h o vs} J e dd y c hc z => by
      obtain ⟨v, o', e', hd⟩ := J.cell y c hc
      subst z
      have e' : h.get? c = some o' := e'
      rw [e] at e'
      cases e'
      rw [dd] at hd
      cases hd
    refine wpAny_handleBy_cons (codeAny_handlers_test ?_) (by intro q; cases q)
    have LT : PySem.W.Looks (model X.prog X.w) hL (typeOf (.ref a)) cls := fun A Q E s k q => wpAny_typeOf_ref (k _ _ eL) (by rw [zL.1]; exact q)
    have LM := PySem.W.exm_one (M := model X.prog X.w) (JL.kIn) LT hb1
    have SL : Inv (X.suite a (X.pn ++ pins)) [] σ2 H2 { s1 with heap := hL } := inv_suite JL
    have test : ∀ {Q : Value → Shared → Prop} {E : Value → Shared → Prop}, Q c { s1 with heap := hL } → wpAny (model X.prog X.w) (X.A.mark (some (.ref a))) (eval (.Name x np) X.env) Q E { s1 with heap := hL } := fun {Q E} q => by
      obtain ⟨hg, hdbg, hm | ⟨hm, hv, hnn⟩⟩ := hc
      · exact ld_glob (X := X.suite a (X.pn ++ pins)) SL hg hm q hdbg
      · exact ld_blt (X := X.suite a (X.pn ++ pins)) SL hg hm hv q hnn hdbg
    refine test (LM.here ?_)
    cases b with
    | false =>
      show wpAny _ X.A (handleBy (.ref a) X.env []) _ _ _
      refine wpAny_handleBy_nil ?_
      obtain ⟨_, _, _, oe, vs, T, oT, ts', he, _, hd, h1, _⟩ := id flL
      unfold PySem.passOn
      refine wpAny_bind (wpAny_field he hd h1 ?_)
      rw [if_neg (show ¬ ((Value.ref T == Value.none) = true) from by simp)]
      have on : wpAny (model X.prog X.w) X.A (setFlight (.ref a) X.env.frame) (fun _ s4 => wpAny (model X.prog X.w) X.A (throw (.ref a) : Sem Flow) (SP X pins D) X.xe s4) X.xe { s1 with heap := hL } := by
        rw [hf]
        refine HandSPX.setFlight_upZ flL fun h4 hh4 up4 => wpAny_throw (tk _ _ ⟨a, B, sI, pins, σ2, H2, cls, d, rfl, JI, nb, (up.trans upL).trans up4, .inr (.inr (by rw [hs]; exact hh4)), na, os, ag, no rfl⟩)
      first
        | exact wpAny_bind (wpAny_pure (wpAny_bind on))
        | exact wpAny_bind on
    | true =>
      refine codeAny_handlers_suite_as (HandSPX.lands_againZ flL fun h4 fl4 up4 => ?_)
      have J4 : Inv X pins σ2 H2 { s1 with heap := h4 } := JI.landed nb fl4.1 ((up.trans upL).trans up4) os ag
      obtain ⟨o4, v4, e4, z4, d4⟩ := fl4.there
      have JT : Inv X pins σ2 (upd H2 a (ErrO cls d a)) { s1 with heap := h4 } := inv_track J4 na new nL (ncell J4 e4 d4) npin (errO_ok e4 z4 d4)
      have ST : Inv (X.suite a (X.pn ++ pins)) [] σ2 (upd H2 a (ErrO cls d a)) { s1 with heap := h4 } := inv_suite JT
      refine store_ok (X := X.suite a (X.pn ++ pins)) (v := .ref a) ST hN hi (.inl hln) rfl (fun s5 S5 => ?_) (.inr hln)
      refine wpAny_mono ((hsu a (X.pn ++ pins)).run [] s5 _ _ _ S5 (yes rfl a na)) (fun fl s6 ends => ?_) (fun _ _ z => False.elim z)
      have gone : ∀ {σ6 : L2.St} {H6 : Hp} {Q : Shared → Prop}, Inv (X.suite a (X.pn ++ pins)) [] σ6 H6 s6 → (∀ s7, Inv X pins (σ6.set i none) H6 s7 → Q s7) → wpAny (model X.prog X.w) X.A (do bindName X.env n .none; unbindBehindTheSuite X.env n pos') (fun _ s7 => Q s7) X.xe s6 := fun {σ6 H6 Q} S6 hq => gone_ok (inv_unsuite S6 okX) hN hi hln hq
      cases fl with
      | next => obtain ⟨σ6, H6, S6, q6⟩ := ends; exact gone S6 fun s7 J7 => ⟨_, _, J7, q6⟩
      | brk => obtain ⟨σ6, H6, S6, q6⟩ := ends; exact gone S6 fun s7 J7 => ⟨_, _, J7, q6⟩
      | cont => obtain ⟨σ6, H6, S6, q6⟩ := ends; exact gone S6 fun s7 J7 => ⟨_, _, J7, q6⟩
      | ret u => obtain ⟨v6, σ6, H6, S6, r6, q6⟩ := ends; exact gone S6 fun s7 J7 => ⟨_, _, _, J7, r6, q6⟩
end
section
variable {D0 : Wd} {n : Nat} {X : Cx} {CA : CAp} {x nm : Str} {c : Value} {i : Nat} {body suite : List Stmt} {b₀ : Stmt} {np pos pos' : Pos} {ib isu : List S} {cs : List (Nat × Bool)}
theorem tryEnd_S {K : PySem.W.Frag} {ρ : List Addr} {H : Hp} {W : WX} {D : Ends} {r : RS} (p : PRS D0 K CA ρ H W D (tryEnd i r)) : PRS D0 K CA ρ H (fun _ _ _ _ => False) { nx := fun σ' H' => D.nx (σ'.set i none) H', rt := D.rt, bk := fun σ' H' => D.bk (σ'.set i none) H', ct := fun σ' H' => D.ct (σ'.set i none) H' } r := by
  cases r with
  | nx e h => exact fun ρ' H' σ' f er hr => p ρ' H' _ f (er.clear i) hr
  | bk e h => exact fun ρ' H' σ' f er hr => p ρ' H' _ f (er.clear i) hr
  | ct e h => exact fun ρ' H' σ' f er hr => p ρ' H' _ f (er.clear i) hr
  | rt v h => exact p
  | exc x e h => exact p.elim
  | stuck => exact p.elim
theorem ss_try (C : CxOk n X CA) (hca : CA = CAx X) (hs : X.stack = X.env :: X.outer) (hf : X.env.frame = some X.env.locals) (hx : X.ex = []) (hN : X.N.Nodup) (i : Nat) (hc : Names X x c) (hcs : ∀ ci b, cs.lookup ci = some b → PySem.W.exmOne X.K (.ref (D0.G.cls ci)) c = some b)
    (hb : ∀ (pn : List (Addr × Obj)) (xe : Value → Shared → Prop), CxOk n (X.tr pn xe) CA → SSs D0 n (X.tr pn xe) CA body ib) (hsu : ∀ (a : Addr) (pn : List (Addr × Obj)), SSs D0 n (X.suite a pn) CA (b₀ :: suite) isu) (hi : X.N[i]? = some nm := by rfl) (hln : X.env.kindOf nm = some .local := by rfl) :
    SS D0 n X CA (.Try body [.ExceptHandler (some (.Name x np)) (some nm) (b₀ :: suite) pos'] [] [] pos) (.try ib cs i isu) := ⟨fun W tk po => by
  refine PS.weak (ps_tryT (tb := fun W => tISs D0 n X.K CA W ib) (ts := tISs D0 n X.K CA (fun _ _ _ _ => False) isu) hs hf hx hN hi hln hc tk (fun W pn xe tk2 po2 => (hb pn xe ⟨C.calm, C.room, fun pins σ H s I cl fr ws z => ?_⟩).run W tk2 po2) (fun a pn => (hsu a pn).run _ LamX.takes0 ?_)) fun D σ H ⟨ρ, hm, env, er, hr, p⟩ => ?_
  · subst hca
    exact cae_later (X := X.tr pn xe) hx I z
  · exact PassesOwn.never
  · rw [exec_try] at p
    refine ⟨ρ, hm, env, er, hr, ?_⟩
    cases e : execs (AR.run D0.P n) ib env hm with
    | nx e h => rw [e] at p; exact p
    | bk e h => rw [e] at p; exact p
    | ct e h => rw [e] at p; exact p
    | rt v h => rw [e] at p; exact p
    | stuck => rw [e] at p; exact p
    | exc xn env2 hm2 =>
      rw [e] at p
      unfold tryRun at p
      simp only at p
      intro ρ' H' cls dd σ' f er2 hr2 xr
      split at p
      · rename_i el
        refine ⟨true, by rw [xr.1]; exact hcs _ _ el, fun _ a na => ?_, (fun z => by cases z)⟩
        obtain ⟨hr3, f3, ea⟩ := hr2.new (o := .exc xn.cls xn.fs) (u := ErrO cls dd a) na fun f3 => ⟨dd, by rw [← xr.1]; exact upd_same, (xr.fwd f3).2⟩
        exact ⟨_, _, _, (er2.fwd f3).set i (SVRel.d_iff.mpr (mk_ref ea)), hr3, tryEnd_S (p.later (f.trans f3))⟩
      · rename_i el
        exact ⟨false, by rw [xr.1]; exact hcs _ _ el, (fun z => by cases z), fun _ => p ρ' H' cls dd σ' f er2 hr2 xr⟩
      · exact p.elim⟩
end
end AR
end
section
/-! Snd13: errors as values; raise. -/
set_option Elab.async false
set_option linter.all false
set_option maxRecDepth 100000
set_option maxHeartbeats 4000000
namespace AR
open PySem L2 PySem.Spec PyProof.Rows
theorem kitx_err {K : PySem.W.Frag} {x D : Addr} {ox : Obj} {od : Option Obj} (C : ExcC K D) : PySem.W.KitX K (.ref x) (.ref D) (fun h => PySem.W.InstAt h x ox D od) := by
  obtain ⟨cd, hcd, _⟩ := PySem.W.any_some C.hd
  have at_ : ∃ oc od' sl, K.lookup D = some ⟨oc, od', .cls cd, sl⟩ := by
    unfold PySem.W.clsIn at hcd
    split at hcd
    · rename_i c' d' cd' sl' ho
      cases hcd
      exact ⟨_, _, _, ho⟩
    · cases hcd
  obtain ⟨oc, od', sl, ho⟩ := at_
  refine ⟨fun _ _ _ I => I.type, fun _ _ kin _ => ?_, fun h tp dd its n sl2 kin htp => ?_, fun kin I k => ?_⟩
  · intro A' Q' E' s' k q
    unfold isType loadHead
    exact wpAny_bind (wpAny_loadPart (k _ _ (kin _ _ ho)) (wpAny_pure q))
  · refine Bool.eq_false_iff.mpr fun q => ?_
    have e : D = tp := Value.ref.inj (beq_iff_eq.mp q)
    subst e
    have z := (kin _ _ ho).symm.trans htp
    cases z
  · exact PySem.W.kx_classE kin I C.hg C.hk C.hs (PySem.W.findObj_dataE (by rw [hcd] <;> rfl) C.ha C.hn C.ht) C.hm k
theorem err_inst {P : Program} {w : World} {H : Hp} {h : Heap} {a D : Addr} {d : Option Addr} (ok : HOk P w H h) (e : H a = some (ErrO (.ref D) d a)) (hd : d = none ∨ ∃ dd fs, d = some dd ∧ H dd = some (.xd fs)) : ∃ oe od, PySem.W.InstAt h a oe D od := by
  obtain ⟨⟨oe, vs, e1, z, e2⟩, _, _⟩ := ok a _ e
  have nc : PySem.W.notCls oe = true := by unfold PySem.W.notCls; rw [e2] <;> rfl
  rcases hd with rfl | ⟨dd, fs, rfl, ed⟩
  · exact ⟨oe, none, e1, z.1, nc, by rw [z.2]; trivial⟩
  · obtain ⟨mA, hns, hr⟩ := (show ObjOk P w H h dd (.xd fs) from ok dd _ ed)
    obtain ⟨od, ho, _⟩ := lookIn_ns hns
    exact ⟨oe, some od, e1, z.1, nc, by rw [z.2]; exact ho⟩
/-- isinstance(an error, a class of errors) -/
def rIsEr (K : PySem.W.Frag) : List V → Hp → VK → Prop := fun xs H Q => ∃ (a D C : Addr) (d : Option Addr) (b : Bool), xs = [.ref a, .ref C] ∧ H a = some (ErrO (.ref D) d a) ∧ (d = none ∨ ∃ dd fs, d = some dd ∧ H dd = some (.xd fs)) ∧ ExcC K D ∧ PySem.W.kitOne K (.ref D) (.ref C) = some b ∧ Q (.bl b) H
theorem call_isEr {X : Cx} : CallR X (.builtin "isinstance") (rIsEr X.K) := by
  intro pins s σ H xs us Q I r h
  obtain ⟨a, D, C, d, b, rfl, ea, hd, T, e, q⟩ := h
  obtain ⟨u1, u2, rfl, r1, r2⟩ := vals2 r
  cases (show u1 = Value.ref a from r1)
  cases (show u2 = Value.ref C from r2)
  obtain ⟨oe, od, J⟩ := err_inst I.hok ea hd
  exact PySem.W.kia_one (kitx_err T) I.kIn J e (fun z => nomatch z) fun tk => ⟨.bl b, H, I.tok tk, rfl, q⟩
section
variable {D0 : Wd} {n : Nat} {X : Cx} {CA : CAp} {e : Expr} {ie : E} {pos p p2 : Pos} {x f : Str} {C : Addr} {cs : List (Nat × Bool)} {cl : List Nat}
theorem exc_at {K : PySem.W.Frag} {ρ : List Addr} {hm : Hm} {H : Hp} {m c : Nat} {fs : List (Str × D)} {v : V} (h : HRel D0.G K ρ hm H) (r : DRel K ρ H (.ref m) v) (e : hm[m]? = some (.exc c fs)) : ∃ a d, v = .ref a ∧ H a = some (ErrO (.ref (D0.G.cls c)) d a) ∧ (fs = [] ∧ d = none ∨ ∃ dd vs, d = some dd ∧ H dd = some (.xd vs) ∧ Paired (fun (p : Str × D) (q : Str × V) => p.1 = q.1 ∧ DRel K ρ H p.2 q.2) fs vs) := by
  obtain ⟨a, ea, rfl⟩ := dr_ref r
  obtain ⟨d, e1, e2⟩ := h.at_ m _ a e ea
  exact ⟨a, d, rfl, e1, e2⟩
theorem se_isEr (ha : SE D0 n X CA e ie) (hm : X.mg "isinstance" = none) (hC : X.mg x = some (.ref C)) (cs : List (Nat × Bool)) (hcs : ∀ ci b, cs.lookup ci = some b → ExcC X.K (D0.G.cls ci) ∧ PySem.W.kitOne X.K (.ref (D0.G.cls ci)) (.ref C) = some b) (hg : Gl X "isinstance" := by rfl) (hg2 : Gl X x := by rfl) (hd : (x == ("__debug__" : Str)) = false := by decide)
    (hst : StB X e (.Name x p2) := by rfl) (hst2 : StA X (.Name x p2) := by rfl) (hpl : Pl X pos [.Name x p2] := by rfl) : SE D0 n X CA (.Call (.Name "isinstance" p) [e, .Name x p2] [] pos) (.op (.isErr cs) [ie]) :=
  ⟨fun W tk => PE.weak (pe_callB call_isEr hg hm PyProof.Rows.boot_isinstance (pa_cons (ha.run W tk) (pa_cons (pe_glob (v := .ref C) hg2 hC rfl hd) pa_nil hst2) hst) (by decide) (by decide) hst hpl) fun σ H Q h => tI_mono (tI_op1 h) fun v H1 ⟨ρ1, hm1, d, h1, h2, q⟩ => by
    simp only [op, a1] at q
    obtain ⟨b, eb, q2⟩ := PostD.asB (b := true) q h1
    unfold isErrD at eb
    split at eb
    · rename_i m
      split at eb
      · rename_i c fs hx
        obtain ⟨a, d, rfl, e1, e2⟩ := exc_at h1 h2 hx
        obtain ⟨t1, t2⟩ := hcs c b eb
        exact ⟨a, D0.G.cls c, C, d, b, rfl, e1, e2.elim (fun z => .inl z.2) (fun ⟨dd, vs, z1, z2, _⟩ => .inr ⟨dd, vs, z1, z2⟩), t1, t2, q2⟩
      · cases eb
    · cases eb⟩
theorem lookup_P {K : PySem.W.Frag} {ρ : List Addr} {H : Hp} {f : Str} {d : D} : ∀ {fs : List (Str × D)} {vs : List (Str × V)}, Paired (fun (p : Str × D) (q : Str × V) => p.1 = q.1 ∧ DRel K ρ H p.2 q.2) fs vs → fs.lookup f = some d → ∃ v, vs.lookup f = some v ∧ DRel K ρ H d v
  | _, _, .nil, e => by cases e
  | (g, d') :: fs, (g', v') :: vs, .cons r t, e => by
    obtain ⟨r1, r2⟩ := r
    simp only at r1 r2
    subst r1
    rw [List.lookup_cons] at e ⊢
    cases hb : f == g with
    | true => rw [hb] at e; cases e; exact ⟨v', rfl, r2⟩
    | false => rw [hb] at e; exact lookup_P t e
theorem se_fld (he : SE D0 n X CA e ie) (cl : List Nat) (hcl : ∀ ci ∈ cl, XfC X.K (D0.G.cls ci) ∧ PySem.W.findIn X.K (.ref (D0.G.cls ci)) f = some none) (hb : attributeBase e f X.env (eval e X.env) = eval e X.env := by rfl) : SE D0 n X CA (.Attribute e f pos) (.op (.fld f cl) [ie]) :=
  ⟨fun W tk => ⟨fun pins s σ H Q I h => by
    refine attr_of hb (thn ((he.run W tk).run pins s σ H _ I (tI_op1 h)) fun u s1 ⟨v, H1, I1, rx, ρ1, hm1, d, h1, h2, q⟩ => ?_)
    simp only [op, a1] at q
    unfold dFld at q
    split at q
    · rename_i m
      split at q
      · rename_i c fs hx
        obtain ⟨a, d, rfl, e1, e2⟩ := exc_at h1 h2 hx
        obtain rfl : u = Value.ref a := rx
        split at q
        · rename_i hcc
          obtain ⟨T, hno⟩ := hcl c (List.contains_iff_mem.mp hcc)
          rcases e2 with ⟨rfl, rfl⟩ | ⟨dd, vs, rfl, ed, pr⟩
          · exact q.elim
          · cases ef : fs.lookup f with
            | none => rw [ef] at q; exact q.elim
            | some z =>
              rw [ef] at q
              obtain ⟨zv, l, rz⟩ := lookup_P pr ef
              obtain ⟨⟨oe, ws, g1, g2, g3⟩, _, _⟩ := I1.hok a _ e1
              obtain ⟨mA, hns, hr⟩ := (show ObjOk X.prog X.w H1 s1.heap dd (.xd vs) from I1.hok dd _ ed)
              obtain ⟨od, ho, hl⟩ := lookIn_ns hns
              obtain ⟨u2, hu, ru⟩ := RelO.some_of (v := zv) (o := mA f) (by rw [← l]; exact hr f)
              have J : PySem.W.InstAt s1.heap a oe (D0.G.cls c) (some od) := ⟨g1, g2.1, by unfold PySem.W.notCls; rw [g3] <;> rfl, by rw [g2.2]; exact ho⟩
              exact HandSPX.exc_get I1.kIn J T.ga T.gg T.exC (PySem.W.findObj_own T.hdC hno rfl (by rw [hl, hu])) (handed_of ru) ⟨zv, H1, I1.tok _, ru, PostD.here q h1 rz⟩
        · exact q.elim
      · exact q.elim
    · exact q.elim⟩⟩
end
end AR
end
section
/-! Snd14: own errors whose __init__ says super().__init__(text), then keeps one field. -/
set_option Elab.async false
set_option linter.all false
set_option maxRecDepth 100000
set_option maxHeartbeats 4000000
namespace AR
open PySem L2 PySem.Spec PyProof.Rows
/-- the body of such an __init__ -/
abbrev initBody (f : Str) (p0 p1 p2 p3 p4 p5 p6 p7 p8 p9 : Pos) : List Stmt :=
  [.Expr (.Call (.Attribute (.Call (.Name "super" p0) [] [] p1) "__init__" p2) [.Name "text" p3] [] p4) p5, .Assign [.Attribute (.Name "self" p6) f p7] (.Name f p8) p9]
/-- what is written of such a class -/
structure InitC (P : Program) (K : PySem.W.Frag) (C fI cc cda : Addr) (f : Str) (qual : Str) (scope : Scope) : Prop where
  code : ∃ ccl cdd vs ccs file tf, K.lookup cda = some ⟨ccl, cdd, .fields vs, ccs⟩ ∧ vs[2]? = some (.str file tf) ∧ ((P.main.file : Str) == file) = true
  cell : ∃ cl cld csl, K.lookup cc = some ⟨cl, cld, .cell (some (.ref C)), csl⟩
  cls : ∃ cd, PySem.W.clsIn K C = some cd ∧ PySem.W.alongIn K "__init__" ((cd.mro.dropWhile (· != .ref C)).drop 1) = some (some (.builtin "ValueError.__init__")) ∧ PySem.HandSPX.refsVE cd.mro = true ∧ cd.hasDict = true
  sub : PySem.W.mroIn K C (.ref C) = some true
  sup : PySem.W.nsIn K mainGlobals "super" = some none
  opq : PySem.W.nsIn K cStatics "thirdparty.any" = some none
  isV : PySem.W.subIn K (.ref C) (.type "ValueError") = some true
  exI : PySem.W.excInitIn K C PySem.PX.veTail "ValueError.__new__" = true
  oex : OexC K C
  nof : PySem.W.findIn K (.ref C) f = some none
  cdI : PySem.W.codeIn K (.ref cda) qual = true
  sk : scope.kind = .function
  sco : scope.isCoroutine = false
  sgen : scope.isGenerator = false
  snc : ∀ x ∈ scope.names, x.2 ≠ .cell
  s1 : scope.names.lookup ("super" : Str) = some .globalImplicit
  s2 : scope.names.lookup ("__class__" : Str) = some .free
  s3 : scope.names.lookup ("self" : Str) = some .local
  s4 : scope.names.lookup ("text" : Str) = some .local
  s5 : scope.names.lookup f = some .local
  ne1 : f ≠ "self"
  ne2 : f ≠ "text"
  nd : (f == ("__debug__" : Str)) = false
  ncd : (f == ("__classdict__" : Str)) = false
  top : (P.main.scope.names.lookup ("super" : Str)).isSome = false
/-- what it promises -/
def spInit (K : PySem.W.Frag) (C : Addr) (f : Str) : Sp := fun vs H Q _ => ∃ a v1 v2, vs = [.ref a, v1, v2] ∧ H a = some (exo a C none) ∧ ∀ dx, H dx = none → dx ≠ a → Q .non (upd (upd H dx (exd dx [(f, v2)])) a (exo a C (some dx)))
/-- the end of the making, in the heap -/
theorem init_heap {P : Program} {w : World} {H : Hp} {h h' : Heap} {a dx C t1 : Addr} {f : Str} {v : V} {u : Value} {fs : List Addr} (ok : HOk P w H h) (ea : H a = some (exo a C none)) (k : ∀ b o, b ≠ a → h.get? b = some o → h'.get? b = some o) (dn : h.objs.size ≤ dx)
    (hx : h'.get? a = some ({ cls := .ref C, dict := some dx, data := .fields #[.ref t1, .none, .none, .none, .bool false, .none] } : Obj)) (hn : h'.Ns1 dx (fun y => if y = f then some u else none)) (r : RelV v u) :
    H dx = none ∧ dx ≠ a ∧ Un fs [] H (upd (upd H dx (exd dx [(f, v)])) a (exo a C (some dx))) h h' ∧ HOk P w (upd (upd H dx (exd dx [(f, v)])) a (exo a C (some dx))) h' := by
  have nd : H dx = none := ok.fresh dn
  have na : ∀ {b : Addr}, H b = none → b ≠ a := fun {b} n z => by
    subst z
    rw [ea] at n
    cases n
  have ndx : ∀ {b : Addr} {o : Obj}, h.get? b = some o → b ≠ dx := fun {b o} q => Nat.ne_of_lt (Nat.lt_of_lt_of_le (Heap.lt_size q) dn)
  have get : ∀ {b : Addr} {o : HO}, H b = some o → exo a C none ≠ o → upd (upd H dx (exd dx [(f, v)])) a (exo a C (some dx)) b = some o := fun {b o} e n => by
    rw [upd_ne (at_ne ea e n), upd_ne (ne_of_none e nd)]
    exact e
  refine ⟨nd, na nd, ⟨fun b o q n _ _ => k b o (na n) q, fun b o q n _ _ => ⟨o.slots, k b o (na n) q⟩, fun b o q n _ => ?_, fun b o q _ => ?_, fun b xs q => get q exo_tup, fun b o v q => get q exo_frz, fun b ps q => ⟨#[], by rw [get q exo_tbl]; simp⟩⟩, fun b o q => ?_⟩
  · rw [upd_ne (na n), upd_ne (ndx q)]
    exact n
  · by_cases hb : b = a
    · exact ⟨_, by rw [hb]; exact hx⟩
    · exact ⟨o, k b o hb q⟩
  · by_cases hb : b = a
    · subst hb
      rw [upd_same] at q
      cases q
      exact exo_ok hx
    · rw [upd_ne hb] at q
      by_cases hd : b = dx
      · subst hd
        rw [upd_same] at q
        cases q
        exact exd_ok hn (relO_put (fs := []) r fun g => True.intro)
      · rw [upd_ne hd] at q
        exact (ok b o q).stay (fun c v hc z => k c v (by
            rcases hc with hc | hc
            · rw [hc]; exact hb
            · exact at_ne ea hc exo_own) z)
          (fun c hc => get hc exo_own) (fun c xs hc => get hc exo_tup)
section
variable {P : Program} {w : World} {K : PySem.W.Frag} {mg : Str → Option Value} {base : Heap} {C fI cc cda : Addr} {f qual name : Str} {params : Arguments} {scope : Scope} {dV kV doc pm ct oc : Value} {an od : Option Addr} {osl : Array (Option Value)} {p0 p1 p2 p3 p4 p5 p6 p7 p8 p9 : Pos} {k : Nat} {CX : CXT}
abbrev supE (p0 p1 p2 p3 p4 : Pos) : Expr := .Call (.Attribute (.Call (.Name "super" p0) [] [] p1) "__init__" p2) [.Name "text" p3] [] p4
def SupEq (env : PySem.Env) (p0 p1 p2 p3 p4 : Pos) : Prop := eval (supE p0 p1 p2 p3 p4) env = (do
  let ov ← attributeBase (.Call (.Name "super" p0) [] [] p1) "__init__" env (eval (.Call (.Name "super" p0) [] [] p1) env)
  standAt p2.atName
  let (f, first) ← holding [ov] (getMethod ov "__init__" (plainOf (.Call (.Name "super" p0) [] [] p1) env))
  callWith p4 f first (backTo p4 (starEach [.Name "text" p3] env)) [])
theorem super_call {A : Around} {E : Value → Shared → Prop} {body : List Stmt} {h : Heap} {g : Array GenState} {d : Drawn} {tk : Nat} {os : OsState} {L a t0 : Addr} {m : Str → Option Value} {u2 : Value} (T : InitC P K C fI cc cda f qual scope) (X : K.In h) (G : h.Ns mainGlobals mg) (mb : Str → Option Value) (B : h.Ns builtinsNs mb) (hB : mb "super" = some (.type "super"))
    {fd : FuncData} (lk : K.lookup fI = some ⟨oc, od, .func fd, osl⟩) (hp : ∃ ar, (fd.params.posonlyargs ++ fd.params.args).head? = some ar ∧ ar.arg = ("self" : Str))
    (hns : h.Ns L m) (hself : m "self" = some (.ref a)) (hc : SupEq (PySem.W.envX qual scope L fI (.ref cda) [("__class__", cc)]) p0 p1 p2 p3 p4) (htext : m "text" = some u2) (ha : h.get? a = some (PySem.HandSPX.excO C t0)) :
    PySem.wpAt (model P w) A (.func body (PySem.W.envX qual scope L fI (.ref cda) [("__class__", cc)])) (eval (supE p0 p1 p2 p3 p4) (PySem.W.envX qual scope L fI (.ref cda) [("__class__", cc)]))
      (fun _ s' => ∃ h2 tk2 t1, s' = ⟨h2, g, d, tk2, os⟩ ∧ (∀ b o, b ≠ a → h.get? b = some o → h2.get? b = some o) ∧ h2.get? a = some (PySem.HandSPX.excO C t1)) E ⟨h, g, d, tk, os⟩ := by
  obtain ⟨ccl, cdd, vs, ccs, file, tf, lkc, hvs, hfile⟩ := T.code
  obtain ⟨cl, cld, csl, lkcell⟩ := T.cell
  obtain ⟨cdt, hcd, along, _, _⟩ := T.cls
  obtain ⟨ar, har, ear⟩ := hp
  obtain ⟨oD, hD1, hD2⟩ : ∃ oD, h.get? C = some oD ∧ oD.data = .cls cdt := by
    unfold PySem.W.clsIn at hcd
    split at hcd
    · rename_i c d' cd' sl ho
      cases hcd
      exact ⟨_, X _ _ ho, rfl⟩
    · cases hcd
  have naC : a ≠ C := fun z => by
    subst z
    rw [ha] at hD1
    cases hD1
    cases hD2
  refine PySem.ks_wpAt_MethodCall (pl := plainOf (.Call (.Name "super" p0) [] [] p1) (PySem.W.envX qual scope L fI (.ref cda) [("__class__", cc)])) ?_ ?_
  case refine_2 => exact hc
  refine PySem.ks_wpAt_super_base (env := PySem.W.envX qual scope L fI (.ref cda) [("__class__", cc)]) T.s1 T.s2 (by decide) rfl (X _ _ lk) rfl har rfl (X _ _ lkc) rfl hvs hfile T.top ?_
  refine PySem.W.ks_loadName_global T.sk T.s1 (Calls.loadGlobal_builtin G (PySem.W.mg_none_of X G T.sup) B hB ⟨rfl, ?_⟩)
  refine wpAny_loadName_free T.sk T.s2 rfl ⟨_, X _ _ lkcell, rfl⟩ ?_
  rw [ear]
  refine wpAny_loadName_local T.sk T.s3 hns hself ?_
  refine PySem.ks_wpAny_isType_cls hD1 hD2 ⟨rfl, ?_⟩
  refine PySem.ks_wpAny_call_super hD1 hD2 ha rfl (fun c z => by cases z) (PySem.W.looks_mroIn X T.sub) (fun h2 e2 k2 => ?_)
  have X2 := X.keeps k2
  have I2 : PySem.W.InstAt h2 a (PySem.HandSPX.excO C t0) C none := ⟨k2 _ _ ha, rfl, rfl, trivial⟩
  refine PySem.W.kxs_getMethod PySem.W.kxs_ValueError e2 (PySem.W.looks_opaque X2 T.opq) (l₀ := cdt.mro) (fun A Q E s k q => wpAny_bind ((PySem.W.looks_clsIn X2 hcd) A _ E s k (wpAny_pure q))) rfl X2 along (I2.type.andThen (PySem.W.looks_subIn X2 T.isV)) naC (by decide) ?_
  obtain ⟨nm, N', qn, bs, bm, hdct, sn, sub, ab, col, dd, k0, k1, k2', k3, k5, hC, hT⟩ := PySem.W.excInit_of X2 T.exI
  have sz2 : h.objs.size < h2.objs.size := Heap.lt_size e2
  refine PySem.W.kxs_callWith (i := "ValueError.__init__") (x := a) rfl (Calls.evalArgs_plain ?_)
  have k3' : ∀ b o, h.get? b = some o → (h2.push (PySem.W.kxs_mw "ValueError.__init__" a)).get? b = some o := fun b o e => Heap.get?_push_of_some _ (k2 b o e)
  have ns3 : (h2.push (PySem.W.kxs_mw "ValueError.__init__" a)).Ns L m := hns.at fun o e => k3' _ _ e
  refine Calls.spliced_cons (wpAny_Name (wpAny_loadName_local T.sk T.s4 ns3 htext (Calls.spliced_nil ?_)) (by decide))
  have hu : (h2.push (PySem.W.kxs_mw "ValueError.__init__" a)).get? h2.objs.size = some (PySem.W.kxs_mw "ValueError.__init__" a) := Heap.get?_push_size _ rfl
  have he : (h2.push (PySem.W.kxs_mw "ValueError.__init__" a)).get? a = some (PySem.HandSPX.excO C t0) := k3' _ _ ha
  refine ⟨hu, wpAny_call (codeAny_of_tree ?_)⟩
  show wpAny _ A.in1 (callAny (.ref h2.objs.size) ⟨[u2], []⟩) _ _ _
  simp only [callAny]
  refine wpAny_bind (wpAny_load hu ?_)
  simp only [PySem.W.kxs_mw, show (Value.type "method-wrapper" == Value.type "method" || Value.type "method-wrapper" == Value.type "builtin_function_or_method" || Value.type "method-wrapper" == Value.type "method-wrapper") = true by decide, if_true]
  refine PySem.W.KFB.if_so (by decide) ?_
  refine wpAny_bind (PySem.W.check_bound_init PySem.F.excBase_ValueError.toExcCallFacts (Heap.get?_push_of_some _ hC) he rfl ?_)
  refine wpAny_bind (wpAny_pure (wpAny_pure ?_))
  refine ⟨plainId_quiet PySem.F.excBase_ValueError.init.plain _, codeAny_builtin PySem.F.excBase_ValueError.initEntry ?_⟩
  refine PySem.W.exc_init_tree (cls := .ref C) (t0 := t0) (dv := none) (c2 := .none) (b4 := .bool false) he (by show 1 ≤ sizeLine; rw [sizeLine_eq]; omega) fun h5 k5 e5 _ => ?_
  exact ⟨h5, _, _, rfl, fun b o nb e => k5 b o nb (k3' b o e), e5⟩
theorem init_ok (T : InitC P K C fI cc cda f qual scope) (lk : K.lookup fI = some ⟨oc, od, .func (PySem.W.fnX name qual params (initBody f p0 p1 p2 p3 p4 p5 p6 p7 p8 p9) scope [("__class__", cc)] dV kV doc pm an (.ref cda) ct), osl⟩)
    (hp : ∃ ar, (params.posonlyargs ++ params.args).head? = some ar ∧ ar.arg = ("self" : Str)) (hc : ∀ L, SupEq (PySem.W.envX qual scope L fI (.ref cda) [("__class__", cc)]) p0 p1 p2 p3 p4)
    (hs1 : ∀ L, swapsWith (supE p0 p1 p2 p3 p4) none p5.line (PySem.W.envX qual scope L fI (.ref cda) [("__class__", cc)]) = pure false) (hs2 : ∀ L, swapsWith (.Name f p8) (some (.Attribute (.Name "self" p6) f p7)) p9.line (PySem.W.envX qual scope L fI (.ref cda) [("__class__", cc)]) = pure false) :
    FnOk P w K mg base CX (k + 1) fI (PySem.W.fnX name qual params (initBody f p0 p1 p2 p3 p4 p5 p6 p7 p8 p9) scope [("__class__", cc)] dV kV doc pm an (.ref cda) ct) ["self", "text", f] (spInit K C f) := by
  refine ⟨fun vs H Q E h => by obtain ⟨a, v1, v2, rfl, _⟩ := h; rfl, fun A outer s H args us vs Q E hr e0 hb r h => ?_⟩
  obtain ⟨a, v1, v2, rfl, ea, hQ⟩ := h
  obtain ⟨u1, u2, u3, rfl, r1, r2, r3⟩ : ∃ u1 u2 u3, us = [u1, u2, u3] ∧ RelV (.ref a) u1 ∧ RelV v1 u2 ∧ RelV v2 u3 := by
    cases r with
    | cons ra rr => cases rr with
      | cons rb rr => cases rr with
        | cons rc rr => cases rr; exact ⟨_, _, _, rfl, ra, rb, rc⟩
  obtain rfl : u1 = Value.ref a := r1
  have KX : K.In s.heap := e0.mod.kin.keeps fun b o e => (e0.bs b o e).1
  have bk : ∀ b o, base.get? b = some o → s.heap.get? b = some o := fun b o e => (e0.bs b o e).1
  have lim : s.heap.NoLimit := e0.mod.nolimit.keeps bk
  obtain ⟨t0, ho⟩ := exo_at e0.hok ea
  obtain ⟨hp0, g, d, tk, os⟩ := s
  refine codeAny_call_function hr.depth (KX _ _ lk) rfl T.sco T.sgen rfl (PySem.W.codeRec_of KX T.cdI) (hb _ _ _ _ ?_)
  refine wpAny_newFunctionEnv T.snc (fun x hx => ?_) (fun h₁ hns hsb => ⟨lim.fresh _ hsb, ?_⟩) T.sk
  · have hx : x ∈ [(("self" : Str), Value.ref a), ("text", u2), (f, u3)] := hx
    simp only [List.mem_cons, List.not_mem_nil, or_false] at hx
    rcases hx with rfl | rfl | rfl
    · exact T.s3
    · exact T.s4
    · exact T.s5
  have kp : ∀ b o, hp0.get? b = some o → h₁.get? b = some o := fun b o e => hsb.extBut b o (Nat.ne_of_lt (Heap.lt_size e)) (Heap.get?_push_of_some _ e)
  have nL : ∀ {b : Addr} {o : Obj}, hp0.get? b = some o → b ≠ hp0.objs.size := fun e => Nat.ne_of_lt (Heap.lt_size e)
  have nLa : a ≠ hp0.objs.size := nL ho
  have bind : ∀ y, (([(("self" : Str), Value.ref a), ("text", u2), (f, u3)] : List (Str × Value)).reverse).lookup y = if y = f then some u3 else if y = ("text" : Str) then some u2 else if y = ("self" : Str) then some (.ref a) else none := fun y => by
    show ([(f, u3), (("text" : Str), u2), (("self" : Str), Value.ref a)] : List (Str × Value)).lookup y = _
    rw [List.lookup_cons]
    by_cases h1 : y = f
    · subst h1; simp
    · have e1 : (y == f) = false := by simpa using h1
      rw [e1, if_neg h1]
      show List.lookup y [(("text" : Str), u2), (("self" : Str), Value.ref a)] = _
      rw [List.lookup_cons]
      by_cases h2 : y = ("text" : Str)
      · subst h2; simp
      · have e2 : (y == ("text" : Str)) = false := by simpa using h2
        rw [e2, if_neg h2]
        show List.lookup y [(("self" : Str), Value.ref a)] = _
        rw [List.lookup_cons]
        by_cases h3 : y = ("self" : Str)
        · subst h3; simp
        · have e3 : (y == ("self" : Str)) = false := by simpa using h3
          rw [e3, if_neg h3] <;> rfl
  have bself : ([(("self" : Str), Value.ref a), ("text", u2), (f, u3)] : List (Str × Value)).reverse.lookup ("self" : Str) = some (Value.ref a) := by rw [bind, if_neg (Ne.symm T.ne1), if_neg (by decide), if_pos rfl]
  have btext : ([(("self" : Str), Value.ref a), ("text", u2), (f, u3)] : List (Str × Value)).reverse.lookup ("text" : Str) = some u2 := by rw [bind, if_neg (Ne.symm T.ne2), if_pos rfl]
  have bfld : ([(("self" : Str), Value.ref a), ("text", u2), (f, u3)] : List (Str × Value)).reverse.lookup f = some u3 := by rw [bind, if_pos rfl]
  have X1 : K.In h₁ := KX.keeps kp
  obtain ⟨mb, hb1, hb2⟩ := e0.mod.blt
  refine PySem.ks_codeAny_funcAt ?_
  have quiet : interactive (PySem.W.envX qual scope hp0.objs.size fI (.ref cda) [("__class__", cc)]) = false := by simp [interactive, T.sk]
  have first := super_call (P := P) (w := w) (mg := mg) (qual := qual) (A := A.deeper (PySem.W.envX qual scope hp0.objs.size fI (.ref cda) [("__class__", cc)])) (E := fun e s' => wpAny (model P w) (A.deeper (PySem.W.envX qual scope hp0.objs.size fI (.ref cda) [("__class__", cc)])) (leaving (PySem.W.envX qual scope hp0.objs.size fI (.ref cda) [("__class__", cc)]) e) (fun _ s'' => CR CX outer P w H ⟨hp0, g, d, tk, os⟩ Q E (.error e) s'') (fun e' s'' => CR CX outer P w H ⟨hp0, g, d, tk, os⟩ Q E (.error e') s'') s')
    (body := initBody f p0 p1 p2 p3 p4 p5 p6 p7 p8 p9) (g := g) (d := d) (tk := tk + 3) (os := os) T X1 ((e0.mod.glob.keeps bk).keeps kp) mb ((hb1.keeps bk).keeps kp) ((hb2 _ (by decide)).trans PyProof.Rows.Boot.super) lk hp hns bself (hc _) btext (kp _ _ ho)
  refine PySem.ks_wpAt_execs_cons (PySem.ks_wpAt_Expr_any (PySem.ks_wpAt_mono first (fun _ s' hh => ?_) fun _ _ z => z) quiet (hs1 _))
  obtain ⟨h2, tk2, t1, rfl, k2, e2⟩ := hh
  have ns2 : h2.Ns hp0.objs.size _ := hns.at fun o e => k2 _ _ (Ne.symm nLa) e
  have X2 : K.In h2 := fun b o e => k2 b o (fun z => by
    subst z
    have q := (e0.bs b o (e0.mod.kin b o e)).2
    rw [ea] at q
    cases q) (X1 b o e)
  refine PySem.ks_wpAt_execs_cons (PySem.ks_wpAt_Assign_Attr (PySem.wpAt_of_wpAny (wpAny_Name (wpAny_loadName_local T.sk T.s5 ns2 bfld ?_) T.nd)) (hs2 _))
  refine wpAny_Name (wpAny_loadName_local T.sk T.s3 ns2 bself ?_) (by decide)
  obtain ⟨cdt, hcd, _, hve, hdct⟩ := T.cls
  refine PySem.W.set_plain X2 (ox := PySem.HandSPX.excO C t1) (od := none) ⟨e2, rfl, rfl, trivial⟩ T.oex.sa ?_
  refine PySem.HandSPX.exc_osa X2 e2 hcd hve hdct T.nof (fun h5 tk5 dx k5 dn dne hx hn => ?_)
  refine PySem.wpAt_of_wpAny (wpAny_execs_nil ?_)
  have sz : hp0.objs.size ≤ dx := Nat.le_trans (Nat.le_of_lt ns2.lt) dn
  obtain ⟨q1, q2, q3, q4⟩ := init_heap (fs := frs outer) e0.hok ea (fun b o nb e => k5 b o nb (k2 b o nb (kp b o e))) sz hx hn r3
  exact ⟨.non, _, rfl, e0.bare, q3, q4, rfl, hQ dx q1 q2⟩
end
end AR
end
section
/-! Snd15: raise. -/
set_option Elab.async false
set_option linter.all false
set_option maxRecDepth 100000
set_option maxHeartbeats 4000000
namespace AR
open PySem L2 PySem.Spec PyProof.Rows
/-- what is written of a class of errors without an own __init__ -/
structure ExcF (K : PySem.W.Frag) (mg : Str → Option Value) (x : Str) (C : Addr) : Prop where
  q : PySem.W.excIn K C He.veBase "ValueError.__new__" = true
  kp : PySem.W.keepIn K (.ref C) = true
  exC : PySem.W.subIn K (.ref C) (.type "BaseException") = some true
  tyC : PySem.W.typeIn K (.ref C) = some (.type "type")
  at_ : mg x = some (.ref C)
/-- .. with one that keeps the field f -/
structure ExcG (P : Program) (w : World) (K : PySem.W.Frag) (mg : Str → Option Value) (base : Heap) (x : Str) (C : Addr) (f : Str) : Prop where
  ex : ∃ fI fd, PySem.W.findIn K (.ref C) "__init__" = some (some (.ref fI)) ∧ PySem.W.typeIn K (.ref fI) = some (.type "function") ∧ Binds K fd ["self", "text", f] [] ∧ FnOk P w K mg base (L2.CX P w) 1 fI fd ["self", "text", f] (spInit K C f)
  oex : OexC K C
  at_ : mg x = some (.ref C)
section
variable {D0 : Wd} {n : Nat} {X : Cx} {CA : CAp} {x m f : Str} {C : Addr} {c j : Nat} {p p2 pos pos' : Pos} {e e2 : Expr} {ie ie2 : E}
theorem ss_raise0 (hc : X.calm = true) (c : Nat) (F : ExcF X.K X.mg x (D0.G.cls c)) (hg : Gl X x := by rfl) (hdb : (x == ("__debug__" : Str)) = false := by decide) : SS D0 n X CA (.Raise (some (.Call (.Name x p) [.Constant (.str m) j p2] [] pos')) none pos) (.raise c none [.c (.str m)]) :=
  ⟨fun W tk _ => PS.weak (ps_raise hc tk (pmk_own PySem.F.excBase_ValueError F.q F.at_ F.kp (raises_own F.exC F.tyC) hg hdb)) fun D σ H ⟨ρ, hm, env, h1, h2, p⟩ => by
    have p : PRS D0 X.K CA ρ H W D (.exc ⟨c, []⟩ env hm) := p
    exact p ρ H _ none σ (Fwd.refl _ _) h1 h2 ⟨rfl, .inl ⟨rfl, rfl⟩⟩⟩
theorem upd_del {H1 : Hp} {a d : Addr} {o1 o2 o3 : HO} {u : HO} (na : H1 a = none) (hd : d ≠ a) : upd (L2.del (upd (upd H1 d o1) a o2) a) d u = upd H1 d u := by
  funext b
  by_cases h1 : b = d
  · subst h1; rw [upd_same, upd_same]
  · rw [upd_ne h1, upd_ne h1]
    by_cases h2 : b = a
    · subst h2; rw [del_same, na]
    · rw [del_ne h2, upd_ne h2, upd_ne h1]
theorem ss_raise1 (C0 : CxOk n X CA) (c : Nat) (f : Str) (F : ExcG X.prog X.w X.K X.mg X.base x (D0.G.cls c) f) (he : SE D0 n X CA e ie) (he2 : SE D0 n X CA e2 ie2) (hg : Gl X x := by rfl) (hdb : (x == ("__debug__" : Str)) = false := by decide)
    (st1 : starEach [e, e2] X.env = (false, eval e X.env) :: starEach [e2] X.env := by rfl) (st2 : starEach [e2] X.env = (false, eval e2 X.env) :: starEach [] X.env := by rfl) (hpl : (backTo pos' (starEach [e2] X.env)).any (·.1) = false := by rfl) :
    SS D0 n X CA (.Raise (some (.Call (.Name x p) [e, e2] [] pos')) none pos) (.raise c (some f) [ie, ie2]) :=
  ⟨fun W tk _ => by
    obtain ⟨fI, fd, i1, i2, hb, F1⟩ := F.ex
    have r2 : Room (1 + 1) X.A := C0.room.mono (by omega)
    refine PS.weak (ps_raise C0.calm tk (pmk_oex (dvs := []) (ds := []) F.oex i1 i2 F1 r2 hb .nil (passes_call tk fun _ _ _ _ z => z.elim) hg F.at_ (pa_cons (he.run W tk) (pa_cons (he2.run W tk) pa_nil st2) st1) hdb st1 hpl)) fun D σ H ⟨ρ, hm, env, h1, h2, p⟩ => ?_
    rw [exec_raise] at p
    have q : tIs D0 n X.K CA W [ie, ie2] σ H fun vs H1 => ∃ ρ1 hm1 xs, ERel D0 X.K CA ρ1 H1 env σ ∧ HRel D0.G X.K ρ1 hm1 H1 ∧ SVRels D0.L X.K CA ρ1 H1 xs vs ∧ PRS D0 X.K CA ρ1 H1 W D (raiseRun c (some f) env xs hm1) :=
      tIs_of h1 h2 (PRS.st h1 p) fun xs hm1 ρ1 H1 vs f1 hr r q => ⟨ρ1, hm1, xs, h1.fwd f1, hr, r, q⟩
    refine tI_mono (tIs_cons q) fun v1 H1 q => tI_mono (tIs_cons q) fun v2 H2 q => ?_
    obtain ⟨ρ1, hm1, xs, er, hr, rs, pr⟩ := tIs_nil q
    refine ⟨by show 2 ≤ 1000; omega, fun a na => ⟨a, v1, v2, rfl, upd_same, fun dx ndx hne => ⟨rfl, dx, [(f, v2)], upd_same, ?_, ?_, ?_⟩⟩⟩
    · rw [upd_ne hne, upd_same]
    · rw [upd_ne hne] at ndx
      exact ndx
    · rw [upd_ne hne] at ndx
      have eq : upd (L2.del (upd (upd (upd H2 a (exo a (D0.G.cls c) none)) dx (exd dx [(f, v2)])) a (exo a (D0.G.cls c) (some dx))) a) dx (.xd [(f, v2)]) = upd H2 dx (.xd [(f, v2)]) := by
        funext b
        by_cases h1 : b = dx
        · subst h1; rw [upd_same, upd_same]
        · rw [upd_ne h1, upd_ne h1]
          by_cases h2 : b = a
          · subst h2; rw [del_same, na]
          · rw [del_ne h2, upd_ne h2, upd_ne h1, upd_ne h2]
      rw [eq]
      obtain ⟨hr3, f3⟩ := hr.aside (o := .xd [(f, v2)]) ndx
      unfold raiseRun at pr
      split at pr
      · exact pr.elim
      · rename_i ds eds
        have rs := allD_s eds rs
        cases ds with
        | nil => have := DRels.nil_iff.mp rs; cases this
        | cons d1 ds =>
          obtain ⟨w1, ws, e1, r1, rs⟩ := DRels.cons_iff.mp rs
          cases e1
          cases ds with
          | nil => have := DRels.nil_iff.mp rs; cases this
          | cons d2 ds =>
            obtain ⟨w2, ws, e1, r2', rs⟩ := DRels.cons_iff.mp rs
            cases e1
            cases ds with
            | cons d3 ds => obtain ⟨_, _, e1, _⟩ := DRels.cons_iff.mp rs; cases e1
            | nil => exact pr ρ1 _ _ (some dx) σ f3 (er.fwd f3) hr3 ⟨rfl, .inr ⟨dx, [(f, v2)], rfl, upd_same, .cons ⟨rfl, r2'.fwd f3⟩ .nil⟩⟩⟩
end
end AR
end
section
/-! Snd16: displays of dicts, lists held against the empty one, walks backwards. -/
set_option Elab.async false
set_option linter.all false
set_option maxRecDepth 100000
set_option maxHeartbeats 4000000
namespace AR
open PySem L2 PySem.Spec PyProof.Rows
/-! ### x == [], x != [] -/
def rNil (neg : Bool) : R2 := fun x y H Q => ∃ a b xs, x = .ref a ∧ y = .ref b ∧ H a = some (.lst xs) ∧ H b = some (.lst []) ∧ Q (.bl (if neg then !xs.isEmpty else xs.isEmpty)) H
theorem op_eqNil {X : Cx} (hu : X.A.units + 64 < cLine) : OpR X (compareOp .Eq) (rNil false) := fun pins s σ H x y v u Q I rx ry h => by
  obtain ⟨a, b, xs, rfl, rfl, ha, hb, q⟩ := h
  cases xs with
  | nil => exact op_eqD hu pins s σ H _ _ v u Q I rx ry ⟨.list [], .list [], .lst (SqL.of ha) .nil, .lst (SqL.of hb) .nil, rfl, rfl, q⟩
  | cons z zs =>
    obtain rfl : v = Value.ref a := rx
    obtain rfl : u = Value.ref b := ry
    obtain ⟨i1, r1, p1, _⟩ := I.list (SqL.of ha)
    obtain ⟨i2, r2, p2, _⟩ := I.list (SqL.of hb)
    cases r2
    cases r1
    exact SeqAt.RcAt.lists_lengths p1.isList p2.isList (by simp) (by omega) _ _ _ _ ⟨.bl false, H, I, rfl, q⟩
theorem op_neNil {X : Cx} (hu : X.A.units + 64 < cLine) : OpR X (compareOp .NotEq) (rNil true) := fun pins s σ H x y v u Q I rx ry h => by
  obtain ⟨a, b, xs, rfl, rfl, ha, hb, q⟩ := h
  cases xs with
  | nil => exact op_neD hu pins s σ H _ _ v u Q I rx ry ⟨.list [], .list [], .lst (SqL.of ha) .nil, .lst (SqL.of hb) .nil, rfl, rfl, q⟩
  | cons z zs =>
    obtain rfl : v = Value.ref a := rx
    obtain rfl : u = Value.ref b := ry
    obtain ⟨i1, r1, p1, _⟩ := I.list (SqL.of ha)
    obtain ⟨i2, r2, p2, _⟩ := I.list (SqL.of hb)
    cases r2
    cases r1
    exact SeqAt.RcNeAt.lists_lengths p1.isList p2.isList (by simp) (by omega) _ _ _ _ ⟨.bl true, H, I, rfl, q⟩
section
variable {D0 : Wd} {n : Nat} {X : Cx} {CA : CAp} {a : Expr} {ia : E} {p pos : Pos}
theorem nil_S {K : PySem.W.Frag} {ρ : List Addr} {hm : Hm} {H : Hp} {d : D} {x : V} {Q : VK} {neg : Bool} {b : Addr} (h : HRel D0.G K ρ hm H) (r : DRel K ρ H d x) (nb : H b = none) (q : PostD D0.G K ρ H (asB hm (if neg then (nilD hm d).map (!·) else nilD hm d)) Q) : rNil neg x (.ref b) (upd H b (.lst [])) Q := by
  obtain ⟨h', f⟩ := h.aside (o := .lst []) nb
  obtain ⟨t, e, q2⟩ := PostD.asB (b := true) (q.later f) h'
  have key : ∃ m xs, d = .ref m ∧ hm[m]? = some (.lst xs) ∧ t = if neg then !xs.isEmpty else xs.isEmpty := by
    cases d with
    | ref m =>
      simp only [nilD] at e
      cases hx : hm[m]? with
      | none => rw [hx] at e; cases neg <;> cases e
      | some o =>
        rw [hx] at e
        cases o with
        | lst xs => refine ⟨m, xs, rfl, hx, ?_⟩; cases neg <;> (simp at e; simp [e])
        | rol _ => cases neg <;> cases e
        | dct _ => cases neg <;> cases e
        | exc _ _ => cases neg <;> cases e
    | non => cases neg <;> cases e
    | bl _ => cases neg <;> cases e
    | int _ => cases neg <;> cases e
    | str _ => cases neg <;> cases e
    | tup _ => cases neg <;> cases e
  obtain ⟨m, xs, rfl, hx, et⟩ := key
  obtain ⟨g, eg, rfl⟩ := dr_ref (r.fwd f)
  obtain ⟨vs, hv, rs⟩ := at_lst h' hx eg
  refine ⟨g, b, vs, rfl, rfl, hv, upd_same, ?_⟩
  rw [et] at q2
  have : vs.isEmpty = xs.isEmpty := by
    have := rs.len
    cases xs <;> cases vs <;> simp_all
  rw [this]
  exact q2
theorem se_neNil (hu : X.A.units + 64 < cLine) (ha : SE D0 n X CA a ia) (hm : behindInMarks .NotEq (.List [] p) = false := by rfl) : SE D0 n X CA (.Compare a [.NotEq] [.List [] p] pos) (.op .neNil [ia]) :=
  ⟨fun W tk => PE.weak (pe_cmpR (op_neNil hu) (ha.run W tk) (pe_lst pa_nil) hm) fun σ H Q h => tI_mono (tI_op1 h) fun v H1 ⟨ρ1, hm1, d, h1, h2, q⟩ => ⟨by show 0 ≤ sizeLine; omega, fun b nb => nil_S (neg := true) h1 h2 nb q⟩⟩
theorem st_neNil (hu : X.A.units + 64 < cLine) (ha : SE D0 n X CA a ia) (hm : behindInMarks .NotEq (.List [] p) = false := by rfl) : ST D0 n X CA (.Compare a [.NotEq] [.List [] p] pos) (.op .neNil [ia]) :=
  ⟨fun W tk => PT.weak (pt_cmpR (op_neNil hu) (ha.run W tk) (pe_lst pa_nil) hm) fun σ H Q h => tI_mono (tI_op1 (tI_b h)) fun v H1 ⟨ρ1, hm1, d, h1, h2, q⟩ => ⟨by show 0 ≤ sizeLine; omega, fun b nb => nil_S (neg := true) h1 h2 nb q⟩⟩
theorem se_eqNil (hu : X.A.units + 64 < cLine) (ha : SE D0 n X CA a ia) (hm : behindInMarks .Eq (.List [] p) = false := by rfl) : SE D0 n X CA (.Compare a [.Eq] [.List [] p] pos) (.op .eqNil [ia]) :=
  ⟨fun W tk => PE.weak (pe_cmpR (op_eqNil hu) (ha.run W tk) (pe_lst pa_nil) hm) fun σ H Q h => tI_mono (tI_op1 h) fun v H1 ⟨ρ1, hm1, d, h1, h2, q⟩ => ⟨by show 0 ≤ sizeLine; omega, fun b nb => nil_S (neg := false) h1 h2 nb q⟩⟩
theorem st_eqNil (hu : X.A.units + 64 < cLine) (ha : SE D0 n X CA a ia) (hm : behindInMarks .Eq (.List [] p) = false := by rfl) : ST D0 n X CA (.Compare a [.Eq] [.List [] p] pos) (.op .eqNil [ia]) :=
  ⟨fun W tk => PT.weak (pt_cmpR (op_eqNil hu) (ha.run W tk) (pe_lst pa_nil) hm) fun σ H Q h => tI_mono (tI_op1 (tI_b h)) fun v H1 ⟨ρ1, hm1, d, h1, h2, q⟩ => ⟨by show 0 ≤ sizeLine; omega, fun b nb => nil_S (neg := false) h1 h2 nb q⟩⟩
/-! ### displays of dicts -/
inductive SPs (D0 : Wd) (n : Nat) (X : Cx) (CA : CAp) : List (Option Expr) → List Expr → List Key → List E → Prop
  | nil : SPs D0 n X CA [] [] [] []
  | cons {k v : Expr} {ks : List (Option Expr)} {vs : List Expr} {key : Key} {kys : List Key} {iv : E} {ivs : List E} (hk : PE X k (tC (kV key))) (hv : SE D0 n X CA v iv) (hr : SPs D0 n X CA ks vs kys ivs) : SPs D0 n X CA (some k :: ks) (v :: vs) (key :: kys) (iv :: ivs)
def trsOf (D0 : Wd) (n : Nat) (K : PySem.W.Frag) (CA : CAp) (W : WX) : List Key → List E → List (TE × TE)
  | k :: ks, e :: es => (tC (kV k), tI D0 n K CA W e) :: trsOf D0 n K CA W ks es
  | _, _ => []
theorem SPs.pps {W : WX} (tk : Takes X W) : ∀ {keys : List (Option Expr)} {vals : List Expr} {ks : List Key} {es : List E}, SPs D0 n X CA keys vals ks es → PPs X pos keys vals (trsOf D0 n X.K CA W ks es)
  | _, _, _, _, .nil => pps_nil
  | _, _, _, _, .cons hk hv hr => pps_cons hk (hv.run W tk) (SPs.pps tk hr)
theorem pairs_S {K : PySem.W.Frag} {W : WX} {σ : L2.St} : ∀ {ks : List Key} {es : List E} {H : Hp} {Q : List V → Hp → Prop} {R : List (V × V) → Hp → Prop}, ks.length = es.length → (∀ vs H', vs.length = ks.length → Q vs H' → R ((ks.zip vs).map fun kv => (kV kv.1, kv.2)) H') → tIs D0 n K CA W es σ H Q → tPairs (trsOf D0 n K CA W ks es) σ H R
  | [], [], H, Q, R, _, m, h => m [] H rfl (tIs_nil h)
  | k :: ks, e :: es, H, Q, R, hl, m, h => by
    show tC (kV k) σ H _
    refine tI_mono (tIs_cons h) fun v H1 q => ?_
    exact pairs_S (by simpa using hl) (fun vs H' l z => m (v :: vs) H' (by simpa using l) z) q
  | [], _ :: _, _, _, _, hl, _, _ => by cases hl
  | _ :: _, [], _, _, _, hl, _, _ => by cases hl
theorem krel_zip {K : PySem.W.Frag} {ρ : List Addr} {H : Hp} : ∀ {ks : List Key} {ds : List D} {vs : List V}, DRels K ρ H ds vs → KRel K ρ H (zipK ks ds) (ks.zip vs)
  | [], _, _, _ => .nil
  | _ :: _, [], vs, h => by rw [DRels.nil_iff.mp h]; exact .nil
  | k :: ks, d :: ds, vs, h => by
    obtain ⟨v, vs', rfl, r1, r2⟩ := DRels.cons_iff.mp h
    exact .cons ⟨rfl, r1⟩ (krel_zip r2)
theorem se_dict {keys : List (Option Expr)} {vals : List Expr} {ks : List Key} {es : List E} (h : SPs D0 n X CA keys vals ks es) (hall : keys.all (·.isSome) = true := by rfl) (hl : keys.length = vals.length := by rfl) (h0 : keys ≠ [] := by simp) (h15 : keys.length ≤ 15 := by decide) (hk : ks.length = es.length := by rfl) : SE D0 n X CA (.Dict keys vals pos) (.dict ks es) :=
  ⟨fun W tk => PE.weak (pe_disp (SPs.pps tk h) hall hl h0 h15) fun σ H Q ⟨ρ, hm, env, h1, h2, q⟩ => by
    intro p np
    rw [evE_dict] at q
    obtain ⟨hn1, hn2, hn3⟩ := h2.new (o := .dct []) (u := .dK []) np fun f => ⟨[], upd_same, .nil⟩
    have q2 : tIs D0 n X.K CA W es σ (upd H p (.dK [])) fun vs H1 => ∃ ρ1 hm1 ds, Fwd (ρ ++ [p]) (upd H p (.dK [])) ρ1 H1 ∧ HRel D0.G X.K ρ1 hm1 H1 ∧ DRels X.K ρ1 H1 ds vs ∧ hm1[hm.length]? = some (.dct []) ∧ ks.length = ds.length ∧ ks.length ≤ 15 ∧ PostD D0.G X.K ρ1 H1 (.ok (.ref hm.length) (hm1.set hm.length (.dct (mergeD [] (zipK ks ds))))) Q := by
      refine tIs_of (h1.fwd hn2) hn1 (PO.bind (q.later hn2)) fun xs hm1 ρ1 H1 vs f hr r z => ?_
      unfold dictRun at z
      split at z
      · exact z.elim
      · rename_i ds e
        split at z
        · rename_i ex
          split at z
          · rename_i hz
            exact ⟨ρ1, hm1, ds, f, hr, allD_s e r, ex, hz.1, hz.2, PO.toSV (CA := CA) (r := .ok (.ref hm.length) (hm1.set hm.length (.dct (mergeD [] (zipK ks ds))))) z⟩
          · exact z.elim
        · exact z.elim
    refine pairs_S hk (fun vs H1 lv ⟨ρ1, hm1, ds, f, hr, rs, ex, l1, l2, z⟩ => ?_) q2
    have ea := f.pre _ _ hn3
    obtain ⟨us, hu, ru⟩ := hr.at_ _ _ _ ex ea
    cases ru
    obtain ⟨h3, f3⟩ := hr.put (o' := .dct (mergeD [] (zipK ks ds))) (u := .dK (mergeK [] (ks.zip vs))) ex ea rfl (fun f3 => ⟨_, upd_same, KRel.fwd f3 (KRel.merge (krel_zip rs) .nil)⟩) rfl
    exact ⟨hu, ks.zip vs, rfl, by rw [List.length_zip, lv, Nat.min_self]; exact l2, z.later f3 |>.here h3 (mk_ref ea)⟩⟩
end
end AR
end
section
/-! Snd17: levels; what the head tells. -/
set_option Elab.async false
set_option linter.all false
set_option maxRecDepth 100000
set_option maxHeartbeats 4000000
namespace AR
open PySem L2 PySem.Spec PyProof.Rows
/-! ### levels -/
abbrev GP (D0 : Wd) (P : Program) (w : World) (K : PySem.W.Frag) (mg : Str → Option Value) (base : Heap) (n i : Nat) (x : Str) (dv : List D) : Prop := ∃ (f : Addr) (fd : FuncData) (ps : List Str) (ds : List Value) (dvs : List V), mg x = some (.ref f) ∧ PySem.W.keepIn K (.ref f) = true ∧ Binds K fd ps ds ∧ Vals dvs ds ∧ (∀ ρ H, DRels K ρ H dv dvs) ∧ (∀ d, D0.P i = some d → d.np = ps.length) ∧ FnI P w K mg base (n + 5) f fd ps (spI D0 K n i ps.length)
abbrev GPK (D0 : Wd) (P : Program) (w : World) (K : PySem.W.Frag) (mg : Str → Option Value) (base : Heap) (n i : Nat) (x : Str) (ks : List Str) : Prop := ∃ (f : Addr) (fd : FuncData), mg x = some (.ref f) ∧ PySem.W.keepIn K (.ref f) = true ∧ (∀ (s : Shared) (ws : List Value), K.In s.heap → ws.length = ks.length → BindsTo s fd ⟨[], ks.zip ws⟩ (ks.zip ws)) ∧ (∀ d, D0.P i = some d → d.np = ks.length) ∧ FnI P w K mg base (n + 5) f fd ks (spI D0 K n i ks.length)
structure Lv (D0 : Wd) (nm : Nat → Option Str) (kw : Nat → Option (Str × List Str)) (P : Program) (w : World) (K : PySem.W.Frag) (mg : Str → Option Value) (base : Heap) (n : Nat) : Prop where
  g : ∀ i x, nm i = some x → GP D0 P w K mg base n i x []
  l : ∀ l, (D0.L l).lam = true → LamP D0 P w K mg base (n + 5) n l
  k : ∀ i x ks, kw i = some (x, ks) → GPK D0 P w K mg base n i x ks
section
variable {D0 : Wd} {P : Program} {w : World} {K : PySem.W.Frag} {mg : Str → Option Value} {base : Heap} {n i : Nat} {f : Addr} {fd : FuncData} {x qual : Str} {params : Arguments} {body : List Stmt} {scope : Scope} {N ps : List Str} {irs : List S} {p : Str × Option Str}
theorem fnI_zero {k : Nat} : FnI P w K mg base k f fd ps (spI D0 K 0 i ps.length) := ⟨fun outer s vs H Q E h => h.1, fun A outer s H args us vs Q E hr e0 hb r h => by
  obtain ⟨_, ρ, hm, xs, _, _, po⟩ := h
  exact po.elim⟩
theorem lamP_zero {k l : Nat} : LamP D0 P w K mg base k 0 l := ⟨fun A outer s H f c' cl ws caps ρ hm Q E _ _ _ _ _ _ _ po => po.elim⟩
/-- what is told of a def, whatever the level is -/
structure DefF (D0 : Wd) (K : PySem.W.Frag) (mg : Str → Option Value) (i : Nat) (x qual : Str) (params : Arguments) (body : List Stmt) (scope : Scope) (N ps : List Str) (irs : List S) (p : Str × Option Str) : Prop where
  fn : ∃ fd, FunD K x qual params body scope [] [] (He.fAd K p) fd
  at_ : mg x = some (.ref (He.fAd K p))
  sc : FnScope N ps scope
  ir : D0.P i = some ⟨ps.length, 0, N.length, irs⟩
  bn : ∀ (kV doc pm : Value) (an : Option Addr) (cdv ct : Value) (us : List Value), us.length = ps.length → bindArgs (PySem.W.fnOf x qual params body scope .none kV doc pm an cdv ct) ⟨us, []⟩ = pure (ps.zip us)
theorem DefF.gp {F : FnI P w K mg base (n + 5) (He.fAd K p) fd ps (spI D0 K n i ps.length)} (T : DefF D0 K mg i x qual params body scope N ps irs p) (Fd : FunD K x qual params body scope [] [] (He.fAd K p) fd) : GP D0 P w K mg base n i x [] :=
  ⟨He.fAd K p, fd, ps, [], [], T.at_, Fd.kp, Fd.bindsN T.bn, .nil, fun _ _ => DRels.nil, fun d e => by rw [T.ir] at e; cases e; rfl, F⟩
theorem DefF.zero (T : DefF D0 K mg i x qual params body scope N ps irs p) : GP D0 P w K mg base 0 i x [] := by
  obtain ⟨fd, F⟩ := T.fn
  exact T.gp (F := fnI_zero) F
theorem DefF.step (T : DefF D0 K mg i x qual params body scope N ps irs p)
    (hbody : ∀ (A : Around) (outer : List PySem.Env) (s : Shared) (H : Hp) (E : XK), CxOk n (Cd D0 P w K mg base N qual scope (He.fAd K p) (.ref (He.cT K p).1) A outer s H E) (CAe outer s H) → SSs D0 n (Cd D0 P w K mg base N qual scope (He.fAd K p) (.ref (He.cT K p).1) A outer s H E) (CAe outer s H) body irs) : GP D0 P w K mg base (n + 1) i x [] := by
  obtain ⟨fd, F⟩ := T.fn
  obtain ⟨oc, od, dV, kV, doc, pm, an, cdv, ct, osl, rfl, lk, hcd, _, _⟩ := id F.ex
  obtain ⟨c, rfl⟩ := He.codeIn_ref hcd
  have ec : (He.cT K p).1 = c := He.codeOf_eq lk rfl
  rw [ec] at hbody
  exact T.gp (F := fnI_of lk hcd T.sc T.ir hbody) F
abbrev BnK (x qual : Str) (params : Arguments) (body : List Stmt) (scope : Scope) (ps : List Str) : Prop := ∀ (kV doc pm : Value) (an : Option Addr) (cdv ct : Value) (ws : List Value), ws.length = ps.length → bindArgs (PySem.W.fnOf x qual params body scope .none kV doc pm an cdv ct) ⟨[], ps.zip ws⟩ = pure (ps.zip ws)
theorem DefF.gpk {F : FnI P w K mg base (n + 5) (He.fAd K p) fd ps (spI D0 K n i ps.length)} (T : DefF D0 K mg i x qual params body scope N ps irs p) (Fd : FunD K x qual params body scope [] [] (He.fAd K p) fd) (kb : BnK x qual params body scope ps) : GPK D0 P w K mg base n i x ps := by
  refine ⟨He.fAd K p, fd, T.at_, Fd.kp, fun s ws kin hl => ?_, fun d e => by rw [T.ir] at e; cases e; rfl, F⟩
  obtain ⟨oc, od, dV, kV, doc, pm, an, cdv, ct, osl, rfl, lk, hcd, hD, _⟩ := Fd.ex
  rcases hD with ⟨_, rfl⟩ | ⟨e, _⟩
  · exact .of_eq (kb kV doc pm an cdv ct ws hl)
  · exact absurd rfl e
theorem DefF.zeroK (T : DefF D0 K mg i x qual params body scope N ps irs p) (kb : BnK x qual params body scope ps) : GPK D0 P w K mg base 0 i x ps := by
  obtain ⟨fd, F⟩ := T.fn
  exact T.gpk (F := fnI_zero) F kb
theorem DefF.stepK (T : DefF D0 K mg i x qual params body scope N ps irs p) (kb : BnK x qual params body scope ps)
    (hbody : ∀ (A : Around) (outer : List PySem.Env) (s : Shared) (H : Hp) (E : XK), CxOk n (Cd D0 P w K mg base N qual scope (He.fAd K p) (.ref (He.cT K p).1) A outer s H E) (CAe outer s H) → SSs D0 n (Cd D0 P w K mg base N qual scope (He.fAd K p) (.ref (He.cT K p).1) A outer s H E) (CAe outer s H) body irs) : GPK D0 P w K mg base (n + 1) i x ps := by
  obtain ⟨fd, F⟩ := T.fn
  obtain ⟨oc, od, dV, kV, doc, pm, an, cdv, ct, osl, rfl, lk, hcd, _, _⟩ := id F.ex
  obtain ⟨c, rfl⟩ := He.codeIn_ref hcd
  have ec : (He.cT K p).1 = c := He.codeOf_eq lk rfl
  rw [ec] at hbody
  exact T.gpk (F := fnI_of lk hcd T.sc T.ir hbody) F kb
end
/-! ### errors -/
/-- the class named x, no own __init__ -/
def excFB (K : PySem.W.Frag) (x : Str) : Bool := PySem.W.excIn K (He.ga K x) He.veBase "ValueError.__new__" && (PySem.W.keepIn K (.ref (He.ga K x)) && (decide (PySem.W.subIn K (.ref (He.ga K x)) (.type "BaseException") = some true) && (decide (PySem.W.typeIn K (.ref (He.ga K x)) = some (.type "type")) && He.eqO (PySem.W.nsIn K mainGlobals x) (some (some (.ref (He.ga K x)))))))
theorem excFB_ok {K : PySem.W.Frag} {h : Heap} {mg : Str → Option Value} {x : Str} (X : K.In h) (G : h.Ns mainGlobals mg) (e : excFB K x = true) : ExcF K mg x (He.ga K x) := by
  obtain ⟨h1, e⟩ := He.ba e
  obtain ⟨h2, e⟩ := He.ba e
  obtain ⟨h3, e⟩ := He.ba e
  obtain ⟨h4, h5⟩ := He.ba e
  exact ⟨h1, h2, of_decide_eq_true h3, of_decide_eq_true h4, PySem.W.mg_of X G (He.eqO_ok h5)⟩
def excCB (K : PySem.W.Frag) (C : Addr) : Bool := decide (PySem.W.findIn K (.ref C) "__getattribute__" = some (some (.builtin "BaseException.__getattribute__"))) && (decide (PySem.W.findIn K (.ref C) "__getattr__" = some none) && (decide (PySem.W.subIn K (.ref C) (.type "BaseException") = some true) && (PySem.W.hasDictIn K C && (decide (PySem.W.findIn K (.ref C) "__class__" = some (some (.builtin "object.__class__"))) && (decide (PySem.W.specialIn K (.builtin "object.__class__") "__get__" = some (some (.builtin "getset_descriptor.__get__"))) && (decide (PySem.W.takesIn K (.builtin "object.__class__") = some true) && decide (PySem.W.mroIn K C (.type "object") = some true)))))))
theorem excCB_ok {K : PySem.W.Frag} {C : Addr} (e : excCB K C = true) : ExcC K C := by
  obtain ⟨h1, e⟩ := He.ba e
  obtain ⟨h2, e⟩ := He.ba e
  obtain ⟨h3, e⟩ := He.ba e
  obtain ⟨h4, e⟩ := He.ba e
  obtain ⟨h5, e⟩ := He.ba e
  obtain ⟨h6, e⟩ := He.ba e
  obtain ⟨h7, h8⟩ := He.ba e
  exact ⟨of_decide_eq_true h1, of_decide_eq_true h2, of_decide_eq_true h3, h4, of_decide_eq_true h5, of_decide_eq_true h6, of_decide_eq_true h7, of_decide_eq_true h8⟩
theorem lookup_in {α β : Type} [BEq α] [LawfulBEq α] {a : α} {b : β} : ∀ {l : List (α × β)}, l.lookup a = some b → (a, b) ∈ l
  | [], h => by cases h
  | (c, d) :: l, h => by
    rw [List.lookup_cons] at h
    cases e : a == c with
    | true => rw [e] at h; cases h; rw [eq_of_beq e]; exact List.mem_cons_self
    | false => rw [e] at h; exact List.mem_cons_of_mem _ (lookup_in h)
/-- isinstance of the known errors (their classes by cls), the class named y -/
def isErB (K : PySem.W.Frag) (cls : Nat → Addr) (y : Str) (cs : List (Nat × Bool)) : Bool := He.eqO (PySem.W.nsIn K mainGlobals y) (some (some (.ref (He.ga K y)))) && cs.all fun p => excCB K (cls p.1) && decide (PySem.W.kitOne K (.ref (cls p.1)) (.ref (He.ga K y)) = some p.2)
theorem isErB_ok {K : PySem.W.Frag} {cls : Nat → Addr} {y : Str} {cs : List (Nat × Bool)} (e : isErB K cls y cs = true) : ∀ ci b, cs.lookup ci = some b → ExcC K (cls ci) ∧ PySem.W.kitOne K (.ref (cls ci)) (.ref (He.ga K y)) = some b := fun ci b h => by
  have q := List.all_eq_true.mp (He.ba e).2 _ (lookup_in h)
  exact ⟨excCB_ok (He.ba q).1, of_decide_eq_true (He.ba q).2⟩
theorem isErB_at {K : PySem.W.Frag} {h : Heap} {mg : Str → Option Value} {cls : Nat → Addr} {y : Str} {cs : List (Nat × Bool)} (X : K.In h) (G : h.Ns mainGlobals mg) (e : isErB K cls y cs = true) : mg y = some (.ref (He.ga K y)) := PySem.W.mg_of X G (He.eqO_ok (He.ba e).1)
/-- except y, of the known errors -/
def exErB (K : PySem.W.Frag) (cls : Nat → Addr) (y : Str) (cs : List (Nat × Bool)) : Bool := He.eqO (PySem.W.nsIn K mainGlobals y) (some (some (.ref (He.ga K y)))) && cs.all fun p => decide (PySem.W.exmOne K (.ref (cls p.1)) (.ref (He.ga K y)) = some p.2)
theorem exErB_ok {K : PySem.W.Frag} {cls : Nat → Addr} {y : Str} {cs : List (Nat × Bool)} (e : exErB K cls y cs = true) : ∀ ci b, cs.lookup ci = some b → PySem.W.exmOne K (.ref (cls ci)) (.ref (He.ga K y)) = some b := fun ci b h => of_decide_eq_true (List.all_eq_true.mp (He.ba e).2 _ (lookup_in h))
theorem exErB_at {K : PySem.W.Frag} {h : Heap} {mg : Str → Option Value} {cls : Nat → Addr} {y : Str} {cs : List (Nat × Bool)} (X : K.In h) (G : h.Ns mainGlobals mg) (e : exErB K cls y cs = true) : mg y = some (.ref (He.ga K y)) := PySem.W.mg_of X G (He.eqO_ok (He.ba e).1)
/-- the field f of errors of these classes -/
def fldB (K : PySem.W.Frag) (cls : Nat → Addr) (f : Str) (cl : List Nat) : Bool := cl.all fun c => xfB K (cls c) && He.eqO (PySem.W.findIn K (.ref (cls c)) f) (some none)
theorem fldB_ok {K : PySem.W.Frag} {cls : Nat → Addr} {f : Str} {cl : List Nat} (e : fldB K cls f cl = true) : ∀ ci ∈ cl, XfC K (cls ci) ∧ PySem.W.findIn K (.ref (cls ci)) f = some none := fun ci h => by
  have q := List.all_eq_true.mp e _ h
  exact ⟨xfB_ok (He.ba q).1, He.eqO_ok (He.ba q).2⟩
end AR
end
section
/-! Snd18: own errors with __init__, told by the head. -/
set_option Elab.async false
set_option linter.all false
set_option maxRecDepth 100000
set_option maxHeartbeats 4000000
namespace AR
open PySem L2 PySem.Spec PyProof.Rows
/-! ### the hook, with functions that close over __class__ -/
abbrev FnZ : Type := Option (Str × Str × Arguments × FuncBody × Scope × Addr × List Str × Addr)
def fnZ (K : PySem.W.Frag) (p : Str × Option Str) : FnZ := match K.lookup (He.fAd K p) with
  | some ⟨_, _, .func fd, _⟩ => some (fd.name, fd.qualname, fd.params, fd.body, fd.scope, fd.globals, fd.closure.map (·.1), fd.builtins)
  | _ => none
/-- where it stands, its name, qualified name, parameters, body, scope -/
structure IniD where
  cls : Str
  fld : Str
  qual : Str
  params : Arguments
  body : List Stmt
  scope : Scope
def IniD.val (d : IniD) : FnZ := some ("__init__", d.qual, d.params, .stmts d.body, d.scope, mainGlobals, ["__class__"], builtinsNs)
def IniD.at_ (d : IniD) : Str × Option Str := (d.cls, some "__init__")
/-- what of the heap is told: what the module's names reach in n steps, the statics -/
def partZ (n : Nat) (g : Addr → Option Obj) : PySem.W.Frag := He.frT g (cStatics :: He.asD g n)
abbrev AlZ : Type := (He.AlD × Bool) × List FnZ
def obsZ (n : Nat) (fa : List He.Fa) (fn : List He.DefD) (tf : List He.Defn) (ex : PySem.W.Frag → Bool) (ins : List IniD) (g : Addr → Option Obj) : AlZ := ((He.obsD fa fn (partZ n g), ex (partZ n g) && He.tabsB g tf (partZ n g)), ins.map fun d => fnZ (partZ n g) d.at_)
def valZ (fn : List He.DefD) (ins : List IniD) : AlZ := ((He.valD fn, true), ins.map IniD.val)
structure SaysZ (fa : List He.Fa) (fn : List He.DefD) (tf : List He.Defn) (ex : PySem.W.Frag → Bool) (ins : List IniD) (h : Heap) (K : PySem.W.Frag) : Prop where
  d : He.SaysD fa fn K
  more : ex K = true
  hd : ∀ p ∈ tf, PySem.W.codeHdIn K (He.cT K p).1 (He.cT K p).2 = true
  out : ∀ p ∈ tf, K.lookup (He.cT K p).2 = none
  empty : ∀ p ∈ tf, h.get? (He.cT K p).2 = some { cls := .none, data := .fields #[] }
  ini : ins.map (fun d => fnZ K d.at_) = ins.map IniD.val
theorem saysZ_of {n : Nat} {fa : List He.Fa} {fn : List He.DefD} {tf : List He.Defn} {ex : PySem.W.Frag → Bool} {ins : List IniD} {h : Heap} (e : obsZ n fa fn tf ex ins h.get? = valZ fn ins) : SaysZ fa fn tf ex ins h (partZ n h.get?) := by
  have e1 : He.obsD fa fn (partZ n h.get?) = He.valD fn := congrArg (fun z : AlZ => z.1.1) e
  have e2 : (ex (partZ n h.get?) && He.tabsB h.get? tf (partZ n h.get?)) = true := congrArg (fun z : AlZ => z.1.2) e
  obtain ⟨h1, h2⟩ := He.ba e2
  have at_ : ∀ p ∈ tf, PySem.W.codeHdIn (partZ n h.get?) (He.cT (partZ n h.get?) p).1 (He.cT (partZ n h.get?) p).2 = true ∧ ∃ o, h.get? (He.cT (partZ n h.get?) p).2 = some o ∧ He.emptyTab o = true := fun p hp => by
    obtain ⟨h3, h4⟩ := He.ba (List.all_eq_true.mp h2 p hp)
    refine ⟨h3, ?_⟩
    split at h4
    · rename_i o q
      exact ⟨o, q, h4⟩
    · cases h4
  exact ⟨e1, h1, fun p hp => (at_ p hp).1, fun p hp => let ⟨_, _, q, z⟩ := at_ p hp; He.frT_none q z, fun p hp => let ⟨_, _, q, z⟩ := at_ p hp; by rw [q, He.emptyTab_eq z], congrArg (fun z : AlZ => z.2) e⟩
def hookZ (n : Nat) (fa : List He.Fa) (fn : List He.DefD) (tf : List He.Defn) (ex : PySem.W.Frag → Bool) (ins : List IniD) : PySem.W.Hook where
  α := AlZ
  obs := fun s => obsZ n fa fn tf ex ins s.heap.get?
  val := fun _ => valZ fn ins
  says := fun _ h => ∃ K : PySem.W.Frag, K.In h ∧ SaysZ fa fn tf ex ins h K
  of := fun _ _ e => ⟨_, He.frT_in, saysZ_of e⟩
  keeps := fun _ _ _ ⟨K, hK, c⟩ k => ⟨K, PySem.W.Frag.In.keeps hK k, c.d, c.more, c.hd, c.out, fun p hp => k _ _ (c.empty p hp), c.ini⟩
theorem obsZ_eq {n : Nat} {fa : List He.Fa} {fn : List He.DefD} {tf : List He.Defn} {ex : PySem.W.Frag → Bool} {ins : List IniD} {g : Addr → Option Obj} {s : Shared} (h : ∀ a, g a = s.heap.get? a) : obsZ n fa fn tf ex ins g = (hookZ n fa fn tf ex ins).obs s := by
  have e : g = s.heap.get? := funext h
  rw [e] <;> rfl
/-! ### the written part, looked at -/
def codB (K : PySem.W.Frag) (main : Str) (cda : Addr) : Bool := match K.lookup cda with
  | some ⟨_, _, .fields vs, _⟩ => (match (vs[2]? : Option Value) with
    | some (.str file _) => main == file
    | _ => false)
  | _ => false
theorem codB_ok {K : PySem.W.Frag} {main : Str} {cda : Addr} (e : codB K main cda = true) : ∃ ccl cdd vs ccs file tf, K.lookup cda = some ⟨ccl, cdd, .fields vs, ccs⟩ ∧ vs[2]? = some (.str file tf) ∧ (main == file) = true := by
  unfold codB at e
  split at e
  · rename_i a b vs c h
    split at e
    · rename_i file tf h2
      exact ⟨_, _, vs, _, file, tf, h, h2, e⟩
    · cases e
  · cases e
def celB (K : PySem.W.Frag) (C cc : Addr) : Bool := match K.lookup cc with
  | some ⟨_, _, .cell (some (.ref D)), _⟩ => decide (D = C)
  | _ => false
theorem celB_ok {K : PySem.W.Frag} {C cc : Addr} (e : celB K C cc = true) : ∃ cl cld csl, K.lookup cc = some ⟨cl, cld, .cell (some (.ref C)), csl⟩ := by
  unfold celB at e
  split at e
  · rename_i h
    have := of_decide_eq_true e
    subst this
    exact ⟨_, _, _, h⟩
  · cases e
def clsB (K : PySem.W.Frag) (C : Addr) : Bool := match PySem.W.clsIn K C with
  | some cd => decide (PySem.W.alongIn K "__init__" ((cd.mro.dropWhile (· != .ref C)).drop 1) = some (some (.builtin "ValueError.__init__"))) && (PySem.HandSPX.refsVE cd.mro && cd.hasDict)
  | none => false
theorem clsB_ok {K : PySem.W.Frag} {C : Addr} (e : clsB K C = true) : ∃ cd, PySem.W.clsIn K C = some cd ∧ PySem.W.alongIn K "__init__" ((cd.mro.dropWhile (· != .ref C)).drop 1) = some (some (.builtin "ValueError.__init__")) ∧ PySem.HandSPX.refsVE cd.mro = true ∧ cd.hasDict = true := by
  unfold clsB at e
  split at e
  · rename_i cd h
    obtain ⟨h1, e⟩ := He.ba e
    obtain ⟨h2, h3⟩ := He.ba e
    exact ⟨cd, h, of_decide_eq_true h1, h2, h3⟩
  · cases e
def oexB (K : PySem.W.Frag) (C : Addr) : Bool := (match K.lookup C with
  | some ⟨.type "type", _, .cls cd, sl⟩ => (match cd.mro, sl.toList with
    | .ref C' :: bm, [_, _, _, _, some (.builtin n), _] => C' == C && (n == "ValueError.__new__" && (!cd.hasDel && (cd.hasDict && PySem.HandSPX.refsVE bm)))
    | _, _ => false)
  | _ => false) && (decide (PySem.W.findIn K (.ref C) "__setattr__" = some (some (.builtin "object.__setattr__"))) && (decide (PySem.W.subIn K (.ref C) (.type "BaseException") = some true) && (decide (PySem.W.typeIn K (.ref C) = some (.type "type")) && PySem.W.keepIn K (.ref C))))
theorem oexB_ok {K : PySem.W.Frag} {C : Addr} (e : oexB K C = true) : OexC K C := by
  obtain ⟨e0, e⟩ := He.ba e
  obtain ⟨h1, e⟩ := He.ba e
  obtain ⟨h2, e⟩ := He.ba e
  obtain ⟨h3, h4⟩ := He.ba e
  refine ⟨?_, of_decide_eq_true h1, of_decide_eq_true h2, of_decide_eq_true h3, h4⟩
  split at e0
  · rename_i dd cd sl ho
    split at e0
    · rename_i C' bm k0 k1 k2 k3 n k5 hm hs
      obtain ⟨q1, e0⟩ := He.ba e0
      obtain ⟨q2, e0⟩ := He.ba e0
      obtain ⟨q3, e0⟩ := He.ba e0
      obtain ⟨q4, q5⟩ := He.ba e0
      have q1 := eq_of_beq q1
      have q2 := eq_of_beq q2
      subst q1 q2
      obtain ⟨nm, bs, mro, ns, qn, hd, sn, sub, ab, col, del⟩ := cd
      dsimp only at hm q3 q4
      subst hm q4
      cases del with
      | true => cases q3
      | false =>
        have hsl : sl = #[k0, k1, k2, k3, some (.builtin "ValueError.__new__"), k5] := by
          obtain ⟨l⟩ := sl
          simp only at hs
          rw [hs]
        subst hsl
        exact ⟨nm, qn, ns, bs, bm, sn, sub, ab, col, dd, k0, k1, k2, k3, k5, ho, q5⟩
    · cases e0
  · cases e0
def initB2 (K : PySem.W.Frag) (x f : Str) (fI : Addr) : Bool := decide (PySem.W.findIn K (.ref (He.ga K x)) "__init__" = some (some (.ref fI))) && (decide (PySem.W.typeIn K (.ref fI) = some (.type "function")) &&
  (clsB K (He.ga K x) && (decide (PySem.W.mroIn K (He.ga K x) (.ref (He.ga K x)) = some true) && (decide (PySem.W.nsIn K mainGlobals "super" = some none) && (decide (PySem.W.nsIn K cStatics "thirdparty.any" = some none) && (decide (PySem.W.subIn K (.ref (He.ga K x)) (.type "ValueError") = some true) &&
  (PySem.W.excInitIn K (He.ga K x) PySem.PX.veTail "ValueError.__new__" && (oexB K (He.ga K x) && (decide (PySem.W.findIn K (.ref (He.ga K x)) f = some none) && He.eqO (PySem.W.nsIn K mainGlobals x) (some (some (.ref (He.ga K x)))))))))))))
def initB1 (K : PySem.W.Frag) (main x qual : Str) (fd : FuncData) : Bool := match fd.code, fd.closure with
  | .ref cda, [(_, cc)] => codB K main cda && (celB K (He.ga K x) cc && PySem.W.codeIn K fd.code qual)
  | _, _ => false
def initB (K : PySem.W.Frag) (main x f qual : Str) : Bool := match K.lookup (He.fAd K (x, some "__init__")) with
  | some ⟨_, _, .func fd, _⟩ => initB1 K main x qual fd && (He.dflB K fd.defaults [.non] && initB2 K x f (He.fAd K (x, some "__init__")))
  | _ => false
/-- what the text says of such an __init__'s names -/
structure IniS (f : Str) (scope : Scope) : Prop where
  sk : scope.kind = .function
  sco : scope.isCoroutine = false
  sgen : scope.isGenerator = false
  snc : ∀ x ∈ scope.names, x.2 ≠ .cell
  s1 : scope.names.lookup ("super" : Str) = some .globalImplicit
  s2 : scope.names.lookup ("__class__" : Str) = some .free
  s3 : scope.names.lookup ("self" : Str) = some .local
  s4 : scope.names.lookup ("text" : Str) = some .local
  s5 : scope.names.lookup f = some .local
  ne1 : f ≠ "self"
  ne2 : f ≠ "text"
  nd : (f == ("__debug__" : Str)) = false
  ncd : (f == ("__classdict__" : Str)) = false
section
variable {P : Program} {w : World} {K : PySem.W.Frag} {h : Heap} {mg : Str → Option Value} {base : Heap} {x f qual : Str} {params : Arguments} {scope : Scope} {p0 p1 p2 p3 p4 p5 p6 p7 p8 p9 : Pos}
theorem excG_of (X : K.In h) (G : h.Ns mainGlobals mg) (e : initB K P.main.file x f qual = true) (ez : fnZ K (x, some "__init__") = (some (("__init__" : Str), qual, params, FuncBody.stmts (initBody f p0 p1 p2 p3 p4 p5 p6 p7 p8 p9), scope, mainGlobals, [("__class__" : Str)], builtinsNs) : FnZ)) (S : IniS f scope) (top : (P.main.scope.names.lookup ("super" : Str)).isSome = false)
    (hp : ∃ ar, (params.posonlyargs ++ params.args).head? = some ar ∧ ar.arg = ("self" : Str))
    (hb : ∀ (T : Addr) (kV doc pm : Value) (an : Option Addr) (cdv ct : Value) (cc : Addr) (us its : List Value), us.length = 3 → its.length = 1 → ∃ k, bindArgs (PySem.W.fnX "__init__" qual params (initBody f p0 p1 p2 p3 p4 p5 p6 p7 p8 p9) scope [("__class__", cc)] (.ref T) kV doc pm an cdv ct) ⟨us, []⟩ = seqItems? (.ref T) >>= k ∧ k (some its.toArray) = pure ((["self", "text", f] : List Str).zip us))
    (hc : ∀ (fI cda cc L : Addr), SupEq (PySem.W.envX qual scope L fI (.ref cda) [("__class__", cc)]) p0 p1 p2 p3 p4)
    (hs1 : ∀ (fI cda cc L : Addr), swapsWith (supE p0 p1 p2 p3 p4) none p5.line (PySem.W.envX qual scope L fI (.ref cda) [("__class__", cc)]) = pure false) (hs2 : ∀ (fI cda cc L : Addr), swapsWith (.Name f p8) (some (.Attribute (.Name "self" p6) f p7)) p9.line (PySem.W.envX qual scope L fI (.ref cda) [("__class__", cc)]) = pure false) :
    ExcG P w K mg base x (He.ga K x) f := by
  unfold initB at e
  unfold fnZ at ez
  split at e
  · rename_i oc od fd osl lk
    rw [lk] at ez
    obtain ⟨e0, e⟩ := He.ba e
    obtain ⟨h1, e⟩ := He.ba e
    unfold initB2 at e
    obtain ⟨h2, e⟩ := He.ba e
    obtain ⟨h3, e⟩ := He.ba e
    obtain ⟨h4, e⟩ := He.ba e
    obtain ⟨h5, e⟩ := He.ba e
    obtain ⟨h6, e⟩ := He.ba e
    obtain ⟨h7, e⟩ := He.ba e
    obtain ⟨h8, e⟩ := He.ba e
    obtain ⟨h9, e⟩ := He.ba e
    obtain ⟨h10, e⟩ := He.ba e
    obtain ⟨h11, h12⟩ := He.ba e
    obtain ⟨n1, n2, n3, n4, n5, n6, n7, n8, n9, n10, n11, n12, n13, n14, n15⟩ := fd
    simp only [Option.some.injEq, Prod.mk.injEq] at ez
    obtain ⟨g1, g2, g3, g4, g5, g6, g7, g8⟩ := ez
    subst g1 g2 g3 g4 g5 g6 g8
    unfold initB1 at e0
    simp only at e0 h1
    split at e0
    · rename_i cda y cc _
      simp only [List.map_cons, List.map_nil, List.cons.injEq, and_true] at g7
      subst g7
      obtain ⟨t1, e0⟩ := He.ba e0
      obtain ⟨t2, t3⟩ := He.ba e0
      rcases He.dflB_ok h1 with ⟨z, _⟩ | ⟨_, T, o, its, m, rfl, lT, oT, rT⟩
      · cases z
      · have T0 : InitC P K (He.ga K x) (He.fAd K (x, some "__init__")) cc cda f n2 n5 := ⟨codB_ok t1, celB_ok t2, clsB_ok h4, of_decide_eq_true h5, of_decide_eq_true h6, of_decide_eq_true h7, of_decide_eq_true h8, h9, oexB_ok h10, of_decide_eq_true h11, t3, S.sk, S.sco, S.sgen, S.snc, S.s1, S.s2, S.s3, S.s4, S.s5, S.ne1, S.ne2, S.nd, S.ncd, top⟩
        refine ⟨⟨_, _, of_decide_eq_true h2, of_decide_eq_true h3, fun s us kin hl => ?_, init_ok T0 lk hp (fun L => hc _ _ _ L) (fun L => hs1 _ _ _ L) (fun L => hs2 _ _ _ L)⟩, oexB_ok h10, PySem.W.mg_of X G (He.eqO_ok h12)⟩
        rw [List.append_nil] at hl ⊢
        obtain ⟨k, e1, e2⟩ := hb T n9 n10 n11 n12 (.ref cda) n14 cc us its hl rT.length.symm
        refine BindsTo.of_looks fun M => ?_
        rw [e1]
        exact looks_items kin lT oT (.of_pure e2)
    · cases e0
  · cases e
end
end AR
end
section
/-! Snd19: calls by keywords, name = [..], walks backwards. -/
set_option Elab.async false
set_option linter.all false
set_option maxRecDepth 100000
set_option maxHeartbeats 4000000
namespace AR
open PySem L2 PySem.Spec PyProof.Rows
/-! ### f(k = e, ..), every parameter by its name -/
structure GOkK (D0 : Wd) (n : Nat) (X : Cx) (i : Nat) (x : Str) (ks : List Str) : Prop where
  ex : ∃ (f : Addr) (fd : FuncData), X.mg x = some (.ref f) ∧ PySem.W.keepIn X.K (.ref f) = true ∧ (∀ (s : Shared) (ws : List Value), X.K.In s.heap → ws.length = ks.length → BindsTo s fd ⟨[], ks.zip ws⟩ (ks.zip ws)) ∧ (∀ d, D0.P i = some d → d.np = ks.length) ∧ FnI X.prog X.w X.K X.mg X.base (n + 5) f fd ks (spI D0 X.K n i ks.length)
structure SKw (D0 : Wd) (n : Nat) (X : Cx) (CA : CAp) (kws : List Keyword) (ies : List E) : Prop where
  run : ∀ W, Takes X W → PK X kws (tIs D0 n X.K CA W ies)
section
variable {D0 : Wd} {n : Nat} {X : Cx} {CA : CAp} {e : Expr} {kws : List Keyword} {ie : E} {ies : List E} {pos p kpos : Pos} {x : Str} {i : Nat} {ks : List Str} {nm : Option Str}
theorem PK.weak {X : Cx} {e : List Keyword} {t t' : TA} (h : PK X e t) (w : ∀ σ H Q, t' σ H Q → t σ H Q) : PK X e t' := ⟨fun pos pins s σ H Q I q => h.run pos pins s σ H Q I (w σ H Q q)⟩
theorem sk_nil : SKw D0 n X CA [] [] := ⟨fun W tk => PK.weak pk_nil fun σ H Q h => tIs_nil h⟩
theorem sk_cons (ha : SE D0 n X CA e ie) (hr : SKw D0 n X CA kws ies) : SKw D0 n X CA (⟨nm, e, kpos⟩ :: kws) (ie :: ies) := ⟨fun W tk => PK.weak (pk_cons (ha.run W tk) (hr.run W tk)) fun σ H Q h => tIs_cons h⟩
theorem se_callK (C : CxOk n X CA) (G : GOkK D0 n X i x ks) (ha : SKw D0 n X CA kws ies) (hg : Gl X x := by rfl) (hdb : (x == ("__debug__" : Str)) = false := by decide) (hall : (backToKw pos (keywordEach kws X.env)).all (·.1.isSome) = true := by rfl) (hks : (backToKw pos (keywordEach kws X.env)).filterMap (·.1) = ks := by rfl)
    (hpl : ((backTo pos (starEach [] X.env)).any (·.1) || (backToKw pos (keywordEach kws X.env)).any (·.1.isNone)) = false := by rfl) : SE D0 n X CA (.Call (.Name x p) [] kws pos) (.call i ies) :=
  ⟨fun W tk => ⟨fun pins s σ H Q I h => by
    obtain ⟨f, fd, hm, hk, hb, hnp, F⟩ := G.ex
    refine wpAny_Call_Name_kw (ld_glob I hg hm ?_ hdb)
    refine PySem.W.callWith_KW0 (h₀ := X.base) I.ok.mod.kin hk hall ?_ hpl
    have h' := tI_call (dv := []) (ies := ies) (by rw [List.map_nil, List.append_nil]; exact h)
    refine thn ((ha.run W tk).run pos pins s σ H _ I h') fun ws s1 ⟨vs, H1, I1, r, ρ1, hm1, xs, h1, h2, po⟩ => ⟨I1.kIn, ?_⟩
    rw [hks]
    rw [List.map_nil, List.append_nil] at po
    obtain ⟨d, m, _, e1, e2, _, _⟩ := run_len po
    have hl : vs.length = ks.length := by rw [← h2.len, e2]; exact hnp d e1
    refine wpAny_call (codeAny_mono (F.run X.A X.stack s1 H1 ⟨[] ++ [], ks.zip ws⟩ ws vs Q (WE W σ) C.room I1.env0 (hb s1 ws I1.kIn (by rw [← r.length]; exact hl)) r ⟨hl, ρ1, hm1, xs, SVRels.fwd (Fwd.refl _ _) (C.ca pins σ H1 s1 I1) h2, h1, po.none⟩) fun r s' hq => ?_)
    cases r with
    | error e => exact passAt tk σ pins H1 s1 e s' I1 hq
    | ok fl =>
      cases fl with
      | ret u => exact I1.after hq
      | next => exact False.elim hq
      | brk => exact False.elim hq
      | cont => exact False.elim hq⟩⟩
end
/-! ### name = [..] -/
section
variable {D0 : Wd} {n : Nat} {X : Cx} {CA : CAp} {tg iter elt c : Expr} {w : AR.W} {its : List E} {scope : Scope} {own : List (Str × Nat)} {t : T} {ic ie : E} {pos spos py : Pos} {y : Str}
theorem setLc_S {K : PySem.W.Frag} {W : WX} {σ : L2.St} {H : Hp} {D : Ends} {i : Nat} {ir : E} {te : TE} (ht : ∀ σ H Q, tI D0 n K CA W ir σ H Q → te σ H Q) (h : tIS D0 n K CA W (.asg (.nm i) ir) D σ H) : tAsg te (gName i) D σ H := ht σ H _ (asg_nm h)
theorem ss_setLc (i : Nat) (C : CxOk n X CA) (hN : X.N.Nodup) (hi : SI D0 n X CA tg iter w its) (ok : BlkOk X.N X.env.scope scope own) (hsl : ∀ i ∈ t.slots, i ∈ own.map (·.2))
    (hg : ∀ (s : Shared) (H : Hp) (Cc : Addr) (cl : List (Str × Addr)) (fp : List Addr), PG (Blk X s H scope Cc cl fp) tg (gT D0 X.K CAn t))
    (he : ∀ (s : Shared) (H : Hp) (Cc : Addr) (cl : List (Str × Addr)) (fp : List Addr), SE D0 n (Blk X s H scope Cc cl fp) CAn elt ie) (hy : X.N[i]? = some y := by rfl) (hyl : X.env.scope.names.lookup y = some .local := by rfl)
    (hsw : swapsWith (.ListComp elt [⟨tg, iter, [], 0⟩] scope pos) (some (.Name y py)) spos.line X.env = pure true := by rfl) (hs : ∀ x, foldedSetIterable iter X.env x = pure x := by intro _; rfl) :
    SS D0 n X CA (.Assign [.Name y py] (.ListComp elt [⟨tg, iter, [], 0⟩] scope pos) spos) (.asg (.nm i) (.lc t (own.map (·.2)) w its (.c (.bl true)) ie)) :=
  ⟨fun W tk _ => PS.weak (ps_setLc C.calm hN hy hyl hsw (hi.run W tk) ok hg (fun _ _ _ _ _ => pts_nil) (fun s H Cc cl fp => (he s H Cc cl fp).run _ LamX.takes0) hs) fun D σ H h => setLc_S (fun σ H Q h => lc_S hsl (fun σ H Q h => by
    obtain ⟨ρ, hm, env, h1, h2, p⟩ := h
    rw [evE_c] at p
    exact p ρ H true (Fwd.refl _ _) h2 rfl) h) h⟩
theorem ss_setLc1 (i : Nat) (C : CxOk n X CA) (hN : X.N.Nodup) (hi : SI D0 n X CA tg iter w its) (ok : BlkOk X.N X.env.scope scope own) (hsl : ∀ i ∈ t.slots, i ∈ own.map (·.2))
    (hg : ∀ (s : Shared) (H : Hp) (Cc : Addr) (cl : List (Str × Addr)) (fp : List Addr), PG (Blk X s H scope Cc cl fp) tg (gT D0 X.K CAn t))
    (hc : ∀ (s : Shared) (H : Hp) (Cc : Addr) (cl : List (Str × Addr)) (fp : List Addr), ST D0 n (Blk X s H scope Cc cl fp) CAn c ic)
    (he : ∀ (s : Shared) (H : Hp) (Cc : Addr) (cl : List (Str × Addr)) (fp : List Addr), SE D0 n (Blk X s H scope Cc cl fp) CAn elt ie) (hy : X.N[i]? = some y := by rfl) (hyl : X.env.scope.names.lookup y = some .local := by rfl)
    (hsw : swapsWith (.ListComp elt [⟨tg, iter, [c], 0⟩] scope pos) (some (.Name y py)) spos.line X.env = pure true := by rfl) (hs : ∀ x, foldedSetIterable iter X.env x = pure x := by intro _; rfl) :
    SS D0 n X CA (.Assign [.Name y py] (.ListComp elt [⟨tg, iter, [c], 0⟩] scope pos) spos) (.asg (.nm i) (.lc t (own.map (·.2)) w its ic ie)) :=
  ⟨fun W tk _ => PS.weak (ps_setLc C.calm hN hy hyl hsw (hi.run W tk) ok hg (fun s H Cc cl fp => pts_one ((hc s H Cc cl fp).run _ LamX.takes0)) (fun s H Cc cl fp => (he s H Cc cl fp).run _ LamX.takes0) hs) fun D σ H h => setLc_S (fun σ H Q h => lc_S hsl (fun σ H Q h => h) h) h⟩
end
section
variable {D0 : Wd} {n : Nat} {X : Cx} {CA : CAp} {tg iter elt c : Expr} {w : AR.W} {its : List E} {scope : Scope} {own : List (Str × Nat)} {t : T} {ic ie : E} {pos spos py : Pos} {y : Str}
/-- what is shown of a block, whatever its frame is -/
abbrev InBlk (n : Nat) (X : Cx) (scope : Scope) (P : Cx → Prop) : Prop := ∀ (s : Shared) (H : Hp) (Cc : Addr) (cl : List (Str × Addr)) (fp : List Addr), CxOk n (Blk X s H scope Cc cl fp) CAn → P (Blk X s H scope Cc cl fp)
theorem se_lcP (C : CxOk n X CA) (hN : X.N.Nodup) (hi : SI D0 n X CA tg iter w its) (ok : BlkOk X.N X.env.scope scope own) (hsl : ∀ i ∈ t.slots, i ∈ own.map (·.2)) (hg : InBlk n X scope fun Y => PG Y tg (gT D0 X.K CAn t)) (he : InBlk n X scope fun Y => SE D0 n Y CAn elt ie) (hs : ∀ x, foldedSetIterable iter X.env x = pure x := by intro _; rfl) :
    SE D0 n X CA (.ListComp elt [⟨tg, iter, [], 0⟩] scope pos) (.lc t (own.map (·.2)) w its (.c (.bl true)) ie) := se_lc C hN hi ok hsl (fun s H Cc cl fp => hg s H Cc cl fp (C.blk s H scope Cc cl fp)) (fun s H Cc cl fp => he s H Cc cl fp (C.blk s H scope Cc cl fp)) hs
theorem se_lc1P (C : CxOk n X CA) (hN : X.N.Nodup) (hi : SI D0 n X CA tg iter w its) (ok : BlkOk X.N X.env.scope scope own) (hsl : ∀ i ∈ t.slots, i ∈ own.map (·.2)) (hg : InBlk n X scope fun Y => PG Y tg (gT D0 X.K CAn t)) (hc : InBlk n X scope fun Y => ST D0 n Y CAn c ic) (he : InBlk n X scope fun Y => SE D0 n Y CAn elt ie) (hs : ∀ x, foldedSetIterable iter X.env x = pure x := by intro _; rfl) :
    SE D0 n X CA (.ListComp elt [⟨tg, iter, [c], 0⟩] scope pos) (.lc t (own.map (·.2)) w its ic ie) := se_lc1 C hN hi ok hsl (fun s H Cc cl fp => hg s H Cc cl fp (C.blk s H scope Cc cl fp)) (fun s H Cc cl fp => hc s H Cc cl fp (C.blk s H scope Cc cl fp)) (fun s H Cc cl fp => he s H Cc cl fp (C.blk s H scope Cc cl fp)) hs
theorem ss_setLcP (i : Nat) (C : CxOk n X CA) (hN : X.N.Nodup) (hi : SI D0 n X CA tg iter w its) (ok : BlkOk X.N X.env.scope scope own) (hsl : ∀ i ∈ t.slots, i ∈ own.map (·.2)) (hg : InBlk n X scope fun Y => PG Y tg (gT D0 X.K CAn t)) (he : InBlk n X scope fun Y => SE D0 n Y CAn elt ie) (hy : X.N[i]? = some y := by rfl) (hyl : X.env.scope.names.lookup y = some .local := by rfl)
    (hsw : swapsWith (.ListComp elt [⟨tg, iter, [], 0⟩] scope pos) (some (.Name y py)) spos.line X.env = pure true := by rfl) (hs : ∀ x, foldedSetIterable iter X.env x = pure x := by intro _; rfl) :
    SS D0 n X CA (.Assign [.Name y py] (.ListComp elt [⟨tg, iter, [], 0⟩] scope pos) spos) (.asg (.nm i) (.lc t (own.map (·.2)) w its (.c (.bl true)) ie)) := ss_setLc i C hN hi ok hsl (fun s H Cc cl fp => hg s H Cc cl fp (C.blk s H scope Cc cl fp)) (fun s H Cc cl fp => he s H Cc cl fp (C.blk s H scope Cc cl fp)) hy hyl hsw hs
theorem ss_setLc1P (i : Nat) (C : CxOk n X CA) (hN : X.N.Nodup) (hi : SI D0 n X CA tg iter w its) (ok : BlkOk X.N X.env.scope scope own) (hsl : ∀ i ∈ t.slots, i ∈ own.map (·.2)) (hg : InBlk n X scope fun Y => PG Y tg (gT D0 X.K CAn t)) (hc : InBlk n X scope fun Y => ST D0 n Y CAn c ic) (he : InBlk n X scope fun Y => SE D0 n Y CAn elt ie) (hy : X.N[i]? = some y := by rfl) (hyl : X.env.scope.names.lookup y = some .local := by rfl)
    (hsw : swapsWith (.ListComp elt [⟨tg, iter, [c], 0⟩] scope pos) (some (.Name y py)) spos.line X.env = pure true := by rfl) (hs : ∀ x, foldedSetIterable iter X.env x = pure x := by intro _; rfl) :
    SS D0 n X CA (.Assign [.Name y py] (.ListComp elt [⟨tg, iter, [c], 0⟩] scope pos) spos) (.asg (.nm i) (.lc t (own.map (·.2)) w its ic ie)) := ss_setLc1 i C hN hi ok hsl (fun s H Cc cl fp => hg s H Cc cl fp (C.blk s H scope Cc cl fp)) (fun s H Cc cl fp => hc s H Cc cl fp (C.blk s H scope Cc cl fp)) (fun s H Cc cl fp => he s H Cc cl fp (C.blk s H scope Cc cl fp)) hy hyl hsw hs
end
/-! ### walks backwards, with numbers -/
section
variable {D0 : Wd} {K : PySem.W.Frag} {ρ0 : List Addr} {H0 : Hp}
theorem irel_rev {n m : Nat} {a : Addr} (ea : ρ0[n]? = some a) : IRel D0 K ρ0 H0 (.rev n m) (Itv K a m) := by
  intro i ρ hm H f h
  simp only [AR.It.at]
  cases e : lstAt hm n with
  | none => trivial
  | some xs =>
    obtain ⟨vs, hs, rs⟩ := lstAt_s h (f.pre _ _ ea) e
    simp only [Option.bind_some]
    by_cases hi : i < m
    · rw [if_pos hi]
      cases ei : xs[m - 1 - i]? with
      | none => trivial
      | some x =>
        obtain ⟨v, hv, r⟩ := rs.get ei
        exact ⟨⟨hi, vs, v, hs, hv⟩, fun w H' ⟨e1, e2⟩ => by
          subst e1
          have := e2 vs hs
          rw [hv] at this
          cases this
          exact ⟨h, Fwd.refl _ _, r⟩⟩
    · rw [if_neg hi]
      exact Nat.le_of_not_lt hi
theorem rev_get {α : Type} {l : List α} {i : Nat} {x : α} (h : l.reverse[i]? = some x) : i < l.length ∧ l[l.length - 1 - i]? = some x := by
  have hi : i < l.length := by
    have := (List.getElem?_eq_some_iff.mp h).1
    simpa using this
  exact ⟨hi, by rw [List.getElem?_reverse hi] at h; exact h⟩
theorem irel_revT {xs : List D} {vs : List V} {a : Addr} (s : SqT K H0 a vs) (rs : DRels K ρ0 H0 xs vs) : IRel D0 K ρ0 H0 (.revT xs) (RT.ItvT K a vs.length) := by
  intro i ρ hm H f h
  simp only [AR.It.at]
  have s' := f.sqT s
  have rs' := rs.fwd f
  cases ei : xs.reverse[i]? with
  | none =>
    have := List.getElem?_eq_none_iff.mp ei
    rw [List.length_reverse] at this
    exact (by rw [← rs'.len]; exact this : vs.length ≤ i)
  | some x =>
    obtain ⟨hi, ex⟩ := rev_get ei
    obtain ⟨v, hv, r⟩ := rs'.get ex
    rw [rs'.len] at hv hi
    exact ⟨⟨hi, vs, v, s', hv⟩, fun w H' ⟨e1, e2⟩ => by
      subst e1
      have := e2 vs s'
      rw [hv] at this
      cases this
      exact ⟨h, Fwd.refl _ _, r⟩⟩
theorem irel_enm {n : Nat} {a : Addr} (ea : ρ0[n]? = some a) : IRel D0 K ρ0 H0 (.enm (.lst n)) (Ite K a) := by
  intro i ρ hm H f h
  simp only [AR.It.at]
  cases e : lstAt hm n with
  | none => trivial
  | some xs =>
    obtain ⟨vs, hs, rs⟩ := lstAt_s h (f.pre _ _ ea) e
    simp only [Option.map_some]
    cases ei : xs[i]? with
    | none =>
      have := List.getElem?_eq_none_iff.mp ei
      exact ⟨vs, hs, by rw [← rs.len]; exact this⟩
    | some x =>
      obtain ⟨v, hv, r⟩ := rs.get ei
      refine ⟨⟨vs, v, hs, hv⟩, fun w H' ⟨T, x', e1, e2, e3, e4⟩ => ?_⟩
      have e4 := e4 vs hs
      rw [hv] at e4
      cases e4
      subst e3
      obtain ⟨h2, f2⟩ := h.aside (o := .tup [.int (i : Nat), v]) e2
      rw [e1]
      exact ⟨h2, f2, mk_tup (.inl (.inl upd_same)) (DRels.mk (mk_int _) (DRels.mk (r.fwd f2) DRels.nil))⟩
end
section
variable {D0 : Wd} {n : Nat} {X : Cx} {CA : CAp} {tg a : Expr} {ia : E} {pos p : Pos}
theorem si_rev (ha : SE D0 n X CA a ia) (hm : X.mg "reversed" = none) (hg : Gl X "reversed" := by rfl) (hst : StA X a := by rfl) : SI D0 n X CA tg (.Call (.Name "reversed" p) [a] [] pos) .rev [ia] :=
  ⟨fun W tk => PI.weak (RT.pi_revA hg hm (ha.run W tk) hst) fun σ H Q h => tI_mono (tII_1 h) fun v H1 ⟨ρ1, hm1, d, j, h1, h2, e, q⟩ => by
    simp only [itOf, i1, itRev] at e
    split at e
    · rename_i m
      obtain ⟨g, eg, rfl⟩ := dr_ref h2
      split at e
      · rename_i xs hx
        cases e
        obtain ⟨vs, hv, rs⟩ := at_lst h1 hx eg
        exact ⟨g, vs, rfl, .inl ⟨.inl (.inl hv), by rw [← rs.len]; exact q _ (irel_rev eg)⟩⟩
      · rename_i xs hx
        cases e
        obtain ⟨vs, hv, rs⟩ := at_rol h1 hx eg
        exact ⟨g, vs, rfl, .inl ⟨hv, by rw [← rs.len]; exact q _ (irel_rev eg)⟩⟩
      · cases e
    · rename_i xs
      cases e
      obtain ⟨g, vs, rfl, s, rs⟩ := dr_tup h2
      exact ⟨g, vs, rfl, .inr ⟨s, q _ (irel_revT s rs)⟩⟩
    · cases e⟩
theorem si_enm {elts : List Expr} {kk : Nat} {tpos : Pos} (ha : SE D0 n X CA a ia) (hm : X.mg "enumerate" = none) (hg : Gl X "enumerate" := by rfl) (hst : starEach [a] X.env = [(false, eval a X.env)] := by rfl) (hst2 : StA X a := by rfl) : SI D0 n X CA (.Tuple elts kk tpos) (.Call (.Name "enumerate" p) [a] [] pos) .enm [ia] :=
  ⟨fun W tk => PI.weak (pi_enum hg hm (pa_cons (ha.run W tk) pa_nil hst2) hst) fun σ H Q h => tI_mono (tII_1 h) fun v H1 ⟨ρ1, hm1, d, j, h1, h2, e, q⟩ => by
    simp only [itOf, i1, itEnm, itSeq] at e
    split at e
    · rename_i m he
      cases e
      split at he
      · rename_i m'
        obtain ⟨g, eg, rfl⟩ := dr_ref h2
        split at he
        · rename_i xs hx
          cases he
          obtain ⟨vs, hv, rs⟩ := at_lst h1 hx eg
          exact ⟨g, vs, rfl, .inl (.inl hv), q _ (irel_enm eg)⟩
        · rename_i xs hx
          cases he
          obtain ⟨vs, hv, rs⟩ := at_rol h1 hx eg
          exact ⟨g, vs, rfl, hv, q _ (irel_enm eg)⟩
        · cases he
      · cases he
      · cases he
      · cases he
    · cases e⟩
end
end AR
end
section
/-! Snd20: for i, x in enumerate(reversed(a tuple)). -/
set_option Elab.async false
set_option linter.all false
set_option maxRecDepth 100000
set_option maxHeartbeats 4000000
namespace AR
open PySem L2 PySem.Spec PyProof.Rows RT
section
variable {prog : Program} {w : World} {A : Around} {E : Value → Shared → Prop} {s : Shared}
/-- a step of reversed(a tuple), as another iterator asks it -/
theorem draw_rt {it t : Addr} {i : Nat} {items : Array Value} {x : Value} {Q : Value → Shared → Prop} (hit : IsRt s.heap it t (i : Int)) (ht : IsTup s.heap t items) (hx : items[i]? = some x) (hsz : items.size ≤ sizeLine)
    (hQ : ∀ h', IsRt h' it t ((i : Int) - 1) → Heap.SameBut it s.heap h' → Q x { s with heap := h', toks := s.toks + 1 }) : wpAny (model prog w) A (Builtin.SmallTypes.nextOf (.ref it)) Q E s := by
  obtain ⟨o, ho, hc, hd⟩ := id hit
  have lt : i < items.size := (Array.getElem?_eq_some_iff.mp hx).1
  have tt : s.TypeIs (.ref t) "tuple" := IsTup.typeOf' ht
  rw [sizeLine_eq] at hsz
  unfold Builtin.SmallTypes.nextOf
  refine wpAny_bind (wpAny_callSpecial?_slot (name := Str.ofString "__next__") hit.typeIs slot_rt_next (wpAny_call_entry slot_rt_next hit.typeIs entry_rt_next ?_ (args_rt_next _)))
  unfold Builtin.«reversed.__next__»
  refine wpAny_bind (wpAny_of_eq (a := (Value.ref it, [])) rfl ?_)
  try dsimp only
  refine wpAny_bind (wpAny_field ho hd (x := .ref t) rfl ?_)
  try dsimp only
  refine wpAny_bind (wpAny_field ho hd (x := rawInt (i : Int)) rfl ?_)
  show wpAny _ _ (if (i : Int) < 0 then _ else _) _ _ s
  rw [if_neg (by omega)]
  try dsimp only
  refine wpAny_bind (wpAny_specialOf tt get_tuple ?_)
  try dsimp only
  try rw [if_neg (by decide)]
  try dsimp only
  refine wpAny_bind (wpAny_mkInt (wpAny_bind (wpAny_attempt ?_)))
  have at_ : seqIndex? (i : Int) items.size = some i := seqIndex_of (by omega) (by omega)
  refine PyProof.Rows.getItem_tuple (s := { s with toks := s.toks + 1 }) ht (by omega) (by omega) at_ hx ?_
  try dsimp only
  refine wpAny_bind (wpAny_field (s := { s with toks := s.toks + 1 }) ho hd (x := rawInt (i : Int)) rfl ?_)
  try dsimp only
  refine wpAny_bind (wpAny_setField (s := { s with toks := s.toks + 1 }) ho hd (by simp) ?_)
  first
  | refine wpAny_pure ⟨x, rfl, wpAny_pure (hQ _ ?_ (Heap.SameBut.update ..))⟩
  | refine wpAny_bind (wpAny_pure (wpAny_pure ⟨x, rfl, wpAny_pure (hQ _ ?_ (Heap.SameBut.update ..))⟩))
  exact ⟨_, Heap.get?_update_self _ ho (Obj.isFreed_of_fields (Obj.data_mapFields hd _)), (Obj.cls_mapFields ..).trans hc, by
    rw [Obj.data_mapFields hd]; simp⟩
theorem draw_rt_end {it t : Addr} {Q : Value → Shared → Prop} (hh : A.handled = none) (hit : IsRt s.heap it t (-1))
    (hE : ∀ h' e, Heap.ExtBut it s.heap h' → (∃ o, h'.get? e = some o ∧ o.cls = .type "StopIteration") → E (.ref e) { s with heap := h' }) : wpAny (model prog w) A (Builtin.SmallTypes.nextOf (.ref it)) Q E s := by
  obtain ⟨o, ho, hc, hd⟩ := id hit
  unfold Builtin.SmallTypes.nextOf
  refine wpAny_bind (wpAny_callSpecial?_slot (name := Str.ofString "__next__") hit.typeIs slot_rt_next (wpAny_call_entry slot_rt_next hit.typeIs entry_rt_next ?_ (args_rt_next _)))
  unfold Builtin.«reversed.__next__»
  refine wpAny_bind (wpAny_of_eq (a := (Value.ref it, [])) rfl ?_)
  try dsimp only
  refine wpAny_bind (wpAny_field ho hd (x := .ref t) rfl ?_)
  try dsimp only
  refine wpAny_bind (wpAny_field ho hd (x := rawInt (-1)) rfl ?_)
  show wpAny _ _ (if (-1 : Int) < 0 then _ else _) _ _ s
  rw [if_pos (by decide)]
  try dsimp only
  refine wpAny_bind (wpAny_rule (wpAny_bind ?_))
  wp_delta
  refine wpAny_bind (wpAny_setField ho hd (by simp) ?_)
  have ho2 := Heap.get?_update_self (Obj.mapFields (·.setIfInBounds 1 (rawInt (-1)))) ho (Obj.isFreed_of_fields (Obj.data_mapFields hd _))
  refine wpAny_setField (s := { s with heap := s.heap.update it (Obj.mapFields (·.setIfInBounds 1 (rawInt (-1)))) }) ho2 (Obj.data_mapFields hd _) (by simp) ?_
  try dsimp only
  first
  | show wpAny _ _ (newExc (.type "StopIteration") [] >>= _) _ _ _
  | (refine wpAny_bind ?_; show wpAny _ _ (newExc (.type "StopIteration") [] >>= _) _ _ _)
  | (refine wpAny_bind ?_; wp_delta; show wpAny _ _ (newExc (.type "StopIteration") [] >>= _) _ _ _)
  refine wpAny_bind ?_
  simp only [newExc, newTuple]
  refine wpAny_bind (wpAny_newObj_type ?_ (by size_fits))
  refine wpAny_bind (m := firstArgMember _ _) (wpAny_of_eq (a := Value.none) (by first | rfl | (simp only [firstArgMember]; rfl)) ?_)
  refine wpAny_newObj_type ?_ (by size_fits)
  simp only [raiseNew]
  refine wpAny_bind (wpAny_handled ?_)
  first | rw [show A.in1.handled = none from hh] | rw [hh]
  refine wpAny_bind (wpAny_pure (wpAny_throw ?_))
  refine hE _ _ ?_ ⟨_, Heap.get?_push_size _ rfl, rfl⟩
  refine ((?_ : Heap.ExtBut it s.heap _).push _).push _
  exact fun b ob hb e => (Heap.get?_update_other _ _ (Ne.symm hb)).trans ((Heap.get?_update_other _ _ (Ne.symm hb)).trans e)
end
/-- what a walk over reversed(the tuple at a) has left behind i steps -/
def StR (it a : Addr) (items : Array Value) (i : Nat) (h : Heap) : Prop := i ≤ items.size ∧ IsRt h it a ((items.size : Int) - 1 - (i : Nat)) ∧ IsTup h a items ∧ it ≠ a
theorem draws_rt {prog : Program} {w : World} {A : Around} {it a : Addr} {items : Array Value} (hh : A.handled = none) (hz : items.size ≤ sizeLine) : Draws prog w A.in1 it [it, a] items.size (fun i x => items[items.size - 1 - i]? = some x) (StR it a items) where
  live := fun i h ⟨_, ⟨o, ho, _⟩, _⟩ => ⟨o, ho⟩
  frame := fun i h h' ⟨h1, h2, ⟨o, ho, r⟩, h4⟩ k => ⟨h1, h2.at fun o q => k it (by simp) o q, ⟨o, k a (by simp) o ho, r⟩, h4⟩
  item := fun i s Q E lt ⟨h1, h2, h3, h4⟩ hQ => by
    have e : ((items.size : Int) - 1 - (i : Nat)) = ((items.size - 1 - i : Nat) : Int) := by omega
    rw [e] at h2
    have l2 : items.size - 1 - i < items.size := by omega
    refine draw_rt h2 h3 (Array.getElem?_eq_getElem l2) hz fun h' r sb => hQ _ h' _ (Array.getElem?_eq_getElem l2) ⟨lt, ?_, ?_, h4⟩ sb
    · have e2 : ((items.size - 1 - i : Nat) : Int) - 1 = (items.size : Int) - 1 - ((i + 1 : Nat) : Int) := by omega
      rw [← e2]
      exact r
    · obtain ⟨o, ho, r2⟩ := h3
      exact ⟨o, (sb.2 a (Ne.symm h4)).trans ho, r2⟩
  done := fun s Q E ⟨h1, h2, h3, h4⟩ hE => by
    have e : ((items.size : Int) - 1 - (items.size : Nat)) = -1 := by omega
    rw [e] at h2
    exact draw_rt_end hh h2 hE
theorem meets_enum_rt {a : Addr} {k : Int} (it : Addr) :
    Meets (Builtin.«enumerate.__new__» ⟨[.type "enumerate", .ref it], []⟩) (fun _ R s => IsRt s.heap it a k ∧ R (.ok (.ret (.ref s.heap.objs.size))) { s with heap := s.heap.push { cls := .type "enumerate", data := .fields #[.none, .bool false, .ref it, rawInt 0, .none, .none] } }) :=
  .of_wp fun prog w A R s h => by
    obtain ⟨hp, g, d, tk, os⟩ := s
    obtain ⟨hr, h⟩ := h
    have sub := sub_enumerate
    have itr : ∀ {A' : Around} {E : Value → Shared → Prop} {Q : Value → Shared → Prop}, Q (.ref it) ⟨hp, g, d, tk, os⟩ → wpAny (model prog w) A' (pyIter (.ref it)) Q E ⟨hp, g, d, tk, os⟩ := fun q => iter_rt hr q
    wp_walk using itr
    refine wpAny_stack_any fun st => wpAny_pure ?_
    split
    · rename_i c _ _ _ _ _
      cases (c == Value.type "enumerate")
      · wp_walk using itr
        exact ⟨_, rfl, h⟩
      · wp_walk using itr
        exact ⟨_, rfl, h⟩
    · wp_walk using itr
      exact ⟨_, rfl, h⟩
theorem call_enum_rt {prog : Program} {w : World} {A : Around} {E : Value → Shared → Prop} {s : Shared} {it a : Addr} {k : Int} {Q : Value → Shared → Prop} (hr : IsRt s.heap it a k)
    (h : ∀ h', IsEnum h' s.heap.objs.size it 0 .none → (∀ b o, s.heap.get? b = some o → h'.get? b = some o) → Q (.ref s.heap.objs.size) { s with heap := h' }) : wpAny (model prog w) A (call (.type "enumerate") [.ref it]) Q E s := by
  refine callType_new F.called_enumerate (by decide) (F.typeCall_enumerate_1 _) (F.newCall_enumerate_1 _) (fun obj => F.args_object_init_2 obj _) F.entry_enumerate_new (meets_enum_rt (a := a) (k := k) it) ⟨hr, ?_⟩
  have he : IsEnum (s.heap.push { cls := .type "enumerate", data := .fields #[.none, .bool false, .ref it, rawInt 0, .none, .none] }) s.heap.objs.size it 0 .none := Heap.get?_push_size _ rfl
  exact ⟨⟨_, he, rfl⟩, h _ he fun b o x => Heap.get?_push_of_some _ x⟩
/-- the numbered items, from the last -/
def ItvE (K : PySem.W.Frag) (a : Addr) (n : Nat) : L2.It :=
  ⟨fun i H => i < n ∧ ∃ xs : List V, SqT K H a xs ∧ xs.length = n, fun i H v H' => ∃ T x, v = .ref T ∧ H T = none ∧ H' = upd H T (.tup [.int (i : Nat), x]) ∧ ∀ xs, SqT K H a xs → xs[n - 1 - i]? = some x, fun i H => n ≤ i ∧ ∃ xs : List V, SqT K H a xs ∧ xs.length = n⟩
theorem turn_enr {P : Program} {w : World} {K : PySem.W.Frag} {elts : List Expr} {kk : Nat} {tpos : Pos} (a e it : Addr) (n : Nat) :
    Turn P w K (.Tuple elts kk tpos) (ItvE K a n) [e, it] e (fun i h => (∃ old, IsEnum h e it ((i : Nat) : Int) old) ∧ i ≤ n ∧ IsRt h it a ((n : Int) - 1 - (i : Nat)) ∧ e ≠ it ∧ it ≠ a ∧ e ≠ a) where
  mem := by simp
  obj := fun i h st b hb => by
    obtain ⟨⟨old, he⟩, _, ⟨o, ho, hc, hd⟩, _⟩ := st
    rcases (by simpa using hb : b = e ∨ b = it) with z | z
    · rw [z]; exact ⟨_, he, fun v q => nomatch q⟩
    · rw [z]; exact ⟨o, ho, fun v q => by rw [hd] at q; cases q⟩
  keep := fun i h h' st k => let ⟨⟨old, he⟩, hn, hi, r⟩ := st; ⟨⟨old, k e (by simp) _ he⟩, hn, hi.at fun o q => k it (by simp) o q, r⟩
  item := by
    intro X hP hw hK hc i pins s σ H E I hf st hg
    subst hP hw hK
    obtain ⟨⟨old, he⟩, hn, hit, hne, hia, hea⟩ := st
    obtain ⟨lt, xs, hq, hxn⟩ := hg
    obtain ⟨its, rv, p, hz⟩ := I.tuple hq
    have hl := rv.length
    have sz : its.toArray.size = n := by rw [List.size_toArray, ← hl, hxn]
    have lel : e < s.heap.objs.size := Heap.lt_size he
    have lil : it < s.heap.objs.size := by obtain ⟨_, q, _⟩ := hit; exact Heap.lt_size q
    have hd : X.A.in1.handled = none := I.ok.hd hc
    have D := draws_rt (prog := X.prog) (w := X.w) (A := X.A) (it := it) (a := a) (items := its.toArray) hd (by rw [sz, ← hxn]; exact hz)
    refine wpAny_pyNext_enum_itemD D he (show StR it a its.toArray i s.heap from ⟨by rw [sz]; exact hn, by rw [sz]; exact hit, p, hia⟩) (by rw [sz]; exact lt) hne (by simp [hne, hea]) fun u h' tk hu ho hst hT hsz hk => ?_
    rw [sz] at hu
    have el : n - 1 - i < xs.length := by omega
    obtain ⟨x, hx⟩ : ∃ x, xs[n - 1 - i]? = some x := ⟨_, List.getElem?_eq_getElem el⟩
    obtain ⟨u', hu', ru⟩ := rv.get hx
    have : u' = u := by simp at hu; rw [hu] at hu'; cases hu'; rfl
    subst this
    refine ⟨_, rfl, wpAny_letOwnedTupleGo_enum (s := { s with heap := h', toks := tk + 1 }) ho fun h'' he' sb => ?_⟩
    have hT2 : h''.get? s.heap.objs.size = some { cls := .type "tuple", data := .seq #[.int i tk, u'] } := (sb.2 _ (Nat.ne_of_gt lel)).trans hT
    have new : ObjOk X.prog X.w (upd H s.heap.objs.size (.tup [.int (i : Nat), x])) h'' s.heap.objs.size (.tup [.int (i : Nat), x]) :=
      ⟨by show 2 ≤ sizeLine; decide, [.int i tk, u'], .cons ⟨_, rfl⟩ (.cons ru .nil), ⟨_, hT2, rfl, _, rfl⟩⟩
    have I1 : Inv X pins σ (upd H s.heap.objs.size (.tup [.int (i : Nat), x])) { s with heap := h'', toks := tk + 1 } :=
      I.turnedNew (ch := [e, it]) (fun b ob hb q => (sb.2 b (fun z => hb (by simp [z]))).trans (hk b ob (fun z => hb (by simp [z])) (fun z => hb (by simp [z])) q)) hf (Nat.le_refl _) new
    obtain ⟨_, r2, _, _⟩ := hst
    rw [sz] at r2
    refine ⟨.ref s.heap.objs.size, _, I1, rfl, ⟨_, x, rfl, I.hok.fresh (Nat.le_refl _), rfl, fun ys hy => by rw [I.tuple_inj hy hq]; exact hx⟩, ⟨⟨u', ?_⟩, lt, r2.at fun o q => (sb.2 it (Ne.symm hne)).trans q, hne, hia, hea⟩, fun b hb => ?_⟩
    · have e1 : ((i + 1 : Nat) : Int) = (i : Int) + 1 := by omega
      rw [e1]; exact he'
    · have lb : b < s.heap.objs.size := by
        rcases (by simpa using hb : b = e ∨ b = it) with z | z
        · rw [z]; exact lel
        · rw [z]; exact lil
      rw [upd_ne (Nat.ne_of_lt lb)]
      exact (hf b hb).1
  done := by
    intro X hP hw hK hc i pins s σ H E I hf st hg
    subst hP hw hK
    obtain ⟨⟨old, he⟩, hn, hit, hne, hia, hea⟩ := st
    obtain ⟨hni, xs, hq, hxn⟩ := hg
    obtain rfl : i = n := Nat.le_antisymm hn hni
    obtain ⟨its, rv, p, hz⟩ := I.tuple hq
    have hl := rv.length
    have sz : its.toArray.size = i := by rw [List.size_toArray, ← hl, hxn]
    have hd : X.A.in1.handled = none := I.ok.hd hc
    have D := draws_rt (prog := X.prog) (w := X.w) (A := X.A) (it := it) (a := a) (items := its.toArray) hd (by rw [sz, ← hxn]; exact hz)
    obtain ⟨f0, f1, f2, f3, f4, f5⟩ := hf it (by simp)
    exact wpAny_pyNext_enum_endD D he (show StR it a its.toArray its.toArray.size s.heap from ⟨Nat.le_refl _, by rw [sz]; exact hit, p, hia⟩) fun h' eb => ⟨rfl, I.turned (t' := s.toks) (fun b o hb q => eb b o hb q) f0 f1 f3 f4 f5⟩
  self := fun A i s Q E st h => let ⟨⟨_, he⟩, _⟩ := st; wpAny_pyIter_enum he h
def iEnmRev (K : PySem.W.Frag) (te : TE) : L2.TI := fun σ H R => te σ H fun v H1 => ∃ (a : Addr) (xs : List V), v = .ref a ∧ SqT K H1 a xs ∧ R (ItvE K a xs.length) H1
section
variable {D0 : Wd} {n : Nat} {X : Cx} {CA : CAp} {e : Expr} {ie : E} {p p2 pos pos2 tpos : Pos} {elts : List Expr} {kk : Nat} {te : TE}
theorem pi_enmRev (hg : Gl X "enumerate") (hm : X.mg "enumerate" = none) (hg2 : Gl X "reversed") (hm2 : X.mg "reversed" = none) (he : PE X e te) (hs : starEach [e] X.env = (false, eval e X.env) :: starEach [] X.env) (hs2 : starEach [.Call (.Name "reversed" p2) [e] [] pos2] X.env = (false, eval (.Call (.Name "reversed" p2) [e] [] pos2) X.env) :: starEach [] X.env) :
    PI X (.Tuple elts kk tpos) (.Call (.Name "enumerate" p) [.Call (.Name "reversed" p2) [e] [] pos2] [] pos) (iEnmRev X.K te) := by
  refine ⟨fun pins s σ H R I h => ?_⟩
  refine Call_ (ld_blt I hg hm boot_enumerate (PyProof.Rows.callWith_type1 (args_cons ?_ hs2) hs2 rfl))
  refine Call_ (ld_blt I hg2 hm2 PyProof.Rows.boot_reversed (PyProof.Rows.callWith_type1 (args_cons (thn (he.run pins s σ H _ I h) fun u s1 ⟨v, H1, I1, r1, q1⟩ => args_nil ?_) hs) hs rfl))
  obtain ⟨a, xs, ev, hq, q⟩ := q1
  subst ev
  obtain rfl : u = Value.ref a := r1
  obtain ⟨its, rv, p', hz⟩ := I1.tuple hq
  have hl := rv.length
  have hn := line63
  refine call_reversed_tup p' (fun A E Q k => len_tuple p' (by simp only [List.size_toArray] <;> omega) k) ?_
  have e1 : ((its.toArray.size : Nat) : Int) - 1 = (xs.length : Int) - 1 - ((0 : Nat) : Int) := by simp only [List.size_toArray]; omega
  have hr : IsRt (s1.heap.push (rtObj a (((its.toArray.size : Nat) : Int) - 1))) s1.heap.objs.size a (((its.toArray.size : Nat) : Int) - 1) := ⟨_, Heap.get?_push_size _ rfl, rfl, rfl⟩
  refine args_nil (call_enum_rt (s := { s1 with heap := s1.heap.push (rtObj a (((its.toArray.size : Nat) : Int) - 1)), toks := s1.toks + 1 + 1 }) hr fun h' he' kp => wpAny_pyIter_enum he' ?_)
  have kp0 : ∀ b o, s1.heap.get? b = some o → h'.get? b = some o := fun b o e => kp b o (Heap.get?_push_of_some _ e)
  have zp : (s1.heap.push (rtObj a (((its.toArray.size : Nat) : Int) - 1))).objs.size = s1.heap.objs.size + 1 := Heap.size_push ..
  have la : a < s1.heap.objs.size := by obtain ⟨o, ho, _⟩ := p'; exact Heap.lt_size ho
  have I2 : Inv X pins σ H1 { s1 with heap := h', toks := s1.toks + 1 + 1 } := I1.kept kp0
  refine ⟨(s1.heap.push (rtObj a (((its.toArray.size : Nat) : Int) - 1))).objs.size, [(s1.heap.push (rtObj a (((its.toArray.size : Nat) : Int) - 1))).objs.size, s1.heap.objs.size], _, _, H1, rfl, I2, turn_enr a _ s1.heap.objs.size xs.length, ⟨⟨.none, he'⟩, Nat.zero_le _, ?_, by rw [zp]; exact Nat.succ_ne_self _, Nat.ne_of_gt la, by rw [zp]; exact Nat.ne_of_gt (Nat.lt_succ_of_lt la)⟩, fun b hb => ?_, q⟩
  · rw [← e1]
    exact hr.at fun o q => kp _ o q
  · have hle : s1.heap.objs.size ≤ b := by
      rcases (by simpa using hb : b = (s1.heap.push (rtObj a (((its.toArray.size : Nat) : Int) - 1))).objs.size ∨ b = s1.heap.objs.size) with z | z
      · rw [z, zp]; exact Nat.le_add_right _ _
      · rw [z]; exact Nat.le_refl _
    exact I1.fpOk hle (I1.hok.fresh hle)
theorem irel_enr {K : PySem.W.Frag} {ρ0 : List Addr} {H0 : Hp} {xs : List D} {vs : List V} {a : Addr} (s : SqT K H0 a vs) (rs : DRels K ρ0 H0 xs vs) : IRel D0 K ρ0 H0 (.enm (.revT xs)) (ItvE K a vs.length) := by
  intro i ρ hm H f h
  simp only [AR.It.at]
  have s' := f.sqT s
  have rs' := rs.fwd f
  cases ei : xs.reverse[i]? with
  | none =>
    have q := List.getElem?_eq_none_iff.mp ei
    rw [List.length_reverse, rs'.len] at q
    exact ⟨q, vs, s', rfl⟩
  | some x =>
    obtain ⟨hi, ex⟩ := rev_get ei
    obtain ⟨v, hv, r⟩ := rs'.get ex
    rw [rs'.len] at hv hi
    refine ⟨⟨hi, vs, s', rfl⟩, fun w H' ⟨T, x', e1, e2, e3, e4⟩ => ?_⟩
    have e4 := e4 vs s'
    rw [hv] at e4
    cases e4
    subst e3
    obtain ⟨h2, f2⟩ := h.aside (o := .tup [.int (i : Nat), v]) e2
    rw [e1]
    exact ⟨h2, f2, mk_tup (.inl (.inl upd_same)) (DRels.mk (mk_int _) (DRels.mk (r.fwd f2) DRels.nil))⟩
theorem si_enmRev (ha : SE D0 n X CA e ie) (hm : X.mg "enumerate" = none) (hm2 : X.mg "reversed" = none) (hg : Gl X "enumerate" := by rfl) (hg2 : Gl X "reversed" := by rfl) (hst : StA X e := by rfl) (hst2 : StA X (.Call (.Name "reversed" p2) [e] [] pos2) := by rfl) : SI D0 n X CA (.Tuple elts kk tpos) (.Call (.Name "enumerate" p) [.Call (.Name "reversed" p2) [e] [] pos2] [] pos) .enmRev [ie] :=
  ⟨fun W tk => PI.weak (pi_enmRev hg hm hg2 hm2 (ha.run W tk) hst hst2) fun σ H Q h => tI_mono (tII_1 h) fun v H1 ⟨ρ1, hm1, d, j, h1, h2, e, q⟩ => by
    simp only [itOf, i1, itEnmRev, itRev] at e
    split at e
    · rename_i xs he
      cases e
      split at he
      · split at he <;> cases he
      · rename_i ys
        cases he
        obtain ⟨g, vs, rfl, s, rs⟩ := dr_tup h2
        exact ⟨g, vs, rfl, s, q _ (irel_enr s rs)⟩
      · cases he
    · cases e⟩
end
end AR
end
section
/-! Snd21: the law's end. -/
set_option Elab.async false
set_option linter.all false
set_option maxRecDepth 100000
set_option maxHeartbeats 4000000
namespace AR
open PySem L2 PySem.Spec PyProof.Rows
/-- the law's promise: a script that is read -/
def spL (D0 : Wd) (K : PySem.W.Frag) (n i : Nat) : Sp := fun vs H Q E => vs.length = 1 ∧ ∃ ρ hm, SVRels D0.L K CAn ρ H [.d (.ref 0)] vs ∧ HRel D0.G K ρ hm H ∧ PO D0 K ρ H E (RlE D0 K CAn) (AR.run D0.P n i [.d (.ref 0)] [] hm) fun _ _ _ H' v => Q v H'
section
variable {D0 : Wd} {P : Program} {w : World} {K : PySem.W.Frag} {mg : Str → Option Value} {base : Heap} {n i : Nat} {f : Addr} {fd : FuncData} {x : Str}
theorem fnOk_law (F : FnI P w K mg base (n + 5) f fd [x] (spI D0 K n i 1)) : FnOk P w K mg base (L2.CX P w) (n + 5) f fd [x] (spL D0 K n i) :=
  ⟨fun vs H Q E h => h.1, fun A outer s H args us vs Q E hr e0 hb r h => by
    obtain ⟨hl, ρ, hm, h1, h2, h3⟩ := h
    exact F.run A outer s H args us vs Q E hr e0 hb r ⟨hl, ρ, hm, _, SVRels.fwd (Fwd.refl _ _) (fun _ _ _ z => z.elim) h1, h2, h3⟩⟩
theorem ints_rel {ρ : List Addr} {H : Hp} : ∀ ns : List Int, DRels K ρ H (ns.map D.int) (ns.map V.int)
  | [] => DRels.nil
  | k :: ns => DRels.mk (mk_int k) (ints_rel ns)
/-- the script as the small heap has it: a list of one's own, or one that is only read -/
def Script (ns : List Int) (o : HOb) : Prop := o = .lst (ns.map D.int) ∨ o = .rol (ns.map D.int)
theorem law_sp {a : Addr} {ns : List Int} {H : Hp} (hS : SqL K H a (ns.map V.int)) (tb : LamX.Tabs D0.G.T H) (run_ : ∀ o, Script ns o → ∃ hm', AR.run D0.P n i [.d (.ref 0)] [] [o] = .ok (.d (.bl true)) hm') : spL D0 K n i [.ref a] H (fun v _ => v = .bl true) fun _ _ _ => False := by
  have key : ∀ o, Script ns o → (∀ ρ, ORel D0.G K ρ H a o) → spL D0 K n i [.ref a] H (fun v _ => v = .bl true) fun _ _ _ => False := fun o ho hr => by
    obtain ⟨hm', e⟩ := run_ o ho
    refine ⟨rfl, [a], [o], SVRels.cons_iff.mpr ⟨.ref a, [], rfl, SVRel.d_iff.mpr (by simp [DRel]), SVRels.nil_iff.mpr rfl⟩, ⟨rfl, fun m u b e1 e2 => ?_, fun m k b om on e1 e2 _ _ _ _ => ?_, tb⟩, ?_⟩
    · cases m with
      | zero => cases e1; cases e2; exact hr _
      | succ m => cases e1
    · cases m with
      | zero => cases k with
        | zero => rfl
        | succ k => cases e2
      | succ m => cases e1
    · rw [e]
      intro ρ' H' v _ _ r
      have r := SVRel.d_iff.mp r
      simpa [DRel] using r
  rcases hS with (h | ⟨o, h⟩) | h
  · exact key _ (.inl rfl) fun ρ => ⟨_, h, ints_rel ns⟩
  · exact key _ (.inr rfl) fun ρ => ⟨_, .inl ⟨o, h⟩, ints_rel ns⟩
  · exact key _ (.inr rfl) fun ρ => ⟨_, .inr (.inr h), ints_rel ns⟩
end
section
variable {D0 : Wd} {P : Program} {w : World} {K : PySem.W.Frag} {mg : Str → Option Value} {base : Heap} {n i : Nat} {fd : FuncData} {x qual : Str} {params : Arguments} {body : List Stmt} {scope : Scope} {N ps : List Str} {irs : List S} {p : Str × Option Str}
theorem DefF.fnI (T : DefF D0 K mg i x qual params body scope N ps irs p) (F : FunD K x qual params body scope [] [] (He.fAd K p) fd)
    (hbody : ∀ (A : Around) (outer : List PySem.Env) (s : Shared) (H : Hp) (E : XK), CxOk n (Cd D0 P w K mg base N qual scope (He.fAd K p) (.ref (He.cT K p).1) A outer s H E) (CAe outer s H) → SSs D0 n (Cd D0 P w K mg base N qual scope (He.fAd K p) (.ref (He.cT K p).1) A outer s H E) (CAe outer s H) body irs) : FnI P w K mg base (n + 6) (He.fAd K p) fd ps (spI D0 K (n + 1) i ps.length) := by
  obtain ⟨oc, od, dV, kV, doc, pm, an, cdv, ct, osl, rfl, lk, hcd, _, _⟩ := id F.ex
  obtain ⟨c, rfl⟩ := He.codeIn_ref hcd
  have ec : (He.cT K p).1 = c := He.codeOf_eq lk rfl
  rw [ec] at hbody
  exact fnI_of lk hcd T.sc T.ir hbody
theorem cx_none {P : Program} {w : World} {H : Hp} {s : Shared} {e : Value} {s' : Shared} (h : L2.CX P w [] H s (fun _ _ _ => False) e s') : False := by
  obtain ⟨_, _, _, _, _, _, _, _, _, _, _, _, z⟩ := h
  exact z
end
end AR
end
section
set_option Elab.async false
set_option linter.all false
set_option maxRecDepth 100000
set_option maxHeartbeats 4000000
namespace AR
namespace K88
open PySem L2 PySem.Spec PyProof.Rows

def clsN : List Str := ["AllError", "NoName", "NoNumber", "NoSum", "NoStep", "NoBook", "NoRoutine", "NoPoint", "NoRow", "NoState", "NoStart", "NoClaim", "NoDeed", "NoPast", "Twice", "Used", "Unlike", "TooMany", "NoText"]
def kt_AllError : List (Nat × Bool) := [(18, true)]
def k_NoBook : List (Nat × Bool) := [(18, false)]
def k_NoClaim : List (Nat × Bool) := [(18, false)]
def k_NoDeed : List (Nat × Bool) := [(18, false)]
def k_NoName : List (Nat × Bool) := [(18, false)]
def k_NoNumber : List (Nat × Bool) := [(18, false)]
def k_NoPast : List (Nat × Bool) := [(18, false)]
def k_NoPoint : List (Nat × Bool) := [(18, false)]
def k_NoRoutine : List (Nat × Bool) := [(18, false)]
def k_NoRow : List (Nat × Bool) := [(18, false)]
def k_NoStart : List (Nat × Bool) := [(18, false)]
def k_NoState : List (Nat × Bool) := [(18, false)]
def k_NoStep : List (Nat × Bool) := [(18, false)]
def k_NoSum : List (Nat × Bool) := [(18, false)]
def k_NoText : List (Nat × Bool) := [(18, true)]
def k_TooMany : List (Nat × Bool) := [(18, false)]
def k_Twice : List (Nat × Bool) := [(18, false)]
def k_Unlike : List (Nat × Bool) := [(18, false)]
def k_Used : List (Nat × Bool) := [(18, false)]
abbrev c_FIGURES : D := .str "0123456789"
abbrev c_MOST_DEEP : D := .int 60
abbrev c_MOST_FIGURES : D := .int 12
abbrev c_MOST_NUMBER : D := .int 1000000000000
abbrev c_SMALL : D := .str "abcdefghijklmnopqrstuvwxyz"
def n_is_word : List Str := ["thing", "sign"]
def i_is_word : List S := [(.ret (.and (.op (.isi [.str]) [(.v 0)]) (.and (.op .ne [(.v 0), (.c (.str ""))]) (.op .all [(.lc (.nm 1) [1] .seq [(.v 0)] (.c (.bl true)) (.op .isin [(.v 1), (.c c_SMALL)]))]))))]
def n_is_figure : List Str := ["thing"]
def i_is_figure : List S := [(.ret (.and (.op (.isi [.int]) [(.v 0)]) (.and (.not (.op (.isi [.bool]) [(.v 0)])) (.op .lt [(.op .abs [(.v 0)]), (.c c_MOST_NUMBER)]))))]
def n_is_value : List Str := ["thing", "layer", "deep", "later", "one"]
def i_is_value : List S := [(.asg (.nm 1) (.op .lst [(.v 0)])), (.for (.nm 2) .rng [(.c c_MOST_DEEP)] [(.asg (.nm 3) (.op .lst [])), (.for (.nm 4) .seq [(.v 1)] [(.ifs (.and (.op (.isi [.tuple]) [(.v 4)]) (.op .lt [(.v 2), (.op .sub [(.c c_MOST_DEEP), (.c (.int 1))])])) [(.expr (.meth .list .extend (.v 3) [(.v 4)]))] [(.ifs (.and (.op .notNon [(.v 4)]) (.and (.not (.call 0 [(.v 4)])) (.not (.call 1 [(.v 4)])))) [(.ret (.c (.bl false)))] [])])]), (.ifs (.op .eqNil [(.v 3)]) [(.ret (.c (.bl true)))] []), (.asg (.nm 1) (.v 3))]), (.ret (.c (.bl false)))]
def n_value_text : List Str := ["value", "found", "left", "here", "at", "one"]
def i_value_text : List S := [(.ifs (.not (.call 2 [(.v 0)])) [(.raise 18 (some "line") [(.c (.str "no value")), (.c (.int 0))])] []), (.par 1 2 (.op .lst []) (.op .lst [(.v 0)])), (.while (.op .neNil [(.v 2)]) [(.asg (.nm 3) (.meth .list .pop (.v 2) [])), (.ifs (.op (.isi [.list]) [(.v 3)]) [(.expr (.meth .list .append (.v 1) [(.op .ix [(.v 3), (.c (.int 0))])]))] [(.ifs (.op (.isi [.tuple]) [(.v 3)]) [(.expr (.meth .list .append (.v 2) [(.op .lst [(.c (.str ")"))])])), (.for (.tp [(.nm 4), (.nm 5)]) .enmRev [(.v 3)] [(.expr (.meth .list .extend (.v 2) [(.ite (.op .eq [(.v 4), (.op .sub [(.op .len [(.v 3)]), (.c (.int 1))])]) (.op .lst [(.v 5)]) (.op .lst [(.v 5), (.op .lst [(.c (.str " "))])]))]))]), (.expr (.meth .list .append (.v 2) [(.op .lst [(.c (.str "("))])]))] [(.expr (.meth .list .append (.v 1) [(.ite (.op .isNon [(.v 3)]) (.c (.str "-")) (.op .str [(.v 3)]))]))])])]), (.ret (.meth .str .join (.c (.str "")) [(.v 1)]))]
def n_pieces_of : List Str := ["text", "found", "at", "end"]
def i_pieces_of : List S := [(.par 1 2 (.op .lst []) (.c (.int 0))), (.while (.op .lt [(.v 2), (.op .len [(.v 0)])]) [(.asg (.nm 3) (.op .add [(.v 2), (.c (.int 1))])), (.ifs (.op .notin [(.op .ix [(.v 0), (.v 2)]), (.c (.str "() "))]) [(.while (.and (.op .lt [(.v 3), (.op .len [(.v 0)])]) (.op .notin [(.op .ix [(.v 0), (.v 3)]), (.c (.str "() "))])) [(.aug 3 .add (.c (.int 1)))])] []), (.expr (.meth .list .append (.v 1) [(.op .slB [(.v 0), .op .asInt [(.v 2)], .op .asInt [(.v 3)]])])), (.asg (.nm 2) (.v 3))]), (.ret (.v 1))]
def n_plain_of : List Str := ["piece", "bare", "sign"]
def i_plain_of : List S := [(.ifs (.op .eq [(.v 0), (.c (.str "-"))]) [(.ret (.op .lst [(.c .non)]))] []), (.ifs (.call 0 [(.v 0)]) [(.ret (.op .lst [(.v 0)]))] []), (.asg (.nm 1) (.ite (.op .eq [(.op .slH [(.v 0), (.c (.int 1))]), (.c (.str "-"))]) (.op .slL [(.v 0), (.c (.int 1))]) (.v 0))), (.ifs (.or (.not (.chain .le .le (.c (.int 1)) (.op .len [(.v 1)]) (.c c_MOST_FIGURES))) (.not (.op .all [(.lc (.nm 2) [2] .seq [(.v 1)] (.c (.bl true)) (.op .isin [(.v 2), (.c c_FIGURES)]))]))) [(.ret (.op .lst []))] []), (.ret (.ite (.op .eq [(.op .str [(.op .int [(.v 0)])]), (.v 0)]) (.op .lst [(.op .int [(.v 0)])]) (.op .lst [])))]
def n_value_of : List Str := ["pieces", "open_ones", "done", "piece", "one"]
def i_value_of : List S := [(.par 1 2 (.op .lst []) (.op .lst [])), (.for (.nm 3) .seq [(.v 0)] [(.ifs (.op .eq [(.v 3), (.c (.str "("))]) [(.expr (.meth .list .append (.v 1) [(.op .lst [])])), .cont] []), (.ifs (.op .eq [(.v 3), (.c (.str " "))]) [.cont] []), (.ifs (.op .eq [(.v 3), (.c (.str ")"))]) [(.ifs (.op .eqNil [(.v 1)]) [(.ret (.op .lst []))] []), (.asg (.nm 4) (.op .lst [(.op .tupleOf [(.meth .list .pop (.v 1) [])])]))] [(.asg (.nm 4) (.call 5 [(.v 3)]))]), (.ifs (.or (.op .eqNil [(.v 4)]) (.and (.op .eqNil [(.v 1)]) (.op .neNil [(.v 2)]))) [(.ret (.op .lst []))] []), (.ifs (.op .eqNil [(.v 1)]) [(.asg (.nm 2) (.v 4))] [(.expr (.meth .list .append (.op .ix [(.v 1), (.op .neg [(.c (.int 1))])]) [(.op .ix [(.v 4), (.c (.int 0))])]))])]), (.ret (.ite (.op .eqNil [(.v 1)]) (.v 2) (.op .lst [])))]
def n_read_value : List Str := ["text", "found"]
def i_read_value : List S := [(.ifs (.not (.op (.isi [.str]) [(.v 0)])) [(.raise 18 (some "line") [(.c (.str "no text")), (.c (.int 0))])] []), (.asg (.nm 1) (.call 6 [(.call 4 [(.v 0)])])), (.ifs (.or (.op .eqNil [(.v 1)]) (.or (.not (.call 2 [(.op .ix [(.v 1), (.c (.int 0))])])) (.op .ne [(.call 3 [(.op .ix [(.v 1), (.c (.int 0))])]), (.v 0)]))) [(.raise 18 (some "line") [(.c (.str "no text of a value")), (.c (.int 0))])] []), (.ret (.op .ix [(.v 1), (.c (.int 0))]))]
def n__law_begun : List Str := ["script", "great", "cell"]
def i__law_begun : List S := [(.asg (.nm 1) (.lc (.nm 2) [2] .seq [(.v 0)] (.op .ge [(.op .abs [(.v 2)]), (.op .pow [(.c (.int 10)), (.c (.int 18))])]) (.op .sub [(.op .abs [(.v 2)]), (.op .pow [(.c (.int 10)), (.c (.int 18))])]))), (.ret (.dict [(.inr "great"), (.inr "cells"), (.inr "rest"), (.inr "turn")] [(.v 1), (.lc (.nm 2) [2] .seq [(.v 0)] (.c (.bl true)) (.op .abs [(.v 2)])), (.c (.int 0)), (.c (.int 0))]))]
def n__law_mixed : List Str := ["state", "turn", "found", "prime", "blend", "cell"]
def i__law_mixed : List S := [(.par 1 2 (.op .add [(.op .ix [(.v 0), (.c (.str "turn"))]), (.c (.int 1))]) (.c (.int 0))), (.setIx (.v 0) (.c (.str "turn")) (.v 1)), (.for (.nm 3) .seq [(.op .lst [(.c (.int 2147483629)), (.c (.int 2147483587)), (.c (.int 2147483579)), (.c (.int 2147483563))])] [(.asg (.nm 4) (.op .add [(.op .mul [(.c (.int 69621)), (.v 1)]), (.op .fdiv [(.v 3), (.c (.int 41))])])), (.for (.nm 5) .seq [(.op .ix [(.v 0), (.c (.str "cells"))])] [(.asg (.nm 4) (.op .mod [(.op .int [(.op .add [(.op .add [(.op .mul [(.v 4), (.c (.int 48271))]), (.v 5)]), (.v 1)])]), (.v 3)]))]), (.asg (.nm 2) (.op .add [(.op .mul [(.v 2), (.c (.int 2147483659))]), (.op .mod [(.op .int [(.op .pow [(.v 4), (.c (.int 5))])]), (.v 3)])]))]), (.ret (.v 2))]
def n__law_draw : List Str := ["state", "room", "found"]
def i__law_draw : List S := [(.ifs (.op .eq [(.op .ix [(.v 0), (.c (.str "rest"))]), (.c (.int 0))]) [(.setIx (.v 0) (.c (.str "rest")) (.ite (.op .neNil [(.op .ix [(.v 0), (.c (.str "great"))])]) (.meth .list .popAt (.op .ix [(.v 0), (.c (.str "great"))]) [(.c (.int 0))]) (.call 9 [(.v 0)])))] []), (.asg (.nm 2) (.op .mod [(.op .int [(.op .ix [(.v 0), (.c (.str "rest"))])]), (.v 1)])), (.setIx (.v 0) (.c (.str "rest")) (.op .fdiv [(.op .ix [(.v 0), (.c (.str "rest"))]), (.v 1)])), (.ret (.v 2))]
def n__law_pick : List Str := ["state", "some"]
def i__law_pick : List S := [(.ret (.op .ix [(.v 1), (.call 10 [(.v 0), (.op .len [(.v 1)])])]))]
def n__law_is : List Str := ["found", "due", "one", "other"]
def i__law_is : List S := [(.ifs (.op (.isi [.tuple, .list]) [(.v 1)]) [(.ifs (.or (.op .ne [(.op (.isi [.tuple]) [(.v 1)]), (.op (.isi [.tuple]) [(.v 0)])]) (.or (.op .ne [(.op (.isi [.list]) [(.v 1)]), (.op (.isi [.list]) [(.v 0)])]) (.op .ne [(.op .len [(.v 0)]), (.op .len [(.v 1)])]))) [(.ret (.c (.bl false)))] []), (.ret (.op .eqNil [(.lc (.tp [(.nm 2), (.nm 3)]) [2, 3] .zip [(.v 0), (.v 1)] (.not (.call 12 [(.v 2), (.v 3)])) (.c (.int 1)))]))] []), (.ifs (.op (.isi [.dict]) [(.v 1)]) [(.ret (.and (.op (.isi [.dict]) [(.v 0)]) (.call 12 [(.op .listOf [.bad]), (.op .listOf [.bad])])))] []), (.ifs (.or (.op .isNon [(.v 1)]) (.op (.isi [.str]) [(.v 1)])) [(.ret (.and (.op .eq [(.op (.isi [.str]) [(.v 0)]), (.op (.isi [.str]) [(.v 1)])]) (.op .eq [(.v 0), (.v 1)])))] []), (.ret (.and (.op (.isi [.int]) [(.v 0)]) (.and (.op .eq [(.v 0), (.v 1)]) (.and (.op .eq [(.op .isTrue [(.v 0)]), (.op .isTrue [(.v 1)])]) (.op .eq [(.op .isFalse [(.v 0)]), (.op .isFalse [(.v 1)])])))))]
def n__law_caught : List Str := ["action", "found", "error"]
def i__law_caught : List S := [(.asg (.nm 1) (.op .lst [])), (.try [(.expr (.callv 0 []))] kt_AllError 2 [(.expr (.meth .list .append (.v 1) [(.v 2)]))]), (.ret (.ite (.op .neNil [(.v 1)]) (.op .ix [(.v 1), (.c (.int 0))]) (.c .non)))]
def n__law_word : List Str := ["action", "told", "error", "kinds", "found", "word", "is_one"]
def i__law_word : List S := [(.asg (.nm 1) (.op .lst [])), (.asg (.nm 2) (.callL 13 20 [0, 1])), (.ifs (.op .isNon [(.v 2)]) [(.ret (.op .ix [(.v 1), (.c (.int 0))]))] []), (.ifs (.op (.isErr k_Used) [(.v 2)]) [(.ret (.op .tup [(.c (.str "used")), .bad]))] []), (.ifs (.op (.isErr k_TooMany) [(.v 2)]) [(.ret (.op .tup [(.c (.str "many")), .bad]))] []), (.ifs (.op (.isErr k_NoText) [(.v 2)]) [(.ret (.op .tup [(.c (.str "text")), (.op (.fld "line" [18]) [(.v 2)])]))] []), (.asg (.nm 3) (.op .lst [(.op .tup [(.c (.str "name")), (.op (.isErr k_NoName) [(.v 2)])]), (.op .tup [(.c (.str "twice")), (.op (.isErr k_Twice) [(.v 2)])]), (.op .tup [(.c (.str "number")), (.op (.isErr k_NoNumber) [(.v 2)])]), (.op .tup [(.c (.str "routine")), (.op (.isErr k_NoRoutine) [(.v 2)])])])), (.asg (.nm 3) (.op .add [(.v 3), (.op .lst [(.op .tup [(.c (.str "point")), (.op (.isErr k_NoPoint) [(.v 2)])]), (.op .tup [(.c (.str "row")), (.op (.isErr k_NoRow) [(.v 2)])]), (.op .tup [(.c (.str "step")), (.op (.isErr k_NoStep) [(.v 2)])]), (.op .tup [(.c (.str "state")), (.op (.isErr k_NoState) [(.v 2)])])])])), (.asg (.nm 3) (.op .add [(.v 3), (.op .lst [(.op .tup [(.c (.str "start")), (.op (.isErr k_NoStart) [(.v 2)])]), (.op .tup [(.c (.str "sum")), (.op (.isErr k_NoSum) [(.v 2)])]), (.op .tup [(.c (.str "claim")), (.op (.isErr k_NoClaim) [(.v 2)])]), (.op .tup [(.c (.str "unlike")), (.op (.isErr k_Unlike) [(.v 2)])])])])), (.asg (.nm 3) (.op .add [(.v 3), (.op .lst [(.op .tup [(.c (.str "deed")), (.op (.isErr k_NoDeed) [(.v 2)])]), (.op .tup [(.c (.str "past")), (.op (.isErr k_NoPast) [(.v 2)])]), (.op .tup [(.c (.str "book")), (.op (.isErr k_NoBook) [(.v 2)])])])])), (.asg (.nm 4) (.lc (.tp [(.nm 5), (.nm 6)]) [5, 6] .seq [(.v 3)] (.v 6) (.v 5))), (.ret (.ite (.op .neNil [(.v 4)]) (.op .ix [(.v 4), (.c (.int 0))]) (.c (.str "other"))))]
def n__law_value_text : List Str := ["value", "one"]
def i__law_value_text : List S := [(.ifs (.op (.isi [.tuple]) [(.v 0)]) [(.ret (.op .add [(.op .add [(.c (.str "(")), (.meth .str .join (.c (.str " ")) [(.lc (.nm 1) [1] .seq [(.v 0)] (.c (.bl true)) (.call 15 [(.v 1)]))])]), (.c (.str ")"))]))] []), (.ret (.ite (.op .isNon [(.v 0)]) (.c (.str "-")) (.op .str [(.v 0)])))]
def n__law_plain : List Str := ["value", "one"]
def i__law_plain : List S := [(.ifs (.op (.isi [.list, .tuple]) [(.v 0)]) [(.ret (.op .eqNil [(.lc (.nm 1) [1] .seq [(.v 0)] (.not (.call 16 [(.v 1)])) (.c (.int 1)))]))] []), (.ifs (.op (.isi [.dict]) [(.v 0)]) [(.ret (.call 16 [(.op .listOf [.bad])]))] []), (.ret (.or (.op .isNon [(.v 0)]) (.op (.isi [.int, .str]) [(.v 0)])))]
def n__law_some_value : List Str := ["state", "deep", "way", "lap"]
def i__law_some_value : List S := [(.asg (.nm 2) (.ite (.op .gt [(.v 1), (.c (.int 0))]) (.call 10 [(.v 0), (.c (.int 6))]) (.call 10 [(.v 0), (.c (.int 3))]))), (.ifs (.op .eq [(.v 2), (.c (.int 0))]) [(.ret (.call 11 [(.v 0), (.op .lst [(.c (.str "a")), (.c (.str "on")), (.c (.str "zz")), (.c (.str "entry")), (.c (.str "abcdefghijklm"))])]))] []), (.ifs (.op .eq [(.v 2), (.c (.int 1))]) [(.ret (.call 11 [(.v 0), (.op .lst [(.c (.int 0)), (.c (.int 1)), (.op .sub [(.c (.int 0)), (.c (.int 1))]), (.c (.int 7)), (.op .sub [(.c (.int 0)), (.c (.int 42))]), (.c (.int 999999999999)), (.op .sub [(.c (.int 0)), (.c (.int 999999999999))])])]))] []), (.ifs (.op .eq [(.v 2), (.c (.int 2))]) [(.ret (.c .non))] []), (.ret (.op .tupleOf [(.lc (.nm 3) [3] .rng [(.call 10 [(.v 0), (.c (.int 4))])] (.c (.bl true)) (.call 17 [(.v 0), (.op .sub [(.v 1), (.c (.int 1))])]))]))]
def n__law_nested : List Str := ["many", "one", "lap"]
def i__law_nested : List S := [(.for (.nm 2) .rng [(.v 0)] [(.asg (.nm 1) (.op .tup [(.v 1)]))]), (.ret (.v 1))]
def n_law : List Str := ["script", "state", "thing", "deepest", "turn", "one", "other", "text", "at", "bent", "told"]
def i_law : List S := [(.asg (.nm 1) (.call 8 [(.v 0)])), (.for (.nm 2) .seq [(.op .lst [(.c (.str "A")), (.c (.str "")), (.c (.str "a b")), (.c (.str "a1")), (.c (.str "-")), (.op .pow [(.c (.int 10)), (.c (.int 12))]), (.op .sub [(.c (.int 0)), (.op .pow [(.c (.int 10)), (.c (.int 12))])]), (.c (.bl true)), (.op .lst [(.c (.str "a"))]), (.op .tup [(.c (.str "a")), (.op .lst [(.c (.str "b"))])]), (.op .tup [(.c (.str "a")), (.c (.str "B"))]), (.call 18 [(.c (.int 60)), (.c (.str "a"))]), (.op .tup [(.c (.str "a")), (.c (.bl true))])])] [(.ifs (.op .ne [(.callL 14 21 [2]), (.op .tup [(.c (.str "text")), (.c (.int 0))])]) [(.ret (.c (.bl false)))] [])]), (.asg (.nm 3) (.call 18 [(.c (.int 59)), (.c (.str "a"))])), (.ifs (.or (.not (.call 12 [(.call 3 [(.v 3)]), (.op .add [(.op .add [(.op .mul [(.c (.str "(")), (.c (.int 59))]), (.c (.str "a"))]), (.op .mul [(.c (.str ")")), (.c (.int 59))])])])) (.or (.op .ne [(.call 7 [(.op .add [(.op .add [(.op .mul [(.c (.str "(")), (.c (.int 59))]), (.c (.str "a"))]), (.op .mul [(.c (.str ")")), (.c (.int 59))])])]), (.v 3)]) (.op .ne [(.callL 14 22 []), (.op .tup [(.c (.str "text")), (.c (.int 0))])]))) [(.ret (.c (.bl false)))] []), (.for (.nm 2) .seq [(.op .lst [(.c .non), (.c (.int 5)), (.c (.str "")), (.c (.str " ")), (.c (.str "A")), (.c (.str "a b")), (.c (.str "01")), (.c (.str "-0")), (.c (.str "--1")), (.c (.str "+1")), (.c (.str "1000000000000")), (.c (.str "(")), (.c (.str ")")), (.c (.str "(a")), (.c (.str "a)")), (.c (.str "(a))")), (.c (.str "( a)")), (.c (.str "(a )")), (.c (.str "(a  b)")), (.c (.str "()()")), (.c (.str "(a)(b)")), (.c (.str "a()")), (.c (.str "1a")), (.c (.str "a1")), (.c (.str "- 1")), (.c (.str "(-)-")), (.c (.str "(a\nb)")), (.c (.str "1/2"))])] [(.ifs (.op .ne [(.callL 14 23 [2]), (.op .tup [(.c (.str "text")), (.c (.int 0))])]) [(.ret (.c (.bl false)))] [])]), (.for (.nm 4) .rng [(.op .add [(.c (.int 8)), (.op .min [(.op .len [(.v 0)]), (.c (.int 10))])])] [(.par 5 6 (.call 17 [(.v 1), (.c (.int 3))]) (.call 17 [(.v 1), (.c (.int 3))])), (.asg (.nm 7) (.call 15 [(.v 5)])), (.ifs (.or (.not (.call 12 [(.call 3 [(.v 5)]), (.v 7)])) (.or (.not (.call 12 [(.call 7 [(.v 7)]), (.v 5)])) (.or (.not (.call 12 [(.call 7 [(.v 7)]), (.v 5)])) (.not (.call 12 [(.call 3 [(.v 5)]), (.v 7)]))))) [(.ret (.c (.bl false)))] []), (.ifs (.op .ne [(.op .eq [(.call 3 [(.v 5)]), (.call 3 [(.v 6)])]), (.op .eq [(.v 5), (.v 6)])]) [(.ret (.c (.bl false)))] []), (.asg (.nm 8) (.call 10 [(.v 1), (.op .add [(.op .len [(.v 7)]), (.c (.int 1))])])), (.asg (.nm 9) (.call 11 [(.v 1), (.op .lst [(.op .add [(.op .add [(.op .slH [(.v 7), (.v 8)]), (.call 11 [(.v 1), (.op .lst [(.c (.str "(")), (.c (.str ")")), (.c (.str " ")), (.c (.str "A"))])])]), (.op .slL [(.v 7), (.v 8)])]), (.op .add [(.op .slH [(.v 7), (.v 8)]), (.op .slL [(.v 7), (.op .add [(.v 8), (.c (.int 1))])])])])])), (.asg (.nm 10) (.callL 14 24 [9])), (.ifs (.and (.op .ne [(.v 10), (.op .tup [(.c (.str "text")), (.c (.int 0))])]) (.or (.not (.call 16 [(.v 10)])) (.op .ne [(.call 15 [(.v 10)]), (.v 9)]))) [(.ret (.c (.bl false)))] [])]), (.ret (.c (.bl true)))]
def n_20 : List Str := ["action", "told"]
def i_20 : E := (.meth .list .append (.v 1) [(.callv 0 [])])
def n_21 : List Str := ["thing"]
def i_21 : E := (.call 3 [(.v 0)])
def n_22 : List Str := []
def i_22 : E := (.call 7 [(.op .add [(.op .add [(.op .mul [(.c (.str "(")), (.c (.int 60))]), (.c (.str "a"))]), (.op .mul [(.c (.str ")")), (.c (.int 60))])])])
def n_23 : List Str := ["thing"]
def i_23 : E := (.call 7 [(.v 0)])
def n_24 : List Str := ["bent"]
def i_24 : E := (.call 7 [(.v 0)])
def prog : Nat → Option DefI
  | 0 => some ⟨1, 0, 2, i_is_word⟩
  | 1 => some ⟨1, 0, 1, i_is_figure⟩
  | 2 => some ⟨1, 0, 5, i_is_value⟩
  | 3 => some ⟨1, 0, 6, i_value_text⟩
  | 4 => some ⟨1, 0, 4, i_pieces_of⟩
  | 5 => some ⟨1, 0, 3, i_plain_of⟩
  | 6 => some ⟨1, 0, 5, i_value_of⟩
  | 7 => some ⟨1, 0, 2, i_read_value⟩
  | 8 => some ⟨1, 0, 3, i__law_begun⟩
  | 9 => some ⟨1, 0, 6, i__law_mixed⟩
  | 10 => some ⟨2, 0, 3, i__law_draw⟩
  | 11 => some ⟨2, 0, 2, i__law_pick⟩
  | 12 => some ⟨2, 0, 4, i__law_is⟩
  | 13 => some ⟨1, 0, 3, i__law_caught⟩
  | 14 => some ⟨1, 0, 7, i__law_word⟩
  | 15 => some ⟨1, 0, 2, i__law_value_text⟩
  | 16 => some ⟨1, 0, 2, i__law_plain⟩
  | 17 => some ⟨2, 0, 4, i__law_some_value⟩
  | 18 => some ⟨2, 0, 3, i__law_nested⟩
  | 19 => some ⟨1, 0, 11, i_law⟩
  | 20 => some ⟨0, 2, 2, [.ret i_20]⟩
  | 21 => some ⟨0, 1, 1, [.ret i_21]⟩
  | 22 => some ⟨0, 0, 0, [.ret i_22]⟩
  | 23 => some ⟨0, 1, 1, [.ret i_23]⟩
  | 24 => some ⟨0, 1, 1, [.ret i_24]⟩
  | _ => none
def nameOf : Nat → Option Str
  | 0 => some "is_word"
  | 1 => some "is_figure"
  | 2 => some "is_value"
  | 3 => some "value_text"
  | 4 => some "pieces_of"
  | 5 => some "plain_of"
  | 6 => some "value_of"
  | 7 => some "read_value"
  | 8 => some "_law_begun"
  | 9 => some "_law_mixed"
  | 10 => some "_law_draw"
  | 11 => some "_law_pick"
  | 12 => some "_law_is"
  | 13 => some "_law_caught"
  | 14 => some "_law_word"
  | 15 => some "_law_value_text"
  | 16 => some "_law_plain"
  | 17 => some "_law_some_value"
  | 18 => some "_law_nested"
  | 19 => some "law"
  | _ => none
end K88
end AR
end
section
/-! PlainA: runs of the small language, in plain Lean. -/
set_option Elab.async false
set_option linter.all false
set_option maxRecDepth 100000
set_option maxHeartbeats 4000000
namespace AR
open PySem L2
theorem R.bind_ok {α β : Type} (x : α) (h : Hm) (f : α → Hm → R β) : (R.ok x h).bind f = f x h := rfl
theorem R.bind_exc {α β : Type} (x : Exn) (h : Hm) (f : α → Hm → R β) : (R.exc x h : R α).bind f = .exc x h := rfl
theorem R.st_ok {α : Type} (env : AR.Env) (x : α) (h : Hm) (f : α → Hm → RS) : (R.ok x h).st env f = f x h := rfl
theorem R.st_exc {α : Type} (env : AR.Env) (x : Exn) (h : Hm) (f : α → Hm → RS) : (R.exc x h : R α).st env f = .exc x env h := rfl
theorem truth_ok (b : Bool) (h : Hm) : truth (.ok (.d (.bl b)) h) = .ok b h := rfl
theorem okB_eq (b : Bool) (h : Hm) : okB b h = .ok (.d (.bl b)) h := rfl
theorem seq_nx (env : AR.Env) (h : Hm) (f) : seqRun (.nx env h) f = f env h := rfl
theorem seq_rt (x : SV) (h : Hm) (f) : seqRun (.rt x h) f = .rt x h := rfl
theorem seq_exc (x : Exn) (env : AR.Env) (h : Hm) (f) : seqRun (.exc x env h) f = .exc x env h := rfl
theorem seq_ct (env : AR.Env) (h : Hm) (f) : seqRun (.ct env h) f = .ct env h := rfl
theorem toSV_ok (x : D) (h : Hm) : toSV (.ok x h) = .ok (.d x) h := rfl
theorem fin_rt (x : D) (h : Hm) : finish (.rt (.d x) h) = .ok (.d x) h := rfl
theorem fin_exc (x : Exn) (env : AR.Env) (h : Hm) : finish (.exc x env h) = .exc x h := rfl
theorem or1 (o : Op) (a : D) (h : Hm) : opRun o [.d a] h = toSV (op o [a] h) := rfl
theorem or2 (o : Op) (a b : D) (h : Hm) : opRun o [.d a, .d b] h = toSV (op o [a, b] h) := rfl
theorem or3 (o : Op) (a b c : D) (h : Hm) : opRun o [.d a, .d b, .d c] h = toSV (op o [a, b, c] h) := rfl
theorem or0 (o : Op) (h : Hm) : opRun o [] h = toSV (op o [] h) := rfl
/-! ### heaps: what stays -/
/-- all that stood in h stands in h' as it was -/
def Keep (h h' : Hm) : Prop := ∀ (i : Nat) (o : HOb), h[i]? = some o → h'[i]? = some o
/-- .. but at n -/
def KeepBut (n : Nat) (h h' : Hm) : Prop := ∀ (i : Nat) (o : HOb), i ≠ n → h[i]? = some o → h'[i]? = some o
theorem Keep.refl (h : Hm) : Keep h h := fun _ _ e => e
theorem Keep.trans {a b c : Hm} (x : Keep a b) (y : Keep b c) : Keep a c := fun i o e => y i o (x i o e)
theorem Keep.app (h ex : Hm) : Keep h (h ++ ex) := fun i o e => by rw [List.getElem?_append_left (List.getElem?_eq_some_iff.mp e).1]; exact e
theorem Keep.but {a b : Hm} (x : Keep a b) (n : Nat) : KeepBut n a b := fun i o _ e => x i o e
theorem KeepBut.trans {n : Nat} {a b c : Hm} (x : KeepBut n a b) (y : KeepBut n b c) : KeepBut n a c := fun i o ne e => y i o ne (x i o ne e)
theorem KeepBut.set (h : Hm) (n : Nat) (o : HOb) : KeepBut n h (h.set n o) := fun i u ne e => by rw [List.getElem?_set_ne (Ne.symm ne)]; exact e
/-- behind a new thing at the end that was then changed: all old stands -/
theorem KeepBut.old {h h' : Hm} {o : HOb} (x : KeepBut h.length (h ++ [o]) h') : Keep h h' := fun i u e => by
  have lt := (List.getElem?_eq_some_iff.mp e).1
  exact x i u (Nat.ne_of_lt lt) (Keep.app h [o] i u e)
theorem Keep.len {h h' : Hm} (x : Keep h h') : h.length ≤ h'.length := by
  cases hl : h.length with
  | zero => exact Nat.zero_le _
  | succ m =>
    have lt : m < h.length := by omega
    have := x m _ (List.getElem?_eq_getElem lt)
    have := (List.getElem?_eq_some_iff.mp this).1
    omega
theorem at_new (h : Hm) (o : HOb) : (h ++ [o])[h.length]? = some o := by simp
theorem at_set {h : Hm} {n : Nat} {o u : HOb} (e : h[n]? = some o) : (h.set n u)[n]? = some u := List.getElem?_set_self (List.getElem?_eq_some_iff.mp e).1
/-! ### comprehensions -/
theorem fuel_pos : 1 ≤ fuelW ∧ 1000000000 ≤ fuelW := by unfold fuelW; decide
theorem lcGo_succ (get : Hm → Nat → Option (Option D)) (body : D → Hm → R (Option D)) (n fuel i : Nat) (h : Hm) : lcGo get body n (fuel + 1) i h = match get h i with
  | none => .stuck
  | some none => .ok (.ref n) h
  | some (some x) => lcStep n (lcGo get body n fuel (i + 1)) (body x h) := rfl
theorem lcStep_some (n : Nat) (next : Hm → R D) (y : D) (h : Hm) : lcStep n next (.ok (some y) h) = match h[n]? with
  | some (.lst acc) => if acc.length < sizeLine then next (h.set n (.lst (acc ++ [y]))) else .stuck
  | _ => .stuck := rfl
/-- items as the walk yields them, the body's answers f -/
theorem lcGo_run {get : Hm → Nat → Option (Option D)} {body : D → Hm → R (Option D)} {n : Nat} {items : List D} {f : D → Option D} (Good : Hm → Prop) (hg : ∀ h i, Good h → get h i = some items[i]?)
    (hb : ∀ x ∈ items, ∀ h, Good h → ∃ h', body x h = .ok (f x) h' ∧ Keep h h' ∧ Good h') (hs : ∀ h o, Good h → Good (h.set n (.lst o))) : ∀ (m fuel i : Nat) (h : Hm) (acc : List D), items.length = i + m → m < fuel → Good h → h[n]? = some (.lst acc) → acc.length + m < sizeLine →
    ∃ h', lcGo get body n fuel i h = .ok (.ref n) h' ∧ h'[n]? = some (.lst (acc ++ (items.drop i).filterMap f)) ∧ KeepBut n h h' ∧ Good h'
  | 0, fuel + 1, i, h, acc, hl, hf, g, ha, hz => by
    refine ⟨h, ?_, by rw [ha, List.drop_eq_nil_of_le (by omega)]; simp, fun _ _ _ e => e, g⟩
    rw [lcGo_succ]
    rw [hg h i g, List.getElem?_eq_none (by omega)]
  | m + 1, fuel + 1, i, h, acc, hl, hf, g, ha, hz => by
    have lt : i < items.length := by omega
    have ei := List.getElem?_eq_getElem lt
    obtain ⟨h1, e1, k1, g1⟩ := hb _ (List.getElem_mem lt) h g
    have a1 := k1 _ _ ha
    have step : lcGo get body n (fuel + 1) i h = lcStep n (lcGo get body n fuel (i + 1)) (.ok (f items[i]) h1) := by
      rw [lcGo_succ]
      rw [hg h i g, ei]
      simp only [e1]
    rw [step, List.drop_eq_getElem_cons lt]
    cases ef : f items[i] with
    | none =>
      obtain ⟨h', q1, q2, q3, q4⟩ := lcGo_run Good hg hb hs m fuel (i + 1) h1 acc (by omega) (by omega) g1 a1 (by omega)
      exact ⟨h', q1, by rw [q2, List.filterMap_cons, ef], (k1.but n).trans q3, q4⟩
    | some y =>
      obtain ⟨h', q1, q2, q3, q4⟩ := lcGo_run Good hg hb hs m fuel (i + 1) (h1.set n (.lst (acc ++ [y]))) (acc ++ [y]) (by omega) (by omega) (hs _ _ g1) (at_set a1) (by simp; omega)
      refine ⟨h', ?_, by rw [q2, List.filterMap_cons, ef]; simp, ((k1.but n).trans (KeepBut.set _ _ _)).trans q3, q4⟩
      rw [lcStep_some, a1]
      simp only
      rw [if_pos (by omega)]
      exact q1
end AR
end
section
set_option Elab.async false
set_option linter.all false
set_option maxRecDepth 100000
set_option maxHeartbeats 4000000
namespace AR
namespace K88
open PySem L2 PySem.Spec PyProof.Rows
/-- a value whose kind can be asked -/
def Kn (h : Hm) (d : D) : Prop := ∃ t, tyOf h d = some t ∧ ∀ c, t ≠ .err c
/-- a text that can be looked at -/
structure Tx (s : Str) : Prop where
  ok : PyData.strOk s = true
  lt : s.cps.size < 1000000
theorem run_def {n i : Nat} {args caps : List SV} {h : Hm} {d : DefI} (e : prog i = some d) (h1 : args.length = d.np) (h2 : caps.length = d.nc) : AR.run prog (n + 1) i args caps h = finish (execs (AR.run prog n) d.body (startE d.ns args caps) h) := by
  rw [run_succ, e]
  simp only
  rw [if_pos ⟨h1, h2⟩]
def small : List Nat := (("abcdefghijklmnopqrstuvwxyz" : Str)).cps.toList
def isWord : D → Bool
  | .str s => !(s == ("" : Str)) && s.cps.toList.all fun c => decide (c ∈ small)
  | _ => false
theorem shaped_str {s : Str} (h : PyData.strOk s = true) : SeqAt.shaped (.str s) = true := by
  unfold SeqAt.shaped
  simp [PyData.canLay0, PyData.depth, h]
theorem eqP_str (h : Hm) {s z : Str} (l1 : PyData.strOk s = true) (l2 : PyData.strOk z = true) : eqP h (.str s) (.str z) = some (s == z) := by
  unfold eqP
  simp only [toP]
  rw [if_pos ⟨shaped_str l1, shaped_str l2⟩]
  rfl
theorem sizeLine_big : 1000000 < sizeLine := by rw [sizeLine_eq]; decide
theorem bools_map (l : List Bool) : bools (l.map D.bl) = some l := by
  induction l with
  | nil => rfl
  | cons b l ih => simp [bools, ih]
def signF (z : Str) (x : D) : Option D := (signOf x).map fun c => .bl (decide (c ∈ z.cps.toList))
theorem signF_str (z : Str) (c : Nat) : signF z (.str ⟨#[c]⟩) = some (.bl (decide (c ∈ z.cps.toList))) := rfl
theorem signF_all (z : Str) : ∀ cs : List Nat, (cs.map fun c => D.str ⟨#[c]⟩).filterMap (signF z) = cs.map fun c => .bl (decide (c ∈ z.cps.toList))
  | [] => rfl
  | c :: cs => by rw [List.map_cons, List.filterMap_cons, signF_str, List.map_cons, signF_all z cs]
/-- [sign in T for sign in s], all of them -/
theorem lc_signs (z : Str) (s : Str) (env : AR.Env) (j : Nat) (hj : j < env.length) (ls : s.cps.size < 1000000) (k : Nat → List SV → List SV → Hm → R SV) (h : Hm) (i : Nat) (hi : env[i]? = some (some (.d (.str s)))) (hne : i ≠ j) :
    ∃ h', evE k (.lc (.nm j) [j] .seq [(.v i)] (.c (.bl true)) (.op .isin [(.v j), (.c (.str z))])) env h = .ok (.d (.ref h.length)) h' ∧ h'[h.length]? = some (.lst (s.cps.toList.map fun c => .bl (decide (c ∈ z.cps.toList)))) ∧ Keep h h' := by
  rw [evE_lc, evEs_cons, evE_v]
  unfold getV
  rw [hi]
  simp only [R.bind_ok, evEs_nil]
  unfold lcRun
  simp only [allD, Option.map_some, itOf, i1, itSeq]
  have fp := fuel_pos.2
  have q := lcGo_run (get := fun h i => (AR.It.str s).at h i) (n := h.length) (items := s.cps.toList.map fun c => D.str ⟨#[c]⟩) (f := signF z) (body := lcTurn (.nm j) (wipeE (env.map dOnly) [j]) (fun env h => truth (evE k (.c (.bl true)) env h)) fun env h => evE k (.op .isin [(.v j), (.c (.str z))]) env h) (fun _ => True)
    (fun h i _ => by
      show some ((s.cps[i]?).map fun c => D.str ⟨#[c]⟩) = _
      rw [List.getElem?_map, Array.getElem?_toList])
    (fun x hx h' _ => by
      obtain ⟨c, hc, rfl⟩ := List.mem_map.mp hx
      refine ⟨h', ?_, Keep.refl _, trivial⟩
      unfold lcTurn
      have hl : j < (wipeE (env.map dOnly) [j]).length := by simp [wipeE, hj]
      simp only [setT, if_pos hl]
      rw [evE_c, truth_ok, R.bind_ok, if_pos rfl, evE_op, evEs_cons, evE_v]
      unfold getV
      rw [List.getElem?_set_self hl]
      simp only [R.bind_ok, evEs_cons, evE_c, evEs_nil, or2, op, a2, isInD, txtOf, signOf, asB, toSV_ok]
      rfl)
    (fun _ _ _ => trivial) (s.cps.toList.map fun c => D.str ⟨#[c]⟩).length fuelW 0 (h ++ [.lst []]) [] (by simp) (by simp; omega) trivial (at_new h _) (by have := sizeLine_big; simp; omega)
  obtain ⟨h', q1, q2, q3, _⟩ := q
  refine ⟨h', by rw [q1]; rfl, ?_, KeepBut.old q3⟩
  rw [q2, List.drop_zero, List.nil_append]
  rw [signF_all]
theorem run_word {n : Nat} {d : D} {h : Hm} (k : Kn h d) (hz : ∀ s, d = .str s → Tx s) : ∃ h', AR.run prog (n + 1) 0 [.d d] [] h = .ok (.d (.bl (isWord d))) h' ∧ Keep h h' := by
  obtain ⟨t, ht, hne⟩ := k
  rw [run_def (d := ⟨1, 0, 2, i_is_word⟩) rfl rfl rfl]
  show ∃ h', finish (execs (AR.run prog n) i_is_word [some (.d d), none] h) = _ ∧ _
  unfold i_is_word
  simp only [execs_cons, exec_ret, evE_and, evE_op, evEs_cons, evEs_nil, evE_v, evE_c, getV, List.getElem?_cons_zero, R.bind_ok, or1, or2, op, a1, a2, isiD, ht]
  cases d with
  | str s =>
    have tx := hz s rfl
    simp only [tyOf, Option.some.injEq] at ht
    subst ht
    have e1 : isiTy Ty.str [Ty.str] = some true := rfl
    simp only [e1, asB, toSV_ok, truth_ok, R.bind_ok, if_pos, eqP_str h tx.ok (show PyData.strOk ("" : Str) = true by decide +kernel), Option.map_some]
    cases es : (s == ("" : Str)) with
    | true =>
      refine ⟨h, ?_, Keep.refl _⟩
      simp only [Bool.not_true, okB_eq, isWord, es, Bool.false_and]
      rfl
    | false =>
      obtain ⟨h', q1, q2, q3⟩ := lc_signs "abcdefghijklmnopqrstuvwxyz" s [some (.d (.str s)), none] 1 (by simp) tx.lt (AR.run prog n) h 0 rfl (by decide)
      refine ⟨h', ?_, q3⟩
      simp only [Bool.not_false, if_pos]
      rw [q1]
      simp only [R.bind_ok, evEs_nil, or1, op, a1, dBools, q2]
      rw [show (s.cps.toList.map fun c => D.bl (decide (c ∈ (("abcdefghijklmnopqrstuvwxyz" : Str)).cps.toList))) = (s.cps.toList.map fun c => decide (c ∈ small)).map D.bl by rw [List.map_map]; rfl, bools_map]
      simp only [okO, toSV_ok, truth_ok, R.bind_ok, okB_eq, R.st_ok, seq_rt, fin_rt]
      simp [isWord, es, List.all_map]
  | ref m =>
    simp only [tyOf] at ht
    split at ht <;> (try cases ht) <;> first | exact ⟨h, rfl, Keep.refl _⟩ | exact absurd rfl (hne _)
  | non => simp only [tyOf, Option.some.injEq] at ht; subst ht; exact ⟨h, rfl, Keep.refl _⟩
  | bl b => simp only [tyOf, Option.some.injEq] at ht; subst ht; exact ⟨h, rfl, Keep.refl _⟩
  | int i => simp only [tyOf, Option.some.injEq] at ht; subst ht; exact ⟨h, rfl, Keep.refl _⟩
  | tup xs => simp only [tyOf, Option.some.injEq] at ht; subst ht; exact ⟨h, rfl, Keep.refl _⟩
end K88
end AR
end
section
set_option Elab.async false
set_option linter.all false
set_option maxRecDepth 100000
set_option maxHeartbeats 4000000
namespace AR
open PySem L2
/-- a for loop that goes on to its end: the items as the walk yields them, Inv after i of them -/
theorem forGo_run {get : Hm → Nat → Option (Option D)} {t : T} {b : AR.Env → Hm → RS} {items : List D} (Inv : Nat → AR.Env → Hm → Prop) (hg : ∀ i env h, Inv i env h → get h i = some items[i]?)
    (hb : ∀ i env h x, Inv i env h → items[i]? = some x → ∃ env1 env2 h', setT t x env = some env1 ∧ (b env1 h = .nx env2 h' ∨ b env1 h = .ct env2 h') ∧ Inv (i + 1) env2 h') :
    ∀ (m fuel i : Nat) (env : AR.Env) (h : Hm), items.length = i + m → m < fuel → Inv i env h → ∃ env' h', forGo get t b fuel i env h = .nx env' h' ∧ Inv items.length env' h'
  | 0, fuel + 1, i, env, h, hl, hf, hi => by
    refine ⟨env, h, ?_, by rw [hl]; exact hi⟩
    unfold forGo
    rw [hg i env h hi, List.getElem?_eq_none (by omega)]
  | m + 1, fuel + 1, i, env, h, hl, hf, hi => by
    have lt : i < items.length := by omega
    have ei := List.getElem?_eq_getElem lt
    obtain ⟨env1, env2, h1, e1, e2, g1⟩ := hb i env h _ hi ei
    obtain ⟨env', h', q1, q2⟩ := forGo_run Inv hg hb m fuel (i + 1) env2 h1 (by omega) (by omega) g1
    refine ⟨env', h', ?_, q2⟩
    unfold forGo
    rw [hg i env h hi, ei]
    simp only [e1]
    cases e2 with
    | inl e2 => simp only [e2]; exact q1
    | inr e2 => simp only [e2]; exact q1
namespace K88
open PySem L2 PySem.Spec PyProof.Rows
def isFig : D → Bool
  | .int i => decide (i.natAbs < 1000000000000)
  | _ => false
theorem run_figure {n : Nat} {d : D} {h : Hm} (k : Kn h d) : AR.run prog (n + 1) 1 [.d d] [] h = .ok (.d (.bl (isFig d))) h := by
  obtain ⟨t, ht, hne⟩ := k
  rw [run_def (d := ⟨1, 0, 1, i_is_figure⟩) rfl rfl rfl]
  show finish (execs (AR.run prog n) i_is_figure [some (.d d)] h) = _
  unfold i_is_figure
  simp only [execs_cons, exec_ret, evE_and, evE_not, evE_op, evEs_cons, evEs_nil, evE_v, evE_c, getV, List.getElem?_cons_zero, R.bind_ok, or1, or2, op, a1, a2, isiD, ht]
  cases d with
  | int i =>
    simp only [tyOf, Option.some.injEq] at ht
    subst ht
    refine Eq.trans (b := R.ok (.d (.bl (decide ((if i < 0 then -i else i) < 1000000000000)))) h) rfl ?_
    have e : decide ((if i < 0 then -i else i) < 1000000000000) = decide (i.natAbs < 1000000000000) := by
      apply decide_eq_decide.mpr
      split <;> omega
    rw [e]
    rfl
  | ref m =>
    simp only [tyOf] at ht
    split at ht <;> (try cases ht) <;> first | rfl | exact absurd rfl (hne _)
  | non => simp only [tyOf, Option.some.injEq] at ht; subst ht; rfl
  | bl b => simp only [tyOf, Option.some.injEq] at ht; subst ht; rfl
  | str s => simp only [tyOf, Option.some.injEq] at ht; subst ht; rfl
  | tup xs => simp only [tyOf, Option.some.injEq] at ht; subst ht; rfl
end K88
end AR
end
section
set_option Elab.async false
set_option linter.all false
set_option maxRecDepth 100000
set_option maxHeartbeats 4000000
namespace AR
namespace K88
open PySem L2 PySem.Spec PyProof.Rows
/-! ## is_value -/
def isTup : D → Bool
  | .tup _ => true
  | _ => false
def okAtom (x : D) : Bool := isNonD x || isWord x || isFig x
def okAt (lvl : Int) (x : D) : Bool := (isTup x && decide (lvl < 59)) || okAtom x
def goIn (lvl : Int) : D → List D
  | .tup ys => if lvl < 59 then ys else []
  | _ => []
abbrev s_thing : S := .ifs (.and (.op (.isi [.tuple]) [(.v 4)]) (.op .lt [(.v 2), (.op .sub [(.c c_MOST_DEEP), (.c (.int 1))])])) [(.expr (.meth .list .extend (.v 3) [(.v 4)]))] [(.ifs (.and (.op .notNon [(.v 4)]) (.and (.not (.call 0 [(.v 4)])) (.not (.call 1 [(.v 4)])))) [(.ret (.c (.bl false)))] [])]
theorem tup_of {h : Hm} {x : D} (k : Kn h x) : isiD h x [.tuple] = some (isTup x) := by
  obtain ⟨t, ht, hne⟩ := k
  unfold isiD
  rw [ht]
  cases x with
  | ref m =>
    simp only [tyOf] at ht
    split at ht <;> (try cases ht) <;> first | rfl | exact absurd rfl (hne _)
  | non => simp only [tyOf, Option.some.injEq] at ht; subst ht; rfl
  | bl b => simp only [tyOf, Option.some.injEq] at ht; subst ht; rfl
  | str s => simp only [tyOf, Option.some.injEq] at ht; subst ht; rfl
  | tup xs => simp only [tyOf, Option.some.injEq] at ht; subst ht; rfl
  | int i => simp only [tyOf, Option.some.injEq] at ht; subst ht; rfl
theorem Kn.mono {h h' : Hm} {x : D} (k : Kn h x) (kp : Keep h h') : Kn h' x := by
  obtain ⟨t, ht, hne⟩ := k
  refine ⟨t, ?_, hne⟩
  cases x with
  | ref m =>
    simp only [tyOf] at ht ⊢
    cases e : h[m]? with
    | none => rw [e] at ht; cases ht
    | some o => rw [kp _ _ e]; rw [e] at ht; exact ht
  | _ => exact ht
/-- the second half: neither None nor a word nor a figure -/
theorem at_atom {n : Nat} {x : D} {h : Hm} (k : Kn h x) (hz : ∀ s, x = .str s → Tx s) (env : AR.Env) (he : env[4]? = some (some (.d x))) :
    ∃ h', evE (AR.run prog (n + 1)) (.and (.op .notNon [(.v 4)]) (.and (.not (.call 0 [(.v 4)])) (.not (.call 1 [(.v 4)])))) env h = .ok (.d (.bl (!okAtom x))) h' ∧ Keep h h' := by
  simp only [evE_and, evE_not, evE_op, evE_call, evEs_cons, evEs_nil, evE_v, getV, he, R.bind_ok, or1, op, a1, toSV_ok, truth_ok]
  cases en : isNonD x with
  | true =>
    refine ⟨h, ?_, Keep.refl _⟩
    simp [okAtom, en, okB_eq]
  | false =>
    obtain ⟨h', q1, q2⟩ := run_word (n := n) k hz
    refine ⟨h', ?_, q2⟩
    simp only [Bool.not_false, if_pos, q1, truth_ok, R.bind_ok, okB_eq]
    cases ew : isWord x with
    | true => simp [okAtom, ew, en]; rfl
    | false =>
      simp only [Bool.not_false, if_pos, run_figure (n := n) (k.mono q2), truth_ok, R.bind_ok, okB_eq]
      simp [okAtom, ew, en]
theorem do_thing {n : Nat} {x d r : D} {lvl : Int} {q : Nat} {acc : List D} {h : Hm} (k : Kn h x) (hz : ∀ s, x = .str s → Tx s) (hq : h[q]? = some (.lst acc)) (hs : acc.length + (goIn lvl x).length ≤ sizeLine) :
    (okAt lvl x = true → ∃ h', execs (AR.run prog (n + 1)) [s_thing] [some (.d d), some (.d r), some (.d (.int lvl)), some (.d (.ref q)), some (.d x)] h = .nx [some (.d d), some (.d r), some (.d (.int lvl)), some (.d (.ref q)), some (.d x)] h' ∧ h'[q]? = some (.lst (acc ++ goIn lvl x)) ∧ KeepBut q h h') ∧
    (okAt lvl x = false → ∃ h', execs (AR.run prog (n + 1)) [s_thing] [some (.d d), some (.d r), some (.d (.int lvl)), some (.d (.ref q)), some (.d x)] h = .rt (.d (.bl false)) h' ∧ KeepBut q h h') := by
  obtain ⟨h2, q1, q2⟩ := at_atom (n := n) k hz [some (.d d), some (.d r), some (.d (.int lvl)), some (.d (.ref q)), some (.d x)] rfl
  have second : execs (AR.run prog (n + 1)) [(.ifs (.and (.op .notNon [(.v 4)]) (.and (.not (.call 0 [(.v 4)])) (.not (.call 1 [(.v 4)])))) [(.ret (.c (.bl false)))] [])] [some (.d d), some (.d r), some (.d (.int lvl)), some (.d (.ref q)), some (.d x)] h = if okAtom x = true then .nx [some (.d d), some (.d r), some (.d (.int lvl)), some (.d (.ref q)), some (.d x)] h2 else .rt (.d (.bl false)) h2 := by
    rw [execs_cons, exec_ifs, q1, truth_ok, R.st_ok]
    cases okAtom x <;> rfl
  have first : execs (AR.run prog (n + 1)) [s_thing] [some (.d d), some (.d r), some (.d (.int lvl)), some (.d (.ref q)), some (.d x)] h = if (isTup x && decide (lvl < 59)) = true then seqRun (execs (AR.run prog (n + 1)) [(.expr (.meth .list .extend (.v 3) [(.v 4)]))] [some (.d d), some (.d r), some (.d (.int lvl)), some (.d (.ref q)), some (.d x)] h) (fun env h => .nx env h) else seqRun (execs (AR.run prog (n + 1)) [(.ifs (.and (.op .notNon [(.v 4)]) (.and (.not (.call 0 [(.v 4)])) (.not (.call 1 [(.v 4)])))) [(.ret (.c (.bl false)))] [])] [some (.d d), some (.d r), some (.d (.int lvl)), some (.d (.ref q)), some (.d x)] h) (fun env h => .nx env h) := by
    rw [execs_cons, exec_ifs, evE_and, evE_op, evEs_cons, evE_v]
    simp only [getV, List.getElem?_cons_succ, List.getElem?_cons_zero, R.bind_ok, evEs_nil, or1, op, a1, tup_of k, asB, toSV_ok, truth_ok]
    cases et : isTup x with
    | false => rfl
    | true =>
      simp only [if_pos, evE_op, evEs_cons, evEs_nil, evE_v, evE_c, getV, List.getElem?_cons_succ, List.getElem?_cons_zero, R.bind_ok, or2, op, a2, dSub, toSV_ok, dCmp, truth_ok, okB_eq, R.st_ok, Bool.true_and]
      rw [show (60 : Int) - 1 = 59 by decide]
      cases decide (lvl < 59) <;> rfl
  rw [first, second]
  cases et : isTup x && decide (lvl < 59) with
  | false =>
    simp only [okAt, et, Bool.false_or, if_neg, Bool.false_eq_true, if_false]
    have eg : goIn lvl x = [] := by
      cases x <;> first | rfl | skip
      simp only [isTup, Bool.true_and, decide_eq_false_iff_not] at et
      simp [goIn, et]
    constructor
    · intro e
      rw [e]
      exact ⟨h2, rfl, by rw [eg, List.append_nil]; exact q2 _ _ hq, q2.but _⟩
    · intro e
      rw [e]
      exact ⟨h2, rfl, q2.but _⟩
  | true =>
    simp only [okAt, et, Bool.true_or, if_pos]
    refine ⟨fun _ => ?_, fun e => by cases e⟩
    cases x with
    | tup ys =>
      simp only [isTup, Bool.true_and, decide_eq_true_eq] at et
      simp only [goIn, et, if_pos] at hs ⊢
      refine ⟨h.set q (.lst (acc ++ ys)), ?_, at_set hq, KeepBut.set _ _ _⟩
      rw [execs_cons, exec_expr, evE_meth, evE_v]
      simp only [getV, List.getElem?_cons_succ, List.getElem?_cons_zero, R.bind_ok, methRun, tyOf, hq, if_pos, evEs_cons, evEs_nil, evE_v, opRun, allD, op, a2, dExtend, seqLT, Option.map_some]
      rw [if_pos hs]
      rfl
    | _ => simp [isTup] at et
end K88
end AR
end
section
set_option Elab.async false
set_option linter.all false
set_option maxRecDepth 100000
set_option maxHeartbeats 4000000
namespace AR
open PySem L2
/-- a for loop that may return at an item -/
theorem forGo_ex {get : Hm → Nat → Option (Option D)} {t : T} {b : AR.Env → Hm → RS} {items : List D} (Inv : Nat → AR.Env → Hm → Prop) (P : D → Bool) (v : SV) (Q : Hm → Prop) (hg : ∀ i env h, Inv i env h → get h i = some items[i]?)
    (hb : ∀ i env h x, Inv i env h → items[i]? = some x → ∃ env1, setT t x env = some env1 ∧ (P x = true → ∃ env2 h', b env1 h = .nx env2 h' ∧ Inv (i + 1) env2 h') ∧ (P x = false → ∃ h', b env1 h = .rt v h' ∧ Q h')) :
    ∀ (m fuel i : Nat) (env : AR.Env) (h : Hm), items.length = i + m → m < fuel → Inv i env h → ((items.drop i).all P = true → ∃ env' h', forGo get t b fuel i env h = .nx env' h' ∧ Inv items.length env' h') ∧ ((items.drop i).all P = false → ∃ h', forGo get t b fuel i env h = .rt v h' ∧ Q h')
  | 0, fuel + 1, i, env, h, hl, hf, hi => by
    rw [List.drop_eq_nil_of_le (by omega)]
    refine ⟨fun _ => ⟨env, h, ?_, by rw [hl]; exact hi⟩, fun e => by cases e⟩
    unfold forGo
    rw [hg i env h hi, List.getElem?_eq_none (by omega)]
  | m + 1, fuel + 1, i, env, h, hl, hf, hi => by
    have lt : i < items.length := by omega
    have ei := List.getElem?_eq_getElem lt
    obtain ⟨env1, e1, e2, e3⟩ := hb i env h _ hi ei
    rw [List.drop_eq_getElem_cons lt, List.all_cons]
    have st : forGo get t b (fuel + 1) i env h = match b env1 h with
        | .nx env h => forGo get t b fuel (i + 1) env h
        | .ct env h => forGo get t b fuel (i + 1) env h
        | .bk env h => .nx env h
        | r => r := by
      show (match get h i with
        | none => .stuck
        | some none => .nx env h
        | some (some x) => match setT t x env with
          | none => .stuck
          | some env' => match b env' h with
            | .nx env h => forGo get t b fuel (i + 1) env h
            | .ct env h => forGo get t b fuel (i + 1) env h
            | .bk env h => .nx env h
            | r => r : RS) = _
      rw [hg i env h hi, ei]
      simp only [e1]
    rw [st]
    cases ep : P items[i] with
    | true =>
      obtain ⟨env2, h2, q1, q2⟩ := e2 ep
      rw [q1, Bool.true_and]
      exact forGo_ex Inv P v Q hg hb m fuel (i + 1) env2 h2 (by omega) (by omega) q2
    | false =>
      obtain ⟨h2, q1, q2⟩ := e3 ep
      rw [q1, Bool.false_and]
      exact ⟨fun e => (by cases e), fun _ => ⟨h2, rfl, q2⟩⟩
namespace K88
open PySem L2 PySem.Spec PyProof.Rows
def goAll (lvl : Int) (xs : List D) : List D := xs.flatMap (goIn lvl)
def isValL : Nat → Int → List D → Bool
  | 0, _, _ => false
  | m + 1, lvl, xs => xs.all (okAt lvl) && ((goAll lvl xs).isEmpty || isValL m (lvl + 1) (goAll lvl xs))
def FineL (h : Hm) : Nat → Int → List D → Prop
  | 0, _, _ => True
  | m + 1, lvl, xs => (∀ x ∈ xs, Kn h x ∧ ∀ s, x = .str s → Tx s) ∧ xs.length < 1000000 ∧ (goAll lvl xs).length < 1000000 ∧ FineL h m (lvl + 1) (goAll lvl xs)
theorem FineL.mono {h h' : Hm} (kp : Keep h h') : ∀ (m : Nat) (lvl : Int) (xs : List D), FineL h m lvl xs → FineL h' m lvl xs
  | 0, _, _, _ => trivial
  | m + 1, lvl, xs, ⟨a, b, c, d⟩ => ⟨fun x hx => ⟨(a x hx).1.mono kp, (a x hx).2⟩, b, c, FineL.mono kp m _ _ d⟩
theorem goAll_take {lvl : Int} {xs : List D} {j : Nat} {x : D} (e : xs[j]? = some x) : goAll lvl (xs.take (j + 1)) = goAll lvl (xs.take j) ++ goIn lvl x := by
  obtain ⟨lt, rfl⟩ := List.getElem?_eq_some_iff.mp e
  rw [List.take_succ_eq_append_getElem lt]
  unfold goAll
  rw [List.flatMap_append, List.flatMap_cons, List.flatMap_nil, List.append_nil]
theorem goAll_le (lvl : Int) (xs : List D) (j : Nat) : (goAll lvl (xs.take j)).length ≤ (goAll lvl xs).length := by
  conv => rhs; rw [← List.take_append_drop j xs]
  simp only [goAll, List.flatMap_append, List.length_append]
  omega
/-- one level: the walk over a layer -/
theorem do_layer {n : Nat} {d : D} {r : Nat} {lvl : Int} {xs : List D} {h : Hm} (hr : h[r]? = some (.lst xs)) (hf : ∀ x ∈ xs, Kn h x ∧ ∀ s, x = .str s → Tx s) (hl : xs.length < 1000000) (hl2 : (goAll lvl xs).length < 1000000) (e0 : Option SV) :
    (xs.all (okAt lvl) = true → ∃ e4 h', exec (AR.run prog (n + 1)) (.for (.nm 4) .seq [(.v 1)] [s_thing]) [some (.d d), some (.d (.ref r)), some (.d (.int lvl)), some (.d (.ref h.length)), e0] (h ++ [.lst []]) = .nx [some (.d d), some (.d (.ref r)), some (.d (.int lvl)), some (.d (.ref h.length)), e4] h' ∧ h'[h.length]? = some (.lst (goAll lvl xs)) ∧ Keep h h') ∧
    (xs.all (okAt lvl) = false → ∃ h', exec (AR.run prog (n + 1)) (.for (.nm 4) .seq [(.v 1)] [s_thing]) [some (.d d), some (.d (.ref r)), some (.d (.int lvl)), some (.d (.ref h.length)), e0] (h ++ [.lst []]) = .rt (.d (.bl false)) h' ∧ Keep h h') := by
  have rl : r < h.length := (List.getElem?_eq_some_iff.mp hr).1
  have kr : (h ++ [HOb.lst []])[r]? = some (.lst xs) := Keep.app _ _ _ _ hr
  rw [exec_for]
  simp only [evEs_cons, evEs_nil, evE_v, getV, List.getElem?_cons_succ, List.getElem?_cons_zero, R.bind_ok, R.st_ok, forRun, allD, Option.map_some, itOf, i1, itSeq, kr]
  have q := forGo_ex (get := fun h i => (AR.It.lst r).at h i) (t := .nm 4) (b := fun env h => execs (AR.run prog (n + 1)) [s_thing] env h) (items := xs)
    (fun j env h' => ∃ e4, env = [some (.d d), some (.d (.ref r)), some (.d (.int lvl)), some (.d (.ref h.length)), e4] ∧ h'[h.length]? = some (.lst (goAll lvl (xs.take j))) ∧ KeepBut h.length (h ++ [.lst []]) h')
    (okAt lvl) (.d (.bl false)) (fun h' => Keep h h')
    (fun i env h' hi => by
      obtain ⟨e4, _, _, k⟩ := hi
      have := k r _ (by omega) kr
      simp [AR.It.at, lstAt, this])
    (fun i env h' x hi hx => by
      obtain ⟨e4, rfl, k2, k3⟩ := hi
      refine ⟨[some (.d d), some (.d (.ref r)), some (.d (.int lvl)), some (.d (.ref h.length)), some (.d x)], rfl, ?_⟩
      have mem : x ∈ xs := List.mem_of_getElem? hx
      have kn := (hf x mem).1.mono k3.old
      have ll := goAll_le lvl xs (i + 1)
      rw [goAll_take hx, List.length_append] at ll
      have sb := sizeLine_big
      obtain ⟨w1, w2⟩ := do_thing (n := n) (d := d) (r := .ref r) (lvl := lvl) (q := h.length) kn (hf x mem).2 k2 (by omega)
      constructor
      · intro ok
        obtain ⟨h2, p1, p2, p3⟩ := w1 ok
        exact ⟨_, h2, p1, some (.d x), rfl, by rw [goAll_take hx]; exact p2, k3.trans p3⟩
      · intro ok
        obtain ⟨h2, p1, p3⟩ := w2 ok
        exact ⟨h2, p1, (k3.trans p3).old⟩)
    xs.length fuelW 0 _ (h ++ [.lst []]) (by omega) (by have := fuel_pos.2; omega) ⟨e0, rfl, at_new _ _, fun _ _ _ e => e⟩
  rw [List.drop_zero] at q
  obtain ⟨q1, q2⟩ := q
  constructor
  · intro ok
    obtain ⟨env', h', p1, e4, rfl, p2, p3⟩ := q1 ok
    exact ⟨e4, h', p1, by rw [p2, List.take_length], p3.old⟩
  · intro ok
    exact q2 ok
end K88
end AR
end
section
set_option Elab.async false
set_option linter.all false
set_option maxRecDepth 100000
set_option maxHeartbeats 4000000
namespace AR
namespace K88
open PySem L2 PySem.Spec PyProof.Rows
abbrev b_level : List S := [(.asg (.nm 3) (.op .lst [])), (.for (.nm 4) .seq [(.v 1)] [s_thing]), (.ifs (.op .eqNil [(.v 3)]) [(.ret (.c (.bl true)))] []), (.asg (.nm 1) (.v 3))]
theorem forGo_succ (get : Hm → Nat → Option (Option D)) (t : T) (b : AR.Env → Hm → RS) (fuel i : Nat) (env : AR.Env) (h : Hm) : forGo get t b (fuel + 1) i env h = (match get h i with
        | none => .stuck
        | some none => .nx env h
        | some (some x) => match setT t x env with
          | none => .stuck
          | some env' => match b env' h with
            | .nx env h => forGo get t b fuel (i + 1) env h
            | .ct env h => forGo get t b fuel (i + 1) env h
            | .bk env h => .nx env h
            | r => r : RS) := rfl
theorem do_levels {n : Nat} {d : D} : ∀ (m fuel i : Nat) (e2 e3 e4 : Option SV) (r : Nat) (xs : List D) (h : Hm), 60 = i + m → m < fuel → h[r]? = some (.lst xs) → FineL h m i xs →
    ∃ h', seqRun (forGo (fun h i => (AR.It.rng 0 60).at h i) (.nm 2) (fun env h => execs (AR.run prog (n + 1)) b_level env h) fuel i [some (.d d), some (.d (.ref r)), e2, e3, e4] h) (fun env h => execs (AR.run prog (n + 1)) [.ret (.c (.bl false))] env h) = .rt (.d (.bl (isValL m i xs))) h' ∧ Keep h h'
  | 0, fuel + 1, i, e2, e3, e4, r, xs, h, hi, hf, hr, fi => by
    refine ⟨h, ?_, Keep.refl _⟩
    rw [forGo_succ]
    have : (AR.It.rng 0 60).at h i = some none := by
      unfold AR.It.at
      rw [if_neg (by omega)]
    rw [this]
    rfl
  | m + 1, fuel + 1, i, e2, e3, e4, r, xs, h, hi, hf, hr, fi => by
    obtain ⟨f1, f2, f3, f4⟩ := fi
    rw [forGo_succ]
    have : (AR.It.rng 0 60).at h i = some (some (.int i)) := by
      unfold AR.It.at
      rw [if_pos (by omega), Int.zero_add]
    simp only [this]
    have st : setT (.nm 2) (.int i) [some (.d d), some (.d (.ref r)), e2, e3, e4] = some [some (.d d), some (.d (.ref r)), some (.d (.int i)), e3, e4] := rfl
    simp only [st]
    have b1 : execs (AR.run prog (n + 1)) b_level [some (.d d), some (.d (.ref r)), some (.d (.int i)), e3, e4] h = seqRun (exec (AR.run prog (n + 1)) (.for (.nm 4) .seq [(.v 1)] [s_thing]) [some (.d d), some (.d (.ref r)), some (.d (.int i)), some (.d (.ref h.length)), e4] (h ++ [.lst []])) fun env h => execs (AR.run prog (n + 1)) [(.ifs (.op .eqNil [(.v 3)]) [(.ret (.c (.bl true)))] []), (.asg (.nm 1) (.v 3))] env h := rfl
    rw [b1]
    obtain ⟨w1, w2⟩ := do_layer (n := n) (d := d) (r := r) (lvl := i) hr f1 f2 f3 e4
    cases ea : xs.all (okAt i) with
    | false =>
      obtain ⟨h', p1, p2⟩ := w2 ea
      refine ⟨h', ?_, p2⟩
      rw [p1]
      simp only [isValL, ea, Bool.false_and, seq_rt]
    | true =>
      obtain ⟨e5, h', p1, p2, p3⟩ := w1 ea
      rw [p1]
      simp only [seq_nx, isValL, ea, Bool.true_and]
      rw [execs_cons, exec_ifs, evE_op, evEs_cons, evE_v]
      simp only [getV, List.getElem?_cons_succ, List.getElem?_cons_zero, R.bind_ok, evEs_nil, or1, op, a1, nilD, p2, asB, toSV_ok, truth_ok, R.st_ok]
      cases ee : (goAll i xs).isEmpty with
      | true =>
        refine ⟨h', ?_, p3⟩
        rfl
      | false =>
        obtain ⟨h2, q1, q2⟩ := do_levels (n := n) (d := d) m fuel (i + 1) (some (.d (.int i))) (some (.d (.ref h.length))) e5 h.length (goAll i xs) h' (by omega) (by omega) p2 (f4.mono p3 m _ _)
        refine ⟨h2, ?_, p3.trans q2⟩
        rw [Bool.false_or]
        exact q1
def isVal (d : D) : Bool := isValL 60 0 [d]
def Fine (h : Hm) (d : D) : Prop := FineL h 60 0 [d]
theorem run_value {n : Nat} {d : D} {h : Hm} (f : Fine h d) : ∃ h', AR.run prog (n + 2) 2 [.d d] [] h = .ok (.d (.bl (isVal d))) h' ∧ Keep h h' := by
  rw [run_def (d := ⟨1, 0, 5, i_is_value⟩) rfl rfl rfl]
  obtain ⟨h', q1, q2⟩ := do_levels (n := n) (d := d) 60 fuelW 0 none none none h.length [d] (h ++ [.lst [d]]) rfl (by have := fuel_pos.2; omega) (at_new _ _) (FineL.mono (Keep.app _ _) 60 _ _ f)
  refine ⟨h', ?_, (Keep.app _ _).trans q2⟩
  have e : execs (AR.run prog (n + 1)) i_is_value (startE 5 [.d d] []) h = .rt (.d (.bl (isVal d))) h' := q1
  show finish (execs (AR.run prog (n + 1)) i_is_value (startE 5 [.d d] []) h) = _
  rw [e]
  rfl
end K88
end AR
end
section
set_option Elab.async false
set_option linter.all false
set_option maxRecDepth 100000
set_option maxHeartbeats 4000000
namespace AR
namespace K88
open PySem L2 PySem.Spec PyProof.Rows
/-! ## value_text: the stack -/
/-- what lies on the stack: a sign to be written, or a value -/
inductive Sy where
  | mark (s : Str)
  | val (d : D)
mutual
def outD : D → List Str
  | .non => ["-"]
  | .str s => [s]
  | .int i => [toString i]
  | .tup [] => [("(" : Str), (")" : Str)]
  | .tup (x :: xs) => "(" :: (outD x ++ (outT xs ++ [(")" : Str)]))
  | _ => []
def outT : List D → List Str
  | [] => []
  | x :: xs => " " :: (outD x ++ outT xs)
end
mutual
/-- nothing of the heap in it, no truth values -/
def pl : D → Bool
  | .non => true
  | .str _ => true
  | .int i => decide (i.natAbs.log2 < 1920)
  | .tup xs => decide (xs.length < 1000000) && plS xs
  | _ => false
def plS : List D → Bool
  | [] => true
  | x :: xs => pl x && plS xs
end
mutual
def wD : D → Nat
  | .tup xs => 3 + wT xs
  | _ => 1
def wT : List D → Nat
  | [] => 0
  | x :: xs => 1 + wD x + wT xs
end
def outS : Sy → List Str
  | .mark s => [s]
  | .val d => outD d
def wS : Sy → Nat
  | .mark _ => 1
  | .val d => wD d
def pushR : List D → List Sy
  | [] => []
  | [x] => [.val x]
  | x :: y :: r => .val x :: .mark " " :: pushR (y :: r)
theorem pushR_end : ∀ (rs : List D) (x : D), pushR (rs ++ [x]) = rs.flatMap (fun r => [Sy.val r, .mark " "]) ++ [.val x]
  | [], x => rfl
  | [a], x => rfl
  | a :: b :: r, x => by
    have := pushR_end (b :: r) x
    show Sy.val a :: .mark " " :: pushR (b :: r ++ [x]) = _
    rw [this]
    rfl
theorem rev_pairs : ∀ ys : List D, (ys.reverse.flatMap (fun r => [Sy.val r, .mark " "])).reverse = ys.flatMap fun r => [Sy.mark " ", .val r]
  | [] => rfl
  | y :: ys => by
    rw [List.reverse_cons, List.flatMap_append, List.reverse_append, rev_pairs ys]
    rfl
theorem outs_pairs : ∀ ys : List D, (ys.flatMap fun r => [Sy.mark " ", .val r]).flatMap outS = outT ys
  | [] => by simp [outT]
  | y :: ys => by
    rw [List.flatMap_cons, List.flatMap_append, outs_pairs ys]
    simp [outS, outT]
/-- what a tuple's pushing writes in the end -/
theorem outs_tup (xs : List D) : ((Sy.mark ")" :: (pushR xs.reverse ++ [Sy.mark "("])).reverse).flatMap outS = outD (.tup xs) := by
  cases xs with
  | nil => simp [pushR, outS, outD]
  | cons x ys =>
    rw [show (x :: ys).reverse = ys.reverse ++ [x] from List.reverse_cons, pushR_end]
    simp only [List.reverse_cons, List.reverse_append, List.reverse_nil, List.nil_append, List.cons_append, rev_pairs, List.flatMap_cons, List.flatMap_append, outs_pairs, List.flatMap_nil, List.append_nil]
    simp [outS, outD]
theorem w_pairs : ∀ ys : List D, ((ys.flatMap fun r => [Sy.mark " ", .val r]).map wS).sum = wT ys
  | [] => by simp [wT]
  | y :: ys => by
    rw [List.flatMap_cons, List.map_append, List.sum_append, w_pairs ys]
    simp [wS, wT]
theorem w_tup (xs : List D) : ((Sy.mark ")" :: (pushR xs.reverse ++ [Sy.mark "("])).map wS).sum < wD (.tup xs) := by
  have e : ∀ l : List Sy, (l.map wS).sum = (l.reverse.map wS).sum := fun l => by rw [List.map_reverse, List.sum_reverse]
  rw [e]
  cases xs with
  | nil => simp [pushR, wS, wD, wT]
  | cons x ys =>
    rw [show (x :: ys).reverse = ys.reverse ++ [x] from List.reverse_cons, pushR_end]
    simp only [List.reverse_cons, List.reverse_append, List.reverse_nil, List.nil_append, List.cons_append, rev_pairs, List.map_cons, List.map_append, List.sum_cons, List.sum_append, w_pairs, List.map_nil, List.sum_nil]
    simp [wS, wD, wT]
    omega
/-- all stays but at two places -/
def KeepB2 (p l : Nat) (h h' : Hm) : Prop := ∀ (i : Nat) (o : HOb), i ≠ p → i ≠ l → h[i]? = some o → h'[i]? = some o
def RelS (p l : Nat) (h : Hm) (d : D) : Sy → Prop
  | .mark s => ∃ m, d = .ref m ∧ m ≠ p ∧ m ≠ l ∧ h[m]? = some (.lst [.str s])
  | .val x => d = x ∧ pl x = true
def RelL (p l : Nat) (h : Hm) : List D → List Sy → Prop
  | [], [] => True
  | d :: ds, s :: ss => RelS p l h d s ∧ RelL p l h ds ss
  | _, _ => False
theorem RelS.mono {p l : Nat} {h h' : Hm} (k : KeepB2 p l h h') {d : D} {s : Sy} (r : RelS p l h d s) : RelS p l h' d s := by
  cases s with
  | mark s => obtain ⟨m, a, b, c, e⟩ := r; exact ⟨m, a, b, c, k _ _ b c e⟩
  | val x => exact r
theorem RelL.mono {p l : Nat} {h h' : Hm} (k : KeepB2 p l h h') : ∀ {ds : List D} {ss : List Sy}, RelL p l h ds ss → RelL p l h' ds ss
  | [], [], _ => trivial
  | d :: ds, s :: ss, ⟨a, b⟩ => ⟨a.mono k, b.mono k⟩
theorem RelL.app {p l : Nat} {h : Hm} : ∀ {ds : List D} {ss : List Sy} {es : List D} {ts : List Sy}, RelL p l h ds ss → RelL p l h es ts → RelL p l h (ds ++ es) (ss ++ ts)
  | [], [], _, _, _, y => y
  | d :: ds, s :: ss, _, _, ⟨a, b⟩, y => ⟨a, b.app y⟩
theorem RelL.len {p l : Nat} {h : Hm} : ∀ {ds : List D} {ss : List Sy}, RelL p l h ds ss → ds.length = ss.length
  | [], [], _ => rfl
  | d :: ds, s :: ss, ⟨a, b⟩ => by simp [b.len]
theorem RelL.last {p l : Nat} {h : Hm} : ∀ {ds : List D} {ss : List Sy}, RelL p l h ds ss → ds ≠ [] → ∃ d0 x s0 y, ds = d0 ++ [x] ∧ ss = s0 ++ [y] ∧ RelL p l h d0 s0 ∧ RelS p l h x y
  | [d], [s], ⟨a, b⟩, _ => ⟨[], d, [], s, rfl, rfl, trivial, a⟩
  | d :: e :: ds, s :: t :: ss, ⟨a, b⟩, _ => by
    obtain ⟨d0, x, s0, y, e1, e2, r1, r2⟩ := RelL.last b (by simp)
    exact ⟨d :: d0, x, s :: s0, y, by rw [e1]; rfl, by rw [e2]; rfl, ⟨a, r1⟩, r2⟩
theorem KeepB2.refl (p l : Nat) (h : Hm) : KeepB2 p l h h := fun _ _ _ _ e => e
theorem KeepB2.trans {p l : Nat} {a b c : Hm} (x : KeepB2 p l a b) (y : KeepB2 p l b c) : KeepB2 p l a c := fun i o n1 n2 e => y i o n1 n2 (x i o n1 n2 e)
theorem Keep.b2 {a b : Hm} (k : Keep a b) (p l : Nat) : KeepB2 p l a b := fun i o _ _ e => k i o e
theorem KeepBut.b2r {l : Nat} {a b : Hm} (k : KeepBut l a b) (p : Nat) : KeepB2 p l a b := fun i o _ n2 e => k i o n2 e
theorem KeepBut.b2l {p : Nat} {a b : Hm} (k : KeepBut p a b) (l : Nat) : KeepB2 p l a b := fun i o n1 _ e => k i o n1 e
end K88
end AR
end
section
set_option Elab.async false
set_option linter.all false
set_option maxRecDepth 100000
set_option maxHeartbeats 4000000
namespace AR
namespace K88
open PySem L2 PySem.Spec PyProof.Rows
theorem eqP_int (h : Hm) (i j : Int) : eqP h (.int i) (.int j) = some (i == j) := by
  unfold eqP
  simp only [toP]
  rw [if_pos ⟨by unfold SeqAt.shaped; simp [PyData.canLay0, PyData.depth], by unfold SeqAt.shaped; simp [PyData.canLay0, PyData.depth]⟩]
  rfl
abbrev s_ext : S := .expr (.meth .list .extend (.v 2) [(.ite (.op .eq [(.v 4), (.op .sub [(.op .len [(.v 3)]), (.c (.int 1))])]) (.op .lst [(.v 5)]) (.op .lst [(.v 5), (.op .lst [(.c (.str " "))])]))])
theorem do_ext {K : Nat → List SV → List SV → Hm → R SV} {d : D} {p l : Nat} {xs : List D} {i : Nat} {x : D} {h : Hm} {st : List D} (hp : p < h.length) (hl : h[l]? = some (.lst st)) (hb : st.length + 2 < sizeLine) (px : pl x = true) :
    ∃ h' ds, exec K s_ext [some (.d d), some (.d (.ref p)), some (.d (.ref l)), some (.d (.tup xs)), some (.d (.int i)), some (.d x)] h = .nx [some (.d d), some (.d (.ref p)), some (.d (.ref l)), some (.d (.tup xs)), some (.d (.int i)), some (.d x)] h' ∧ h'[l]? = some (.lst (st ++ ds)) ∧ KeepBut l h h' ∧ RelL p l h' ds (if i + 1 = xs.length then [.val x] else [.val x, .mark " "]) := by
  have ll : l < h.length := (List.getElem?_eq_some_iff.mp hl).1
  have ec : ((i : Int) == (xs.length : Int) - 1) = decide (i + 1 = xs.length) := by
    rw [Bool.eq_iff_iff]; simp; omega
  have sb := sizeLine_big
  by_cases e : i + 1 = xs.length
  · have kp := (Keep.app h [HOb.lst [x]]).but l
    refine ⟨(h ++ [HOb.lst [x]]).set l (HOb.lst (st ++ [x])), [x], ?_, at_set (Keep.app h _ _ _ hl), kp.trans (KeepBut.set _ _ _), by rw [if_pos e]; exact ⟨⟨rfl, px⟩, trivial⟩⟩
    rw [exec_expr, evE_meth, evE_v]
    simp only [getV, List.getElem?_cons_succ, List.getElem?_cons_zero, R.bind_ok, methRun, tyOf, hl, if_pos, evEs_cons, evEs_nil, evE_ite, evE_op, evE_v, evE_c, or1, or2, op, a1, a2, dLen, seqOf, dSub, toSV_ok, eqP_int, ec, asB, truth_ok, decide_eq_true_eq]
    rw [if_pos e]
    simp only [opRun, allD, Option.map_some, op, newL, newH, List.length_cons, List.length_nil]
    rw [if_pos (by omega)]
    simp only [toSV_ok, R.bind_ok, opRun, allD, Option.map_some, op, a2, dExtend, Keep.app h [HOb.lst [x]] _ _ hl, seqLT, at_new, List.length_cons, List.length_nil]
    rw [if_pos (by omega)]
    rfl
  · have k1 := Keep.app h [HOb.lst [.str " "]]
    have k2 := Keep.app (h ++ [HOb.lst [.str " "]]) [HOb.lst [x, .ref h.length]]
    have kp := (k1.trans k2).but l
    refine ⟨((h ++ [HOb.lst [.str " "]]) ++ [HOb.lst [x, .ref h.length]]).set l (HOb.lst (st ++ [x, .ref h.length])), [x, .ref h.length], ?_, at_set (k2 _ _ (k1 _ _ hl)), kp.trans (KeepBut.set _ _ _), ?_⟩
    · rw [exec_expr, evE_meth, evE_v]
      simp only [getV, List.getElem?_cons_succ, List.getElem?_cons_zero, R.bind_ok, methRun, tyOf, hl, if_pos, evEs_cons, evEs_nil, evE_ite, evE_op, evE_v, evE_c, or1, or2, op, a1, a2, dLen, seqOf, dSub, toSV_ok, eqP_int, ec, asB, truth_ok, decide_eq_true_eq]
      rw [if_neg e]
      simp only [opRun, allD, Option.map_some, op, newL, newH, List.length_cons, List.length_nil]
      rw [if_pos (by omega)]
      simp only [toSV_ok, R.bind_ok, opRun, allD, Option.map_some, op, newL, newH, List.length_cons, List.length_nil]
      rw [if_pos (by omega)]
      simp only [toSV_ok, R.bind_ok, opRun, allD, Option.map_some, op, a2, dExtend, k2 _ _ (k1 _ _ hl), seqLT, at_new, List.length_cons, List.length_nil]
      rw [if_pos (by omega)]
      rfl
    · rw [if_neg e]
      refine ⟨⟨rfl, px⟩, ⟨h.length, rfl, by omega, by omega, ?_⟩, trivial⟩
      rw [List.getElem?_set_ne (by omega)]
      exact k2 _ _ (at_new _ _)
theorem plS_at : ∀ {xs : List D} {x : D}, plS xs = true → x ∈ xs → pl x = true
  | y :: ys, x, h, m => by
    simp only [plS, Bool.and_eq_true] at h
    cases m with
    | head => exact h.1
    | tail _ m => exact plS_at h.2 m
theorem pushR_step {rs : List D} {i : Nat} {x : D} (e : rs[i]? = some x) : pushR (rs.drop i) = (if i + 1 = rs.length then [Sy.val x] else [.val x, .mark " "]) ++ pushR (rs.drop (i + 1)) := by
  obtain ⟨lt, rfl⟩ := List.getElem?_eq_some_iff.mp e
  rw [List.drop_eq_getElem_cons lt]
  by_cases e : i + 1 = rs.length
  · rw [if_pos e, List.drop_eq_nil_of_le (by omega)]
    rfl
  · rw [if_neg e, List.drop_eq_getElem_cons (by omega : i + 1 < rs.length)]
    rfl
end K88
end AR
end
section
set_option Elab.async false
set_option linter.all false
set_option maxRecDepth 100000
set_option maxHeartbeats 4000000
namespace AR
namespace K88
open PySem L2 PySem.Spec PyProof.Rows
abbrev s_mark (s : Str) : S := .expr (.meth .list .append (.v 2) [(.op .lst [(.c (.str s))])])
theorem do_mark {K : Nat → List SV → List SV → Hm → R SV} {d : D} {p l : Nat} {t : D} {e4 e5 : Option SV} {s : Str} {h : Hm} {st : List D} (hp : p < h.length) (hl : h[l]? = some (.lst st)) (hb : st.length < sizeLine) :
    ∃ h' x, exec K (s_mark s) [some (.d d), some (.d (.ref p)), some (.d (.ref l)), some (.d t), e4, e5] h = .nx [some (.d d), some (.d (.ref p)), some (.d (.ref l)), some (.d t), e4, e5] h' ∧ h'[l]? = some (.lst (st ++ [x])) ∧ KeepBut l h h' ∧ RelS p l h' x (.mark s) := by
  have ll : l < h.length := (List.getElem?_eq_some_iff.mp hl).1
  have sb := sizeLine_big
  have k1 := Keep.app h [HOb.lst [.str s]]
  refine ⟨(h ++ [HOb.lst [.str s]]).set l (HOb.lst (st ++ [.ref h.length])), .ref h.length, ?_, at_set (k1 _ _ hl), (k1.but l).trans (KeepBut.set _ _ _), ⟨h.length, rfl, by omega, by omega, ?_⟩⟩
  · rw [exec_expr, evE_meth, evE_v]
    simp only [getV, List.getElem?_cons_succ, List.getElem?_cons_zero, R.bind_ok, methRun, tyOf, hl, if_pos, evEs_cons, evEs_nil, evE_op, evE_c]
    simp only [opRun, allD, Option.map_some, op, newL, newH, List.length_cons, List.length_nil]
    rw [if_pos (by omega)]
    simp only [toSV_ok, R.bind_ok, opRun, allD, Option.map_some, op, a2, dAppend, k1 _ _ hl]
    rw [if_pos (by omega)]
    rfl
  · rw [List.getElem?_set_ne (by omega)]
    exact at_new _ _
abbrev b_tup : List S := [s_mark ")", (.for (.tp [(.nm 4), (.nm 5)]) .enmRev [(.v 3)] [s_ext]), s_mark "("]
theorem push_len : ∀ rs : List D, (pushR rs).length ≤ 2 * rs.length
  | [] => by simp [pushR]
  | [x] => by simp [pushR]
  | x :: y :: r => by
    have := push_len (y :: r)
    simp only [pushR, List.length_cons] at this ⊢
    omega
theorem do_tup {K : Nat → List SV → List SV → Hm → R SV} {d : D} {p l : Nat} {xs : List D} {e4 e5 : Option SV} {h : Hm} {st : List D} (hp : p < h.length) (hl : h[l]? = some (.lst st)) (hb : st.length + 2 * xs.length + 10 < 1000000) (px : plS xs = true) :
    ∃ h' ds e4' e5', execs K b_tup [some (.d d), some (.d (.ref p)), some (.d (.ref l)), some (.d (.tup xs)), e4, e5] h = .nx [some (.d d), some (.d (.ref p)), some (.d (.ref l)), some (.d (.tup xs)), e4', e5'] h' ∧ h'[l]? = some (.lst (st ++ ds)) ∧ KeepBut l h h' ∧ RelL p l h' ds (Sy.mark ")" :: (pushR xs.reverse ++ [Sy.mark "("])) := by
  have sb := sizeLine_big
  have fp := fuel_pos.2
  obtain ⟨h1, x1, p1, p2, p3, p4⟩ := do_mark (K := K) (d := d) (t := .tup xs) (e4 := e4) (e5 := e5) (s := ")") hp hl (by omega)
  have lenp : ∀ {a b : Hm}, KeepBut l a b → p < a.length → (p = l → False) → p < b.length := fun k hpa ne => by
    exact (List.getElem?_eq_some_iff.mp (k p _ ne (List.getElem?_eq_getElem hpa))).1
  have lenp2 : ∀ {b : Hm} {o : HOb}, KeepBut l h b → b[l]? = some o → p < b.length := fun {b o} k hb => by
    by_cases e : p = l
    · rw [e]; exact (List.getElem?_eq_some_iff.mp hb).1
    · exact lenp k hp e
  have loop := forGo_run (get := fun h i => (AR.It.enm (.revT xs)).at h i) (t := .tp [.nm 4, .nm 5]) (b := fun env h => execs K [s_ext] env h) (items := (List.range xs.reverse.length).map fun (i : Nat) => D.tup [.int (i : Int), (xs.reverse[i]?.getD .non)])
    (fun i env h' => ∃ e4 e5 ds sy, env = [some (.d d), some (.d (.ref p)), some (.d (.ref l)), some (.d (.tup xs)), e4, e5] ∧ h'[l]? = some (.lst ((st ++ [x1]) ++ ds)) ∧ KeepBut l h1 h' ∧ RelL p l h' ds sy ∧ sy ++ pushR (xs.reverse.drop i) = pushR xs.reverse)
    (fun i env h' hi => by
      show some ((xs.reverse[i]?).map fun d => D.tup [.int i, d]) = _
      rw [List.getElem?_map]
      by_cases lt : i < xs.reverse.length
      · rw [List.getElem?_range lt]
        show _ = some (some (D.tup [.int (i : Int), xs.reverse[i]?.getD .non]))
        rw [List.getElem?_eq_getElem lt]
        rfl
      · rw [List.getElem?_eq_none (by omega), List.getElem?_eq_none (by simpa using lt)]
        rfl)
    (fun i env h' x hi hx => by
      obtain ⟨e4, e5, ds, sy, rfl, q1, q2, q3, q4⟩ := hi
      rw [List.getElem?_map] at hx
      have lt : i < xs.reverse.length := by
        by_cases lt : i < xs.reverse.length
        · exact lt
        · rw [List.getElem?_eq_none (by simpa using lt)] at hx
          cases hx
      rw [List.getElem?_range lt] at hx
      have ex : xs.reverse[i]? = some (xs.reverse[i]?.getD .non) := by rw [List.getElem?_eq_getElem lt]; rfl
      cases hx
      have st2 := pushR_step ex
      have pxx : pl (xs.reverse[i]?.getD .non) = true := plS_at px (List.mem_reverse.mp (List.mem_of_getElem? ex))
      have ln : ds.length ≤ 2 * xs.length := by
        rw [q3.len]
        have := push_len xs.reverse
        rw [← q4, List.length_append, List.length_reverse] at this
        omega
      obtain ⟨h2, dd, r1, r2, r3, r4⟩ := do_ext (K := K) (d := d) (p := p) (xs := xs) (i := i) (x := (xs.reverse[i]?.getD .non)) (lenp2 (p3.trans q2) q1) q1 (by simp; omega) pxx
      refine ⟨[some (.d d), some (.d (.ref p)), some (.d (.ref l)), some (.d (.tup xs)), some (.d (.int i)), some (.d (xs.reverse[i]?.getD .non))], [some (.d d), some (.d (.ref p)), some (.d (.ref l)), some (.d (.tup xs)), some (.d (.int i)), some (.d (xs.reverse[i]?.getD .non))], h2, rfl, .inl ?_, some (.d (.int i)), some (.d (xs.reverse[i]?.getD .non)), ds ++ dd, sy ++ (if i + 1 = xs.length then [.val (xs.reverse[i]?.getD .non)] else [.val (xs.reverse[i]?.getD .non), .mark " "]), rfl, ?_, q2.trans r3, ?_, ?_⟩
      · rw [execs_cons, r1]; rfl
      · rw [r2, List.append_assoc]
      · exact (q3.mono (KeepBut.b2r r3 p)).app r4
      · rw [List.length_reverse] at st2
        rw [List.append_assoc, ← st2, q4])
    xs.length fuelW 0 [some (.d d), some (.d (.ref p)), some (.d (.ref l)), some (.d (.tup xs)), e4, e5] h1 (by simp) (by omega) ⟨e4, e5, [], [], rfl, by rw [p2, List.append_nil], fun _ _ _ e => e, trivial, rfl⟩
  obtain ⟨env', h2, l1, e4', e5', ds, sy, rfl, l2, l3, l4, l5⟩ := loop
  rw [List.length_map, List.length_range, List.drop_length] at l5
  have l5' : sy = pushR xs.reverse := by rw [← l5]; simp [pushR]
  have ln : ds.length ≤ 2 * xs.length := by
    rw [l4.len, l5']
    have := push_len xs.reverse
    rw [List.length_reverse] at this
    exact this
  obtain ⟨h3, x3, m1, m2, m3, m4⟩ := do_mark (K := K) (d := d) (p := p) (t := .tup xs) (e4 := e4') (e5 := e5') (s := "(") (lenp2 (p3.trans l3) l2) l2 (by simp; omega)
  refine ⟨h3, x1 :: (ds ++ [x3]), e4', e5', ?_, by rw [m2]; simp, (p3.trans l3).trans m3, ?_⟩
  · rw [execs_cons, p1, seq_nx, execs_cons, exec_for]
    simp only [evEs_cons, evEs_nil, evE_v, getV, List.getElem?_cons_succ, List.getElem?_cons_zero, R.bind_ok, R.st_ok, forRun, allD, Option.map_some, itOf, i1, itRev, itEnmRev]
    rw [l1, seq_nx, execs_cons, m1]
    rfl
  · rw [← l5']
    exact ⟨(p4.mono (KeepBut.b2r l3 p)).mono (KeepBut.b2r m3 p), (l4.mono (KeepBut.b2r m3 p)).app ⟨m4, trivial⟩⟩
end K88
end AR
end
section
set_option Elab.async false
set_option linter.all false
set_option maxRecDepth 100000
set_option maxHeartbeats 4000000
namespace AR
namespace K88
open PySem L2 PySem.Spec PyProof.Rows
abbrev s_atom : S := .expr (.meth .list .append (.v 1) [(.ite (.op .isNon [(.v 3)]) (.c (.str "-")) (.op .str [(.v 3)]))])
abbrev b_stack : List S := [(.asg (.nm 3) (.meth .list .pop (.v 2) [])), (.ifs (.op (.isi [.list]) [(.v 3)]) [(.expr (.meth .list .append (.v 1) [(.op .ix [(.v 3), (.c (.int 0))])]))] [(.ifs (.op (.isi [.tuple]) [(.v 3)]) b_tup [s_atom])])]
theorem do_atom {K : Nat → List SV → List SV → Hm → R SV} {d : D} {p l : Nat} {x : D} {e4 e5 : Option SV} {h : Hm} {acc : List Str} (hp : h[p]? = some (.lst (acc.map D.str))) (hb : acc.length < 1000000) (px : pl x = true) (nt : isTup x = false) :
    ∃ s, execs K [s_atom] [some (.d d), some (.d (.ref p)), some (.d (.ref l)), some (.d x), e4, e5] h = .nx [some (.d d), some (.d (.ref p)), some (.d (.ref l)), some (.d x), e4, e5] (h.set p (HOb.lst ((acc ++ [s]).map D.str))) ∧ outD x = [s] := by
  have sb := sizeLine_big
  have fin : ∀ s : Str, evE K (.ite (.op .isNon [(.v 3)]) (.c (.str "-")) (.op .str [(.v 3)])) [some (.d d), some (.d (.ref p)), some (.d (.ref l)), some (.d x), e4, e5] h = .ok (.d (.str s)) h → execs K [s_atom] [some (.d d), some (.d (.ref p)), some (.d (.ref l)), some (.d x), e4, e5] h = .nx [some (.d d), some (.d (.ref p)), some (.d (.ref l)), some (.d x), e4, e5] (h.set p (HOb.lst ((acc ++ [s]).map D.str))) := by
    intro s q
    rw [execs_cons, exec_expr, evE_meth, evE_v]
    simp only [getV, List.getElem?_cons_succ, List.getElem?_cons_zero, R.bind_ok, methRun, tyOf, hp, if_pos, evEs_cons, evEs_nil, q, opRun, allD, Option.map_some, op, a2, dAppend]
    rw [if_pos (by simp; omega)]
    rw [List.map_append]
    rfl
  cases x with
  | non => exact ⟨"-", fin _ rfl, by simp [outD]⟩
  | str s => exact ⟨s, fin _ rfl, by simp [outD]⟩
  | int i =>
    refine ⟨toString i, fin _ ?_, by simp [outD]⟩
    simp only [pl, decide_eq_true_eq] at px
    rw [evE_ite, evE_op, evEs_cons, evE_v]
    simp only [getV, List.getElem?_cons_succ, List.getElem?_cons_zero, R.bind_ok, evEs_nil, or1, op, a1, isNonD, toSV_ok, truth_ok, evE_op, evEs_cons, evE_v, dStr, if_pos px]
    rfl
  | tup xs => simp [isTup] at nt
  | bl b => simp [pl] at px
  | ref m => simp [pl] at px
theorem wT_len : ∀ xs : List D, 2 * xs.length ≤ wT xs
  | [] => by simp
  | x :: xs => by
    have := wT_len xs
    have w1 : 1 ≤ wD x := by cases x <;> simp [wD] <;> omega
    simp only [wT, List.length_cons]
    omega
theorem do_stack {K : Nat → List SV → List SV → Hm → R SV} {d : D} {p l : Nat} {x : D} {y : Sy} {st : List D} {e3 e4 e5 : Option SV} {h : Hm} {acc : List Str} (ne : p ≠ l) (hp : h[p]? = some (.lst (acc.map D.str))) (hl : h[l]? = some (.lst (st ++ [x]))) (r : RelS p l h x y) (hb : acc.length + st.length + wS y + 10 < 1000000) :
    ∃ h' ds sy o e3' e4' e5', execs K b_stack [some (.d d), some (.d (.ref p)), some (.d (.ref l)), e3, e4, e5] h = .nx [some (.d d), some (.d (.ref p)), some (.d (.ref l)), e3', e4', e5'] h' ∧ h'[p]? = some (.lst ((acc ++ o).map D.str)) ∧ h'[l]? = some (.lst (st ++ ds)) ∧ KeepB2 p l h h' ∧ RelL p l h' ds sy ∧ outS y = o ++ sy.reverse.flatMap outS ∧ (sy.map wS).sum < wS y ∧ o.length + (sy.map wS).sum ≤ wS y := by
  have sb := sizeLine_big
  have l1 : (h.set l (HOb.lst st))[l]? = some (.lst st) := at_set hl
  have p1 : (h.set l (HOb.lst st))[p]? = some (.lst (acc.map D.str)) := by rw [List.getElem?_set_ne (Ne.symm ne)]; exact hp
  have k1 : KeepB2 p l h (h.set l (HOb.lst st)) := KeepBut.b2r (KeepBut.set h l _) p
  have pop : ∀ rest, execs K ((.asg (.nm 3) (.meth .list .pop (.v 2) [])) :: rest) [some (.d d), some (.d (.ref p)), some (.d (.ref l)), e3, e4, e5] h = execs K rest [some (.d d), some (.d (.ref p)), some (.d (.ref l)), some (.d x), e4, e5] (h.set l (HOb.lst st)) := by
    intro rest
    have e1 : (st ++ [x])[(st ++ [x]).length - 1]? = some x := by simp
    have e2 : (st ++ [x]).dropLast = st := by simp
    rw [execs_cons, exec_asg, evE_meth, evE_v]
    simp only [getV, List.getElem?_cons_succ, List.getElem?_cons_zero, R.bind_ok, methRun, tyOf, hl, if_pos, evEs_nil, opRun, allD, Option.map_some, op, a1, dPop, e1, e2]
    rfl
  rw [pop]
  cases y with
  | mark s =>
    obtain ⟨m, rfl, n1, n2, hm⟩ := r
    have m1 : (h.set l (HOb.lst st))[m]? = some (.lst [.str s]) := by rw [List.getElem?_set_ne (Ne.symm n2)]; exact hm
    refine ⟨(h.set l (HOb.lst st)).set p (HOb.lst ((acc ++ [s]).map D.str)), [], [], [s], some (.d (.ref m)), e4, e5, ?_, at_set p1, by rw [List.getElem?_set_ne ne, l1, List.append_nil], k1.trans (KeepBut.b2l (KeepBut.set _ p _) l), trivial, rfl, by simp [wS], by simp [wS]⟩
    rw [execs_cons, exec_ifs, evE_op, evEs_cons, evE_v]
    simp only [getV, List.getElem?_cons_succ, List.getElem?_cons_zero, R.bind_ok, evEs_nil, or1, op, a1, isiD, tyOf, m1]
    have i1 : isiTy .list [.list] = some true := rfl
    simp only [i1, asB, toSV_ok, truth_ok, R.st_ok, if_pos]
    rw [execs_cons, exec_expr, evE_meth, evE_v]
    simp only [getV, List.getElem?_cons_succ, List.getElem?_cons_zero, R.bind_ok, methRun, tyOf, p1, if_pos, evEs_cons, evEs_nil, evE_op, evE_v, evE_c, or2, op, a2, dIx, m1, dIxR]
    have ia : atI [D.str s] 0 = some (.str s) := rfl
    simp only [ia, okO, id, toSV_ok, R.bind_ok, opRun, allD, Option.map_some, op, a2, dAppend, p1]
    rw [if_pos (by simp; omega), List.map_append]
    rfl
  | val x' =>
    obtain ⟨rfl, px⟩ := r
    simp only [wS] at hb
    have notlist : execs K [(.ifs (.op (.isi [.list]) [(.v 3)]) [(.expr (.meth .list .append (.v 1) [(.op .ix [(.v 3), (.c (.int 0))])]))] [(.ifs (.op (.isi [.tuple]) [(.v 3)]) b_tup [s_atom])])] [some (.d d), some (.d (.ref p)), some (.d (.ref l)), some (.d x), e4, e5] (h.set l (HOb.lst st)) = seqRun (seqRun (if isTup x = true then execs K b_tup [some (.d d), some (.d (.ref p)), some (.d (.ref l)), some (.d x), e4, e5] (h.set l (HOb.lst st)) else execs K [s_atom] [some (.d d), some (.d (.ref p)), some (.d (.ref l)), some (.d x), e4, e5] (h.set l (HOb.lst st))) fun env h => .nx env h) fun env h => .nx env h := by
      cases x with
      | bl b => simp [pl] at px
      | ref m => simp [pl] at px
      | _ => rfl
    rw [notlist]
    cases et : isTup x with
    | false =>
      obtain ⟨s, q1, q2⟩ := do_atom (K := K) (d := d) (l := l) (e4 := e4) (e5 := e5) p1 (by omega) px et
      refine ⟨_, [], [], [s], some (.d x), e4, e5, ?_, at_set p1, by rw [List.getElem?_set_ne ne, l1, List.append_nil], k1.trans (KeepBut.b2l (KeepBut.set _ p _) l), trivial, by simp [outS, q2], ?_, ?_⟩
      · rw [if_neg (by decide), q1]; rfl
      · have w1 : 1 ≤ wD x := by cases x <;> simp [wD] <;> omega
        simp [wS]; omega
      · have w1 : 1 ≤ wD x := by cases x <;> simp [wD] <;> omega
        simp [wS]; omega
    | true =>
      cases x with
      | tup xs =>
        have wl := wT_len xs
        simp only [wD] at hb
        simp only [pl, Bool.and_eq_true] at px
        obtain ⟨h2, ds, e4', e5', q1, q2, q3, q4⟩ := do_tup (K := K) (d := d) (e4 := e4) (e5 := e5) (List.getElem?_eq_some_iff.mp p1).1 l1 (by omega) px.2
        refine ⟨h2, ds, _, [], some (.d (.tup xs)), e4', e5', ?_, by rw [List.append_nil]; exact q3 _ _ ne p1, q2, k1.trans (KeepBut.b2r q3 p), q4, ?_, ?_, ?_⟩
        · rw [if_pos rfl, q1]; rfl
        · rw [outs_tup]; rfl
        · exact w_tup xs
        · exact Nat.le_of_lt (by rw [List.length_nil, Nat.zero_add]; exact w_tup xs)
      | _ => simp [isTup] at et
end K88
end AR
end
section
set_option Elab.async false
set_option linter.all false
set_option maxRecDepth 100000
set_option maxHeartbeats 4000000
namespace AR
namespace K88
open PySem L2 PySem.Spec PyProof.Rows
theorem wS_pos : ∀ y : Sy, 1 ≤ wS y
  | .mark _ => Nat.le_refl _
  | .val x => by cases x <;> simp [wS, wD] <;> omega
theorem wS_len : ∀ sy : List Sy, sy.length ≤ (sy.map wS).sum
  | [] => by simp
  | y :: sy => by
    have := wS_len sy
    have := wS_pos y
    simp only [List.length_cons, List.map_cons, List.sum_cons]
    omega
theorem whileGo_succ (c : AR.Env → Hm → R Bool) (b : AR.Env → Hm → RS) (fuel : Nat) (env : AR.Env) (h : Hm) : whileGo c b (fuel + 1) env h = (c env h).st env fun x h => if x = true then (match b env h with
      | .nx env h => whileGo c b fuel env h
      | .ct env h => whileGo c b fuel env h
      | .bk env h => .nx env h
      | r => r : RS) else .nx env h := rfl
theorem do_while {K : Nat → List SV → List SV → Hm → R SV} {d : D} {p l : Nat} (ne : p ≠ l) : ∀ (fuel : Nat) (sy : List Sy) (st : List D) (acc : List Str) (e3 e4 e5 : Option SV) (h : Hm), (sy.map wS).sum < fuel → h[p]? = some (.lst (acc.map D.str)) → h[l]? = some (.lst st) → RelL p l h st sy → acc.length + (sy.map wS).sum + 10 < 1000000 →
    ∃ h' e3' e4' e5', whileGo (fun env h => truth (evE K (.op .neNil [(.v 2)]) env h)) (fun env h => execs K b_stack env h) fuel [some (.d d), some (.d (.ref p)), some (.d (.ref l)), e3, e4, e5] h = .nx [some (.d d), some (.d (.ref p)), some (.d (.ref l)), e3', e4', e5'] h' ∧ h'[p]? = some (.lst ((acc ++ sy.reverse.flatMap outS).map D.str)) ∧ KeepB2 p l h h'
  | fuel + 1, sy, st, acc, e3, e4, e5, h, hf, hp, hl, r, hb => by
    rw [whileGo_succ, evE_op, evEs_cons, evE_v]
    simp only [getV, List.getElem?_cons_succ, List.getElem?_cons_zero, R.bind_ok, evEs_nil, or1, op, a1, nilD, hl, Option.map_some, asB, toSV_ok, truth_ok, R.st_ok]
    by_cases es : st = []
    · subst es
      have e0 : sy = [] := by
        have := r.len
        exact List.length_eq_zero_iff.mp this.symm
      subst e0
      exact ⟨h, e3, e4, e5, rfl, by rw [hp]; simp, KeepB2.refl _ _ _⟩
    · obtain ⟨st0, x, sy0, y, rfl, rfl, r1, r2⟩ := r.last es
      simp only [List.map_append, List.sum_append, List.map_cons, List.map_nil, List.sum_cons, List.sum_nil] at hf hb
      have sl := wS_len sy0
      have rl := r1.len
      obtain ⟨h1, ds, sy1, o, e3', e4', e5', q1, q2, q3, q4, q5, q6, q7, q8⟩ := do_stack (K := K) (d := d) (e3 := e3) (e4 := e4) (e5 := e5) ne hp hl r2 (by omega)
      have hn : (!(st0 ++ [x]).isEmpty) = true := by simp
      rw [hn, if_pos rfl, q1]
      obtain ⟨h2, f3, f4, f5, w1, w2, w3⟩ := do_while (K := K) (d := d) ne fuel (sy0 ++ sy1) (st0 ++ ds) (acc ++ o) e3' e4' e5' h1 (by simp only [List.map_append, List.sum_append]; omega) q2 q3 ((r1.mono q4).app q5) (by simp only [List.map_append, List.sum_append, List.length_append]; omega)
      refine ⟨h2, f3, f4, f5, w1, ?_, q4.trans w3⟩
      rw [w2]
      simp only [List.reverse_append, List.flatMap_append, List.reverse_cons, List.reverse_nil, List.nil_append, List.singleton_append, List.flatMap_cons, List.append_assoc, q6]
theorem txts_map : ∀ l : List Str, txts (l.map D.str) = some l
  | [] => rfl
  | s :: l => by simp [txts, txts_map l]
def textOf (d : D) : Str := Txt.join "" (outD d)
def e_text : Exn := ⟨18, [("line", .int 0)]⟩
theorem run_text_bad {n : Nat} {d : D} {h : Hm} (f : Fine h d) (b : isVal d = false) : ∃ h', AR.run prog (n + 3) 3 [.d d] [] h = .exc e_text h' ∧ Keep h h' := by
  rw [run_def (d := ⟨1, 0, 6, i_value_text⟩) rfl rfl rfl]
  obtain ⟨h', q1, q2⟩ := run_value (n := n) f
  refine ⟨h', ?_, q2⟩
  rw [b] at q1
  show finish (execs (AR.run prog (n + 2)) i_value_text [some (.d d), none, none, none, none, none] h) = _
  unfold i_value_text
  rw [execs_cons, exec_ifs, evE_not, evE_call, evEs_cons, evE_v]
  simp only [getV, List.getElem?_cons_zero, R.bind_ok, evEs_nil, q1, truth_ok, Bool.not_false, okB_eq, R.st_ok, if_pos]
  rfl
theorem run_text {n : Nat} {d : D} {h : Hm} (f : Fine h d) (b : isVal d = true) (px : pl d = true) (hw : wD d + 10 < 1000000) (hs : ((outD d).map (·.length)).sum ≤ 16777216) : ∃ h', AR.run prog (n + 3) 3 [.d d] [] h = .ok (.d (.str (textOf d))) h' ∧ Keep h h' := by
  rw [run_def (d := ⟨1, 0, 6, i_value_text⟩) rfl rfl rfl]
  obtain ⟨h1, q1, q2⟩ := run_value (n := n) f
  rw [b] at q1
  have k1 := Keep.app h1 [HOb.lst []]
  have k2 := Keep.app (h1 ++ [HOb.lst []]) [HOb.lst [d]]
  have l1 : (h1 ++ [HOb.lst []]).length = h1.length + 1 := by simp
  obtain ⟨h2, e3, e4, e5, w1, w2, w3⟩ := do_while (K := AR.run prog (n + 2)) (d := d) (p := h1.length) (l := (h1 ++ [HOb.lst []]).length) (by omega) fuelW [.val d] [d] [] none none none (h1 ++ [HOb.lst []] ++ [HOb.lst [d]]) (by have := fuel_pos.2; simp [wS]; omega) (k2 _ _ (at_new _ _)) (at_new _ _) ⟨⟨rfl, px⟩, trivial⟩ (by simp [wS]; omega)
  refine ⟨h2, ?_, fun i o e => ?_⟩
  · show finish (execs (AR.run prog (n + 2)) i_value_text [some (.d d), none, none, none, none, none] h) = _
    have w2' : h2[h1.length]? = some (.lst ((outD d).map D.str)) := by rw [w2]; simp [outS]
    have tail : execs (AR.run prog (n + 2)) [.ret (.meth .str .join (.c (.str "")) [(.v 1)])] [some (.d d), some (.d (.ref h1.length)), some (.d (.ref (h1 ++ [HOb.lst []]).length)), e3, e4, e5] h2 = .rt (.d (.str (textOf d))) h2 := by
      rw [execs_cons, exec_ret, evE_meth, evE_c]
      simp only [R.bind_ok, methRun, tyOf, if_pos, evEs_cons, evEs_nil, evE_v, getV, List.getElem?_cons_succ, List.getElem?_cons_zero, opRun, allD, Option.map_some, op, a2, dJoin, seqOf, w2', txts_map]
      rw [if_pos (by show _ + _ * 0 ≤ _; omega)]
      rfl
    have head : execs (AR.run prog (n + 2)) i_value_text [some (.d d), none, none, none, none, none] h = seqRun (whileGo (fun env h => truth (evE (AR.run prog (n + 2)) (.op .neNil [(.v 2)]) env h)) (fun env h => execs (AR.run prog (n + 2)) b_stack env h) fuelW [some (.d d), some (.d (.ref h1.length)), some (.d (.ref (h1 ++ [HOb.lst []]).length)), none, none, none] (h1 ++ [HOb.lst []] ++ [HOb.lst [d]])) fun env h => execs (AR.run prog (n + 2)) [.ret (.meth .str .join (.c (.str "")) [(.v 1)])] env h := by
      unfold i_value_text
      rw [execs_cons, exec_ifs, evE_not, evE_call, evEs_cons, evE_v]
      simp only [getV, List.getElem?_cons_zero, R.bind_ok, evEs_nil, q1, truth_ok, Bool.not_true, okB_eq, R.st_ok]
      rfl
    rw [head, w1, seq_nx, tail]
    rfl
  · have lt := (List.getElem?_eq_some_iff.mp (q2 _ _ e)).1
    exact w3 i o (by omega) (by omega) (k2 _ _ (k1 _ _ (q2 _ _ e)))
end K88
end AR
end
section
set_option Elab.async false
set_option linter.all false
set_option maxRecDepth 100000
set_option maxHeartbeats 4000000
namespace AR
namespace K88
open PySem L2 PySem.Spec PyProof.Rows
/-! ## pieces_of -/
def isPun (c : Nat) : Bool := decide (c ∈ (("() " : Str)).cps.toList)
/-- where a run of plain signs ends -/
def endAt (cs : List Nat) : Nat → Nat → Nat
  | 0, j => j
  | m + 1, j => match cs[j]? with
    | some c => if isPun c then j else endAt cs m (j + 1)
    | none => j
theorem atI_nat {α : Type} (xs : List α) (j : Nat) (lt : j < xs.length) : atI xs (j : Int) = xs[j]? := by
  have : ixN xs.length (j : Int) = some j := by
    unfold ixN
    rw [if_pos (by omega), if_pos (by omega)]
    rfl
  simp [atI, this]
theorem notPun {s : Str} {j c : Nat} {h : Hm} (ls : s.cps.size < 1000000) (e : s.cps.toList[j]? = some c) : (dIx h (.str s) (.int j)) = .ok (.str ⟨#[c]⟩) h := by
  have lt := (List.getElem?_eq_some_iff.mp e).1
  have sb := sizeLine_big
  show (if s.length ≤ sizeLine then okO h (atI s.cps.toList j) (fun c => D.str ⟨#[c]⟩) else .stuck) = _
  rw [if_pos (by show s.cps.size ≤ _; omega), atI_nat _ _ lt, e]
  rfl
abbrev c_run : E := .and (.op .lt [(.v 3), (.op .len [(.v 0)])]) (.op .notin [(.op .ix [(.v 0), (.v 3)]), (.c (.str "() "))])
theorem cond_run {K : Nat → List SV → List SV → Hm → R SV} {s : Str} {p : D} {i : Int} {j : Nat} {h : Hm} (ls : s.cps.size < 1000000) : truth (evE K c_run [some (.d (.str s)), some (.d p), some (.d (.int i)), some (.d (.int j))] h) = .ok (match s.cps.toList[j]? with
    | some c => !isPun c
    | none => false) h := by
  have sb := sizeLine_big
  have hl : dLen h (.str s) = .ok (.int (s.cps.toList.length : Nat)) h := by
    show (if s.length ≤ sizeLine then R.ok (D.int s.length) h else .stuck) = _
    rw [if_pos (by show s.cps.size ≤ _; omega)]
    simp [Str.length]
  rw [evE_and, evE_op, evEs_cons, evE_v]
  simp only [getV, List.getElem?_cons_succ, List.getElem?_cons_zero, R.bind_ok, evEs_cons, evEs_nil, evE_op, evE_v, or1, or2, op, a1, a2, hl, toSV_ok, dCmp, truth_ok]
  cases e : s.cps.toList[j]? with
  | none =>
    have := List.getElem?_eq_none_iff.mp e
    rw [show decide ((j : Int) < (s.cps.toList.length : Nat)) = false by simp at this ⊢; omega]
    rfl
  | some c =>
    have lt := (List.getElem?_eq_some_iff.mp e).1
    rw [show decide ((j : Int) < (s.cps.toList.length : Nat)) = true by simp at lt ⊢; omega]
    simp only [if_pos, R.bind_ok, notPun (h := h) ls e, toSV_ok, evE_c, or2, op, a2, isInD, txtOf, signOf, Option.map_some, asB, truth_ok, okB_eq]
    rfl
theorem do_run {K : Nat → List SV → List SV → Hm → R SV} {s : Str} {p : D} {i : Int} {h : Hm} (ls : s.cps.size < 1000000) : ∀ (m fuel j : Nat), s.cps.toList.length ≤ j + m → m < fuel →
    whileGo (fun env h => truth (evE K c_run env h)) (fun env h => execs K [(.aug 3 .add (.c (.int 1)))] env h) fuel [some (.d (.str s)), some (.d p), some (.d (.int i)), some (.d (.int j))] h = .nx [some (.d (.str s)), some (.d p), some (.d (.int i)), some (.d (.int (endAt s.cps.toList m j : Nat)))] h
  | m, fuel + 1, j, hl, hf => by
    rw [whileGo_succ, cond_run ls, R.st_ok]
    cases e : s.cps.toList[j]? with
    | none =>
      have : endAt s.cps.toList m j = j := by cases m <;> simp [endAt, e]
      rw [this]
      rfl
    | some c =>
      have lt := (List.getElem?_eq_some_iff.mp e).1
      cases m with
      | zero => omega
      | succ m =>
        cases ep : isPun c with
        | true =>
          simp only [endAt, e, ep, if_pos]
          rfl
        | false =>
          simp only [endAt, e, ep, Bool.not_false, if_pos, Bool.false_eq_true, if_false]
          exact do_run ls m fuel (j + 1) (by omega) (by omega)
/-- the next cut behind i -/
def nxt (cs : List Nat) (i : Nat) : Nat := match cs[i]? with
  | some c => if isPun c then i + 1 else endAt cs cs.length (i + 1)
  | none => i + 1
theorem endAt_ge (cs : List Nat) : ∀ m j, j ≤ endAt cs m j
  | 0, j => Nat.le_refl _
  | m + 1, j => by
    unfold endAt
    cases cs[j]? with
    | none => exact Nat.le_refl _
    | some c =>
      simp only
      split
      · exact Nat.le_refl _
      · have := endAt_ge cs m (j + 1); omega
theorem nxt_gt (cs : List Nat) (i : Nat) : i < nxt cs i := by
  unfold nxt
  split
  · split
    · omega
    · have := endAt_ge cs cs.length (i + 1); omega
  · omega
def piecesI (s : Str) : Nat → Nat → List Str
  | 0, _ => []
  | m + 1, i => if i < s.cps.toList.length then cutS s (some i) (some (nxt s.cps.toList i : Nat)) :: piecesI s m (nxt s.cps.toList i) else []
end K88
end AR
end
section
set_option Elab.async false
set_option linter.all false
set_option maxRecDepth 100000
set_option maxHeartbeats 4000000
namespace AR
namespace K88
open PySem L2 PySem.Spec PyProof.Rows
abbrev b_piece : List S := [(.asg (.nm 3) (.op .add [(.v 2), (.c (.int 1))])), (.ifs (.op .notin [(.op .ix [(.v 0), (.v 2)]), (.c (.str "() "))]) [(.while c_run [(.aug 3 .add (.c (.int 1)))])] []), (.expr (.meth .list .append (.v 1) [(.op .slB [(.v 0), .op .asInt [(.v 2)], .op .asInt [(.v 3)]])])), (.asg (.nm 2) (.v 3))]
theorem do_piece {K : Nat → List SV → List SV → Hm → R SV} {s : Str} {p i : Nat} {e3 : Option SV} {h : Hm} {acc : List Str} (ls : s.cps.size < 1000000) (lt : i < s.cps.toList.length) (hp : h[p]? = some (.lst (acc.map D.str))) (hb : acc.length < 1000000) :
    execs K b_piece [some (.d (.str s)), some (.d (.ref p)), some (.d (.int i)), e3] h = .nx [some (.d (.str s)), some (.d (.ref p)), some (.d (.int (nxt s.cps.toList i : Nat))), some (.d (.int (nxt s.cps.toList i : Nat)))] (h.set p (HOb.lst ((acc ++ [cutS s (some i) (some (nxt s.cps.toList i : Nat))]).map D.str))) := by
  have sb := sizeLine_big
  have fp := fuel_pos.2
  have lenE : s.cps.toList.length = s.cps.size := by simp
  have lenF : s.cps.toList.length < fuelW := by omega
  obtain ⟨c, e⟩ : ∃ c, s.cps.toList[i]? = some c := ⟨_, List.getElem?_eq_getElem lt⟩
  have mid : execs K [(.asg (.nm 3) (.op .add [(.v 2), (.c (.int 1))])), (.ifs (.op .notin [(.op .ix [(.v 0), (.v 2)]), (.c (.str "() "))]) [(.while c_run [(.aug 3 .add (.c (.int 1)))])] [])] [some (.d (.str s)), some (.d (.ref p)), some (.d (.int i)), e3] h = .nx [some (.d (.str s)), some (.d (.ref p)), some (.d (.int i)), some (.d (.int (nxt s.cps.toList i : Nat)))] h := by
    have a1' : execs K [(.asg (.nm 3) (.op .add [(.v 2), (.c (.int 1))])), (.ifs (.op .notin [(.op .ix [(.v 0), (.v 2)]), (.c (.str "() "))]) [(.while c_run [(.aug 3 .add (.c (.int 1)))])] [])] [some (.d (.str s)), some (.d (.ref p)), some (.d (.int i)), e3] h = execs K [(.ifs (.op .notin [(.op .ix [(.v 0), (.v 2)]), (.c (.str "() "))]) [(.while c_run [(.aug 3 .add (.c (.int 1)))])] [])] [some (.d (.str s)), some (.d (.ref p)), some (.d (.int i)), some (.d (.int (i + 1 : Nat)))] h := rfl
    rw [a1', execs_cons, exec_ifs, evE_op, evEs_cons, evE_op, evEs_cons, evE_v]
    simp only [getV, List.getElem?_cons_succ, List.getElem?_cons_zero, R.bind_ok, evEs_cons, evEs_nil, evE_v, evE_c, or2, op, a2, notPun (h := h) ls e, toSV_ok, isInD, txtOf, signOf, Option.map_some, asB, truth_ok, R.st_ok]
    have en : nxt s.cps.toList i = if isPun c then i + 1 else endAt s.cps.toList s.cps.toList.length (i + 1) := by unfold nxt; rw [e]
    rw [en]
    show seqRun (if (!isPun c) = true then _ else _) _ = _
    cases ep : isPun c with
    | true => rfl
    | false =>
      have w := do_run (K := K) (s := s) (p := .ref p) (i := (i : Int)) (h := h) ls s.cps.toList.length fuelW (i + 1) (by omega) lenF
      simp only [Bool.not_false, if_pos]
      rw [execs_cons, exec_while, w]
      rfl
  have split : execs K b_piece [some (.d (.str s)), some (.d (.ref p)), some (.d (.int i)), e3] h = seqRun (execs K [(.asg (.nm 3) (.op .add [(.v 2), (.c (.int 1))])), (.ifs (.op .notin [(.op .ix [(.v 0), (.v 2)]), (.c (.str "() "))]) [(.while c_run [(.aug 3 .add (.c (.int 1)))])] [])] [some (.d (.str s)), some (.d (.ref p)), some (.d (.int i)), e3] h) fun env h => execs K [(.expr (.meth .list .append (.v 1) [(.op .slB [(.v 0), .op .asInt [(.v 2)], .op .asInt [(.v 3)]])])), (.asg (.nm 2) (.v 3))] env h := by
    simp only [b_piece, execs_cons, execs_nil]
    generalize exec K (.asg (.nm 3) (.op .add [(.v 2), (.c (.int 1))])) [some (.d (.str s)), some (.d (.ref p)), some (.d (.int i)), e3] h = r
    cases r with
    | nx env h =>
      simp only [seq_nx]
      generalize exec K _ env h = r2
      cases r2 <;> rfl
    | _ => rfl
  rw [split, mid, seq_nx, execs_cons, exec_expr, evE_meth, evE_v]
  simp only [getV, List.getElem?_cons_succ, List.getElem?_cons_zero, R.bind_ok, methRun, tyOf, hp, if_pos, evEs_cons, evEs_nil, evE_op, evE_v, or1, or3, op, a1, a3, dAsInt, toSV_ok, dSlB, slD]
  rw [if_pos (by show s.cps.size ≤ _; omega)]
  simp only [toSV_ok, R.bind_ok, opRun, allD, Option.map_some, op, a2, dAppend, hp]
  rw [if_pos (by simp; omega), List.map_append]
  rfl
theorem piecesI_end (s : Str) (m i : Nat) (h : s.cps.toList.length ≤ i) : piecesI s m i = [] := by
  cases m with
  | zero => rfl
  | succ m => unfold piecesI; rw [if_neg (by omega)]
abbrev c_piece : E := .op .lt [(.v 2), (.op .len [(.v 0)])]
theorem cond_piece {K : Nat → List SV → List SV → Hm → R SV} {s : Str} {p : D} {i : Nat} {e3 : Option SV} {h : Hm} (ls : s.cps.size < 1000000) : truth (evE K c_piece [some (.d (.str s)), some (.d p), some (.d (.int i)), e3] h) = .ok (decide (i < s.cps.toList.length)) h := by
  have sb := sizeLine_big
  have hl : dLen h (.str s) = .ok (.int (s.cps.toList.length : Nat)) h := by
    show (if s.length ≤ sizeLine then R.ok (D.int s.length) h else .stuck) = _
    rw [if_pos (by show s.cps.size ≤ _; omega)]
    simp [Str.length]
  rw [evE_op, evEs_cons, evE_v]
  simp only [getV, List.getElem?_cons_succ, List.getElem?_cons_zero, R.bind_ok, evEs_cons, evEs_nil, evE_op, evE_v, or1, or2, op, a1, a2, hl, toSV_ok, dCmp, truth_ok]
  congr 1
  apply decide_eq_decide.mpr
  omega
theorem do_pieces {K : Nat → List SV → List SV → Hm → R SV} {s : Str} {p : Nat} (ls : s.cps.size < 1000000) : ∀ (m fuel i : Nat) (acc : List Str) (e3 : Option SV) (h : Hm), s.cps.toList.length ≤ i + m → m < fuel → h[p]? = some (.lst (acc.map D.str)) → acc.length + m < 1000000 →
    ∃ h' i' e3', whileGo (fun env h => truth (evE K c_piece env h)) (fun env h => execs K b_piece env h) fuel [some (.d (.str s)), some (.d (.ref p)), some (.d (.int i)), e3] h = .nx [some (.d (.str s)), some (.d (.ref p)), some (.d (.int i')), e3'] h' ∧ h'[p]? = some (.lst ((acc ++ piecesI s m i).map D.str)) ∧ KeepBut p h h'
  | m, fuel + 1, i, acc, e3, h, hl, hf, hp, hb => by
    rw [whileGo_succ, cond_piece ls, R.st_ok]
    by_cases lt : i < s.cps.toList.length
    · rw [decide_eq_true lt, if_pos rfl]
      cases m with
      | zero => omega
      | succ m =>
        have gt := nxt_gt s.cps.toList i
        rw [do_piece (K := K) ls lt hp (by omega)]
        obtain ⟨h', i', e3', q1, q2, q3⟩ := do_pieces (K := K) ls m fuel (nxt s.cps.toList i) (acc ++ [cutS s (some i) (some (nxt s.cps.toList i : Nat))]) (some (.d (.int (nxt s.cps.toList i : Nat)))) (h.set p (HOb.lst ((acc ++ [cutS s (some i) (some (nxt s.cps.toList i : Nat))]).map D.str))) (by omega) (by omega) (at_set hp) (by simp; omega)
        refine ⟨h', i', e3', q1, ?_, (KeepBut.set _ _ _).trans q3⟩
        rw [q2]
        conv => rhs; unfold piecesI
        rw [if_pos lt, List.append_assoc]
        rfl
    · rw [decide_eq_false lt]
      exact ⟨h, i, e3, rfl, by rw [hp, piecesI_end _ _ _ (by omega), List.append_nil], fun _ _ _ e => e⟩
def pieces (s : Str) : List Str := piecesI s s.cps.size 0
theorem run_pieces {n : Nat} {s : Str} {h : Hm} (ls : s.cps.size < 1000000) : ∃ h', AR.run prog (n + 1) 4 [.d (.str s)] [] h = .ok (.d (.ref h.length)) h' ∧ h'[h.length]? = some (.lst ((pieces s).map D.str)) ∧ Keep h h' := by
  rw [run_def (d := ⟨1, 0, 4, i_pieces_of⟩) rfl rfl rfl]
  obtain ⟨h', i', e3', q1, q2, q3⟩ := do_pieces (K := AR.run prog n) (p := h.length) ls s.cps.size fuelW 0 [] none (h ++ [HOb.lst []]) (by simp) (by have := fuel_pos.2; omega) (at_new _ _) (by simpa using ls)
  refine ⟨h', ?_, q2, q3.old⟩
  have head : execs (AR.run prog n) i_pieces_of [some (.d (.str s)), none, none, none] h = seqRun (whileGo (fun env h => truth (evE (AR.run prog n) c_piece env h)) (fun env h => execs (AR.run prog n) b_piece env h) fuelW [some (.d (.str s)), some (.d (.ref h.length)), some (.d (.int (0 : Nat))), none] (h ++ [HOb.lst []])) fun env h => execs (AR.run prog n) [.ret (.v 1)] env h := rfl
  show finish (execs (AR.run prog n) i_pieces_of [some (.d (.str s)), none, none, none] h) = _
  rw [head, q1, seq_nx]
  rfl
end K88
end AR
end
section
set_option Elab.async false
set_option linter.all false
set_option maxRecDepth 100000
set_option maxHeartbeats 4000000
namespace AR
namespace K88
open PySem L2 PySem.Spec PyProof.Rows
/-! ## plain_of -/
theorem strOk_list {s : Str} : PyData.strOk s = true ↔ ∀ c ∈ s.cps.toList, c < 0x110000 := by
  unfold PyData.strOk
  rw [← Array.all_toList, List.all_eq_true]
  simp only [decide_eq_true_eq]
theorem strOk_cut {s : Str} (h : PyData.strOk s = true) (lo hi : Option Int) : PyData.strOk (cutS s lo hi) = true := by
  rw [strOk_list] at h ⊢
  intro c hc
  have : c ∈ (s.cps.toList.drop (HT.sIx s.length 0 lo)).take (HT.sIx s.length s.length hi - HT.sIx s.length 0 lo) := by
    simpa [cutS] using hc
  exact h c (List.mem_of_mem_drop (List.mem_of_mem_take this))
theorem Tx.cut {s : Str} (t : Tx s) (lo hi : Option Int) : Tx (cutS s lo hi) := ⟨strOk_cut t.ok lo hi, by
  have := cutS_length s lo hi
  have l := t.lt
  simp only [Str.length] at this
  omega⟩
def figs : List Nat := (("0123456789" : Str)).cps.toList
def bodyOf (t : Str) : Str := if (cutS t none (some 1) == ("-" : Str)) = true then cutS t (some 1) none else t
def allFigs (g : Str) : Bool := g.cps.toList.all fun c => decide (c ∈ figs)
def numOk (t : Str) : Bool := (decide (1 ≤ (bodyOf t).cps.size) && decide ((bodyOf t).cps.size ≤ 12)) && allFigs (bodyOf t)
def plainOf (t : Str) : List D := if (t == ("-" : Str)) = true then [.non] else if isWord (.str t) = true then [.str t] else if numOk t = true then (match intText? t with
    | some i => if (toString i == t) = true then [.int i] else []
    | none => []) else []
theorem kn_str (h : Hm) (s : Str) : Kn h (.str s) := ⟨.str, rfl, fun c e => by cases e⟩
theorem ok_dash : PyData.strOk ("-" : Str) = true := by decide +kernel
theorem slD_cut {h : Hm} {t : Str} (tx : Tx t) (lo hi : Option Int) : slD h (.str t) lo hi = .ok (.str (cutS t lo hi)) h := by
  have sb := sizeLine_big
  have := tx.lt
  show (if t.length ≤ sizeLine then R.ok (D.str (cutS t lo hi)) h else .stuck) = _
  rw [if_pos (by show t.cps.size ≤ _; omega)]
theorem dLen_str {h : Hm} {t : Str} (tx : Tx t) : dLen h (.str t) = .ok (.int (t.cps.size : Nat)) h := by
  have sb := sizeLine_big
  have := tx.lt
  show (if t.length ≤ sizeLine then R.ok (D.int t.length) h else .stuck) = _
  rw [if_pos (by show t.cps.size ≤ _; omega)]
  rfl
abbrev e_body : E := .ite (.op .eq [(.op .slH [(.v 0), (.c (.int 1))]), (.c (.str "-"))]) (.op .slL [(.v 0), (.c (.int 1))]) (.v 0)
theorem ev_body {K : Nat → List SV → List SV → Hm → R SV} {t : Str} {e1 e2 : Option SV} {h : Hm} (tx : Tx t) : evE K e_body [some (.d (.str t)), e1, e2] h = .ok (.d (.str (bodyOf t))) h := by
  rw [evE_ite, evE_op, evEs_cons, evE_op, evEs_cons, evE_v]
  simp only [getV, List.getElem?_cons_zero, R.bind_ok, evEs_cons, evEs_nil, evE_c, or2, op, a2, dSlH, slD_cut tx, toSV_ok, eqP_str h (strOk_cut tx.ok _ _) ok_dash, asB, truth_ok]
  unfold bodyOf
  cases (cutS t none (some 1) == ("-" : Str)) with
  | false => rfl
  | true =>
    simp only [if_pos, evE_op, evEs_cons, evE_v, getV, List.getElem?_cons_zero, R.bind_ok, evEs_nil, evE_c, or2, op, a2, dSlL, slD_cut tx, toSV_ok]
theorem tx_body {t : Str} (tx : Tx t) : Tx (bodyOf t) := by
  unfold bodyOf
  split
  · exact tx.cut _ _
  · exact tx
abbrev c_num : E := .or (.not (.chain .le .le (.c (.int 1)) (.op .len [(.v 1)]) (.c c_MOST_FIGURES))) (.not (.op .all [(.lc (.nm 2) [2] .seq [(.v 1)] (.c (.bl true)) (.op .isin [(.v 2), (.c c_FIGURES)]))]))
theorem ev_num {K : Nat → List SV → List SV → Hm → R SV} {d : D} {g : Str} {h : Hm} (tx : Tx g) : ∃ h', truth (evE K c_num [some (.d d), some (.d (.str g)), none] h) = .ok (!((decide (1 ≤ g.cps.size) && decide (g.cps.size ≤ 12)) && allFigs g)) h' ∧ Keep h h' := by
  obtain ⟨h1, q1, q2, q3⟩ := lc_signs "0123456789" g [some (.d d), some (.d (.str g)), none] 2 (by simp) tx.lt K h 1 rfl (by decide)
  have ch : truth (evE K (.chain .le .le (.c (.int 1)) (.op .len [(.v 1)]) (.c c_MOST_FIGURES)) [some (.d d), some (.d (.str g)), none] h) = .ok (decide (1 ≤ g.cps.size) && decide (g.cps.size ≤ 12)) h := by
    simp only [evE_chain, evE_c, R.bind_ok, evE_op, evEs_cons, evEs_nil, evE_v, getV, List.getElem?_cons_succ, List.getElem?_cons_zero, or1, op, a1, dLen_str tx, toSV_ok, chain1, a2, dCmp, truth_ok]
    have d1 : decide ((1 : Int) ≤ (g.cps.size : Nat)) = decide (1 ≤ g.cps.size) := by apply decide_eq_decide.mpr; omega
    have d2 : decide (((g.cps.size : Nat) : Int) ≤ 12) = decide (g.cps.size ≤ 12) := by apply decide_eq_decide.mpr; omega
    rw [d1, ← d2]
    cases decide (1 ≤ g.cps.size) <;> rfl
  rw [evE_or, evE_not, ch]
  simp only [R.bind_ok, okB_eq, truth_ok]
  cases (decide (1 ≤ g.cps.size) && decide (g.cps.size ≤ 12)) with
  | false => exact ⟨h, rfl, Keep.refl _⟩
  | true =>
    refine ⟨h1, ?_, q3⟩
    simp only [Bool.not_true, Bool.false_eq_true, if_false, evE_not, evE_op, evEs_cons, q1, R.bind_ok, evEs_nil, or1, op, a1, dBools, q2]
    rw [show (g.cps.toList.map fun c => D.bl (decide (c ∈ (("0123456789" : Str)).cps.toList))) = (g.cps.toList.map fun c => decide (c ∈ figs)).map D.bl by rw [List.map_map]; rfl, bools_map]
    simp only [okO, toSV_ok, truth_ok, R.bind_ok, okB_eq]
    simp [allFigs, List.all_map]
end K88
end AR
end
section
set_option Elab.async false
set_option linter.all false
set_option maxRecDepth 100000
set_option maxHeartbeats 4000000
namespace AR
namespace K88
open PySem L2 PySem.Spec PyProof.Rows
/-- a new list of few things, returned -/
theorem newL_ok (h : Hm) (xs : List D) (hl : xs.length < 1000000) : newL h xs = .ok (.ref h.length) (h ++ [HOb.lst xs]) := by
  have sb := sizeLine_big
  unfold newL
  rw [if_pos (by omega)]
  rfl
def IntOk (t : Str) : Prop := ∃ i, intText? t = some i ∧ i.natAbs.log2 < 1920 ∧ PyData.strOk (toString i : String) = true
abbrev e_last : E := .ite (.op .eq [(.op .str [(.op .int [(.v 0)])]), (.v 0)]) (.op .lst [(.op .int [(.v 0)])]) (.op .lst [])
theorem ev_last {K : Nat → List SV → List SV → Hm → R SV} {t : Str} {e1 e2 : Option SV} {h : Hm} (tx : Tx t) (hl : t.length ≤ 640) (hi : IntOk t) : ∃ xs, evE K e_last [some (.d (.str t)), e1, e2] h = .ok (.d (.ref h.length)) (h ++ [HOb.lst xs]) ∧ xs = (match intText? t with
    | some i => if ((toString i : Str) == t) = true then [.int i] else []
    | none => []) := by
  obtain ⟨i, e, l2, ok⟩ := hi
  have di : dInt h (.str t) = .ok (.int i) h := by
    show (if t.length ≤ 640 then okO h (intText? t) .int else .stuck) = _
    rw [if_pos hl, e]
    rfl
  have ds : dStr h (.int i) = .ok (.str (toString i)) h := by
    show (if i.natAbs.log2 < 1920 then R.ok (D.str (toString i)) h else .stuck) = _
    rw [if_pos l2]
  rw [e]
  refine ⟨_, ?_, rfl⟩
  rw [evE_ite, evE_op, evEs_cons, evE_op, evEs_cons, evE_op, evEs_cons, evE_v]
  simp only [getV, List.getElem?_cons_zero, R.bind_ok, evEs_cons, evEs_nil, evE_v, or1, or2, op, a1, a2, di, ds, toSV_ok, eqP_str h ok tx.ok, asB, truth_ok]
  cases ((toString i : Str) == t) with
  | false =>
    simp only [Bool.false_eq_true, if_false, evE_op, evEs_nil, R.bind_ok, or0, op, newL_ok h [] (by simp), toSV_ok]
  | true =>
    simp only [if_pos, evE_op, evEs_cons, evE_v, getV, List.getElem?_cons_zero, R.bind_ok, evEs_nil, or1, op, a1, di, toSV_ok, newL_ok h [D.int i] (by simp)]
theorem isWord_txt {t : Str} : (∀ s, D.str t = .str s → Tx s) ↔ Tx t := ⟨fun f => f t rfl, fun f s e => by cases e; exact f⟩
theorem run_plain {n : Nat} {t : Str} {h : Hm} (tx : Tx t) (hi : numOk t = true → t.length ≤ 640 ∧ IntOk t) : ∃ h' r, AR.run prog (n + 2) 5 [.d (.str t)] [] h = .ok (.d (.ref r)) h' ∧ h'[r]? = some (.lst (plainOf t)) ∧ Keep h h' ∧ h.length ≤ r := by
  rw [run_def (d := ⟨1, 0, 3, i_plain_of⟩) rfl rfl rfl]
  show ∃ h' r, finish (execs (AR.run prog (n + 1)) i_plain_of [some (.d (.str t)), none, none] h) = _ ∧ _
  unfold i_plain_of plainOf
  rw [execs_cons, exec_ifs, evE_op, evEs_cons, evE_v]
  simp only [getV, List.getElem?_cons_zero, R.bind_ok, evEs_cons, evEs_nil, evE_c, or2, op, a2, eqP_str h tx.ok ok_dash, asB, toSV_ok, truth_ok, R.st_ok]
  cases (t == ("-" : Str)) with
  | true =>
    refine ⟨h ++ [HOb.lst [.non]], h.length, ?_, at_new _ _, Keep.app _ _, Nat.le_refl _⟩
    simp only [if_pos, execs_cons, exec_ret, evE_op, evEs_cons, evEs_nil, evE_c, R.bind_ok, or1, op, newL_ok h [D.non] (by simp), toSV_ok, R.st_ok, seq_rt, fin_rt]
  | false =>
    obtain ⟨h1, w1, w2⟩ := run_word (n := n) (kn_str h t) (isWord_txt.mpr tx)
    simp only [Bool.false_eq_true, if_false, execs_nil, seq_nx]
    rw [execs_cons, exec_ifs, evE_call, evEs_cons, evE_v]
    simp only [getV, List.getElem?_cons_zero, R.bind_ok, evEs_nil, w1, truth_ok, R.st_ok]
    cases isWord (.str t) with
    | true =>
      refine ⟨h1 ++ [HOb.lst [.str t]], h1.length, ?_, at_new _ _, w2.trans (Keep.app _ _), w2.len⟩
      simp only [if_pos, execs_cons, exec_ret, evE_op, evEs_cons, evEs_nil, evE_v, getV, List.getElem?_cons_zero, R.bind_ok, or1, op, newL_ok h1 [D.str t] (by simp), toSV_ok, R.st_ok, seq_rt, fin_rt]
    | false =>
      simp only [Bool.false_eq_true, if_false, execs_nil, seq_nx]
      rw [execs_cons, exec_asg, ev_body tx, R.st_ok]
      have as : asgRun (.nm 1) [some (.d (.str t)), none, none] (.d (.str (bodyOf t))) h1 = .nx [some (.d (.str t)), some (.d (.str (bodyOf t))), none] h1 := rfl
      rw [as, seq_nx, execs_cons, exec_ifs]
      obtain ⟨h2, n1, n2⟩ := ev_num (K := AR.run prog (n + 1)) (d := .str t) (h := h1) (tx_body tx)
      rw [n1, R.st_ok]
      show ∃ h' r, finish (seqRun (if (!numOk t) = true then _ else _) _) = _ ∧ _
      cases en : numOk t with
      | false =>
        refine ⟨h2 ++ [HOb.lst []], h2.length, ?_, at_new _ _, (w2.trans n2).trans (Keep.app _ _), Nat.le_trans w2.len n2.len⟩
        simp only [Bool.not_false, if_pos, execs_cons, exec_ret, evE_op, evEs_nil, R.bind_ok, or0, op, newL_ok h2 [] (by simp), toSV_ok, R.st_ok, seq_rt, fin_rt]
      | true =>
        obtain ⟨l1, l2⟩ := hi en
        obtain ⟨xs, q1, q2⟩ := ev_last (K := AR.run prog (n + 1)) (e1 := some (.d (.str (bodyOf t)))) (e2 := none) (h := h2) tx l1 l2
        refine ⟨h2 ++ [HOb.lst xs], h2.length, ?_, ?_, (w2.trans n2).trans (Keep.app _ _), Nat.le_trans w2.len n2.len⟩
        · simp only [Bool.not_true, Bool.false_eq_true, if_false, execs_nil, seq_nx]
          rw [execs_cons, exec_ret, q1]
          rfl
        · rw [at_new, q2]
          rfl
end K88
end AR
end
section
set_option Elab.async false
set_option linter.all false
set_option maxRecDepth 100000
set_option maxHeartbeats 4000000
namespace AR
namespace K88
open PySem L2 PySem.Spec PyProof.Rows
/-! ## value_of: the plain form -/
/-- the open lists, the innermost first, and what is whole -/
structure Vs where
  op : List (List D)
  wh : List D
/-- a found value is put where it belongs; none: no value -/
def putV (s : Vs) (found : List D) : Option Vs := match found with
  | [] => none
  | x :: _ => match s.op with
    | [] => if s.wh.isEmpty then some ⟨[], found⟩ else none
    | o :: r => some ⟨(o ++ [x]) :: r, s.wh⟩
def stepV (s : Vs) (t : Str) : Option Vs :=
  if (t == ("(" : Str)) = true then some ⟨[] :: s.op, s.wh⟩
  else if (t == (" " : Str)) = true then some s
  else if (t == (")" : Str)) = true then (match s.op with
    | [] => none
    | o :: r => putV ⟨r, s.wh⟩ [.tup o])
  else putV s (plainOf t)
def goV : Vs → List Str → Option Vs
  | s, [] => some s
  | s, t :: ts => (stepV s t).bind fun s => goV s ts
def valueOf (ts : List Str) : List D := match goV ⟨[], []⟩ ts with
  | none => []
  | some s => if s.op.isEmpty then s.wh else []
theorem goV_app : ∀ (s : Vs) (a b : List Str), goV s (a ++ b) = (goV s a).bind fun s => goV s b
  | s, [], b => rfl
  | s, t :: a, b => by
    show (stepV s t).bind _ = ((stepV s t).bind _).bind _
    cases stepV s t with
    | none => rfl
    | some s' => exact goV_app s' a b
/-- an atom whose text reads back -/
def Back (x : D) : Prop := ∃ t, outD x = [t] ∧ (t == ("(" : Str)) = false ∧ (t == (" " : Str)) = false ∧ (t == (")" : Str)) = false ∧ plainOf t = [x]
/-- a value all of whose atoms read back -/
inductive BackD : D → Prop
  | atom {x : D} (h : Back x) : BackD x
  | tup {xs : List D} (h : ∀ x ∈ xs, BackD x) : BackD (.tup xs)
theorem stepV_open (s : Vs) : stepV s "(" = some ⟨[] :: s.op, s.wh⟩ := by
  unfold stepV
  rw [if_pos (by decide +kernel)]
theorem stepV_gap (s : Vs) : stepV s " " = some s := by
  unfold stepV
  rw [if_neg (by decide +kernel), if_pos (by decide +kernel)]
theorem stepV_shut (o : List D) (r : List (List D)) (w : List D) : stepV ⟨o :: r, w⟩ ")" = putV ⟨r, w⟩ [.tup o] := by
  unfold stepV
  rw [if_neg (by decide +kernel), if_neg (by decide +kernel), if_pos (by decide +kernel)]
theorem stepV_atom {x : D} {t : Str} (s : Vs) (a : (t == ("(" : Str)) = false) (b : (t == (" " : Str)) = false) (c : (t == (")" : Str)) = false) (e : plainOf t = [x]) : stepV s t = putV s [x] := by
  unfold stepV
  rw [a, b, c, e]
  rfl
mutual
theorem goV_out : ∀ (x : D) (s : Vs), BackD x → goV s (outD x) = putV s [x]
  | .tup [], s, _ => by
    simp only [outD, goV, stepV_open, Option.bind_some, stepV_shut]
    cases h : putV s [.tup []] <;> rfl
  | .tup (x :: xs), s, h => by
    have hb : ∀ y ∈ x :: xs, BackD y := by
      cases h with
      | atom h => obtain ⟨t, e, _⟩ := h; simp [outD] at e
      | tup h => exact h
    simp only [outD, goV, stepV_open, Option.bind_some]
    rw [goV_app, goV_out x _ (hb x (List.mem_cons_self ..))]
    simp only [putV, List.nil_append, Option.bind_some]
    rw [goV_app, goV_outs xs [x] s.op s.wh (fun y hy => hb y (List.mem_cons_of_mem _ hy))]
    simp only [Option.bind_some, goV, stepV_shut, List.singleton_append]
    show (putV s [.tup (x :: xs)]).bind some = putV s [.tup (x :: xs)]
    cases putV s [.tup (x :: xs)] <;> rfl
  | .non, s, h => by
    cases h with | atom h => obtain ⟨t, e, a, b, c, f⟩ := h; rw [e]; simp only [goV, stepV_atom s a b c f]; cases putV s [.non] <;> rfl
  | .str z, s, h => by
    cases h with | atom h => obtain ⟨t, e, a, b, c, f⟩ := h; rw [e]; simp only [goV, stepV_atom s a b c f]; cases putV s [.str z] <;> rfl
  | .int i, s, h => by
    cases h with | atom h => obtain ⟨t, e, a, b, c, f⟩ := h; rw [e]; simp only [goV, stepV_atom s a b c f]; cases putV s [.int i] <;> rfl
  | .bl k, s, h => by
    cases h with | atom h => obtain ⟨t, e, a, b, c, f⟩ := h; simp [outD] at e
  | .ref m, s, h => by
    cases h with | atom h => obtain ⟨t, e, a, b, c, f⟩ := h; simp [outD] at e
theorem goV_outs : ∀ (xs : List D) (o : List D) (r : List (List D)) (w : List D), (∀ y ∈ xs, BackD y) → goV ⟨o :: r, w⟩ (outT xs) = some ⟨(o ++ xs) :: r, w⟩
  | [], o, r, w, _ => by simp [outT, goV]
  | x :: xs, o, r, w, h => by
    simp only [outT, goV, stepV_gap, Option.bind_some]
    rw [goV_app, goV_out x _ (h x (List.mem_cons_self ..))]
    simp only [putV, Option.bind_some]
    rw [goV_outs xs (o ++ [x]) r w (fun y hy => h y (List.mem_cons_of_mem _ hy)), List.append_assoc]
    rfl
end
/-- the parser undoes the writer, piece by piece -/
theorem valueOf_out {x : D} (h : BackD x) : valueOf (outD x) = [x] := by
  unfold valueOf
  rw [goV_out x _ h]
  rfl
end K88
end AR
end
section
set_option Elab.async false
set_option linter.all false
set_option maxRecDepth 100000
set_option maxHeartbeats 4000000
namespace AR
namespace K88
open PySem L2 PySem.Spec PyProof.Rows
/-! ## value_of: the heap's side -/
/-- frames lie at fs, the innermost first -/
def Fr (h : Hm) : List Nat → List (List D) → Prop
  | [], [] => True
  | f :: fs, x :: xs => h[f]? = some (.lst x) ∧ Fr h fs xs
  | _, _ => False
theorem Fr.len {h : Hm} : ∀ {fs : List Nat} {xs : List (List D)}, Fr h fs xs → fs.length = xs.length
  | [], [], _ => rfl
  | f :: fs, x :: xs, ⟨_, b⟩ => by simp [b.len]
theorem Fr.mono {h h' : Hm} : ∀ {fs : List Nat} {xs : List (List D)}, Fr h fs xs → (∀ f ∈ fs, ∀ o, h[f]? = some o → h'[f]? = some o) → Fr h' fs xs
  | [], [], _, _ => trivial
  | f :: fs, x :: xs, ⟨a, b⟩, k => ⟨k f (List.mem_cons_self ..) _ a, b.mono fun g hg => k g (List.mem_cons_of_mem _ hg)⟩
/-- where things lie while value_of runs; h0 is the heap that it was called with -/
structure VI (h0 : Hm) (o w : Nat) (fs : List Nat) (s : Vs) (h : Hm) : Prop where
  keep : Keep h0 h
  op : h[o]? = some (.lst (fs.reverse.map D.ref))
  wh : h[w]? = some (.lst s.wh)
  fr : Fr h fs s.op
  nd : fs.Nodup
  no : o ∉ fs
  nw : w ∉ fs
  ow : o ≠ w
  og : h0.length ≤ o
  wg : h0.length ≤ w
  fg : ∀ f ∈ fs, h0.length ≤ f
theorem VI.grow {h0 : Hm} {o w : Nat} {fs : List Nat} {s : Vs} {h h' : Hm} (v : VI h0 o w fs s h) (k : Keep h h') : VI h0 o w fs s h' :=
  ⟨v.keep.trans k, k _ _ v.op, k _ _ v.wh, v.fr.mono fun f _ u e => k _ _ e, v.nd, v.no, v.nw, v.ow, v.og, v.wg, v.fg⟩
theorem ne_of_mem {a b : Nat} {l : List Nat} (x : a ∉ l) (y : b ∈ l) : a ≠ b := fun e => x (e ▸ y)
theorem keep_set {h0 h : Hm} {n : Nat} {u : HOb} (k : Keep h0 h) (g : h0.length ≤ n) : Keep h0 (h.set n u) := fun i x e => by
  have lt := (List.getElem?_eq_some_iff.mp e).1
  rw [List.getElem?_set_ne (by omega)]
  exact k _ _ e
theorem Fr.lt {h : Hm} : ∀ {fs : List Nat} {xs : List (List D)}, Fr h fs xs → ∀ f ∈ fs, f < h.length
  | f :: fs, x :: xs, ⟨a, b⟩, g, m => by
    cases m with
    | head => exact (List.getElem?_eq_some_iff.mp a).1
    | tail _ m => exact b.lt g m
theorem VI.push {h0 : Hm} {o w : Nat} {fs : List Nat} {s : Vs} {h : Hm} (v : VI h0 o w fs s h) : VI h0 o w (h.length :: fs) ⟨[] :: s.op, s.wh⟩ ((h ++ [HOb.lst []]).set o (HOb.lst (fs.reverse.map D.ref ++ [.ref h.length]))) := by
  have k := Keep.app h [HOb.lst []]
  have ol := (List.getElem?_eq_some_iff.mp v.op).1
  have wl := (List.getElem?_eq_some_iff.mp v.wh).1
  refine ⟨keep_set (v.keep.trans k) v.og, ?_, ?_, ⟨?_, v.fr.mono fun f hf u e => ?_⟩, ?_, ?_, ?_, v.ow, v.og, v.wg, ?_⟩
  · rw [at_set (k _ _ v.op)]; simp
  · rw [List.getElem?_set_ne v.ow]; exact k _ _ v.wh
  · rw [List.getElem?_set_ne (by omega)]; exact at_new _ _
  · rw [List.getElem?_set_ne (ne_of_mem v.no hf)]; exact k _ _ e
  · exact List.nodup_cons.mpr ⟨fun m => Nat.lt_irrefl _ (v.fr.lt _ m), v.nd⟩
  · intro m; cases m with
    | head => omega
    | tail _ m => exact v.no m
  · intro m; cases m with
    | head => omega
    | tail _ m => exact v.nw m
  · intro f m; cases m with
    | head => exact v.keep.len
    | tail _ m => exact v.fg f m
theorem VI.pop {h0 : Hm} {o w f : Nat} {fs : List Nat} {x : List D} {r : List (List D)} {wh : List D} {h : Hm} (v : VI h0 o w (f :: fs) ⟨x :: r, wh⟩ h) : VI h0 o w fs ⟨r, wh⟩ (h.set o (HOb.lst (fs.reverse.map D.ref))) :=
  ⟨keep_set v.keep v.og, at_set v.op, by rw [List.getElem?_set_ne v.ow]; exact v.wh, v.fr.2.mono fun g hg u e => by rw [List.getElem?_set_ne (ne_of_mem v.no (List.mem_cons_of_mem _ hg))]; exact e, (List.nodup_cons.mp v.nd).2, fun m => v.no (List.mem_cons_of_mem _ m), fun m => v.nw (List.mem_cons_of_mem _ m), v.ow, v.og, v.wg, fun g m => v.fg g (List.mem_cons_of_mem _ m)⟩
theorem VI.put {h0 : Hm} {o w f : Nat} {fs : List Nat} {a : List D} {y : D} {r : List (List D)} {wh : List D} {h : Hm} (v : VI h0 o w (f :: fs) ⟨a :: r, wh⟩ h) : VI h0 o w (f :: fs) ⟨(a ++ [y]) :: r, wh⟩ (h.set f (HOb.lst (a ++ [y]))) :=
  ⟨keep_set v.keep (v.fg f (List.mem_cons_self ..)), by rw [List.getElem?_set_ne (Ne.symm (ne_of_mem v.no (List.mem_cons_self ..)))]; exact v.op, by rw [List.getElem?_set_ne (Ne.symm (ne_of_mem v.nw (List.mem_cons_self ..)))]; exact v.wh, ⟨at_set v.fr.1, v.fr.2.mono fun g hg u e => by rw [List.getElem?_set_ne (ne_of_mem (List.nodup_cons.mp v.nd).1 hg)]; exact e⟩, v.nd, v.no, v.nw, v.ow, v.og, v.wg, v.fg⟩
theorem VI.whole {h0 : Hm} {o w n : Nat} {s : Vs} {found : List D} {h : Hm} (v : VI h0 o w [] s h) (e : h[n]? = some (.lst found)) (g : h0.length ≤ n) (ne : o ≠ n) : VI h0 o n [] ⟨[], found⟩ h :=
  ⟨v.keep, v.op, e, trivial, List.nodup_nil, by simp, by simp, ne, v.og, g, by simp⟩
end K88
end AR
end
section
set_option Elab.async false
set_option linter.all false
set_option maxRecDepth 100000
set_option maxHeartbeats 4000000
namespace AR
namespace K88
open PySem L2 PySem.Spec PyProof.Rows
abbrev s_place : List S := [(.ifs (.or (.op .eqNil [(.v 4)]) (.and (.op .eqNil [(.v 1)]) (.op .neNil [(.v 2)]))) [(.ret (.op .lst []))] []), (.ifs (.op .eqNil [(.v 1)]) [(.asg (.nm 2) (.v 4))] [(.expr (.meth .list .append (.op .ix [(.v 1), (.op .neg [(.c (.int 1))])]) [(.op .ix [(.v 4), (.c (.int 0))])]))])]
theorem Fr.nil {h : Hm} {xs : List (List D)} (f : Fr h [] xs) : xs = [] := by
  cases xs with
  | nil => rfl
  | cons => exact f.elim
theorem isEmpty_map_rev {fs : List Nat} : (fs.reverse.map D.ref).isEmpty = fs.isEmpty := by cases fs <;> simp
theorem atI_last {fs : List Nat} {f : Nat} : atI ((f :: fs).reverse.map D.ref) (-1) = some (.ref f) := by
  have e : ixN ((f :: fs).reverse.map D.ref).length (-1) = some fs.length := by
    unfold ixN
    simp only [List.length_map, List.length_reverse, List.length_cons]
    rw [if_neg (by omega), if_pos (by omega)]
    congr 1
    omega
  unfold atI
  rw [e]
  simp
theorem do_place {K : Nat → List SV → List SV → Hm → R SV} {h0 : Hm} {o w r : Nat} {fs : List Nat} {s : Vs} {h : Hm} {p t : D} {found : List D} (v : VI h0 o w fs s h) (e : h[r]? = some (.lst found)) (g : h0.length ≤ r) (ne : o ≠ r) (hb : ∀ x ∈ s.op, x.length < 1000000) :
    (putV s found = none → ∃ h' q, execs K s_place [some (.d p), some (.d (.ref o)), some (.d (.ref w)), some (.d t), some (.d (.ref r))] h = .rt (.d (.ref q)) h' ∧ h'[q]? = some (.lst []) ∧ Keep h0 h' ∧ h0.length ≤ q) ∧
    (∀ s', putV s found = some s' → ∃ h' w', execs K s_place [some (.d p), some (.d (.ref o)), some (.d (.ref w)), some (.d t), some (.d (.ref r))] h = .nx [some (.d p), some (.d (.ref o)), some (.d (.ref w')), some (.d t), some (.d (.ref r))] h' ∧ VI h0 o w' fs s' h') := by
  have sb := sizeLine_big
  have cond : truth (evE K (.or (.op .eqNil [(.v 4)]) (.and (.op .eqNil [(.v 1)]) (.op .neNil [(.v 2)]))) [some (.d p), some (.d (.ref o)), some (.d (.ref w)), some (.d t), some (.d (.ref r))] h) = .ok (found.isEmpty || (fs.isEmpty && !s.wh.isEmpty)) h := by
    simp only [evE_or, evE_and, evE_op, evEs_cons, evEs_nil, evE_v, getV, List.getElem?_cons_succ, List.getElem?_cons_zero, R.bind_ok, or1, op, a1, nilD, e, v.op, v.wh, isEmpty_map_rev, Option.map_some, asB, toSV_ok, truth_ok]
    cases found.isEmpty <;> cases fs.isEmpty <;> cases s.wh.isEmpty <;> rfl
  have fail : (found.isEmpty || (fs.isEmpty && !s.wh.isEmpty)) = true → execs K s_place [some (.d p), some (.d (.ref o)), some (.d (.ref w)), some (.d t), some (.d (.ref r))] h = .rt (.d (.ref h.length)) (h ++ [HOb.lst []]) := by
    intro c
    rw [c] at cond
    rw [execs_cons, exec_ifs, cond, R.st_ok, if_pos rfl]
    simp only [execs_cons, exec_ret, evE_op, evEs_nil, R.bind_ok, or0, op, newL_ok h [] (by simp), toSV_ok, R.st_ok, seq_rt]
  have pass : (found.isEmpty || (fs.isEmpty && !s.wh.isEmpty)) = false → execs K s_place [some (.d p), some (.d (.ref o)), some (.d (.ref w)), some (.d t), some (.d (.ref r))] h = execs K [(.ifs (.op .eqNil [(.v 1)]) [(.asg (.nm 2) (.v 4))] [(.expr (.meth .list .append (.op .ix [(.v 1), (.op .neg [(.c (.int 1))])]) [(.op .ix [(.v 4), (.c (.int 0))])]))])] [some (.d p), some (.d (.ref o)), some (.d (.ref w)), some (.d t), some (.d (.ref r))] h := by
    intro c
    rw [c] at cond
    rw [execs_cons, exec_ifs, cond, R.st_ok, if_neg (by decide), execs_nil, seq_nx]
  obtain ⟨sop, swh⟩ := s
  cases found with
  | nil => exact ⟨fun _ => ⟨_, h.length, fail rfl, at_new _ _, v.keep.trans (Keep.app _ _), v.keep.len⟩, fun s' q => by cases q⟩
  | cons x xs =>
    cases fs with
    | nil =>
      have es := v.fr.nil
      simp only at es
      subst es
      cases hw : swh.isEmpty with
      | false =>
        refine ⟨fun _ => ⟨_, h.length, fail (by simp [hw]), at_new _ _, v.keep.trans (Keep.app _ _), v.keep.len⟩, fun s' q => ?_⟩
        simp [putV, hw] at q
      | true =>
        refine ⟨fun q => by simp [putV, hw] at q, fun s' q => ?_⟩
        simp [putV, hw] at q
        subst q
        refine ⟨h, r, ?_, v.whole e g ne⟩
        rw [pass (by simp [hw]), execs_cons, exec_ifs, evE_op, evEs_cons, evE_v]
        simp only [getV, List.getElem?_cons_succ, List.getElem?_cons_zero, R.bind_ok, evEs_nil, or1, op, a1, nilD, v.op, asB, toSV_ok, truth_ok, R.st_ok]
        rfl
    | cons f fs =>
      cases sop with
      | nil => exact v.fr.elim
      | cons a as =>
        refine ⟨fun q => by simp [putV] at q, fun s' q => ?_⟩
        simp [putV] at q
        subst q
        refine ⟨_, w, ?_, v.put⟩
        have hfa := v.fr.1
        have ba := hb a (List.mem_cons_self ..)
        have ia : atI (x :: xs) 0 = some x := atI_nat (x :: xs) 0 (by simp)
        rw [pass (by simp), execs_cons, exec_ifs, evE_op, evEs_cons, evE_v]
        simp only [getV, List.getElem?_cons_succ, List.getElem?_cons_zero, R.bind_ok, evEs_nil, or1, op, a1, nilD, v.op, isEmpty_map_rev, asB, toSV_ok, truth_ok, R.st_ok, List.isEmpty_cons, Bool.false_eq_true, if_false]
        rw [execs_cons, exec_expr, evE_meth, evE_op, evEs_cons, evE_v]
        simp only [getV, List.getElem?_cons_succ, List.getElem?_cons_zero, R.bind_ok, evEs_nil, evEs_cons, evE_op, evE_v, evE_c, or1, or2, op, a1, a2, dNeg, toSV_ok, dIx, dIxR, v.op, atI_last, okO, id, methRun, tyOf, hfa, if_pos, e, ia, opRun, allD, Option.map_some, dAppend]
        rw [if_pos (by omega)]
        rfl
end K88
end AR
end
section
set_option Elab.async false
set_option linter.all false
set_option maxRecDepth 100000
set_option maxHeartbeats 4000000
namespace AR
namespace K88
open PySem L2 PySem.Spec PyProof.Rows
/-! ## value_of: a step -/
abbrev s_shut : S := .ifs (.op .eq [(.v 3), (.c (.str ")"))]) [(.ifs (.op .eqNil [(.v 1)]) [(.ret (.op .lst []))] []), (.asg (.nm 4) (.op .lst [(.op .tupleOf [(.meth .list .pop (.v 1) [])])]))] [(.asg (.nm 4) (.call 5 [(.v 3)]))]
abbrev b_vstep : List S := (.ifs (.op .eq [(.v 3), (.c (.str "("))]) [(.expr (.meth .list .append (.v 1) [(.op .lst [])])), .cont] []) :: (.ifs (.op .eq [(.v 3), (.c (.str " "))]) [.cont] []) :: s_shut :: s_place
theorem ok_open : PyData.strOk ("(" : Str) = true := by decide +kernel
theorem ok_shut : PyData.strOk (")" : Str) = true := by decide +kernel
theorem ok_gap : PyData.strOk (" " : Str) = true := by decide +kernel
def Sz (s : Vs) : Nat := (s.op.map (·.length)).sum + s.op.length
theorem sum_at : ∀ (l : List (List D)), ∀ x ∈ l, x.length ≤ (l.map (·.length)).sum
  | y :: l, x, m => by
    simp only [List.map_cons, List.sum_cons]
    cases m with
    | head => omega
    | tail _ m => have := sum_at l x m; omega
theorem Sz.at {s : Vs} : ∀ x ∈ s.op, x.length ≤ Sz s := by
  intro x hx
  have := sum_at s.op x hx
  unfold Sz
  omega
theorem putV_sz {s s' : Vs} {found : List D} (e : putV s found = some s') : Sz s' ≤ Sz s + 1 := by
  unfold putV at e
  split at e
  · cases e
  · split at e
    · split at e
      · cases e; simp [Sz]
      · cases e
    · rename_i h
      cases e
      simp [Sz, h]
      omega
theorem stepV_sz {s s' : Vs} {t : Str} (e : stepV s t = some s') : Sz s' ≤ Sz s + 1 := by
  unfold stepV at e
  split at e
  · cases e; simp [Sz]; omega
  · split at e
    · cases e; omega
    · split at e
      · split at e
        · cases e
        · rename_i h
          have := putV_sz e
          simp [Sz, h] at this ⊢
          omega
      · exact putV_sz e
theorem truth_eq {K : Nat → List SV → List SV → Hm → R SV} {t z : Str} {p o w e4 : Option SV} {h : Hm} (tx : Tx t) (oz : PyData.strOk z = true) : truth (evE K (.op .eq [(.v 3), (.c (.str z))]) [p, o, w, some (.d (.str t)), e4] h) = .ok (t == z) h := by
  rw [evE_op, evEs_cons, evE_v]
  simp only [getV, List.getElem?_cons_succ, List.getElem?_cons_zero, R.bind_ok, evEs_cons, evEs_nil, evE_c, or2, op, a2, eqP_str h tx.ok oz, asB, toSV_ok, truth_ok]
theorem pop_last {fs : List Nat} {f : Nat} : ((f :: fs).reverse.map D.ref)[((f :: fs).reverse.map D.ref).length - 1]? = some (.ref f) ∧ ((f :: fs).reverse.map D.ref).dropLast = fs.reverse.map D.ref := by
  constructor
  · simp
  · simp
theorem do_vstep {n : Nat} {h0 : Hm} {o w : Nat} {fs : List Nat} {s : Vs} {h : Hm} {p : D} {t : Str} {e4 : Option SV} (v : VI h0 o w fs s h) (tx : Tx t) (hi : numOk t = true → t.length ≤ 640 ∧ IntOk t) (sz : Sz s < 1000000) :
    (stepV s t = none → ∃ h' q, execs (AR.run prog (n + 2)) b_vstep [some (.d p), some (.d (.ref o)), some (.d (.ref w)), some (.d (.str t)), e4] h = .rt (.d (.ref q)) h' ∧ h'[q]? = some (.lst []) ∧ Keep h0 h') ∧
    (∀ s', stepV s t = some s' → ∃ h' w' fs' e4', (execs (AR.run prog (n + 2)) b_vstep [some (.d p), some (.d (.ref o)), some (.d (.ref w)), some (.d (.str t)), e4] h = .nx [some (.d p), some (.d (.ref o)), some (.d (.ref w')), some (.d (.str t)), e4'] h' ∨ execs (AR.run prog (n + 2)) b_vstep [some (.d p), some (.d (.ref o)), some (.d (.ref w)), some (.d (.str t)), e4] h = .ct [some (.d p), some (.d (.ref o)), some (.d (.ref w')), some (.d (.str t)), e4'] h') ∧ VI h0 o w' fs' s' h') := by
  have sb := sizeLine_big
  have fl := v.fr.len
  have fb : fs.length < 1000000 := by unfold Sz at sz; omega
  have ol := (List.getElem?_eq_some_iff.mp v.op).1
  rw [execs_cons, exec_ifs, truth_eq tx ok_open, R.st_ok]
  unfold stepV
  cases c1 : (t == ("(" : Str)) with
  | true =>
    rw [if_pos rfl, if_pos rfl]
    refine ⟨fun q => by (cases q), fun s' q => ?_⟩
    cases q
    refine ⟨_, w, h.length :: fs, e4, Or.inr ?_, v.push⟩
    rw [execs_cons, exec_expr, evE_meth, evE_v]
    simp only [getV, List.getElem?_cons_succ, List.getElem?_cons_zero, R.bind_ok, methRun, tyOf, v.op, if_pos, evEs_cons, evEs_nil, evE_op, or0, op, newL_ok h [] (by simp), toSV_ok, opRun, allD, Option.map_some, a2, dAppend, Keep.app h [HOb.lst []] _ _ v.op, List.length_map, List.length_reverse]
    rw [if_pos (by omega)]
    rfl
  | false =>
    simp only [Bool.false_eq_true, if_false, execs_nil, seq_nx]
    rw [execs_cons, exec_ifs, truth_eq tx ok_gap, R.st_ok]
    cases c2 : (t == (" " : Str)) with
    | true =>
      rw [if_pos rfl, if_pos rfl]
      refine ⟨fun q => by (cases q), fun s' q => ?_⟩
      cases q
      exact ⟨h, w, fs, e4, Or.inr rfl, v⟩
    | false =>
      simp only [Bool.false_eq_true, if_false, execs_nil, seq_nx]
      rw [execs_cons, exec_ifs, truth_eq tx ok_shut, R.st_ok]
      cases c3 : (t == (")" : Str)) with
      | true =>
        rw [if_pos rfl, if_pos rfl, execs_cons, exec_ifs, evE_op, evEs_cons, evE_v]
        simp only [getV, List.getElem?_cons_succ, List.getElem?_cons_zero, R.bind_ok, evEs_nil, or1, op, a1, nilD, v.op, isEmpty_map_rev, asB, toSV_ok, truth_ok, R.st_ok]
        obtain ⟨sop, swh⟩ := s
        cases fs with
        | nil =>
          have es := v.fr.nil
          simp only at es
          subst es
          refine ⟨fun _ => ⟨h ++ [HOb.lst []], h.length, ?_, at_new _ _, v.keep.trans (Keep.app _ _)⟩, fun s' q => by (cases q)⟩
          simp only [List.isEmpty_nil, if_pos, execs_cons, exec_ret, evE_op, evEs_nil, R.bind_ok, or0, op, newL_ok h [] (by simp), toSV_ok, R.st_ok, seq_rt]
        | cons f fs =>
          cases sop with
          | nil => exact v.fr.elim
          | cons a r =>
            have vp := v.pop
            have hlen : (h.set o (HOb.lst (fs.reverse.map D.ref))).length = h.length := List.length_set
            have kp := Keep.app (h.set o (HOb.lst (fs.reverse.map D.ref))) [HOb.lst [.tup a]]
            have hfa : (h.set o (HOb.lst (fs.reverse.map D.ref)))[f]? = some (.lst a) := by
              rw [List.getElem?_set_ne (ne_of_mem v.no (List.mem_cons_self ..))]
              exact v.fr.1
            have step : seqRun (execs (AR.run prog (n + 2)) [(.asg (.nm 4) (.op .lst [(.op .tupleOf [(.meth .list .pop (.v 1) [])])]))] [some (.d p), some (.d (.ref o)), some (.d (.ref w)), some (.d (.str t)), e4] h) (fun env h => execs (AR.run prog (n + 2)) s_place env h) = execs (AR.run prog (n + 2)) s_place [some (.d p), some (.d (.ref o)), some (.d (.ref w)), some (.d (.str t)), some (.d (.ref (h.set o (HOb.lst (fs.reverse.map D.ref))).length))] (h.set o (HOb.lst (fs.reverse.map D.ref)) ++ [HOb.lst [.tup a]]) := by
              rw [execs_cons, exec_asg, evE_op, evEs_cons, evE_op, evEs_cons, evE_meth, evE_v]
              simp only [getV, List.getElem?_cons_succ, List.getElem?_cons_zero, R.bind_ok, methRun, tyOf, v.op, if_pos, evEs_nil, opRun, allD, Option.map_some, op, a1, dPop, pop_last.1, pop_last.2, toSV_ok, seqOf, hfa, okO, newL_ok _ [D.tup a] (by simp : [D.tup a].length < 1000000)]
              rfl
            have key := do_place (K := AR.run prog (n + 2)) (p := p) (t := .str t) (found := [.tup a]) (vp.grow kp) (at_new _ _) (by rw [hlen]; exact v.keep.len) (by rw [hlen]; omega) (fun x hx => by
              have := Sz.at (s := ⟨a :: r, swh⟩) x (List.mem_cons_of_mem _ hx)
              omega)
            rw [List.isEmpty_cons]
            simp only [Bool.false_eq_true, if_false, execs_nil, seq_nx]
            rw [step]
            refine ⟨fun q => ?_, fun s' q => ?_⟩
            · obtain ⟨h', q', e1, e2, e3, e4⟩ := key.1 q
              exact ⟨h', q', e1, e2, e3⟩
            · obtain ⟨h', w', e1, e2⟩ := key.2 s' q
              exact ⟨h', w', fs, _, Or.inl e1, e2⟩
      | false =>
        simp only [Bool.false_eq_true, if_false]
        obtain ⟨h1, r, w1, w2, w3, w4⟩ := run_plain (n := n) (h := h) tx hi
        have step : seqRun (execs (AR.run prog (n + 2)) [(.asg (.nm 4) (.call 5 [(.v 3)]))] [some (.d p), some (.d (.ref o)), some (.d (.ref w)), some (.d (.str t)), e4] h) (fun env h => execs (AR.run prog (n + 2)) s_place env h) = execs (AR.run prog (n + 2)) s_place [some (.d p), some (.d (.ref o)), some (.d (.ref w)), some (.d (.str t)), some (.d (.ref r))] h1 := by
          rw [execs_cons, exec_asg, evE_call, evEs_cons, evE_v]
          simp only [getV, List.getElem?_cons_succ, List.getElem?_cons_zero, R.bind_ok, evEs_nil, w1, R.st_ok]
          rfl
        rw [step]
        have key := do_place (K := AR.run prog (n + 2)) (p := p) (t := .str t) (found := plainOf t) (v.grow w3) w2 (Nat.le_trans v.keep.len w4) (by omega) (fun x hx => by
          have := Sz.at (s := s) x hx
          omega)
        refine ⟨fun q => ?_, fun s' q => ?_⟩
        · obtain ⟨h', q', e1, e2, e3, e4⟩ := key.1 q
          exact ⟨h', q', e1, e2, e3⟩
        · obtain ⟨h', w', e1, e2⟩ := key.2 s' q
          exact ⟨h', w', fs, _, Or.inl e1, e2⟩
end K88
end AR
end
section
set_option Elab.async false
set_option linter.all false
set_option maxRecDepth 100000
set_option maxHeartbeats 4000000
namespace AR
namespace K88
open PySem L2 PySem.Spec PyProof.Rows
/-! ## value_of: the walk -/
theorem do_vloop {n : Nat} {h0 : Hm} {p o : Nat} {ts : List Str} (hp : h0[p]? = some (.lst (ts.map D.str))) (hts : ∀ t ∈ ts, Tx t ∧ (numOk t = true → t.length ≤ 640 ∧ IntOk t)) : ∀ (m fuel i : Nat) (fs : List Nat) (s : Vs) (w : Nat) (e3 e4 : Option SV) (h : Hm), ts.length = i + m → m < fuel → VI h0 o w fs s h → Sz s + m < 1000000 →
    (goV s (ts.drop i) = none → ∃ h' q, forGo (fun h i => (AR.It.lst p).at h i) (.nm 3) (fun env h => execs (AR.run prog (n + 2)) b_vstep env h) fuel i [some (.d (.ref p)), some (.d (.ref o)), some (.d (.ref w)), e3, e4] h = .rt (.d (.ref q)) h' ∧ h'[q]? = some (.lst []) ∧ Keep h0 h') ∧
    (∀ s', goV s (ts.drop i) = some s' → ∃ h' w' fs' e3' e4', forGo (fun h i => (AR.It.lst p).at h i) (.nm 3) (fun env h => execs (AR.run prog (n + 2)) b_vstep env h) fuel i [some (.d (.ref p)), some (.d (.ref o)), some (.d (.ref w)), e3, e4] h = .nx [some (.d (.ref p)), some (.d (.ref o)), some (.d (.ref w')), e3', e4'] h' ∧ VI h0 o w' fs' s' h')
  | 0, fuel + 1, i, fs, s, w, e3, e4, h, hl, hf, v, sz => by
    have at0 : (AR.It.lst p).at h i = some none := by
      simp only [AR.It.at, lstAt, v.keep _ _ hp, Option.map_some]
      rw [List.getElem?_eq_none (by simp; omega)]
    rw [forGo_succ, at0, List.drop_eq_nil_of_le (by omega)]
    refine ⟨fun q => by (cases q), fun s' q => ?_⟩
    cases q
    exact ⟨h, w, fs, e3, e4, rfl, v⟩
  | m + 1, fuel + 1, i, fs, s, w, e3, e4, h, hl, hf, v, sz => by
    have lt : i < ts.length := by omega
    have at1 : (AR.It.lst p).at h i = some (some (.str ts[i])) := by
      simp only [AR.It.at, lstAt, v.keep _ _ hp, Option.map_some]
      rw [List.getElem?_map, List.getElem?_eq_getElem lt]
      rfl
    have st : setT (.nm 3) (.str ts[i]) [some (.d (.ref p)), some (.d (.ref o)), some (.d (.ref w)), e3, e4] = some [some (.d (.ref p)), some (.d (.ref o)), some (.d (.ref w)), some (.d (.str ts[i])), e4] := rfl
    obtain ⟨tx, hi⟩ := hts _ (List.getElem_mem lt)
    rw [forGo_succ, at1, List.drop_eq_getElem_cons lt]
    simp only [st]
    obtain ⟨k1, k2⟩ := do_vstep (n := n) (p := .ref p) (e4 := e4) v tx hi (by omega)
    cases es : stepV s ts[i] with
    | none =>
      obtain ⟨h', q, q1, q2, q3⟩ := k1 es
      rw [q1]
      simp only [goV, es, Option.bind_none]
      refine ⟨fun _ => ⟨h', q, rfl, q2, q3⟩, fun s' q => by (cases q)⟩
    | some s1 =>
      obtain ⟨h1, w1, fs1, e4', q1, q2⟩ := k2 s1 es
      have z1 := stepV_sz es
      have key := do_vloop (n := n) hp hts m fuel (i + 1) fs1 s1 w1 (some (.d (.str ts[i]))) e4' h1 (by omega) (by omega) q2 (by omega)
      simp only [goV, es, Option.bind_some]
      cases q1 with
      | inl q1 => rw [q1]; exact key
      | inr q1 => rw [q1]; exact key
theorem run_valueOf {n : Nat} {p : Nat} {ts : List Str} {h : Hm} (hp : h[p]? = some (.lst (ts.map D.str))) (hts : ∀ t ∈ ts, Tx t ∧ (numOk t = true → t.length ≤ 640 ∧ IntOk t)) (hl : ts.length < 999990) : ∃ h' q, AR.run prog (n + 3) 6 [.d (.ref p)] [] h = .ok (.d (.ref q)) h' ∧ h'[q]? = some (.lst (valueOf ts)) ∧ Keep h h' := by
  rw [run_def (d := ⟨1, 0, 5, i_value_of⟩) rfl rfl rfl]
  have k1 := Keep.app h [HOb.lst []]
  have k2 := Keep.app (h ++ [HOb.lst []]) [HOb.lst []]
  have l1 : (h ++ [HOb.lst []]).length = h.length + 1 := by simp
  have v : VI h h.length (h ++ [HOb.lst []]).length [] ⟨[], []⟩ (h ++ [HOb.lst []] ++ [HOb.lst []]) :=
    ⟨k1.trans k2, k2 _ _ (at_new _ _), at_new _ _, trivial, List.nodup_nil, by simp, by simp, by omega, by omega, by omega, by simp⟩
  have kp := v.keep _ _ hp
  have head : execs (AR.run prog (n + 2)) i_value_of [some (.d (.ref p)), none, none, none, none] h = seqRun (forGo (fun h i => (AR.It.lst p).at h i) (.nm 3) (fun env h => execs (AR.run prog (n + 2)) b_vstep env h) fuelW 0 [some (.d (.ref p)), some (.d (.ref h.length)), some (.d (.ref (h ++ [HOb.lst []]).length)), none, none] (h ++ [HOb.lst []] ++ [HOb.lst []])) fun env h => execs (AR.run prog (n + 2)) [(.ret (.ite (.op .eqNil [(.v 1)]) (.v 2) (.op .lst [])))] env h := by
    unfold i_value_of
    rw [execs_cons, exec_par]
    simp only [evE_op, evEs_nil, R.bind_ok, or0, op, newL_ok h [] (by simp), newL_ok (h ++ [HOb.lst []]) [] (by simp), toSV_ok, R.st_ok]
    have pr : parRun 1 2 [some (.d (.ref p)), none, none, none, none] (.d (.ref h.length)) (.d (.ref (h ++ [HOb.lst []]).length)) (h ++ [HOb.lst []] ++ [HOb.lst []]) = .nx [some (.d (.ref p)), some (.d (.ref h.length)), some (.d (.ref (h ++ [HOb.lst []]).length)), none, none] (h ++ [HOb.lst []] ++ [HOb.lst []]) := rfl
    rw [pr, seq_nx, execs_cons, exec_for]
    simp only [evEs_cons, evEs_nil, evE_v, getV, List.getElem?_cons_zero, R.bind_ok, R.st_ok, forRun, allD, Option.map_some, itOf, i1, itSeq, kp]
  obtain ⟨q1, q2⟩ := do_vloop (n := n) (o := h.length) hp hts ts.length fuelW 0 [] ⟨[], []⟩ _ none none _ (by omega) (by have := fuel_pos.2; omega) v (by simp [Sz]; omega)
  rw [List.drop_zero] at q1 q2
  show ∃ h' q, finish (execs (AR.run prog (n + 2)) i_value_of [some (.d (.ref p)), none, none, none, none] h) = _ ∧ _
  rw [head]
  unfold valueOf
  cases eg : goV ⟨[], []⟩ ts with
  | none =>
    obtain ⟨h', q, e1, e2, e3⟩ := q1 eg
    rw [e1]
    exact ⟨h', q, rfl, e2, e3⟩
  | some s' =>
    obtain ⟨h', w', fs', e3', e4', e1, v'⟩ := q2 s' eg
    rw [e1, seq_nx, execs_cons, exec_ret, evE_ite, evE_op, evEs_cons, evE_v]
    simp only [getV, List.getElem?_cons_succ, List.getElem?_cons_zero, R.bind_ok, evEs_nil, or1, op, a1, nilD, v'.op, isEmpty_map_rev, asB, toSV_ok, truth_ok]
    have fl := v'.fr.len
    have fe : fs'.isEmpty = s'.op.isEmpty := by
      cases hf : fs' with
      | nil => rw [hf] at fl; cases ho : s'.op with
        | nil => rfl
        | cons => rw [ho] at fl; simp at fl
      | cons => rw [hf] at fl; cases ho : s'.op with
        | nil => rw [ho] at fl; simp at fl
        | cons => rfl
    rw [fe]
    cases s'.op.isEmpty with
    | true =>
      refine ⟨h', w', ?_, v'.wh, v'.keep⟩
      simp only [if_pos, evE_v, getV, List.getElem?_cons_succ, List.getElem?_cons_zero, R.st_ok, seq_rt, fin_rt]
    | false =>
      refine ⟨h' ++ [HOb.lst []], h'.length, ?_, at_new _ _, v'.keep.trans (Keep.app _ _)⟩
      simp only [Bool.false_eq_true, if_false, evE_op, evEs_nil, R.bind_ok, or0, op, newL_ok h' [] (by simp), toSV_ok, R.st_ok, seq_rt, fin_rt]
end K88
end AR
end
section
set_option Elab.async false
set_option linter.all false
set_option maxRecDepth 100000
set_option maxHeartbeats 4000000
namespace AR
namespace K88
open PySem L2 PySem.Spec PyProof.Rows
/-! ## texts of figures are read as numbers -/
theorem figs_eq : figs = [48, 49, 50, 51, 52, 53, 54, 55, 56, 57] := by decide +kernel
theorem fig_digit {c : Nat} (h : c ∈ figs) : 48 ≤ c ∧ c ≤ 57 := by
  rw [figs_eq] at h
  simp at h
  omega
theorem digitsVal_lt : ∀ (cs : List Nat) (acc : Nat), NumText.AllDigits cs → cs.foldl (fun acc c => acc * 10 + (c - 48)) acc < (acc + 1) * 10 ^ cs.length
  | [], acc, _ => by simp
  | c :: cs, acc, h => by
    have hc := h.head
    have := digitsVal_lt cs (acc * 10 + (c - 48)) h.tail
    rw [List.foldl_cons, List.length_cons, Nat.pow_succ]
    refine Nat.lt_of_lt_of_le this ?_
    have h2 : acc * 10 + (c - 48) + 1 ≤ (acc + 1) * 10 := by omega
    calc (acc * 10 + (c - 48) + 1) * 10 ^ cs.length ≤ ((acc + 1) * 10) * 10 ^ cs.length := Nat.mul_le_mul_right _ h2
      _ = (acc + 1) * (10 ^ cs.length * 10) := by rw [Nat.mul_assoc, Nat.mul_comm 10]
theorem log2_small {n : Nat} (h : n < 10 ^ 12) : n.log2 < 1920 := by
  have : n < 2 ^ 40 := by omega
  by_cases z : n = 0
  · subst z; decide
  · have := (Nat.log2_lt z).mpr this
    omega
theorem strOk_ofString (s : String) : PyData.strOk (Str.ofString s) = true := by
  rw [strOk_list]
  intro c hc
  have e : (Str.ofString s).cps.toList = s.toList.map Char.toNat := TL.tl_ofString s
  rw [e] at hc
  obtain ⟨d, _, rfl⟩ := List.mem_map.mp hc
  have := d.valid
  show d.val.toNat < 0x110000
  simp only [UInt32.isValidChar, Nat.isValidChar] at this
  omega
theorem str_ext {a b : Str} (h : a.cps.toList = b.cps.toList) : a = b := by
  cases a; cases b; simp at h; rw [h]
theorem tl_cut (t : Str) (lo hi : Option Int) : (cutS t lo hi).cps.toList = (t.cps.toList.drop (HT.sIx t.length 0 lo)).take (HT.sIx t.length t.length hi - HT.sIx t.length 0 lo) := by
  unfold cutS
  simp
theorem str_eq {a b : Str} : (a == b) = true ↔ a = b := beq_iff_eq
theorem tl_len (t : Str) : t.cps.toList.length = t.length := Array.length_toList
theorem tl_cut_hi (t : Str) (k : Nat) : (cutS t none (some (k : Int))).cps.toList = t.cps.toList.take k := by
  have := tl_len t
  rw [tl_cut, HT.sIx_none, HT.sIx_nat, List.drop_zero, Nat.sub_zero]
  by_cases h : k ≤ t.length
  · rw [Nat.min_eq_left h]
  · rw [Nat.min_eq_right (by omega), List.take_of_length_le (by omega), List.take_of_length_le (by omega)]
theorem tl_cut_lo (t : Str) (k : Nat) : (cutS t (some (k : Int)) none).cps.toList = t.cps.toList.drop k := by
  have := tl_len t
  rw [tl_cut, HT.sIx_none, HT.sIx_nat]
  by_cases h : k ≤ t.length
  · rw [Nat.min_eq_left h, List.take_of_length_le (by rw [List.length_drop]; omega)]
  · rw [Nat.min_eq_right (by omega), List.drop_eq_nil_of_le (by omega), List.drop_eq_nil_of_le (by omega), List.take_nil]
theorem intOk_of {t : Str} (ok : numOk t = true) : t.length ≤ 640 ∧ IntOk t := by
  simp only [numOk, Bool.and_eq_true, decide_eq_true_eq, allFigs, List.all_eq_true] at ok
  obtain ⟨⟨l1, l2⟩, l3⟩ := ok
  have ad : NumText.AllDigits (bodyOf t).cps.toList := fun c hc => fig_digit (l3 c hc)
  have ls := tl_len (bodyOf t)
  have ls' : (bodyOf t).length = (bodyOf t).cps.size := rfl
  have dv := digitsVal_lt (bodyOf t).cps.toList 0 ad
  have dv2 : NumText.digitsVal (bodyOf t).cps.toList < 10 ^ 12 := by
    refine Nat.lt_of_lt_of_le dv ?_
    rw [Nat.zero_add, Nat.one_mul]
    exact Nat.pow_le_pow_right (by decide) (by omega)
  have lg := log2_small dv2
  have ne : (bodyOf t).cps.toList ≠ [] := by
    intro e
    rw [e] at ls
    simp at ls
    omega
  unfold IntOk
  by_cases hd : (cutS t none (some 1) == ("-" : Str)) = true
  · have eb : bodyOf t = cutS t (some 1) none := by unfold bodyOf; rw [if_pos hd]
    have e1 := str_eq.mp hd
    have e2 : (cutS t none (some ((1 : Nat) : Int))).cps.toList = t.cps.toList.take 1 := tl_cut_hi t 1
    have e3 : (cutS t (some ((1 : Nat) : Int)) none).cps.toList = t.cps.toList.drop 1 := tl_cut_lo t 1
    have e4 : t.cps.toList.take 1 = [45] := by
      rw [← e2]
      show (cutS t none (some 1)).cps.toList = _
      rw [e1]
      decide +kernel
    have e5 : (bodyOf t).cps.toList = t.cps.toList.drop 1 := by rw [eb]; exact e3
    have e6 : t.cps.toList = 45 :: (bodyOf t).cps.toList := by
      rw [e5]
      conv => lhs; rw [← List.take_append_drop 1 t.cps.toList, e4]
      rfl
    have lt := tl_len t
    rw [e6, List.length_cons] at lt
    refine ⟨by omega, _, intText_neg e6 ad ne (by omega), ?_, strOk_ofString _⟩
    rw [Int.natAbs_neg, Int.natAbs_natCast]
    exact lg
  · have eb : bodyOf t = t := by unfold bodyOf; rw [if_neg hd]
    rw [eb] at ad ne ls ls' lg l2
    refine ⟨by omega, _, intText_digits ad ne (by omega), ?_, strOk_ofString _⟩
    rw [Int.natAbs_natCast]
    exact lg
end K88
end AR
end
section
set_option Elab.async false
set_option linter.all false
set_option maxRecDepth 100000
set_option maxHeartbeats 4000000
namespace AR
namespace K88
open PySem L2 PySem.Spec PyProof.Rows
/-! ## values that can be read and written, and their sizes -/
mutual
def rd : D → Bool
  | .non => true
  | .str s => PyData.strOk s
  | .int i => decide (i.natAbs.log2 < 1920)
  | .tup xs => rdS xs
  | _ => false
def rdS : List D → Bool
  | [] => true
  | x :: xs => rd x && rdS xs
end
mutual
/-- .. and such that can be looked at -/
def gd (h : Hm) : D → Prop
  | .str s => PyData.strOk s = true
  | .tup xs => gdS h xs
  | .non => True
  | .int _ => True
  | .bl _ => True
  | .ref n => Kn h (.ref n)
def gdS (h : Hm) : List D → Prop
  | [] => True
  | x :: xs => gd h x ∧ gdS h xs
end
mutual
def mu : D → Nat
  | .str s => 1 + s.length
  | .int i => 1 + (Str.ofString (toString i)).length
  | .tup xs => 5 + muT xs
  | _ => 2
def muT : List D → Nat
  | [] => 0
  | x :: xs => 2 + mu x + muT xs
end
theorem rdS_at : ∀ {xs : List D} {x : D}, rdS xs = true → x ∈ xs → rd x = true
  | y :: ys, x, h, m => by
    simp only [rdS, Bool.and_eq_true] at h
    cases m with
    | head => exact h.1
    | tail _ m => exact rdS_at h.2 m
theorem rdS_app : ∀ {xs ys : List D}, rdS xs = true → rdS ys = true → rdS (xs ++ ys) = true
  | [], ys, _, h => h
  | x :: xs, ys, a, b => by
    simp only [rdS, Bool.and_eq_true] at a
    simp only [List.cons_append, rdS, Bool.and_eq_true]
    exact ⟨a.1, rdS_app a.2 b⟩
theorem muT_app : ∀ (xs ys : List D), muT (xs ++ ys) = muT xs + muT ys
  | [], ys => by simp [muT]
  | x :: xs, ys => by simp only [List.cons_append, muT, muT_app xs ys]; omega
theorem muT_len : ∀ xs : List D, xs.length ≤ muT xs
  | [] => Nat.le_refl _
  | x :: xs => by have := muT_len xs; simp only [List.length_cons, muT]; omega
theorem mu_at : ∀ {xs : List D} {x : D}, x ∈ xs → mu x + 2 ≤ muT xs
  | y :: ys, x, m => by
    simp only [muT]
    cases m with
    | head => omega
    | tail _ m => have := mu_at m; omega
mutual
theorem gd_of_rd {h : Hm} : ∀ {x : D}, rd x = true → gd h x
  | .non, _ => by simp [gd]
  | .str s, e => by simpa [gd, rd] using e
  | .int i, _ => by simp [gd]
  | .tup xs, e => by
    simp only [rd] at e
    simp only [gd]
    exact gdS_of_rd e
  | .bl b, e => by simp [rd] at e
  | .ref n, e => by simp [rd] at e
theorem gdS_of_rd {h : Hm} : ∀ {xs : List D}, rdS xs = true → gdS h xs
  | [], _ => by simp [gdS]
  | x :: xs, e => by
    simp only [rdS, Bool.and_eq_true] at e
    simp only [gdS]
    exact ⟨gd_of_rd e.1, gdS_of_rd e.2⟩
end
theorem gdS_app {h : Hm} : ∀ {xs ys : List D}, gdS h xs → gdS h ys → gdS h (xs ++ ys)
  | [], ys, _, h => h
  | x :: xs, ys, a, b => by
    simp only [gdS] at a
    simp only [List.cons_append, gdS]
    exact ⟨a.1, gdS_app a.2 b⟩
theorem gdS_at {h : Hm} : ∀ {xs : List D} {x : D}, gdS h xs → x ∈ xs → gd h x
  | y :: ys, x, g, m => by
    simp only [gdS] at g
    cases m with
    | head => exact g.1
    | tail _ m => exact gdS_at g.2 m
theorem gd_kn {h : Hm} {x : D} (g : gd h x) : Kn h x := by
  cases x with
  | non => exact ⟨.non, rfl, fun c e => by cases e⟩
  | bl b => exact ⟨.bool, rfl, fun c e => by cases e⟩
  | int i => exact ⟨.int, rfl, fun c e => by cases e⟩
  | str s => exact kn_str h s
  | tup xs => exact ⟨.tuple, rfl, fun c e => by cases e⟩
  | ref n => simpa [gd] using g
theorem goIn_mu (lvl : Int) (x : D) : muT (goIn lvl x) ≤ mu x := by
  cases x with
  | tup ys =>
    simp only [goIn, mu]
    split
    · omega
    · simp [muT]
  | _ => simp [goIn, muT]
theorem goAll_mu (lvl : Int) : ∀ xs : List D, muT (goAll lvl xs) ≤ muT xs
  | [] => Nat.le_refl _
  | x :: xs => by
    have := goAll_mu lvl xs
    have := goIn_mu lvl x
    show muT (goIn lvl x ++ goAll lvl xs) ≤ _
    rw [muT_app]
    simp only [muT]
    omega
theorem goAll_gd {h : Hm} (lvl : Int) : ∀ {xs : List D}, gdS h xs → gdS h (goAll lvl xs)
  | [], _ => by simp [goAll, gdS]
  | x :: xs, g => by
    simp only [gdS] at g
    show gdS h (goIn lvl x ++ goAll lvl xs)
    refine gdS_app ?_ (goAll_gd lvl g.2)
    cases x with
    | tup ys =>
      simp only [goIn]
      split
      · have := g.1; simpa [gd] using this
      · simp [gdS]
    | _ => simp [goIn, gdS]
theorem fineL_of {h : Hm} : ∀ (m : Nat) (lvl : Int) (xs : List D), gdS h xs → muT xs < 1000000 → FineL h m lvl xs
  | 0, _, _, _, _ => trivial
  | m + 1, lvl, xs, g, hm => by
    have l1 := muT_len xs
    have l2 := goAll_mu lvl xs
    have l3 := muT_len (goAll lvl xs)
    refine ⟨fun x hx => ⟨gd_kn (gdS_at g hx), fun s e => ?_⟩, by omega, by omega, fineL_of m _ _ (goAll_gd lvl g) (by omega)⟩
    subst e
    have := gdS_at g hx
    have w := mu_at hx
    simp only [mu] at w
    refine ⟨by simpa [gd] using this, ?_⟩
    show s.length < _
    omega
theorem fine_of {h : Hm} {x : D} (g : gd h x) (hm : mu x < 900000) : Fine h x :=
  fineL_of 60 0 [x] (by simp [gdS, g]) (by simp [muT]; omega)
theorem fine_rd {h : Hm} {x : D} (g : rd x = true) (hm : mu x < 900000) : Fine h x := fine_of (gd_of_rd g) hm
mutual
theorem wD_mu : ∀ x : D, wD x ≤ mu x
  | .non => by simp [wD, mu]
  | .str s => by simp [wD, mu]
  | .int i => by simp [wD, mu]
  | .bl b => by simp [wD, mu]
  | .ref n => by simp [wD, mu]
  | .tup xs => by
    have := wT_mu xs
    simp only [wD, mu]
    omega
theorem wT_mu : ∀ xs : List D, wT xs ≤ muT xs
  | [] => Nat.le_refl _
  | x :: xs => by
    have := wD_mu x
    have := wT_mu xs
    simp only [wT, muT]
    omega
end
theorem len_open : ("(" : Str).length = 1 := by decide +kernel
theorem len_shut : (")" : Str).length = 1 := by decide +kernel
theorem len_gap : (" " : Str).length = 1 := by decide +kernel
theorem len_dash : ("-" : Str).length = 1 := by decide +kernel
mutual
theorem ln_mu : ∀ x : D, ((outD x).map (·.length)).sum ≤ mu x
  | .non => by simp [outD, mu, len_dash]
  | .str s => by simp [outD, mu]
  | .int i => by simp only [outD, mu, List.map_cons, List.map_nil, List.sum_cons, List.sum_nil]; show (Str.ofString (toString i)).length + 0 ≤ _; omega
  | .bl b => by simp [outD, mu]
  | .ref n => by simp [outD, mu]
  | .tup [] => by simp [outD, mu, len_open, len_shut, muT]
  | .tup (x :: xs) => by
    have := ln_mu x
    have := lnT_mu xs
    simp only [outD, mu, muT, List.map_cons, List.map_append, List.sum_cons, List.sum_append, List.map_nil, List.sum_nil, len_open, len_shut]
    omega
theorem lnT_mu : ∀ xs : List D, ((outT xs).map (·.length)).sum ≤ muT xs
  | [] => by simp [outT, muT]
  | x :: xs => by
    have := ln_mu x
    have := lnT_mu xs
    simp only [outT, muT, List.map_cons, List.map_append, List.sum_cons, List.sum_append, len_gap]
    omega
end
mutual
theorem pl_of : ∀ {x : D}, rd x = true → mu x < 1000000 → pl x = true
  | .non, _, _ => by simp [pl]
  | .str s, _, _ => by simp [pl]
  | .int i, e, _ => by simpa [pl, rd] using e
  | .tup xs, e, hm => by
    have := muT_len xs
    simp only [rd] at e
    simp only [mu] at hm
    simp only [pl, Bool.and_eq_true, decide_eq_true_eq]
    exact ⟨by omega, plS_of e (by omega)⟩
  | .bl b, e, _ => by simp [rd] at e
  | .ref n, e, _ => by simp [rd] at e
theorem plS_of : ∀ {xs : List D}, rdS xs = true → muT xs < 1000000 → plS xs = true
  | [], _, _ => by simp [plS]
  | x :: xs, e, hm => by
    simp only [rdS, Bool.and_eq_true] at e
    simp only [muT] at hm
    simp only [plS, Bool.and_eq_true]
    exact ⟨pl_of e.1 (by omega), plS_of e.2 (by omega)⟩
end
/-- value_text of a value that can be written -/
theorem run_text_rd {n : Nat} {d : D} {h : Hm} (r : rd d = true) (hm : mu d < 900000) (b : isVal d = true) : ∃ h', AR.run prog (n + 3) 3 [.d d] [] h = .ok (.d (.str (textOf d))) h' ∧ Keep h h' :=
  run_text (fine_rd r hm) b (pl_of r (by omega)) (by have := wD_mu d; omega) (by have := ln_mu d; omega)
end K88
end AR
end
section
set_option Elab.async false
set_option linter.all false
set_option maxRecDepth 100000
set_option maxHeartbeats 4000000
namespace AR
namespace K88
open PySem L2 PySem.Spec PyProof.Rows
/-! ## what value_of finds can be written -/
def Wv (s : Vs) : Nat := (s.op.map fun o => 5 + muT o).sum + muT s.wh
structure VOk (s : Vs) : Prop where
  op : ∀ o ∈ s.op, rdS o = true
  wh : rdS s.wh = true
  one : s.wh.length ≤ 1
theorem plainOf_rd {t : Str} (tx : Tx t) : plainOf t = [] ∨ ∃ x, plainOf t = [x] ∧ rd x = true ∧ mu x ≤ 2 + t.length := by
  unfold plainOf
  split
  · exact Or.inr ⟨_, rfl, by simp [rd], by simp [mu]⟩
  · split
    · exact Or.inr ⟨_, rfl, by simpa [rd] using tx.ok, by simp only [mu]; omega⟩
    · split
      · rename_i e
        obtain ⟨i, e1, e2, e3⟩ := (intOk_of e).2
        rw [e1]
        simp only
        split
        · rename_i eq
          have := str_eq.mp eq
          refine Or.inr ⟨_, rfl, by simpa [rd] using e2, ?_⟩
          simp only [mu]
          rw [show (Str.ofString (toString i)) = t from this]
          omega
        · exact Or.inl rfl
      · exact Or.inl rfl
theorem putV_ok {s s' : Vs} {x : D} (v : VOk s) (r : rd x = true) (e : putV s [x] = some s') : VOk s' ∧ Wv s' ≤ Wv s + 2 + mu x := by
  unfold putV at e
  simp only at e
  split at e
  · rename_i ho
    split at e
    · cases e
      refine ⟨⟨by simp, by simp [rdS, r], by simp⟩, ?_⟩
      simp [Wv, muT]
    · cases e
  · rename_i o r' ho
    cases e
    have v1 := v.op
    rw [ho] at v1
    refine ⟨⟨fun q hq => ?_, v.wh, v.one⟩, ?_⟩
    · cases hq with
      | head => exact rdS_app (v1 o (List.mem_cons_self ..)) (by simp [rdS, r])
      | tail _ hq => exact v1 q (List.mem_cons_of_mem _ hq)
    · simp only [Wv, ho, List.map_cons, List.sum_cons, muT_app, muT]
      omega
theorem stepV_ok {s s' : Vs} {t : Str} (v : VOk s) (tx : Tx t) (e : stepV s t = some s') : VOk s' ∧ Wv s' ≤ Wv s + 5 + t.length := by
  unfold stepV at e
  split at e
  · cases e
    refine ⟨⟨fun q hq => ?_, v.wh, v.one⟩, ?_⟩
    · cases hq with
      | head => simp [rdS]
      | tail _ hq => exact v.op q hq
    · simp [Wv, muT]
      omega
  · split at e
    · cases e
      exact ⟨v, by omega⟩
    · split at e
      · split at e
        · cases e
        · rename_i o r ho
          have v1 := v.op
          rw [ho] at v1
          obtain ⟨a, b⟩ := putV_ok (s := ⟨r, s.wh⟩) ⟨fun q hq => v1 q (List.mem_cons_of_mem _ hq), v.wh, v.one⟩ (by simpa [rd] using v1 o (List.mem_cons_self ..)) e
          refine ⟨a, ?_⟩
          simp only [Wv, mu] at b
          simp only [Wv, ho, List.map_cons, List.sum_cons]
          omega
      · rcases plainOf_rd tx with p | ⟨x, p, r, m⟩
        · rw [p] at e
          cases e
        · rw [p] at e
          obtain ⟨a, b⟩ := putV_ok v r e
          exact ⟨a, by omega⟩
theorem goV_ok {k : Nat} : ∀ {ts : List Str} {s s' : Vs}, VOk s → (∀ t ∈ ts, Tx t ∧ t.length ≤ k) → goV s ts = some s' → VOk s' ∧ Wv s' ≤ Wv s + ts.length * (5 + k)
  | [], s, s', v, _, e => by
    simp only [goV, Option.some.injEq] at e
    subst e
    exact ⟨v, by simp⟩
  | t :: ts, s, s', v, ht, e => by
    simp only [goV] at e
    obtain ⟨s1, e1, e2⟩ := Option.bind_eq_some_iff.mp e
    obtain ⟨tx, tl⟩ := ht t (List.mem_cons_self ..)
    obtain ⟨a, b⟩ := stepV_ok v tx e1
    obtain ⟨c, d⟩ := goV_ok a (fun t h => ht t (List.mem_cons_of_mem _ h)) e2
    refine ⟨c, ?_⟩
    rw [List.length_cons, Nat.succ_mul]
    omega
theorem valueOf_rd {k : Nat} {ts : List Str} (ht : ∀ t ∈ ts, Tx t ∧ t.length ≤ k) : valueOf ts = [] ∨ ∃ x, valueOf ts = [x] ∧ rd x = true ∧ mu x ≤ ts.length * (5 + k) := by
  unfold valueOf
  split
  · exact Or.inl rfl
  · rename_i s e
    obtain ⟨v, w⟩ := goV_ok (s := ⟨[], []⟩) ⟨by simp, by simp [rdS], by simp⟩ ht e
    split
    · cases hw : s.wh with
      | nil => exact Or.inl rfl
      | cons x r =>
        have := v.one
        rw [hw] at this
        have hr : r = [] := by
          cases r with
          | nil => rfl
          | cons => simp at this
        subst hr
        refine Or.inr ⟨x, rfl, ?_, ?_⟩
        · have := v.wh; rw [hw] at this; simpa [rdS] using this
        · simp only [Wv, hw, muT, List.map_nil, List.sum_nil] at w
          omega
    · exact Or.inl rfl
theorem piecesI_all {s : Str} (tx : Tx s) : ∀ (m i : Nat), (∀ t ∈ piecesI s m i, Tx t ∧ t.length ≤ s.length) ∧ (piecesI s m i).length ≤ m
  | 0, i => by simp [piecesI]
  | m + 1, i => by
    unfold piecesI
    split
    · obtain ⟨a, b⟩ := piecesI_all tx m (nxt s.cps.toList i)
      refine ⟨fun t ht => ?_, by simp; omega⟩
      cases ht with
      | head => exact ⟨tx.cut _ _, cutS_length _ _ _⟩
      | tail _ ht => exact a t ht
    · simp
theorem pieces_rd {s : Str} (tx : Tx s) (hl : s.length ≤ 900) : valueOf (pieces s) = [] ∨ ∃ x, valueOf (pieces s) = [x] ∧ rd x = true ∧ mu x < 850000 := by
  obtain ⟨a, b⟩ := piecesI_all tx s.cps.size 0
  rcases valueOf_rd (k := s.length) a with e | ⟨x, e, r, m⟩
  · exact Or.inl e
  · refine Or.inr ⟨x, e, r, ?_⟩
    have : (piecesI s s.cps.size 0).length * (5 + s.length) ≤ 900 * (5 + 900) := Nat.mul_le_mul (Nat.le_trans b hl) (by omega)
    omega
/-! ## read_value -/
def rv (t : Str) : Option D := match valueOf (pieces t) with
  | [x] => if (isVal x && textOf x == t) = true then some x else none
  | _ => none
theorem glue_ok : ∀ {l : List Str}, (∀ t ∈ l, PyData.strOk t = true) → PyData.strOk (Txt.join "" l) = true := by
  intro l hl
  rw [strOk_list, TL.join_eq]
  show ∀ c ∈ TL.tl (Str.join "" l), _
  rw [TL.tl_join]
  have e0 : TL.tl ("" : Str) = [] := by decide +kernel
  rw [e0]
  clear e0
  induction l with
  | nil => intro c hc; simp [TL.joinL] at hc
  | cons x l ih =>
    intro c hc
    cases l with
    | nil =>
      simp [TL.joinL] at hc
      exact strOk_list.mp (hl x (List.mem_cons_self ..)) c (by simpa using hc)
    | cons y l =>
      simp only [List.map_cons, TL.joinL, List.nil_append, List.mem_append] at hc
      cases hc with
      | inl hc => exact strOk_list.mp (hl x (List.mem_cons_self ..)) c hc
      | inr hc => exact ih (fun t ht => hl t (List.mem_cons_of_mem _ ht)) c (by simpa using hc)
mutual
theorem out_ok : ∀ {x : D}, rd x = true → ∀ t ∈ outD x, PyData.strOk t = true
  | .non, _, t, ht => by simp [outD] at ht; subst ht; decide +kernel
  | .str s, e, t, ht => by simp [outD] at ht; subst ht; simpa [rd] using e
  | .int i, e, t, ht => by simp only [outD, List.mem_singleton] at ht; subst ht; exact strOk_ofString _
  | .bl b, e, t, ht => by simp [outD] at ht
  | .ref n, e, t, ht => by simp [outD] at ht
  | .tup [], e, t, ht => by
    simp [outD] at ht
    rcases ht with rfl | rfl <;> decide +kernel
  | .tup (x :: xs), e, t, ht => by
    simp only [rd, rdS, Bool.and_eq_true] at e
    simp only [outD, List.mem_cons, List.mem_append, List.mem_nil_iff, or_false] at ht
    rcases ht with rfl | ht | ht | rfl
    · decide +kernel
    · exact out_ok e.1 t ht
    · exact outs_ok e.2 t ht
    · decide +kernel
theorem outs_ok : ∀ {xs : List D}, rdS xs = true → ∀ t ∈ outT xs, PyData.strOk t = true
  | [], _, t, ht => by simp [outT] at ht
  | x :: xs, e, t, ht => by
    simp only [rdS, Bool.and_eq_true] at e
    simp only [outT, List.mem_cons, List.mem_append] at ht
    rcases ht with rfl | ht | ht
    · decide +kernel
    · exact out_ok e.1 t ht
    · exact outs_ok e.2 t ht
end
theorem text_ok {x : D} (r : rd x = true) : PyData.strOk (textOf x) = true := glue_ok (out_ok r)
theorem run_read_no {n : Nat} {d : D} {h : Hm} (k : isiD h d [.str] = some false) : AR.run prog (n + 1) 7 [.d d] [] h = .exc e_text h := by
  rw [run_def (d := ⟨1, 0, 2, i_read_value⟩) rfl rfl rfl]
  show finish (execs (AR.run prog n) i_read_value [some (.d d), none] h) = _
  unfold i_read_value
  rw [execs_cons, exec_ifs, evE_not, evE_op, evEs_cons, evE_v]
  simp only [getV, List.getElem?_cons_zero, R.bind_ok, evEs_nil, or1, op, a1, k, asB, toSV_ok, truth_ok, Bool.not_false, okB_eq, R.st_ok, if_pos]
  rfl
abbrev e_at0 : E := .op .ix [(.v 1), (.c (.int 0))]
theorem ev_at0 {K : Nat → List SV → List SV → Hm → R SV} {t x : D} {q : Nat} {h : Hm} (hq : h[q]? = some (.lst [x])) : evE K e_at0 [some (.d t), some (.d (.ref q))] h = .ok (.d x) h := by
  have i0 : atI [x] 0 = some x := atI_nat [x] 0 (by simp)
  simp only [evE_op, evEs_cons, evEs_nil, evE_v, evE_c, getV, List.getElem?_cons_succ, List.getElem?_cons_zero, R.bind_ok, or2, op, a2, dIx, dIxR, hq, i0, okO, id, toSV_ok]
theorem run_read {n : Nat} {t : Str} {h : Hm} (tx : Tx t) (hl : t.length ≤ 900) : ∃ h', AR.run prog (n + 4) 7 [.d (.str t)] [] h = (match rv t with
    | some x => .ok (.d x) h'
    | none => .exc e_text h') ∧ Keep h h' := by
  rw [run_def (d := ⟨1, 0, 2, i_read_value⟩) rfl rfl rfl]
  show ∃ h', finish (execs (AR.run prog (n + 3)) i_read_value [some (.d (.str t)), none] h) = _ ∧ _
  obtain ⟨h1, p1, p2, p3⟩ := run_pieces (n := n + 2) (s := t) (h := h) tx.lt
  obtain ⟨a, b⟩ := piecesI_all tx t.cps.size 0
  have tl := tx.lt
  obtain ⟨h2, q, q1, q2, q3⟩ := run_valueOf (n := n) (ts := pieces t) p2 (fun t ht => ⟨(a t ht).1, intOk_of⟩) (by show (piecesI t t.cps.size 0).length < _; have : t.length = t.cps.size := rfl; omega)
  unfold i_read_value
  rw [execs_cons, exec_ifs, evE_not, evE_op, evEs_cons, evE_v]
  have e1 : isiD h (.str t) [.str] = some true := rfl
  simp only [getV, List.getElem?_cons_zero, R.bind_ok, evEs_nil, or1, op, a1, e1, asB, toSV_ok, truth_ok, Bool.not_true, okB_eq, R.st_ok, Bool.false_eq_true, if_false, execs_nil, seq_nx]
  rw [execs_cons, exec_asg, evE_call, evEs_cons, evE_call, evEs_cons, evE_v]
  simp only [getV, List.getElem?_cons_zero, R.bind_ok, evEs_nil, p1, q1, R.st_ok]
  have as : asgRun (.nm 1) [some (.d (.str t)), none] (.d (.ref q)) h2 = .nx [some (.d (.str t)), some (.d (.ref q))] h2 := rfl
  rw [as, seq_nx, execs_cons, exec_ifs, evE_or, evE_op, evEs_cons, evE_v]
  simp only [getV, List.getElem?_cons_succ, List.getElem?_cons_zero, R.bind_ok, evEs_nil, or1, op, a1, nilD, q2, asB, toSV_ok, truth_ok]
  unfold rv
  rcases pieces_rd tx hl with e | ⟨x, e, r, m⟩
  · rw [e] at q2 ⊢
    refine ⟨h2, rfl, p3.trans q3⟩
  · rw [e] at q2 ⊢
    have fx := fine_rd (h := h2) r (by omega)
    obtain ⟨h3, w1, w2⟩ := run_value (n := n + 1) fx
    rw [List.isEmpty_cons]
    simp only [Bool.false_eq_true, if_false]
    rw [evE_or, evE_not, evE_call, evEs_cons, ev_at0 q2]
    simp only [R.bind_ok, evEs_nil, w1, truth_ok, okB_eq]
    cases ev : isVal x with
    | false =>
      refine ⟨h3, rfl, (p3.trans q3).trans w2⟩
    | true =>
      obtain ⟨h4, z1, z2⟩ := run_text_rd (n := n) (h := h3) r (by omega) ev
      simp only [Bool.not_true, Bool.false_eq_true, if_false]
      rw [evE_op, evEs_cons, evE_call, evEs_cons, ev_at0 (w2 _ _ q2)]
      simp only [R.bind_ok, evEs_nil, z1, evEs_cons, evE_v, getV, List.getElem?_cons_zero, or2, op, a2, eqP_str h4 (text_ok r) tx.ok, Option.map_some, asB, toSV_ok, truth_ok, okB_eq, R.st_ok, Bool.true_and]
      cases ec : (textOf x == t) with
      | false => exact ⟨h4, rfl, ((p3.trans q3).trans w2).trans z2⟩
      | true =>
        refine ⟨h4, ?_, ((p3.trans q3).trans w2).trans z2⟩
        simp only [Bool.not_true, Bool.false_eq_true, if_false, execs_nil, seq_nx]
        rw [execs_cons, exec_ret, ev_at0 (z2 _ _ (w2 _ _ q2))]
        rfl
end K88
end AR
end
section
set_option Elab.async false
set_option linter.all false
set_option maxRecDepth 100000
set_option maxHeartbeats 4000000
namespace AR
namespace K88
open PySem L2 PySem.Spec PyProof.Rows
/-! ## a written value is cut back into its pieces -/
def flat (ts : List Str) : List Nat := ts.flatMap fun t => t.cps.toList
def HeadPun (l : List Nat) : Prop := ∀ c, l.head? = some c → isPun c = true
/-- a piece that is a run of plain signs -/
def Run (t : Str) : Prop := t.cps.toList ≠ [] ∧ ∀ c ∈ t.cps.toList, isPun c = false
def Sep : List Str → Prop
  | [] => True
  | t :: ts => ((∃ c, t.cps.toList = [c] ∧ isPun c = true) ∨ (Run t ∧ HeadPun (flat ts))) ∧ Sep ts
theorem flat_app (a b : List Str) : flat (a ++ b) = flat a ++ flat b := by simp [flat]
theorem flat_cons (t : Str) (ts : List Str) : flat (t :: ts) = t.cps.toList ++ flat ts := by simp [flat]
theorem endAt_run {cs : List Nat} : ∀ (r rest : List Nat) (m j : Nat), cs.drop j = r ++ rest → (∀ c ∈ r, isPun c = false) → HeadPun rest → r.length ≤ m → endAt cs m j = j + r.length
  | [], rest, 0, j, _, _, _, _ => rfl
  | [], rest, m + 1, j, e, _, hp, _ => by
    unfold endAt
    have : cs[j]? = rest.head? := by
      rw [← List.head?_drop, e]; rfl
    rw [this]
    cases h : rest.head? with
    | none => rfl
    | some c => simp [hp c h]
  | c :: r, rest, m + 1, j, e, hr, hp, hm => by
    unfold endAt
    have : cs[j]? = some c := by
      rw [← List.head?_drop, e]; rfl
    rw [this]
    simp only [hr c (List.mem_cons_self ..), Bool.false_eq_true, if_false]
    have e2 : cs.drop (j + 1) = r ++ rest := by
      rw [← List.drop_drop, e]; rfl
    rw [endAt_run r rest m (j + 1) e2 (fun d hd => hr d (List.mem_cons_of_mem _ hd)) hp (by simpa using hm)]
    simp only [List.length_cons]
    omega
theorem cut_at {s t : Str} {i : Nat} {rest : List Nat} (e : s.cps.toList.drop i = t.cps.toList ++ rest) : cutS s (some (i : Int)) (some ((i + t.cps.toList.length : Nat) : Int)) = t := by
  apply str_ext
  have l := tl_len s
  have dl := congrArg List.length e
  simp only [List.length_drop, List.length_append] at dl
  rw [tl_cut, HT.sIx_nat, HT.sIx_nat]
  by_cases hz : t.cps.toList.length = 0
  · have : t.cps.toList = [] := List.length_eq_zero_iff.mp hz
    rw [this]
    apply List.eq_nil_of_length_eq_zero
    rw [List.length_take]
    simp
  · rw [Nat.min_eq_left (by omega), Nat.min_eq_left (by omega), e, show i + t.cps.toList.length - i = t.cps.toList.length by omega]
    simp
theorem pieces_sep {s : Str} : ∀ (ts : List Str) (m i : Nat), s.cps.toList.drop i = flat ts → Sep ts → ts.length ≤ m → piecesI s m i = ts
  | [], m, i, e, _, _ => by
    apply piecesI_end
    have : flat [] = [] := rfl
    rw [this] at e
    exact List.drop_eq_nil_iff.mp e
  | t :: ts, m + 1, i, e, ⟨a, b⟩, hm => by
    rw [flat_cons] at e
    have tn : t.cps.toList ≠ [] := by
      rcases a with ⟨c, h, _⟩ | ⟨⟨h, _⟩, _⟩
      · rw [h]; simp
      · exact h
    have lt : i < s.cps.toList.length := by
      have dl := congrArg List.length e
      simp only [List.length_drop, List.length_append] at dl
      have := List.length_pos_iff.mpr tn
      omega
    have en : nxt s.cps.toList i = i + t.cps.toList.length := by
      obtain ⟨c, r, hc⟩ : ∃ c r, t.cps.toList = c :: r := by
        cases h : t.cps.toList with
        | nil => exact absurd h tn
        | cons c r => exact ⟨c, r, rfl⟩
      have ec : s.cps.toList[i]? = some c := by
        rw [← List.head?_drop, e, hc]; rfl
      unfold nxt
      rw [ec]
      simp only
      rcases a with ⟨c', h, p⟩ | ⟨⟨_, h⟩, hp⟩
      · rw [hc] at h
        obtain ⟨rfl, rfl⟩ := List.cons_eq_cons.mp h
        rw [if_pos p, hc]
        rfl
      · have pc := h c (by rw [hc]; exact List.mem_cons_self ..)
        simp only [pc, Bool.false_eq_true, if_false]
        have e2 : s.cps.toList.drop (i + 1) = r ++ flat ts := by
          rw [← List.drop_drop, e, hc]; rfl
        have dl := congrArg List.length e2
        simp only [List.length_drop, List.length_append] at dl
        rw [endAt_run r (flat ts) _ (i + 1) e2 (fun d hd => h d (by rw [hc]; exact List.mem_cons_of_mem _ hd)) hp (by omega), hc, List.length_cons]
        omega
    unfold piecesI
    rw [if_pos lt, en, cut_at e]
    congr 1
    apply pieces_sep ts m _ _ b (by simpa using hm)
    rw [← List.drop_drop, e]
    simp
mutual
/-- all atoms' texts are runs of plain signs -/
def Runs : D → Prop
  | .tup xs => RunsS xs
  | .non => Run "-"
  | .str s => Run s
  | .int i => Run (Str.ofString (toString i))
  | _ => False
def RunsS : List D → Prop
  | [] => True
  | x :: xs => Runs x ∧ RunsS xs
end
theorem sep_open {r : List Str} (h : Sep r) : Sep ("(" :: r) := ⟨Or.inl ⟨40, by decide +kernel, by decide +kernel⟩, h⟩
theorem sep_shut {r : List Str} (h : Sep r) : Sep (")" :: r) := ⟨Or.inl ⟨41, by decide +kernel, by decide +kernel⟩, h⟩
theorem sep_gap {r : List Str} (h : Sep r) : Sep (" " :: r) := ⟨Or.inl ⟨32, by decide +kernel, by decide +kernel⟩, h⟩
theorem hp_shut {r : List Str} : HeadPun (flat (")" :: r)) := by
  intro c hc
  rw [flat_cons, show ((")" : Str)).cps.toList = [41] by decide +kernel] at hc
  simp at hc
  subst hc
  decide +kernel
theorem hp_gap {r : List Str} : HeadPun (flat (" " :: r)) := by
  intro c hc
  rw [flat_cons, show ((" " : Str)).cps.toList = [32] by decide +kernel] at hc
  simp at hc
  subst hc
  decide +kernel
theorem hp_outs {xs : List D} {r : List Str} (h : HeadPun (flat r)) : HeadPun (flat (outT xs ++ r)) := by
  cases xs with
  | nil => simpa [outT] using h
  | cons x xs => simp only [outT, List.cons_append]; exact hp_gap
mutual
theorem sep_out : ∀ {x : D} {r : List Str}, Runs x → Sep r → HeadPun (flat r) → Sep (outD x ++ r)
  | .non, r, h, a, b => by
    simp only [Runs] at h
    simp only [outD, List.singleton_append]
    exact ⟨Or.inr ⟨h, b⟩, a⟩
  | .str s, r, h, a, b => by
    simp only [Runs] at h
    simp only [outD, List.singleton_append]
    exact ⟨Or.inr ⟨h, b⟩, a⟩
  | .int i, r, h, a, b => by
    simp only [Runs] at h
    simp only [outD, List.singleton_append]
    exact ⟨Or.inr ⟨h, b⟩, a⟩
  | .bl _, r, h, a, b => by simp [Runs] at h
  | .ref _, r, h, a, b => by simp [Runs] at h
  | .tup [], r, h, a, b => by
    simp only [outD, List.cons_append, List.nil_append]
    exact sep_open (sep_shut a)
  | .tup (x :: xs), r, h, a, b => by
    simp only [Runs, RunsS] at h
    simp only [outD, List.cons_append, List.append_assoc, List.nil_append]
    exact sep_open (sep_out h.1 (sep_outs h.2 (sep_shut a) hp_shut) (hp_outs hp_shut))
theorem sep_outs : ∀ {xs : List D} {r : List Str}, RunsS xs → Sep r → HeadPun (flat r) → Sep (outT xs ++ r)
  | [], r, h, a, b => by simpa [outT] using a
  | x :: xs, r, h, a, b => by
    simp only [RunsS] at h
    simp only [outT, List.cons_append, List.append_assoc]
    exact sep_gap (sep_out h.1 (sep_outs h.2 a b) (hp_outs b))
end
theorem tl_glue : ∀ l : List Str, (Txt.join "" l).cps.toList = flat l := by
  intro l
  rw [TL.join_eq]
  show TL.tl (Str.join "" l) = _
  rw [TL.tl_join]
  have e0 : TL.tl ("" : Str) = [] := by decide +kernel
  rw [e0]
  clear e0
  induction l with
  | nil => rfl
  | cons x l ih =>
    cases l with
    | nil => simp [TL.joinL, flat]
    | cons y l =>
      rw [flat_cons, ← ih]
      rfl
theorem sep_len : ∀ {ts : List Str}, Sep ts → ts.length ≤ (flat ts).length
  | [], _ => Nat.zero_le _
  | t :: ts, ⟨a, b⟩ => by
    have := sep_len b
    rw [flat_cons, List.length_cons, List.length_append]
    have : 0 < t.cps.toList.length := by
      rcases a with ⟨c, h, _⟩ | ⟨⟨h, _⟩, _⟩
      · rw [h]; simp
      · exact List.length_pos_iff.mpr h
    omega
theorem pieces_text {x : D} (h : Runs x) : pieces (textOf x) = outD x := by
  have e : (textOf x).cps.toList = flat (outD x) := tl_glue (outD x)
  have sp : Sep (outD x) := by
    have := sep_out (r := []) h trivial (fun c hc => by simp [flat] at hc)
    simpa using this
  have l := sep_len sp
  rw [← e] at l
  unfold pieces
  exact pieces_sep (outD x) _ 0 (by rw [List.drop_zero, e]) sp (by simpa using l)
theorem rv_text {x : D} (h : Runs x) (b : BackD x) (v : isVal x = true) : rv (textOf x) = some x := by
  unfold rv
  rw [pieces_text h, valueOf_out b]
  simp only [v, Bool.true_and]
  rw [if_pos (str_eq.mpr rfl)]
end K88
end AR
end
section
set_option Elab.async false
set_option linter.all false
set_option maxRecDepth 100000
set_option maxHeartbeats 4000000
namespace AR
namespace K88
open PySem L2 PySem.Spec PyProof.Rows
/-! ## depth; equality of values -/
mutual
def dp : D → Nat
  | .tup xs => 1 + dpS xs
  | .non => 0
  | .bl _ => 0
  | .int _ => 0
  | .str _ => 0
  | .ref _ => 0
def dpS : List D → Nat
  | [] => 0
  | x :: xs => max (dp x) (dpS xs)
end
mutual
def aOk : D → Bool
  | .tup xs => aOkS xs
  | .non => true
  | .bl _ => false
  | .int i => isFig (.int i)
  | .str s => isWord (.str s)
  | .ref _ => false
def aOkS : List D → Bool
  | [] => true
  | x :: xs => aOk x && aOkS xs
end
theorem dpS_at : ∀ {xs : List D} {x : D}, x ∈ xs → dp x ≤ dpS xs
  | y :: ys, x, m => by
    simp only [dpS]
    cases m with
    | head => omega
    | tail _ m => have := dpS_at m; omega
theorem aOkS_at : ∀ {xs : List D} {x : D}, aOkS xs = true → x ∈ xs → aOk x = true
  | y :: ys, x, h, m => by
    simp only [aOkS, Bool.and_eq_true] at h
    cases m with
    | head => exact h.1
    | tail _ m => exact aOkS_at h.2 m
theorem goAll_mem {lvl : Int} {xs : List D} {y : D} (h : y ∈ goAll lvl xs) : ∃ ys, D.tup ys ∈ xs ∧ y ∈ ys ∧ lvl < 59 := by
  obtain ⟨x, hx, hy⟩ := List.mem_flatMap.mp h
  cases x with
  | tup ys =>
    simp only [goIn] at hy
    split at hy
    · rename_i lt; exact ⟨ys, hx, hy, lt⟩
    · simp at hy
  | _ => simp [goIn] at hy
theorem isValL_of : ∀ (m lvl : Nat) (xs : List D), m + lvl = 60 → (∀ x ∈ xs, aOk x = true ∧ dp x + lvl < 60) → xs ≠ [] → isValL m lvl xs = true
  | 0, lvl, xs, e, h, ne => by
    cases xs with
    | nil => exact absurd rfl ne
    | cons x xs => have := (h x (List.mem_cons_self ..)).2; omega
  | m + 1, lvl, xs, e, h, ne => by
    simp only [isValL, Bool.and_eq_true, Bool.or_eq_true, List.all_eq_true]
    constructor
    · intro x hx
      obtain ⟨a, b⟩ := h x hx
      cases x with
      | tup ys =>
        simp only [dp] at b
        simp [okAt, isTup]
        left; omega
      | non => simp [okAt, okAtom, isNonD]
      | bl b => simp [aOk] at a
      | int i => simp only [aOk] at a; simp [okAt, okAtom, a]
      | str s => simp only [aOk] at a; simp [okAt, okAtom, a]
      | ref n => simp [aOk] at a
    · by_cases g : goAll (lvl : Int) xs = []
      · left; rw [g]; rfl
      · right
        have := isValL_of m (lvl + 1) (goAll (lvl : Int) xs) (by omega) (fun y hy => by
          obtain ⟨ys, h1, h2, _⟩ := goAll_mem hy
          obtain ⟨a, b⟩ := h _ h1
          simp only [aOk] at a
          simp only [dp] at b
          have := dpS_at h2
          exact ⟨aOkS_at a h2, by omega⟩) g
        rw [← this]
        rfl
theorem isVal_of {x : D} (a : aOk x = true) (d : dp x ≤ 59) : isVal x = true :=
  isValL_of 60 0 [x] rfl (by simp; exact ⟨a, by omega⟩) (by simp)
theorem isValL_dp : ∀ (m lvl : Nat) (xs : List D), m + lvl = 60 → isValL m lvl xs = true → ∀ x ∈ xs, dp x + lvl < 60
  | 0, lvl, xs, e, h, x, hx => by simp [isValL] at h
  | m + 1, lvl, xs, e, h, x, hx => by
    simp only [isValL, Bool.and_eq_true, Bool.or_eq_true, List.all_eq_true] at h
    obtain ⟨h1, h2⟩ := h
    cases x with
    | tup ys =>
      have a := h1 _ hx
      have lt : (lvl : Int) < 59 := by
        simp [okAt, isTup, okAtom, isNonD, isWord, isFig] at a
        exact a
      simp only [dp]
      have key : ∀ y ∈ ys, dp y + (lvl + 1) < 60 := fun y hy => by
        have my : y ∈ goAll (lvl : Int) xs := List.mem_flatMap.mpr ⟨_, hx, by simp [goIn, lt, hy]⟩
        rcases h2 with h2 | h2
        · rw [List.isEmpty_iff.mp h2] at my
          simp at my
        · exact isValL_dp m (lvl + 1) _ (by omega) (by rw [← h2]; rfl) y my
      have : ∀ (zs : List D), (∀ y ∈ zs, dp y + (lvl + 1) < 60) → dpS zs + (lvl + 1) < 60 := by
        intro zs
        induction zs with
        | nil => intro _; simp only [dpS]; omega
        | cons z zs ih =>
          intro hz
          have a1 := hz z (List.mem_cons_self ..)
          have a2 := ih fun y hy => hz y (List.mem_cons_of_mem _ hy)
          simp only [dpS]
          omega
      have := this ys key
      omega
    | _ => simp only [dp]; omega
theorem dp_isVal {x : D} (h : isVal x = true) : dp x ≤ 59 := by
  have := isValL_dp 60 0 [x] rfl h x (by simp)
  omega
/-! ### equality -/
mutual
def pd : D → PyData
  | .non => .none
  | .bl b => .bool b
  | .int i => .int i
  | .str s => .str s
  | .tup xs => .tuple (pdS xs)
  | .ref _ => .none
def pdS : List D → List PyData
  | [] => []
  | x :: xs => pd x :: pdS xs
end
mutual
theorem toP_pd {h : Hm} : ∀ (x : D) (k : Nat), rd x = true → dp x ≤ k → toP h k x = some (pd x)
  | .non, k, _, _ => by cases k <;> rfl
  | .bl b, k, e, _ => by simp [rd] at e
  | .int i, k, _, _ => by cases k <;> rfl
  | .str s, k, _, _ => by cases k <;> rfl
  | .ref n, k, e, _ => by simp [rd] at e
  | .tup xs, 0, e, d => by simp only [dp] at d; omega
  | .tup xs, k + 1, e, d => by
    simp only [rd] at e
    simp only [dp] at d
    simp only [toP, mapO_pd xs k e (by omega), pd, Option.map_some]
theorem mapO_pd {h : Hm} : ∀ (xs : List D) (k : Nat), rdS xs = true → dpS xs ≤ k → mapO (toP h k) xs = some (pdS xs)
  | [], k, _, _ => rfl
  | x :: xs, k, e, d => by
    simp only [rdS, Bool.and_eq_true] at e
    simp only [dpS] at d
    simp only [mapO, toP_pd x k e.1 (by omega), mapO_pd xs k e.2 (by omega), pdS]
end
mutual
theorem depth_pd : ∀ x : D, (pd x).depth = dp x
  | .non => by simp [pd, PyData.depth, dp]
  | .bl b => by simp [pd, PyData.depth, dp]
  | .int i => by simp [pd, PyData.depth, dp]
  | .str s => by simp [pd, PyData.depth, dp]
  | .ref n => by simp [pd, PyData.depth, dp]
  | .tup xs => by simp only [pd, PyData.depth, dp, depthAll_pd xs]; omega
theorem depthAll_pd : ∀ xs : List D, PyData.depthAll (pdS xs) = dpS xs
  | [] => by simp [pdS, PyData.depthAll, dpS]
  | x :: xs => by simp only [pdS, PyData.depthAll, dpS, depth_pd x, depthAll_pd xs]
end
mutual
theorem canLay_pd : ∀ x : D, rd x = true → PyData.canLay0 (pd x) = true
  | .non, _ => by simp [pd, PyData.canLay0]
  | .bl b, _ => by simp [pd, PyData.canLay0]
  | .int i, _ => by simp [pd, PyData.canLay0]
  | .str s, e => by simpa [pd, PyData.canLay0, rd] using e
  | .ref n, _ => by simp [pd, PyData.canLay0]
  | .tup xs, e => by
    simp only [rd] at e
    simp only [pd, PyData.canLay0]
    exact canLayAll_pd xs e
theorem canLayAll_pd : ∀ xs : List D, rdS xs = true → PyData.canLayAll0 (pdS xs) = true
  | [], _ => by simp [pdS, PyData.canLayAll0]
  | x :: xs, e => by
    simp only [rdS, Bool.and_eq_true] at e
    simp only [pdS, PyData.canLayAll0, Bool.and_eq_true]
    exact ⟨canLay_pd x e.1, canLayAll_pd xs e.2⟩
end
theorem shaped_pd {x : D} (r : rd x = true) (d : dp x ≤ 64) : SeqAt.shaped (pd x) = true := by
  unfold SeqAt.shaped
  rw [canLay_pd x r, depth_pd]
  simp [d]
theorem eqP_rd (h : Hm) {x y : D} (rx : rd x = true) (ry : rd y = true) (dx : dp x ≤ 64) (dy : dp y ≤ 64) : eqP h x y = some (PyData.eqv (pd x) (pd y)) := by
  unfold eqP
  rw [toP_pd x 64 rx dx, toP_pd y 64 ry dy]
  simp only
  rw [if_pos ⟨shaped_pd rx dx, shaped_pd ry dy⟩]
theorem eqP_bl (h : Hm) (a b : Bool) : eqP h (.bl a) (.bl b) = some (a == b) := by
  unfold eqP
  simp only [toP]
  rw [if_pos ⟨by unfold SeqAt.shaped; simp [PyData.canLay0, PyData.depth], by unfold SeqAt.shaped; simp [PyData.canLay0, PyData.depth]⟩]
  rfl
mutual
theorem eqv_iff : ∀ (x y : D), rd x = true → rd y = true → (PyData.eqv (pd x) (pd y) = true ↔ x = y)
  | .non, y, _, ry => by cases y <;> simp_all [pd, PyData.eqv, rd]
  | .bl b, y, e, _ => by simp [rd] at e
  | .int i, y, _, ry => by cases y <;> simp_all [pd, PyData.eqv, rd]
  | .str s, y, _, ry => by cases y <;> simp_all [pd, PyData.eqv, rd]
  | .ref n, y, e, _ => by simp [rd] at e
  | .tup xs, y, e, ry => by
    cases y with
    | tup ys =>
      simp only [rd] at e ry
      simp only [pd, PyData.eqv]
      rw [eqvAll_iff xs ys e ry]
      simp
    | non => simp [pd, PyData.eqv]
    | bl b => simp [rd] at ry
    | int i => simp [pd, PyData.eqv]
    | str s => simp [pd, PyData.eqv]
    | ref n => simp [rd] at ry
theorem eqvAll_iff : ∀ (xs ys : List D), rdS xs = true → rdS ys = true → (PyData.eqvAll (pdS xs) (pdS ys) = true ↔ xs = ys)
  | [], [], _, _ => by simp [pdS, PyData.eqvAll]
  | [], y :: ys, _, _ => by simp [pdS, PyData.eqvAll]
  | x :: xs, [], _, _ => by simp [pdS, PyData.eqvAll]
  | x :: xs, y :: ys, e, f => by
    simp only [rdS, Bool.and_eq_true] at e f
    simp only [pdS, PyData.eqvAll, Bool.and_eq_true]
    rw [eqv_iff x y e.1 f.1, eqvAll_iff xs ys e.2 f.2]
    simp
end
end K88
end AR
end
section
set_option Elab.async false
set_option linter.all false
set_option maxRecDepth 100000
set_option maxHeartbeats 4000000
namespace AR
namespace K88
open PySem L2 PySem.Spec PyProof.Rows
/-! ## _law_is, _law_plain, _law_value_text at values -/
theorem eqP_non (h : Hm) : eqP h .non .non = some true := by
  rw [eqP_rd h (by rfl) (by rfl) (by simp [dp]) (by simp [dp])]
  simp [pd, PyData.eqv]
theorem zip_at {h : Hm} (xs : List D) (i : Nat) : (AR.It.zip (.tup xs) (.tup xs)).at h i = some ((xs.map fun x => D.tup [x, x])[i]?) := by
  simp only [AR.It.at, List.getElem?_map]
  cases xs[i]? <;> rfl
theorem drop_none {xs : List D} : xs.filterMap (fun _ => (none : Option D)) = [] := by
  induction xs with
  | nil => rfl
  | cons x xs ih => simpa using ih
theorem run_is : ∀ (k : Nat) (x : D), rd x = true → mu x < 900000 → dp x ≤ k → ∀ h, ∃ h', AR.run prog (k + 1) 12 [.d x, .d x] [] h = .ok (.d (.bl true)) h' ∧ Keep h h' := by
  intro k x r hm hd h
  rw [run_def (d := ⟨2, 0, 4, i__law_is⟩) rfl rfl rfl]
  show ∃ h', finish (execs (AR.run prog k) i__law_is [some (.d x), some (.d x), none, none] h) = _ ∧ _
  cases x with
  | bl b => simp [rd] at r
  | ref n => simp [rd] at r
  | non =>
    refine ⟨h, ?_, Keep.refl _⟩
    unfold i__law_is
    have e1 : isiD h .non [.tuple, .list] = some false := rfl
    have e2 : isiD h .non [.dict] = some false := rfl
    have e3 : isiD h .non [.str] = some false := rfl
    simp only [execs_cons, exec_ifs, exec_ret, evE_or, evE_and, evE_op, evEs_cons, evEs_nil, evE_v, getV, List.getElem?_cons_succ, List.getElem?_cons_zero, R.bind_ok, or1, or2, op, a1, a2, e1, e2, e3, isNonD, asB, toSV_ok, truth_ok, R.st_ok, Bool.false_eq_true, if_false, if_pos, execs_nil, seq_nx, okB_eq, eqP_bl, eqP_non, beq_self_eq_true, seq_rt, fin_rt]
  | str s =>
    refine ⟨h, ?_, Keep.refl _⟩
    unfold i__law_is
    have e1 : isiD h (.str s) [.tuple, .list] = some false := rfl
    have e2 : isiD h (.str s) [.dict] = some false := rfl
    have e3 : isiD h (.str s) [.str] = some true := rfl
    simp only [rd] at r
    simp only [execs_cons, exec_ifs, exec_ret, evE_or, evE_and, evE_op, evEs_cons, evEs_nil, evE_v, getV, List.getElem?_cons_succ, List.getElem?_cons_zero, R.bind_ok, or1, or2, op, a1, a2, e1, e2, e3, isNonD, asB, toSV_ok, truth_ok, R.st_ok, Bool.false_eq_true, if_false, if_pos, execs_nil, seq_nx, okB_eq, eqP_bl, eqP_str h r r, beq_self_eq_true, seq_rt, fin_rt]
  | int i =>
    refine ⟨h, ?_, Keep.refl _⟩
    unfold i__law_is
    have e1 : isiD h (.int i) [.tuple, .list] = some false := rfl
    have e2 : isiD h (.int i) [.dict] = some false := rfl
    have e3 : isiD h (.int i) [.str] = some false := rfl
    have e4 : isiD h (.int i) [.int] = some true := rfl
    simp only [execs_cons, exec_ifs, exec_ret, evE_or, evE_and, evE_op, evEs_cons, evEs_nil, evE_v, getV, List.getElem?_cons_succ, List.getElem?_cons_zero, R.bind_ok, or1, or2, op, a1, a2, e1, e2, e3, e4, isNonD, isBlD, asB, toSV_ok, truth_ok, R.st_ok, Bool.false_eq_true, if_false, if_pos, execs_nil, seq_nx, okB_eq, eqP_bl, eqP_int, beq_self_eq_true, seq_rt, fin_rt]
  | tup xs =>
    cases k with
    | zero => simp only [dp] at hd; omega
    | succ k =>
      simp only [rd] at r
      simp only [mu] at hm
      simp only [dp] at hd
      have ml := muT_len xs
      have sb := sizeLine_big
      have fp := fuel_pos.2
      have e1 : isiD h (.tup xs) [.tuple, .list] = some true := rfl
      have e2 : isiD h (.tup xs) [.tuple] = some true := rfl
      have e3 : isiD h (.tup xs) [.list] = some false := rfl
      have e4 : dLen h (.tup xs) = .ok (.int xs.length) h := rfl
      obtain ⟨h', q1, q2, q3, _⟩ := lcGo_run (get := fun h i => (AR.It.zip (.tup xs) (.tup xs)).at h i) (n := h.length) (items := xs.map fun x => D.tup [x, x]) (f := fun _ => none)
        (body := lcTurn (.tp [.nm 2, .nm 3]) (wipeE (([some (.d (.tup xs)), some (.d (.tup xs)), none, none] : AR.Env).map dOnly) [2, 3]) (fun env h => truth (evE (AR.run prog (k + 1)) (.not (.call 12 [(.v 2), (.v 3)])) env h)) fun env h => evE (AR.run prog (k + 1)) (.c (.int 1)) env h) (fun _ => True)
        (fun h i _ => zip_at xs i)
        (fun y hy h _ => by
          obtain ⟨x, hx, rfl⟩ := List.mem_map.mp hy
          have mx := mu_at hx
          have dx := dpS_at hx
          obtain ⟨h2, w1, w2⟩ := run_is k x (rdS_at r hx) (by omega) (by omega) h
          refine ⟨h2, ?_, w2, trivial⟩
          unfold lcTurn
          have st : setT (.tp [.nm 2, .nm 3]) (.tup [x, x]) (wipeE (([some (.d (.tup xs)), some (.d (.tup xs)), none, none] : AR.Env).map dOnly) [2, 3]) = some [some (.d (.tup xs)), some (.d (.tup xs)), some (.d x), some (.d x)] := rfl
          rw [st]
          simp only [evE_not, evE_call, evEs_cons, evEs_nil, evE_v, getV, List.getElem?_cons_succ, List.getElem?_cons_zero, R.bind_ok, w1, truth_ok, okB_eq, Bool.not_true, Bool.false_eq_true, if_false])
        (fun _ _ _ => trivial) (xs.map fun x => D.tup [x, x]).length fuelW 0 (h ++ [.lst []]) [] (by simp) (by simp; omega) trivial (at_new h _) (by simp; omega)
      refine ⟨h', ?_, q3.old⟩
      rw [drop_none, List.append_nil] at q2
      unfold i__law_is
      rw [execs_cons, exec_ifs, evE_op, evEs_cons, evE_v]
      simp only [getV, List.getElem?_cons_succ, List.getElem?_cons_zero, R.bind_ok, evEs_nil, or1, op, a1, e1, asB, toSV_ok, truth_ok, R.st_ok, if_pos]
      rw [execs_cons, exec_ifs]
      simp only [evE_or, evE_op, evEs_cons, evEs_nil, evE_v, getV, List.getElem?_cons_succ, List.getElem?_cons_zero, R.bind_ok, or1, or2, op, a1, a2, e2, e3, e4, asB, toSV_ok, eqP_bl, eqP_int, beq_self_eq_true, Option.map_some, Bool.not_true, truth_ok, Bool.false_eq_true, if_false, okB_eq, R.st_ok, execs_nil, seq_nx]
      rw [execs_cons, exec_ret, evE_op, evEs_cons, evE_lc, evEs_cons, evE_v]
      simp only [getV, List.getElem?_cons_succ, List.getElem?_cons_zero, R.bind_ok, evEs_cons, evEs_nil, evE_v]
      unfold lcRun
      simp only [allD, Option.map_some, itOf, itSeq, itZip]
      rw [q1]
      simp only [toSV_ok, R.bind_ok, evEs_nil, or1, op, a1, nilD, q2, asB, R.st_ok, seq_rt, fin_rt, List.isEmpty_nil]
theorem run_lplain : ∀ (k : Nat) (x : D), rd x = true → mu x < 900000 → dp x ≤ k → ∀ h, ∃ h', AR.run prog (k + 1) 16 [.d x] [] h = .ok (.d (.bl true)) h' ∧ Keep h h' := by
  intro k x r hm hd h
  rw [run_def (d := ⟨1, 0, 2, i__law_plain⟩) rfl rfl rfl]
  show ∃ h', finish (execs (AR.run prog k) i__law_plain [some (.d x), none] h) = _ ∧ _
  cases x with
  | bl b => simp [rd] at r
  | ref n => simp [rd] at r
  | non => exact ⟨h, rfl, Keep.refl _⟩
  | str s => exact ⟨h, rfl, Keep.refl _⟩
  | int i => exact ⟨h, rfl, Keep.refl _⟩
  | tup xs =>
    cases k with
    | zero => simp only [dp] at hd; omega
    | succ k =>
      simp only [rd] at r
      simp only [mu] at hm
      simp only [dp] at hd
      have ml := muT_len xs
      have sb := sizeLine_big
      have fp := fuel_pos.2
      have e1 : isiD h (.tup xs) [.list, .tuple] = some true := rfl
      obtain ⟨h', q1, q2, q3, _⟩ := lcGo_run (get := fun h i => (AR.It.tup xs).at h i) (n := h.length) (items := xs) (f := fun _ => none)
        (body := lcTurn (.nm 1) (wipeE (([some (.d (.tup xs)), none] : AR.Env).map dOnly) [1]) (fun env h => truth (evE (AR.run prog (k + 1)) (.not (.call 16 [(.v 1)])) env h)) fun env h => evE (AR.run prog (k + 1)) (.c (.int 1)) env h) (fun _ => True)
        (fun h i _ => rfl)
        (fun x hx h _ => by
          have mx := mu_at hx
          have dx := dpS_at hx
          obtain ⟨h2, w1, w2⟩ := run_lplain k x (rdS_at r hx) (by omega) (by omega) h
          refine ⟨h2, ?_, w2, trivial⟩
          unfold lcTurn
          have st : setT (.nm 1) x (wipeE (([some (.d (.tup xs)), none] : AR.Env).map dOnly) [1]) = some [some (.d (.tup xs)), some (.d x)] := rfl
          rw [st]
          simp only [evE_not, evE_call, evEs_cons, evEs_nil, evE_v, getV, List.getElem?_cons_succ, List.getElem?_cons_zero, R.bind_ok, w1, truth_ok, okB_eq, Bool.not_true, Bool.false_eq_true, if_false])
        (fun _ _ _ => trivial) xs.length fuelW 0 (h ++ [.lst []]) [] (by simp) (by omega) trivial (at_new h _) (by simp; omega)
      refine ⟨h', ?_, q3.old⟩
      rw [drop_none, List.append_nil] at q2
      unfold i__law_plain
      rw [execs_cons, exec_ifs, evE_op, evEs_cons, evE_v]
      simp only [getV, List.getElem?_cons_succ, List.getElem?_cons_zero, R.bind_ok, evEs_nil, or1, op, a1, e1, asB, toSV_ok, truth_ok, R.st_ok, if_pos]
      rw [execs_cons, exec_ret, evE_op, evEs_cons, evE_lc, evEs_cons, evE_v]
      simp only [getV, List.getElem?_cons_succ, List.getElem?_cons_zero, R.bind_ok, evEs_cons, evEs_nil, evE_v]
      unfold lcRun
      simp only [allD, Option.map_some, itOf, i1, itSeq]
      rw [q1]
      simp only [toSV_ok, R.bind_ok, evEs_nil, or1, op, a1, nilD, q2, asB, R.st_ok, seq_rt, fin_rt, List.isEmpty_nil]
theorem text_len (x : D) : (textOf x).length ≤ mu x := by
  have e : (textOf x).cps.toList = flat (outD x) := tl_glue (outD x)
  have l := congrArg List.length e
  rw [tl_len] at l
  have : (flat (outD x)).length = ((outD x).map (·.length)).sum := by
    unfold flat
    rw [List.length_flatMap]
    congr 1
  have := ln_mu x
  omega
theorem text_one (s : Str) : Txt.join "" [s] = s := str_ext (by rw [tl_glue]; simp [flat])
theorem joinL_out : ∀ (x : D) (xs : List D), TL.joinL [32] ((x :: xs).map fun y => (textOf y).cps.toList) = flat (outD x) ++ flat (outT xs)
  | x, [] => by
    have : flat (outT []) = [] := by simp [outT, flat]
    rw [this, List.append_nil]
    exact tl_glue (outD x)
  | x, y :: xs => by
    have := joinL_out y xs
    show (textOf x).cps.toList ++ ([32] ++ TL.joinL [32] ((y :: xs).map fun y => (textOf y).cps.toList)) = _
    rw [this, show (textOf x).cps.toList = flat (outD x) from tl_glue (outD x)]
    simp only [outT]
    rw [flat_cons, flat_app, show ((" " : Str)).cps.toList = [32] by decide +kernel]
theorem text_tup (xs : List D) : ("(" : Str) ++ Txt.join " " (xs.map textOf) ++ (")" : Str) = textOf (.tup xs) := by
  apply str_ext
  have e : (textOf (.tup xs)).cps.toList = flat (outD (.tup xs)) := tl_glue _
  rw [e]
  show TL.tl _ = _
  rw [TL.tl_append, TL.tl_append, TL.join_eq, TL.tl_join]
  rw [show TL.tl (" " : Str) = [32] by decide +kernel, List.map_map]
  cases xs with
  | nil =>
    simp only [outD, List.map_nil, TL.joinL, List.append_nil]
    decide +kernel
  | cons x xs =>
    have j := joinL_out x xs
    have j2 : TL.joinL [32] (List.map (TL.tl ∘ textOf) (x :: xs)) = flat (outD x) ++ flat (outT xs) := j
    rw [j2]
    simp only [outD]
    rw [flat_cons, flat_app, flat_app]
    simp [flat]
theorem sum_text : ∀ xs : List D, ((xs.map textOf).map (·.length)).sum + xs.length ≤ muT xs
  | [] => by simp [muT]
  | x :: xs => by
    have := sum_text xs
    have := text_len x
    simp only [List.map_cons, List.sum_cons, List.length_cons, muT]
    omega
theorem run_lvt : ∀ (k : Nat) (x : D), rd x = true → mu x < 900000 → dp x ≤ k → ∀ h, ∃ h', AR.run prog (k + 1) 15 [.d x] [] h = .ok (.d (.str (textOf x))) h' ∧ Keep h h' := by
  intro k x r hm hd h
  rw [run_def (d := ⟨1, 0, 2, i__law_value_text⟩) rfl rfl rfl]
  show ∃ h', finish (execs (AR.run prog k) i__law_value_text [some (.d x), none] h) = _ ∧ _
  cases x with
  | bl b => simp [rd] at r
  | ref n => simp [rd] at r
  | non => 
    refine ⟨h, ?_, Keep.refl _⟩
    rw [show textOf .non = "-" by unfold textOf; simp only [outD]; exact text_one _]
    rfl
  | str s =>
    refine ⟨h, ?_, Keep.refl _⟩
    rw [show textOf (.str s) = s by unfold textOf; simp only [outD]; exact text_one _]
    rfl
  | int i =>
    refine ⟨h, ?_, Keep.refl _⟩
    rw [show textOf (.int i) = Str.ofString (toString i) by unfold textOf; simp only [outD]; exact text_one _]
    simp only [rd, decide_eq_true_eq] at r
    have ds : dStr h (.int i) = .ok (.str (toString i)) h := by
      show (if i.natAbs.log2 < 1920 then R.ok (D.str (toString i)) h else .stuck) = _
      rw [if_pos r]
    have e1 : isiD h (.int i) [.tuple] = some false := rfl
    unfold i__law_value_text
    simp only [execs_cons, exec_ifs, exec_ret, evE_ite, evE_op, evEs_cons, evEs_nil, evE_v, evE_c, getV, List.getElem?_cons_succ, List.getElem?_cons_zero, R.bind_ok, or1, or2, op, a1, a2, e1, isNonD, asB, toSV_ok, truth_ok, R.st_ok, Bool.false_eq_true, if_false, if_pos, execs_nil, seq_nx, ds, seq_rt, fin_rt]
  | tup xs =>
    cases k with
    | zero => simp only [dp] at hd; omega
    | succ k =>
      simp only [rd] at r
      have tt := text_tup xs
      have tm := text_len (.tup xs)
      simp only [mu] at hm tm
      simp only [dp] at hd
      have ml := muT_len xs
      have st := sum_text xs
      have sb := sizeLine_big
      have fp := fuel_pos.2
      have e1 : isiD h (.tup xs) [.tuple] = some true := rfl
      obtain ⟨h', q1, q2, q3, _⟩ := lcGo_run (get := fun h i => (AR.It.tup xs).at h i) (n := h.length) (items := xs) (f := fun x => some (.str (textOf x)))
        (body := lcTurn (.nm 1) (wipeE (([some (.d (.tup xs)), none] : AR.Env).map dOnly) [1]) (fun env h => truth (evE (AR.run prog (k + 1)) (.c (.bl true)) env h)) fun env h => evE (AR.run prog (k + 1)) (.call 15 [(.v 1)]) env h) (fun _ => True)
        (fun h i _ => rfl)
        (fun x hx h _ => by
          have mx := mu_at hx
          have dx := dpS_at hx
          obtain ⟨h2, w1, w2⟩ := run_lvt k x (rdS_at r hx) (by omega) (by omega) h
          refine ⟨h2, ?_, w2, trivial⟩
          unfold lcTurn
          have st : setT (.nm 1) x (wipeE (([some (.d (.tup xs)), none] : AR.Env).map dOnly) [1]) = some [some (.d (.tup xs)), some (.d x)] := rfl
          rw [st]
          simp only [evE_c, evE_call, evEs_cons, evEs_nil, evE_v, getV, List.getElem?_cons_succ, List.getElem?_cons_zero, R.bind_ok, w1, truth_ok, if_pos, lcEl])
        (fun _ _ _ => trivial) xs.length fuelW 0 (h ++ [.lst []]) [] (by simp) (by omega) trivial (at_new h _) (by simp; omega)
      refine ⟨h', ?_, q3.old⟩
      have fm : xs.filterMap (fun x => some (D.str (textOf x))) = (xs.map textOf).map D.str := by
        rw [List.map_map]
        clear q2 q1 q3 e1 st tt tm hm hd ml r
        induction xs with
        | nil => rfl
        | cons x xs ih => simp
      rw [List.drop_zero, fm, List.nil_append] at q2
      unfold i__law_value_text
      rw [execs_cons, exec_ifs, evE_op, evEs_cons, evE_v]
      simp only [getV, List.getElem?_cons_succ, List.getElem?_cons_zero, R.bind_ok, evEs_nil, or1, op, a1, e1, asB, toSV_ok, truth_ok, R.st_ok, if_pos]
      rw [execs_cons, exec_ret, evE_op, evEs_cons, evE_op, evEs_cons, evE_c, R.bind_ok, evEs_cons, evE_meth, evE_c]
      simp only [R.bind_ok, methRun, tyOf, if_pos]
      rw [evEs_cons, evE_lc, evEs_cons, evE_v]
      simp only [getV, List.getElem?_cons_succ, List.getElem?_cons_zero, R.bind_ok, evEs_nil]
      unfold lcRun
      simp only [allD, Option.map_some, itOf, i1, itSeq]
      rw [q1]
      have l1 := congrArg Str.length tt
      rw [Str.length_append, Str.length_append] at l1
      simp only [toSV_ok, R.bind_ok, evEs_nil, opRun, allD, Option.map_some, op, a2, dJoin, seqOf, q2, txts_map]
      rw [if_pos (by rw [len_gap, List.length_map]; omega)]
      simp only [toSV_ok, R.bind_ok, evEs_cons, evE_c, evEs_nil, opRun, allD, Option.map_some, op, a2, dAdd]
      rw [if_pos (by omega)]
      simp only [toSV_ok, R.bind_ok, evEs_cons, evE_c, evEs_nil, opRun, allD, Option.map_some, op, a2, dAdd]
      rw [if_pos (by rw [Str.length_append]; omega), tt]
      rfl
end K88
end AR
end
section
set_option Elab.async false
set_option linter.all false
set_option maxRecDepth 100000
set_option maxHeartbeats 4000000
namespace AR
namespace K88
open PySem L2 PySem.Spec PyProof.Rows
/-! ## _law_word: what an action tells -/
abbrev d_text0 : D := .tup [.str "text", .int 0]
theorem caught_exc {n l t : Nat} {caps : List SV} {h : Hm} (ht : h[t]? = some (.lst [])) (act : ∀ hB, Keep h hB → ∃ h1, AR.run prog (n + 1) l [] caps hB = .exc e_text h1 ∧ Keep hB h1) :
    ∃ h' e, AR.run prog (n + 3) 13 [.clo 20 [.clo l caps, .d (.ref t)]] [] h = .ok (.d (.ref e)) h' ∧ h'[e]? = some (.exc 18 [("line", .int 0)]) ∧ Keep h h' := by
  rw [run_def (d := ⟨1, 0, 3, i__law_caught⟩) rfl rfl rfl]
  show ∃ h' e, finish (execs (AR.run prog (n + 2)) i__law_caught [some (.clo 20 [.clo l caps, .d (.ref t)]), none, none] h) = _ ∧ _
  have kB := Keep.app h [HOb.lst []]
  obtain ⟨h1, ac1, ac2⟩ := act _ kB
  have k1 := Keep.app h1 [HOb.exc 18 [("line", .int 0)]]
  have lamE : AR.run prog (n + 2) 20 [] [.clo l caps, .d (.ref t)] (h ++ [HOb.lst []]) = .exc e_text h1 := by
    rw [run_def (d := ⟨0, 2, 2, [.ret i_20]⟩) rfl rfl rfl]
    show finish (execs (AR.run prog (n + 1)) [.ret i_20] [some (.clo l caps), some (.d (.ref t))] (h ++ [HOb.lst []])) = _
    unfold i_20
    rw [execs_cons, exec_ret, evE_meth, evE_v]
    simp only [getV, List.getElem?_cons_succ, List.getElem?_cons_zero, R.bind_ok, methRun, tyOf, kB _ _ ht, if_pos, evEs_cons, evE_callv, evEs_nil, getC, callC, ac1, R.bind_exc, R.st_exc, seq_exc, fin_exc]
  have lt : h.length < h1.length := by have := ac2.len; simp at this; omega
  have hf : (h1 ++ [HOb.exc 18 [("line", .int 0)]])[h.length]? = some (.lst []) := k1 _ _ (ac2 _ _ (at_new _ _))
  refine ⟨(h1 ++ [HOb.exc 18 [("line", .int 0)]]).set h.length (HOb.lst [.ref h1.length]), h1.length, ?_, ?_, ?_⟩
  · unfold i__law_caught
    rw [execs_cons, exec_asg, evE_op, evEs_nil]
    simp only [R.bind_ok, or0, op, newL_ok h [] (by simp), toSV_ok, R.st_ok]
    have as : asgRun (.nm 1) [some (.clo 20 [.clo l caps, .d (.ref t)]), none, none] (.d (.ref h.length)) (h ++ [HOb.lst []]) = .nx [some (.clo 20 [.clo l caps, .d (.ref t)]), some (.d (.ref h.length)), none] (h ++ [HOb.lst []]) := rfl
    rw [as, seq_nx, execs_cons, exec_try, execs_cons, exec_expr, evE_callv]
    simp only [evEs_nil, R.bind_ok, getC, List.getElem?_cons_zero, callC, lamE, R.st_exc, seq_exc]
    have tr : ∀ (env : AR.Env) (hs : AR.Env → Hm → RS), tryRun (.exc e_text env h1) kt_AllError 2 hs = tryEnd 2 (hs (env.set 2 (some (.d (.ref h1.length)))) (h1 ++ [HOb.exc 18 [("line", .int 0)]])) := fun _ _ => rfl
    have es : (([some (.clo 20 [.clo l caps, .d (.ref t)]), some (.d (.ref h.length)), none] : AR.Env).set 2 (some (.d (.ref h1.length)))) = [some (.clo 20 [.clo l caps, .d (.ref t)]), some (.d (.ref h.length)), some (.d (.ref h1.length))] := rfl
    rw [tr, es, execs_cons, exec_expr, evE_meth, evE_v]
    have sb := sizeLine_big
    simp only [getV, List.getElem?_cons_succ, List.getElem?_cons_zero, R.bind_ok, methRun, tyOf, hf, if_pos, evEs_cons, evEs_nil, evE_v, opRun, allD, Option.map_some, op, a2, dAppend, List.length_nil]
    rw [if_pos (by omega)]
    simp only [toSV_ok, R.st_ok, List.nil_append, execs_nil, seq_nx, tryEnd]
    have es2 : (([some (.clo 20 [.clo l caps, .d (.ref t)]), some (.d (.ref h.length)), some (.d (.ref h1.length))] : AR.Env).set 2 none) = [some (.clo 20 [.clo l caps, .d (.ref t)]), some (.d (.ref h.length)), none] := rfl
    rw [es2, execs_cons, exec_ret, evE_ite, evE_op, evEs_cons, evE_v]
    have i0 : atI [D.ref h1.length] 0 = some (.ref h1.length) := atI_nat [D.ref h1.length] 0 (by simp)
    simp only [getV, List.getElem?_cons_succ, List.getElem?_cons_zero, R.bind_ok, evEs_nil, or1, op, a1, nilD, at_set hf, Option.map_some, List.isEmpty_cons, Bool.not_false, asB, toSV_ok, truth_ok, if_pos, evE_op, evEs_cons, evE_v, evE_c, or2, a2, dIx, dIxR, i0, okO, id, R.st_ok, seq_rt, fin_rt]
  · rw [List.getElem?_set_ne (by omega)]
    exact at_new _ _
  · exact keep_set ((kB.trans ac2).trans k1) (Nat.le_refl _)
theorem caught_ok {n l t : Nat} {caps : List SV} {h : Hm} {x : D} (ht : h[t]? = some (.lst [])) (act : ∀ hB, Keep h hB → ∃ h1, AR.run prog (n + 1) l [] caps hB = .ok (.d x) h1 ∧ Keep hB h1) :
    ∃ h', AR.run prog (n + 3) 13 [.clo 20 [.clo l caps, .d (.ref t)]] [] h = .ok (.d .non) h' ∧ h'[t]? = some (.lst [x]) ∧ KeepBut t h h' := by
  rw [run_def (d := ⟨1, 0, 3, i__law_caught⟩) rfl rfl rfl]
  show ∃ h', finish (execs (AR.run prog (n + 2)) i__law_caught [some (.clo 20 [.clo l caps, .d (.ref t)]), none, none] h) = _ ∧ _
  have kB := Keep.app h [HOb.lst []]
  obtain ⟨h1, ac1, ac2⟩ := act _ kB
  have sb := sizeLine_big
  have tl : t < h.length := (List.getElem?_eq_some_iff.mp ht).1
  have h1t : h1[t]? = some (.lst []) := ac2 _ _ (kB _ _ ht)
  have lamE : AR.run prog (n + 2) 20 [] [.clo l caps, .d (.ref t)] (h ++ [HOb.lst []]) = .ok (.d .non) (h1.set t (HOb.lst [x])) := by
    rw [run_def (d := ⟨0, 2, 2, [.ret i_20]⟩) rfl rfl rfl]
    show finish (execs (AR.run prog (n + 1)) [.ret i_20] [some (.clo l caps), some (.d (.ref t))] (h ++ [HOb.lst []])) = _
    unfold i_20
    rw [execs_cons, exec_ret, evE_meth, evE_v]
    simp only [getV, List.getElem?_cons_succ, List.getElem?_cons_zero, R.bind_ok, methRun, tyOf, kB _ _ ht, if_pos, evEs_cons, evE_callv, evEs_nil, getC, callC, ac1, opRun, allD, Option.map_some, op, a2, dAppend, h1t, List.length_nil]
    rw [if_pos (by omega)]
    rfl
  have hf : (h1.set t (HOb.lst [x]))[h.length]? = some (.lst []) := by
    rw [List.getElem?_set_ne (by omega)]
    exact ac2 _ _ (at_new _ _)
  refine ⟨h1.set t (HOb.lst [x]), ?_, at_set h1t, ((kB.trans ac2).but t).trans (KeepBut.set _ _ _)⟩
  unfold i__law_caught
  rw [execs_cons, exec_asg, evE_op, evEs_nil]
  simp only [R.bind_ok, or0, op, newL_ok h [] (by simp), toSV_ok, R.st_ok]
  have as : asgRun (.nm 1) [some (.clo 20 [.clo l caps, .d (.ref t)]), none, none] (.d (.ref h.length)) (h ++ [HOb.lst []]) = .nx [some (.clo 20 [.clo l caps, .d (.ref t)]), some (.d (.ref h.length)), none] (h ++ [HOb.lst []]) := rfl
  rw [as, seq_nx, execs_cons, exec_try, execs_cons, exec_expr, evE_callv]
  simp only [evEs_nil, R.bind_ok, getC, List.getElem?_cons_zero, callC, lamE, R.st_ok, execs_nil, seq_nx, tryRun]
  rw [execs_cons, exec_ret, evE_ite, evE_op, evEs_cons, evE_v]
  simp only [getV, List.getElem?_cons_succ, List.getElem?_cons_zero, R.bind_ok, evEs_nil, or1, op, a1, nilD, hf, Option.map_some, List.isEmpty_nil, Bool.not_true, asB, toSV_ok, truth_ok, Bool.false_eq_true, if_false, evE_c, R.st_ok, seq_rt, fin_rt]
theorem told_exc {n l : Nat} {caps : List SV} {h : Hm} (act : ∀ hB, Keep h hB → ∃ h1, AR.run prog (n + 1) l [] caps hB = .exc e_text h1 ∧ Keep hB h1) :
    ∃ h', AR.run prog (n + 4) 14 [.clo l caps] [] h = .ok (.d d_text0) h' ∧ Keep h h' := by
  rw [run_def (d := ⟨1, 0, 7, i__law_word⟩) rfl rfl rfl]
  show ∃ h', finish (execs (AR.run prog (n + 3)) i__law_word [some (.clo l caps), none, none, none, none, none, none] h) = _ ∧ _
  have kA := Keep.app h [HOb.lst []]
  obtain ⟨h', e, c1, c2, c3⟩ := caught_exc (n := n) (l := l) (caps := caps) (at_new h (HOb.lst [])) (fun hB k => act hB (kA.trans k))
  refine ⟨h', ?_, kA.trans c3⟩
  unfold i__law_word
  rw [execs_cons, exec_asg, evE_op, evEs_nil]
  simp only [R.bind_ok, or0, op, newL_ok h [] (by simp), toSV_ok, R.st_ok]
  have as : asgRun (.nm 1) [some (.clo l caps), none, none, none, none, none, none] (.d (.ref h.length)) (h ++ [HOb.lst []]) = .nx [some (.clo l caps), some (.d (.ref h.length)), none, none, none, none, none] (h ++ [HOb.lst []]) := rfl
  rw [as, seq_nx, execs_cons, exec_asg, evE_callL]
  have mo : mapO (fun j => (([some (.clo l caps), some (.d (.ref h.length)), none, none, none, none, none] : AR.Env)[j]?).join) [0, 1] = some [.clo l caps, .d (.ref h.length)] := rfl
  rw [mo]
  simp only [lamRun, c1, R.st_ok]
  have as2 : asgRun (.nm 2) [some (.clo l caps), some (.d (.ref h.length)), none, none, none, none, none] (.d (.ref e)) h' = .nx [some (.clo l caps), some (.d (.ref h.length)), some (.d (.ref e)), none, none, none, none] h' := rfl
  rw [as2, seq_nx, execs_cons, exec_ifs, evE_op, evEs_cons, evE_v]
  simp only [getV, List.getElem?_cons_succ, List.getElem?_cons_zero, R.bind_ok, evEs_nil, or1, op, a1, isNonD, toSV_ok, truth_ok, R.st_ok, Bool.false_eq_true, if_false, execs_nil, seq_nx]
  have u1 : isErrD h' k_Used (.ref e) = some false := by simp only [isErrD, c2]; rfl
  have u2 : isErrD h' k_TooMany (.ref e) = some false := by simp only [isErrD, c2]; rfl
  have u3 : isErrD h' k_NoText (.ref e) = some true := by simp only [isErrD, c2]; rfl
  rw [execs_cons, exec_ifs, evE_op, evEs_cons, evE_v]
  simp only [getV, List.getElem?_cons_succ, List.getElem?_cons_zero, R.bind_ok, evEs_nil, or1, op, a1, u1, asB, toSV_ok, truth_ok, R.st_ok, Bool.false_eq_true, if_false, execs_nil, seq_nx]
  rw [execs_cons, exec_ifs, evE_op, evEs_cons, evE_v]
  simp only [getV, List.getElem?_cons_succ, List.getElem?_cons_zero, R.bind_ok, evEs_nil, or1, op, a1, u2, asB, toSV_ok, truth_ok, R.st_ok, Bool.false_eq_true, if_false, execs_nil, seq_nx]
  rw [execs_cons, exec_ifs, evE_op, evEs_cons, evE_v]
  simp only [getV, List.getElem?_cons_succ, List.getElem?_cons_zero, R.bind_ok, evEs_nil, or1, op, a1, u3, asB, toSV_ok, truth_ok, R.st_ok, if_pos]
  rw [execs_cons, exec_ret, evE_op, evEs_cons, evE_c, R.bind_ok, evEs_cons, evE_op, evEs_cons, evE_v]
  have fl : dFld "line" [18] h' (.ref e) = .ok (.int 0) h' := by simp only [dFld, c2]; rfl
  have sb := sizeLine_big
  simp only [getV, List.getElem?_cons_succ, List.getElem?_cons_zero, R.bind_ok, evEs_nil, or1, op, a1, fl, toSV_ok, or2, newT]
  rw [if_pos (by simp; omega)]
  rfl
theorem told_ok {n l : Nat} {caps : List SV} {h : Hm} {x : D} (act : ∀ hB, Keep h hB → ∃ h1, AR.run prog (n + 1) l [] caps hB = .ok (.d x) h1 ∧ Keep hB h1) :
    ∃ h', AR.run prog (n + 4) 14 [.clo l caps] [] h = .ok (.d x) h' ∧ Keep h h' := by
  rw [run_def (d := ⟨1, 0, 7, i__law_word⟩) rfl rfl rfl]
  show ∃ h', finish (execs (AR.run prog (n + 3)) i__law_word [some (.clo l caps), none, none, none, none, none, none] h) = _ ∧ _
  have kA := Keep.app h [HOb.lst []]
  obtain ⟨h', c1, c2, c3⟩ := caught_ok (n := n) (l := l) (caps := caps) (x := x) (at_new h (HOb.lst [])) (fun hB k => act hB (kA.trans k))
  refine ⟨h', ?_, KeepBut.old c3⟩
  unfold i__law_word
  rw [execs_cons, exec_asg, evE_op, evEs_nil]
  simp only [R.bind_ok, or0, op, newL_ok h [] (by simp), toSV_ok, R.st_ok]
  have as : asgRun (.nm 1) [some (.clo l caps), none, none, none, none, none, none] (.d (.ref h.length)) (h ++ [HOb.lst []]) = .nx [some (.clo l caps), some (.d (.ref h.length)), none, none, none, none, none] (h ++ [HOb.lst []]) := rfl
  rw [as, seq_nx, execs_cons, exec_asg, evE_callL]
  have mo : mapO (fun j => (([some (.clo l caps), some (.d (.ref h.length)), none, none, none, none, none] : AR.Env)[j]?).join) [0, 1] = some [.clo l caps, .d (.ref h.length)] := rfl
  rw [mo]
  simp only [lamRun, c1, R.st_ok]
  have as2 : asgRun (.nm 2) [some (.clo l caps), some (.d (.ref h.length)), none, none, none, none, none] (.d .non) h' = .nx [some (.clo l caps), some (.d (.ref h.length)), some (.d .non), none, none, none, none] h' := rfl
  have i0 : atI [x] 0 = some x := atI_nat [x] 0 (by simp)
  rw [as2, seq_nx, execs_cons, exec_ifs, evE_op, evEs_cons, evE_v]
  simp only [getV, List.getElem?_cons_succ, List.getElem?_cons_zero, R.bind_ok, evEs_nil, or1, op, a1, isNonD, toSV_ok, truth_ok, R.st_ok, if_pos, execs_cons, exec_ret, evE_op, evEs_cons, evE_v, evE_c, or2, a2, dIx, dIxR, c2, i0, okO, id, seq_rt, fin_rt]
end K88
end AR
end
section
set_option Elab.async false
set_option linter.all false
set_option maxRecDepth 100000
set_option maxHeartbeats 4000000
namespace AR
namespace K88
open PySem L2 PySem.Spec PyProof.Rows
/-! ## _law_nested -/
theorem itOf_rng {k : Nat} {h : Hm} (hk : k < 100000) : itOf .rng [.int k] h = some (.rng 0 k) := by
  simp only [itOf, itRng1]
  rw [if_pos (by constructor <;> omega)]
  simp only [Int.toNat_natCast]
theorem allD_map : ∀ l : List D, allD (l.map SV.d) = some l
  | [] => rfl
  | x :: l => by simp [allD, allD_map l]
theorem for_run {K : Nat → List SV → List SV → Hm → R SV} {t : T} {w : W} {it : List E} {b : List S} {env : AR.Env} {h h1 : Hm} {xs : List D} {j : AR.It} (e1 : evEs K it env h = .ok (xs.map SV.d) h1) (e2 : itOf w xs h1 = some j) : exec K (.for t w it b) env h = forGo (fun h i => j.at h i) t (fun env h => execs K b env h) fuelW 0 env h1 := by
  rw [exec_for, e1, R.st_ok]
  unfold forRun
  rw [allD_map]
  simp only
  rw [e2]
theorem lc_run {K : Nat → List SV → List SV → Hm → R SV} {t : T} {own : List Nat} {w : W} {it : List E} {cond elt : E} {env : AR.Env} {h h1 : Hm} {xs : List D} {j : AR.It} (e1 : evEs K it env h = .ok (xs.map SV.d) h1) (e2 : itOf w xs h1 = some j) : evE K (.lc t own w it cond elt) env h = toSV (lcGo (fun h i => j.at h i) (lcTurn t (wipeE (env.map dOnly) own) (fun env h => truth (evE K cond env h)) fun env h => evE K elt env h) h1.length fuelW 0 (h1 ++ [.lst []])) := by
  rw [evE_lc, e1, R.bind_ok]
  unfold lcRun
  rw [allD_map]
  simp only
  rw [e2]

def nestD : Nat → D → D
  | 0, d => d
  | k + 1, d => .tup [nestD k d]
theorem rng_at {h : Hm} (k i : Nat) : (AR.It.rng 0 k).at h i = some (((List.range k).map fun j : Nat => D.int j)[i]?) := by
  unfold AR.It.at
  rw [Int.zero_add, List.getElem?_map]
  by_cases lt : i < k
  · rw [if_pos lt, List.getElem?_range lt]; rfl
  · rw [if_neg lt, List.getElem?_eq_none (by simp; omega)]; rfl
theorem run_nested {n k : Nat} {d : D} {h : Hm} (hk : k < 1000) : AR.run prog (n + 1) 18 [.d (.int k), .d d] [] h = .ok (.d (nestD k d)) h := by
  rw [run_def (d := ⟨2, 0, 3, i__law_nested⟩) rfl rfl rfl]
  show finish (execs (AR.run prog n) i__law_nested [some (.d (.int k)), some (.d d), none] h) = _
  have fp := fuel_pos.2
  have sb := sizeLine_big
  obtain ⟨env', h', q1, e2, q2, q3⟩ := forGo_run (get := fun h i => (AR.It.rng 0 k).at h i) (t := .nm 2) (b := fun env h => execs (AR.run prog n) [(.asg (.nm 1) (.op .tup [(.v 1)]))] env h) (items := (List.range k).map fun j : Nat => D.int j)
    (fun i env h' => ∃ e2, env = [some (.d (.int k)), some (.d (nestD i d)), e2] ∧ h' = h)
    (fun i env h _ => rng_at k i)
    (fun i env h' x hi hx => by
      obtain ⟨e2, rfl, rfl⟩ := hi
      refine ⟨[some (.d (.int k)), some (.d (nestD i d)), some (.d x)], [some (.d (.int k)), some (.d (nestD (i + 1) d)), some (.d x)], h', rfl, Or.inl ?_, some (.d x), rfl, rfl⟩
      simp only [execs_cons, exec_asg, evE_op, evEs_cons, evEs_nil, evE_v, getV, List.getElem?_cons_succ, List.getElem?_cons_zero, R.bind_ok, or1, op, newT]
      rw [if_pos (by simp; omega)]
      rfl) k fuelW 0 [some (.d (.int k)), some (.d d), none] h (by simp) (by omega) ⟨none, rfl, rfl⟩
  unfold i__law_nested
  rw [execs_cons, for_run (xs := [.int k]) (by rfl) (itOf_rng (by omega)), q1, q2, q3, seq_nx]
  simp only [List.length_map, List.length_range]
  rfl
end K88
end AR
end
section
set_option Elab.async false
set_option linter.all false
set_option maxRecDepth 100000
set_option maxHeartbeats 4000000
namespace AR
namespace K88
open PySem L2 PySem.Spec PyProof.Rows
/-! ## the law's draws: the state -/
abbrev stD (g c : Nat) (rest turn : Int) : HOb := .dct [(.inr "great", .ref g), (.inr "cells", .ref c), (.inr "rest", .int rest), (.inr "turn", .int turn)]
theorem kn1 : (("great" : Str) = "cells") = False := by simp only [eq_iff_iff, iff_false]; decide +kernel
theorem kn2 : (("great" : Str) = "rest") = False := by simp only [eq_iff_iff, iff_false]; decide +kernel
theorem kn3 : (("great" : Str) = "turn") = False := by simp only [eq_iff_iff, iff_false]; decide +kernel
theorem kn4 : (("cells" : Str) = "rest") = False := by simp only [eq_iff_iff, iff_false]; decide +kernel
theorem kn5 : (("cells" : Str) = "turn") = False := by simp only [eq_iff_iff, iff_false]; decide +kernel
theorem kn6 : (("rest" : Str) = "turn") = False := by simp only [eq_iff_iff, iff_false]; decide +kernel
theorem kn7 : (("turn" : Str) = "rest") = False := by simp only [eq_iff_iff, iff_false]; decide +kernel
theorem ix_great {h : Hm} {s g c : Nat} {r t : Int} (e : h[s]? = some (stD g c r t)) : dIx h (.ref s) (.str "great") = .ok (.ref g) h := by
  have v : valD [(.inr "great", .ref g), (.inr "cells", .ref c), (.inr "rest", .int r), (.inr "turn", .int t)] (.inr "great") = some (D.ref g) := by simp [valD]
  simp only [dIx, dIxR, e, keyOf, v, okO, id]
theorem ix_cells {h : Hm} {s g c : Nat} {r t : Int} (e : h[s]? = some (stD g c r t)) : dIx h (.ref s) (.str "cells") = .ok (.ref c) h := by
  have v : valD [(.inr "great", .ref g), (.inr "cells", .ref c), (.inr "rest", .int r), (.inr "turn", .int t)] (.inr "cells") = some (D.ref c) := by simp [valD, kn1]
  simp only [dIx, dIxR, e, keyOf, v, okO, id]
theorem ix_rest {h : Hm} {s g c : Nat} {r t : Int} (e : h[s]? = some (stD g c r t)) : dIx h (.ref s) (.str "rest") = .ok (.int r) h := by
  have v : valD [(.inr "great", .ref g), (.inr "cells", .ref c), (.inr "rest", .int r), (.inr "turn", .int t)] (.inr "rest") = some (D.int r) := by simp [valD, kn2, kn4]
  simp only [dIx, dIxR, e, keyOf, v, okO, id]
theorem ix_turn {h : Hm} {s g c : Nat} {r t : Int} (e : h[s]? = some (stD g c r t)) : dIx h (.ref s) (.str "turn") = .ok (.int t) h := by
  have v : valD [(.inr "great", .ref g), (.inr "cells", .ref c), (.inr "rest", .int r), (.inr "turn", .int t)] (.inr "turn") = some (D.int t) := by simp [valD, kn3, kn5, kn6]
  simp only [dIx, dIxR, e, keyOf, v, okO, id]
theorem set_turn {h : Hm} {s g c : Nat} {r t : Int} (e : h[s]? = some (stD g c r t)) (z : Int) : setIx h (.ref s) (.str "turn") (.int z) = some (h.set s (stD g c r z)) := by
  have v : putD [(.inr "great", .ref g), (.inr "cells", .ref c), (.inr "rest", .int r), (.inr "turn", .int t)] (.inr "turn") (.int z) = [(.inr "great", .ref g), (.inr "cells", .ref c), (.inr "rest", .int r), (.inr "turn", D.int z)] := by simp [putD, kn3, kn5, kn6]
  have sb := sizeLine_big
  simp only [setIx, setIxR, e, keyOf, v]
  rw [if_pos (by simp; omega)]
theorem set_rest {h : Hm} {s g c : Nat} {r t : Int} (e : h[s]? = some (stD g c r t)) (z : Int) : setIx h (.ref s) (.str "rest") (.int z) = some (h.set s (stD g c z t)) := by
  have v : putD [(.inr "great", .ref g), (.inr "cells", .ref c), (.inr "rest", .int r), (.inr "turn", .int t)] (.inr "rest") (.int z) = [(.inr "great", .ref g), (.inr "cells", .ref c), (.inr "rest", D.int z), (.inr "turn", D.int t)] := by simp [putD, kn2, kn4, kn7]
  have sb := sizeLine_big
  simp only [setIx, setIxR, e, keyOf, v]
  rw [if_pos (by simp; omega)]
structure St (s g c : Nat) (cells : List Int) (T : Nat) (h : Hm) : Prop where
  d : ∃ (gs : List Int) (rest turn : Int), h[s]? = some (stD g c rest turn) ∧ h[g]? = some (.lst (gs.map D.int)) ∧ 0 ≤ turn ∧ turn ≤ T
  cl : h[c]? = some (.lst (cells.map D.int))
  sg : s ≠ g
  sc : s ≠ c
  gc : g ≠ c
theorem St.grow {s g c : Nat} {cells : List Int} {T T' : Nat} {h h' : Hm} (v : St s g c cells T h) (k : Keep h h') (le : T ≤ T') : St s g c cells T' h' := by
  obtain ⟨gs, r, t, e1, e2, e3, e4⟩ := v.d
  exact ⟨⟨gs, r, t, k _ _ e1, k _ _ e2, e3, by omega⟩, k _ _ v.cl, v.sg, v.sc, v.gc⟩
theorem St.set {s g c n : Nat} {cells : List Int} {T : Nat} {h : Hm} (v : St s g c cells T h) (o : HOb) (n1 : n ≠ s) (n2 : n ≠ g) (n3 : n ≠ c) : St s g c cells T (h.set n o) := by
  obtain ⟨gs, r, t, e1, e2, e3, e4⟩ := v.d
  exact ⟨⟨gs, r, t, by rw [List.getElem?_set_ne n1]; exact e1, by rw [List.getElem?_set_ne n2]; exact e2, e3, by omega⟩, by rw [List.getElem?_set_ne n3]; exact v.cl, v.sg, v.sc, v.gc⟩
theorem log2_lt {n k : Nat} (h : n < 2 ^ k) (hk : 0 < k) : n.log2 < k := by
  by_cases z : n = 0
  · subst z; simpa using hk
  · exact (Nat.log2_lt z).mpr h
theorem dMul_ok {h : Hm} {i j : Int} (hi : i.natAbs.log2 < 500000) (hj : j.natAbs.log2 < 500000) : dMul h (.int i) (.int j) = .ok (.int (i * j)) h := by
  show (if i.natAbs.log2 + j.natAbs.log2 < 1000000 then R.ok (D.int (i * j)) h else .stuck) = _
  rw [if_pos (by omega)]
theorem dMod_ok {h : Hm} {i j : Int} (hj : 0 < j) : dMod h (.int i) (.int j) = .ok (.int (i.fmod j)) h := by
  show (if j ≠ 0 then R.ok (D.int (i.fmod j)) h else .stuck) = _
  rw [if_pos (by omega)]
theorem dFdiv_ok {h : Hm} {i j : Int} (hj : 0 < j) (hl : j < 1073741824) : dFdiv h (.int i) (.int j) = .ok (.int (i.fdiv j)) h := by
  show (if j ≠ 0 ∧ j.natAbs < 1073741824 then R.ok (D.int (i.fdiv j)) h else _) = _
  rw [if_pos (by omega)]
abbrev s_blend : List S := [(.asg (.nm 4) (.op .mod [(.op .int [(.op .add [(.op .add [(.op .mul [(.v 4), (.c (.int 48271))]), (.v 5)]), (.v 1)])]), (.v 3)]))]
theorem do_blend {K : Nat → List SV → List SV → Hm → R SV} {s : Nat} {t f p z y : Int} {h : Hm} (hz : z.natAbs < 2 ^ 41) (hp : 0 < p) :
    execs K s_blend [some (.d (.ref s)), some (.d (.int t)), some (.d (.int f)), some (.d (.int p)), some (.d (.int z)), some (.d (.int y))] h = .nx [some (.d (.ref s)), some (.d (.int t)), some (.d (.int f)), some (.d (.int p)), some (.d (.int ((z * 48271 + y + t).fmod p))), some (.d (.int y))] h := by
  have m : dMul h (.int z) (.int 48271) = .ok (.int (z * 48271)) h := dMul_ok (by have := log2_lt hz (by decide); omega) (by decide)
  simp only [execs_cons, exec_asg, evE_op, evEs_cons, evEs_nil, evE_v, evE_c, getV, List.getElem?_cons_succ, List.getElem?_cons_zero, R.bind_ok, or1, or2, op, a1, a2, m, toSV_ok, dAdd, dInt, dMod_ok hp, R.st_ok]
  rfl
theorem fmod_small {i p : Int} (hp : 0 < p) (hl : p < 2147483648) : (i.fmod p).natAbs < 2147483648 := by
  have a := Int.fmod_nonneg_of_pos i hp
  have b := Int.fmod_lt_of_pos i hp
  omega
abbrev s_prime : List S := [(.asg (.nm 4) (.op .add [(.op .mul [(.c (.int 69621)), (.v 1)]), (.op .fdiv [(.v 3), (.c (.int 41))])])), (.for (.nm 5) .seq [(.op .ix [(.v 0), (.c (.str "cells"))])] s_blend), (.asg (.nm 2) (.op .add [(.op .mul [(.v 2), (.c (.int 2147483659))]), (.op .mod [(.op .int [(.op .pow [(.v 4), (.c (.int 5))])]), (.v 3)])]))]
theorem do_prime {K : Nat → List SV → List SV → Hm → R SV} {s g c : Nat} {r t f p : Int} {cells : List Int} {h : Hm} {e4 e5 : Option SV} (es : h[s]? = some (stD g c r t)) (ec : h[c]? = some (.lst (cells.map D.int))) (hc : cells.length < 1000000) (ht : 0 ≤ t) (ht2 : t ≤ 1000000) (hp : 0 < p) (hp2 : p < 2147483648) (hf : f.natAbs < 2 ^ 300) :
    ∃ r' e4' e5', execs K s_prime [some (.d (.ref s)), some (.d (.int t)), some (.d (.int f)), some (.d (.int p)), e4, e5] h = .nx [some (.d (.ref s)), some (.d (.int t)), some (.d (.int (f * 2147483659 + r'))), some (.d (.int p)), e4', e5'] h ∧ r'.natAbs < 2147483648 := by
  have fp := fuel_pos.2
  have m0 : dMul h (.int 69621) (.int t) = .ok (.int (69621 * t)) h := dMul_ok (by decide) (by have := log2_lt (n := t.natAbs) (k := 41) (by omega) (by decide); omega)
  have d0 : dFdiv h (.int p) (.int 41) = .ok (.int (p.fdiv 41)) h := dFdiv_ok (by decide) (by decide)
  have b0 : (69621 * t + p.fdiv 41).natAbs < 2 ^ 41 := by
    rw [Int.fdiv_eq_ediv_of_nonneg p (by decide)]
    omega
  have first : exec K (.asg (.nm 4) (.op .add [(.op .mul [(.c (.int 69621)), (.v 1)]), (.op .fdiv [(.v 3), (.c (.int 41))])])) [some (.d (.ref s)), some (.d (.int t)), some (.d (.int f)), some (.d (.int p)), e4, e5] h = .nx [some (.d (.ref s)), some (.d (.int t)), some (.d (.int f)), some (.d (.int p)), some (.d (.int (69621 * t + p.fdiv 41))), e5] h := by
    simp only [exec_asg, evE_op, evEs_cons, evEs_nil, evE_v, evE_c, getV, List.getElem?_cons_succ, List.getElem?_cons_zero, R.bind_ok, or1, or2, op, a1, a2, m0, d0, toSV_ok, dAdd, R.st_ok]
    rfl
  have lists : evEs K [(.op .ix [(.v 0), (.c (.str "cells"))])] [some (.d (.ref s)), some (.d (.int t)), some (.d (.int f)), some (.d (.int p)), some (.d (.int (69621 * t + p.fdiv 41))), e5] h = .ok ([D.ref c].map SV.d) h := by
    simp only [evE_op, evEs_cons, evEs_nil, evE_v, evE_c, getV, List.getElem?_cons_zero, R.bind_ok, or2, op, a2, ix_cells es, toSV_ok]
    rfl
  have itc : itOf .seq [.ref c] h = some (.lst c) := by simp only [itOf, i1, itSeq, ec]
  obtain ⟨env', h', q1, z, e5', q2, q3, q4⟩ := forGo_run (get := fun h i => (AR.It.lst c).at h i) (t := .nm 5) (b := fun env h => execs K s_blend env h) (items := cells.map D.int)
    (fun i env h' => ∃ z e5', env = [some (.d (.ref s)), some (.d (.int t)), some (.d (.int f)), some (.d (.int p)), some (.d (.int z)), e5'] ∧ z.natAbs < 2 ^ 41 ∧ h' = h)
    (fun i env h' hi => by
      obtain ⟨_, _, _, _, rfl⟩ := hi
      simp only [AR.It.at, lstAt, ec, Option.map_some])
    (fun i env h' x hi hx => by
      obtain ⟨z, e5', rfl, hz, rfl⟩ := hi
      obtain ⟨y, _, rfl⟩ := List.mem_map.mp (List.mem_of_getElem? hx)
      refine ⟨[some (.d (.ref s)), some (.d (.int t)), some (.d (.int f)), some (.d (.int p)), some (.d (.int z)), some (.d (.int y))], _, h', rfl, Or.inl (do_blend hz hp), _, some (.d (.int y)), rfl, ?_, rfl⟩
      have := fmod_small (i := z * 48271 + y + t) hp hp2
      omega) cells.length fuelW 0 _ h (by simp) (by omega) ⟨_, e5, rfl, b0, rfl⟩
  subst q2
  rw [q4] at q1
  refine ⟨(z ^ 5).fmod p, some (.d (.int z)), e5', ?_, fmod_small hp hp2⟩
  have m1 : dMul h (.int f) (.int 2147483659) = .ok (.int (f * 2147483659)) h := dMul_ok (by have := log2_lt hf (by decide); omega) (by decide)
  have w1 : dPow h (.int z) (.int 5) = .ok (.int (z ^ 5)) h := by
    show (if (0 : Int) ≤ 5 ∧ (5 : Int) ≤ 1000000 ∧ z.natAbs < 2 ^ 64 then R.ok (D.int (z ^ (5 : Int).toNat)) h else .stuck) = _
    rw [if_pos (by omega)]
    rfl
  rw [execs_cons, first, seq_nx, execs_cons, for_run lists itc, q1, seq_nx]
  simp only [execs_cons, exec_asg, evE_op, evEs_cons, evEs_nil, evE_v, evE_c, getV, List.getElem?_cons_succ, List.getElem?_cons_zero, R.bind_ok, or1, or2, op, a1, a2, m1, w1, toSV_ok, dAdd, dInt, dMod_ok hp, R.st_ok]
  rfl
end K88
end AR
end
section
set_option Elab.async false
set_option linter.all false
set_option maxRecDepth 100000
set_option maxHeartbeats 4000000
namespace AR
namespace K88
open PySem L2 PySem.Spec PyProof.Rows
/-! ## the law's draws -/
abbrev primes : List D := [.int 2147483629, .int 2147483587, .int 2147483579, .int 2147483563]
theorem prime_ok {x : D} (h : x ∈ primes) : ∃ p : Int, x = .int p ∧ 0 < p ∧ p < 2147483648 := by
  simp only [primes, List.mem_cons, List.mem_nil_iff, or_false] at h
  rcases h with rfl | rfl | rfl | rfl <;> exact ⟨_, rfl, by decide, by decide⟩
theorem run_mixed {n s g c T : Nat} {cells : List Int} {h : Hm} (v : St s g c cells T h) (hc : cells.length < 1000000) (hT : T < 1000000) :
    ∃ h' z, AR.run prog (n + 1) 9 [.d (.ref s)] [] h = .ok (.d (.int z)) h' ∧ St s g c cells (T + 1) h' ∧ KeepBut s h h' := by
  obtain ⟨gs, r, t, es, eg, t1, t2⟩ := v.d
  rw [run_def (d := ⟨1, 0, 6, i__law_mixed⟩) rfl rfl rfl]
  show ∃ h' z, finish (execs (AR.run prog n) i__law_mixed [some (.d (.ref s)), none, none, none, none, none] h) = _ ∧ _
  have fp := fuel_pos.2
  have es1 : (h.set s (stD g c r (t + 1)))[s]? = some (stD g c r (t + 1)) := at_set es
  have kN := Keep.app (h.set s (stD g c r (t + 1))) [HOb.lst primes]
  have v1 : St s g c cells (T + 1) (h.set s (stD g c r (t + 1)) ++ [HOb.lst primes]) := by
    refine St.grow (T := T + 1) ⟨⟨gs, r, t + 1, es1, ?_, by omega, by omega⟩, ?_, v.sg, v.sc, v.gc⟩ kN (Nat.le_refl _)
    · rw [List.getElem?_set_ne v.sg]; exact eg
    · rw [List.getElem?_set_ne v.sc]; exact v.cl
  have eq := at_new (h.set s (stD g c r (t + 1))) (HOb.lst primes)
  have lists : evEs (AR.run prog n) [(.op .lst [(.c (.int 2147483629)), (.c (.int 2147483587)), (.c (.int 2147483579)), (.c (.int 2147483563))])] [some (.d (.ref s)), some (.d (.int (t + 1))), some (.d (.int 0)), none, none, none] (h.set s (stD g c r (t + 1))) = .ok ([D.ref (h.set s (stD g c r (t + 1))).length].map SV.d) (h.set s (stD g c r (t + 1)) ++ [HOb.lst primes]) := by
    simp only [evE_op, evEs_cons, evEs_nil, evE_c, R.bind_ok, opRun, allD, Option.map_some, op]
    rw [newL_ok _ _ (by simp)]
    rfl
  have itp : itOf .seq [.ref (h.set s (stD g c r (t + 1))).length] (h.set s (stD g c r (t + 1)) ++ [HOb.lst primes]) = some (.lst (h.set s (stD g c r (t + 1))).length) := by simp only [itOf, i1, itSeq, eq]
  obtain ⟨env', h', q1, f, e3, e4, e5, q2, q3, q4⟩ := forGo_run (get := fun h' i => (AR.It.lst (h.set s (stD g c r (t + 1))).length).at h' i) (t := .nm 3) (b := fun env h => execs (AR.run prog n) s_prime env h) (items := primes)
    (fun i env h' => ∃ f e3 e4 e5, env = [some (.d (.ref s)), some (.d (.int (t + 1))), some (.d (.int f)), e3, e4, e5] ∧ f.natAbs < 2 ^ (40 * (i + 1)) ∧ h' = h.set s (stD g c r (t + 1)) ++ [HOb.lst primes])
    (fun i env h' hi => by
      obtain ⟨_, _, _, _, _, _, rfl⟩ := hi
      simp only [AR.It.at, lstAt, eq, Option.map_some])
    (fun i env h' x hi hx => by
      obtain ⟨f, e3, e4, e5, rfl, hf, rfl⟩ := hi
      obtain ⟨p, rfl, p1, p2⟩ := prime_ok (List.mem_of_getElem? hx)
      have il : i < 4 := by have := (List.getElem?_eq_some_iff.mp hx).1; simpa using this
      have hf2 : f.natAbs < 2 ^ 300 := Nat.lt_of_lt_of_le hf (Nat.pow_le_pow_right (by decide) (by omega))
      obtain ⟨r', e4', e5', w1, w2⟩ := do_prime (K := AR.run prog n) (e4 := e4) (e5 := e5) (kN _ _ es1) v1.cl hc (by omega) (by omega) p1 p2 hf2
      refine ⟨_, _, _, rfl, Or.inl w1, _, some (.d (.int p)), e4', e5', rfl, ?_, rfl⟩
      have e : 2 ^ (40 * (i + 1 + 1)) = 2 ^ (40 * (i + 1)) * 2 ^ 40 := by rw [← Nat.pow_add]; rfl
      rw [e]
      generalize 2 ^ (40 * (i + 1)) = P at hf
      omega)
    4 fuelW 0 [some (.d (.ref s)), some (.d (.int (t + 1))), some (.d (.int 0)), none, none, none] (h.set s (stD g c r (t + 1)) ++ [HOb.lst primes]) (by simp) (by omega) ⟨0, none, none, none, rfl, by decide, rfl⟩
  subst q2
  rw [q4] at q1
  refine ⟨_, f, ?_, v1, ((KeepBut.set h s (stD g c r (t + 1))).trans (kN.but s))⟩
  unfold i__law_mixed
  rw [execs_cons, exec_par, evE_op, evEs_cons, evE_op, evEs_cons, evE_v]
  simp only [getV, List.getElem?_cons_zero, R.bind_ok, evEs_cons, evEs_nil, evE_c, or2, op, a2, ix_turn es, toSV_ok, dAdd, R.st_ok]
  have pr : parRun 1 2 [some (.d (.ref s)), none, none, none, none, none] (.d (.int (t + 1))) (.d (.int 0)) h = .nx [some (.d (.ref s)), some (.d (.int (t + 1))), some (.d (.int 0)), none, none, none] h := rfl
  rw [pr, seq_nx, execs_cons, exec_setIx]
  simp only [evE_v, evE_c, getV, List.getElem?_cons_succ, List.getElem?_cons_zero, R.st_ok, setRun, set_turn es, seq_nx]
  rw [execs_cons, for_run lists itp, q1, seq_nx]
  rfl
theorem idx0 (n : Nat) : seqIndex? 0 (n + 1) = some 0 := by
  unfold seqIndex?
  simp
theorem run_draw {n s g c T : Nat} {cells : List Int} {h : Hm} {room : Int} (v : St s g c cells T h) (hc : cells.length < 1000000) (hT : T < 1000000) (hr : 0 < room) (hr2 : room < 1073741824) :
    ∃ h' z, AR.run prog (n + 2) 10 [.d (.ref s), .d (.int room)] [] h = .ok (.d (.int z)) h' ∧ 0 ≤ z ∧ z < room ∧ St s g c cells (T + 1) h' ∧ KeepB2 s g h h' := by
  obtain ⟨gs, r, t, es, eg, t1, t2⟩ := v.d
  rw [run_def (d := ⟨2, 0, 3, i__law_draw⟩) rfl rfl rfl]
  show ∃ h' z, finish (execs (AR.run prog (n + 1)) i__law_draw [some (.d (.ref s)), some (.d (.int room)), none] h) = _ ∧ _
  have first : ∃ h1, exec (AR.run prog (n + 1)) (.ifs (.op .eq [(.op .ix [(.v 0), (.c (.str "rest"))]), (.c (.int 0))]) [(.setIx (.v 0) (.c (.str "rest")) (.ite (.op .neNil [(.op .ix [(.v 0), (.c (.str "great"))])]) (.meth .list .popAt (.op .ix [(.v 0), (.c (.str "great"))]) [(.c (.int 0))]) (.call 9 [(.v 0)])))] []) [some (.d (.ref s)), some (.d (.int room)), none] h = .nx [some (.d (.ref s)), some (.d (.int room)), none] h1 ∧ St s g c cells (T + 1) h1 ∧ KeepB2 s g h h1 := by
    rw [exec_ifs, evE_op, evEs_cons, evE_op, evEs_cons, evE_v]
    simp only [getV, List.getElem?_cons_zero, R.bind_ok, evEs_cons, evEs_nil, evE_c, or2, op, a2, ix_rest es, toSV_ok, eqP_int, asB, truth_ok, R.st_ok]
    cases (r == 0) with
    | false => exact ⟨h, rfl, v.grow (Keep.refl h) (by omega), KeepB2.refl _ _ _⟩
    | true =>
      rw [if_pos rfl]
      have nn : nilD h (.ref g) = some gs.isEmpty := by
        simp only [nilD, eg]
        cases gs <;> rfl
      cases gs with
      | nil =>
        obtain ⟨h1, z, w1, w2, w3⟩ := run_mixed (n := n) v hc hT
        obtain ⟨gs', r', t', es', eg', t1', t2'⟩ := w2.d
        refine ⟨h1.set s (stD g c z t'), ?_, ⟨⟨gs', z, t', at_set es', ?_, t1', t2'⟩, ?_, v.sg, v.sc, v.gc⟩, (KeepBut.b2l w3 g).trans (KeepBut.b2l (KeepBut.set _ _ _) g)⟩
        · rw [execs_cons, exec_setIx, evE_ite, evE_op, evEs_cons, evE_op, evEs_cons, evE_v]
          simp only [getV, List.getElem?_cons_zero, R.bind_ok, evEs_cons, evEs_nil, evE_c, or1, or2, op, a1, a2, ix_great es, toSV_ok, nn, Option.map_some, List.isEmpty_nil, Bool.not_true, asB, truth_ok, Bool.false_eq_true, if_false, evE_call, evE_v, w1, R.st_ok, setRun, set_rest es', execs_nil, seq_nx]
        · rw [List.getElem?_set_ne v.sg]; exact eg'
        · rw [List.getElem?_set_ne v.sc]; exact w2.cl
      | cons y ys =>
        have pa : dPopAt h (.ref g) (.int 0) = .ok (.int y) (h.set g (HOb.lst (ys.map D.int))) := by
          simp only [dPopAt, eg]
          rw [if_pos (by decide), List.map_cons, List.length_cons, idx0]
          rfl
        have es' : (h.set g (HOb.lst (ys.map D.int)))[s]? = some (stD g c r t) := by rw [List.getElem?_set_ne (Ne.symm v.sg)]; exact es
        refine ⟨(h.set g (HOb.lst (ys.map D.int))).set s (stD g c y t), ?_, ⟨⟨ys, y, t, at_set es', ?_, t1, by omega⟩, ?_, v.sg, v.sc, v.gc⟩, (KeepBut.b2r (KeepBut.set _ _ _) s).trans (KeepBut.b2l (KeepBut.set _ _ _) g)⟩
        · have tg : tyOf h (.ref g) = some .list := by simp only [tyOf, eg]
          rw [execs_cons, exec_setIx, evE_ite, evE_op, evEs_cons, evE_op, evEs_cons, evE_v]
          simp only [getV, List.getElem?_cons_zero, R.bind_ok, evEs_cons, evEs_nil, evE_c, or1, or2, op, a1, a2, ix_great es, toSV_ok, nn, Option.map_some, List.isEmpty_cons, Bool.not_false, asB, truth_ok, if_pos, evE_meth, evE_op, evE_v, methRun, tg, opRun, allD, pa, R.st_ok, setRun, set_rest es', execs_nil, seq_nx]
        · rw [List.getElem?_set_ne v.sg]; exact at_set eg
        · rw [List.getElem?_set_ne v.sc, List.getElem?_set_ne v.gc]; exact v.cl
  obtain ⟨h1, q1, q2, q3⟩ := first
  obtain ⟨gs', r', t', es', eg', t1', t2'⟩ := q2.d
  refine ⟨h1.set s (stD g c (r'.fdiv room) t'), r'.fmod room, ?_, Int.fmod_nonneg_of_pos _ hr, Int.fmod_lt_of_pos _ hr, ⟨⟨gs', _, t', at_set es', ?_, t1', t2'⟩, ?_, v.sg, v.sc, v.gc⟩, q3.trans (KeepBut.b2l (KeepBut.set _ _ _) g)⟩
  · unfold i__law_draw
    rw [execs_cons, q1, seq_nx, execs_cons, exec_asg, evE_op, evEs_cons, evE_op, evEs_cons, evE_op, evEs_cons, evE_v]
    simp only [getV, List.getElem?_cons_succ, List.getElem?_cons_zero, R.bind_ok, evEs_cons, evEs_nil, evE_v, evE_c, or1, or2, op, a1, a2, ix_rest es', toSV_ok, dInt, dMod_ok hr, R.st_ok]
    have as : asgRun (.nm 2) [some (.d (.ref s)), some (.d (.int room)), none] (.d (.int (r'.fmod room))) h1 = .nx [some (.d (.ref s)), some (.d (.int room)), some (.d (.int (r'.fmod room)))] h1 := rfl
    rw [as, seq_nx, execs_cons, exec_setIx, evE_op, evEs_cons, evE_op, evEs_cons, evE_v]
    simp only [getV, List.getElem?_cons_succ, List.getElem?_cons_zero, R.bind_ok, evEs_cons, evEs_nil, evE_v, evE_c, or1, or2, op, a1, a2, ix_rest es', toSV_ok, dFdiv_ok hr hr2, R.st_ok, setRun, set_rest es', seq_nx]
    rfl
  · rw [List.getElem?_set_ne v.sg]; exact eg'
  · rw [List.getElem?_set_ne v.sc]; exact q2.cl
theorem run_pick {n s g c T q : Nat} {cells : List Int} {xs : List D} {h : Hm} (v : St s g c cells T h) (hc : cells.length < 1000000) (hT : T < 1000000) (hq : h[q]? = some (.lst xs)) (qs : q ≠ s) (qg : q ≠ g) (h0 : 0 < xs.length) (h1 : xs.length < 1000000) :
    ∃ h' x, AR.run prog (n + 3) 11 [.d (.ref s), .d (.ref q)] [] h = .ok (.d x) h' ∧ x ∈ xs ∧ St s g c cells (T + 1) h' ∧ KeepB2 s g h h' := by
  rw [run_def (d := ⟨2, 0, 2, i__law_pick⟩) rfl rfl rfl]
  show ∃ h' x, finish (execs (AR.run prog (n + 2)) i__law_pick [some (.d (.ref s)), some (.d (.ref q))] h) = _ ∧ _
  obtain ⟨h', z, w1, w2, w3, w4, w5⟩ := run_draw (n := n) (room := (xs.length : Nat)) v hc hT (by omega) (by omega)
  have ln : dLen h (.ref q) = .ok (.int xs.length) h := by simp only [dLen, seqOf, hq]
  obtain ⟨j, rfl⟩ : ∃ j : Nat, z = j := ⟨z.toNat, by omega⟩
  have lt : j < xs.length := by omega
  have ia : atI xs (j : Int) = some xs[j] := by rw [atI_nat xs j lt]; exact List.getElem?_eq_getElem lt
  refine ⟨h', xs[j], ?_, List.getElem_mem lt, w4, w5⟩
  unfold i__law_pick
  simp only [execs_cons, exec_ret, evE_op, evEs_cons, evEs_nil, evE_v, evE_call, getV, List.getElem?_cons_succ, List.getElem?_cons_zero, R.bind_ok, or1, or2, op, a1, a2, ln, toSV_ok, w1, dIx, dIxR, w5 q _ qs qg hq, ia, okO, id, R.st_ok, seq_rt, fin_rt]
end K88
end AR
end
section
set_option Elab.async false
set_option linter.all false
set_option maxRecDepth 100000
set_option maxHeartbeats 4000000
namespace AR
namespace K88
open PySem L2 PySem.Spec PyProof.Rows
/-! ## drawn values -/
abbrev atomsW : List D := [.str "a", .str "on", .str "zz", .str "entry", .str "abcdefghijklm"]
abbrev atomsI : List D := [.int 0, .int 1, .int (0 - 1), .int 7, .int (0 - 42), .int 999999999999, .int (0 - 999999999999)]
inductive Dv : Nat → D → Prop
  | w {k : Nat} {x : D} (h : x ∈ atomsW) : Dv k x
  | i {k : Nat} {x : D} (h : x ∈ atomsI) : Dv k x
  | non {k : Nat} : Dv k .non
  | tup {k : Nat} {xs : List D} (l : xs.length ≤ 3) (h : ∀ x ∈ xs, Dv k x) : Dv (k + 1) (.tup xs)
def cnt : Nat → Nat
  | 0 => 2
  | k + 1 => 2 + 3 * cnt k
theorem cnt_two : ∀ k, 2 ≤ cnt k
  | 0 => Nat.le_refl _
  | k + 1 => by simp only [cnt]; omega
theorem lcGo_draw {body : D → Hm → R (Option D)} {s g c n0 m cn : Nat} {cells : List Int} {P : D → Prop} (ns : n0 ≠ s) (ng : n0 ≠ g) (nc : n0 ≠ c) (hb : ∀ (i T : Nat) (h : Hm), i < m → St s g c cells T h → T + cn < 1000000 → ∃ h' y, body (.int i) h = .ok (some y) h' ∧ P y ∧ St s g c cells (T + cn) h' ∧ KeepB2 s g h h') :
    ∀ (r fuel i T : Nat) (h : Hm) (acc : List D), m = i + r → r < fuel → St s g c cells T h → T + r * cn < 1000000 → h[n0]? = some (.lst acc) → acc.length + r < 1000000 →
    ∃ h' ys, lcGo (fun h i => (AR.It.rng 0 m).at h i) body n0 fuel i h = .ok (.ref n0) h' ∧ h'[n0]? = some (.lst (acc ++ ys)) ∧ ys.length = r ∧ (∀ y ∈ ys, P y) ∧ St s g c cells (T + r * cn) h' ∧ (∀ (j : Nat) (o : HOb), j ≠ s → j ≠ g → j ≠ n0 → h[j]? = some o → h'[j]? = some o)
  | 0, fuel + 1, i, T, h, acc, hm, hf, v, hT, hn, ha => by
    have : (AR.It.rng 0 m).at h i = some none := by
      unfold AR.It.at
      rw [if_neg (by omega)]
    refine ⟨h, [], ?_, by simpa using hn, rfl, by simp, by simpa using v, fun _ _ _ _ _ e => e⟩
    rw [lcGo_succ, this]
  | r + 1, fuel + 1, i, T, h, acc, hm, hf, v, hT, hn, ha => by
    have at1 : (AR.It.rng 0 m).at h i = some (some (.int i)) := by
      unfold AR.It.at
      rw [if_pos (by omega), Int.zero_add]
    rw [Nat.succ_mul] at hT
    obtain ⟨h1, y, w1, w2, w3, w4⟩ := hb i T h (by omega) v (by omega)
    have n1 := w4 n0 _ ns ng hn
    have sb := sizeLine_big
    obtain ⟨h', ys, q1, q2, q3, q4, q5, q6⟩ := lcGo_draw (P := P) ns ng nc hb r fuel (i + 1) (T + cn) (h1.set n0 (HOb.lst (acc ++ [y]))) (acc ++ [y]) (by omega) (by omega) (w3.set _ ns ng nc) (by omega) (at_set n1) (by simp; omega)
    refine ⟨h', y :: ys, ?_, by rw [q2]; simp, by simp [q3], ?_, ?_, ?_⟩
    · rw [lcGo_succ, at1]
      simp only
      rw [w1, lcStep_some, n1]
      simp only
      rw [if_pos (by omega)]
      exact q1
    · intro z hz
      cases hz with
      | head => exact w2
      | tail _ hz => exact q4 z hz
    · rw [Nat.succ_mul, show T + (r * cn + cn) = T + cn + r * cn by omega]
      exact q5
    · intro j o a b d e
      refine q6 j o a b d ?_
      rw [List.getElem?_set_ne (Ne.symm d)]
      exact w4 j o a b e
theorem St.lt {s g c T : Nat} {cells : List Int} {h : Hm} (v : St s g c cells T h) : s < h.length ∧ g < h.length ∧ c < h.length := by
  obtain ⟨gs, r, t, e1, e2, _, _⟩ := v.d
  exact ⟨(List.getElem?_eq_some_iff.mp e1).1, (List.getElem?_eq_some_iff.mp e2).1, (List.getElem?_eq_some_iff.mp v.cl).1⟩
theorem pick_new {n s g c T i : Nat} {cells : List Int} {xs : List D} {h : Hm} {es : List E} {env : AR.Env} (v : St s g c cells T h) (hc : cells.length < 1000000) (hT : T < 1000000) (h0 : 0 < xs.length) (h1 : xs.length < 1000000) (ev : evEs (AR.run prog (n + 3)) es env h = .ok (xs.map SV.d) h) (e0 : env[i]? = some (some (.d (.ref s)))) :
    ∃ h' x, evE (AR.run prog (n + 3)) (.call 11 [(.v i), (.op .lst es)]) env h = .ok (.d x) h' ∧ x ∈ xs ∧ St s g c cells (T + 1) h' ∧ KeepB2 s g h h' := by
  have kN := Keep.app h [HOb.lst xs]
  obtain ⟨l1, l2, l3⟩ := v.lt
  obtain ⟨h', x, w1, w2, w3, w4⟩ := run_pick (n := n) (v.grow kN (Nat.le_refl _)) hc hT (at_new h (HOb.lst xs)) (by omega) (by omega) h0 h1
  refine ⟨h', x, ?_, w2, w3, KeepB2.trans (Keep.b2 kN s g) w4⟩
  rw [evE_call, evEs_cons, evE_v]
  simp only [getV, e0, R.bind_ok, evEs_cons, evE_op, ev, opRun, allD_map, op, newL_ok h xs h1, toSV_ok, evEs_nil, w1]
theorem run_some {s g c : Nat} {cells : List Int} (hc : cells.length < 1000000) : ∀ (k n T : Nat) (h : Hm), k < 1000 → St s g c cells T h → T + cnt k < 1000000 →
    ∃ h' x, AR.run prog (n + k + 4) 17 [.d (.ref s), .d (.int k)] [] h = .ok (.d x) h' ∧ Dv k x ∧ St s g c cells (T + cnt k) h' ∧ KeepB2 s g h h' := by
  intro k n T h hk v hT
  have c2 := cnt_two k
  rw [run_def (d := ⟨2, 0, 4, i__law_some_value⟩) rfl rfl rfl]
  show ∃ h' x, finish (execs (AR.run prog (n + k + 3)) i__law_some_value [some (.d (.ref s)), some (.d (.int k)), none, none] h) = _ ∧ _
  have first : ∃ h1 z, exec (AR.run prog (n + k + 3)) (.asg (.nm 2) (.ite (.op .gt [(.v 1), (.c (.int 0))]) (.call 10 [(.v 0), (.c (.int 6))]) (.call 10 [(.v 0), (.c (.int 3))]))) [some (.d (.ref s)), some (.d (.int k)), none, none] h = .nx [some (.d (.ref s)), some (.d (.int k)), some (.d (.int z)), none] h1 ∧ (0 ≤ z ∧ (z < 3 ∨ 0 < k)) ∧ St s g c cells (T + 1) h1 ∧ KeepB2 s g h h1 := by
    rw [exec_asg, evE_ite, evE_op, evEs_cons, evE_v]
    simp only [getV, List.getElem?_cons_succ, List.getElem?_cons_zero, R.bind_ok, evEs_cons, evEs_nil, evE_c, or2, op, a2, dCmp, toSV_ok, truth_ok]
    by_cases kz : 0 < k
    · obtain ⟨h1, z, w1, w2, w3, w4, w5⟩ := run_draw (n := n + k + 1) (room := 6) v hc (by omega) (by decide) (by decide)
      refine ⟨h1, z, ?_, ⟨w2, Or.inr kz⟩, w4, w5⟩
      rw [show decide ((0 : Int) < (k : Int)) = true by simpa using kz, if_pos rfl]
      simp only [evE_call, evEs_cons, evEs_nil, evE_v, evE_c, getV, List.getElem?_cons_zero, R.bind_ok, w1, R.st_ok]
      rfl
    · obtain ⟨h1, z, w1, w2, w3, w4, w5⟩ := run_draw (n := n + k + 1) (room := 3) v hc (by omega) (by decide) (by decide)
      refine ⟨h1, z, ?_, ⟨w2, Or.inl w3⟩, w4, w5⟩
      rw [show decide ((0 : Int) < (k : Int)) = false by simp; omega, if_neg (by decide)]
      simp only [evE_call, evEs_cons, evEs_nil, evE_v, evE_c, getV, List.getElem?_cons_zero, R.bind_ok, w1, R.st_ok]
      rfl
  obtain ⟨h1, z, f1, ⟨f2, f3⟩, f4, f5⟩ := first
  unfold i__law_some_value
  rw [execs_cons, f1, seq_nx, execs_cons, exec_ifs, evE_op, evEs_cons, evE_v]
  simp only [getV, List.getElem?_cons_succ, List.getElem?_cons_zero, R.bind_ok, evEs_cons, evEs_nil, evE_c, or2, op, a2, eqP_int, asB, toSV_ok, truth_ok, R.st_ok]
  cases z0 : (z == 0) with
  | true =>
    obtain ⟨h2, x, w1, w2, w3, w4⟩ := pick_new (n := n + k) (i := 0) (xs := atomsW) (es := [(.c (.str "a")), (.c (.str "on")), (.c (.str "zz")), (.c (.str "entry")), (.c (.str "abcdefghijklm"))]) (env := [some (.d (.ref s)), some (.d (.int k)), some (.d (.int z)), none]) f4 hc (by omega) (by decide) (by decide) (by rfl) rfl
    refine ⟨h2, x, ?_, .w w2, w3.grow (Keep.refl _) (by omega), f5.trans w4⟩
    rw [if_pos rfl, execs_cons, exec_ret, w1]
    rfl
  | false =>
    simp only [Bool.false_eq_true, if_false, execs_nil, seq_nx]
    rw [execs_cons, exec_ifs, evE_op, evEs_cons, evE_v]
    simp only [getV, List.getElem?_cons_succ, List.getElem?_cons_zero, R.bind_ok, evEs_cons, evEs_nil, evE_c, or2, op, a2, eqP_int, asB, toSV_ok, truth_ok, R.st_ok]
    cases z1 : (z == 1) with
    | true =>
      obtain ⟨h2, x, w1, w2, w3, w4⟩ := pick_new (n := n + k) (i := 0) (xs := atomsI) (es := [(.c (.int 0)), (.c (.int 1)), (.op .sub [(.c (.int 0)), (.c (.int 1))]), (.c (.int 7)), (.op .sub [(.c (.int 0)), (.c (.int 42))]), (.c (.int 999999999999)), (.op .sub [(.c (.int 0)), (.c (.int 999999999999))])]) (env := [some (.d (.ref s)), some (.d (.int k)), some (.d (.int z)), none]) f4 hc (by omega) (by decide) (by decide) (by rfl) rfl
      refine ⟨h2, x, ?_, .i w2, w3.grow (Keep.refl _) (by omega), f5.trans w4⟩
      rw [if_pos rfl, execs_cons, exec_ret, w1]
      rfl
    | false =>
      simp only [Bool.false_eq_true, if_false, execs_nil, seq_nx]
      rw [execs_cons, exec_ifs, evE_op, evEs_cons, evE_v]
      simp only [getV, List.getElem?_cons_succ, List.getElem?_cons_zero, R.bind_ok, evEs_cons, evEs_nil, evE_c, or2, op, a2, eqP_int, asB, toSV_ok, truth_ok, R.st_ok]
      cases z2 : (z == 2) with
      | true => exact ⟨h1, .non, rfl, .non, f4.grow (Keep.refl _) (by omega), f5⟩
      | false =>
        simp only [Bool.false_eq_true, if_false, execs_nil, seq_nx]
        simp at z0 z1 z2
        cases k with
        | zero => omega
        | succ k =>
          simp only [cnt] at hT
          obtain ⟨h2, r, w1, w2, w3, w4, w5⟩ := run_draw (n := n + (k + 1) + 1) (room := 4) f4 hc (by omega) (by decide) (by decide)
          obtain ⟨m, rfl⟩ : ∃ m : Nat, r = m := ⟨r.toNat, by omega⟩
          obtain ⟨l1, l2, l3⟩ := w4.lt
          have fp := fuel_pos.2
          have kN := Keep.app h2 [HOb.lst []]
          have mc : m * cnt k ≤ 3 * cnt k := Nat.mul_le_mul_right _ (by omega)
          obtain ⟨h', ys, q1, q2, q3, q4, q5, q6⟩ := lcGo_draw (n0 := h2.length) (m := m) (cn := cnt k) (P := Dv k) (body := lcTurn (.nm 3) (wipeE (([some (.d (.ref s)), some (.d (.int (k + 1 : Nat))), some (.d (.int z)), none] : AR.Env).map dOnly) [3]) (fun env h => truth (evE (AR.run prog (n + (k + 1) + 3)) (.c (.bl true)) env h)) fun env h => evE (AR.run prog (n + (k + 1) + 3)) (.call 17 [(.v 0), (.op .sub [(.v 1), (.c (.int 1))])]) env h) (by omega) (by omega) (by omega)
            (fun i T h _ v hT => by
              obtain ⟨h3, y, p1, p2, p3, p4⟩ := run_some (s := s) (g := g) (c := c) hc k n T h (by omega) v hT
              refine ⟨h3, y, ?_, p2, p3, p4⟩
              unfold lcTurn
              have st : setT (.nm 3) (.int i) (wipeE (([some (.d (.ref s)), some (.d (.int (k + 1 : Nat))), some (.d (.int z)), none] : AR.Env).map dOnly) [3]) = some [some (.d (.ref s)), some (.d (.int (k + 1 : Nat))), some (.d (.int z)), some (.d (.int i))] := rfl
              have sub : ((k + 1 : Nat) : Int) - 1 = k := by omega
              rw [st]
              simp only [evE_c, truth_ok, R.bind_ok, if_pos, evE_call, evEs_cons, evEs_nil, evE_v, evE_op, getV, List.getElem?_cons_succ, List.getElem?_cons_zero, or2, op, a2, dSub, toSV_ok, sub]
              rw [show n + (k + 1) + 3 = n + k + 4 by omega, p1]
              rfl)
            m fuelW 0 (T + 1 + 1) (h2 ++ [HOb.lst []]) [] (by omega) (by omega) (w4.grow kN (Nat.le_refl _)) (by omega) (at_new _ _) (by simp; omega)
          refine ⟨h', .tup ys, ?_, .tup (by omega) q4, q5.grow (Keep.refl _) (by simp only [cnt]; omega), (f5.trans w5).trans fun j o a b e => ?_⟩
          · rw [execs_cons, exec_ret, evE_op, evEs_cons]
            have it : evEs (AR.run prog (n + (k + 1) + 3)) [(.call 10 [(.v 0), (.c (.int 4))])] [some (.d (.ref s)), some (.d (.int (k + 1 : Nat))), some (.d (.int z)), none] h1 = .ok ([D.int m].map SV.d) h2 := by
              simp only [evE_call, evEs_cons, evEs_nil, evE_v, evE_c, getV, List.getElem?_cons_zero, R.bind_ok, w1]
              rfl
            rw [lc_run it (itOf_rng (by omega)), q1]
            simp only [toSV_ok, R.bind_ok, evEs_nil, or1, op, a1, seqOf, q2, List.nil_append, okO, R.st_ok, seq_rt, fin_rt]
          · have lt := (List.getElem?_eq_some_iff.mp e).1
            exact q6 j o a b (by omega) (kN _ _ e)
end K88
end AR
end
section
set_option Elab.async false
set_option linter.all false
set_option maxRecDepth 100000
set_option maxHeartbeats 4000000
namespace AR
namespace K88
open PySem L2 PySem.Spec PyProof.Rows
/-! ## drawn values are written and read -/
def runB (t : Str) : Bool := !t.cps.toList.isEmpty && t.cps.toList.all fun c => !isPun c
theorem run_of {t : Str} (h : runB t = true) : Run t := by
  simp only [runB, Bool.and_eq_true, Bool.not_eq_true', List.all_eq_true] at h
  refine ⟨fun e => ?_, h.2⟩
  rw [e] at h
  simp at h
def backW (s : Str) : Bool := (!(s == "(") && !(s == " ") && !(s == ")")) && (!(s == "-") && isWord (.str s))
theorem back_word {s : Str} (h : backW s = true) : Back (.str s) := by
  simp only [backW, Bool.and_eq_true, Bool.not_eq_true'] at h
  obtain ⟨⟨⟨a, b⟩, c⟩, d, e⟩ := h
  refine ⟨s, by simp [outD], a, b, c, ?_⟩
  unfold plainOf
  rw [if_neg (by rw [d]; decide), if_pos e]
def backI (t : Str) (i : Int) : Bool := ((!(t == "(") && !(t == " ") && !(t == ")")) && (!(t == "-") && !(isWord (.str t)))) && (numOk t && decide (intText? t = some i))
theorem back_int {i : Int} (h : backI (Str.ofString (toString i)) i = true) : Back (.int i) := by
  simp only [backI, Bool.and_eq_true, Bool.not_eq_true', decide_eq_true_eq] at h
  obtain ⟨⟨⟨⟨a, b⟩, c⟩, d, e⟩, f, g⟩ := h
  refine ⟨Str.ofString (toString i), by simp only [outD], a, b, c, ?_⟩
  unfold plainOf
  rw [if_neg (by rw [d]; decide), if_neg (by rw [e]; decide), if_pos f, g]
  simp only
  rw [if_pos (str_eq.mpr rfl)]
theorem back_non : Back .non := ⟨"-", by simp [outD], by decide +kernel, by decide +kernel, by decide +kernel, by unfold plainOf; rw [if_pos (by decide +kernel)]⟩
structure Good (k b : Nat) (x : D) : Prop where
  rd : rd x = true
  mu : mu x ≤ b
  dp : dp x ≤ k
  ok : aOk x = true
  back : BackD x
  runs : Runs x
theorem good_word {k b : Nat} {s : Str} (h : (backW s && runB s && (PyData.strOk s && decide (1 + s.length ≤ b))) = true) : Good k b (.str s) := by
  simp only [Bool.and_eq_true, decide_eq_true_eq] at h
  obtain ⟨⟨h1, h2⟩, h3, h4⟩ := h
  have hw : isWord (.str s) = true := by
    simp only [backW, Bool.and_eq_true] at h1
    exact h1.2.2
  exact ⟨by simpa [K88.rd] using h3, by simpa [K88.mu] using h4, by simp [K88.dp], by simpa [aOk] using hw, .atom (back_word h1), by simp only [Runs]; exact run_of h2⟩
theorem good_int {k b : Nat} {i : Int} (h : ((backI (Str.ofString (toString i)) i && runB (Str.ofString (toString i))) && (isFig (.int i) && decide (1 + (Str.ofString (toString i)).length ≤ b))) = true) : Good k b (.int i) := by
  simp only [Bool.and_eq_true, decide_eq_true_eq] at h
  obtain ⟨⟨h1, h2⟩, h3, h4⟩ := h
  have h5 := h3
  simp only [isFig, decide_eq_true_eq] at h5
  exact ⟨by simpa [K88.rd] using log2_small h5, by simpa [K88.mu] using h4, by simp [K88.dp], by simpa [aOk] using h3, .atom (back_int h1), by simp only [Runs]; exact run_of h2⟩
def mx : Nat → Nat
  | 0 => 14
  | k + 1 => 5 + 3 * (2 + mx k)
theorem mx_ge : ∀ k, 14 ≤ mx k
  | 0 => Nat.le_refl _
  | k + 1 => by have := mx_ge k; simp only [mx]; omega
theorem Good.mono {k b b' : Nat} {x : D} (g : Good k b x) (h : b ≤ b') : Good k b' x := ⟨g.rd, Nat.le_trans g.mu h, g.dp, g.ok, g.back, g.runs⟩
theorem good_atomW {k : Nat} {x : D} (h : x ∈ atomsW) : Good k 14 x := by
  simp only [atomsW, List.mem_cons, List.mem_nil_iff, or_false] at h
  rcases h with rfl | rfl | rfl | rfl | rfl <;> exact good_word (by decide +kernel)
theorem good_atomI {k : Nat} {x : D} (h : x ∈ atomsI) : Good k 14 x := by
  simp only [atomsI, List.mem_cons, List.mem_nil_iff, or_false] at h
  rcases h with rfl | rfl | rfl | rfl | rfl | rfl | rfl <;> exact good_int (by decide +kernel)
theorem good_non {k : Nat} : Good k 14 .non := ⟨by simp [K88.rd], by simp [K88.mu], by simp [K88.dp], by simp [aOk], .atom back_non, by simp only [Runs]; exact run_of (by decide +kernel)⟩
theorem good_tups {k b : Nat} : ∀ {xs : List D}, (∀ x ∈ xs, Good k b x) → rdS xs = true ∧ muT xs ≤ xs.length * (2 + b) ∧ dpS xs ≤ k ∧ aOkS xs = true ∧ RunsS xs
  | [], _ => by simp [rdS, muT, dpS, aOkS, RunsS]
  | x :: xs, h => by
    have g := h x (List.mem_cons_self ..)
    obtain ⟨a, b', c, d, e⟩ := good_tups fun y hy => h y (List.mem_cons_of_mem _ hy)
    have m := g.mu
    have p := g.dp
    refine ⟨by simp [rdS, g.rd, a], ?_, by simp only [dpS]; omega, by simp [aOkS, g.ok, d], by simp only [RunsS]; exact ⟨g.runs, e⟩⟩
    simp only [muT, List.length_cons, Nat.succ_mul]
    omega
theorem good_tup {k b : Nat} {xs : List D} (h : ∀ x ∈ xs, Good k b x) : Good (k + 1) (5 + xs.length * (2 + b)) (.tup xs) := by
  obtain ⟨a, b', c, d, e⟩ := good_tups h
  exact ⟨by simpa [K88.rd] using a, by simp only [K88.mu]; omega, by simp only [K88.dp]; omega, by simpa [aOk] using d, .tup fun x hx => (h x hx).back, by simpa [Runs] using e⟩
theorem good_dv : ∀ {k : Nat} {x : D}, Dv k x → Good k (mx k) x
  | k, _, .w h => (good_atomW h).mono (mx_ge k)
  | k, _, .i h => (good_atomI h).mono (mx_ge k)
  | k, _, .non => good_non.mono (mx_ge k)
  | k + 1, .tup xs, .tup l h => by
    refine (good_tup (k := k) (b := mx k) fun x hx => good_dv (h x hx)).mono ?_
    have : xs.length * (2 + mx k) ≤ 3 * (2 + mx k) := Nat.mul_le_mul_right _ l
    simp only [mx]
    omega
/-- what holds of a value that is good, up to depth 59 -/
theorem Good.val {k b : Nat} {x : D} (g : Good k b x) (hk : k ≤ 59) : isVal x = true := isVal_of g.ok (Nat.le_trans g.dp hk)
theorem Good.rv {k b : Nat} {x : D} (g : Good k b x) (hk : k ≤ 59) : rv (textOf x) = some x := rv_text g.runs g.back (g.val hk)
theorem Good.tx {k b : Nat} {x : D} (g : Good k b x) (hb : b < 900) : Tx (textOf x) ∧ (textOf x).length ≤ b := by
  have l := text_len x
  have m := g.mu
  refine ⟨⟨text_ok g.rd, ?_⟩, by omega⟩
  show (textOf x).length < _
  omega
/-- equal texts are of equal values -/
theorem text_inj {k b k' b' : Nat} {x y : D} (gx : Good k b x) (gy : Good k' b' y) (hk : k ≤ 59) (hk' : k' ≤ 59) : textOf x = textOf y ↔ x = y := by
  constructor
  · intro e
    have a := gx.rv hk
    rw [e, gy.rv hk'] at a
    exact (Option.some.inj a).symm
  · intro e; rw [e]
end K88
end AR
end
section
set_option Elab.async false
set_option linter.all false
set_option maxRecDepth 100000
set_option maxHeartbeats 4000000
namespace AR
namespace K88
open PySem L2 PySem.Spec PyProof.Rows
/-! ## _law_begun -/
def isScript (ns : List Int) (o : HOb) : Prop := o = .lst (ns.map D.int) ∨ o = .rol (ns.map D.int)
theorem script_at {ns : List Int} {o : HOb} {h : Hm} {p : Nat} (hs : isScript ns o) (e : h[p]? = some o) : lstAt h p = some (ns.map D.int) ∧ itOf .seq [.ref p] h = some (.lst p) ∧ dLen h (.ref p) = .ok (.int ns.length) h := by
  rcases hs with rfl | rfl <;> simp [lstAt, e, itOf, i1, itSeq, dLen, seqOf]
def fInt (f : Int → Option Int) : D → Option D
  | .int i => (f i).map D.int
  | _ => none
theorem fInt_map (f : Int → Option Int) : ∀ ns : List Int, (ns.map D.int).filterMap (fInt f) = (ns.filterMap f).map D.int
  | [] => rfl
  | i :: ns => by
    rw [List.map_cons, List.filterMap_cons, List.filterMap_cons, fInt_map f ns]
    simp only [fInt]
    cases f i <;> rfl
/-- a comprehension over the script -/
theorem lc_script {K : Nat → List SV → List SV → Hm → R SV} {ns : List Int} {o : HOb} {h : Hm} {p : Nat} {e1 e2 : Option SV} {cond elt : E} {f : Int → Option Int} (hs : isScript ns o) (e : h[p]? = some o) (hl : ns.length < 1000000)
    (hb : ∀ (i : Int) (h : Hm) (u : Option SV), lcTurn (.nm 2) [some (.d (.ref p)), u, none] (fun env h => truth (evE K cond env h)) (fun env h => evE K elt env h) (.int i) h = .ok (fInt f (.int i)) h) (he : dOnly e1 = e1) :
    ∃ h', evE K (.lc (.nm 2) [2] .seq [(.v 0)] cond elt) [some (.d (.ref p)), e1, e2] h = .ok (.d (.ref h.length)) h' ∧ h'[h.length]? = some (.lst ((ns.filterMap f).map D.int)) ∧ Keep h h' := by
  have lt := (List.getElem?_eq_some_iff.mp e).1
  have fp := fuel_pos.2
  have sb := sizeLine_big
  have lists : evEs K [(.v 0)] [some (.d (.ref p)), e1, e2] h = .ok ([D.ref p].map SV.d) h := by
    simp only [evEs_cons, evEs_nil, evE_v, getV, List.getElem?_cons_zero, R.bind_ok]
    rfl
  rw [lc_run lists (script_at hs e).2.1]
  obtain ⟨h', q1, q2, q3, _⟩ := lcGo_run (get := fun h i => (AR.It.lst p).at h i) (n := h.length) (items := ns.map D.int) (f := fInt f)
    (body := lcTurn (.nm 2) (wipeE (([some (.d (.ref p)), e1, e2] : AR.Env).map dOnly) [2]) (fun env h => truth (evE K cond env h)) fun env h => evE K elt env h) (fun h' => h'[p]? = some o)
    (fun h i hi => by simp only [AR.It.at, (script_at hs hi).1, Option.map_some])
    (fun x hx h hi => by
      obtain ⟨i, _, rfl⟩ := List.mem_map.mp hx
      refine ⟨h, ?_, Keep.refl _, hi⟩
      have w : wipeE (([some (.d (.ref p)), e1, e2] : AR.Env).map dOnly) [2] = [some (.d (.ref p)), e1, none] := by
        simp only [List.map_cons, List.map_nil, he]
        rfl
      rw [w]
      exact hb i h e1)
    (fun h2 o' hi => by rw [List.getElem?_set_ne (by omega)]; exact hi)
    (ns.map D.int).length fuelW 0 (h ++ [.lst []]) [] (by simp) (by simp; omega) (Keep.app h _ _ _ e) (at_new h _) (by simp; omega)
  refine ⟨h', by rw [q1]; rfl, ?_, q3.old⟩
  rw [q2, List.drop_zero, List.nil_append, fInt_map]
theorem abs_int {h : Hm} (i : Int) : dAbs h (.int i) = .ok (.int (if i < 0 then -i else i)) h := rfl
theorem pow18 {h : Hm} : dPow h (.int 10) (.int 18) = .ok (.int 1000000000000000000) h := rfl
theorem run_begun {n p : Nat} {ns : List Int} {o : HOb} {h : Hm} (hs : isScript ns o) (e : h[p]? = some o) (hl : ns.length < 1000000) :
    ∃ h' s g c cells, AR.run prog (n + 1) 8 [.d (.ref p)] [] h = .ok (.d (.ref s)) h' ∧ St s g c cells 0 h' ∧ cells.length < 1000000 ∧ Keep h h' := by
  rw [run_def (d := ⟨1, 0, 3, i__law_begun⟩) rfl rfl rfl]
  show ∃ h' s g c cells, finish (execs (AR.run prog n) i__law_begun [some (.d (.ref p)), none, none] h) = _ ∧ _
  obtain ⟨h1, a1', a2', a3'⟩ := lc_script (K := AR.run prog n) (e1 := none) (e2 := none) (cond := .op .ge [(.op .abs [(.v 2)]), (.op .pow [(.c (.int 10)), (.c (.int 18))])]) (elt := .op .sub [(.op .abs [(.v 2)]), (.op .pow [(.c (.int 10)), (.c (.int 18))])]) (f := fun i => if 1000000000000000000 ≤ (if i < 0 then -i else i) then some ((if i < 0 then -i else i) - 1000000000000000000) else none) hs e hl
    (fun i h u => by
      unfold lcTurn
      have st : setT (.nm 2) (.int i) [some (.d (.ref p)), u, none] = some [some (.d (.ref p)), u, some (.d (.int i))] := rfl
      rw [st]
      simp only [evE_op, evEs_cons, evEs_nil, evE_v, evE_c, getV, List.getElem?_cons_succ, List.getElem?_cons_zero, R.bind_ok, or1, or2, op, a1, a2, abs_int, pow18, toSV_ok, dCmp, truth_ok, dSub, lcEl, fInt]
      generalize (if i < 0 then -i else i) = a
      by_cases hd : 1000000000000000000 ≤ a
      · rw [if_pos (by simpa using hd), if_pos hd]
        rfl
      · rw [if_neg (by simpa using hd), if_neg hd]
        rfl) rfl
  have k2 := Keep.app h1 [HOb.dct []]
  have e2 : (h1 ++ [HOb.dct []])[p]? = some o := k2 _ _ (a3' _ _ e)
  obtain ⟨h2, b1, b2, b3⟩ := lc_script (K := AR.run prog n) (e1 := some (.d (.ref h.length))) (e2 := none) (cond := .c (.bl true)) (elt := .op .abs [(.v 2)]) (f := fun i => some (if i < 0 then -i else i)) hs e2 hl
    (fun i h u => by
      unfold lcTurn
      have st : setT (.nm 2) (.int i) [some (.d (.ref p)), u, none] = some [some (.d (.ref p)), u, some (.d (.int i))] := rfl
      rw [st]
      simp only [evE_op, evEs_cons, evEs_nil, evE_v, evE_c, getV, List.getElem?_cons_succ, List.getElem?_cons_zero, R.bind_ok, or1, op, a1, abs_int, toSV_ok, truth_ok, if_pos, lcEl, fInt, Option.map_some]) rfl
  have gl := (List.getElem?_eq_some_iff.mp a2').1
  have l1 : (h1 ++ [HOb.dct []]).length = h1.length + 1 := by simp
  have ed : h2[h1.length]? = some (.dct []) := b3 _ _ (at_new _ _)
  have eg : h2[h.length]? = some (.lst ((ns.filterMap fun i => if 1000000000000000000 ≤ (if i < 0 then -i else i) then some ((if i < 0 then -i else i) - 1000000000000000000) else none).map D.int)) := b3 _ _ (k2 _ _ a2')
  have ep := a3'.len
  refine ⟨h2.set h1.length (stD h.length (h1 ++ [HOb.dct []]).length 0 0), h1.length, h.length, (h1 ++ [HOb.dct []]).length, ns.filterMap fun i => some (if i < 0 then -i else i), ?_, ⟨⟨ns.filterMap fun i => if 1000000000000000000 ≤ (if i < 0 then -i else i) then some ((if i < 0 then -i else i) - 1000000000000000000) else none, 0, 0, at_set ed, ?_, by omega, by omega⟩, ?_, by omega, by omega, by omega⟩, ?_, ?_⟩
  · unfold i__law_begun
    rw [execs_cons, exec_asg, a1', R.st_ok]
    have as : asgRun (.nm 1) [some (.d (.ref p)), none, none] (.d (.ref h.length)) h1 = .nx [some (.d (.ref p)), some (.d (.ref h.length)), none] h1 := rfl
    rw [as, seq_nx, execs_cons, exec_ret, evE_dict, evEs_cons, evE_v]
    simp only [getV, List.getElem?_cons_succ, List.getElem?_cons_zero, R.bind_ok]
    rw [evEs_cons, b1]
    simp only [R.bind_ok, evEs_cons, evEs_nil, evE_c, dictRun, allD, Option.map_some, ed]
    have mg : mergeD [] (zipK [(.inr "great"), (.inr "cells"), (.inr "rest"), (.inr "turn")] [.ref h.length, .ref (h1 ++ [HOb.dct []]).length, .int 0, .int 0]) = [(.inr "great", D.ref h.length), (.inr "cells", .ref (h1 ++ [HOb.dct []]).length), (.inr "rest", .int 0), (.inr "turn", .int 0)] := by
      simp [mergeD, zipK, putD, kn1, kn2, kn3, kn4, kn5, kn6]
    rw [if_pos (by simp), mg]
    rfl
  · rw [List.getElem?_set_ne (by omega)]; exact eg
  · rw [List.getElem?_set_ne (by omega)]; exact b2
  · exact Nat.lt_of_le_of_lt (List.length_filterMap_le _ _) hl
  · exact keep_set ((a3'.trans k2).trans b3) ep
end K88
end AR
end
section
set_option Elab.async false
set_option linter.all false
set_option maxRecDepth 100000
set_option maxHeartbeats 4000000
namespace AR
namespace K88
open PySem L2 PySem.Spec PyProof.Rows
/-! ## the law: what is no value, what is no text -/
mutual
theorem gd_mono {h h' : Hm} (k : Keep h h') : ∀ {x : D}, gd h x → gd h' x
  | .non, g => by simp [gd]
  | .bl _, g => by simp [gd]
  | .int _, g => by simp [gd]
  | .str s, g => by simpa [gd] using g
  | .ref n, g => by simp only [gd] at g ⊢; exact g.mono k
  | .tup xs, g => by simp only [gd] at g ⊢; exact gdS_mono k g
theorem gdS_mono {h h' : Hm} (k : Keep h h') : ∀ {xs : List D}, gdS h xs → gdS h' xs
  | [], g => by simp [gdS]
  | x :: xs, g => by simp only [gdS] at g ⊢; exact ⟨gd_mono k g.1, gdS_mono k g.2⟩
end
theorem lam21 {m : Nat} {x : D} {h : Hm} (g : gd h x) (hm : mu x < 900000) (b : isVal x = false) : ∀ hB, Keep h hB → ∃ h1, AR.run prog (m + 3 + 1) 21 [] [.d x] hB = .exc e_text h1 ∧ Keep hB h1 := by
  intro hB k
  obtain ⟨h1, w1, w2⟩ := run_text_bad (n := m) (fine_of (gd_mono k g) hm) b
  refine ⟨h1, ?_, w2⟩
  rw [run_def (d := ⟨0, 1, 1, [.ret i_21]⟩) rfl rfl rfl]
  show finish (execs (AR.run prog (m + 3)) [.ret i_21] [some (.d x)] hB) = _
  unfold i_21
  simp only [execs_cons, exec_ret, evE_call, evEs_cons, evEs_nil, evE_v, getV, List.getElem?_cons_zero, R.bind_ok, w1, R.st_exc, seq_exc, fin_exc]
theorem lam_read_exc {m l : Nat} {x : D} {h : Hm} (hl : prog l = some ⟨0, 1, 1, [.ret (.call 7 [(.v 0)])]⟩) (hx : (∃ t, x = .str t ∧ Tx t ∧ t.length ≤ 900 ∧ rv t = none) ∨ ∀ h', isiD h' x [.str] = some false) : ∀ hB, Keep h hB → ∃ h1, AR.run prog (m + 4 + 1) l [] [.d x] hB = .exc e_text h1 ∧ Keep hB h1 := by
  intro hB k
  have key : ∃ h1, AR.run prog (m + 4) 7 [.d x] [] hB = .exc e_text h1 ∧ Keep hB h1 := by
    rcases hx with ⟨t, rfl, tx, tl, e⟩ | e
    · obtain ⟨h1, w1, w2⟩ := run_read (n := m) (h := hB) tx tl
      rw [e] at w1
      exact ⟨h1, w1, w2⟩
    · exact ⟨hB, run_read_no (n := m + 3) (e hB), Keep.refl _⟩
  obtain ⟨h1, w1, w2⟩ := key
  refine ⟨h1, ?_, w2⟩
  rw [run_def hl rfl rfl]
  show finish (execs (AR.run prog (m + 4)) [.ret (.call 7 [(.v 0)])] [some (.d x)] hB) = _
  simp only [execs_cons, exec_ret, evE_call, evEs_cons, evEs_nil, evE_v, getV, List.getElem?_cons_zero, R.bind_ok, w1, R.st_exc, seq_exc, fin_exc]
theorem lam_read_ok {m l : Nat} {t : Str} {x : D} {h : Hm} (hl : prog l = some ⟨0, 1, 1, [.ret (.call 7 [(.v 0)])]⟩) (tx : Tx t) (tl : t.length ≤ 900) (e : rv t = some x) : ∀ hB, Keep h hB → ∃ h1, AR.run prog (m + 4 + 1) l [] [.d (.str t)] hB = .ok (.d x) h1 ∧ Keep hB h1 := by
  intro hB k
  obtain ⟨h1, w1, w2⟩ := run_read (n := m) (h := hB) tx tl
  rw [e] at w1
  refine ⟨h1, ?_, w2⟩
  rw [run_def hl rfl rfl]
  show finish (execs (AR.run prog (m + 4)) [.ret (.call 7 [(.v 0)])] [some (.d (.str t))] hB) = _
  simp only [execs_cons, exec_ret, evE_call, evEs_cons, evEs_nil, evE_v, getV, List.getElem?_cons_zero, R.bind_ok, w1, R.st_ok, seq_rt, fin_rt]
theorem text0_rd : rd d_text0 = true := by
  simp only [d_text0, rd, rdS, Bool.and_eq_true, decide_eq_true_eq]
  exact ⟨by decide +kernel, by decide, trivial⟩
theorem eqP_text0 (h : Hm) : eqP h d_text0 d_text0 = some true := by
  rw [eqP_rd h text0_rd text0_rd (by simp [dp, dpS]) (by simp [dp, dpS])]
  congr 1
theorem newT2 {h : Hm} (a b : D) : newT h [a, b] = .ok (.tup [a, b]) h := by
  have sb := sizeLine_big
  unfold newT
  rw [if_pos (by simp; omega)]
abbrev s_chk (l : Nat) : List S := [(.ifs (.op .ne [(.callL 14 l [2]), (.op .tup [(.c (.str "text")), (.c (.int 0))])]) [(.ret (.c (.bl false)))] [])]
theorem do_chk {K : Nat → List SV → List SV → Hm → R SV} {l : Nat} {x : D} {a0 a1' a3 a4 a5 a6 a7 a8 a9 a10 : Option SV} {h h' : Hm} (w : K 14 [.clo l [.d x]] [] h = .ok (.d d_text0) h') :
    execs K (s_chk l) [a0, a1', some (.d x), a3, a4, a5, a6, a7, a8, a9, a10] h = .nx [a0, a1', some (.d x), a3, a4, a5, a6, a7, a8, a9, a10] h' := by
  have mo : mapO (fun j => (([a0, a1', some (.d x), a3, a4, a5, a6, a7, a8, a9, a10] : AR.Env)[j]?).join) [2] = some [.d x] := rfl
  rw [execs_cons, exec_ifs, evE_op, evEs_cons, evE_callL, mo]
  simp only [lamRun, w, R.bind_ok, evEs_cons, evE_op, evE_c, evEs_nil, or2, op, newT2, toSV_ok, a2, eqP_text0, Option.map_some, Bool.not_true, asB, truth_ok, R.st_ok, Bool.false_eq_true, if_false, execs_nil, seq_nx]
theorem chk_loop {K : Nat → List SV → List SV → Hm → R SV} {l q : Nat} {xs : List D} {a0 a1' e2 a3 a4 a5 a6 a7 a8 a9 a10 : Option SV} {h : Hm} (hq : h[q]? = some (.lst xs)) (hl : xs.length < 1000) (hx : ∀ x ∈ xs, ∀ h1, Keep h h1 → ∃ h2, K 14 [.clo l [.d x]] [] h1 = .ok (.d d_text0) h2 ∧ Keep h1 h2) :
    ∃ e2' h', forGo (fun h i => (AR.It.lst q).at h i) (.nm 2) (fun env h => execs K (s_chk l) env h) fuelW 0 [a0, a1', e2, a3, a4, a5, a6, a7, a8, a9, a10] h = .nx [a0, a1', e2', a3, a4, a5, a6, a7, a8, a9, a10] h' ∧ Keep h h' := by
  have fp := fuel_pos.2
  obtain ⟨env', h', q1, e2', q2, q3⟩ := forGo_run (get := fun h i => (AR.It.lst q).at h i) (t := .nm 2) (b := fun env h => execs K (s_chk l) env h) (items := xs)
    (fun i env h' => ∃ e2', env = [a0, a1', e2', a3, a4, a5, a6, a7, a8, a9, a10] ∧ Keep h h')
    (fun i env h' hi => by
      obtain ⟨_, _, k⟩ := hi
      simp only [AR.It.at, lstAt, k _ _ hq, Option.map_some])
    (fun i env h' x hi hx' => by
      obtain ⟨e2', rfl, k⟩ := hi
      obtain ⟨h2, w1, w2⟩ := hx x (List.mem_of_getElem? hx') h' k
      exact ⟨_, _, h2, rfl, Or.inl (do_chk w1), some (.d x), rfl, k.trans w2⟩)
    xs.length fuelW 0 [a0, a1', e2, a3, a4, a5, a6, a7, a8, a9, a10] h (by simp) (by omega) ⟨e2, rfl, Keep.refl _⟩
  exact ⟨e2', h', by rw [q1, q2], q3⟩
abbrev things1 (r1 r2 : Nat) : List D := [.str "A", .str "", .str "a b", .str "a1", .str "-", .int 1000000000000, .int (0 - 1000000000000), .bl true, .ref r1, .tup [.str "a", .ref r2], .tup [.str "a", .str "B"], nestD 60 (.str "a"), .tup [.str "a", .bl true]]
abbrev e_things1 : List E := [(.c (.str "A")), (.c (.str "")), (.c (.str "a b")), (.c (.str "a1")), (.c (.str "-")), (.op .pow [(.c (.int 10)), (.c (.int 12))]), (.op .sub [(.c (.int 0)), (.op .pow [(.c (.int 10)), (.c (.int 12))])]), (.c (.bl true)), (.op .lst [(.c (.str "a"))]), (.op .tup [(.c (.str "a")), (.op .lst [(.c (.str "b"))])]), (.op .tup [(.c (.str "a")), (.c (.str "B"))]), (.call 18 [(.c (.int 60)), (.c (.str "a"))]), (.op .tup [(.c (.str "a")), (.c (.bl true))])]
theorem pow12 {h : Hm} : dPow h (.int 10) (.int 12) = .ok (.int 1000000000000) h := rfl
theorem ev_things1 {n : Nat} {env : AR.Env} {h : Hm} : evEs (AR.run prog (n + 1)) e_things1 env h = .ok ((things1 h.length (h ++ [HOb.lst [.str "a"]]).length).map SV.d) (h ++ [HOb.lst [.str "a"]] ++ [HOb.lst [.str "b"]]) := by
  have nst : ∀ h, AR.run prog (n + 1) 18 [.d (.int 60), .d (.str "a")] [] h = .ok (.d (nestD 60 (.str "a"))) h := fun h => run_nested (n := n) (k := 60) (d := .str "a") (h := h) (by decide)
  simp only [evEs_cons, evEs_nil, evE_c, evE_op, evE_call, R.bind_ok, or1, or2, op, a2, pow12, toSV_ok, dSub, newL_ok h [D.str "a"] (by simp), newL_ok (h ++ [HOb.lst [.str "a"]]) [D.str "b"] (by simp), newT2, nst]
  rfl
theorem isVal_not {xs : List D} (h : isValL 60 0 xs = false) : isValL 60 0 xs = false := h
theorem dp_nest (d : D) : ∀ k, dp (nestD k d) = k + dp d
  | 0 => by simp [nestD]
  | k + 1 => by simp only [nestD, dp, dpS, dp_nest d k]; omega
theorem things1_bad {h : Hm} {r1 r2 : Nat} {u1 u2 : List D} (h1 : h[r1]? = some (.lst u1)) (h2 : h[r2]? = some (.lst u2)) : ∀ x ∈ things1 r1 r2, gd h x ∧ mu x < 900000 ∧ isVal x = false := by
  have k1 : Kn h (.ref r1) := ⟨.list, by simp only [tyOf, h1], fun c e => by cases e⟩
  have k2 : Kn h (.ref r2) := ⟨.list, by simp only [tyOf, h2], fun c e => by cases e⟩
  intro x hx
  simp only [things1, List.mem_cons, List.mem_nil_iff, or_false] at hx
  rcases hx with rfl | rfl | rfl | rfl | rfl | rfl | rfl | rfl | rfl | rfl | rfl | rfl | rfl
  · exact ⟨by simp only [gd]; decide +kernel, by decide +kernel, by decide +kernel⟩
  · exact ⟨by simp only [gd]; decide +kernel, by decide +kernel, by decide +kernel⟩
  · exact ⟨by simp only [gd]; decide +kernel, by decide +kernel, by decide +kernel⟩
  · exact ⟨by simp only [gd]; decide +kernel, by decide +kernel, by decide +kernel⟩
  · exact ⟨by simp only [gd]; decide +kernel, by decide +kernel, by decide +kernel⟩
  · exact ⟨by simp only [gd], by decide +kernel, by decide +kernel⟩
  · exact ⟨by simp only [gd], by decide +kernel, by decide +kernel⟩
  · exact ⟨by simp only [gd], by decide +kernel, by decide +kernel⟩
  · exact ⟨by simpa only [gd] using k1, by simp [mu], rfl⟩
  · have w : PyData.strOk ("a" : Str) = true := by decide +kernel
    have l : ("a" : Str).length = 1 := by decide +kernel
    refine ⟨by simp only [gd, gdS]; exact ⟨w, k2, trivial⟩, by simp [mu, muT, l], ?_⟩
    simp [isVal, isValL, okAt, isTup, goAll, goIn, okAtom, isNonD, isWord, isFig]
  · exact ⟨by simp only [gd, gdS]; exact ⟨by decide +kernel, by decide +kernel, trivial⟩, by decide +kernel, by decide +kernel⟩
  · have w : rd (nestD 60 (.str "a")) = true := by decide +kernel
    refine ⟨gd_of_rd w, by decide +kernel, ?_⟩
    cases e : isVal (nestD 60 (.str "a")) with
    | false => rfl
    | true =>
      have a := dp_isVal e
      rw [dp_nest] at a
      omega
  · exact ⟨by simp only [gd, gdS]; exact ⟨by decide +kernel, trivial, trivial⟩, by decide +kernel, by decide +kernel⟩
abbrev things2 : List D := [.non, .int 5, .str "", .str " ", .str "A", .str "a b", .str "01", .str "-0", .str "--1", .str "+1", .str "1000000000000", .str "(", .str ")", .str "(a", .str "a)", .str "(a))", .str "( a)", .str "(a )", .str "(a  b)", .str "()()", .str "(a)(b)", .str "a()", .str "1a", .str "a1", .str "- 1", .str "(-)-", .str "(a\nb)", .str "1/2"]
def noText : D → Bool
  | .str t => (PyData.strOk t && decide (t.length ≤ 900)) && (rv t).isNone
  | .non => true
  | .int _ => true
  | _ => false
theorem noText_of {x : D} (h : noText x = true) : (∃ t, x = .str t ∧ Tx t ∧ t.length ≤ 900 ∧ rv t = none) ∨ ∀ h', isiD h' x [.str] = some false := by
  cases x with
  | str t =>
    simp only [noText, Bool.and_eq_true, decide_eq_true_eq, Option.isNone_iff_eq_none] at h
    refine Or.inl ⟨t, rfl, ⟨h.1.1, ?_⟩, h.1.2, h.2⟩
    have := h.1.2
    show t.length < _
    omega
  | non => exact Or.inr fun h' => rfl
  | int i => exact Or.inr fun h' => rfl
  | _ => simp [noText] at h
theorem things2_bad : things2.all noText = true := by decide +kernel
end K88
end AR
end
section
set_option Elab.async false
set_option linter.all false
set_option maxRecDepth 100000
set_option maxHeartbeats 4000000
namespace AR
namespace K88
open PySem L2 PySem.Spec PyProof.Rows
/-! ## the law: a turn -/
theorem mx3 : mx 3 = 521 := by decide
/-- 12 of text -/
theorem not_isText {x : D} {b k : Nat} {a0 a1' a2' a3 a4 a6 a8 a9 a10 : Option SV} (g : Good k b x) (hk : k ≤ 59) (hb : b < 900) (h : Hm) :
    ∃ h', truth (evE (AR.run prog 65) (.not (.call 12 [(.call 3 [(.v 5)]), (.v 7)])) [a0, a1', a2', a3, a4, some (.d x), a6, some (.d (.str (textOf x))), a8, a9, a10] h) = .ok false h' ∧ Keep h h' := by
  have m := g.mu
  have tx := g.tx hb
  obtain ⟨h1, w1, w2⟩ := run_text_rd (n := 62) (h := h) g.rd (by omega) (g.val hk)
  obtain ⟨h2, z1, z2⟩ := run_is 64 (.str (textOf x)) (by simpa [rd] using tx.1.ok) (by simp only [mu]; omega) (by simp [dp]) h1
  refine ⟨h2, ?_, w2.trans z2⟩
  rw [evE_not, evE_call, evEs_cons, evE_call, evEs_cons, evE_v]
  simp only [getV, List.getElem?_cons_succ, List.getElem?_cons_zero, R.bind_ok, evEs_nil, w1, evEs_cons, evE_v, z1, truth_ok, Bool.not_true, okB_eq]
theorem not_isRead {x : D} {b k : Nat} {a0 a1' a2' a3 a4 a6 a8 a9 a10 : Option SV} (g : Good k b x) (hk : k ≤ 59) (hb : b < 900) (h : Hm) :
    ∃ h', truth (evE (AR.run prog 65) (.not (.call 12 [(.call 7 [(.v 7)]), (.v 5)])) [a0, a1', a2', a3, a4, some (.d x), a6, some (.d (.str (textOf x))), a8, a9, a10] h) = .ok false h' ∧ Keep h h' := by
  have m := g.mu
  have d := g.dp
  have tx := g.tx hb
  obtain ⟨h1, w1, w2⟩ := run_read (n := 61) (h := h) tx.1 (by omega)
  rw [g.rv hk] at w1
  obtain ⟨h2, z1, z2⟩ := run_is 64 x g.rd (by omega) (by omega) h1
  refine ⟨h2, ?_, w2.trans z2⟩
  rw [evE_not, evE_call, evEs_cons, evE_call, evEs_cons, evE_v]
  simp only [getV, List.getElem?_cons_succ, List.getElem?_cons_zero, R.bind_ok, evEs_nil, w1, evEs_cons, evE_v, z1, truth_ok, Bool.not_true, okB_eq]
abbrev s_four : S := .ifs (.or (.not (.call 12 [(.call 3 [(.v 5)]), (.v 7)])) (.or (.not (.call 12 [(.call 7 [(.v 7)]), (.v 5)])) (.or (.not (.call 12 [(.call 7 [(.v 7)]), (.v 5)])) (.not (.call 12 [(.call 3 [(.v 5)]), (.v 7)]))))) [(.ret (.c (.bl false)))] []
theorem or_false' {K : Nat → List SV → List SV → Hm → R SV} {a b : E} {env : AR.Env} {h h1 : Hm} (e : truth (evE K a env h) = .ok false h1) : truth (evE K (.or a b) env h) = truth ((truth (evE K b env h1)).bind okB) := by
  rw [evE_or, e, R.bind_ok, if_neg (by decide)]
theorem okB_truth (r : R Bool) : truth (r.bind okB) = r := by
  cases r <;> rfl
theorem do_four {x : D} {b k : Nat} {a0 a1' a2' a3 a4 a6 a8 a9 a10 : Option SV} (g : Good k b x) (hk : k ≤ 59) (hb : b < 900) (h : Hm) :
    ∃ h', exec (AR.run prog 65) s_four [a0, a1', a2', a3, a4, some (.d x), a6, some (.d (.str (textOf x))), a8, a9, a10] h = .nx [a0, a1', a2', a3, a4, some (.d x), a6, some (.d (.str (textOf x))), a8, a9, a10] h' ∧ Keep h h' := by
  obtain ⟨h1, w1, k1⟩ := not_isText (a0 := a0) (a1' := a1') (a2' := a2') (a3 := a3) (a4 := a4) (a6 := a6) (a8 := a8) (a9 := a9) (a10 := a10) g hk hb h
  obtain ⟨h2, w2, k2⟩ := not_isRead (a0 := a0) (a1' := a1') (a2' := a2') (a3 := a3) (a4 := a4) (a6 := a6) (a8 := a8) (a9 := a9) (a10 := a10) g hk hb h1
  obtain ⟨h3, w3, k3⟩ := not_isRead (a0 := a0) (a1' := a1') (a2' := a2') (a3 := a3) (a4 := a4) (a6 := a6) (a8 := a8) (a9 := a9) (a10 := a10) g hk hb h2
  obtain ⟨h4, w4, k4⟩ := not_isText (a0 := a0) (a1' := a1') (a2' := a2') (a3 := a3) (a4 := a4) (a6 := a6) (a8 := a8) (a9 := a9) (a10 := a10) g hk hb h3
  refine ⟨h4, ?_, ((k1.trans k2).trans k3).trans k4⟩
  rw [exec_ifs, or_false' w1, okB_truth, or_false' w2, okB_truth, or_false' w3, okB_truth, w4, R.st_ok, if_neg (by decide), execs_nil]
abbrev s_same : S := .ifs (.op .ne [(.op .eq [(.call 3 [(.v 5)]), (.call 3 [(.v 6)])]), (.op .eq [(.v 5), (.v 6)])]) [(.ret (.c (.bl false)))] []
theorem do_same {x y : D} {a0 a1' a2' a3 a4 a7 a8 a9 a10 : Option SV} {k b : Nat} (gx : Good k b x) (gy : Good k b y) (hk : k ≤ 59) (hb : b < 900) (h : Hm) :
    ∃ h', exec (AR.run prog 65) s_same [a0, a1', a2', a3, a4, some (.d x), some (.d y), a7, a8, a9, a10] h = .nx [a0, a1', a2', a3, a4, some (.d x), some (.d y), a7, a8, a9, a10] h' ∧ Keep h h' := by
  have mx := gx.mu
  have my := gy.mu
  have dx := gx.dp
  have dy := gy.dp
  obtain ⟨h1, w1, k1⟩ := run_text_rd (n := 62) (h := h) gx.rd (by omega) (gx.val hk)
  obtain ⟨h2, w2, k2⟩ := run_text_rd (n := 62) (h := h1) gy.rd (by omega) (gy.val hk)
  refine ⟨h2, ?_, k1.trans k2⟩
  rw [exec_ifs, evE_op, evEs_cons, evE_op, evEs_cons, evE_call, evEs_cons, evE_v]
  have same : (textOf x == textOf y) = PyData.eqv (pd x) (pd y) := by
    rw [Bool.eq_iff_iff, str_eq, eqv_iff x y gx.rd gy.rd]
    exact text_inj gx gy hk hk
  simp only [getV, List.getElem?_cons_succ, List.getElem?_cons_zero, R.bind_ok, evEs_nil, w1, evEs_cons, evE_call, evE_v, w2, evE_op, or2, op, a2, eqP_str h2 (text_ok gx.rd) (text_ok gy.rd), eqP_rd h2 gx.rd gy.rd (by omega) (by omega), asB, toSV_ok, same, eqP_bl, beq_self_eq_true, Option.map_some, Bool.not_true, truth_ok, R.st_ok, Bool.false_eq_true, if_false, execs_nil]
theorem tx_app {a b : Str} {m : Nat} (x : PyData.strOk a = true) (y : PyData.strOk b = true) : PyData.strOk (a ++ b) = true := by
  rw [strOk_list] at *
  intro c hc
  have e : (a ++ b).cps.toList = a.cps.toList ++ b.cps.toList := TL.tl_append a b
  rw [e] at hc
  rcases List.mem_append.mp hc with hc | hc
  · exact x c hc
  · exact y c hc
theorem len_hi (t : Str) (j : Nat) : (cutS t none (some (j : Int))).length ≤ j ∧ (cutS t none (some (j : Int))).length ≤ t.length := by
  have := congrArg List.length (tl_cut_hi t j)
  rw [tl_len, List.length_take, tl_len] at this
  omega
theorem len_lo (t : Str) (j : Nat) : (cutS t (some (j : Int)) none).length = t.length - j := by
  have := congrArg List.length (tl_cut_lo t j)
  rw [tl_len, List.length_drop, tl_len] at this
  exact this
abbrev e_signs : List E := [(.c (.str "(")), (.c (.str ")")), (.c (.str " ")), (.c (.str "A"))]
abbrev signs4 : List D := [.str "(", .str ")", .str " ", .str "A"]
theorem sign4 {x : D} (h : x ∈ signs4) : ∃ z : Str, x = .str z ∧ PyData.strOk z = true ∧ z.length = 1 := by
  simp only [signs4, List.mem_cons, List.mem_nil_iff, or_false] at h
  rcases h with rfl | rfl | rfl | rfl <;> exact ⟨_, rfl, by decide +kernel, by decide +kernel⟩
abbrev e_bents : List E := [(.op .add [(.op .add [(.op .slH [(.v 7), (.v 8)]), (.call 11 [(.v 1), (.op .lst e_signs)])]), (.op .slL [(.v 7), (.v 8)])]), (.op .add [(.op .slH [(.v 7), (.v 8)]), (.op .slL [(.v 7), (.op .add [(.v 8), (.c (.int 1))])])])]
theorem dAdd_str {h : Hm} {a b : Str} (l : a.length + b.length ≤ 1000000) : dAdd h (.str a) (.str b) = .ok (.str (a ++ b)) h := by
  have sb := sizeLine_big
  show (if a.length + b.length ≤ sizeLine then R.ok (D.str (a ++ b)) h else .stuck) = _
  rw [if_pos (by omega)]
theorem ev_bents {s g c T j : Nat} {cells : List Int} {t : Str} {a0 a2' a3 a4 a5 a6 a9 a10 : Option SV} {h : Hm} (v : St s g c cells T h) (hc : cells.length < 1000000) (hT : T < 900000) (tx : Tx t) (tl : t.length < 1000) :
    ∃ h' z, evEs (AR.run prog 65) e_bents [a0, some (.d (.ref s)), a2', a3, a4, a5, a6, some (.d (.str t)), some (.d (.int j)), a9, a10] h = .ok ([D.str (cutS t none (some (j : Int)) ++ z ++ cutS t (some (j : Int)) none), D.str (cutS t none (some (j : Int)) ++ cutS t (some ((j : Int) + 1)) none)].map SV.d) h' ∧ PyData.strOk z = true ∧ z.length = 1 ∧ St s g c cells (T + 1) h' ∧ KeepB2 s g h h' := by
  obtain ⟨h1, x, w1, w2, w3, w4⟩ := pick_new (n := 62) (i := 1) (xs := signs4) (es := e_signs) (env := [a0, some (.d (.ref s)), a2', a3, a4, a5, a6, some (.d (.str t)), some (.d (.int j)), a9, a10]) v hc (by omega) (by decide) (by decide) (by rfl) rfl
  obtain ⟨z, rfl, zk, zl⟩ := sign4 w2
  refine ⟨h1, z, ?_, zk, zl, w3, w4⟩
  have c1 := cutS_length t none (some (j : Int))
  have c2 := cutS_length t (some (j : Int)) none
  have c3 := cutS_length t (some ((j : Int) + 1)) none
  have s1 : ∀ h, dSlH h (.str t) (.int j) = .ok (.str (cutS t none (some (j : Int)))) h := fun h => slD_cut tx _ _
  have s2 : ∀ h, dSlL h (.str t) (.int j) = .ok (.str (cutS t (some (j : Int)) none)) h := fun h => slD_cut tx _ _
  have s3 : ∀ h, dSlL h (.str t) (.int ((j : Int) + 1)) = .ok (.str (cutS t (some ((j : Int) + 1)) none)) h := fun h => slD_cut tx _ _
  rw [evEs_cons, evE_op, evEs_cons, evE_op, evEs_cons, evE_op, evEs_cons, evE_v]
  simp only [getV, List.getElem?_cons_succ, List.getElem?_cons_zero, R.bind_ok, evEs_cons, evEs_nil, evE_v, or2, op, a2, s1, toSV_ok]
  rw [w1]
  simp only [R.bind_ok, evEs_nil, or2, op, a2, toSV_ok]
  rw [dAdd_str (by omega)]
  simp only [toSV_ok, R.bind_ok, evE_op, evEs_cons, evEs_nil, evE_v, evE_c, getV, List.getElem?_cons_succ, List.getElem?_cons_zero, or2, op, a2, s2]
  rw [dAdd_str (by rw [Str.length_append]; omega)]
  simp only [toSV_ok, R.bind_ok, evE_op, evEs_cons, evEs_nil, evE_v, evE_c, getV, List.getElem?_cons_succ, List.getElem?_cons_zero, or2, op, a2, s1, dAdd, s3]
  have d3 : ∀ a b : Str, a.length + b.length ≤ 1000000 → (if a.length + b.length ≤ sizeLine then R.ok (D.str (a ++ b)) h1 else .stuck) = .ok (.str (a ++ b)) h1 := fun a b l => dAdd_str l
  rw [d3 _ _ (by omega)]
  rfl
abbrev s_bent : S := .asg (.nm 9) (.call 11 [(.v 1), (.op .lst e_bents)])
theorem do_bent {s g c T j : Nat} {cells : List Int} {t : Str} {a0 a2' a3 a4 a5 a6 a9 a10 : Option SV} {h : Hm} (v : St s g c cells T h) (hc : cells.length < 1000000) (hT : T < 900000) (tx : Tx t) (tl : t.length < 890) (hj : j ≤ t.length) :
    ∃ h' b, exec (AR.run prog 65) s_bent [a0, some (.d (.ref s)), a2', a3, a4, a5, a6, some (.d (.str t)), some (.d (.int j)), a9, a10] h = .nx [a0, some (.d (.ref s)), a2', a3, a4, a5, a6, some (.d (.str t)), some (.d (.int j)), some (.d (.str b)), a10] h' ∧ Tx b ∧ b.length ≤ 900 ∧ St s g c cells (T + 2) h' ∧ KeepB2 s g h h' := by
  obtain ⟨h1, z, w1, zk, zl, w2, w3⟩ := ev_bents (j := j) (a0 := a0) (a2' := a2') (a3 := a3) (a4 := a4) (a5 := a5) (a6 := a6) (a9 := a9) (a10 := a10) v hc hT tx (by omega)
  have kN := Keep.app h1 [HOb.lst [D.str (cutS t none (some (j : Int)) ++ z ++ cutS t (some (j : Int)) none), D.str (cutS t none (some (j : Int)) ++ cutS t (some ((j : Int) + 1)) none)]]
  obtain ⟨l1, l2, l3⟩ := w2.lt
  obtain ⟨h2, x, p1, p2, p3, p4⟩ := run_pick (n := 62) (w2.grow kN (Nat.le_refl _)) hc (by omega) (at_new h1 _) (by omega) (by omega) (by simp) (by simp)
  have c1 := len_hi t j
  have c2 := len_lo t j
  have c3 := cutS_length t (some ((j : Int) + 1)) none
  have key : ∃ b, x = .str b ∧ PyData.strOk b = true ∧ b.length ≤ 900 := by
    simp only [List.mem_cons, List.mem_nil_iff, or_false] at p2
    rcases p2 with rfl | rfl
    · refine ⟨_, rfl, tx_app (m := 0) (tx_app (m := 0) (strOk_cut tx.ok _ _) zk) (strOk_cut tx.ok _ _), ?_⟩
      rw [Str.length_append, Str.length_append]
      omega
    · refine ⟨_, rfl, tx_app (m := 0) (strOk_cut tx.ok _ _) (strOk_cut tx.ok _ _), ?_⟩
      rw [Str.length_append]
      have c4 := len_lo t (j + 1)
      have c5 : ((j + 1 : Nat) : Int) = (j : Int) + 1 := by omega
      rw [c5] at c4
      omega
  obtain ⟨b, rfl, bk, bl⟩ := key
  refine ⟨h2, b, ?_, ⟨bk, ?_⟩, bl, p3, (w3.trans (Keep.b2 kN s g)).trans p4⟩
  · rw [exec_asg, evE_call, evEs_cons, evE_v]
    simp only [getV, List.getElem?_cons_succ, List.getElem?_cons_zero, R.bind_ok]
    rw [evEs_cons, evE_op, w1]
    simp only [R.bind_ok, opRun, allD_map, op]
    rw [newL_ok _ _ (by simp)]
    simp only [toSV_ok, R.bind_ok, evEs_nil, p1, R.st_ok]
    rfl
  · show b.length < _
    omega
abbrev s_last : S := .ifs (.and (.op .ne [(.v 10), (.op .tup [(.c (.str "text")), (.c (.int 0))])]) (.or (.not (.call 16 [(.v 10)])) (.op .ne [(.call 15 [(.v 10)]), (.v 9)]))) [(.ret (.c (.bl false)))] []
theorem rv_some {t : Str} {x : D} (tx : Tx t) (tl : t.length ≤ 900) (e : rv t = some x) : rd x = true ∧ mu x < 850000 ∧ dp x ≤ 59 ∧ textOf x = t := by
  unfold rv at e
  rcases pieces_rd tx tl with p | ⟨y, p, r, m⟩
  · rw [p] at e; cases e
  · rw [p] at e
    simp only at e
    split at e
    · rename_i c
      cases e
      simp only [Bool.and_eq_true] at c
      exact ⟨r, m, dp_isVal c.1, str_eq.mp c.2⟩
    · cases e
theorem do_told {b : Str} {a0 a1' a2' a3 a4 a5 a6 a7 a8 a10 : Option SV} {h : Hm} (tx : Tx b) (tl : b.length ≤ 900) :
    ∃ h' x, exec (AR.run prog 65) (.asg (.nm 10) (.callL 14 24 [9])) [a0, a1', a2', a3, a4, a5, a6, a7, a8, some (.d (.str b)), a10] h = .nx [a0, a1', a2', a3, a4, a5, a6, a7, a8, some (.d (.str b)), some (.d x)] h' ∧ Keep h h' ∧ (x = d_text0 ∨ rv b = some x) := by
  have mo : mapO (fun j => (([a0, a1', a2', a3, a4, a5, a6, a7, a8, some (.d (.str b)), a10] : AR.Env)[j]?).join) [9] = some [.d (.str b)] := rfl
  rw [exec_asg, evE_callL, mo]
  cases e : rv b with
  | none =>
    obtain ⟨h1, w1, w2⟩ := told_exc (n := 61) (l := 24) (caps := [.d (.str b)]) (h := h) (lam_read_exc (m := 57) (l := 24) (x := .str b) rfl (Or.inl ⟨b, rfl, tx, tl, e⟩))
    refine ⟨h1, d_text0, ?_, w2, Or.inl rfl⟩
    simp only [lamRun, w1, R.st_ok]
    rfl
  | some x =>
    obtain ⟨h1, w1, w2⟩ := told_ok (n := 61) (l := 24) (caps := [.d (.str b)]) (h := h) (lam_read_ok (m := 57) (l := 24) rfl tx tl e)
    refine ⟨h1, x, ?_, w2, Or.inr rfl⟩
    simp only [lamRun, w1, R.st_ok]
    rfl
theorem do_last {b : Str} {x : D} {a0 a1' a2' a3 a4 a5 a6 a7 a8 : Option SV} {h : Hm} (tx : Tx b) (tl : b.length ≤ 900) (hx : x = d_text0 ∨ rv b = some x) :
    ∃ h', exec (AR.run prog 65) s_last [a0, a1', a2', a3, a4, a5, a6, a7, a8, some (.d (.str b)), some (.d x)] h = .nx [a0, a1', a2', a3, a4, a5, a6, a7, a8, some (.d (.str b)), some (.d x)] h' ∧ Keep h h' := by
  rw [exec_ifs, evE_and, evE_op, evEs_cons, evE_v]
  rcases hx with rfl | e
  · refine ⟨h, ?_, Keep.refl _⟩
    simp only [getV, List.getElem?_cons_succ, List.getElem?_cons_zero, R.bind_ok, evEs_cons, evEs_nil, evE_op, evE_c, or2, op, newT2, toSV_ok, a2, eqP_text0, Option.map_some, Bool.not_true, asB, truth_ok, Bool.false_eq_true, if_false, okB_eq, R.st_ok, execs_nil]
  · obtain ⟨r, m, d, te⟩ := rv_some tx tl e
    obtain ⟨h1, w1, w2⟩ := run_lplain 64 x r (by omega) (by omega) h
    obtain ⟨h2, z1, z2⟩ := run_lvt 64 x r (by omega) (by omega) h1
    rw [te] at z1
    have eqq := eqP_rd h r text0_rd (by omega) (by simp [dp, dpS])
    simp only [getV, List.getElem?_cons_succ, List.getElem?_cons_zero, R.bind_ok, evEs_cons, evEs_nil, evE_op, evE_c, or2, op, newT2, toSV_ok, a2, eqq, Option.map_some, asB, truth_ok]
    cases PyData.eqv (pd x) (pd d_text0) with
    | true => exact ⟨h, rfl, Keep.refl _⟩
    | false =>
      refine ⟨h2, ?_, w2.trans z2⟩
      simp only [Bool.not_false, if_pos, evE_or, evE_not, evE_call, evEs_cons, evEs_nil, evE_v, getV, List.getElem?_cons_succ, List.getElem?_cons_zero, R.bind_ok, w1, truth_ok, Bool.not_true, okB_eq, Bool.false_eq_true, if_false, evE_op, z1, or2, op, a2, eqP_str h2 tx.ok tx.ok, beq_self_eq_true, Option.map_some, asB, toSV_ok, R.st_ok, execs_nil]
end K88
end AR
end
section
set_option Elab.async false
set_option linter.all false
set_option maxRecDepth 100000
set_option maxHeartbeats 4000000
namespace AR
namespace K88
open PySem L2 PySem.Spec PyProof.Rows
/-! ## the law -/
abbrev b_turn : List S := [(.par 5 6 (.call 17 [(.v 1), (.c (.int 3))]) (.call 17 [(.v 1), (.c (.int 3))])), (.asg (.nm 7) (.call 15 [(.v 5)])), s_four, s_same, (.asg (.nm 8) (.call 10 [(.v 1), (.op .add [(.op .len [(.v 7)]), (.c (.int 1))])])), s_bent, (.asg (.nm 10) (.callL 14 24 [9])), s_last]
theorem do_turn {s g c T : Nat} {cells : List Int} {a0 a2' a3 a4 a5 a6 a7 a8 a9 a10 : Option SV} {h : Hm} (v : St s g c cells T h) (hc : cells.length < 1000000) (hT : T < 800000) :
    ∃ h' b5 b6 b7 b8 b9 b10, execs (AR.run prog 65) b_turn [a0, some (.d (.ref s)), a2', a3, a4, a5, a6, a7, a8, a9, a10] h = .nx [a0, some (.d (.ref s)), a2', a3, a4, b5, b6, b7, b8, b9, b10] h' ∧ St s g c cells (T + 170) h' := by
  have c3 : cnt 3 = 80 := by decide
  obtain ⟨h1, x, w1, w2, w3, w4⟩ := run_some hc 3 58 T h (by decide) v (by omega)
  obtain ⟨h2, y, y1, y2, y3, y4⟩ := run_some hc 3 58 (T + cnt 3) h1 (by decide) w3 (by omega)
  have w1' : AR.run prog 65 17 [.d (.ref s), .d (.int 3)] [] h = .ok (.d x) h1 := w1
  have y1' : AR.run prog 65 17 [.d (.ref s), .d (.int 3)] [] h1 = .ok (.d y) h2 := y1
  have gx := good_dv w2
  have gy := good_dv y2
  rw [mx3] at gx gy
  have mx := gx.mu
  have dx := gx.dp
  have tx := gx.tx (by decide)
  obtain ⟨h3, z1, z2⟩ := run_lvt 64 x gx.rd (by omega) (by omega) h2
  obtain ⟨h4, f1, f2⟩ := do_four (a0 := a0) (a1' := some (.d (.ref s))) (a2' := a2') (a3 := a3) (a4 := a4) (a6 := some (.d y)) (a8 := a8) (a9 := a9) (a10 := a10) gx (by decide) (by decide) h3
  obtain ⟨h5, s1, s2⟩ := do_same (a0 := a0) (a1' := some (.d (.ref s))) (a2' := a2') (a3 := a3) (a4 := a4) (a7 := some (.d (.str (textOf x)))) (a8 := a8) (a9 := a9) (a10 := a10) gx gy (by decide) (by decide) h4
  have v5 : St s g c cells (T + cnt 3 + cnt 3) h5 := y3.grow ((z2.trans f2).trans s2) (Nat.le_refl _)
  obtain ⟨h6, j', d1, d2, d3, d4, d5⟩ := run_draw (n := 63) (room := (((textOf x).length : Nat) : Int) + 1) v5 hc (by omega) (by omega) (by omega)
  obtain ⟨j, rfl⟩ : ∃ j : Nat, j' = j := ⟨j'.toNat, by omega⟩
  obtain ⟨h7, b, b1, b2, b3, b4, b5⟩ := do_bent (j := j) (a0 := a0) (a2' := a2') (a3 := a3) (a4 := a4) (a5 := some (.d x)) (a6 := some (.d y)) (a9 := a9) (a10 := a10) d4 hc (by omega) tx.1 (by omega) (by omega)
  obtain ⟨h8, z, t1, t2, t3⟩ := do_told (a0 := a0) (a1' := some (.d (.ref s))) (a2' := a2') (a3 := a3) (a4 := a4) (a5 := some (.d x)) (a6 := some (.d y)) (a7 := some (.d (.str (textOf x)))) (a8 := some (.d (.int j))) (a10 := a10) (h := h7) b2 b3
  obtain ⟨h9, l1, l2⟩ := do_last (a0 := a0) (a1' := some (.d (.ref s))) (a2' := a2') (a3 := a3) (a4 := a4) (a5 := some (.d x)) (a6 := some (.d y)) (a7 := some (.d (.str (textOf x)))) (a8 := some (.d (.int j))) (h := h8) b2 b3 t3
  refine ⟨h9, some (.d x), some (.d y), some (.d (.str (textOf x))), some (.d (.int j)), some (.d (.str b)), some (.d z), ?_, b4.grow (t2.trans l2) (by omega)⟩
  have e1 : exec (AR.run prog 65) (.par 5 6 (.call 17 [(.v 1), (.c (.int 3))]) (.call 17 [(.v 1), (.c (.int 3))])) [a0, some (.d (.ref s)), a2', a3, a4, a5, a6, a7, a8, a9, a10] h = .nx [a0, some (.d (.ref s)), a2', a3, a4, some (.d x), some (.d y), a7, a8, a9, a10] h2 := by
    rw [exec_par, evE_call, evEs_cons, evE_v]
    simp only [getV, List.getElem?_cons_succ, List.getElem?_cons_zero, R.bind_ok, evEs_cons, evEs_nil, evE_c, w1', R.st_ok, evE_call, evE_v, y1']
    rfl
  have e2 : exec (AR.run prog 65) (.asg (.nm 7) (.call 15 [(.v 5)])) [a0, some (.d (.ref s)), a2', a3, a4, some (.d x), some (.d y), a7, a8, a9, a10] h2 = .nx [a0, some (.d (.ref s)), a2', a3, a4, some (.d x), some (.d y), some (.d (.str (textOf x))), a8, a9, a10] h3 := by
    rw [exec_asg, evE_call, evEs_cons, evE_v]
    simp only [getV, List.getElem?_cons_succ, List.getElem?_cons_zero, R.bind_ok, evEs_nil, z1, R.st_ok]
    rfl
  have e3 : exec (AR.run prog 65) (.asg (.nm 8) (.call 10 [(.v 1), (.op .add [(.op .len [(.v 7)]), (.c (.int 1))])])) [a0, some (.d (.ref s)), a2', a3, a4, some (.d x), some (.d y), some (.d (.str (textOf x))), a8, a9, a10] h5 = .nx [a0, some (.d (.ref s)), a2', a3, a4, some (.d x), some (.d y), some (.d (.str (textOf x))), some (.d (.int j)), a9, a10] h6 := by
    have ln : dLen h5 (.str (textOf x)) = .ok (.int (textOf x).length) h5 := dLen_str tx.1
    rw [exec_asg, evE_call, evEs_cons, evE_v]
    simp only [getV, List.getElem?_cons_succ, List.getElem?_cons_zero, R.bind_ok, evEs_cons, evEs_nil, evE_op, evE_v, evE_c, or1, or2, op, a1, a2, ln, toSV_ok, dAdd, d1, R.st_ok]
    rfl
  rw [execs_cons, e1, seq_nx, execs_cons, e2, seq_nx, execs_cons, f1, seq_nx, execs_cons, s1, seq_nx, execs_cons, e3, seq_nx, execs_cons, b1, seq_nx, execs_cons, t1, seq_nx, execs_cons, l1, seq_nx, execs_nil]
def tN (k : Nat) : Str := Txt.mul "(" k ++ "a" ++ Txt.mul ")" k
abbrev e_tN (k : Int) : E := .op .add [(.op .add [(.op .mul [(.c (.str "(")), (.c (.int k))]), (.c (.str "a"))]), (.op .mul [(.c (.str ")")), (.c (.int k))])]
theorem ev_t59 {K : Nat → List SV → List SV → Hm → R SV} {env : AR.Env} {h : Hm} : evE K (e_tN 59) env h = .ok (.d (.str (tN 59))) h := by
  have m1 : dMul h (.str "(") (.int 59) = .ok (.str (Txt.mul "(" 59)) h := by
    show (if (0 : Int) ≤ 59 ∧ (59 : Int) < 2 ^ 20 ∧ ("(" : Str).length * (59 : Int).toNat ≤ 2 ^ 20 then R.ok (D.str (Txt.mul "(" 59)) h else .stuck) = _
    rw [if_pos (by decide +kernel)]
  have m2 : dMul h (.str ")") (.int 59) = .ok (.str (Txt.mul ")" 59)) h := by
    show (if (0 : Int) ≤ 59 ∧ (59 : Int) < 2 ^ 20 ∧ (")" : Str).length * (59 : Int).toNat ≤ 2 ^ 20 then R.ok (D.str (Txt.mul ")" 59)) h else .stuck) = _
    rw [if_pos (by decide +kernel)]
  have p1 := dAdd_str (h := h) (a := Txt.mul "(" 59) (b := "a") (by decide +kernel)
  have p2 := dAdd_str (h := h) (a := Txt.mul "(" 59 ++ "a") (b := Txt.mul ")" 59) (by decide +kernel)
  simp only [evE_op, evEs_cons, evEs_nil, evE_c, R.bind_ok, or2, op, a2, m1, m2, p1, p2, toSV_ok]
  rfl
theorem ev_t60 {K : Nat → List SV → List SV → Hm → R SV} {env : AR.Env} {h : Hm} : evE K (e_tN 60) env h = .ok (.d (.str (tN 60))) h := by
  have m1 : dMul h (.str "(") (.int 60) = .ok (.str (Txt.mul "(" 60)) h := by
    show (if (0 : Int) ≤ 60 ∧ (60 : Int) < 2 ^ 20 ∧ ("(" : Str).length * (60 : Int).toNat ≤ 2 ^ 20 then R.ok (D.str (Txt.mul "(" 60)) h else .stuck) = _
    rw [if_pos (by decide +kernel)]
  have m2 : dMul h (.str ")") (.int 60) = .ok (.str (Txt.mul ")" 60)) h := by
    show (if (0 : Int) ≤ 60 ∧ (60 : Int) < 2 ^ 20 ∧ (")" : Str).length * (60 : Int).toNat ≤ 2 ^ 20 then R.ok (D.str (Txt.mul ")" 60)) h else .stuck) = _
    rw [if_pos (by decide +kernel)]
  have p1 := dAdd_str (h := h) (a := Txt.mul "(" 60) (b := "a") (by decide +kernel)
  have p2 := dAdd_str (h := h) (a := Txt.mul "(" 60 ++ "a") (b := Txt.mul ")" 60) (by decide +kernel)
  simp only [evE_op, evEs_cons, evEs_nil, evE_c, R.bind_ok, or2, op, a2, m1, m2, p1, p2, toSV_ok]
  rfl
theorem good_nest : ∀ k, Good k (14 + 7 * k) (nestD k (.str "a"))
  | 0 => good_atomW (by simp [nestD])
  | k + 1 => by
    have g := good_tup (k := k) (b := 14 + 7 * k) (xs := [nestD k (.str "a")]) (by
      intro x hx
      simp at hx
      subst hx
      exact good_nest k)
    simp only [nestD]
    refine g.mono ?_
    simp only [List.length_cons, List.length_nil]
    omega
theorem text59 : textOf (nestD 59 (.str "a")) = tN 59 := str_eq.mp (by decide +kernel)
theorem no60 : noText (.str (tN 60)) = true := by decide +kernel
abbrev s_deep : S := .ifs (.or (.not (.call 12 [(.call 3 [(.v 3)]), e_tN 59])) (.or (.op .ne [(.call 7 [e_tN 59]), (.v 3)]) (.op .ne [(.callL 14 22 []), (.op .tup [(.c (.str "text")), (.c (.int 0))])]))) [(.ret (.c (.bl false)))] []
theorem do_deep {a0 a1' a2' a4 a5 a6 a7 a8 a9 a10 : Option SV} {h : Hm} :
    ∃ h', exec (AR.run prog 65) s_deep [a0, a1', a2', some (.d (nestD 59 (.str "a"))), a4, a5, a6, a7, a8, a9, a10] h = .nx [a0, a1', a2', some (.d (nestD 59 (.str "a"))), a4, a5, a6, a7, a8, a9, a10] h' ∧ Keep h h' := by
  have gd := good_nest 59
  have m := gd.mu
  have tx := gd.tx (by decide)
  have rvx := gd.rv (by decide)
  rw [text59] at tx rvx
  obtain ⟨h1, w1, k1⟩ := run_text_rd (n := 62) (h := h) gd.rd (by omega) (gd.val (by decide))
  rw [text59] at w1
  obtain ⟨h2, w2, k2⟩ := run_is 64 (.str (tN 59)) (by simpa [rd] using tx.1.ok) (by simp only [mu]; omega) (by simp [dp]) h1
  obtain ⟨h3, w3, k3⟩ := run_read (n := 61) (h := h2) tx.1 (by omega)
  rw [rvx] at w3
  have eqd : eqP h3 (nestD 59 (.str "a")) (nestD 59 (.str "a")) = some true := by
    rw [eqP_rd h3 gd.rd gd.rd (by have := gd.dp; omega) (by have := gd.dp; omega), (eqv_iff _ _ gd.rd gd.rd).mpr rfl]
  have lam22 : ∀ hB, Keep h3 hB → ∃ h1, AR.run prog (57 + 4 + 1) 22 [] [] hB = .exc e_text h1 ∧ Keep hB h1 := by
    intro hB k
    rcases noText_of no60 with ⟨t, e, tx, tl, er⟩ | e
    · cases e
      obtain ⟨h1, w1, w2⟩ := run_read (n := 57) (h := hB) tx tl
      rw [er] at w1
      refine ⟨h1, ?_, w2⟩
      rw [run_def (d := ⟨0, 0, 0, [.ret i_22]⟩) rfl rfl rfl]
      show finish (execs (AR.run prog (57 + 4)) [.ret (.call 7 [e_tN 60])] [] hB) = _
      rw [execs_cons, exec_ret, evE_call, evEs_cons, ev_t60]
      simp only [R.bind_ok, evEs_nil, w1, R.st_exc, seq_exc, fin_exc]
    · exact absurd (e hB) (by simp [isiD, tyOf, isiTy])
  obtain ⟨h4, w4, k4⟩ := told_exc (n := 61) (l := 22) (caps := []) (h := h3) lam22
  refine ⟨h4, ?_, ((k1.trans k2).trans k3).trans k4⟩
  have c1 : truth (evE (AR.run prog 65) (.not (.call 12 [(.call 3 [(.v 3)]), e_tN 59])) [a0, a1', a2', some (.d (nestD 59 (.str "a"))), a4, a5, a6, a7, a8, a9, a10] h) = .ok false h2 := by
    rw [evE_not, evE_call, evEs_cons, evE_call, evEs_cons, evE_v]
    simp only [getV, List.getElem?_cons_succ, List.getElem?_cons_zero, R.bind_ok, evEs_nil, w1]
    rw [evEs_cons, ev_t59]
    simp only [R.bind_ok, evEs_nil, w2, truth_ok, Bool.not_true, okB_eq]
  have c2 : truth (evE (AR.run prog 65) (.op .ne [(.call 7 [e_tN 59]), (.v 3)]) [a0, a1', a2', some (.d (nestD 59 (.str "a"))), a4, a5, a6, a7, a8, a9, a10] h2) = .ok false h3 := by
    rw [evE_op, evEs_cons, evE_call, evEs_cons, ev_t59]
    simp only [R.bind_ok, evEs_nil, w3, evEs_cons, evE_v, getV, List.getElem?_cons_succ, List.getElem?_cons_zero, or2, op, a2, eqd, Option.map_some, Bool.not_true, asB, toSV_ok, truth_ok]
  have c3 : truth (evE (AR.run prog 65) (.op .ne [(.callL 14 22 []), (.op .tup [(.c (.str "text")), (.c (.int 0))])]) [a0, a1', a2', some (.d (nestD 59 (.str "a"))), a4, a5, a6, a7, a8, a9, a10] h3) = .ok false h4 := by
    rw [evE_op, evEs_cons, evE_callL]
    have w4' : lamRun (AR.run prog 65) 14 22 (mapO (fun j : Nat => (([a0, a1', a2', some (.d (nestD 59 (.str "a"))), a4, a5, a6, a7, a8, a9, a10] : AR.Env)[j]?).join) []) h3 = .ok (.d d_text0) h4 := w4
    rw [w4']
    simp only [R.bind_ok, evEs_cons, evE_op, evE_c, evEs_nil, or2, op, newT2, toSV_ok, a2, eqP_text0, Option.map_some, Bool.not_true, asB, truth_ok]
  rw [exec_ifs, or_false' c1, okB_truth, or_false' c2, okB_truth, c3, R.st_ok, if_neg (by decide), execs_nil]
theorem lawRun (ns : List Int) (hl : ns.length ≤ 63) (o : HOb) (hs : isScript ns o) : ∃ hm', AR.run prog 66 19 [.d (.ref 0)] [] [o] = .ok (.d (.bl true)) hm' := by
  rw [run_def (d := ⟨1, 0, 11, i_law⟩) rfl rfl rfl]
  show ∃ hm', finish (execs (AR.run prog 65) i_law [some (.d (.ref 0)), none, none, none, none, none, none, none, none, none, none] [o]) = _
  have fp := fuel_pos.2
  -- begun
  obtain ⟨h1, s, g, c, cells, b1, b2, b3, b4⟩ := run_begun (n := 64) (p := 0) (h := [o]) hs rfl (by omega)
  have e1 : exec (AR.run prog 65) (.asg (.nm 1) (.call 8 [(.v 0)])) [some (.d (.ref 0)), none, none, none, none, none, none, none, none, none, none] [o] = .nx [some (.d (.ref 0)), some (.d (.ref s)), none, none, none, none, none, none, none, none, none] h1 := by
    rw [exec_asg, evE_call, evEs_cons, evE_v]
    simp only [getV, List.getElem?_cons_zero, R.bind_ok, evEs_nil, b1, R.st_ok]
    rfl
  -- no values
  have kA := Keep.app h1 [HOb.lst [.str "a"]]
  have kB := Keep.app (h1 ++ [HOb.lst [.str "a"]]) [HOb.lst [.str "b"]]
  have kC := Keep.app (h1 ++ [HOb.lst [.str "a"]] ++ [HOb.lst [.str "b"]]) [HOb.lst (things1 h1.length (h1 ++ [HOb.lst [.str "a"]]).length)]
  have lists1 : evEs (AR.run prog 65) [(.op .lst e_things1)] [some (.d (.ref 0)), some (.d (.ref s)), none, none, none, none, none, none, none, none, none] h1 = .ok ([D.ref (h1 ++ [HOb.lst [.str "a"]] ++ [HOb.lst [.str "b"]]).length].map SV.d) (h1 ++ [HOb.lst [.str "a"]] ++ [HOb.lst [.str "b"]] ++ [HOb.lst (things1 h1.length (h1 ++ [HOb.lst [.str "a"]]).length)]) := by
    rw [evEs_cons, evE_op, ev_things1 (n := 64)]
    simp only [R.bind_ok, opRun, allD_map, op]
    rw [newL_ok _ _ (by simp)]
    simp only [toSV_ok, R.bind_ok, evEs_nil]
    rfl
  have q1 := at_new (h1 ++ [HOb.lst [.str "a"]] ++ [HOb.lst [.str "b"]]) (HOb.lst (things1 h1.length (h1 ++ [HOb.lst [.str "a"]]).length))
  obtain ⟨u2, h2, l1, l2⟩ := chk_loop (K := AR.run prog 65) (l := 21) (a0 := some (.d (.ref 0))) (a1' := some (.d (.ref s))) (e2 := none) (a3 := none) (a4 := none) (a5 := none) (a6 := none) (a7 := none) (a8 := none) (a9 := none) (a10 := none) q1 (by simp) (fun x hx h' k => by
    obtain ⟨p1, p2, p3⟩ := things1_bad (h := h') (k _ _ (kC _ _ (kB _ _ (at_new h1 (HOb.lst [.str "a"]))))) (k _ _ (kC _ _ (at_new (h1 ++ [HOb.lst [.str "a"]]) (HOb.lst [.str "b"])))) x hx
    exact told_exc (n := 61) (l := 21) (caps := [.d x]) (h := h') (lam21 (m := 58) p1 p2 p3))
  have e2 : exec (AR.run prog 65) (.for (.nm 2) .seq [(.op .lst e_things1)] (s_chk 21)) [some (.d (.ref 0)), some (.d (.ref s)), none, none, none, none, none, none, none, none, none] h1 = .nx [some (.d (.ref 0)), some (.d (.ref s)), u2, none, none, none, none, none, none, none, none] h2 := by
    rw [for_run lists1 (j := .lst (h1 ++ [HOb.lst [.str "a"]] ++ [HOb.lst [.str "b"]]).length) (by simp only [itOf, i1, itSeq, q1]), l1]
  -- the deepest
  have e3 : exec (AR.run prog 65) (.asg (.nm 3) (.call 18 [(.c (.int 59)), (.c (.str "a"))])) [some (.d (.ref 0)), some (.d (.ref s)), u2, none, none, none, none, none, none, none, none] h2 = .nx [some (.d (.ref 0)), some (.d (.ref s)), u2, some (.d (nestD 59 (.str "a"))), none, none, none, none, none, none, none] h2 := by
    have nst : AR.run prog 65 18 [.d (.int 59), .d (.str "a")] [] h2 = .ok (.d (nestD 59 (.str "a"))) h2 := run_nested (n := 64) (k := 59) (d := .str "a") (h := h2) (by decide)
    rw [exec_asg, evE_call, evEs_cons, evE_c]
    simp only [R.bind_ok, evEs_cons, evE_c, evEs_nil, nst, R.st_ok]
    rfl
  obtain ⟨h3, e4, k3⟩ := do_deep (a0 := some (.d (.ref 0))) (a1' := some (.d (.ref s))) (a2' := u2) (a4 := none) (a5 := none) (a6 := none) (a7 := none) (a8 := none) (a9 := none) (a10 := none) (h := h2)
  -- no texts
  have kD := Keep.app h3 [HOb.lst things2]
  have lists2 : evEs (AR.run prog 65) [(.op .lst (things2.map E.c))] [some (.d (.ref 0)), some (.d (.ref s)), u2, some (.d (nestD 59 (.str "a"))), none, none, none, none, none, none, none] h3 = .ok ([D.ref h3.length].map SV.d) (h3 ++ [HOb.lst things2]) := by
    have ec : ∀ (l : List D) (env : AR.Env), evEs (AR.run prog 65) (l.map E.c) env h3 = .ok (l.map SV.d) h3 := by
      intro l env
      induction l with
      | nil => rfl
      | cons x l ih => rw [List.map_cons, evEs_cons, evE_c, R.bind_ok, ih]; rfl
    rw [evEs_cons, evE_op, ec]
    simp only [R.bind_ok, opRun, allD_map, op]
    rw [newL_ok _ _ (by simp)]
    simp only [toSV_ok, R.bind_ok, evEs_nil]
    rfl
  have q2 := at_new h3 (HOb.lst things2)
  obtain ⟨u2', h4, m1, m2⟩ := chk_loop (K := AR.run prog 65) (l := 23) (a0 := some (.d (.ref 0))) (a1' := some (.d (.ref s))) (e2 := u2) (a3 := some (.d (nestD 59 (.str "a")))) (a4 := none) (a5 := none) (a6 := none) (a7 := none) (a8 := none) (a9 := none) (a10 := none) q2 (by simp) (fun x hx h' k =>
    told_exc (n := 61) (l := 23) (caps := [.d x]) (h := h') (lam_read_exc (m := 57) (l := 23) (x := x) rfl (noText_of (List.all_eq_true.mp things2_bad x hx))))
  have e5 : exec (AR.run prog 65) (.for (.nm 2) .seq [(.op .lst (things2.map E.c))] (s_chk 23)) [some (.d (.ref 0)), some (.d (.ref s)), u2, some (.d (nestD 59 (.str "a"))), none, none, none, none, none, none, none] h3 = .nx [some (.d (.ref 0)), some (.d (.ref s)), u2', some (.d (nestD 59 (.str "a"))), none, none, none, none, none, none, none] h4 := by
    rw [for_run lists2 (j := .lst h3.length) (by simp only [itOf, i1, itSeq, q2]), m1]
  -- the turns
  have kall : Keep h1 h4 := ((((kA.trans kB).trans kC).trans l2).trans k3).trans (kD.trans m2)
  have v4 : St s g c cells 0 h4 := b2.grow kall (Nat.le_refl _)
  have ho : h4[0]? = some o := kall _ _ (b4 0 o rfl)
  obtain ⟨m, mm, lists3⟩ : ∃ m : Nat, m ≤ 18 ∧ evEs (AR.run prog 65) [(.op .add [(.c (.int 8)), (.op .min [(.op .len [(.v 0)]), (.c (.int 10))])])] [some (.d (.ref 0)), some (.d (.ref s)), u2', some (.d (nestD 59 (.str "a"))), none, none, none, none, none, none, none] h4 = .ok ([D.int (m : Nat)].map SV.d) h4 := by
    have ln := (script_at hs ho).2.2
    refine ⟨8 + (if 10 < ns.length then 10 else ns.length), by split <;> omega, ?_⟩
    have mi : dMin h4 (.int ns.length) (.int 10) = .ok (.int ((if 10 < ns.length then 10 else ns.length : Nat) : Int)) h4 := by
      show R.ok (D.int (if (10 : Int) < (ns.length : Int) then 10 else ns.length)) h4 = _
      split <;> split <;> first | rfl | omega
    simp only [evEs_cons, evEs_nil, evE_op, evE_c, evE_v, getV, List.getElem?_cons_zero, R.bind_ok, or1, or2, op, a1, a2, ln, mi, toSV_ok, dAdd]
    rfl
  obtain ⟨env', h5, t1, w4, w5, w6, w7, w8, w9, w10, rfl, t2⟩ := forGo_run (get := fun h i => (AR.It.rng 0 m).at h i) (t := .nm 4) (b := fun env h => execs (AR.run prog 65) b_turn env h) (items := (List.range m).map fun j : Nat => D.int j)
    (fun i env h' => ∃ x4 x5 x6 x7 x8 x9 x10, env = [some (.d (.ref 0)), some (.d (.ref s)), u2', some (.d (nestD 59 (.str "a"))), x4, x5, x6, x7, x8, x9, x10] ∧ St s g c cells (i * 170) h')
    (fun i env h _ => rng_at m i)
    (fun i env h' x hi hx => by
      obtain ⟨x4, x5, x6, x7, x8, x9, x10, rfl, v⟩ := hi
      have il : i < m := by have := (List.getElem?_eq_some_iff.mp hx).1; simpa using this
      obtain ⟨h6, b5, b6, b7, b8, b9, b10, r1, r2⟩ := do_turn (a0 := some (.d (.ref 0))) (a2' := u2') (a3 := some (.d (nestD 59 (.str "a")))) (a4 := some (.d x)) (a5 := x5) (a6 := x6) (a7 := x7) (a8 := x8) (a9 := x9) (a10 := x10) v b3 (by omega)
      refine ⟨_, _, h6, rfl, Or.inl r1, _, _, _, _, _, _, _, rfl, ?_⟩
      rw [Nat.succ_mul]
      exact r2)
    m fuelW 0 [some (.d (.ref 0)), some (.d (.ref s)), u2', some (.d (nestD 59 (.str "a"))), none, none, none, none, none, none, none] h4 (by simp) (by omega) ⟨_, _, _, _, _, _, _, rfl, by simpa using v4⟩
  have e6 : exec (AR.run prog 65) (.for (.nm 4) .rng [(.op .add [(.c (.int 8)), (.op .min [(.op .len [(.v 0)]), (.c (.int 10))])])] b_turn) [some (.d (.ref 0)), some (.d (.ref s)), u2', some (.d (nestD 59 (.str "a"))), none, none, none, none, none, none, none] h4 = .nx [some (.d (.ref 0)), some (.d (.ref s)), u2', some (.d (nestD 59 (.str "a"))), w4, w5, w6, w7, w8, w9, w10] h5 := by
    rw [for_run lists3 (itOf_rng (by omega)), t1]
  refine ⟨h5, ?_⟩
  show finish (execs (AR.run prog 65) [(.asg (.nm 1) (.call 8 [(.v 0)])), (.for (.nm 2) .seq [(.op .lst e_things1)] (s_chk 21)), (.asg (.nm 3) (.call 18 [(.c (.int 59)), (.c (.str "a"))])), s_deep, (.for (.nm 2) .seq [(.op .lst (things2.map E.c))] (s_chk 23)), (.for (.nm 4) .rng [(.op .add [(.c (.int 8)), (.op .min [(.op .len [(.v 0)]), (.c (.int 10))])])] b_turn), (.ret (.c (.bl true)))] [some (.d (.ref 0)), none, none, none, none, none, none, none, none, none, none] [o]) = _
  rw [execs_cons, e1, seq_nx, execs_cons, e2, seq_nx, execs_cons, e3, seq_nx, execs_cons, e4, seq_nx, execs_cons, e5, seq_nx, execs_cons, e6, seq_nx]
  rfl
end K88
end AR
end
section
set_option Elab.async false
set_option linter.all false
set_option maxRecDepth 100000
set_option maxHeartbeats 4000000
namespace AR
namespace K88
open PySem L2 PySem.Spec PyProof.Rows

def top (i : Nat) : Stmt := PySem.Challenge.pw_allruns_k88_values_written.main.body.getD i (.Pass ⟨0, 0, 0, 0⟩)
abbrev s_is_word : Stmt := top 26
abbrev s_is_figure : Stmt := top 27
abbrev s_is_value : Stmt := top 28
abbrev s_value_text : Stmt := top 29
abbrev s_pieces_of : Stmt := top 30
abbrev s_plain_of : Stmt := top 31
abbrev s_value_of : Stmt := top 32
abbrev s_read_value : Stmt := top 33
abbrev s__law_begun : Stmt := top 35
abbrev s__law_mixed : Stmt := top 36
abbrev s__law_draw : Stmt := top 37
abbrev s__law_pick : Stmt := top 38
abbrev s__law_is : Stmt := top 39
abbrev s__law_caught : Stmt := top 40
abbrev s__law_word : Stmt := top 41
abbrev s__law_value_text : Stmt := top 42
abbrev s__law_plain : Stmt := top 43
abbrev s__law_some_value : Stmt := top 44
abbrev s__law_nested : Stmt := top 45
abbrev s_law : Stmt := top 46
def dummyL : LamI := ⟨"", ⟨[], [], none, [], [], none, []⟩, .Constant .none 0 ⟨0, 0, 0, 0⟩, ⟨.function, [], false, false, []⟩, [], [], false⟩
def lamOf : Expr → Str → List Str → LamI
  | .Lambda params body scope _, q, fr => ⟨q, params, body, scope, [], fr, true⟩
  | _, _, _ => dummyL
def e_20 : Expr := match defBody s__law_word with
  | _ :: (.Assign _ (.Call _ (l :: _) _ _) _) :: _ => l
  | _ => .Constant .none 0 ⟨0, 0, 0, 0⟩
def e_21 : Expr := match defBody s_law with
  | _ :: (.For _ _ ((.If (.Compare (.Call _ (l :: _) _ _) _ _ _) _ _ _) :: _) _ _) :: _ => l
  | _ => .Constant .none 0 ⟨0, 0, 0, 0⟩
def e_22 : Expr := match defBody s_law with
  | _ :: _ :: _ :: (.If (.BoolOp _ (_ :: _ :: (.Compare (.Call _ (l :: _) _ _) _ _ _) :: _) _) _ _ _) :: _ => l
  | _ => .Constant .none 0 ⟨0, 0, 0, 0⟩
def e_23 : Expr := match defBody s_law with
  | _ :: _ :: _ :: _ :: (.For _ _ ((.If (.Compare (.Call _ (l :: _) _ _) _ _ _) _ _ _) :: _) _ _) :: _ => l
  | _ => .Constant .none 0 ⟨0, 0, 0, 0⟩
def e_24 : Expr := match defBody s_law with
  | _ :: _ :: _ :: _ :: _ :: (.For _ _ (_ :: _ :: _ :: _ :: _ :: _ :: (.Assign _ (.Call _ (l :: _) _ _) _) :: _) _ _) :: _ => l
  | _ => .Constant .none 0 ⟨0, 0, 0, 0⟩
def lamL : Nat → LamI
  | 20 => lamOf e_20 "_law_word.<locals>.<lambda>" n_20
  | 21 => lamOf e_21 "law.<locals>.<lambda>" n_21
  | 22 => lamOf e_22 "law.<locals>.<lambda>" n_22
  | 23 => lamOf e_23 "law.<locals>.<lambda>" n_23
  | 24 => lamOf e_24 "law.<locals>.<lambda>" n_24
  | _ => dummyL
def tabs (K : PySem.W.Frag) : List (Addr × Str) := [((He.cT K ("_law_word", none)).2, "_law_word.<locals>.<lambda>"), ((He.cT K ("law", none)).2, "law.<locals>.<lambda>")]
def cls (K : PySem.W.Frag) (i : Nat) : Addr := He.ga K (clsN.getD i "AllError")
def wd (K : PySem.W.Frag) : Wd := ⟨prog, ⟨cls K, tabs K⟩, lamL⟩
def kwOf : Nat → Option (Str × List Str)
  | 3 => some ("value_text", ["value"])
  | 7 => some ("read_value", ["text"])
  | _ => none
structure Fx (P0 : Program) (w : World) (K : PySem.W.Frag) (mg : Str → Option Value) (base : Heap) : Prop where
  b_abs : mg "abs" = none
  b_all : mg "all" = none
  b_bool : mg "bool" = none
  b_dict : mg "dict" = none
  b_enumerate : mg "enumerate" = none
  b_int : mg "int" = none
  b_isinstance : mg "isinstance" = none
  b_len : mg "len" = none
  b_list : mg "list" = none
  b_min : mg "min" = none
  b_range : mg "range" = none
  b_reversed : mg "reversed" = none
  b_str : mg "str" = none
  b_tuple : mg "tuple" = none
  b_zip : mg "zip" = none
  c_FIGURES : ∃ t, mg "FIGURES" = some (.str "0123456789" t)
  c_MOST_DEEP : ∃ t, mg "MOST_DEEP" = some (.int 60 t)
  c_MOST_FIGURES : ∃ t, mg "MOST_FIGURES" = some (.int 12 t)
  c_MOST_NUMBER : ∃ t, mg "MOST_NUMBER" = some (.int 1000000000000 t)
  c_SMALL : ∃ t, mg "SMALL" = some (.str "abcdefghijklmnopqrstuvwxyz" t)
  x_NoText : ExcG P0 w K mg base "NoText" (cls K 18) "line"
  t_AllError : mg "AllError" = some (.ref (He.ga K "AllError"))
  t_AllError_k : ∀ ci b, kt_AllError.lookup ci = some b → PySem.W.exmOne K (.ref (cls K ci)) (.ref (He.ga K "AllError")) = some b
  e_NoBook : mg "NoBook" = some (.ref (He.ga K "NoBook"))
  e_NoBook_k : ∀ ci b, k_NoBook.lookup ci = some b → ExcC K (cls K ci) ∧ PySem.W.kitOne K (.ref (cls K ci)) (.ref (He.ga K "NoBook")) = some b
  e_NoClaim : mg "NoClaim" = some (.ref (He.ga K "NoClaim"))
  e_NoClaim_k : ∀ ci b, k_NoClaim.lookup ci = some b → ExcC K (cls K ci) ∧ PySem.W.kitOne K (.ref (cls K ci)) (.ref (He.ga K "NoClaim")) = some b
  e_NoDeed : mg "NoDeed" = some (.ref (He.ga K "NoDeed"))
  e_NoDeed_k : ∀ ci b, k_NoDeed.lookup ci = some b → ExcC K (cls K ci) ∧ PySem.W.kitOne K (.ref (cls K ci)) (.ref (He.ga K "NoDeed")) = some b
  e_NoName : mg "NoName" = some (.ref (He.ga K "NoName"))
  e_NoName_k : ∀ ci b, k_NoName.lookup ci = some b → ExcC K (cls K ci) ∧ PySem.W.kitOne K (.ref (cls K ci)) (.ref (He.ga K "NoName")) = some b
  e_NoNumber : mg "NoNumber" = some (.ref (He.ga K "NoNumber"))
  e_NoNumber_k : ∀ ci b, k_NoNumber.lookup ci = some b → ExcC K (cls K ci) ∧ PySem.W.kitOne K (.ref (cls K ci)) (.ref (He.ga K "NoNumber")) = some b
  e_NoPast : mg "NoPast" = some (.ref (He.ga K "NoPast"))
  e_NoPast_k : ∀ ci b, k_NoPast.lookup ci = some b → ExcC K (cls K ci) ∧ PySem.W.kitOne K (.ref (cls K ci)) (.ref (He.ga K "NoPast")) = some b
  e_NoPoint : mg "NoPoint" = some (.ref (He.ga K "NoPoint"))
  e_NoPoint_k : ∀ ci b, k_NoPoint.lookup ci = some b → ExcC K (cls K ci) ∧ PySem.W.kitOne K (.ref (cls K ci)) (.ref (He.ga K "NoPoint")) = some b
  e_NoRoutine : mg "NoRoutine" = some (.ref (He.ga K "NoRoutine"))
  e_NoRoutine_k : ∀ ci b, k_NoRoutine.lookup ci = some b → ExcC K (cls K ci) ∧ PySem.W.kitOne K (.ref (cls K ci)) (.ref (He.ga K "NoRoutine")) = some b
  e_NoRow : mg "NoRow" = some (.ref (He.ga K "NoRow"))
  e_NoRow_k : ∀ ci b, k_NoRow.lookup ci = some b → ExcC K (cls K ci) ∧ PySem.W.kitOne K (.ref (cls K ci)) (.ref (He.ga K "NoRow")) = some b
  e_NoStart : mg "NoStart" = some (.ref (He.ga K "NoStart"))
  e_NoStart_k : ∀ ci b, k_NoStart.lookup ci = some b → ExcC K (cls K ci) ∧ PySem.W.kitOne K (.ref (cls K ci)) (.ref (He.ga K "NoStart")) = some b
  e_NoState : mg "NoState" = some (.ref (He.ga K "NoState"))
  e_NoState_k : ∀ ci b, k_NoState.lookup ci = some b → ExcC K (cls K ci) ∧ PySem.W.kitOne K (.ref (cls K ci)) (.ref (He.ga K "NoState")) = some b
  e_NoStep : mg "NoStep" = some (.ref (He.ga K "NoStep"))
  e_NoStep_k : ∀ ci b, k_NoStep.lookup ci = some b → ExcC K (cls K ci) ∧ PySem.W.kitOne K (.ref (cls K ci)) (.ref (He.ga K "NoStep")) = some b
  e_NoSum : mg "NoSum" = some (.ref (He.ga K "NoSum"))
  e_NoSum_k : ∀ ci b, k_NoSum.lookup ci = some b → ExcC K (cls K ci) ∧ PySem.W.kitOne K (.ref (cls K ci)) (.ref (He.ga K "NoSum")) = some b
  e_NoText : mg "NoText" = some (.ref (He.ga K "NoText"))
  e_NoText_k : ∀ ci b, k_NoText.lookup ci = some b → ExcC K (cls K ci) ∧ PySem.W.kitOne K (.ref (cls K ci)) (.ref (He.ga K "NoText")) = some b
  e_TooMany : mg "TooMany" = some (.ref (He.ga K "TooMany"))
  e_TooMany_k : ∀ ci b, k_TooMany.lookup ci = some b → ExcC K (cls K ci) ∧ PySem.W.kitOne K (.ref (cls K ci)) (.ref (He.ga K "TooMany")) = some b
  e_Twice : mg "Twice" = some (.ref (He.ga K "Twice"))
  e_Twice_k : ∀ ci b, k_Twice.lookup ci = some b → ExcC K (cls K ci) ∧ PySem.W.kitOne K (.ref (cls K ci)) (.ref (He.ga K "Twice")) = some b
  e_Unlike : mg "Unlike" = some (.ref (He.ga K "Unlike"))
  e_Unlike_k : ∀ ci b, k_Unlike.lookup ci = some b → ExcC K (cls K ci) ∧ PySem.W.kitOne K (.ref (cls K ci)) (.ref (He.ga K "Unlike")) = some b
  e_Used : mg "Used" = some (.ref (He.ga K "Used"))
  e_Used_k : ∀ ci b, k_Used.lookup ci = some b → ExcC K (cls K ci) ∧ PySem.W.kitOne K (.ref (cls K ci)) (.ref (He.ga K "Used")) = some b
  f_line : ∀ ci ∈ ([18] : List Nat), XfC K (cls K ci) ∧ PySem.W.findIn K (.ref (cls K ci)) "line" = some none
  tb__law_word : LamX.TabB base mg (He.cT K ("_law_word", none)).1 (He.cT K ("_law_word", none)).2
  tb_law : LamX.TabB base mg (He.cT K ("law", none)).1 (He.cT K ("law", none)).2
  tbu : ∀ p ∈ tabs K, ∀ q ∈ tabs K, p.1 = q.1 → p.2 = q.2
  d_is_word : DefF (wd K) K mg 0 "is_word" "is_word" (defArgs s_is_word) (defBody s_is_word) (defScope s_is_word) n_is_word ["thing"] i_is_word ("is_word", none)
  d_is_figure : DefF (wd K) K mg 1 "is_figure" "is_figure" (defArgs s_is_figure) (defBody s_is_figure) (defScope s_is_figure) n_is_figure ["thing"] i_is_figure ("is_figure", none)
  d_is_value : DefF (wd K) K mg 2 "is_value" "is_value" (defArgs s_is_value) (defBody s_is_value) (defScope s_is_value) n_is_value ["thing"] i_is_value ("is_value", none)
  d_value_text : DefF (wd K) K mg 3 "value_text" "value_text" (defArgs s_value_text) (defBody s_value_text) (defScope s_value_text) n_value_text ["value"] i_value_text ("value_text", none)
  d_pieces_of : DefF (wd K) K mg 4 "pieces_of" "pieces_of" (defArgs s_pieces_of) (defBody s_pieces_of) (defScope s_pieces_of) n_pieces_of ["text"] i_pieces_of ("pieces_of", none)
  d_plain_of : DefF (wd K) K mg 5 "plain_of" "plain_of" (defArgs s_plain_of) (defBody s_plain_of) (defScope s_plain_of) n_plain_of ["piece"] i_plain_of ("plain_of", none)
  d_value_of : DefF (wd K) K mg 6 "value_of" "value_of" (defArgs s_value_of) (defBody s_value_of) (defScope s_value_of) n_value_of ["pieces"] i_value_of ("value_of", none)
  d_read_value : DefF (wd K) K mg 7 "read_value" "read_value" (defArgs s_read_value) (defBody s_read_value) (defScope s_read_value) n_read_value ["text"] i_read_value ("read_value", none)
  d__law_begun : DefF (wd K) K mg 8 "_law_begun" "_law_begun" (defArgs s__law_begun) (defBody s__law_begun) (defScope s__law_begun) n__law_begun ["script"] i__law_begun ("_law_begun", none)
  d__law_mixed : DefF (wd K) K mg 9 "_law_mixed" "_law_mixed" (defArgs s__law_mixed) (defBody s__law_mixed) (defScope s__law_mixed) n__law_mixed ["state"] i__law_mixed ("_law_mixed", none)
  d__law_draw : DefF (wd K) K mg 10 "_law_draw" "_law_draw" (defArgs s__law_draw) (defBody s__law_draw) (defScope s__law_draw) n__law_draw ["state", "room"] i__law_draw ("_law_draw", none)
  d__law_pick : DefF (wd K) K mg 11 "_law_pick" "_law_pick" (defArgs s__law_pick) (defBody s__law_pick) (defScope s__law_pick) n__law_pick ["state", "some"] i__law_pick ("_law_pick", none)
  d__law_is : DefF (wd K) K mg 12 "_law_is" "_law_is" (defArgs s__law_is) (defBody s__law_is) (defScope s__law_is) n__law_is ["found", "due"] i__law_is ("_law_is", none)
  d__law_caught : DefF (wd K) K mg 13 "_law_caught" "_law_caught" (defArgs s__law_caught) (defBody s__law_caught) (defScope s__law_caught) n__law_caught ["action"] i__law_caught ("_law_caught", none)
  d__law_word : DefF (wd K) K mg 14 "_law_word" "_law_word" (defArgs s__law_word) (defBody s__law_word) (defScope s__law_word) n__law_word ["action"] i__law_word ("_law_word", none)
  d__law_value_text : DefF (wd K) K mg 15 "_law_value_text" "_law_value_text" (defArgs s__law_value_text) (defBody s__law_value_text) (defScope s__law_value_text) n__law_value_text ["value"] i__law_value_text ("_law_value_text", none)
  d__law_plain : DefF (wd K) K mg 16 "_law_plain" "_law_plain" (defArgs s__law_plain) (defBody s__law_plain) (defScope s__law_plain) n__law_plain ["value"] i__law_plain ("_law_plain", none)
  d__law_some_value : DefF (wd K) K mg 17 "_law_some_value" "_law_some_value" (defArgs s__law_some_value) (defBody s__law_some_value) (defScope s__law_some_value) n__law_some_value ["state", "deep"] i__law_some_value ("_law_some_value", none)
  d__law_nested : DefF (wd K) K mg 18 "_law_nested" "_law_nested" (defArgs s__law_nested) (defBody s__law_nested) (defScope s__law_nested) n__law_nested ["many", "one"] i__law_nested ("_law_nested", none)
  d_law : DefF (wd K) K mg 19 "law" "law" (defArgs s_law) (defBody s_law) (defScope s_law) n_law ["script"] i_law ("law", none)
theorem kb_value_text : BnK "value_text" "value_text" (defArgs s_value_text) (defBody s_value_text) (defScope s_value_text) ["value"] := fun _ _ _ _ _ _ ws hl => match ws, hl with | [_], _ => rfl
theorem kb_read_value : BnK "read_value" "read_value" (defArgs s_read_value) (defBody s_read_value) (defScope s_read_value) ["text"] := fun _ _ _ _ _ _ ws hl => match ws, hl with | [_], _ => rfl
section
variable {P0 : Program} {w : World} {K : PySem.W.Frag} {mg : Str → Option Value} {base : Heap} {n : Nat}
theorem lms_20 : NdefX.NScope n_20 [] n_20 (lamL 20).scope := NdefX.nscope_by (by decide +kernel)
theorem lmg_20 : ∀ y ∈ (lamL 20).fr, (y, NameKind.free) ∈ (lamL 20).scope.names := by decide +kernel
theorem lmf_20 : ∀ y ∈ (lamL 20).scope.names, y.2 = NameKind.free → (defScope s__law_word).names.lookup y.1 = some NameKind.cell ∨ (defScope s__law_word).names.lookup y.1 = some NameKind.free := by decide +kernel
theorem lm_20 (F : Fx P0 w K mg base) {A : Around} {outer : List PySem.Env} {s : Shared} {H : Hp} {E : XK} : LamMk (Cd (wd K) P0 w K mg base n__law_word "_law_word" (defScope s__law_word) (He.fAd K ("_law_word", none)) (.ref (He.cT K ("_law_word", none)).1) A outer s H E) (wd K).G.T ((wd K).L 20) :=
  ⟨⟨_, _, F.tb__law_word, rfl, (List.mem_cons_self), fun p hp e => F.tbu p hp (_, _) (List.mem_cons_self) e⟩, rfl, rfl, lmf_20⟩
theorem lms_21 : NdefX.NScope n_21 [] n_21 (lamL 21).scope := NdefX.nscope_by (by decide +kernel)
theorem lmg_21 : ∀ y ∈ (lamL 21).fr, (y, NameKind.free) ∈ (lamL 21).scope.names := by decide +kernel
theorem lmf_21 : ∀ y ∈ (lamL 21).scope.names, y.2 = NameKind.free → (defScope s_law).names.lookup y.1 = some NameKind.cell ∨ (defScope s_law).names.lookup y.1 = some NameKind.free := by decide +kernel
theorem lm_21 (F : Fx P0 w K mg base) {A : Around} {outer : List PySem.Env} {s : Shared} {H : Hp} {E : XK} : LamMk (Cd (wd K) P0 w K mg base n_law "law" (defScope s_law) (He.fAd K ("law", none)) (.ref (He.cT K ("law", none)).1) A outer s H E) (wd K).G.T ((wd K).L 21) :=
  ⟨⟨_, _, F.tb_law, rfl, (List.mem_cons_of_mem _ (List.mem_cons_self)), fun p hp e => F.tbu p hp (_, _) (List.mem_cons_of_mem _ (List.mem_cons_self)) e⟩, rfl, rfl, lmf_21⟩
theorem lms_22 : NdefX.NScope n_22 [] n_22 (lamL 22).scope := NdefX.nscope_by (by decide +kernel)
theorem lmg_22 : ∀ y ∈ (lamL 22).fr, (y, NameKind.free) ∈ (lamL 22).scope.names := by decide +kernel
theorem lmf_22 : ∀ y ∈ (lamL 22).scope.names, y.2 = NameKind.free → (defScope s_law).names.lookup y.1 = some NameKind.cell ∨ (defScope s_law).names.lookup y.1 = some NameKind.free := by decide +kernel
theorem lm_22 (F : Fx P0 w K mg base) {A : Around} {outer : List PySem.Env} {s : Shared} {H : Hp} {E : XK} : LamMk (Cd (wd K) P0 w K mg base n_law "law" (defScope s_law) (He.fAd K ("law", none)) (.ref (He.cT K ("law", none)).1) A outer s H E) (wd K).G.T ((wd K).L 22) :=
  ⟨⟨_, _, F.tb_law, rfl, (List.mem_cons_of_mem _ (List.mem_cons_self)), fun p hp e => F.tbu p hp (_, _) (List.mem_cons_of_mem _ (List.mem_cons_self)) e⟩, rfl, rfl, lmf_22⟩
theorem lms_23 : NdefX.NScope n_23 [] n_23 (lamL 23).scope := NdefX.nscope_by (by decide +kernel)
theorem lmg_23 : ∀ y ∈ (lamL 23).fr, (y, NameKind.free) ∈ (lamL 23).scope.names := by decide +kernel
theorem lmf_23 : ∀ y ∈ (lamL 23).scope.names, y.2 = NameKind.free → (defScope s_law).names.lookup y.1 = some NameKind.cell ∨ (defScope s_law).names.lookup y.1 = some NameKind.free := by decide +kernel
theorem lm_23 (F : Fx P0 w K mg base) {A : Around} {outer : List PySem.Env} {s : Shared} {H : Hp} {E : XK} : LamMk (Cd (wd K) P0 w K mg base n_law "law" (defScope s_law) (He.fAd K ("law", none)) (.ref (He.cT K ("law", none)).1) A outer s H E) (wd K).G.T ((wd K).L 23) :=
  ⟨⟨_, _, F.tb_law, rfl, (List.mem_cons_of_mem _ (List.mem_cons_self)), fun p hp e => F.tbu p hp (_, _) (List.mem_cons_of_mem _ (List.mem_cons_self)) e⟩, rfl, rfl, lmf_23⟩
theorem lms_24 : NdefX.NScope n_24 [] n_24 (lamL 24).scope := NdefX.nscope_by (by decide +kernel)
theorem lmg_24 : ∀ y ∈ (lamL 24).fr, (y, NameKind.free) ∈ (lamL 24).scope.names := by decide +kernel
theorem lmf_24 : ∀ y ∈ (lamL 24).scope.names, y.2 = NameKind.free → (defScope s_law).names.lookup y.1 = some NameKind.cell ∨ (defScope s_law).names.lookup y.1 = some NameKind.free := by decide +kernel
theorem lm_24 (F : Fx P0 w K mg base) {A : Around} {outer : List PySem.Env} {s : Shared} {H : Hp} {E : XK} : LamMk (Cd (wd K) P0 w K mg base n_law "law" (defScope s_law) (He.fAd K ("law", none)) (.ref (He.cT K ("law", none)).1) A outer s H E) (wd K).G.T ((wd K).L 24) :=
  ⟨⟨_, _, F.tb_law, rfl, (List.mem_cons_of_mem _ (List.mem_cons_self)), fun p hp e => F.tbu p hp (_, _) (List.mem_cons_of_mem _ (List.mem_cons_self)) e⟩, rfl, rfl, lmf_24⟩
theorem b_is_word (F : Fx P0 w K mg base) (LV : Lv (wd K) nameOf kwOf P0 w K mg base n) (A : Around) (outer : List PySem.Env) (s : Shared) (H : Hp) (E : XK) (C : CxOk n (Cd (wd K) P0 w K mg base n_is_word "is_word" (defScope s_is_word) (He.fAd K ("is_word", none)) (.ref (He.cT K ("is_word", none)).1) A outer s H E) (CAe outer s H)) :
    SSs (wd K) n (Cd (wd K) P0 w K mg base n_is_word "is_word" (defScope s_is_word) (He.fAd K ("is_word", none)) (.ref (He.cT K ("is_word", none)).1) A outer s H E) (CAe outer s H) (defBody s_is_word) i_is_word := by
  have hN : n_is_word.Nodup := by decide +kernel
  exact (sss_cons (ss_ret (se_and (se_isi .str (se_v 0) (F.b_isinstance) (F.b_str)) (se_and (se_cmp (op_neD C.hu) ne_S (by first | rfl | exact nomark _) (se_v 0) se_str) (se_one (se_all C.calm (se_lcP C hN (si_seq (se_v 0)) (blkOk_by (own := [("sign", 1)]) (by kernel_rfl)) (by decide) (fun _ _ _ _ _ C1 => (sg_nm 1 hN)) (fun _ _ _ _ _ C1 => (se_cmp op_inA in_S (by first | rfl | exact nomark _) (se_v 1) (F.c_SMALL.elim fun t hc => se_g (v := .str "abcdefghijklmnopqrstuvwxyz") hc ⟨t, rfl⟩ (fun _ _ => mk_str _))))) (F.b_all))))))
  sss_nil)
theorem b_is_figure (F : Fx P0 w K mg base) (LV : Lv (wd K) nameOf kwOf P0 w K mg base n) (A : Around) (outer : List PySem.Env) (s : Shared) (H : Hp) (E : XK) (C : CxOk n (Cd (wd K) P0 w K mg base n_is_figure "is_figure" (defScope s_is_figure) (He.fAd K ("is_figure", none)) (.ref (He.cT K ("is_figure", none)).1) A outer s H E) (CAe outer s H)) :
    SSs (wd K) n (Cd (wd K) P0 w K mg base n_is_figure "is_figure" (defScope s_is_figure) (He.fAd K ("is_figure", none)) (.ref (He.cT K ("is_figure", none)).1) A outer s H E) (CAe outer s H) (defBody s_is_figure) i_is_figure := by
  have hN : n_is_figure.Nodup := by decide +kernel
  exact (sss_cons (ss_ret (se_and (se_isi .int (se_v 0) (F.b_isinstance) (F.b_int)) (se_and (se_not (se_isi .bool (se_v 0) (F.b_isinstance) (F.b_bool))) (se_one (se_cmp op_lt lt_S (by first | rfl | exact nomark _) (se_abs (se_v 0) (F.b_abs)) (F.c_MOST_NUMBER.elim fun t hc => se_g (v := .int 1000000000000) hc ⟨t, rfl⟩ (fun _ _ => mk_int _)))))))
  sss_nil)
theorem b_is_value (F : Fx P0 w K mg base) (LV : Lv (wd K) nameOf kwOf P0 w K mg base n) (A : Around) (outer : List PySem.Env) (s : Shared) (H : Hp) (E : XK) (C : CxOk n (Cd (wd K) P0 w K mg base n_is_value "is_value" (defScope s_is_value) (He.fAd K ("is_value", none)) (.ref (He.cT K ("is_value", none)).1) A outer s H E) (CAe outer s H)) :
    SSs (wd K) n (Cd (wd K) P0 w K mg base n_is_value "is_value" (defScope s_is_value) (He.fAd K ("is_value", none)) (.ref (He.cT K ("is_value", none)).1) A outer s H E) (CAe outer s H) (defBody s_is_value) i_is_value := by
  have hN : n_is_value.Nodup := by decide +kernel
  exact (sss_cons (ss_set hN 1 (se_lst (sa_cons (se_v 0) sa_nil)))
  (sss_cons (ss_for C.calm (si_rng1 (F.c_MOST_DEEP.elim fun t hc => se_g (v := .int 60) hc ⟨t, rfl⟩ (fun _ _ => mk_int _)) (F.b_range)) (sg_nm 2 hN) (sss_cons (ss_set hN 3 (se_lst sa_nil))
  (sss_cons (ss_for C.calm (si_seq (se_v 1)) (sg_nm 4 hN) (sss_cons (ss_if (st_w (sw_and (st_val (se_isi .tuple (se_v 4) (F.b_isinstance) (F.b_tuple))) (sw_and1 (st_cmp op_lt lt_S (by first | rfl | exact nomark _) (se_v 2) (se_sub (F.c_MOST_DEEP.elim fun t hc => se_g (v := .int 60) hc ⟨t, rfl⟩ (fun _ _ => mk_int _)) se_int))))) (sss_cons (ss_expr (se_extend (se_v 3) (se_v 4)))
  sss_nil) (sss_cons (ss_if (st_w (sw_and (st_notN (se_v 4)) (sw_and (st_not (st_val (se_call (dv := []) C ⟨LV.g 0 "is_word" rfl⟩ (sa_cons (se_v 4) sa_nil)))) (sw_and1 (st_not (st_val (se_call (dv := []) C ⟨LV.g 1 "is_figure" rfl⟩ (sa_cons (se_v 4) sa_nil)))))))) (sss_cons (ss_ret se_bl)
  sss_nil) sss_nil)
  sss_nil))
  sss_nil))
  (sss_cons (ss_if (st_eqNil C.hu (se_v 3)) (sss_cons (ss_ret se_bl)
  sss_nil) sss_nil)
  (sss_cons (ss_set hN 1 (se_v 3))
  sss_nil)))))
  (sss_cons (ss_ret se_bl)
  sss_nil)))
theorem b_value_text (F : Fx P0 w K mg base) (LV : Lv (wd K) nameOf kwOf P0 w K mg base n) (A : Around) (outer : List PySem.Env) (s : Shared) (H : Hp) (E : XK) (C : CxOk n (Cd (wd K) P0 w K mg base n_value_text "value_text" (defScope s_value_text) (He.fAd K ("value_text", none)) (.ref (He.cT K ("value_text", none)).1) A outer s H E) (CAe outer s H)) :
    SSs (wd K) n (Cd (wd K) P0 w K mg base n_value_text "value_text" (defScope s_value_text) (He.fAd K ("value_text", none)) (.ref (He.cT K ("value_text", none)).1) A outer s H E) (CAe outer s H) (defBody s_value_text) i_value_text := by
  have hN : n_value_text.Nodup := by decide +kernel
  exact (sss_cons (ss_if (st_not (st_val (se_call (dv := []) C ⟨LV.g 2 "is_value" rfl⟩ (sa_cons (se_v 0) sa_nil)))) (sss_cons (ss_raise1 C 18 "line" F.x_NoText se_str se_int)
  sss_nil) sss_nil)
  (sss_cons (ss_par C.calm hN 1 2 (se_lst sa_nil) (se_lst (sa_cons (se_v 0) sa_nil)))
  (sss_cons (ss_while (st_neNil C.hu (se_v 2)) (sss_cons (ss_set hN 3 (se_pop (se_v 2)))
  (sss_cons (ss_if (st_val (se_isi .list (se_v 3) (F.b_isinstance) (F.b_list))) (sss_cons (ss_expr (se_append (se_v 1) (se_ix C.hu1 (se_v 3) se_int)))
  sss_nil) (sss_cons (ss_if (st_val (se_isi .tuple (se_v 3) (F.b_isinstance) (F.b_tuple))) (sss_cons (ss_expr (se_append (se_v 2) (se_lst (sa_cons se_str sa_nil))))
  (sss_cons (ss_for C.calm (si_enmRev (se_v 3) (F.b_enumerate) (F.b_reversed)) (sg_tp C.calm (sgs_cons (sg_nm 4 hN) (sgs_cons (sg_nm 5 hN) sgs_nil))) (sss_cons (ss_expr (se_extend (se_v 2) (se_ite (st_cmp (op_eqD C.hu) eq_S (by first | rfl | exact nomark _) (se_v 4) (se_sub (se_len (se_v 3) (F.b_len)) se_int)) (se_lst (sa_cons (se_v 5) sa_nil)) (se_lst (sa_cons (se_v 5) (sa_cons (se_lst (sa_cons se_str sa_nil)) sa_nil))))))
  sss_nil))
  (sss_cons (ss_expr (se_append (se_v 2) (se_lst (sa_cons se_str sa_nil))))
  sss_nil))) (sss_cons (ss_expr (se_append (se_v 1) (se_ite (st_isN (se_v 3)) se_str (se_str1 (se_v 3) (F.b_str)))))
  sss_nil))
  sss_nil))
  sss_nil)))
  (sss_cons (ss_ret (se_join se_str (se_v 1)))
  sss_nil))))
theorem b_pieces_of (F : Fx P0 w K mg base) (LV : Lv (wd K) nameOf kwOf P0 w K mg base n) (A : Around) (outer : List PySem.Env) (s : Shared) (H : Hp) (E : XK) (C : CxOk n (Cd (wd K) P0 w K mg base n_pieces_of "pieces_of" (defScope s_pieces_of) (He.fAd K ("pieces_of", none)) (.ref (He.cT K ("pieces_of", none)).1) A outer s H E) (CAe outer s H)) :
    SSs (wd K) n (Cd (wd K) P0 w K mg base n_pieces_of "pieces_of" (defScope s_pieces_of) (He.fAd K ("pieces_of", none)) (.ref (He.cT K ("pieces_of", none)).1) A outer s H E) (CAe outer s H) (defBody s_pieces_of) i_pieces_of := by
  have hN : n_pieces_of.Nodup := by decide +kernel
  exact (sss_cons (ss_par C.calm hN 1 2 (se_lst sa_nil) se_int)
  (sss_cons (ss_while (st_cmp op_lt lt_S (by first | rfl | exact nomark _) (se_v 2) (se_len (se_v 0) (F.b_len))) (sss_cons (ss_set hN 3 (se_add (se_v 2) se_int))
  (sss_cons (ss_if (st_cmp op_notinA notin_S (by first | rfl | exact nomark _) (se_ix C.hu1 (se_v 0) (se_v 2)) se_str) (sss_cons (ss_while (st_w (sw_and (st_cmp op_lt lt_S (by first | rfl | exact nomark _) (se_v 3) (se_len (se_v 0) (F.b_len))) (sw_and1 (st_cmp op_notinA notin_S (by first | rfl | exact nomark _) (se_ix C.hu1 (se_v 0) (se_v 3)) se_str)))) (sss_cons (ss_augA hN 3 se_int)
  sss_nil))
  sss_nil) sss_nil)
  (sss_cons (ss_expr (se_append (se_v 1) (se_slB (se_v 0) (se_v 2) (se_v 3))))
  (sss_cons (ss_set hN 2 (se_v 3))
  sss_nil)))))
  (sss_cons (ss_ret (se_v 1))
  sss_nil)))
theorem b_plain_of (F : Fx P0 w K mg base) (LV : Lv (wd K) nameOf kwOf P0 w K mg base n) (A : Around) (outer : List PySem.Env) (s : Shared) (H : Hp) (E : XK) (C : CxOk n (Cd (wd K) P0 w K mg base n_plain_of "plain_of" (defScope s_plain_of) (He.fAd K ("plain_of", none)) (.ref (He.cT K ("plain_of", none)).1) A outer s H E) (CAe outer s H)) :
    SSs (wd K) n (Cd (wd K) P0 w K mg base n_plain_of "plain_of" (defScope s_plain_of) (He.fAd K ("plain_of", none)) (.ref (He.cT K ("plain_of", none)).1) A outer s H E) (CAe outer s H) (defBody s_plain_of) i_plain_of := by
  have hN : n_plain_of.Nodup := by decide +kernel
  exact (sss_cons (ss_if (st_cmp (op_eqD C.hu) eq_S (by first | rfl | exact nomark _) (se_v 0) se_str) (sss_cons (ss_ret (se_lst (sa_cons se_non sa_nil)))
  sss_nil) sss_nil)
  (sss_cons (ss_if (st_val (se_call (dv := []) C ⟨LV.g 0 "is_word" rfl⟩ (sa_cons (se_v 0) sa_nil))) (sss_cons (ss_ret (se_lst (sa_cons (se_v 0) sa_nil)))
  sss_nil) sss_nil)
  (sss_cons (ss_set hN 1 (se_ite (st_cmp (op_eqD C.hu) eq_S (by first | rfl | exact nomark _) (se_slH (se_v 0) se_int) se_str) (se_slL (se_v 0) se_int) (se_v 0)))
  (sss_cons (ss_if (st_w (sw_or (st_not (st_chain op_le le_S op_le le_S se_int (se_len (se_v 1) (F.b_len)) (F.c_MOST_FIGURES.elim fun t hc => se_g (v := .int 12) hc ⟨t, rfl⟩ (fun _ _ => mk_int _)))) (sw_or1 (st_not (st_val (se_all C.calm (se_lcP C hN (si_seq (se_v 1)) (blkOk_by (own := [("sign", 2)]) (by kernel_rfl)) (by decide) (fun _ _ _ _ _ C2 => (sg_nm 2 hN)) (fun _ _ _ _ _ C2 => (se_cmp op_inA in_S (by first | rfl | exact nomark _) (se_v 2) (F.c_FIGURES.elim fun t hc => se_g (v := .str "0123456789") hc ⟨t, rfl⟩ (fun _ _ => mk_str _))))) (F.b_all))))))) (sss_cons (ss_ret (se_lst sa_nil))
  sss_nil) sss_nil)
  (sss_cons (ss_ret (se_ite (st_cmp (op_eqD C.hu) eq_S (by first | rfl | exact nomark _) (se_str1 (se_int1 (se_v 0) (F.b_int)) (F.b_str)) (se_v 0)) (se_lst (sa_cons (se_int1 (se_v 0) (F.b_int)) sa_nil)) (se_lst sa_nil)))
  sss_nil)))))
theorem b_value_of (F : Fx P0 w K mg base) (LV : Lv (wd K) nameOf kwOf P0 w K mg base n) (A : Around) (outer : List PySem.Env) (s : Shared) (H : Hp) (E : XK) (C : CxOk n (Cd (wd K) P0 w K mg base n_value_of "value_of" (defScope s_value_of) (He.fAd K ("value_of", none)) (.ref (He.cT K ("value_of", none)).1) A outer s H E) (CAe outer s H)) :
    SSs (wd K) n (Cd (wd K) P0 w K mg base n_value_of "value_of" (defScope s_value_of) (He.fAd K ("value_of", none)) (.ref (He.cT K ("value_of", none)).1) A outer s H E) (CAe outer s H) (defBody s_value_of) i_value_of := by
  have hN : n_value_of.Nodup := by decide +kernel
  exact (sss_cons (ss_par C.calm hN 1 2 (se_lst sa_nil) (se_lst sa_nil))
  (sss_cons (ss_for C.calm (si_seq (se_v 0)) (sg_nm 3 hN) (sss_cons (ss_if (st_cmp (op_eqD C.hu) eq_S (by first | rfl | exact nomark _) (se_v 3) se_str) (sss_cons (ss_expr (se_append (se_v 1) (se_lst sa_nil)))
  (sss_cons ss_cont
  sss_nil)) sss_nil)
  (sss_cons (ss_if (st_cmp (op_eqD C.hu) eq_S (by first | rfl | exact nomark _) (se_v 3) se_str) (sss_cons ss_cont
  sss_nil) sss_nil)
  (sss_cons (ss_if (st_cmp (op_eqD C.hu) eq_S (by first | rfl | exact nomark _) (se_v 3) se_str) (sss_cons (ss_if (st_eqNil C.hu (se_v 1)) (sss_cons (ss_ret (se_lst sa_nil))
  sss_nil) sss_nil)
  (sss_cons (ss_set hN 4 (se_lst (sa_cons (se_tuple1 (se_pop (se_v 1)) (F.b_tuple)) sa_nil)))
  sss_nil)) (sss_cons (ss_set hN 4 (se_call (dv := []) C ⟨LV.g 5 "plain_of" rfl⟩ (sa_cons (se_v 3) sa_nil)))
  sss_nil))
  (sss_cons (ss_if (st_w (sw_or (st_eqNil C.hu (se_v 4)) (sw_or1 (st_w (sw_and (st_eqNil C.hu (se_v 1)) (sw_and1 (st_neNil C.hu (se_v 2)))))))) (sss_cons (ss_ret (se_lst sa_nil))
  sss_nil) sss_nil)
  (sss_cons (ss_if (st_eqNil C.hu (se_v 1)) (sss_cons (ss_set hN 2 (se_v 4))
  sss_nil) (sss_cons (ss_expr (se_append (se_ix C.hu1 (se_v 1) (se_neg se_int)) (se_ix C.hu1 (se_v 4) se_int)))
  sss_nil))
  sss_nil))))))
  (sss_cons (ss_ret (se_ite (st_eqNil C.hu (se_v 1)) (se_v 2) (se_lst sa_nil)))
  sss_nil)))
theorem b_read_value (F : Fx P0 w K mg base) (LV : Lv (wd K) nameOf kwOf P0 w K mg base n) (A : Around) (outer : List PySem.Env) (s : Shared) (H : Hp) (E : XK) (C : CxOk n (Cd (wd K) P0 w K mg base n_read_value "read_value" (defScope s_read_value) (He.fAd K ("read_value", none)) (.ref (He.cT K ("read_value", none)).1) A outer s H E) (CAe outer s H)) :
    SSs (wd K) n (Cd (wd K) P0 w K mg base n_read_value "read_value" (defScope s_read_value) (He.fAd K ("read_value", none)) (.ref (He.cT K ("read_value", none)).1) A outer s H E) (CAe outer s H) (defBody s_read_value) i_read_value := by
  have hN : n_read_value.Nodup := by decide +kernel
  exact (sss_cons (ss_if (st_not (st_val (se_isi .str (se_v 0) (F.b_isinstance) (F.b_str)))) (sss_cons (ss_raise1 C 18 "line" F.x_NoText se_str se_int)
  sss_nil) sss_nil)
  (sss_cons (ss_set hN 1 (se_call (dv := []) C ⟨LV.g 6 "value_of" rfl⟩ (sa_cons (se_call (dv := []) C ⟨LV.g 4 "pieces_of" rfl⟩ (sa_cons (se_v 0) sa_nil)) sa_nil)))
  (sss_cons (ss_if (st_w (sw_or (st_eqNil C.hu (se_v 1)) (sw_or (st_not (st_val (se_call (dv := []) C ⟨LV.g 2 "is_value" rfl⟩ (sa_cons (se_ix C.hu1 (se_v 1) se_int) sa_nil)))) (sw_or1 (st_cmp (op_neD C.hu) ne_S (by first | rfl | exact nomark _) (se_call (dv := []) C ⟨LV.g 3 "value_text" rfl⟩ (sa_cons (se_ix C.hu1 (se_v 1) se_int) sa_nil)) (se_v 0)))))) (sss_cons (ss_raise1 C 18 "line" F.x_NoText se_str se_int)
  sss_nil) sss_nil)
  (sss_cons (ss_ret (se_ix C.hu1 (se_v 1) se_int))
  sss_nil))))
theorem b__law_begun (F : Fx P0 w K mg base) (LV : Lv (wd K) nameOf kwOf P0 w K mg base n) (A : Around) (outer : List PySem.Env) (s : Shared) (H : Hp) (E : XK) (C : CxOk n (Cd (wd K) P0 w K mg base n__law_begun "_law_begun" (defScope s__law_begun) (He.fAd K ("_law_begun", none)) (.ref (He.cT K ("_law_begun", none)).1) A outer s H E) (CAe outer s H)) :
    SSs (wd K) n (Cd (wd K) P0 w K mg base n__law_begun "_law_begun" (defScope s__law_begun) (He.fAd K ("_law_begun", none)) (.ref (He.cT K ("_law_begun", none)).1) A outer s H E) (CAe outer s H) (defBody s__law_begun) i__law_begun := by
  have hN : n__law_begun.Nodup := by decide +kernel
  exact (sss_cons (ss_setLc1P 1 C hN (si_seq (se_v 0)) (blkOk_by (own := [("cell", 2)]) (by kernel_rfl)) (by decide) (fun _ _ _ _ _ C3 => (sg_nm 2 hN)) (fun _ _ _ _ _ C3 => (st_cmp op_ge ge_S (by first | rfl | exact nomark _) (se_abs (se_v 2) (F.b_abs)) (se_pow se_int se_int))) (fun _ _ _ _ _ C3 => (se_sub (se_abs (se_v 2) (F.b_abs)) (se_pow se_int se_int))))
  (sss_cons (ss_ret (se_dict (.cons (key := .inr "great") pe_str (se_v 1) (.cons (key := .inr "cells") pe_str (se_lcP C hN (si_seq (se_v 0)) (blkOk_by (own := [("cell", 2)]) (by kernel_rfl)) (by decide) (fun _ _ _ _ _ C4 => (sg_nm 2 hN)) (fun _ _ _ _ _ C4 => (se_abs (se_v 2) (F.b_abs)))) (.cons (key := .inr "rest") pe_str se_int (.cons (key := .inr "turn") pe_str se_int .nil))))))
  sss_nil))
theorem b__law_mixed (F : Fx P0 w K mg base) (LV : Lv (wd K) nameOf kwOf P0 w K mg base n) (A : Around) (outer : List PySem.Env) (s : Shared) (H : Hp) (E : XK) (C : CxOk n (Cd (wd K) P0 w K mg base n__law_mixed "_law_mixed" (defScope s__law_mixed) (He.fAd K ("_law_mixed", none)) (.ref (He.cT K ("_law_mixed", none)).1) A outer s H E) (CAe outer s H)) :
    SSs (wd K) n (Cd (wd K) P0 w K mg base n__law_mixed "_law_mixed" (defScope s__law_mixed) (He.fAd K ("_law_mixed", none)) (.ref (He.cT K ("_law_mixed", none)).1) A outer s H E) (CAe outer s H) (defBody s__law_mixed) i__law_mixed := by
  have hN : n__law_mixed.Nodup := by decide +kernel
  exact (sss_cons (ss_par C.calm hN 1 2 (se_add (se_ix C.hu1 (se_v 0) se_str) se_int) se_int)
  (sss_cons (ss_setIx C (se_v 0) se_str (se_v 1))
  (sss_cons (ss_for C.calm (si_seq (se_lst (sa_cons se_int (sa_cons se_int (sa_cons se_int (sa_cons se_int sa_nil)))))) (sg_nm 3 hN) (sss_cons (ss_set hN 4 (se_add (se_mul se_int (se_v 1)) (se_fdiv (se_v 3) se_int)))
  (sss_cons (ss_for C.calm (si_seq (se_ix C.hu1 (se_v 0) se_str)) (sg_nm 5 hN) (sss_cons (ss_set hN 4 (se_mod (se_int1 (se_add (se_add (se_mul (se_v 4) se_int) (se_v 5)) (se_v 1)) (F.b_int)) (se_v 3)))
  sss_nil))
  (sss_cons (ss_set hN 2 (se_add (se_mul (se_v 2) se_int) (se_mod (se_int1 (se_pow (se_v 4) se_int) (F.b_int)) (se_v 3))))
  sss_nil))))
  (sss_cons (ss_ret (se_v 2))
  sss_nil))))
theorem b__law_draw (F : Fx P0 w K mg base) (LV : Lv (wd K) nameOf kwOf P0 w K mg base n) (A : Around) (outer : List PySem.Env) (s : Shared) (H : Hp) (E : XK) (C : CxOk n (Cd (wd K) P0 w K mg base n__law_draw "_law_draw" (defScope s__law_draw) (He.fAd K ("_law_draw", none)) (.ref (He.cT K ("_law_draw", none)).1) A outer s H E) (CAe outer s H)) :
    SSs (wd K) n (Cd (wd K) P0 w K mg base n__law_draw "_law_draw" (defScope s__law_draw) (He.fAd K ("_law_draw", none)) (.ref (He.cT K ("_law_draw", none)).1) A outer s H E) (CAe outer s H) (defBody s__law_draw) i__law_draw := by
  have hN : n__law_draw.Nodup := by decide +kernel
  exact (sss_cons (ss_if (st_cmp (op_eqD C.hu) eq_S (by first | rfl | exact nomark _) (se_ix C.hu1 (se_v 0) se_str) se_int) (sss_cons (ss_setIx C (se_v 0) se_str (se_ite (st_neNil C.hu (se_ix C.hu1 (se_v 0) se_str)) (se_popAt (se_ix C.hu1 (se_v 0) se_str) se_int) (se_call (dv := []) C ⟨LV.g 9 "_law_mixed" rfl⟩ (sa_cons (se_v 0) sa_nil))))
  sss_nil) sss_nil)
  (sss_cons (ss_set hN 2 (se_mod (se_int1 (se_ix C.hu1 (se_v 0) se_str) (F.b_int)) (se_v 1)))
  (sss_cons (ss_setIx C (se_v 0) se_str (se_fdiv (se_ix C.hu1 (se_v 0) se_str) (se_v 1)))
  (sss_cons (ss_ret (se_v 2))
  sss_nil))))
theorem b__law_pick (F : Fx P0 w K mg base) (LV : Lv (wd K) nameOf kwOf P0 w K mg base n) (A : Around) (outer : List PySem.Env) (s : Shared) (H : Hp) (E : XK) (C : CxOk n (Cd (wd K) P0 w K mg base n__law_pick "_law_pick" (defScope s__law_pick) (He.fAd K ("_law_pick", none)) (.ref (He.cT K ("_law_pick", none)).1) A outer s H E) (CAe outer s H)) :
    SSs (wd K) n (Cd (wd K) P0 w K mg base n__law_pick "_law_pick" (defScope s__law_pick) (He.fAd K ("_law_pick", none)) (.ref (He.cT K ("_law_pick", none)).1) A outer s H E) (CAe outer s H) (defBody s__law_pick) i__law_pick := by
  have hN : n__law_pick.Nodup := by decide +kernel
  exact (sss_cons (ss_ret (se_ix C.hu1 (se_v 1) (se_call (dv := []) C ⟨LV.g 10 "_law_draw" rfl⟩ (sa_cons (se_v 0) (sa_cons (se_len (se_v 1) (F.b_len)) sa_nil)))))
  sss_nil)
theorem b__law_is (F : Fx P0 w K mg base) (LV : Lv (wd K) nameOf kwOf P0 w K mg base n) (A : Around) (outer : List PySem.Env) (s : Shared) (H : Hp) (E : XK) (C : CxOk n (Cd (wd K) P0 w K mg base n__law_is "_law_is" (defScope s__law_is) (He.fAd K ("_law_is", none)) (.ref (He.cT K ("_law_is", none)).1) A outer s H E) (CAe outer s H)) :
    SSs (wd K) n (Cd (wd K) P0 w K mg base n__law_is "_law_is" (defScope s__law_is) (He.fAd K ("_law_is", none)) (.ref (He.cT K ("_law_is", none)).1) A outer s H E) (CAe outer s H) (defBody s__law_is) i__law_is := by
  have hN : n__law_is.Nodup := by decide +kernel
  exact (sss_cons (ss_if (st_val (se_isiT (se_v 1) (F.b_isinstance) (ptys_cons (F.b_tuple) (ptys_cons (F.b_list) ptys_nil)))) (sss_cons (ss_if (st_w (sw_or (st_cmp (op_neD C.hu) ne_S (by first | rfl | exact nomark _) (se_isi .tuple (se_v 1) (F.b_isinstance) (F.b_tuple)) (se_isi .tuple (se_v 0) (F.b_isinstance) (F.b_tuple))) (sw_or (st_cmp (op_neD C.hu) ne_S (by first | rfl | exact nomark _) (se_isi .list (se_v 1) (F.b_isinstance) (F.b_list)) (se_isi .list (se_v 0) (F.b_isinstance) (F.b_list))) (sw_or1 (st_cmp (op_neD C.hu) ne_S (by first | rfl | exact nomark _) (se_len (se_v 0) (F.b_len)) (se_len (se_v 1) (F.b_len))))))) (sss_cons (ss_ret se_bl)
  sss_nil) sss_nil)
  (sss_cons (ss_ret (se_eqNil C.hu (se_lc1P C hN (si_zip (se_v 0) (se_v 1) (F.b_zip)) (blkOk_by (own := [("one", 2), ("other", 3)]) (by kernel_rfl)) (by decide) (fun _ _ _ _ _ C5 => (sg_tp C5.calm (sgs_cons (sg_nm 2 hN) (sgs_cons (sg_nm 3 hN) sgs_nil)))) (fun _ _ _ _ _ C5 => (st_not (st_val (se_call (dv := []) C5 ⟨LV.g 12 "_law_is" rfl⟩ (sa_cons (se_v 2) (sa_cons (se_v 3) sa_nil)))))) (fun _ _ _ _ _ C5 => se_int))))
  sss_nil)) sss_nil)
  (sss_cons (ss_if (st_val (se_isi .dict (se_v 1) (F.b_isinstance) (F.b_dict))) (sss_cons (ss_ret (se_and (se_isi .dict (se_v 0) (F.b_isinstance) (F.b_dict)) (se_one (se_call (dv := []) C ⟨LV.g 12 "_law_is" rfl⟩ (sa_cons (se_list1 se_bad (F.b_list)) (sa_cons (se_list1 se_bad (F.b_list)) sa_nil))))))
  sss_nil) sss_nil)
  (sss_cons (ss_if (st_w (sw_or (st_isN (se_v 1)) (sw_or1 (st_val (se_isi .str (se_v 1) (F.b_isinstance) (F.b_str)))))) (sss_cons (ss_ret (se_and (se_cmp (op_eqD C.hu) eq_S (by first | rfl | exact nomark _) (se_isi .str (se_v 0) (F.b_isinstance) (F.b_str)) (se_isi .str (se_v 1) (F.b_isinstance) (F.b_str))) (se_one (se_cmp (op_eqD C.hu) eq_S (by first | rfl | exact nomark _) (se_v 0) (se_v 1)))))
  sss_nil) sss_nil)
  (sss_cons (ss_ret (se_and (se_isi .int (se_v 0) (F.b_isinstance) (F.b_int)) (se_and (se_cmp (op_eqD C.hu) eq_S (by first | rfl | exact nomark _) (se_v 0) (se_v 1)) (se_and (se_cmp (op_eqD C.hu) eq_S (by first | rfl | exact nomark _) (se_isT (se_v 0)) (se_isT (se_v 1))) (se_one (se_cmp (op_eqD C.hu) eq_S (by first | rfl | exact nomark _) (se_isF (se_v 0)) (se_isF (se_v 1))))))))
  sss_nil))))
theorem b__law_caught (F : Fx P0 w K mg base) (LV : Lv (wd K) nameOf kwOf P0 w K mg base n) (A : Around) (outer : List PySem.Env) (s : Shared) (H : Hp) (E : XK) (C : CxOk n (Cd (wd K) P0 w K mg base n__law_caught "_law_caught" (defScope s__law_caught) (He.fAd K ("_law_caught", none)) (.ref (He.cT K ("_law_caught", none)).1) A outer s H E) (CAe outer s H)) :
    SSs (wd K) n (Cd (wd K) P0 w K mg base n__law_caught "_law_caught" (defScope s__law_caught) (He.fAd K ("_law_caught", none)) (.ref (He.cT K ("_law_caught", none)).1) A outer s H E) (CAe outer s H) (defBody s__law_caught) i__law_caught := by
  have hN : n__law_caught.Nodup := by decide +kernel
  exact (sss_cons (ss_set hN 1 (se_lst sa_nil))
  (sss_cons (ss_try C rfl rfl rfl rfl hN 2 ⟨rfl, by decide, .inl F.t_AllError⟩ F.t_AllError_k (fun pn6 xe6 C6 => (sss_cons (ss_expr (se_callv C6 LV.l))
  sss_nil)) (fun a6 q6 => (sss_cons (ss_expr (se_append (se_v 1) (se_v 2)))
  sss_nil)))
  (sss_cons (ss_ret (se_ite (st_neNil C.hu (se_v 1)) (se_ix C.hu1 (se_v 1) se_int) se_non))
  sss_nil)))
theorem b__law_word (F : Fx P0 w K mg base) (LV : Lv (wd K) nameOf kwOf P0 w K mg base n) (A : Around) (outer : List PySem.Env) (s : Shared) (H : Hp) (E : XK) (C : CxOk n (Cd (wd K) P0 w K mg base n__law_word "_law_word" (defScope s__law_word) (He.fAd K ("_law_word", none)) (.ref (He.cT K ("_law_word", none)).1) A outer s H E) (CAe outer s H)) :
    SSs (wd K) n (Cd (wd K) P0 w K mg base n__law_word "_law_word" (defScope s__law_word) (He.fAd K ("_law_word", none)) (.ref (He.cT K ("_law_word", none)).1) A outer s H E) (CAe outer s H) (defBody s__law_word) i__law_word := by
  have hN : n__law_word.Nodup := by decide +kernel
  exact (sss_cons (ss_set hN 1 (se_lst sa_nil))
  (sss_cons (ss_set hN 2 (se_callL C (fun _ => rfl) ⟨LV.g 13 "_law_caught" rfl⟩ 20 [0, 1] (lm_20 F) rfl lmg_20 rfl))
  (sss_cons (ss_if (st_isN (se_v 2)) (sss_cons (ss_ret (se_ix C.hu1 (se_v 1) se_int))
  sss_nil) sss_nil)
  (sss_cons (ss_if (st_val (se_isEr (se_v 2) (F.b_isinstance) F.e_Used k_Used F.e_Used_k)) (sss_cons (ss_ret (se_tup (sa_cons se_str (sa_cons se_bad sa_nil))))
  sss_nil) sss_nil)
  (sss_cons (ss_if (st_val (se_isEr (se_v 2) (F.b_isinstance) F.e_TooMany k_TooMany F.e_TooMany_k)) (sss_cons (ss_ret (se_tup (sa_cons se_str (sa_cons se_bad sa_nil))))
  sss_nil) sss_nil)
  (sss_cons (ss_if (st_val (se_isEr (se_v 2) (F.b_isinstance) F.e_NoText k_NoText F.e_NoText_k)) (sss_cons (ss_ret (se_tup (sa_cons se_str (sa_cons (se_fld (se_v 2) [18] F.f_line) sa_nil))))
  sss_nil) sss_nil)
  (sss_cons (ss_set hN 3 (se_lst (sa_cons (se_tup (sa_cons se_str (sa_cons (se_isEr (se_v 2) (F.b_isinstance) F.e_NoName k_NoName F.e_NoName_k) sa_nil))) (sa_cons (se_tup (sa_cons se_str (sa_cons (se_isEr (se_v 2) (F.b_isinstance) F.e_Twice k_Twice F.e_Twice_k) sa_nil))) (sa_cons (se_tup (sa_cons se_str (sa_cons (se_isEr (se_v 2) (F.b_isinstance) F.e_NoNumber k_NoNumber F.e_NoNumber_k) sa_nil))) (sa_cons (se_tup (sa_cons se_str (sa_cons (se_isEr (se_v 2) (F.b_isinstance) F.e_NoRoutine k_NoRoutine F.e_NoRoutine_k) sa_nil))) sa_nil))))))
  (sss_cons (ss_set hN 3 (se_add (se_v 3) (se_lst (sa_cons (se_tup (sa_cons se_str (sa_cons (se_isEr (se_v 2) (F.b_isinstance) F.e_NoPoint k_NoPoint F.e_NoPoint_k) sa_nil))) (sa_cons (se_tup (sa_cons se_str (sa_cons (se_isEr (se_v 2) (F.b_isinstance) F.e_NoRow k_NoRow F.e_NoRow_k) sa_nil))) (sa_cons (se_tup (sa_cons se_str (sa_cons (se_isEr (se_v 2) (F.b_isinstance) F.e_NoStep k_NoStep F.e_NoStep_k) sa_nil))) (sa_cons (se_tup (sa_cons se_str (sa_cons (se_isEr (se_v 2) (F.b_isinstance) F.e_NoState k_NoState F.e_NoState_k) sa_nil))) sa_nil)))))))
  (sss_cons (ss_set hN 3 (se_add (se_v 3) (se_lst (sa_cons (se_tup (sa_cons se_str (sa_cons (se_isEr (se_v 2) (F.b_isinstance) F.e_NoStart k_NoStart F.e_NoStart_k) sa_nil))) (sa_cons (se_tup (sa_cons se_str (sa_cons (se_isEr (se_v 2) (F.b_isinstance) F.e_NoSum k_NoSum F.e_NoSum_k) sa_nil))) (sa_cons (se_tup (sa_cons se_str (sa_cons (se_isEr (se_v 2) (F.b_isinstance) F.e_NoClaim k_NoClaim F.e_NoClaim_k) sa_nil))) (sa_cons (se_tup (sa_cons se_str (sa_cons (se_isEr (se_v 2) (F.b_isinstance) F.e_Unlike k_Unlike F.e_Unlike_k) sa_nil))) sa_nil)))))))
  (sss_cons (ss_set hN 3 (se_add (se_v 3) (se_lst (sa_cons (se_tup (sa_cons se_str (sa_cons (se_isEr (se_v 2) (F.b_isinstance) F.e_NoDeed k_NoDeed F.e_NoDeed_k) sa_nil))) (sa_cons (se_tup (sa_cons se_str (sa_cons (se_isEr (se_v 2) (F.b_isinstance) F.e_NoPast k_NoPast F.e_NoPast_k) sa_nil))) (sa_cons (se_tup (sa_cons se_str (sa_cons (se_isEr (se_v 2) (F.b_isinstance) F.e_NoBook k_NoBook F.e_NoBook_k) sa_nil))) sa_nil))))))
  (sss_cons (ss_setLc1P 4 C hN (si_seq (se_v 3)) (blkOk_by (own := [("word", 5), ("is_one", 6)]) (by kernel_rfl)) (by decide) (fun _ _ _ _ _ C7 => (sg_tp C7.calm (sgs_cons (sg_nm 5 hN) (sgs_cons (sg_nm 6 hN) sgs_nil)))) (fun _ _ _ _ _ C7 => (st_val (se_v 6))) (fun _ _ _ _ _ C7 => (se_v 5)))
  (sss_cons (ss_ret (se_ite (st_neNil C.hu (se_v 4)) (se_ix C.hu1 (se_v 4) se_int) se_str))
  sss_nil))))))))))))
theorem b__law_value_text (F : Fx P0 w K mg base) (LV : Lv (wd K) nameOf kwOf P0 w K mg base n) (A : Around) (outer : List PySem.Env) (s : Shared) (H : Hp) (E : XK) (C : CxOk n (Cd (wd K) P0 w K mg base n__law_value_text "_law_value_text" (defScope s__law_value_text) (He.fAd K ("_law_value_text", none)) (.ref (He.cT K ("_law_value_text", none)).1) A outer s H E) (CAe outer s H)) :
    SSs (wd K) n (Cd (wd K) P0 w K mg base n__law_value_text "_law_value_text" (defScope s__law_value_text) (He.fAd K ("_law_value_text", none)) (.ref (He.cT K ("_law_value_text", none)).1) A outer s H E) (CAe outer s H) (defBody s__law_value_text) i__law_value_text := by
  have hN : n__law_value_text.Nodup := by decide +kernel
  exact (sss_cons (ss_if (st_val (se_isi .tuple (se_v 0) (F.b_isinstance) (F.b_tuple))) (sss_cons (ss_ret (se_add (se_add se_str (se_join se_str (se_lcP C hN (si_seq (se_v 0)) (blkOk_by (own := [("one", 1)]) (by kernel_rfl)) (by decide) (fun _ _ _ _ _ C8 => (sg_nm 1 hN)) (fun _ _ _ _ _ C8 => (se_call (dv := []) C8 ⟨LV.g 15 "_law_value_text" rfl⟩ (sa_cons (se_v 1) sa_nil)))))) se_str))
  sss_nil) sss_nil)
  (sss_cons (ss_ret (se_ite (st_isN (se_v 0)) se_str (se_str1 (se_v 0) (F.b_str))))
  sss_nil))
theorem b__law_plain (F : Fx P0 w K mg base) (LV : Lv (wd K) nameOf kwOf P0 w K mg base n) (A : Around) (outer : List PySem.Env) (s : Shared) (H : Hp) (E : XK) (C : CxOk n (Cd (wd K) P0 w K mg base n__law_plain "_law_plain" (defScope s__law_plain) (He.fAd K ("_law_plain", none)) (.ref (He.cT K ("_law_plain", none)).1) A outer s H E) (CAe outer s H)) :
    SSs (wd K) n (Cd (wd K) P0 w K mg base n__law_plain "_law_plain" (defScope s__law_plain) (He.fAd K ("_law_plain", none)) (.ref (He.cT K ("_law_plain", none)).1) A outer s H E) (CAe outer s H) (defBody s__law_plain) i__law_plain := by
  have hN : n__law_plain.Nodup := by decide +kernel
  exact (sss_cons (ss_if (st_val (se_isiT (se_v 0) (F.b_isinstance) (ptys_cons (F.b_list) (ptys_cons (F.b_tuple) ptys_nil)))) (sss_cons (ss_ret (se_eqNil C.hu (se_lc1P C hN (si_seq (se_v 0)) (blkOk_by (own := [("one", 1)]) (by kernel_rfl)) (by decide) (fun _ _ _ _ _ C9 => (sg_nm 1 hN)) (fun _ _ _ _ _ C9 => (st_not (st_val (se_call (dv := []) C9 ⟨LV.g 16 "_law_plain" rfl⟩ (sa_cons (se_v 1) sa_nil))))) (fun _ _ _ _ _ C9 => se_int))))
  sss_nil) sss_nil)
  (sss_cons (ss_if (st_val (se_isi .dict (se_v 0) (F.b_isinstance) (F.b_dict))) (sss_cons (ss_ret (se_call (dv := []) C ⟨LV.g 16 "_law_plain" rfl⟩ (sa_cons (se_list1 se_bad (F.b_list)) sa_nil)))
  sss_nil) sss_nil)
  (sss_cons (ss_ret (se_or (se_isN (se_v 0)) (se_one (se_isiT (se_v 0) (F.b_isinstance) (ptys_cons (F.b_int) (ptys_cons (F.b_str) ptys_nil))))))
  sss_nil)))
theorem b__law_some_value (F : Fx P0 w K mg base) (LV : Lv (wd K) nameOf kwOf P0 w K mg base n) (A : Around) (outer : List PySem.Env) (s : Shared) (H : Hp) (E : XK) (C : CxOk n (Cd (wd K) P0 w K mg base n__law_some_value "_law_some_value" (defScope s__law_some_value) (He.fAd K ("_law_some_value", none)) (.ref (He.cT K ("_law_some_value", none)).1) A outer s H E) (CAe outer s H)) :
    SSs (wd K) n (Cd (wd K) P0 w K mg base n__law_some_value "_law_some_value" (defScope s__law_some_value) (He.fAd K ("_law_some_value", none)) (.ref (He.cT K ("_law_some_value", none)).1) A outer s H E) (CAe outer s H) (defBody s__law_some_value) i__law_some_value := by
  have hN : n__law_some_value.Nodup := by decide +kernel
  exact (sss_cons (ss_set hN 2 (se_ite (st_cmp op_gt gt_S (by first | rfl | exact nomark _) (se_v 1) se_int) (se_call (dv := []) C ⟨LV.g 10 "_law_draw" rfl⟩ (sa_cons (se_v 0) (sa_cons se_int sa_nil))) (se_call (dv := []) C ⟨LV.g 10 "_law_draw" rfl⟩ (sa_cons (se_v 0) (sa_cons se_int sa_nil)))))
  (sss_cons (ss_if (st_cmp (op_eqD C.hu) eq_S (by first | rfl | exact nomark _) (se_v 2) se_int) (sss_cons (ss_ret (se_call (dv := []) C ⟨LV.g 11 "_law_pick" rfl⟩ (sa_cons (se_v 0) (sa_cons (se_lst (sa_cons se_str (sa_cons se_str (sa_cons se_str (sa_cons se_str (sa_cons se_str sa_nil)))))) sa_nil))))
  sss_nil) sss_nil)
  (sss_cons (ss_if (st_cmp (op_eqD C.hu) eq_S (by first | rfl | exact nomark _) (se_v 2) se_int) (sss_cons (ss_ret (se_call (dv := []) C ⟨LV.g 11 "_law_pick" rfl⟩ (sa_cons (se_v 0) (sa_cons (se_lst (sa_cons se_int (sa_cons se_int (sa_cons (se_sub se_int se_int) (sa_cons se_int (sa_cons (se_sub se_int se_int) (sa_cons se_int (sa_cons (se_sub se_int se_int) sa_nil)))))))) sa_nil))))
  sss_nil) sss_nil)
  (sss_cons (ss_if (st_cmp (op_eqD C.hu) eq_S (by first | rfl | exact nomark _) (se_v 2) se_int) (sss_cons (ss_ret se_non)
  sss_nil) sss_nil)
  (sss_cons (ss_ret (se_tuple1 (se_lcP C hN (si_rng1 (se_call (dv := []) C ⟨LV.g 10 "_law_draw" rfl⟩ (sa_cons (se_v 0) (sa_cons se_int sa_nil))) (F.b_range)) (blkOk_by (own := [("lap", 3)]) (by kernel_rfl)) (by decide) (fun _ _ _ _ _ C10 => (sg_nm 3 hN)) (fun _ _ _ _ _ C10 => (se_call (dv := []) C10 ⟨LV.g 17 "_law_some_value" rfl⟩ (sa_cons (se_v 0) (sa_cons (se_sub (se_v 1) se_int) sa_nil))))) (F.b_tuple)))
  sss_nil)))))
theorem b__law_nested (F : Fx P0 w K mg base) (LV : Lv (wd K) nameOf kwOf P0 w K mg base n) (A : Around) (outer : List PySem.Env) (s : Shared) (H : Hp) (E : XK) (C : CxOk n (Cd (wd K) P0 w K mg base n__law_nested "_law_nested" (defScope s__law_nested) (He.fAd K ("_law_nested", none)) (.ref (He.cT K ("_law_nested", none)).1) A outer s H E) (CAe outer s H)) :
    SSs (wd K) n (Cd (wd K) P0 w K mg base n__law_nested "_law_nested" (defScope s__law_nested) (He.fAd K ("_law_nested", none)) (.ref (He.cT K ("_law_nested", none)).1) A outer s H E) (CAe outer s H) (defBody s__law_nested) i__law_nested := by
  have hN : n__law_nested.Nodup := by decide +kernel
  exact (sss_cons (ss_for C.calm (si_rng1 (se_v 0) (F.b_range)) (sg_nm 2 hN) (sss_cons (ss_set hN 1 (se_tup (sa_cons (se_v 1) sa_nil)))
  sss_nil))
  (sss_cons (ss_ret (se_v 1))
  sss_nil))
theorem b_law (F : Fx P0 w K mg base) (LV : Lv (wd K) nameOf kwOf P0 w K mg base n) (A : Around) (outer : List PySem.Env) (s : Shared) (H : Hp) (E : XK) (C : CxOk n (Cd (wd K) P0 w K mg base n_law "law" (defScope s_law) (He.fAd K ("law", none)) (.ref (He.cT K ("law", none)).1) A outer s H E) (CAe outer s H)) :
    SSs (wd K) n (Cd (wd K) P0 w K mg base n_law "law" (defScope s_law) (He.fAd K ("law", none)) (.ref (He.cT K ("law", none)).1) A outer s H E) (CAe outer s H) (defBody s_law) i_law := by
  have hN : n_law.Nodup := by decide +kernel
  exact (sss_cons (ss_set hN 1 (se_call (dv := []) C ⟨LV.g 8 "_law_begun" rfl⟩ (sa_cons (se_v 0) sa_nil)))
  (sss_cons (ss_for C.calm (si_seq (se_lst (sa_cons se_str (sa_cons se_str (sa_cons se_str (sa_cons se_str (sa_cons se_str (sa_cons (se_pow se_int se_int) (sa_cons (se_sub se_int (se_pow se_int se_int)) (sa_cons se_bl (sa_cons (se_lst (sa_cons se_str sa_nil)) (sa_cons (se_tup (sa_cons se_str (sa_cons (se_lst (sa_cons se_str sa_nil)) sa_nil))) (sa_cons (se_tup (sa_cons se_str (sa_cons se_str sa_nil))) (sa_cons (se_call (dv := []) C ⟨LV.g 18 "_law_nested" rfl⟩ (sa_cons se_int (sa_cons se_str sa_nil))) (sa_cons (se_tup (sa_cons se_str (sa_cons se_bl sa_nil))) sa_nil))))))))))))))) (sg_nm 2 hN) (sss_cons (ss_if (st_cmp (op_neD C.hu) ne_S (by first | rfl | exact nomark _) (se_callL C (fun _ => rfl) ⟨LV.g 14 "_law_word" rfl⟩ 21 [2] (lm_21 F) rfl lmg_21 rfl) (se_tup (sa_cons se_str (sa_cons se_int sa_nil)))) (sss_cons (ss_ret se_bl)
  sss_nil) sss_nil)
  sss_nil))
  (sss_cons (ss_set hN 3 (se_call (dv := []) C ⟨LV.g 18 "_law_nested" rfl⟩ (sa_cons se_int (sa_cons se_str sa_nil))))
  (sss_cons (ss_if (st_w (sw_or (st_not (st_val (se_call (dv := []) C ⟨LV.g 12 "_law_is" rfl⟩ (sa_cons (se_call (dv := []) C ⟨LV.g 3 "value_text" rfl⟩ (sa_cons (se_v 3) sa_nil)) (sa_cons (se_add (se_add (se_mul se_str se_int) se_str) (se_mul se_str se_int)) sa_nil))))) (sw_or (st_cmp (op_neD C.hu) ne_S (by first | rfl | exact nomark _) (se_call (dv := []) C ⟨LV.g 7 "read_value" rfl⟩ (sa_cons (se_add (se_add (se_mul se_str se_int) se_str) (se_mul se_str se_int)) sa_nil)) (se_v 3)) (sw_or1 (st_cmp (op_neD C.hu) ne_S (by first | rfl | exact nomark _) (se_callL C (fun _ => rfl) ⟨LV.g 14 "_law_word" rfl⟩ 22 [] (lm_22 F) rfl lmg_22 rfl) (se_tup (sa_cons se_str (sa_cons se_int sa_nil)))))))) (sss_cons (ss_ret se_bl)
  sss_nil) sss_nil)
  (sss_cons (ss_for C.calm (si_seq (se_lst (sa_cons se_non (sa_cons se_int (sa_cons se_str (sa_cons se_str (sa_cons se_str (sa_cons se_str (sa_cons se_str (sa_cons se_str (sa_cons se_str (sa_cons se_str (sa_cons se_str (sa_cons se_str (sa_cons se_str (sa_cons se_str (sa_cons se_str (sa_cons se_str (sa_cons se_str (sa_cons se_str (sa_cons se_str (sa_cons se_str (sa_cons se_str (sa_cons se_str (sa_cons se_str (sa_cons se_str (sa_cons se_str (sa_cons se_str (sa_cons se_str (sa_cons se_str sa_nil)))))))))))))))))))))))))))))) (sg_nm 2 hN) (sss_cons (ss_if (st_cmp (op_neD C.hu) ne_S (by first | rfl | exact nomark _) (se_callL C (fun _ => rfl) ⟨LV.g 14 "_law_word" rfl⟩ 23 [2] (lm_23 F) rfl lmg_23 rfl) (se_tup (sa_cons se_str (sa_cons se_int sa_nil)))) (sss_cons (ss_ret se_bl)
  sss_nil) sss_nil)
  sss_nil))
  (sss_cons (ss_for C.calm (si_rng1 (se_add se_int (se_min2 C.calm (se_len (se_v 0) (F.b_len)) se_int (F.b_min))) (F.b_range)) (sg_nm 4 hN) (sss_cons (ss_par C.calm hN 5 6 (se_call (dv := []) C ⟨LV.g 17 "_law_some_value" rfl⟩ (sa_cons (se_v 1) (sa_cons se_int sa_nil))) (se_call (dv := []) C ⟨LV.g 17 "_law_some_value" rfl⟩ (sa_cons (se_v 1) (sa_cons se_int sa_nil))))
  (sss_cons (ss_set hN 7 (se_call (dv := []) C ⟨LV.g 15 "_law_value_text" rfl⟩ (sa_cons (se_v 5) sa_nil)))
  (sss_cons (ss_if (st_w (sw_or (st_not (st_val (se_call (dv := []) C ⟨LV.g 12 "_law_is" rfl⟩ (sa_cons (se_call (dv := []) C ⟨LV.g 3 "value_text" rfl⟩ (sa_cons (se_v 5) sa_nil)) (sa_cons (se_v 7) sa_nil))))) (sw_or (st_not (st_val (se_call (dv := []) C ⟨LV.g 12 "_law_is" rfl⟩ (sa_cons (se_call (dv := []) C ⟨LV.g 7 "read_value" rfl⟩ (sa_cons (se_v 7) sa_nil)) (sa_cons (se_v 5) sa_nil))))) (sw_or (st_not (st_val (se_call (dv := []) C ⟨LV.g 12 "_law_is" rfl⟩ (sa_cons (se_callK C ⟨LV.k 7 "read_value" _ rfl⟩ (sk_cons (se_v 7) sk_nil)) (sa_cons (se_v 5) sa_nil))))) (sw_or1 (st_not (st_val (se_call (dv := []) C ⟨LV.g 12 "_law_is" rfl⟩ (sa_cons (se_callK C ⟨LV.k 3 "value_text" _ rfl⟩ (sk_cons (se_v 5) sk_nil)) (sa_cons (se_v 7) sa_nil)))))))))) (sss_cons (ss_ret se_bl)
  sss_nil) sss_nil)
  (sss_cons (ss_if (st_cmp (op_neD C.hu) ne_S (by first | rfl | exact nomark _) (se_cmp (op_eqD C.hu) eq_S (by first | rfl | exact nomark _) (se_call (dv := []) C ⟨LV.g 3 "value_text" rfl⟩ (sa_cons (se_v 5) sa_nil)) (se_call (dv := []) C ⟨LV.g 3 "value_text" rfl⟩ (sa_cons (se_v 6) sa_nil))) (se_cmp (op_eqD C.hu) eq_S (by first | rfl | exact nomark _) (se_v 5) (se_v 6))) (sss_cons (ss_ret se_bl)
  sss_nil) sss_nil)
  (sss_cons (ss_set hN 8 (se_call (dv := []) C ⟨LV.g 10 "_law_draw" rfl⟩ (sa_cons (se_v 1) (sa_cons (se_add (se_len (se_v 7) (F.b_len)) se_int) sa_nil))))
  (sss_cons (ss_set hN 9 (se_call (dv := []) C ⟨LV.g 11 "_law_pick" rfl⟩ (sa_cons (se_v 1) (sa_cons (se_lst (sa_cons (se_add (se_add (se_slH (se_v 7) (se_v 8)) (se_call (dv := []) C ⟨LV.g 11 "_law_pick" rfl⟩ (sa_cons (se_v 1) (sa_cons (se_lst (sa_cons se_str (sa_cons se_str (sa_cons se_str (sa_cons se_str sa_nil))))) sa_nil)))) (se_slL (se_v 7) (se_v 8))) (sa_cons (se_add (se_slH (se_v 7) (se_v 8)) (se_slL (se_v 7) (se_add (se_v 8) se_int))) sa_nil))) sa_nil))))
  (sss_cons (ss_set hN 10 (se_callL C (fun _ => rfl) ⟨LV.g 14 "_law_word" rfl⟩ 24 [9] (lm_24 F) rfl lmg_24 rfl))
  (sss_cons (ss_if (st_w (sw_and (st_cmp (op_neD C.hu) ne_S (by first | rfl | exact nomark _) (se_v 10) (se_tup (sa_cons se_str (sa_cons se_int sa_nil)))) (sw_and1 (st_w (sw_or (st_not (st_val (se_call (dv := []) C ⟨LV.g 16 "_law_plain" rfl⟩ (sa_cons (se_v 10) sa_nil)))) (sw_or1 (st_cmp (op_neD C.hu) ne_S (by first | rfl | exact nomark _) (se_call (dv := []) C ⟨LV.g 15 "_law_value_text" rfl⟩ (sa_cons (se_v 10) sa_nil)) (se_v 9)))))))) (sss_cons (ss_ret se_bl)
  sss_nil) sss_nil)
  sss_nil)))))))))
  (sss_cons (ss_ret se_bl)
  sss_nil)))))))
theorem bl_20 (F : Fx P0 w K mg base) (LV : Lv (wd K) nameOf kwOf P0 w K mg base n) : LamP (wd K) P0 w K mg base (n + 6) (n + 1) 20 :=
  lamP_of (N := n_20) (fr := n_20) rfl rfl lms_20 (fun _ _ _ _ => rfl) fun cl c' f A outer s H E C => by
    have hN : n_20.Nodup := by decide +kernel
    exact (se_append (se_v 1) (se_callv C LV.l))
theorem bl_21 (F : Fx P0 w K mg base) (LV : Lv (wd K) nameOf kwOf P0 w K mg base n) : LamP (wd K) P0 w K mg base (n + 6) (n + 1) 21 :=
  lamP_of (N := n_21) (fr := n_21) rfl rfl lms_21 (fun _ _ _ _ => rfl) fun cl c' f A outer s H E C => by
    have hN : n_21.Nodup := by decide +kernel
    exact (se_call (dv := []) C ⟨LV.g 3 "value_text" rfl⟩ (sa_cons (se_v 0) sa_nil))
theorem bl_22 (F : Fx P0 w K mg base) (LV : Lv (wd K) nameOf kwOf P0 w K mg base n) : LamP (wd K) P0 w K mg base (n + 6) (n + 1) 22 :=
  lamP_of (N := n_22) (fr := n_22) rfl rfl lms_22 (fun _ _ _ _ => rfl) fun cl c' f A outer s H E C => by
    have hN : n_22.Nodup := by decide +kernel
    exact (se_call (dv := []) C ⟨LV.g 7 "read_value" rfl⟩ (sa_cons (se_add (se_add (se_mul se_str se_int) se_str) (se_mul se_str se_int)) sa_nil))
theorem bl_23 (F : Fx P0 w K mg base) (LV : Lv (wd K) nameOf kwOf P0 w K mg base n) : LamP (wd K) P0 w K mg base (n + 6) (n + 1) 23 :=
  lamP_of (N := n_23) (fr := n_23) rfl rfl lms_23 (fun _ _ _ _ => rfl) fun cl c' f A outer s H E C => by
    have hN : n_23.Nodup := by decide +kernel
    exact (se_call (dv := []) C ⟨LV.g 7 "read_value" rfl⟩ (sa_cons (se_v 0) sa_nil))
theorem bl_24 (F : Fx P0 w K mg base) (LV : Lv (wd K) nameOf kwOf P0 w K mg base n) : LamP (wd K) P0 w K mg base (n + 6) (n + 1) 24 :=
  lamP_of (N := n_24) (fr := n_24) rfl rfl lms_24 (fun _ _ _ _ => rfl) fun cl c' f A outer s H E C => by
    have hN : n_24.Nodup := by decide +kernel
    exact (se_call (dv := []) C ⟨LV.g 7 "read_value" rfl⟩ (sa_cons (se_v 0) sa_nil))
theorem lv (F : Fx P0 w K mg base) : ∀ n, Lv (wd K) nameOf kwOf P0 w K mg base n
  | 0 => ⟨fun i x h => (match i, h with
      | 0, h => by cases h; exact F.d_is_word.zero
      | 1, h => by cases h; exact F.d_is_figure.zero
      | 2, h => by cases h; exact F.d_is_value.zero
      | 3, h => by cases h; exact F.d_value_text.zero
      | 4, h => by cases h; exact F.d_pieces_of.zero
      | 5, h => by cases h; exact F.d_plain_of.zero
      | 6, h => by cases h; exact F.d_value_of.zero
      | 7, h => by cases h; exact F.d_read_value.zero
      | 8, h => by cases h; exact F.d__law_begun.zero
      | 9, h => by cases h; exact F.d__law_mixed.zero
      | 10, h => by cases h; exact F.d__law_draw.zero
      | 11, h => by cases h; exact F.d__law_pick.zero
      | 12, h => by cases h; exact F.d__law_is.zero
      | 13, h => by cases h; exact F.d__law_caught.zero
      | 14, h => by cases h; exact F.d__law_word.zero
      | 15, h => by cases h; exact F.d__law_value_text.zero
      | 16, h => by cases h; exact F.d__law_plain.zero
      | 17, h => by cases h; exact F.d__law_some_value.zero
      | 18, h => by cases h; exact F.d__law_nested.zero
      | 19, h => by cases h; exact F.d_law.zero
      | (_ + 20), h => by cases h), fun l h => lamP_zero, fun i x ks h => (match i, h with
      | 0, h => by cases h
      | 1, h => by cases h
      | 2, h => by cases h
      | 3, h => by cases h; exact F.d_value_text.zeroK kb_value_text
      | 4, h => by cases h
      | 5, h => by cases h
      | 6, h => by cases h
      | 7, h => by cases h; exact F.d_read_value.zeroK kb_read_value
      | 8, h => by cases h
      | 9, h => by cases h
      | 10, h => by cases h
      | 11, h => by cases h
      | 12, h => by cases h
      | 13, h => by cases h
      | 14, h => by cases h
      | 15, h => by cases h
      | 16, h => by cases h
      | 17, h => by cases h
      | 18, h => by cases h
      | 19, h => by cases h
      | (_ + 20), h => by cases h)⟩
  | n + 1 => ⟨fun i x h => (match i, h with
      | 0, h => by cases h; exact F.d_is_word.step fun A outer s H E C => b_is_word F (lv F n) A outer s H E C
      | 1, h => by cases h; exact F.d_is_figure.step fun A outer s H E C => b_is_figure F (lv F n) A outer s H E C
      | 2, h => by cases h; exact F.d_is_value.step fun A outer s H E C => b_is_value F (lv F n) A outer s H E C
      | 3, h => by cases h; exact F.d_value_text.step fun A outer s H E C => b_value_text F (lv F n) A outer s H E C
      | 4, h => by cases h; exact F.d_pieces_of.step fun A outer s H E C => b_pieces_of F (lv F n) A outer s H E C
      | 5, h => by cases h; exact F.d_plain_of.step fun A outer s H E C => b_plain_of F (lv F n) A outer s H E C
      | 6, h => by cases h; exact F.d_value_of.step fun A outer s H E C => b_value_of F (lv F n) A outer s H E C
      | 7, h => by cases h; exact F.d_read_value.step fun A outer s H E C => b_read_value F (lv F n) A outer s H E C
      | 8, h => by cases h; exact F.d__law_begun.step fun A outer s H E C => b__law_begun F (lv F n) A outer s H E C
      | 9, h => by cases h; exact F.d__law_mixed.step fun A outer s H E C => b__law_mixed F (lv F n) A outer s H E C
      | 10, h => by cases h; exact F.d__law_draw.step fun A outer s H E C => b__law_draw F (lv F n) A outer s H E C
      | 11, h => by cases h; exact F.d__law_pick.step fun A outer s H E C => b__law_pick F (lv F n) A outer s H E C
      | 12, h => by cases h; exact F.d__law_is.step fun A outer s H E C => b__law_is F (lv F n) A outer s H E C
      | 13, h => by cases h; exact F.d__law_caught.step fun A outer s H E C => b__law_caught F (lv F n) A outer s H E C
      | 14, h => by cases h; exact F.d__law_word.step fun A outer s H E C => b__law_word F (lv F n) A outer s H E C
      | 15, h => by cases h; exact F.d__law_value_text.step fun A outer s H E C => b__law_value_text F (lv F n) A outer s H E C
      | 16, h => by cases h; exact F.d__law_plain.step fun A outer s H E C => b__law_plain F (lv F n) A outer s H E C
      | 17, h => by cases h; exact F.d__law_some_value.step fun A outer s H E C => b__law_some_value F (lv F n) A outer s H E C
      | 18, h => by cases h; exact F.d__law_nested.step fun A outer s H E C => b__law_nested F (lv F n) A outer s H E C
      | 19, h => by cases h; exact F.d_law.step fun A outer s H E C => b_law F (lv F n) A outer s H E C
      | (_ + 20), h => by cases h), fun l h => (match l, h with
      | 0, h => by cases h
      | 1, h => by cases h
      | 2, h => by cases h
      | 3, h => by cases h
      | 4, h => by cases h
      | 5, h => by cases h
      | 6, h => by cases h
      | 7, h => by cases h
      | 8, h => by cases h
      | 9, h => by cases h
      | 10, h => by cases h
      | 11, h => by cases h
      | 12, h => by cases h
      | 13, h => by cases h
      | 14, h => by cases h
      | 15, h => by cases h
      | 16, h => by cases h
      | 17, h => by cases h
      | 18, h => by cases h
      | 19, h => by cases h
      | 20, h => bl_20 F (lv F n)
      | 21, h => bl_21 F (lv F n)
      | 22, h => bl_22 F (lv F n)
      | 23, h => bl_23 F (lv F n)
      | 24, h => bl_24 F (lv F n)
      | (_ + 25), h => by cases h), fun i x ks h => (match i, h with
      | 0, h => by cases h
      | 1, h => by cases h
      | 2, h => by cases h
      | 3, h => by cases h; exact F.d_value_text.stepK kb_value_text fun A outer s H E C => b_value_text F (lv F n) A outer s H E C
      | 4, h => by cases h
      | 5, h => by cases h
      | 6, h => by cases h
      | 7, h => by cases h; exact F.d_read_value.stepK kb_read_value fun A outer s H E C => b_read_value F (lv F n) A outer s H E C
      | 8, h => by cases h
      | 9, h => by cases h
      | 10, h => by cases h
      | 11, h => by cases h
      | 12, h => by cases h
      | 13, h => by cases h
      | 14, h => by cases h
      | 15, h => by cases h
      | 16, h => by cases h
      | 17, h => by cases h
      | 18, h => by cases h
      | 19, h => by cases h
      | (_ + 20), h => by cases h)⟩
end
end K88
end AR
end
section
set_option Elab.async false
set_option linter.all false
set_option maxRecDepth 100000
set_option maxHeartbeats 4000000
namespace AR
namespace K88
open PySem L2 PySem.Spec PyProof.Rows

/-- the __init__ of a class -/
def iniOf : Stmt → Arguments × List Stmt × Scope
  | .ClassDef _ _ _ (st :: _) _ _ _ _ _ _ _ => (defArgs st, defBody st, defScope st)
  | st => (defArgs st, defBody st, defScope st)
abbrev q_NoText : Stmt := top 19
def fn : List He.DefD := [⟨("is_word", none), "is_word", "is_word", defArgs s_is_word, defBody s_is_word, defScope s_is_word, [], []⟩,
  ⟨("is_figure", none), "is_figure", "is_figure", defArgs s_is_figure, defBody s_is_figure, defScope s_is_figure, [], []⟩,
  ⟨("is_value", none), "is_value", "is_value", defArgs s_is_value, defBody s_is_value, defScope s_is_value, [], []⟩,
  ⟨("value_text", none), "value_text", "value_text", defArgs s_value_text, defBody s_value_text, defScope s_value_text, [], []⟩,
  ⟨("pieces_of", none), "pieces_of", "pieces_of", defArgs s_pieces_of, defBody s_pieces_of, defScope s_pieces_of, [], []⟩,
  ⟨("plain_of", none), "plain_of", "plain_of", defArgs s_plain_of, defBody s_plain_of, defScope s_plain_of, [], []⟩,
  ⟨("value_of", none), "value_of", "value_of", defArgs s_value_of, defBody s_value_of, defScope s_value_of, [], []⟩,
  ⟨("read_value", none), "read_value", "read_value", defArgs s_read_value, defBody s_read_value, defScope s_read_value, [], []⟩,
  ⟨("_law_begun", none), "_law_begun", "_law_begun", defArgs s__law_begun, defBody s__law_begun, defScope s__law_begun, [], []⟩,
  ⟨("_law_mixed", none), "_law_mixed", "_law_mixed", defArgs s__law_mixed, defBody s__law_mixed, defScope s__law_mixed, [], []⟩,
  ⟨("_law_draw", none), "_law_draw", "_law_draw", defArgs s__law_draw, defBody s__law_draw, defScope s__law_draw, [], []⟩,
  ⟨("_law_pick", none), "_law_pick", "_law_pick", defArgs s__law_pick, defBody s__law_pick, defScope s__law_pick, [], []⟩,
  ⟨("_law_is", none), "_law_is", "_law_is", defArgs s__law_is, defBody s__law_is, defScope s__law_is, [], []⟩,
  ⟨("_law_caught", none), "_law_caught", "_law_caught", defArgs s__law_caught, defBody s__law_caught, defScope s__law_caught, [], []⟩,
  ⟨("_law_word", none), "_law_word", "_law_word", defArgs s__law_word, defBody s__law_word, defScope s__law_word, [], []⟩,
  ⟨("_law_value_text", none), "_law_value_text", "_law_value_text", defArgs s__law_value_text, defBody s__law_value_text, defScope s__law_value_text, [], []⟩,
  ⟨("_law_plain", none), "_law_plain", "_law_plain", defArgs s__law_plain, defBody s__law_plain, defScope s__law_plain, [], []⟩,
  ⟨("_law_some_value", none), "_law_some_value", "_law_some_value", defArgs s__law_some_value, defBody s__law_some_value, defScope s__law_some_value, [], []⟩,
  ⟨("_law_nested", none), "_law_nested", "_law_nested", defArgs s__law_nested, defBody s__law_nested, defScope s__law_nested, [], []⟩,
  ⟨("law", none), "law", "law", defArgs s_law, defBody s_law, defScope s_law, [], []⟩]
def fa : List He.Fa := [.glo "is_word", .glo "is_figure", .glo "is_value", .glo "value_text", .glo "pieces_of", .glo "plain_of", .glo "value_of", .glo "read_value", .glo "_law_begun", .glo "_law_mixed", .glo "_law_draw", .glo "_law_pick", .glo "_law_is", .glo "_law_caught", .glo "_law_word", .glo "_law_value_text", .glo "_law_plain", .glo "_law_some_value", .glo "_law_nested", .glo "law", .free "abs", .free "all", .free "bool", .free "dict", .free "enumerate", .free "int", .free "isinstance", .free "len", .free "list", .free "min", .free "range", .free "reversed", .free "str", .free "tuple", .free "zip", .str "FIGURES" "0123456789", .int "MOST_DEEP" 60, .int "MOST_FIGURES" 12, .int "MOST_NUMBER" 1000000000000, .str "SMALL" "abcdefghijklmnopqrstuvwxyz"]
def tf : List He.Defn := [("_law_word", none), ("law", none)]
def ins : List IniD := [⟨"NoText", "line", "NoText.__init__", (iniOf q_NoText).1, (iniOf q_NoText).2.1, (iniOf q_NoText).2.2⟩]
def ex (K : PySem.W.Frag) : Bool := initB K PySem.Challenge.pw_allruns_k88_values_written.main.file "NoText" "line" "NoText.__init__" && (exErB K (cls K) "AllError" kt_AllError && (isErB K (cls K) "NoBook" k_NoBook && (isErB K (cls K) "NoClaim" k_NoClaim && (isErB K (cls K) "NoDeed" k_NoDeed && (isErB K (cls K) "NoName" k_NoName && (isErB K (cls K) "NoNumber" k_NoNumber && (isErB K (cls K) "NoPast" k_NoPast && (isErB K (cls K) "NoPoint" k_NoPoint && (isErB K (cls K) "NoRoutine" k_NoRoutine && (isErB K (cls K) "NoRow" k_NoRow && (isErB K (cls K) "NoStart" k_NoStart && (isErB K (cls K) "NoState" k_NoState && (isErB K (cls K) "NoStep" k_NoStep && (isErB K (cls K) "NoSum" k_NoSum && (isErB K (cls K) "NoText" k_NoText && (isErB K (cls K) "TooMany" k_TooMany && (isErB K (cls K) "Twice" k_Twice && (isErB K (cls K) "Unlike" k_Unlike && (isErB K (cls K) "Used" k_Used && (fldB K (cls K) "line" [18] && (((tabs K).all fun p => (tabs K).all fun q => !decide (p.1 = q.1) || decide (p.2 = q.2)))))))))))))))))))))))
abbrev R : PySem.W.OpenRow := PySem.W.OpenLaw.row PySem.Challenge.rw_allruns_k88_values_written
abbrev hk : PySem.W.Hook := hookZ 7 fa fn tf ex ins
def ob (s : PySem.W.SharedT) : AlZ := obsZ 7 fa fn tf ex ins (HandSHeadRun.getT s)
theorem ob_eq (s : PySem.W.SharedT) : ob s = hk.obs s.abs := obsZ_eq (HandSHeadRun.getT_eq s)
def loose0 : List PySem.Str := ["AllError", "NoName", "NoNumber", "NoSum", "NoStep", "NoBook", "NoRoutine", "NoPoint", "NoRow", "NoState", "NoStart", "NoClaim", "NoDeed", "NoPast", "Twice", "Used", "Unlike", "TooMany", "NoText", "MOST_DEEP", "MOST_FIGURES", "MOST_NUMBER", "SMALL", "FIGURES", "is_word", "is_figure", "is_value", "value_text", "pieces_of", "plain_of"]
def loose1 : List PySem.Str := ["value_of", "read_value", "_law_begun", "_law_mixed", "_law_draw", "_law_pick", "_law_is", "_law_caught", "_law_word", "_law_value_text", "_law_plain", "_law_some_value", "_law_nested"]
abbrev loose : List PySem.Str := loose0 ++ loose1
theorem run (w : World) : HandSHeadRun.RunEq R (PySem.W.view R.prog [46]) hk ob 20000 loose w := by
  intro os
  kernel_rfl
end K88
end AR
end
section
set_option Elab.async false
set_option linter.all false
set_option maxRecDepth 100000
set_option maxHeartbeats 4000000
namespace AR
namespace K88
open PySem L2 PySem.Spec PyProof.Rows

theorem tbu_of {l : List (Addr × Str)} (e : (l.all fun p => l.all fun q => !decide (p.1 = q.1) || decide (p.2 = q.2)) = true) : ∀ p ∈ l, ∀ q ∈ l, p.1 = q.1 → p.2 = q.2 := fun p hp q hq e1 => by
  have z := List.all_eq_true.mp (List.all_eq_true.mp e p hp) q hq
  rw [Bool.or_eq_true] at z
  rcases z with z | z
  · simp [e1] at z
  · exact of_decide_eq_true z
section
variable {w : World} {K : PySem.W.Frag} {mg : Str → Option Value} {h : Heap}
theorem fx_of (X : K.In h) (G : h.Ns mainGlobals mg) (c : SaysZ fa fn tf ex ins h K) (base : Heap) (TB : ∀ p ∈ tf, LamX.TabB base mg (He.cT K p).1 (He.cT K p).2) : Fx PySem.Challenge.pw_allruns_k88_values_written w K mg base := by
  have e : ex K = true := c.more
  unfold ex at e
  obtain ⟨q_x_NoText, e⟩ := He.ba e
  obtain ⟨q_t_AllError, e⟩ := He.ba e
  obtain ⟨q_e_NoBook, e⟩ := He.ba e
  obtain ⟨q_e_NoClaim, e⟩ := He.ba e
  obtain ⟨q_e_NoDeed, e⟩ := He.ba e
  obtain ⟨q_e_NoName, e⟩ := He.ba e
  obtain ⟨q_e_NoNumber, e⟩ := He.ba e
  obtain ⟨q_e_NoPast, e⟩ := He.ba e
  obtain ⟨q_e_NoPoint, e⟩ := He.ba e
  obtain ⟨q_e_NoRoutine, e⟩ := He.ba e
  obtain ⟨q_e_NoRow, e⟩ := He.ba e
  obtain ⟨q_e_NoStart, e⟩ := He.ba e
  obtain ⟨q_e_NoState, e⟩ := He.ba e
  obtain ⟨q_e_NoStep, e⟩ := He.ba e
  obtain ⟨q_e_NoSum, e⟩ := He.ba e
  obtain ⟨q_e_NoText, e⟩ := He.ba e
  obtain ⟨q_e_TooMany, e⟩ := He.ba e
  obtain ⟨q_e_Twice, e⟩ := He.ba e
  obtain ⟨q_e_Unlike, e⟩ := He.ba e
  obtain ⟨q_e_Used, e⟩ := He.ba e
  obtain ⟨q_f_line, e⟩ := He.ba e
  exact ⟨He.free_ok X G (c.d.fact 20 (f := .free "abs") rfl),
    He.free_ok X G (c.d.fact 21 (f := .free "all") rfl),
    He.free_ok X G (c.d.fact 22 (f := .free "bool") rfl),
    He.free_ok X G (c.d.fact 23 (f := .free "dict") rfl),
    He.free_ok X G (c.d.fact 24 (f := .free "enumerate") rfl),
    He.free_ok X G (c.d.fact 25 (f := .free "int") rfl),
    He.free_ok X G (c.d.fact 26 (f := .free "isinstance") rfl),
    He.free_ok X G (c.d.fact 27 (f := .free "len") rfl),
    He.free_ok X G (c.d.fact 28 (f := .free "list") rfl),
    He.free_ok X G (c.d.fact 29 (f := .free "min") rfl),
    He.free_ok X G (c.d.fact 30 (f := .free "range") rfl),
    He.free_ok X G (c.d.fact 31 (f := .free "reversed") rfl),
    He.free_ok X G (c.d.fact 32 (f := .free "str") rfl),
    He.free_ok X G (c.d.fact 33 (f := .free "tuple") rfl),
    He.free_ok X G (c.d.fact 34 (f := .free "zip") rfl),
    He.str_ok X G (c.d.fact 35 (f := .str "FIGURES" "0123456789") rfl),
    He.int_ok X G (c.d.fact 36 (f := .int "MOST_DEEP" 60) rfl),
    He.int_ok X G (c.d.fact 37 (f := .int "MOST_FIGURES" 12) rfl),
    He.int_ok X G (c.d.fact 38 (f := .int "MOST_NUMBER" 1000000000000) rfl),
    He.str_ok X G (c.d.fact 39 (f := .str "SMALL" "abcdefghijklmnopqrstuvwxyz") rfl),
    excG_of X G q_x_NoText (List.cons.inj c.ini).1 ⟨rfl, rfl, rfl, by decide +kernel, rfl, rfl, rfl, rfl, rfl, by decide, by decide, by decide, by decide⟩ (by decide +kernel) ⟨_, rfl, rfl⟩
    (fun T kV doc pm an cdv ct cc us its l1 l2 => match us, its, l1, l2 with | [_, _, _], [_], _, _ => ⟨_, rfl, rfl⟩) (fun _ _ _ _ => by unfold SupEq; rfl) (fun _ _ _ _ => rfl) (fun _ _ _ _ => rfl),
    exErB_at X G q_t_AllError,
    exErB_ok q_t_AllError,
    isErB_at X G q_e_NoBook,
    isErB_ok q_e_NoBook,
    isErB_at X G q_e_NoClaim,
    isErB_ok q_e_NoClaim,
    isErB_at X G q_e_NoDeed,
    isErB_ok q_e_NoDeed,
    isErB_at X G q_e_NoName,
    isErB_ok q_e_NoName,
    isErB_at X G q_e_NoNumber,
    isErB_ok q_e_NoNumber,
    isErB_at X G q_e_NoPast,
    isErB_ok q_e_NoPast,
    isErB_at X G q_e_NoPoint,
    isErB_ok q_e_NoPoint,
    isErB_at X G q_e_NoRoutine,
    isErB_ok q_e_NoRoutine,
    isErB_at X G q_e_NoRow,
    isErB_ok q_e_NoRow,
    isErB_at X G q_e_NoStart,
    isErB_ok q_e_NoStart,
    isErB_at X G q_e_NoState,
    isErB_ok q_e_NoState,
    isErB_at X G q_e_NoStep,
    isErB_ok q_e_NoStep,
    isErB_at X G q_e_NoSum,
    isErB_ok q_e_NoSum,
    isErB_at X G q_e_NoText,
    isErB_ok q_e_NoText,
    isErB_at X G q_e_TooMany,
    isErB_ok q_e_TooMany,
    isErB_at X G q_e_Twice,
    isErB_ok q_e_Twice,
    isErB_at X G q_e_Unlike,
    isErB_ok q_e_Unlike,
    isErB_at X G q_e_Used,
    isErB_ok q_e_Used,
    fldB_ok q_f_line,
    TB _ (List.mem_cons_self),
    TB _ (List.mem_cons_of_mem _ (List.mem_cons_self)),
    tbu_of e,
    ⟨c.d.def_ 0 rfl, He.glo_ok X G (c.d.fact 0 (f := .glo "is_word") rfl), C8.fnScope_by (by decide +kernel), rfl, fun _ _ _ _ _ _ us hl => match us, hl with | [_], _ => rfl⟩,
    ⟨c.d.def_ 1 rfl, He.glo_ok X G (c.d.fact 1 (f := .glo "is_figure") rfl), C8.fnScope_by (by decide +kernel), rfl, fun _ _ _ _ _ _ us hl => match us, hl with | [_], _ => rfl⟩,
    ⟨c.d.def_ 2 rfl, He.glo_ok X G (c.d.fact 2 (f := .glo "is_value") rfl), C8.fnScope_by (by decide +kernel), rfl, fun _ _ _ _ _ _ us hl => match us, hl with | [_], _ => rfl⟩,
    ⟨c.d.def_ 3 rfl, He.glo_ok X G (c.d.fact 3 (f := .glo "value_text") rfl), C8.fnScope_by (by decide +kernel), rfl, fun _ _ _ _ _ _ us hl => match us, hl with | [_], _ => rfl⟩,
    ⟨c.d.def_ 4 rfl, He.glo_ok X G (c.d.fact 4 (f := .glo "pieces_of") rfl), C8.fnScope_by (by decide +kernel), rfl, fun _ _ _ _ _ _ us hl => match us, hl with | [_], _ => rfl⟩,
    ⟨c.d.def_ 5 rfl, He.glo_ok X G (c.d.fact 5 (f := .glo "plain_of") rfl), C8.fnScope_by (by decide +kernel), rfl, fun _ _ _ _ _ _ us hl => match us, hl with | [_], _ => rfl⟩,
    ⟨c.d.def_ 6 rfl, He.glo_ok X G (c.d.fact 6 (f := .glo "value_of") rfl), C8.fnScope_by (by decide +kernel), rfl, fun _ _ _ _ _ _ us hl => match us, hl with | [_], _ => rfl⟩,
    ⟨c.d.def_ 7 rfl, He.glo_ok X G (c.d.fact 7 (f := .glo "read_value") rfl), C8.fnScope_by (by decide +kernel), rfl, fun _ _ _ _ _ _ us hl => match us, hl with | [_], _ => rfl⟩,
    ⟨c.d.def_ 8 rfl, He.glo_ok X G (c.d.fact 8 (f := .glo "_law_begun") rfl), C8.fnScope_by (by decide +kernel), rfl, fun _ _ _ _ _ _ us hl => match us, hl with | [_], _ => rfl⟩,
    ⟨c.d.def_ 9 rfl, He.glo_ok X G (c.d.fact 9 (f := .glo "_law_mixed") rfl), C8.fnScope_by (by decide +kernel), rfl, fun _ _ _ _ _ _ us hl => match us, hl with | [_], _ => rfl⟩,
    ⟨c.d.def_ 10 rfl, He.glo_ok X G (c.d.fact 10 (f := .glo "_law_draw") rfl), C8.fnScope_by (by decide +kernel), rfl, fun _ _ _ _ _ _ us hl => match us, hl with | [_, _], _ => rfl⟩,
    ⟨c.d.def_ 11 rfl, He.glo_ok X G (c.d.fact 11 (f := .glo "_law_pick") rfl), C8.fnScope_by (by decide +kernel), rfl, fun _ _ _ _ _ _ us hl => match us, hl with | [_, _], _ => rfl⟩,
    ⟨c.d.def_ 12 rfl, He.glo_ok X G (c.d.fact 12 (f := .glo "_law_is") rfl), C8.fnScope_by (by decide +kernel), rfl, fun _ _ _ _ _ _ us hl => match us, hl with | [_, _], _ => rfl⟩,
    ⟨c.d.def_ 13 rfl, He.glo_ok X G (c.d.fact 13 (f := .glo "_law_caught") rfl), C8.fnScope_by (by decide +kernel), rfl, fun _ _ _ _ _ _ us hl => match us, hl with | [_], _ => rfl⟩,
    ⟨c.d.def_ 14 rfl, He.glo_ok X G (c.d.fact 14 (f := .glo "_law_word") rfl), C8.fnScope_by (by decide +kernel), rfl, fun _ _ _ _ _ _ us hl => match us, hl with | [_], _ => rfl⟩,
    ⟨c.d.def_ 15 rfl, He.glo_ok X G (c.d.fact 15 (f := .glo "_law_value_text") rfl), C8.fnScope_by (by decide +kernel), rfl, fun _ _ _ _ _ _ us hl => match us, hl with | [_], _ => rfl⟩,
    ⟨c.d.def_ 16 rfl, He.glo_ok X G (c.d.fact 16 (f := .glo "_law_plain") rfl), C8.fnScope_by (by decide +kernel), rfl, fun _ _ _ _ _ _ us hl => match us, hl with | [_], _ => rfl⟩,
    ⟨c.d.def_ 17 rfl, He.glo_ok X G (c.d.fact 17 (f := .glo "_law_some_value") rfl), C8.fnScope_by (by decide +kernel), rfl, fun _ _ _ _ _ _ us hl => match us, hl with | [_, _], _ => rfl⟩,
    ⟨c.d.def_ 18 rfl, He.glo_ok X G (c.d.fact 18 (f := .glo "_law_nested") rfl), C8.fnScope_by (by decide +kernel), rfl, fun _ _ _ _ _ _ us hl => match us, hl with | [_, _], _ => rfl⟩,
    ⟨c.d.def_ 19 rfl, He.glo_ok X G (c.d.fact 19 (f := .glo "law") rfl), C8.fnScope_by (by decide +kernel), rfl, fun _ _ _ _ _ _ us hl => match us, hl with | [_], _ => rfl⟩⟩
theorem facts {fl : Addr} (X : K.In h) (G : h.Ns mainGlobals mg) (hfl : mg ("law" : Str) = some (.ref fl)) (c : SaysZ fa fn tf ex ins h K)
    (lawRun : ∀ ns : List Int, ns.length ≤ 63 → (∀ z ∈ ns, Builtin.Int.intBits z ≤ 1048576) → ∀ o, Script ns o → ∃ hm', AR.run prog 66 19 [.d (.ref 0)] [] [o] = .ok (.d (.bl true)) hm') : LamX.LawAtS PySem.Challenge.rw_allruns_k88_values_written w K (L2.CX PySem.Challenge.pw_allruns_k88_values_written w) 71 63 "script" mg fl h := by
  obtain ⟨fd, F⟩ := c.d.def_ 19 (d := ⟨("law", none), "law", "law", defArgs s_law, defBody s_law, defScope s_law, [], []⟩) rfl
  have e := hfl.symm.trans (He.glo_ok X G (c.d.fact 19 (f := .glo "law") rfl))
  cases e
  refine ⟨fd, tf.map (He.cT K), spL (wd K) K 66 19, fun p hp => ?_, fun p hp => ?_, fun p hp => ?_, fun s u => ?_, fun H a ns hl hbits hT hS => ?_, fun base kin ns TB => ?_⟩
  · obtain ⟨q, hq, rfl⟩ := List.mem_map.mp hp; exact c.empty q hq
  · obtain ⟨q, hq, rfl⟩ := List.mem_map.mp hp; exact c.out q hq
  · obtain ⟨q, hq, rfl⟩ := List.mem_map.mp hp; exact PySem.W.codeHd_of_K X (c.hd q hq)
  · exact FunD.bindsA (ps := ["script"]) F (fun _ _ _ _ _ _ us hl => match us, hl with | [_], _ => rfl) s [u] rfl
  · refine law_sp hS (fun p hp => ?_) (lawRun ns hl hbits)
    have key : ∀ p ∈ tabs K, ∃ q ∈ tf, p.1 = (He.cT K q).2 := by simp [tabs, tf]
    obtain ⟨q, hq, e⟩ := key p hp
    rw [e]
    exact LamX.TabS.nil (hT _ (List.mem_map_of_mem hq))
  · have fx := fx_of (w := w) X G c base fun p hp => TB _ (List.mem_map_of_mem hp)
    exact fnOk_law (n := 66) (fx.d_law.fnI F fun A outer s H E C => b_law fx (lv fx 65) A outer s H E C)
end
end K88
end AR
open PySem PySem.W PySem.Calls PyProof.Rows
theorem AR.K88.holds (lawRun : ∀ ns : List Int, ns.length ≤ 63 → (∀ z ∈ ns, Builtin.Int.intBits z ≤ 1048576) → ∀ o, AR.Script ns o → ∃ hm', AR.run AR.K88.prog 66 19 [.d (.ref 0)] [] [o] = .ok (.d (.bl true)) hm') : PySem.Challenge.rw_allruns_k88_values_written.Holds := by
  w_on; o_law
  refine HandSHeadRun.head_any (r := OpenLaw.row PySem.Challenge.rw_allruns_k88_values_written) (q := view (OpenLaw.row PySem.Challenge.rw_allruns_k88_values_written).prog [46]) (H := AR.K88.hk) (ob := AR.K88.ob) (M := 20000) (loose := AR.K88.loose) (d := HandSHeadRun.topDef (OpenLaw.row PySem.Challenge.rw_allruns_k88_values_written).prog 46) (kwd := []) AR.K88.ob_eq
    (by kernel_rfl) (fun s => by kernel_rfl) AR.K88.run (by kernel_rfl) (by kernel_rfl) (by kernel_rfl) (by rfl) (by first | assumption | decide +kernel) (by decide +kernel) ⟨rfl, rfl, rfl, rfl, rfl, by decide +kernel⟩ ?hw ?hc
  case hw => w_witness2
  case hc =>
    refine LamX.walk_ofTsE (l := PySem.Challenge.rw_allruns_k88_values_written) (n := 63) (k := 71) (x := "script") (CX := fun w => L2.CX PySem.Challenge.pw_allruns_k88_values_written w) rfl (by decide) (by kernel_rfl) ⟨rfl, by decide, by decide⟩ ?F (fun _ _ _ _ _ z => AR.cx_none z)
    intro w mg fl h Y G hmg0
    obtain ⟨K, KX, c⟩ := Y
    have hmg : mg ("law" : PySem.Str) = some (.ref fl) := by
      have e : (HandSHeadRun.topDef (OpenLaw.row PySem.Challenge.rw_allruns_k88_values_written).prog 46).name = ("law" : PySem.Str) := by kernel_rfl
      rw [← e]
      exact hmg0
    exact ⟨K, KX, AR.K88.facts KX G hmg c lawRun⟩
end
theorem PySem.Challenge.cw_allruns_k88_values_written_holds : PySem.Challenge.rw_allruns_k88_values_written.Holds :=
  AR.K88.holds fun ns hl _ o hs => AR.K88.lawRun ns hl o hs
