import PyProof.Rows.All
import Wide.All
import OpenK.AllK
import Wide.FinOn
import HandS.ForMost
import KE.DataEq
import KE.SortData
import HandS.Comp
import HandS.Deep
import HandS.Walk
import HandS.Zip
import HandS.Rev
import HandS.IsInst
import HandS.DictTup
import HandS.TupAny
import HandS.TupMul
import HandS.Flow
import HandS.Style
import HandS.SortKw
import HandS.TupSets
import HandS.SetKeys
import HandS.Strs
import HandS.StrMore
import HandS.Conv
import KE.SortKeyHeap
import KE.DataMinMax
import HandS.TupLen
import KE.KTupSum
import KE.DataFind
import KE.DataIsa
import KE.DatumIndex
import HandS.SetFor
import HandS.HeadHook1
import HandS.Ends
import HandS.Head0
import HandS.Head1
import HandS.Head2
import HandS.HeadEnd
import PySem.Challenge.RW_changeworlds_k97_whole_rounds_are_orders
set_option Elab.async false
set_option linter.all false
set_option maxRecDepth 100000
/-! EvSem -/
namespace Ev
open PySem L2

inductive Tr (α : Type) : Type where
  | ret (a : α)
  | draw (n : Nat) (k : Nat → Tr α)
  | fail
namespace Tr
variable {α β γ : Type}
noncomputable def bind (t : Tr α) (f : α → Tr β) : Tr β :=
  Tr.rec (motive := fun _ => Tr β) (fun a => f a) (fun n _ ih => .draw n ih) .fail t
/-- at every draw it ends, and P holds -/
def All (P : α → Prop) : Tr α → Prop
  | .ret a => P a
  | .draw n k => ∀ r, r < n → (k r).All P
  | .fail => False
/-- .. as a test -/
def allB (p : α → Bool) : Tr α → Bool
  | .ret a => p a
  | .draw n k => (List.range n).all fun r => (k r).allB p
  | .fail => false
noncomputable def ofO (o : Option α) : Tr α := Option.rec (motive := fun _ => Tr α) .fail (fun a => .ret a) o
end Tr

def iltB : Int → Int → Bool
  | .ofNat a, .ofNat b => Nat.blt a b
  | .ofNat _, .negSucc _ => false
  | .negSucc _, .ofNat _ => true
  | .negSucc a, .negSucc b => Nat.blt b a
def ileB (a b : Int) : Bool := !iltB b a
def ieqB : Int → Int → Bool
  | .ofNat a, .ofNat b => Nat.beq a b
  | .ofNat _, .negSucc _ => false
  | .negSucc _, .ofNat _ => false
  | .negSucc a, .negSucc b => Nat.beq a b
def lim : Nat := 16777216
def lenOk {α : Type} (xs : List α) : Bool := Nat.ble xs.length lim
def fitsB (i : Int) : Bool := iltB (-18446744073709551616) i && iltB i 18446744073709551616
def natsEq : List Nat → List Nat → Bool
  | [], [] => true
  | a :: as, b :: bs => Nat.beq a b && natsEq as bs
  | [], _ :: _ => false
  | _ :: _, [] => false
def strEq (x y : Str) : Bool := natsEq x.cps.toList y.cps.toList

mutual
/-- == of data without dicts -/
def eqv : PyData → PyData → Bool
  | .none, y => match y with | .none => true | _ => false
  | .bool a, y => match y with | .bool b => cond a b (!b) | .int j => ieqB (cond a 1 0) j | _ => false
  | .int i, y => match y with | .int j => ieqB i j | .bool b => ieqB i (cond b 1 0) | _ => false
  | .str x, y => match y with | .str z => strEq x z | _ => false
  | .list xs, y => match y with | .list ys => eqvAll xs ys | _ => false
  | .tuple xs, y => match y with | .tuple ys => eqvAll xs ys | _ => false
  | .dict _, _ => false
def eqvAll : List PyData → List PyData → Bool
  | [], ys => match ys with | [] => true | _ :: _ => false
  | x :: xs, ys => match ys with | y :: ys => cond (eqv x y) (eqvAll xs ys) false | [] => false
end
mutual
/-- no dict, at most n deep -/
def flat : Nat → PyData → Bool
  | _, .none => true
  | _, .bool _ => true
  | _, .int _ => true
  | _, .str _ => true
  | 0, .list _ => false
  | 0, .tuple _ => false
  | n + 1, .list xs => flatAll n xs
  | n + 1, .tuple xs => flatAll n xs
  | _, .dict _ => false
def flatAll : Nat → List PyData → Bool
  | _, [] => true
  | n, x :: xs => cond (flat n x) (flatAll n xs) false
end
/-- the depth that a comparison may have -/
def dep : Nat := 30

def truB : PyData → Option Bool
  | .bool b => some b
  | _ => none

inductive Op where
  | add | sub | mul | fdiv | mod
  deriving DecidableEq
inductive Cm where
  | lt | le | gt | ge | eq | ne | is | isn | mem | nmem
  deriving DecidableEq

def repN (xs : List PyData) : Nat → List PyData
  | 0 => []
  | n + 1 => xs ++ repN xs n
def repC (xs : List Nat) : Nat → List Nat
  | 0 => []
  | n + 1 => xs ++ repC xs n
def opD : Op → PyData → PyData → Option PyData
  | .add, .int a, .int b => some (.int (a + b))
  | .add, .str a, .str b => let r := a.cps.toList ++ b.cps.toList; cond (lenOk r) (some (.str ⟨r.toArray⟩)) none
  | .add, .tuple a, .tuple b => let r := a ++ b; cond (lenOk r) (some (.tuple r)) none
  | .add, .list a, .list b => let r := a ++ b; cond (lenOk r) (some (.list r)) none
  | .sub, .int a, .int b => some (.int (a - b))
  | .mul, .int a, .int b => cond (fitsB a || fitsB b) (some (.int (a * b))) none
  | .mul, .list a, .int b => cond (iltB b 1000000 && Nat.ble (a.length * b.toNat) lim && iltB (-1000000) b) (some (.list (repN a b.toNat))) none
  | .mul, .tuple a, .int b => cond (ileB (-1000000) b && ileB b 1000 && Nat.ble a.length 1000) (some (.tuple (repN a b.toNat))) none
  | .fdiv, .int a, .int b => cond (!ieqB b 0 && iltB (-1073741824) b && iltB b 1073741824) (some (.int (a.fdiv b))) none
  | .mod, .int a, .int b => cond (ieqB b 0) none (some (.int (a.fmod b)))
  | _, _, _ => none

/-- rows of signs: Python's < of alike data -/
def dataAlike : PyData → PyData → Bool := PySem.W.alike
def memD (x : PyData) : List PyData → Bool
  | [] => false
  | y :: ys => cond (eqv y x) true (memD x ys)
def keysOf (kvs : List (PyData × PyData)) : List PyData := kvs.map (·.1)
/-- what may be a dict's key -/
def leafK : PyData → Bool
  | .int _ => true
  | .str _ => true
  | _ => false
def leafKs : List PyData → Bool
  | [] => true
  | x :: xs => cond (leafK x) (leafKs xs) false
/-- a key of the dict's kind: ints and texts -/
def keyIn (k : PyData) (kvs : List (PyData × PyData)) : Bool := leafK k
def lookD (k : PyData) : List (PyData × PyData) → Option PyData
  | [] => none
  | (a, v) :: r => cond (eqv a k) (some v) (lookD k r)
def putD (k v : PyData) : List (PyData × PyData) → List (PyData × PyData)
  | [] => [(k, v)]
  | (a, w) :: r => cond (eqv a k) ((a, v) :: r) ((a, w) :: putD k v r)
def hasC (c : Nat) : List Nat → Bool
  | [] => false
  | x :: xs => cond (Nat.beq x c) true (hasC c xs)
def isNoneD : PyData → Bool
  | .none => true
  | _ => false
def cmD : Cm → PyData → PyData → Option Bool
  | .lt, .int a, .int b => some (iltB a b)
  | .le, .int a, .int b => some (ileB a b)
  | .gt, .int a, .int b => some (iltB b a)
  | .ge, .int a, .int b => some (ileB b a)
  | .eq, a, b => cond (flat dep a && flat dep b) (some (eqv a b)) none
  | .ne, a, b => cond (flat dep a && flat dep b) (some (!eqv a b)) none
  | .is, a, .none => some (isNoneD a)
  | .isn, a, .none => some (!isNoneD a)
  | .mem, x, .list ys => cond (flat dep x && flatAll dep ys) (some (memD x ys)) none
  | .mem, x, .tuple ys => cond (flat dep x && flatAll dep ys) (some (memD x ys)) none
  | .nmem, x, .list ys => cond (flat dep x && flatAll dep ys) (some (!memD x ys)) none
  | .nmem, x, .tuple ys => cond (flat dep x && flatAll dep ys) (some (!memD x ys)) none
  | .mem, .str x, .str y => match x.cps.toList with
    | [c] => some (hasC c y.cps.toList)
    | _ => none
  | .nmem, .str x, .str y => match x.cps.toList with
    | [c] => some (!hasC c y.cps.toList)
    | _ => none
  | .mem, x, .dict kvs => cond (keyIn x kvs) (some (lookD x kvs).isSome) none
  | .nmem, x, .dict kvs => cond (keyIn x kvs) (some (!(lookD x kvs).isSome)) none
  | _, _, _ => none

/-- place i of n -/
def place (n : Nat) (i : Int) : Option Nat :=
  match i with
  | .ofNat k => cond (Nat.blt k n) (some k) none
  | .negSucc k => cond (Nat.blt k n) (some (n - (k + 1))) none
def ixD : PyData → PyData → Option PyData
  | .list xs, .int i => (place xs.length i).bind fun j => xs[j]?
  | .tuple xs, .int i => (place xs.length i).bind fun j => xs[j]?
  | .str x, .int i => cond (lenOk x.cps.toList) ((place x.cps.toList.length i).bind fun j => x.cps.toList[j]?.map fun c => .str ⟨#[c]⟩) none
  | .dict kvs, k => cond (keyIn k kvs) (lookD k kvs) none
  | _, _ => none
/-- a bound of a slice, clipped -/
def clip (n d : Nat) : Option Int → Nat
  | none => d
  | some (.ofNat k) => cond (Nat.ble k n) k n
  | some (.negSucc k) => n - (k + 1)
def cut {α : Type} (xs : List α) (lo hi : Option Int) : List α :=
  let n := xs.length
  let a := clip n 0 lo
  (xs.drop a).take (clip n n hi - a)
def partD : PyData → Option (Option Int)
  | .none => some none
  | .int i => some (some i)
  | _ => none
def sl1 (x : PyData) (a b : Option Int) : Option PyData := match x with
  | .list xs => some (.list (cut xs a b))
  | .tuple xs => some (.tuple (cut xs a b))
  | .str s => cond (lenOk s.cps.toList) (some (.str ⟨(cut s.cps.toList a b).toArray⟩)) none
  | _ => none
def revD : PyData → Option PyData
  | .list xs => some (.list xs.reverse)
  | .tuple xs => some (.tuple xs.reverse)
  | _ => none

inductive Bi where
  | len | abs | min2 | max2 | min1 | max1 | sum | int | list | tuple | sorted | sortedR | isInt | isStr | isTup | isList | isBool | all | any | lenset | sortset | str | repr | dict
  deriving DecidableEq
def asInts : List PyData → Option (List Int)
  | [] => some []
  | .int i :: r => (asInts r).map (i :: ·)
  | _ => none
def asBools : List PyData → Option (List Bool)
  | [] => some []
  | .bool b :: r => (asBools r).map (b :: ·)
  | _ => none
def sumI : List Int → Int
  | [] => 0
  | i :: r => i + sumI r
def items : PyData → Option (List PyData)
  | .list xs => some xs
  | .tuple xs => some xs
  | _ => none
def minI (a b : Int) : Int := cond (iltB b a) b a
def maxI (a b : Int) : Int := cond (iltB a b) b a
/-- the row of signs of a datum -/
def ltTok : Int ⊕ List Nat → Int ⊕ List Nat → Option Bool
  | .inl a, .inl b => cond (ieqB a b) none (some (iltB a b))
  | .inr a, .inr b => cond (natsEq a b) none (some (decide (a < b)))
  | .inl _, .inr _ => some true
  | .inr _, .inl _ => some false
def ltToks : List (Int ⊕ List Nat) → List (Int ⊕ List Nat) → Bool
  | [], [] => false
  | [], _ :: _ => true
  | _ :: _, [] => false
  | a :: as, b :: bs => match ltTok a b with
    | some r => r
    | none => ltToks as bs
/-- dictionary order of ints -/
def ltInts : List PyData → List PyData → Bool
  | [], [] => false
  | [], _ :: _ => true
  | _ :: _, [] => false
  | .int a :: as, .int b :: bs => cond (ieqB a b) (ltInts as bs) (iltB a b)
  | _, _ => false
def ltD : PyData → PyData → Bool
  | .int a, .int b => iltB a b
  | x, y => ltToks (PySem.W.keyToks x) (PySem.W.keyToks y)
/-- all alike to the first, each to itself: what may be sorted -/
def alikeTo (x : PyData) (xs : List PyData) : Bool := xs.all fun y => PySem.W.alike x y
def alikeB : List PyData → Bool
  | [] => true
  | x :: xs => alikeTo x (x :: xs) && alikeB xs
def sortable (xs : List PyData) : Bool :=
  (xs.all fun x => match x with | .tuple (_ :: _) => true | _ => false) || xs.all fun x => match x with | .tuple _ => false | .none => false | _ => true
def ins (x : PyData) : List PyData → List PyData
  | [] => [x]
  | y :: ys => cond (ltD y x) (y :: ins x ys) (x :: y :: ys)
def sortD : List PyData → List PyData
  | [] => []
  | x :: xs => ins x (sortD xs)
def insR (x : PyData) : List PyData → List PyData
  | [] => [x]
  | y :: ys => cond (ltD x y) (y :: insR x ys) (x :: y :: ys)
def sortR : List PyData → List PyData
  | [] => []
  | x :: xs => insR x (sortR xs)
def insK (x : PyData × PyData) : List (PyData × PyData) → List (PyData × PyData)
  | [] => [x]
  | y :: ys => cond (ltD y.1 x.1) (y :: insK x ys) (x :: y :: ys)
def sortK : List (PyData × PyData) → List (PyData × PyData)
  | [] => []
  | x :: xs => insK x (sortK xs)
def canSort (xs : List PyData) : Bool := alikeB xs && sortable xs && flatAll dep xs && lenOk xs
def minL (x : PyData) : List PyData → PyData
  | [] => x
  | y :: ys => minL (cond (ltD y x) y x) ys
def maxL (x : PyData) : List PyData → PyData
  | [] => x
  | y :: ys => maxL (cond (ltD x y) y x) ys
/-- the first of equal ones -/
def uniq : List PyData → List PyData
  | [] => []
  | x :: xs => x :: (uniq xs).filter fun y => !eqv x y
def intTup : PyData → Bool
  | .tuple xs => xs.all fun x => match x with | .int _ => true | _ => false
  | _ => false
def isInt : PyData → Bool
  | .int _ => true
  | _ => false
def pairsD : List PyData → Option (List (PyData × PyData))
  | [] => some []
  | .tuple [k, v] :: r => (pairsD r).map ((k, v) :: ·)
  | _ => none
/-- keys of one kind: all tuples or none -/
def dictD : List (PyData × PyData) → List (PyData × PyData) → Option PyData
  | [], acc => cond (lenOk acc) (some (.dict acc)) none
  | (k, v) :: r, acc => cond (keyIn k acc) (dictD r (putD k v acc)) none
def flatPairs : List PyData → Option (List (PyData × PyData))
  | [] => some []
  | k :: v :: r => (flatPairs r).map ((k, v) :: ·)
  | _ => none
def biD : Bi → List PyData → Option PyData
  | .len, [.list xs] => some (.int xs.length)
  | .len, [.tuple xs] => some (.int xs.length)
  | .len, [.str s] => cond (lenOk s.cps.toList) (some (.int s.cps.toList.length)) none
  | .abs, [.int i] => some (.int (cond (iltB i 0) (-i) i))
  | .min2, [.int a, .int b] => some (.int (minI a b))
  | .max2, [.int a, .int b] => some (.int (maxI a b))
  | .min1, [x] => (items x).bind fun xs => match xs with
    | [] => none
    | y :: ys => cond (canSort (y :: ys)) (some (minL y ys)) none
  | .max1, [x] => (items x).bind fun xs => match xs with
    | [] => none
    | y :: ys => cond (canSort (y :: ys)) (some (maxL y ys)) none
  | .sum, [x] => (items x).bind fun xs => (asInts xs).map fun ns => .int (sumI ns)
  | .int, [.int i] => some (.int i)
  | .int, [.bool b] => some (.int (cond b 1 0))
  | .list, [x] => (items x).map .list
  | .tuple, [x] => (items x).map .tuple
  | .sorted, [x] => (items x).bind fun xs => cond (canSort xs) (some (.list (sortD xs))) none
  | .sortedR, [x] => (items x).bind fun xs => cond (canSort xs) (some (.list (sortR xs))) none
  | .isInt, [x] => some (.bool (match x with | .int _ => true | .bool _ => true | _ => false))
  | .isBool, [x] => some (.bool (match x with | .bool _ => true | _ => false))
  | .isStr, [x] => some (.bool (match x with | .str _ => true | _ => false))
  | .isTup, [x] => some (.bool (match x with | .tuple _ => true | _ => false))
  | .isList, [x] => some (.bool (match x with | .list _ => true | _ => false))
  | .all, [.list xs] => (asBools xs).map fun bs => .bool (bs.all id)
  | .any, [.list xs] => (asBools xs).map fun bs => .bool (bs.any id)
  | .dict, [.dict kvs] => some (.dict kvs)
  | .dict, [.list xs] => (pairsD xs).bind fun kvs => dictD kvs []
  | .lenset, [x] => (items x).bind fun xs => cond (xs.all intTup || xs.all isInt) (some (.int (uniq xs).length)) none
  | .sortset, [x] => (items x).bind fun xs => cond ((xs.all intTup || xs.all isInt) && canSort xs) (some (.list (sortD (uniq xs)))) none
  | _, _ => none
def insU (x : Int) : List Int → List Int
  | [] => [x]
  | y :: ys => cond (iltB x y) (x :: y :: ys) (cond (ieqB x y) (y :: ys) (y :: insU x ys))
def sortU : List Int → List Int
  | [] => []
  | x :: xs => insU x (sortU xs)
def ssetD : List PyData → Option PyData
  | [x] => ((items x).bind asInts).bind fun ns => cond (Nat.blt ns.length 64) (some (.list ((sortU ns).map .int))) none
  | _ => none
def asTups : List PyData → Option (List (List Int))
  | [] => some []
  | .tuple xs :: r => (asInts xs).bind fun ns => (asTups r).map (ns :: ·)
  | _ => none
def intsEq : List Int → List Int → Bool
  | [], [] => true
  | x :: xs, y :: ys => cond (ieqB x y) (intsEq xs ys) false
  | _, _ => false
def memI (x : List Int) : List (List Int) → Bool
  | [] => false
  | y :: ys => cond (intsEq x y) true (memI x ys)
/-- each once -/
def onceI : List (List Int) → List (List Int)
  | [] => []
  | x :: xs => cond (memI x xs) (onceI xs) (x :: onceI xs)
def lsetT : PyData → Option PyData
  | .list xs => (asTups xs).bind fun ks => cond (Nat.blt ks.length 64) (some (.int (onceI ks).length)) none
  | _ => none
def lsetD : List PyData → Option PyData
  | [x] => match (items x).bind asInts with
    | some ns => cond (Nat.blt ns.length 4000) (some (.int (sortU ns).length)) none
    | none => lsetT x
  | _ => none

inductive Me where
  | index | count | get1 | get2 | join | split
  deriving DecidableEq
def indexD (x : PyData) : List PyData → Nat → Option Nat
  | [], _ => none
  | y :: ys, k => cond (eqv y x) (some k) (indexD x ys (k + 1))
def countD (x : PyData) : List PyData → Nat
  | [] => 0
  | y :: ys => cond (eqv y x) (countD x ys + 1) (countD x ys)
def asStrs : List PyData → Option (List Str)
  | [] => some []
  | .str s :: r => (asStrs r).map (s :: ·)
  | _ => none
def joinC (sep : List Nat) : List Str → List Nat
  | [] => []
  | [s] => s.cps.toList
  | s :: r => s.cps.toList ++ sep ++ joinC sep r
def countC (c : Nat) : List Nat → Nat
  | [] => 0
  | x :: xs => cond (Nat.beq x c) (countC c xs + 1) (countC c xs)
def meD : Me → PyData → List PyData → Option PyData
  | .index, .list xs, [y] => cond (flat dep y && flatAll dep xs) ((indexD y xs 0).map fun (k : Nat) => .int k) none
  | .index, .tuple xs, [y] => cond (flat dep y && flatAll dep xs) ((indexD y xs 0).map fun (k : Nat) => .int k) none
  | .count, .list xs, [y] => cond (flat dep y && flatAll dep xs) (some (.int (countD y xs))) none
  | .count, .tuple xs, [y] => cond (flat dep y && flatAll dep xs) (some (.int (countD y xs))) none
  | _, _, _ => none
/-- the receivers that are served -/
def meOk : Me → PyData → Bool
  | .index, .list _ => true
  | .index, .tuple _ => true
  | .count, .list _ => true
  | .count, .tuple _ => true
  | _, _ => false

/-- targets: a name's slot, a tuple of targets -/
inductive Tg where
  | nm (i : Nat) | tp (ts : Tg) | nil | cons (t ts : Tg)
inductive E where
  | var (i : Nat) | rd (i : Nat)
  | lit (d : PyData) | glb (k : Nat) (d : PyData)
  | op (o : Op) (a b : E) | neg (a : E)
  | cm (c : Cm) (a b : E) | chn (c c' : Cm) (a b d : E)
  | and (a b : E) | or (a b : E) | one (a : E) | not (a : E)
  | ite (t a b : E)
  | nil | cons (a as : E)
  | tup (es : E) | lst (es : E)
  | ix (a i : E) | sl (a lo hi : E) | no | rev (a : E)
  | bi (f : Bi) (es : E) | me (m : Me) (o es : E)
  | call (f : Nat) (es : E) | callp (f i : Nat) (es : E)
  | draw (i : Nat) (e : E)
  | rng (es : E) | rngl (es : E) | rngt (es : E) | zip (a b : E)
  | comp (elt : E) (tg : Tg) (it : E) (cond : E)
  | yes
  | dct (es : E)                              -- {k: v, ..}: es the keys and values in turn
  | sortk (it : E) (i : Nat) (key : E)        -- sorted(it, key=lambda x: key)
  | sset (es : E) | lset (es : E)             -- sorted(set(e)), len(set(e)): ints
/-- a slot: nothing, a value that stands still, the def's own object, the pool -/
inductive SV where
  | no | v (d : PyData) | o (d : PyData) | pool
abbrev Env := List SV

noncomputable def setE (i : Nat) (x : SV) (e : Env) : Env := List.rec (motive := fun _ => Nat → Env) (fun _ => []) (fun y ys ih i => Nat.rec (x :: ys) (fun j _ => y :: ih j) i) e i
noncomputable def getE (i : Nat) (e : Env) : SV := List.rec (motive := fun _ => Nat → SV) (fun _ => .no) (fun y _ ih i => Nat.rec y (fun j _ => ih j) i) e i
@[simp] theorem setE_nil (i : Nat) (x : SV) : setE i x [] = [] := rfl
@[simp] theorem setE_zero (x y : SV) (ys : Env) : setE 0 x (y :: ys) = x :: ys := rfl
@[simp] theorem setE_succ (i : Nat) (x y : SV) (ys : Env) : setE (i + 1) x (y :: ys) = y :: setE i x ys := rfl
@[simp] theorem getE_nil (i : Nat) : getE i [] = .no := rfl
@[simp] theorem getE_zero (y : SV) (ys : Env) : getE 0 (y :: ys) = y := rfl
@[simp] theorem getE_succ (i : Nat) (y : SV) (ys : Env) : getE (i + 1) (y :: ys) = getE i ys := rfl
mutual
noncomputable def assign : Tg → PyData → Env → Option Env
  | .nm i, d, env => some (setE i (.v d) env)
  | .tp ts, d, env => match d with
    | .tuple xs => assignAll ts xs env
    | _ => none
  | .nil, _, _ => none
  | .cons _ _, _, _ => none
noncomputable def assignAll : Tg → List PyData → Env → Option Env
  | .nil, xs, env => match xs with
    | [] => some env
    | _ :: _ => none
  | .cons t ts, xs, env => match xs with
    | x :: xs => (assign t x env).bind fun env => assignAll ts xs env
    | [] => none
  | .nm _, _, _ => none
  | .tp _, _, _ => none
end
/-- the slots of a target -/
def slotsT : Tg → List Nat
  | .nm i => [i]
  | .tp ts => slotsT ts
  | .nil => []
  | .cons t ts => slotsT t ++ slotsT ts
noncomputable def wipeE : List Nat → Env → Env
  | [], env => env
  | i :: is, env => setE i .no (wipeE is env)
def upI (c : Int) : Nat → Int → List PyData
  | 0, _ => []
  | n + 1, lo => .int lo :: upI c n (lo + c)
def small62 (i : Int) : Bool := iltB (-4611686018427387904) i && iltB i 4611686018427387904
def rngD : List PyData → Option (List PyData)
  | [.int n] => cond (small62 n && Nat.ble n.toNat lim) (some (upI 1 n.toNat 0)) none
  | [.int a, .int b] => cond (small62 a && small62 b && Nat.ble (b - a).toNat lim) (some (upI 1 (b - a).toNat a)) none
  | [.int a, .int b, .int c] => cond (Builtin.Range.small a b c && !ieqB c 0 && iltB (-1000000) c && iltB c 1000000 && ileB 0 (Builtin.Range.rangeSize a b c) && Nat.ble (Builtin.Range.rangeSize a b c).toNat lim) (some (upI c (Builtin.Range.rangeSize a b c).toNat a)) none
  | _ => none
def chars : List Nat → List PyData
  | [] => []
  | c :: cs => .str ⟨#[c]⟩ :: chars cs
/-- what a loop walks -/
def walkD : PyData → Option (List PyData)
  | .list xs => some xs
  | .tuple xs => some xs
  | .str s => some (chars s.cps.toList)
  | _ => none
def zipD : List PyData → List PyData → List PyData
  | x :: xs, y :: ys => .tuple [x, y] :: zipD xs ys
  | _, _ => []

def zipV : PyData → PyData → Option (List PyData)
  | .list xs, .list ys => some (zipD xs ys)
  | .tuple xs, .tuple ys => some (zipD xs ys)
  | _, _ => none

/-- a comprehension's turns -/
noncomputable def turnsC (step : PyData → Tr (Option PyData)) (xs : List PyData) : Tr (List PyData) := List.rec (motive := fun _ => Tr (List PyData)) (.ret [])
  (fun x _ ih => (step x).bind fun r => ih.bind fun ys => .ret (match r with | some y => y :: ys | none => ys)) xs

abbrev Sm := Env → Tr PyData
noncomputable def kVar (i : Nat) : Sm := fun env => SV.rec (motive := fun _ => Tr PyData) .fail (fun d => .ret d) (fun _ => .fail) .fail (getE i env)
noncomputable def kRd (i : Nat) : Sm := fun env => SV.rec (motive := fun _ => Tr PyData) .fail (fun d => .ret d) (fun d => .ret d) .fail (getE i env)
def kLit (d : PyData) : Sm := fun _ => .ret d
noncomputable def kOp (o : Op) (a b : Sm) : Sm := fun env => (a env).bind fun x => (b env).bind fun y => Tr.ofO (opD o x y)
noncomputable def kNeg (a : Sm) : Sm := fun env => (a env).bind fun x => match x with | .int i => .ret (.int (-i)) | _ => .fail
noncomputable def kCm (c : Cm) (a b : Sm) : Sm := fun env => (a env).bind fun x => (b env).bind fun y => Tr.ofO ((cmD c x y).map .bool)
noncomputable def kChn (c c' : Cm) (a b d : Sm) : Sm := fun env => (a env).bind fun x => (b env).bind fun y => match cmD c x y with
    | some true => (d env).bind fun z => Tr.ofO ((cmD c' y z).map .bool)
    | some false => .ret (.bool false)
    | none => .fail
noncomputable def kAnd (a b : Sm) : Sm := fun env => (a env).bind fun x => match x with
    | .bool true => b env
    | .bool false => .ret (.bool false)
    | _ => .fail
noncomputable def kOr (a b : Sm) : Sm := fun env => (a env).bind fun x => match x with
    | .bool true => .ret (.bool true)
    | .bool false => b env
    | _ => .fail
noncomputable def kNot (a : Sm) : Sm := fun env => (a env).bind fun x => match x with
    | .bool b => .ret (.bool (!b))
    | _ => .fail
noncomputable def kIte (t a b : Sm) : Sm := fun env => (t env).bind fun x => match x with
    | .bool true => a env
    | .bool false => b env
    | _ => .fail
noncomputable def kCons (a as : Sm) : Sm := fun env => (a env).bind fun x => (as env).bind fun y => match y with
    | .tuple ys => .ret (.tuple (x :: ys))
    | _ => .fail
noncomputable def kTup (es : Sm) : Sm := fun env => (es env).bind fun y => match y with
    | .tuple ys => cond (lenOk ys) (.ret (.tuple ys)) .fail
    | _ => .fail
noncomputable def kLst (es : Sm) : Sm := fun env => (es env).bind fun y => match y with
    | .tuple ys => cond (lenOk ys) (.ret (.list ys)) .fail
    | _ => .fail
noncomputable def kIx (a i : Sm) : Sm := fun env => (a env).bind fun x => (i env).bind fun y => Tr.ofO (ixD x y)
noncomputable def kSl (a lo hi : Sm) : Sm := fun env => (a env).bind fun x => (lo env).bind fun y => match partD y with
    | some p => (hi env).bind fun z => Tr.ofO ((partD z).bind fun q => sl1 x p q)
    | none => .fail
noncomputable def kRev (a : Sm) : Sm := fun env => (a env).bind fun x => Tr.ofO (revD x)
noncomputable def kBi (f : Bi) (es : Sm) : Sm := fun env => (es env).bind fun y => match y with
    | .tuple ys => Tr.ofO (biD f ys)
    | _ => .fail
noncomputable def kMe (m : Me) (o es : Sm) : Sm := fun env => (o env).bind fun x => cond (meOk m x) ((es env).bind fun y => match y with
    | .tuple ys => Tr.ofO (meD m x ys)
    | _ => .fail) .fail
noncomputable def kDraw (i : Nat) (e : Sm) : Sm := fun env => match getE i env with
    | .pool => (e env).bind fun y => match y with
      | .int (.ofNat n) => cond (Nat.blt 0 n && Nat.blt n 1073741824) (.draw n fun r => .ret (.int (.ofNat r))) .fail
      | _ => .fail
    | _ => .fail
noncomputable def kRng (es : Sm) : Sm := fun env => (es env).bind fun y => match y with
    | .tuple ys => Tr.ofO ((rngD ys).map .list)
    | _ => .fail
noncomputable def kRngt (es : Sm) : Sm := fun env => (es env).bind fun y => match y with
    | .tuple ys => Tr.ofO ((rngD ys).map .tuple)
    | _ => .fail
noncomputable def kZip (a b : Sm) : Sm := fun env => (a env).bind fun x => (b env).bind fun y => Tr.ofO ((zipV x y).map .list)
noncomputable def kStep (elt cnd : Sm) (tg : Tg) (env : Env) (x : PyData) : Tr (Option PyData) := match assign tg x (wipeE (slotsT tg) env) with
        | some env' => (cnd env').bind fun t => match t with
          | .bool true => (elt env').bind fun d => .ret (some d)
          | .bool false => .ret none
          | _ => .fail
        | none => .fail
noncomputable def kComp (elt : Sm) (tg : Tg) (it cnd : Sm) : Sm := fun env => (it env).bind fun x => match walkD x with
    | some xs => cond (lenOk xs) ((turnsC (fun x => kStep elt cnd tg env x) xs).bind fun ys => .ret (.list ys)) .fail
    | none => .fail
noncomputable def kDct (es : Sm) : Sm := fun env => (es env).bind fun y => match y with
    | .tuple ys => Tr.ofO ((flatPairs ys).bind fun kvs => dictD kvs [])
    | _ => .fail
noncomputable def kSortk (it : Sm) (i : Nat) (key : Sm) : Sm := fun env => (it env).bind fun x => match items x with
    | some xs => (turnsC (fun x => (key (setE i (.v x) env)).bind fun k => .ret (some k)) xs).bind fun ks =>
      cond (canSort ks && lenOk xs) (.ret (.list ((sortK (ks.zip xs)).map (·.2)))) .fail
    | none => .fail
noncomputable def kSset (es : Sm) : Sm := fun env => (es env).bind fun y => match y with
    | .tuple ys => Tr.ofO (ssetD ys)
    | _ => .fail
noncomputable def kLset (es : Sm) : Sm := fun env => (es env).bind fun y => match y with
    | .tuple ys => Tr.ofO (lsetD ys)
    | _ => .fail
section
variable (F : Nat → Bool → List PyData → Tr PyData)
noncomputable def kCall (f : Nat) (es : Sm) : Sm := fun env => (es env).bind fun y => match y with
    | .tuple ys => F f false ys
    | _ => .fail
noncomputable def kCallp (f i : Nat) (es : Sm) : Sm := fun env => match getE i env with
    | .pool => (es env).bind fun y => match y with
      | .tuple ys => F f true ys
      | _ => .fail
    | _ => .fail
noncomputable def ev (e : E) : Sm := E.rec (motive := fun _ => Sm)
  kVar                                                            -- var
  kRd                                                             -- rd
  kLit                                                            -- lit
  (fun _ d => kLit d)                                             -- glb
  (fun o _ _ a b => kOp o a b)                                    -- op
  (fun _ a => kNeg a)                                             -- neg
  (fun c _ _ a b => kCm c a b)                                    -- cm
  (fun c c' _ _ _ a b d => kChn c c' a b d)                       -- chn
  (fun _ _ a b => kAnd a b)                                       -- and
  (fun _ _ a b => kOr a b)                                        -- or
  (fun _ a => a)                                                  -- one
  (fun _ a => kNot a)                                             -- not
  (fun _ _ _ t a b => kIte t a b)                                 -- ite
  (kLit (.tuple []))                                              -- nil
  (fun _ _ a as => kCons a as)                                    -- cons
  (fun _ es => kTup es)                                           -- tup
  (fun _ es => kLst es)                                           -- lst
  (fun _ _ a i => kIx a i)                                        -- ix
  (fun _ _ _ a lo hi => kSl a lo hi)                              -- sl
  (kLit .none)                                                    -- no
  (fun _ a => kRev a)                                             -- rev
  (fun f _ es => kBi f es)                                        -- bi
  (fun m _ _ o es => kMe m o es)                                  -- me
  (fun f _ es => kCall F f es)                                    -- call
  (fun f i _ es => kCallp F f i es)                               -- callp
  (fun i _ e => kDraw i e)                                        -- draw
  (fun _ es => kRng es)                                           -- rng
  (fun _ es => kRng es)                                           -- rngl
  (fun _ es => kRngt es)                                          -- rngt
  (fun _ _ a b => kZip a b)                                       -- zip
  (fun _ tg _ _ elt it cnd => kComp elt tg it cnd)                -- comp
  (kLit (.bool true))                                             -- yes
  (fun _ es => kDct es)                                           -- dct
  (fun _ i _ it key => kSortk it i key)                           -- sortk
  (fun _ es => kSset es)                                          -- sset
  (fun _ es => kLset es)                                          -- lset
  e
theorem ev_var (i : Nat) (env : Env) : ev F (.var i) env = (match getE i env with
  | .v d => .ret d
  | _ => .fail) := by
  show (SV.rec (motive := fun _ => Tr PyData) .fail (fun d => .ret d) (fun _ => .fail) .fail (getE i env) : Tr PyData) = _
  cases getE i env <;> rfl
theorem ev_rd (i : Nat) (env : Env) : ev F (.rd i) env = (match getE i env with
  | .v d => .ret d
  | .o d => .ret d
  | _ => .fail) := by
  show (SV.rec (motive := fun _ => Tr PyData) .fail (fun d => .ret d) (fun d => .ret d) .fail (getE i env) : Tr PyData) = _
  cases getE i env <;> rfl
end
end Ev

/-! EvSemS -/
namespace Ev
open PySem L2
section
variable (F : Nat → Bool → List PyData → Tr PyData)
inductive Out where
  | nx (e : Env) | rt (d : PyData) | bk (e : Env) | ct (e : Env)
inductive S where
  | nop | seq (a b : S)
  | frz (i : Nat) (s : S)                     -- slot i's own object stands still from here on
  | set (i : Nat) (e : E) | own (i : Nat) (e : E)
  | unp (tg : Tg) (e : E) | par (i j : Nat) (a b : E)
  | aug (i : Nat) (o : Op) (e : E)
  | app (i : Nat) (e : E) | ext (i : Nat) (e : E)
  | pop (i : Nat) | popat (i : Nat) (e : E)   -- x.pop(), x.pop(e) as statements
  | popset (k i : Nat) | popatset (k i : Nat) (e : E) | popunp (tg : Tg) (i : Nat)
  | apppop (i j : Nat) | apppopat (i j : Nat) (e : E)
  | seti (i : Nat) (k e : E) | augi (i : Nat) (k : E) (o : Op) (e : E)
  | swap (i : Nat) (k l e : E)                -- x[k], x[l] = e, a pair
  | dnew (i : Nat) (tupKeys : Bool)           -- x = {}
  | ife (c : E) (a b : S) | whl (c : E) (b : S) | fr (tg : Tg) (it : E) (b : S)
  | ret (e : E) | retO (i : Nat) | retN
  | drop (e : E) | brk | cnt | never
  | wipe (is : List Nat) (s : S)              -- some slots are forgotten from here on

noncomputable def loopW (c : Env → Tr PyData) (b : Env → Tr Out) : Nat → Env → Tr Out
  | 0, _ => .fail
  | n + 1, env => (c env).bind fun t => match t with
    | .bool true => (b env).bind fun o => match o with
      | .nx e => loopW c b n e
      | .ct e => loopW c b n e
      | .bk e => .ret (.nx e)
      | .rt d => .ret (.rt d)
    | .bool false => .ret (.nx env)
    | _ => .fail
noncomputable def loopF (asg : PyData → Env → Option Env) (b : Env → Tr Out) (xs : List PyData) (env : Env) : Tr Out := List.rec (motive := fun _ => Env → Tr Out) (fun env => .ret (.nx env))
  (fun x _ ih env => match asg x env with
    | none => .fail
    | some env => (b env).bind fun o => match o with
      | .nx e => ih e
      | .ct e => ih e
      | .bk e => .ret (.nx e)
      | .rt d => .ret (.rt d)) xs env
def putL (xs : List PyData) (k v : PyData) : Option (List PyData) := match k with
  | .int i => (place xs.length i).map fun j => xs.set j v
  | _ => none
/-- a list's item at k, and the list without it -/
def popD (xs : List PyData) (k : PyData) : Option (PyData × List PyData) := match k with
  | .int i => cond (small62 i) ((place xs.length i).bind fun j => (xs[j]?).map fun d => (d, xs.eraseIdx j)) none
  | _ => none
/-- x op= y: ints -/
def augD : Op → PyData → PyData → Option PyData
  | o, .int a, .int b => opD o (.int a) (.int b)
  | _, _, _ => none
/-- x op= y: ints, tuples -/
def augX : Op → PyData → PyData → Option PyData
  | .add, .tuple a, .tuple b => opD .add (.tuple a) (.tuple b)
  | o, .int a, .int b => opD o (.int a) (.int b)
  | _, _, _ => none
def putAt (d k v : PyData) : Option PyData := match d with
  | .list xs => match k with
    | .int i => (place xs.length i).map fun j => .list (xs.set j v)
    | _ => none
  | .dict kvs => cond (keyIn k kvs && Nat.blt kvs.length lim) (some (.dict (putD k v kvs))) none
  | _ => none
end
abbrev Xm := Env → Tr Out
noncomputable def xNop  : Xm := fun env => .ret (.nx env)
noncomputable def xSeq (a : Xm) (b : Xm) : Xm := fun env => (a env).bind fun o => match o with
    | .nx e => b e
    | .rt d => .ret (.rt d)
    | .bk e => .ret (.bk e)
    | .ct e => .ret (.ct e)
noncomputable def xFrz (i : Nat) (s : Xm) : Xm := fun env => match getE i env with
    | .o (.list ds) => s (setE i (.v (.list ds)) env)
    | .v _ => s env
    | _ => .fail
noncomputable def xWipe (is : List Nat) (s : Xm) : Xm := fun env => s (wipeE is env)
noncomputable def xSet (F : Nat → Bool → List PyData → Tr PyData) (i : Nat) (e : E) : Xm := fun env => (ev F e env).bind fun d => .ret (.nx (setE i (.v d) env))
noncomputable def xOwn (F : Nat → Bool → List PyData → Tr PyData) (i : Nat) (e : E) : Xm := fun env => (ev F e env).bind fun d => match d with
    | .list xs => .ret (.nx (setE i (.o (.list xs)) env))
    | _ => .fail
noncomputable def xUnp (F : Nat → Bool → List PyData → Tr PyData) (tg : Tg) (e : E) : Xm := fun env => (ev F e env).bind fun d => match assign tg d env with
    | some env => .ret (.nx env)
    | none => .fail
noncomputable def xPar (F : Nat → Bool → List PyData → Tr PyData) (i : Nat) (j : Nat) (a : E) (b : E) : Xm := fun env => (ev F a env).bind fun x => (ev F b env).bind fun y => .ret (.nx (setE j (.v y) (setE i (.v x) env)))
noncomputable def xAug (F : Nat → Bool → List PyData → Tr PyData) (i : Nat) (o : Op) (e : E) : Xm := fun env => match getE i env with
    | .v x => (ev F e env).bind fun y => match augX o x y with
      | some z => .ret (.nx (setE i (.v z) env))
      | none => .fail
    | _ => .fail
noncomputable def xApp (F : Nat → Bool → List PyData → Tr PyData) (i : Nat) (e : E) : Xm := fun env => match getE i env with
    | .o (.list xs) => (ev F e env).bind fun d => cond (Nat.blt xs.length lim) (.ret (.nx (setE i (.o (.list (xs ++ [d]))) env))) .fail
    | _ => .fail
noncomputable def xExt (F : Nat → Bool → List PyData → Tr PyData) (i : Nat) (e : E) : Xm := fun env => match getE i env with
    | .o (.list xs) => (ev F e env).bind fun d => match d with
      | .list ys => let r := xs ++ ys; cond (lenOk r) (.ret (.nx (setE i (.o (.list r)) env))) .fail
      | .tuple ys => let r := xs ++ ys; cond (lenOk r) (.ret (.nx (setE i (.o (.list r)) env))) .fail
      | _ => .fail
    | _ => .fail
noncomputable def xPop (i : Nat) : Xm := fun env => match getE i env with
    | .o (.list (x :: xs)) => .ret (.nx (setE i (.o (.list (x :: xs).dropLast)) env))
    | _ => .fail
noncomputable def xPopat (F : Nat → Bool → List PyData → Tr PyData) (i : Nat) (e : E) : Xm := fun env => match getE i env with
    | .o (.list xs) => (ev F e env).bind fun k => match popD xs k with
      | some (_, ys) => .ret (.nx (setE i (.o (.list ys)) env))
      | none => .fail
    | _ => .fail
noncomputable def xPopset (k : Nat) (i : Nat) : Xm := fun env => match getE i env with
    | .o (.list (x :: xs)) => .ret (.nx (setE k (.v ((x :: xs).getLastD x)) (setE i (.o (.list (x :: xs).dropLast)) env)))
    | _ => .fail
noncomputable def xPopatset (F : Nat → Bool → List PyData → Tr PyData) (k : Nat) (i : Nat) (e : E) : Xm := fun env => match getE i env with
    | .o (.list xs) => (ev F e env).bind fun q => match popD xs q with
      | some (d, ys) => .ret (.nx (setE k (.v d) (setE i (.o (.list ys)) env)))
      | none => .fail
    | _ => .fail
noncomputable def xPopunp (tg : Tg) (i : Nat) : Xm := fun env => match getE i env with
    | .o (.list (x :: xs)) => match assign tg ((x :: xs).getLastD x) (setE i (.o (.list (x :: xs).dropLast)) env) with
      | some env => .ret (.nx env)
      | none => .fail
    | _ => .fail
noncomputable def xApppop (i : Nat) (j : Nat) : Xm := fun env => match getE i env, getE j env with
    | .o (.list ys), .o (.list (x :: xs)) => cond (Nat.blt ys.length lim) (.ret (.nx (setE i (.o (.list (ys ++ [(x :: xs).getLastD x]))) (setE j (.o (.list (x :: xs).dropLast)) env)))) .fail
    | _, _ => .fail
noncomputable def appPop (i j : Nat) (ys xs : List PyData) (env : Env) (q : PyData) : Tr Out := match popD xs q with
  | some (d, zs) => cond (Nat.blt ys.length lim && !Nat.beq i j) (.ret (.nx (setE i (.o (.list (ys ++ [d]))) (setE j (.o (.list zs)) env)))) .fail
  | none => .fail
noncomputable def xApppopat (F : Nat → Bool → List PyData → Tr PyData) (i : Nat) (j : Nat) (e : E) : Xm := fun env => match getE i env with
    | .o (.list ys) => match getE j env with
      | .o (.list xs) => (ev F e env).bind fun q => appPop i j ys xs env q
      | _ => .fail
    | _ => .fail
noncomputable def xSeti (F : Nat → Bool → List PyData → Tr PyData) (i : Nat) (k : E) (e : E) : Xm := fun env => (ev F e env).bind fun v => match getE i env with
    | .o (.list xs) => (ev F k env).bind fun k => match putL xs k v with
      | some ys => .ret (.nx (setE i (.o (.list ys)) env))
      | none => .fail
    | .o (.dict kvs) => (ev F k env).bind fun k => cond (keyIn k kvs && Nat.blt kvs.length lim) (.ret (.nx (setE i (.o (.dict (putD k v kvs))) env))) .fail
    | _ => .fail
noncomputable def augIn (F : Nat → Bool → List PyData → Tr PyData) (i : Nat) (xs : List PyData) (o : Op) (e : E) (env : Env) (n : Nat) : Tr Out := match xs[n]? with
  | some x => (ev F e env).bind fun y => match augD o x y with
    | some z => .ret (.nx (setE i (.o (.list (xs.set n z))) env))
    | none => .fail
  | none => .fail
noncomputable def augAt (F : Nat → Bool → List PyData → Tr PyData) (i : Nat) (xs : List PyData) (o : Op) (e : E) (env : Env) (k : PyData) : Tr Out := match k with
  | .int kk => match place xs.length kk with
    | some n => augIn F i xs o e env n
    | none => .fail
  | _ => .fail
noncomputable def xAugi (F : Nat → Bool → List PyData → Tr PyData) (i : Nat) (k : E) (o : Op) (e : E) : Xm := fun env => match getE i env with
    | .o (.list xs) => (ev F k env).bind fun k => augAt F i xs o e env k
    | _ => .fail
noncomputable def xSwap (F : Nat → Bool → List PyData → Tr PyData) (i : Nat) (k l e : E) : Xm := fun env => (ev F e env).bind fun d => match d with
    | .tuple [x, y] => match getE i env with
      | .o (.list xs) => (ev F k env).bind fun k => match putL xs k x with
        | some ys => (ev F l (setE i (.o (.list ys)) env)).bind fun l => match putL ys l y with
          | some zs => .ret (.nx (setE i (.o (.list zs)) env))
          | none => .fail
        | none => .fail
      | _ => .fail
    | _ => .fail
noncomputable def xDnew (i : Nat) : Xm := fun env => .ret (.nx (setE i (.o (.dict [])) env))
noncomputable def xIfe (F : Nat → Bool → List PyData → Tr PyData) (c : E) (a : Xm) (b : Xm) : Xm := fun env => (ev F c env).bind fun t => match t with
    | .bool true => a env
    | .bool false => b env
    | _ => .fail
noncomputable def xWhl (F : Nat → Bool → List PyData → Tr PyData) (fuel : Nat) (c : E) (b : Xm) : Xm := fun env => loopW (ev F c) b fuel env
noncomputable def xFr (F : Nat → Bool → List PyData → Tr PyData) (tg : Tg) (it : E) (b : Xm) : Xm := fun env => (ev F it env).bind fun x => match walkD x with
    | some xs => loopF (assign tg) b xs env
    | none => .fail
noncomputable def xRet (F : Nat → Bool → List PyData → Tr PyData) (e : E) : Xm := fun env => (ev F e env).bind fun d => .ret (.rt d)
noncomputable def xRetO (i : Nat) : Xm := fun env => match getE i env with
    | .o (.list ds) => .ret (.rt (.list ds))
    | .v d => .ret (.rt d)
    | _ => .fail
noncomputable def xRetN  : Xm := fun _ => .ret (.rt .none)
noncomputable def xDrop (F : Nat → Bool → List PyData → Tr PyData) (e : E) : Xm := fun env => (ev F e env).bind fun _ => .ret (.nx env)
noncomputable def xBrk  : Xm := fun env => .ret (.bk env)
noncomputable def xCnt  : Xm := fun env => .ret (.ct env)
noncomputable def xNever  : Xm := fun _ => .fail
noncomputable def ex (F : Nat → Bool → List PyData → Tr PyData) (fuel : Nat) (s : S) : Xm := S.rec (motive := fun _ => Xm)
  xNop
  (fun _ _ a b => xSeq a b)
  (fun i _ s => xFrz i s)
  (fun i e => xSet F i e)
  (fun i e => xOwn F i e)
  (fun tg e => xUnp F tg e)
  (fun i j a b => xPar F i j a b)
  (fun i o e => xAug F i o e)
  (fun i e => xApp F i e)
  (fun i e => xExt F i e)
  (fun i => xPop i)
  (fun i e => xPopat F i e)
  (fun k i => xPopset k i)
  (fun k i e => xPopatset F k i e)
  (fun tg i => xPopunp tg i)
  (fun i j => xApppop i j)
  (fun i j e => xApppopat F i j e)
  (fun i k e => xSeti F i k e)
  (fun i k o e => xAugi F i k o e)
  (fun i k l e => xSwap F i k l e)
  (fun i _ => xDnew i)
  (fun c _ _ a b => xIfe F c a b)
  (fun c _ b => xWhl F fuel c b)
  (fun tg it _ b => xFr F tg it b)
  (fun e => xRet F e)
  (fun i => xRetO i)
  xRetN
  (fun e => xDrop F e)
  xBrk
  xCnt
  xNever
  (fun is _ s => xWipe is s)
  s

/-- a def: does it take the pool, how many further parameters, how many slots, its body -/
structure Fn where
  pool : Bool
  arity : Nat
  slots : Nat
  body : S
def blank : Nat → Env
  | 0 => []
  | n + 1 => .no :: blank n
def entry (f : Fn) (ds : List PyData) : Env :=
  (cond f.pool [SV.pool] []) ++ ds.map SV.v ++ blank (f.slots - f.arity - cond f.pool 1 0)
def outD : Out → Tr PyData
  | .nx _ => .ret .none
  | .rt d => .ret d
  | _ => .fail
def getF (i : Nat) : List Fn → Option Fn
  | [] => none
  | f :: fs => match i with
    | 0 => some f
    | j + 1 => getF j fs
/-- calls at most depth deep, whiles of at most fuel turns -/
noncomputable def run (T : List Fn) (fuel : Nat) : Nat → Nat → Bool → List PyData → Tr PyData
  | 0, _, _, _ => .fail
  | depth + 1, i, p, ds => match getF i T with
    | some f => cond ((cond f.pool p (!p)) && Nat.beq ds.length f.arity) ((ex (run T fuel depth) fuel f.body (entry f ds)).bind outD) .fail
    | none => .fail
end Ev

/-! EvChk -/
set_option maxHeartbeats 4000000
namespace Ev
open PySem
/-- the names by slot, the defs by number (name, takes the pool), the module's texts and numbers, the draw's name -/
structure Ctx where
  N : List Str
  fns : List (Str × Bool)
  gls : List (Str × PyData)
  drw : Str
def lookN (x : Str) : List (Str × NameKind) → Option NameKind
  | [] => none
  | (y, k) :: r => cond (strEq x y) (some k) (lookN x r)
def nameAt (C : Ctx) (i : Nat) (x : Str) : Bool := match C.N[i]? with
  | some y => strEq y x
  | none => false
def visB (sc : Scope) (x : Str) : Bool := match lookN x sc.names with
  | some .local => true
  | some .cell => true
  | some .free => true
  | _ => false
def locB (sc : Scope) (x : Str) : Bool := match lookN x sc.names with
  | some .local => true
  | some .cell => true
  | _ => false
def glB (sc : Scope) (x : Str) : Bool := match lookN x sc.names with
  | some .globalImplicit => true
  | _ => false
def okN (x : Str) : Bool := !strEq x "__debug__" && !strEq x "__classdict__" && !strEq x "__name__"
def nostar : Expr → Bool
  | .Starred _ _ => false
  | _ => true
def noset : Expr → Bool
  | .Set _ _ _ => false
  | _ => true
def noslice : Expr → Bool
  | .Slice _ _ _ _ => false
  | _ => true
/-- a receiver that is not a call of nothing -/
def nocall0 : Expr → Bool
  | .Call _ [] [] _ => false
  | _ => true
/-- a test that is looked at by its value alone -/
def byVal : Expr → Bool
  | .UnaryOp .Not _ _ => false
  | .BoolOp _ _ _ => false
  | .IfExp _ _ _ _ => false
  | .Compare _ _ _ _ => false
  | _ => true
def opIs : Op → Operator → Bool
  | .add, .Add => true
  | .sub, .Sub => true
  | .mul, .Mult => true
  | .fdiv, .FloorDiv => true
  | .mod, .Mod => true
  | _, _ => false
def cmIs : Cm → CmpOp → Bool
  | .lt, .Lt => true
  | .le, .LtE => true
  | .gt, .Gt => true
  | .ge, .GtE => true
  | .eq, .Eq => true
  | .ne, .NotEq => true
  | .is, .Is => true
  | .isn, .IsNot => true
  | .mem, .In => true
  | .nmem, .NotIn => true
  | _, _ => false
def litIs : PyData → Const → Bool
  | .none, .none => true
  | .bool a, .bool b => cond a b (!b)
  | .int i, .int j => ieqB i j
  | .str x, .str y => strEq x y
  | _, _ => false
def leafD : PyData → Bool
  | .int _ => true
  | .str _ => true
  | _ => false
def biName : Bi → Str
  | .len => "len" | .abs => "abs" | .min2 => "min" | .min1 => "min" | .max2 => "max" | .max1 => "max" | .sum => "sum" | .int => "int" | .list => "list" | .tuple => "tuple" | .sorted => "sorted" | .sortedR => "sorted"
  | .isInt => "int" | .isStr => "str" | .isTup => "tuple" | .isList => "list" | .isBool => "bool" | .all => "all" | .any => "any" | .lenset => "len" | .sortset => "sorted" | .str => "str" | .repr => "repr" | .dict => "dict"
/-- served by a plain call -/
def biPlain : Bi → Bool
  | .len => true | .abs => true | .min2 => true | .min1 => true | .max2 => true | .max1 => true | .sum => true | .int => true | .list => true | .tuple => true | .sorted => true | .all => true | .any => true
  | _ => false
def biIs : Bi → Bool
  | .isInt => true | .isStr => true | .isTup => true | .isList => true | .isBool => true
  | _ => false
def meStr : Me → Str
  | .index => "index" | .count => "count" | .get1 => "get" | .get2 => "get" | .join => "join" | .split => "split"
def isNo : E → Bool
  | .no => true
  | _ => false
def isYes : E → Bool
  | .yes => true
  | _ => false
def isSR : Bi → Bool
  | .sortedR => true
  | _ => false
def isNil : E → Bool
  | .nil => true
  | _ => false
def opKd : Op → Operator
  | .add => .Add | .sub => .Sub | .mul => .Mult | .fdiv => .FloorDiv | .mod => .Mod
/-- places in N of a block's own names -/
def ownN (N : List Str) : List Nat → List (Str × Nat)
  | [] => []
  | i :: is => match N[i]? with
    | some x => (x, i) :: ownN N is
    | none => ownN N is
def plainLine (a b : Pos) : Bool := a.endLine == b.line
mutual
/-- targets -/
def chkT (C : Ctx) : Tg → Scope → Expr → Bool
  | .nm i, sc, x => match x with
    | .Name y _ => nameAt C i y && locB sc y
    | _ => false
  | .tp ts, sc, x => match x with
    | .Tuple xs _ _ => chkTs C ts sc xs
    | _ => false
  | .nil, _, _ => false
  | .cons _ _, _, _ => false
def chkTs (C : Ctx) : Tg → Scope → List Expr → Bool
  | .nil, _, xs => match xs with
    | [] => true
    | _ :: _ => false
  | .cons t ts, sc, xs => match xs with
    | x :: xs => nostar x && chkT C t sc x && chkTs C ts sc xs
    | [] => false
  | .nm _, _, _ => false
  | .tp _, _, _ => false
end
def isTp : Tg → Bool
  | .tp _ => true
  | _ => false
def tyArg (sc : Scope) (f : Bi) : List Expr → Bool
  | [.Name t _] => glB sc t && strEq t (biName f) && okN t
  | _ => false
mutual
/-- e at x; b: an object of the def's own may come out -/
def chkE (C : Ctx) : E → Bool → Option (Bool × Expr) → Scope → Expr → Bool
  | .var i, _, _, sc, x => match x with
    | .Name y _ => nameAt C i y && visB sc y && okN y
    | _ => false
  | .rd i, b, _, sc, x => match x with
    | .Name y _ => b && nameAt C i y && visB sc y && okN y
    | _ => false
  | .lit d, _, _, _, x => match x with
    | .Constant c _ _ => litIs d c
    | _ => false
  | .glb k d, _, _, sc, x => match x with
    | .Name y _ => glB sc y && okN y && (match C.gls[k]? with | some (z, d') => strEq z y && leafD d && eqv d d' && leafD d' | none => false)
    | _ => false
  | .op o a b, _, _, sc, x => match x with
    | .BinOp l o' r _ => opIs o o' && chkE C a true none sc l && chkE C b true none sc r
    | _ => false
  | .neg a, _, _, sc, x => match x with
    | .UnaryOp .USub y _ => chkE C a true none sc y
    | _ => false
  | .cm c a b, _, _, sc, x => match x with
    | .Compare l [o] [r] _ => cmIs c o && chkE C a true none sc l && chkE C b true none sc r && !behindInMarks o r
    | _ => false
  | .chn c c' a b d, _, _, sc, x => match x with
    | .Compare l [o, o'] [m, r] _ => cmIs c o && cmIs c' o' && chkE C a true none sc l && chkE C b true none sc m && chkE C d true none sc r && !lastMarks [o, o'] [m, r]
    | _ => false
  | .and a b, f, _, sc, x => match x with
    | .BoolOp .And (l :: m :: r) p => chkE C a true none sc l && chkE C b f none sc (.BoolOp .And (m :: r) p)
    | _ => false
  | .or a b, f, _, sc, x => match x with
    | .BoolOp .Or (l :: m :: r) p => chkE C a true none sc l && chkE C b f none sc (.BoolOp .Or (m :: r) p)
    | _ => false
  | .one a, f, _, sc, x => match x with
    | .BoolOp _ [l] _ => chkE C a f none sc l
    | _ => false
  | .not a, _, _, sc, x => match x with
    | .UnaryOp .Not y _ => chkE C a true none sc y
    | _ => false
  | .ite t a b, f, _, sc, x => match x with
    | .IfExp c l r _ => chkE C t true none sc c && chkE C a f none sc l && chkE C b f none sc r
    | _ => false
  | .nil, _, _, _, _ => false
  | .cons _ _, _, _, _, _ => false
  | .tup es, _, _, sc, x => match x with
    | .Tuple xs _ _ => chkL C es false sc xs
    | _ => false
  | .lst es, _, _, sc, x => match x with
    | .List xs _ => chkL C es false sc xs
    | _ => false
  | .ix a i, _, _, sc, x => match x with
    | .Subscript l r _ => noslice r && chkE C a true none sc l && chkE C i true none sc r
    | _ => false
  | .sl a lo hi, _, _, sc, x => match x with
    | .Subscript l (.Slice x1 x2 none _) _ => chkE C a true none sc l && (match x1 with | some y => chkE C lo true none sc y | none => isNo lo) && (match x2 with | some y => chkE C hi true none sc y | none => isNo hi)
    | _ => false
  | .no, _, _, _, _ => false
  | .rev a, _, _, sc, x => match x with
    | .Subscript l (.Slice none none (some (.UnaryOp .USub (.Constant (.int 1) _ _) _)) _) _ => chkE C a true none sc l
    | _ => false
  | .bi f es, _, _, sc, x => match x with
    | .Call (.Name y _) (z :: zs) kws _ => match kws with
      | [] => cond (biPlain f) (glB sc y && strEq y (biName f) && okN y && chkL C es true sc (z :: zs))
        (cond (biIs f) (glB sc y && strEq y "isinstance" && okN y && tyArg sc f zs && chkL C es true sc [z]) false)
      | [⟨some k, .Constant (.bool true) _ _, _⟩] => isSR f && glB sc y && strEq y "sorted" && okN y && strEq k "reverse" && chkL C es true sc (z :: zs)
      | _ => false
    | _ => false
  | .me m o es, _, _, sc, x => match x with
    | .Call (.Attribute y nm ap) (z :: zs) [] cp => strEq nm (meStr m) && plainLine ap cp && Nat.blt zs.length 28 && nocall0 y && chkE C o true none sc y && chkL C es true sc (z :: zs)
    | _ => false
  | .call f es, _, _, sc, x => match x with
    | .Call (.Name y _) zs [] _ => glB sc y && okN y && (match C.fns[f]? with | some (n, false) => strEq n y | _ => false) && chkL C es false sc zs
    | _ => false
  | .callp f i es, _, _, sc, x => match x with
    | .Call (.Name y _) (.Name q _ :: zs) [] _ => glB sc y && okN y && nameAt C i q && visB sc q && okN q && (match C.fns[f]? with | some (n, true) => strEq n y | _ => false) && chkL C es false sc zs
    | _ => false
  | .draw i e, _, _, sc, x => match x with
    | .Call (.Name y _) [.Name q _, z] [] _ => glB sc y && okN y && strEq y C.drw && nameAt C i q && visB sc q && okN q && nostar z && chkE C e true none sc z
    | _ => false
  | .rng es, _, w, sc, x => match w with
    | none => false
    | some _ => match x with
      | .Call (.Name y _) (z :: zs) [] _ => glB sc y && strEq y "range" && okN y && chkL C es true sc (z :: zs)
      | _ => false
  | .rngl es, _, _, sc, x => match x with
    | .Call (.Name y _) [.Call (.Name y' _) (z :: zs) [] _] [] _ => glB sc y && strEq y "list" && okN y && glB sc y' && strEq y' "range" && okN y' && chkL C es true sc (z :: zs)
    | _ => false
  | .rngt es, _, _, sc, x => match x with
    | .Call (.Name y _) [.Call (.Name y' _) (z :: zs) [] _] [] _ => glB sc y && strEq y "tuple" && okN y && glB sc y' && strEq y' "range" && okN y' && chkL C es true sc (z :: zs)
    | _ => false
  | .zip a b, f, w, sc, x => match w with
    | none => false
    | some (tp, t) => match x, t with
      | .Call (.Name y _) [l, r] [] _, .Tuple _ _ _ => tp && glB sc y && strEq y "zip" && okN y && nostar l && nostar r && chkE C a f none sc l && chkE C b f none sc r
      | _, _ => false
  | .comp elt tg it cnd, _, _, sc, x => match x with
    | .ListComp y [⟨t, z, ifs, 0⟩] sc' _ => chkE C it true (some (isTp tg, t)) sc z && L2.blkC C.N sc sc' (ownN C.N (slotsT tg)) && Nat.beq (ownN C.N (slotsT tg)).length (slotsT tg).length && chkT C tg sc' t && noset z && chkE C elt false none sc' y &&
      (match ifs with | [] => isYes cnd | [c] => chkE C cnd true none sc' c | _ => false)
    | _ => false
  | .sset es, _, _, sc, x => match x with
    | .Call (.Name y _) [.Call (.Name y' _) (z :: zs) [] _] [] _ => glB sc y && strEq y "sorted" && okN y && glB sc y' && strEq y' "set" && okN y' && chkL C es true sc (z :: zs)
    | _ => false
  | .lset es, _, _, sc, x => match x with
    | .Call (.Name y _) [.Call (.Name y' _) (z :: zs) [] _] [] _ => glB sc y && strEq y "len" && okN y && glB sc y' && strEq y' "set" && okN y' && chkL C es true sc (z :: zs)
    | _ => false
  | .yes, _, _, _, _ => false
  | .dct _, _, _, _, _ => false
  | .sortk _ _ _, _, _, _, _ => false
/-- a row of arguments or items -/
def chkL (C : Ctx) : E → Bool → Scope → List Expr → Bool
  | .nil, _, _, xs => match xs with
    | [] => true
    | _ :: _ => false
  | .cons a as, b, sc, xs => match xs with
    | x :: xs => nostar x && chkE C a b none sc x && chkL C as b sc xs
    | [] => false
  | _, _, _, _ => false
end
abbrev chkV (C : Ctx) (e : E) (b : Bool) (sc : Scope) (x : Expr) : Bool := chkE C e b none sc x
abbrev chkI (C : Ctx) (e : E) (b : Bool) (sc : Scope) (tp : Bool) (t x : Expr) : Bool := chkE C e b (some (tp, t)) sc x
end Ev

/-! EvChS -/
set_option maxHeartbeats 4000000
namespace Ev
open PySem
def loc1 (sc : Scope) (x : Str) : Bool := match lookN x sc.names with
  | some .local => true
  | _ => false
/-- does the machine store a comprehension's value by a swap: what swapsWith says for a name -/
def swB (sc : Scope) (x : Expr) (y : Str) (py : Pos) : Bool := match x with
  | .ListComp _ _ s p => loc1 sc y && py.line == p.line && !(s.names.any fun (n, k) => n == y && (k == .local || k == .cell))
  | .SetComp _ _ s p => loc1 sc y && py.line == p.line && !(s.names.any fun (n, k) => n == y && (k == .local || k == .cell))
  | .DictComp _ _ _ s p => loc1 sc y && py.line == p.line && !(s.names.any fun (n, k) => n == y && (k == .local || k == .cell))
  | _ => false
def isCompE : E → Bool
  | .comp _ _ _ _ => true
  | _ => false
def notTup : Expr → Bool
  | .Tuple _ _ _ => false
  | _ => true
/-- a tuple of constants, folded for sure -/
def foldTup : Expr → Bool
  | .Tuple vs _ _ => vs.all (foldedForSure 8)
  | _ => false
def nocomp : Expr → Bool
  | .ListComp _ _ _ _ => false
  | .SetComp _ _ _ _ => false
  | .DictComp _ _ _ _ _ => false
  | _ => true
/-- a list that is made anew -/
def newE : E → Bool
  | .lst _ => true
  | .bi .list _ => true
  | .rngl _ => true
  | .op .add _ _ => true
  | .op .mul _ _ => true
  | .comp _ _ _ _ => true
  | _ => false
def augOk : Op → Bool
  | .add => true
  | .sub => true
  | .mul => true
  | .fdiv => true
  | .mod => true
/-- a row of statements -/
def rowS : S → Bool
  | .nop => true
  | .seq _ _ => true
  | .frz _ s => rowS s
  | .wipe _ s => rowS s
  | .never => true
  | _ => false
/-- one statement -/
def oneS : S → Bool
  | .nop => false
  | .seq _ _ => false
  | .frz _ s => oneS s
  | .wipe _ s => oneS s
  | _ => true
/-- y.pop(x) -/
def popB (C : Ctx) (i : Nat) (e : E) (sc : Scope) (y nm : Str) (ap cp : Pos) (x : Expr) : Bool :=
  nameAt C i y && visB sc y && okN y && strEq nm "pop" && plainLine ap cp && nostar x && chkE C e true none sc x
def chkS (C : Ctx) : S → Scope → List Stmt → Bool
  | .nop, _, xs => match xs with
    | [] => true
    | _ :: _ => false
  | .seq a b, sc, xs => match xs with
    | x :: r => oneS a && rowS b && chkS C a sc [x] && chkS C b sc r
    | [] => false
  | .frz _ s, sc, xs => chkS C s sc xs
  | .wipe _ s, sc, xs => chkS C s sc xs
  | .set i e, sc, xs => match xs with
    | [.Assign [.Name y py] x _] => nameAt C i y && locB sc y && chkE C e false none sc x && (!swB sc x y py || isCompE e)
    | _ => false
  | .own i e, sc, xs => match xs with
    | [.Assign [.Name y py] x _] => nameAt C i y && locB sc y && newE e && chkE C e false none sc x && (!swB sc x y py || isCompE e)
    | _ => false
  | .unp tg e, sc, xs => match xs with
    | [.Assign [.Tuple ts k p] x _] => isTp tg && chkT C tg sc (.Tuple ts k p) && (notTup x || foldTup x) && nocomp x && chkE C e false none sc x
    | _ => false
  | .aug i o e, sc, xs => match xs with
    | [.AugAssign (.Name y _) op x _] => opIs o op && augOk o && nameAt C i y && locB sc y && chkE C e true none sc x
    | _ => false
  | .app i e, sc, xs => match xs with
    | [.Expr (.Call (.Attribute (.Name y _) nm ap) [x] [] cp) _] => nameAt C i y && visB sc y && okN y && strEq nm "append" && plainLine ap cp && nostar x && chkE C e false none sc x
    | _ => false
  | .ext i e, sc, xs => match xs with
    | [.Expr (.Call (.Attribute (.Name y _) nm ap) [x] [] cp) _] => nameAt C i y && visB sc y && okN y && strEq nm "extend" && plainLine ap cp && nostar x && chkE C e false none sc x
    | _ => false
  | .seti i k e, sc, xs => match xs with
    | [.Assign [.Subscript (.Name y _) kx _] x _] => nameAt C i y && visB sc y && okN y && noslice kx && nocomp x && chkE C k true none sc kx && chkE C e false none sc x
    | _ => false
  | .ife c a b, sc, xs => match xs with
    | [.If x l r _] => rowS a && rowS b && chkE C c true none sc x && chkS C a sc l && chkS C b sc r
    | _ => false
  | .whl c b, sc, xs => match xs with
    | [.While x l [] _] => rowS b && chkE C c true none sc x && chkS C b sc l
    | _ => false
  | .fr tg it b, sc, xs => match xs with
    | [.For t x l [] _] => rowS b && chkE C it false (some (isTp tg, t)) sc x && chkT C tg sc t && noset x && chkS C b sc l
    | _ => false
  | .ret e, sc, xs => match xs with
    | [.Return (some x) _] => chkE C e false none sc x
    | _ => false
  | .retO i, sc, xs => match xs with
    | [.Return (some (.Name y _)) _] => nameAt C i y && visB sc y && okN y
    | _ => false
  | .retN, _, xs => match xs with
    | [.Return none _] => true
    | _ => false
  | .drop e, sc, xs => match xs with
    | [.Expr x _] => nocomp x && chkE C e true none sc x
    | _ => false
  | .brk, _, xs => match xs with
    | [.Break _] => true
    | _ => false
  | .cnt, _, xs => match xs with
    | [.Continue _] => true
    | _ => false
  | .swap i k l e, sc, xs => match xs with
    | [.Assign [.Tuple [.Subscript (.Name y _) kx _, .Subscript (.Name z _) lx _] _ _] x _] =>
      nameAt C i y && nameAt C i z && visB sc y && visB sc z && okN y && okN z && noslice kx && noslice lx && nocomp x && chkE C k true none sc kx && chkE C l true none sc lx && chkE C e false none sc x
    | _ => false
  | .par i j a b, sc, xs => match xs with
    | [.Assign [.Tuple [.Name x px, .Name y py] _ _] (.Tuple [l, r] _ _) _] =>
      !Nat.beq i j && nameAt C i x && nameAt C j y && loc1 sc x && loc1 sc y && !strEq x y && px.line == py.line && nostar l && nostar r && !([l, r].all (foldedForSure 8)) && !([l, r].all (constantsAlone 8)) && chkE C a false none sc l && chkE C b false none sc r
    | _ => false
  | .popat i e, sc, xs => match xs with
    | [.Expr (.Call (.Attribute (.Name y _) nm ap) [x] [] cp) _] => popB C i e sc y nm ap cp x
    | _ => false
  | .popatset k i e, sc, xs => match xs with
    | [.Assign [.Name z _] (.Call (.Attribute (.Name y _) nm ap) [x] [] cp) _] => nameAt C k z && locB sc z && popB C i e sc y nm ap cp x
    | _ => false
  | .apppopat i j e, sc, xs => match xs with
    | [.Expr (.Call (.Attribute (.Name z _) nm' ap') [.Call (.Attribute (.Name y _) nm ap) [x] [] cp] [] cp') _] =>
      nameAt C i z && visB sc z && okN z && strEq nm' "append" && plainLine ap' cp' && popB C j e sc y nm ap cp x
    | _ => false
  | .augi i k o e, sc, xs => match xs with
    | [.AugAssign (.Subscript (.Name y _) kx _) op x _] => opIs o op && augOk o && nameAt C i y && visB sc y && okN y && noslice kx && chkE C k true none sc kx && chkE C e true none sc x
    | _ => false
  | .dnew i _, sc, xs => match xs with
    | [.Assign [.Name y py] (.Dict [] [] _) _] => nameAt C i y && locB sc y
    | _ => false
  | .never, _, _ => true
  | _, _, _ => false
end Ev

/-! EvRel -/
namespace Ev
open PySem PySem.Spec PyProof.Rows L2

namespace Tr
variable {α β : Type}
theorem All_mono {P Q : α → Prop} : ∀ {t : Tr α}, t.All P → (∀ a, P a → Q a) → t.All Q
  | .ret a, h, f => f a h
  | .draw n k, h, f => fun r hr => All_mono (h r hr) f
  | .fail, h, _ => h.elim
theorem All_bind {P : β → Prop} {f : α → Tr β} : ∀ {t : Tr α}, (t.bind f).All P → t.All fun a => (f a).All P
  | .ret a, h => h
  | .draw n k, h => fun r hr => All_bind (h r hr)
  | .fail, h => h.elim
theorem All_ofO {P : α → Prop} : ∀ {o : Option α}, (ofO o).All P → ∃ a, o = some a ∧ P a
  | some a, h => ⟨a, rfl, h⟩
  | none, h => h.elim
theorem bind_All {P : β → Prop} {f : α → Tr β} : ∀ {t : Tr α}, t.All (fun a => (f a).All P) → (t.bind f).All P
  | .ret a, h => h
  | .draw n k, h => fun r hr => bind_All (h r hr)
  | .fail, h => h.elim
theorem bind_assoc {γ : Type} {f : α → Tr β} {g : β → Tr γ} : ∀ (t : Tr α), (t.bind f).bind g = t.bind fun a => (f a).bind g
  | .ret a => rfl
  | .draw n k => by
    show Tr.draw n _ = Tr.draw n _
    exact congrArg _ (funext fun r => bind_assoc (k r))
  | .fail => rfl
theorem allB_All {p : α → Bool} : ∀ {t : Tr α}, t.allB p = true → t.All fun a => p a = true
  | .ret a, h => h
  | .draw n k, h => fun r hr => allB_All (List.all_eq_true.mp h r (List.mem_range.mpr hr))
  | .fail, h => nomatch h
end Tr

/-- two lists, item by item -/
inductive All2 {α β : Type} (R : α → β → Prop) : List α → List β → Prop
  | nil : All2 R [] []
  | cons {a b as bs} : R a b → All2 R as bs → All2 R (a :: as) (b :: bs)
namespace All2
variable {α β : Type} {R S : α → β → Prop}
theorem length : ∀ {as : List α} {bs : List β}, All2 R as bs → as.length = bs.length
  | _, _, .nil => rfl
  | _, _, .cons _ t => congrArg (· + 1) t.length
theorem mono (f : ∀ a b, R a b → S a b) : ∀ {as : List α} {bs : List β}, All2 R as bs → All2 S as bs
  | _, _, .nil => .nil
  | _, _, .cons r t => .cons (f _ _ r) (mono f t)
theorem append : ∀ {as as' : List α} {bs bs' : List β}, All2 R as bs → All2 R as' bs' → All2 R (as ++ as') (bs ++ bs')
  | _, _, _, _, .nil, s => s
  | _, _, _, _, .cons r t, s => .cons r (append t s)
theorem get : ∀ {as : List α} {bs : List β} {i : Nat} {b : β}, All2 R as bs → bs[i]? = some b → ∃ a, as[i]? = some a ∧ R a b
  | _, _, _, _, .nil, e => by simp at e
  | _, _, 0, _, .cons r _, e => by simp at e; subst e; exact ⟨_, rfl, r⟩
  | _, _, i + 1, _, .cons _ t, e => by
    obtain ⟨a, h1, h2⟩ := get (i := i) t (by simpa using e)
    exact ⟨a, by simpa using h1, h2⟩
theorem get' : ∀ {as : List α} {bs : List β} {i : Nat} {a : α}, All2 R as bs → as[i]? = some a → ∃ b, bs[i]? = some b ∧ R a b
  | _, _, _, _, .nil, e => by simp at e
  | _, _, 0, _, .cons r _, e => by simp at e; subst e; exact ⟨_, rfl, r⟩
  | _, _, i + 1, _, .cons _ t, e => by
    obtain ⟨a, h1, h2⟩ := get' (i := i) t (by simpa using e)
    exact ⟨a, by simpa using h1, h2⟩
theorem take : ∀ {as : List α} {bs : List β} (n : Nat), All2 R as bs → All2 R (as.take n) (bs.take n)
  | _, _, 0, _ => .nil
  | _, _, _ + 1, .nil => .nil
  | _, _, n + 1, .cons r t => .cons r (take n t)
theorem drop : ∀ {as : List α} {bs : List β} (n : Nat), All2 R as bs → All2 R (as.drop n) (bs.drop n)
  | _, _, 0, r => r
  | _, _, _ + 1, .nil => .nil
  | _, _, n + 1, .cons _ t => drop n t
theorem set {a : α} {b : β} (r : R a b) : ∀ {as : List α} {bs : List β} (i : Nat), All2 R as bs → All2 R (as.set i a) (bs.set i b)
  | _, _, _, .nil => .nil
  | _, _, 0, .cons _ t => .cons r t
  | _, _, i + 1, .cons q t => .cons q (set r i t)
theorem erase : ∀ {as : List α} {bs : List β} (i : Nat), All2 R as bs → All2 R (as.eraseIdx i) (bs.eraseIdx i)
  | _, _, _, .nil => .nil
  | _, _, 0, .cons _ t => t
  | _, _, i + 1, .cons q t => .cons q (erase i t)
theorem dropLast : ∀ {as : List α} {bs : List β}, All2 R as bs → All2 R as.dropLast bs.dropLast
  | _, _, .nil => .nil
  | _, _, .cons _ .nil => .nil
  | _, _, .cons r (.cons q t) => .cons r (dropLast (.cons q t))
theorem reverse {as : List α} {bs : List β} (h : All2 R as bs) : All2 R as.reverse bs.reverse := by
  induction h with
  | nil => exact .nil
  | cons r t ih => rw [List.reverse_cons, List.reverse_cons]; exact ih.append (.cons r .nil)
end All2

variable {K : PySem.W.Frag} {G G' H H' : Hp} {v : V} {d : PyData}
abbrev Sub (G H : Hp) : Prop := ∀ b o, G b = some o → H b = some o
theorem Rd.sub {a : Addr} {u : HO} (s : Sub G H) (r : Rd G a u) : Rd H a u := by
  rcases r with r | ⟨o, r⟩
  · exact .inl (s _ _ r)
  · exact .inr ⟨o, s _ _ r⟩
theorem SqL.sub {a : Addr} {xs : List V} (s : Sub G H) (r : SqL K G a xs) : SqL K H a xs := r.imp (Rd.sub s) id
/-- the plain tuple at a -/
def PlainO (o : Obj) : Prop := o.dict = none ∧ o.slots = #[]
def TupAt (G : Hp) (a : Addr) (xs : List V) : Prop := ∃ o : Obj, G a = some (.frz o (.tup xs)) ∧ PlainO o
theorem TupAt.sub {a : Addr} {xs : List V} (s : Sub G H) (h : TupAt G a xs) : TupAt H a xs := by
  obtain ⟨o, e, q⟩ := h
  exact ⟨o, s _ _ e, q⟩
theorem TupAt.sq {a : Addr} {xs : List V} (h : TupAt G a xs) : SqT K G a xs := by
  obtain ⟨o, e, _⟩ := h
  exact .inl (.inr ⟨o, e⟩)
mutual
/-- the value v is the datum d (no dict), all of it tracked in G -/
inductive Da (G : Hp) : V → PyData → Prop
  | non : Da G .non .none
  | bl (b : Bool) : Da G (.bl b) (.bool b)
  | int (i : Int) : Da G (.int i) (.int i)
  | str (x : Str) : Da G (.str x) (.str x)
  | lst {a : Addr} {xs : List V} {ds : List PyData} : G a = some (.lst xs) → DaAll G xs ds → Da G (.ref a) (.list ds)
  | tup {a : Addr} {xs : List V} {ds : List PyData} : TupAt G a xs → DaAll G xs ds → Da G (.ref a) (.tuple ds)
inductive DaAll (G : Hp) : List V → List PyData → Prop
  | nil : DaAll G [] []
  | cons {v : V} {vs : List V} {d : PyData} {ds : List PyData} : Da G v d → DaAll G vs ds → DaAll G (v :: vs) (d :: ds)
end
mutual
theorem Da.sub (s : Sub G H) : ∀ {v : V} {d : PyData}, Da G v d → Da H v d
  | _, _, .non => .non
  | _, _, .bl b => .bl b
  | _, _, .int i => .int i
  | _, _, .str x => .str x
  | _, _, .lst q r => .lst (s _ _ q) (DaAll.sub s r)
  | _, _, .tup q r => .tup (q.sub s) (DaAll.sub s r)
theorem DaAll.sub (s : Sub G H) : ∀ {vs : List V} {ds : List PyData}, DaAll G vs ds → DaAll H vs ds
  | _, _, .nil => .nil
  | _, _, .cons h t => .cons (Da.sub s h) (DaAll.sub s t)
end
mutual
theorem Da.dp : ∀ {v : V} {d : PyData}, Da G v d → L2.Dp K G v d
  | _, _, .non => .non
  | _, _, .bl b => .bl b
  | _, _, .int i => .int i
  | _, _, .str x => .str x
  | _, _, .lst q r => .lst (SqL.of q) (DaAll.dp r)
  | _, _, .tup q r => .tup q.sq (DaAll.dp r)
theorem DaAll.dp : ∀ {vs : List V} {ds : List PyData}, DaAll G vs ds → L2.DpAll K G vs ds
  | _, _, .nil => .nil
  | _, _, .cons h t => .cons (Da.dp h) (DaAll.dp t)
end
theorem das_of : ∀ {vs : List V} {ds : List PyData}, All2 (Da G) vs ds → DaAll G vs ds
  | _, _, .nil => .nil
  | _, _, .cons r t => .cons r (das_of t)
theorem of_das : ∀ {vs : List V} {ds : List PyData}, DaAll G vs ds → All2 (Da G) vs ds
  | _, _, .nil => .nil
  | _, _, .cons r t => .cons r (of_das t)

def keyD : Key → PyData
  | .inl i => .int i
  | .inr x => .str x
/-- the dict's object: keys are ints and texts, each once -/
def DctV (G : Hp) (a : Addr) (o : HO) (kvs : List (PyData × PyData)) : Prop := ∃ ks : List (Key × V), o = .dK ks ∧ (ks.map (·.1)).Nodup ∧ All2 (fun (kv : Key × V) (p : PyData × PyData) => p.1 = keyD kv.1 ∧ Da G kv.2 p.2) ks kvs
theorem DctV.sub {a : Addr} {o : HO} {kvs : List (PyData × PyData)} (s : Sub G H) (h : DctV G a o kvs) : DctV H a o kvs := by
  obtain ⟨ks, e, n, r⟩ := h
  exact ⟨ks, e, n, r.mono fun _ _ z => ⟨z.1, Da.sub s z.2⟩⟩

/-- the value v is the datum d, for good -/
def Val (G : Hp) (v : V) : PyData → Prop
  | .dict kvs => False
  | d => Da G v d
theorem Val.sub (s : Sub G H) (h : Val G v d) : Val H v d := by
  cases d with
  | dict kvs => exact h.elim
  | _ => exact Da.sub s h
/-- the object at a, the def's own, holds d -/
def OwnAt (G H : Hp) (a : Addr) : PyData → Prop
  | .list ds => ∃ xs, H a = some (.lst xs) ∧ All2 (Da G) xs ds
  | .dict kvs => ∃ o, H a = some o ∧ DctV G a o kvs
  | _ => False
/-- v may be read as d now -/
def Bor (pa : Addr) (G H : Hp) (v : V) (d : PyData) : Prop :=
  Val G v d ∨ ∃ a, v = .ref a ∧ a ≠ pa ∧ OwnAt G H a d
def VB (pa : Addr) (b : Bool) (G H : Hp) (v : V) (d : PyData) : Prop := cond b (Bor pa G H v d) (Val G v d)
theorem VB.bor {pa : Addr} {b : Bool} (h : VB pa b G H v d) : Bor pa G H v d := by
  cases b with
  | true => exact h
  | false => exact .inl h

def PoolOk (K : PySem.W.Frag) (pa : Addr) (G H : Hp) : Prop :=
  ∃ (l : Addr) (ns : List Int) (i r c s : Int), H pa = some (.lst [.ref l, .int i, .int r, .int c, .int s]) ∧ SqL K G l (ns.map V.int) ∧ 0 ≤ i ∧ 0 ≤ s ∧ s < 1000003

/-- from (G, H) to (G', H'): what stood stands, but for the pool -/
structure Ext (K : PySem.W.Frag) (pa : Addr) (G H G' H' : Hp) : Prop where
  gg : Sub G G'
  gh : Sub G' H'
  hh : ∀ b o, b ≠ pa → H b = some o → H' b = some o
  nw : ∀ b, G b = none → G' b ≠ none → H b = none
  pool : PoolOk K pa G' H'
/-- what expressions ask of (G, H) -/
structure GH (K : PySem.W.Frag) (pa : Addr) (G H : Hp) : Prop where
  sub : Sub G H
  pool : PoolOk K pa G H
  ng : G pa = none
variable {pa : Addr} {G1 H1 G2 H2 : Hp}
theorem PoolOk.at (h : PoolOk K pa G H) : H pa ≠ none := by
  obtain ⟨_, _, _, _, _, _, e, _⟩ := h
  rw [e]; exact fun z => nomatch z
theorem Ext.refl (g : GH K pa G H) : Ext K pa G H G H := ⟨fun _ _ h => h, g.sub, fun _ _ _ h => h, fun _ h h' => absurd h h', g.pool⟩
theorem Ext.trans (a : Ext K pa G H G1 H1) (b : Ext K pa G1 H1 G2 H2) : Ext K pa G H G2 H2 where
  gg := fun c o h => b.gg c o (a.gg c o h)
  gh := b.gh
  hh := fun c o n h => b.hh c o n (a.hh c o n h)
  nw := fun c h h' => by
    by_cases z : G1 c = none
    · have q := b.nw c z h'
      cases e : H c with
      | none => rfl
      | some o =>
        by_cases n : c = pa
        · subst n
          exact absurd q (by have := a.pool.at; exact this)
        · rw [a.hh c o n e] at q; cases q
    · exact a.nw c h z
  pool := b.pool
theorem Ext.gh' (e : Ext K pa G H G' H') (g : GH K pa G H) : GH K pa G' H' where
  sub := e.gh
  pool := e.pool
  ng := by
    cases z : G' pa with
    | none => rfl
    | some o => exact absurd (e.nw pa g.ng (by rw [z]; exact fun q => nomatch q)) g.pool.at
theorem PoolOk.new {p : Addr} {o : HO} (h : PoolOk K pa G H) (hp : H p = none) (hg : Sub G G') : PoolOk K pa G' (upd H p o) := by
  obtain ⟨l, ns, i, r, c, s, e, q, x⟩ := h
  refine ⟨l, ns, i, r, c, s, ?_, SqL.sub hg q, x⟩
  rw [upd_ne (by intro z; subst z; rw [hp] at e; cases e)]
  exact e
theorem Sub.free (s : Sub G H) {p : Addr} (hp : H p = none) : G p = none := by
  cases z : G p with
  | none => rfl
  | some o => rw [s _ _ z] at hp; cases hp
theorem sub_upd {p : Addr} {o : HO} (hp : G p = none) : Sub G (upd G p o) := fun b u h => by
  rw [upd_ne (by intro z; subst z; rw [hp] at h; cases h)]; exact h
/-- a new object that stands still -/
theorem Ext.new {p : Addr} {o : HO} (g : GH K pa G H) (hp : H p = none) : Ext K pa G H (upd G p o) (upd H p o) where
  gg := sub_upd (g.sub.free hp)
  gh := fun b u h => by
    by_cases z : b = p
    · subst z; rw [upd_same] at h ⊢; exact h
    · rw [upd_ne z] at h ⊢; exact g.sub _ _ h
  hh := fun b u _ h => by
    rw [upd_ne (by intro z; subst z; rw [hp] at h; cases h)]; exact h
  nw := fun b h h' => by
    by_cases z : b = p
    · subst z; exact hp
    · rw [upd_ne z] at h'; exact absurd h h'
  pool := g.pool.new hp (sub_upd (g.sub.free hp))
/-- a new object that is not told of in G -/
theorem Ext.new0 {p : Addr} {o : HO} (g : GH K pa G H) (hp : H p = none) : Ext K pa G H G (upd H p o) where
  gg := fun _ _ h => h
  gh := fun b u h => by
    rw [upd_ne (by intro z; subst z; rw [g.sub _ _ h] at hp; cases hp)]; exact g.sub _ _ h
  hh := fun b u _ h => by
    rw [upd_ne (by intro z; subst z; rw [hp] at h; cases h)]; exact h
  nw := fun b h h' => absurd h h'
  pool := g.pool.new hp fun _ _ h => h
theorem OwnAt.ext {a : Addr} (e : Ext K pa G H G' H') (n : a ≠ pa) (h : OwnAt G H a d) : OwnAt G' H' a d := by
  cases d with
  | list ds =>
    obtain ⟨xs, q, r⟩ := h
    exact ⟨xs, e.hh _ _ n q, r.mono fun _ _ => Da.sub e.gg⟩
  | dict kvs =>
    obtain ⟨o, q, r⟩ := h
    exact ⟨o, e.hh _ _ n q, r.sub e.gg⟩
  | _ => exact h.elim
theorem Bor.ext (e : Ext K pa G H G' H') (h : Bor pa G H v d) : Bor pa G' H' v d := by
  rcases h with h | ⟨a, ea, n, h⟩
  · exact .inl (h.sub e.gg)
  · exact .inr ⟨a, ea, n, h.ext e n⟩
theorem VB.ext {b : Bool} (e : Ext K pa G H G' H') (h : VB pa b G H v d) : VB pa b G' H' v d := by
  cases b with
  | true => exact Bor.ext e h
  | false => exact Val.sub e.gg h

def SlotOk (pa : Addr) (G H : Hp) : SV → Option (Option V) → Prop
  | .no, _ => True
  | .v d, s => ∃ v, s = some (some v) ∧ Val G v d
  | .o d, s => ∃ a, s = some (some (.ref a)) ∧ a ≠ pa ∧ G a = none ∧ OwnAt G H a d
  | .pool, s => s = some (some (.ref pa))
structure RE (K : PySem.W.Frag) (pa : Addr) (G : Hp) (env : Ev.Env) (σ : L2.St) (H : Hp) : Prop where
  gh : GH K pa G H
  len : env.length = σ.length
  slot : ∀ i, SlotOk pa G H (getE i env) σ[i]?
theorem OwnAt.at {a : Addr} (h : OwnAt G H a d) : H a ≠ none := by
  cases d with
  | list ds => obtain ⟨xs, q, _⟩ := h; rw [q]; exact fun z => nomatch z
  | dict kvs => obtain ⟨o, q, _⟩ := h; rw [q]; exact fun z => nomatch z
  | _ => exact h.elim
theorem SlotOk.ext {x : SV} {s : Option (Option V)} (e : Ext K pa G H G' H') (h : SlotOk pa G H x s) : SlotOk pa G' H' x s := by
  cases x with
  | no => trivial
  | v d => obtain ⟨v, q, r⟩ := h; exact ⟨v, q, r.sub e.gg⟩
  | o d =>
    obtain ⟨a, q, n, g, r⟩ := h
    refine ⟨a, q, n, ?_, r.ext e n⟩
    cases z : G' a with
    | none => rfl
    | some u => exact absurd (e.nw a g (by rw [z]; exact fun q => nomatch q)) r.at
  | pool => exact h
theorem RE.ext {env : Ev.Env} {σ : L2.St} (r : RE K pa G env σ H) (e : Ext K pa G H G' H') : RE K pa G' env σ H' :=
  ⟨e.gh' r.gh, r.len, fun i => (r.slot i).ext e⟩
theorem getE_none : ∀ {env : Ev.Env} {i : Nat}, env.length ≤ i → getE i env = .no
  | [], i, _ => by cases i <;> rfl
  | _ :: _, 0, h => by simp at h
  | _ :: ys, i + 1, h => by
    show getE i ys = .no
    exact getE_none (by simpa using h)
theorem setE_length : ∀ {env : Ev.Env} {i : Nat} {x : SV}, (setE i x env).length = env.length
  | [], i, _ => by cases i <;> rfl
  | _ :: _, 0, _ => rfl
  | _ :: ys, i + 1, x => by
    show (setE i x ys).length + 1 = ys.length + 1
    rw [setE_length]
theorem getE_setE : ∀ {env : Ev.Env} {i j : Nat} {x : SV}, getE j (setE i x env) = if i = j then (if i < env.length then x else .no) else getE j env
  | [], i, j, x => by
    have e : setE i x [] = [] := by cases i <;> rfl
    rw [e, getE_none (env := []) (Nat.zero_le _)]
    split
    · simp
    · rfl
  | y :: ys, 0, 0, x => by simp
  | y :: ys, 0, j + 1, x => by simp
  | y :: ys, i + 1, 0, x => by simp
  | y :: ys, i + 1, j + 1, x => by
    show getE j (setE i x ys) = _
    rw [getE_setE]
    simp
theorem RE.set {env : Ev.Env} {σ : L2.St} {i : Nat} {x : SV} {v : V} (r : RE K pa G env σ H) (h : SlotOk pa G H x (some (some v))) : RE K pa G (setE i x env) (σ.set i (some v)) H := by
  refine ⟨r.gh, by rw [setE_length, List.length_set]; exact r.len, fun j => ?_⟩
  rw [getE_setE]
  by_cases e : i = j
  · subst e
    rw [if_pos rfl]
    by_cases l : i < env.length
    · rw [if_pos l, List.getElem?_set_self (by rw [← r.len]; exact l)]
      exact h
    · rw [if_neg l]; trivial
  · rw [if_neg e, List.getElem?_set_ne e]
    exact r.slot j
theorem RE.wipe {env : Ev.Env} {σ : L2.St} (r : RE K pa G env σ H) : ∀ {vs : List Nat}, (∀ i ∈ vs, True) → RE K pa G (vs.foldr (fun i e => setE i .no e) env) (L2.wipe σ vs) H
  | [], _ => r
  | i :: vs, _ => by
    have q := RE.wipe r (vs := vs) fun _ _ => trivial
    refine ⟨q.gh, ?_, fun j => ?_⟩
    · show (setE i .no _).length = ((L2.wipe σ vs).set i none).length
      rw [setE_length, List.length_set]; exact q.len
    · show SlotOk pa G H (getE j (setE i .no _)) ((L2.wipe σ vs).set i none)[j]?
      rw [getE_setE]
      by_cases e : i = j
      · rw [if_pos e]; split <;> trivial
      · rw [if_neg e, List.getElem?_set_ne e]; exact q.slot j
end Ev

/-! EvTup -/
set_option maxHeartbeats 4000000
namespace Ev
open PySem PySem.Spec PyProof.Rows L2
variable {X : Cx}
/-- a new plain tuple -/
def NewT (H : Hp) (xs : List V) (Q : VK) : Prop := ∀ p (o : Obj), H p = none → PlainO o → Q (.ref p) (upd H p (.frz o (.tup xs)))
theorem fin_tup {pins : List (Addr × Obj)} {σ : L2.St} {H : Hp} {s : Shared} {xs : List V} {its : Array Value} {n : Nat} {Q : VK} (I : Inv X pins σ H s) (hz : xs.length ≤ sizeLine) (r : Vals xs its.toList) (q : NewT H xs Q) :
    EP X pins σ Q (.ref s.heap.objs.size) { s with heap := s.heap.push { cls := .type "tuple", data := .seq its n } } := by
  refine ⟨.ref s.heap.objs.size, _, I.laid (t' := s.toks) (o := .frz { cls := .type "tuple", data := .seq its n } (.tup xs)) (fun b ob q => Heap.get?_push_of_some _ q) (Nat.le_refl _) ?_, rfl, q _ _ (I.hok.fresh (Nat.le_refl _)) ⟨rfl, rfl⟩⟩
  · exact ⟨Heap.get?_push_size _ rfl, hz, _, r, ⟨_, Heap.get?_push_size _ rfl, rfl, n, by rw [Array.toArray_toList]⟩⟩
def tTupF (t : TA) : TE := fun σ H Q => t σ H fun xs H1 => xs.length ≤ sizeLine ∧ NewT H1 xs Q
theorem pe_tupF {es : List Expr} {t : TA} {pos : Pos} {x1} (h : PA X es t) : PE X (.Tuple es x1 pos) (tTupF t) := by
  refine ⟨fun pins s σ H Q I hq => ?_⟩
  refine wpAny_Tuple_spliced (thn (h.run pos pins s σ H _ I hq) fun us s1 ⟨xs, H1, I1, r, z, q⟩ => ⟨by rw [← r.length]; exact z, ?_⟩)
  exact fin_tup I1 z (its := us.toArray) (by simpa using r) q
/-- t + u -/
def rCatF (K : PySem.W.Frag) : R2 := fun x y H Q => ∃ a b xs ys, x = .ref a ∧ y = .ref b ∧ SqT K H a xs ∧ SqT K H b ys ∧ xs.length + ys.length ≤ sizeLine ∧
  (xs = [] → Q (.ref b) H) ∧ (xs ≠ [] → ys = [] → Q (.ref a) H) ∧ (xs ≠ [] → ys ≠ [] → NewT H (xs ++ ys) Q)
theorem op_catF : OpR X (binaryOp .Add) (rCatF X.K) := by
  intro pins s σ H x y v u Q I rx ry h
  obtain ⟨a, b, xs, ys, rfl, rfl, ha, hb, hz, q0, q1, q2⟩ := h
  cases rx
  cases ry
  obtain ⟨its, r1, p1, _⟩ := I.tuple ha
  obtain ⟨its2, r2, p2, _⟩ := I.tuple hb
  by_cases hx : xs = []
  · subst hx
    cases r1
    exact cat_tup0 p1 p2 ⟨.ref b, H, I, rfl, q0 rfl⟩
  · refine HT.cat_tup p1 p2 (fun z => hx (r1.nil_iff.mp z)) (fun z => ⟨.ref a, H, I, rfl, q1 hx (r2.nil_iff.mp z)⟩) (fun z => ?_) (by rw [← r1.length, ← r2.length]; exact hz)
    exact fin_tup I (by rw [List.length_append]; exact hz) (by simpa using r1.append r2) (q2 hx fun w => z (r2.nil_iff.mpr w))
/-- t[lo:hi] -/
def rSlF (K : PySem.W.Frag) : V → Option Int → Option Int → Hp → VK → Prop := fun x lo hi H Q => ∃ a xs, x = .ref a ∧ SqT K H a xs ∧
  (HT.sIx xs.length 0 lo = 0 ∧ HT.sIx xs.length xs.length hi = xs.length → Q (.ref a) H) ∧ (¬ (HT.sIx xs.length 0 lo = 0 ∧ HT.sIx xs.length xs.length hi = xs.length) → NewT H (cutV xs lo hi) Q)
theorem sl_tupF : SlR X (rSlF X.K) := by
  intro pins s σ H x v vl vu lo hi sl Q I rx hs pl pu h
  obtain ⟨a, xs, rfl, hx, q1, q2⟩ := h
  by_cases hw : HT.sIx xs.length 0 lo = 0 ∧ HT.sIx xs.length xs.length hi = xs.length
  · exact sl_tupA pins s σ H _ v vl vu lo hi sl Q I rx hs pl pu ⟨a, xs, rfl, hx, q1, fun z => absurd hw z⟩
  · cases rx
    obtain ⟨its, r, ht, hz⟩ := I.tuple hx
    have hlen : its.toArray.size = xs.length := by rw [List.size_toArray]; exact r.length.symm
    refine ⟨"tuple", _, PyProof.Rows.slot_tuple_getitem.lookup, ht.typeIs, ?_⟩
    refine HT.getItem_tuple_cut ht hs pl pu (by rw [hlen]; exact hw) ?_ (by rw [hlen]; exact hz)
    rw [hlen]
    refine fin_tup I (Nat.le_trans (cutV_length xs lo hi) hz) ?_ (q2 hw)
    unfold cutV
    simpa using (r.drop (HT.sIx xs.length 0 lo)).take (HT.sIx xs.length xs.length hi - HT.sIx xs.length 0 lo)
/-- tuple(x) -/
theorem call_tupleF : CallR X (.type "tuple") (fun xs H Q => ∃ p ys, xs = [.ref p] ∧ ((SqL X.K H p ys ∧ NewT H ys Q) ∨ (SqT X.K H p ys ∧ Q (.ref p) H))) := by
  intro pins s σ H xs us Q I r h
  obtain ⟨p, ys, rfl, h⟩ := h
  obtain ⟨u, rfl, rx⟩ := vals1 r
  cases rx
  rcases h with ⟨hq, q⟩ | ⟨hq, q⟩
  · obtain ⟨its, r', pl, hz⟩ := I.list hq
    have hlen := r'.length
    refine call_tuple_list pl.isList (fun h' kp => ?_) (by simp only [List.size_toArray] <;> omega)
    have I1 : Inv X pins σ H { s with heap := h' } := I.kept (t' := s.toks) kp
    exact fin_tup I1 hz (by simpa using r') q
  · obtain ⟨its, r', pl, hz⟩ := I.tuple hq
    exact call_tuple_same pl ⟨.ref p, H, I, rfl, q⟩
def rRepF (K : PySem.W.Frag) : R2 := fun x y H Q => ∃ l k xs, x = .ref l ∧ y = .int k ∧ SqT K H l xs ∧ xs ≠ [] ∧ 2 ≤ k ∧ k ≤ 1000 ∧ xs.length ≤ 1000 ∧ NewT H (List.replicate k.toNat xs).flatten Q
theorem op_repF : OpR X (binaryOp .Mult) (rRepF X.K) := by
  intro pins s σ H x y v u Q I rx ry h
  obtain ⟨l, k, xs, rfl, rfl, hT, hne, h1, h2, hz, q⟩ := h
  cases rx
  obtain ⟨t, rfl⟩ := ry
  obtain ⟨its, r, ⟨⟨cls, dd, data, sl⟩, ho, hc, n, hd⟩, hs⟩ := I.tuple hT
  simp only at hc hd
  subst hc hd
  have hle : its.length = xs.length := r.length.symm
  have hn : its ≠ [] := fun e => hne (by
    rw [e] at hle
    exact List.eq_nil_of_length_eq_zero hle.symm)
  have hi : its.toArray.isEmpty = false := by
    cases its with
    | nil => exact absurd rfl hn
    | cons a b => rfl
  have hsz0 : its.toArray.size = xs.length := by rw [List.size_toArray, hle]
  have hm : ((its.toArray.size : Nat) : Int) * k ≤ 1000000 := by
    rw [hsz0]
    have a1 : ((xs.length : Nat) : Int) * k ≤ 1000 * k := Int.mul_le_mul_of_nonneg_right (by omega) (by omega)
    omega
  have flen : (List.replicate k.toNat its).flatten.length ≤ sizeLine := by
    rw [PyProof.Rows.lm_len_rep_flat, hle, sizeLine_eq]
    have a1 : k.toNat * xs.length ≤ 1000 * 1000 := Nat.mul_le_mul (by omega) hz
    omega
  have c0 : (decide (k < -(2 ^ 63)) || decide (k ≥ 2 ^ 63)) = false := by
    rw [decide_eq_false (by omega), decide_eq_false (by omega)] <;> rfl
  have c1 : (its.toArray.isEmpty || k == 1) = false := by
    rw [hi, Bool.false_or]
    exact beq_eq_false_iff_ne.mpr (by omega)
  have c2 : (decide (k ≤ 0) || its.toArray.isEmpty) = false := by
    rw [hi, Bool.or_false]
    exact decide_eq_false (by omega)
  have c4 : Builtin.Tuple.tupleTooMany (((its.toArray.size : Nat) : Int) * k) = false := by
    unfold Builtin.Tuple.tupleTooMany
    rw [sizeLine_eq]
    exact decide_eq_false (by omega)
  refine wpAny_binaryOp_repeat_ref (T := "tuple") (U := "int") (by decide) ⟨_, ho, rfl⟩ (fun s' => typeIs_int s' k t) noFill_tuple_mul F.fills_int_mul F.slot_int_rmul repeat_tuple F.slot_int_index.lookup
    (call_meets F.slot_int_rmul (typeIs_int s k t) F.entry_int_rmul (F.args_int_rmul_2 _ _) (int_rmul_tuple k t l its.toArray n dd sl)
      ⟨ho, rfl, ⟨_, ho, rfl⟩, call_meets F.slot_tuple_mul ⟨_, ho, rfl⟩ F.entry_tuple_mul (F.args_tuple_mul_2 _ _) (tuple_mulW l its.toArray n dd sl k t c0 c1 c2 (by omega) c4 (by rw [size_rep, List.size_toArray]; exact flen)) ⟨ho, ?_⟩⟩)
  rw [size_rep]
  refine fin_tup I ?_ (by simpa using r.rep k.toNat) q
  rw [PyProof.Rows.lm_len_rep_flat, sizeLine_eq]
  have a1 : k.toNat * xs.length ≤ 1000 * 1000 := Nat.mul_le_mul (by omega) hz
  omega
end Ev

/-! EvRep -/
set_option maxHeartbeats 4000000
namespace Ev
open PySem PySem.Spec PyProof.Rows L2
variable {X : Cx}
theorem tuple_mulW1 (l : Addr) (items : Array Value) (n : Nat) (dd : Option Addr) (sl : Array (Option Value)) (x : Int) (u : Tok) (c0 : (decide (x < -(2 ^ 63)) || decide (x ≥ 2 ^ 63)) = false) (c1 : (items.isEmpty || x == 1) = true) :
    Meets (Builtin.«tuple.__mul__» ⟨[.ref l, .int x u], []⟩) (fun _ R s => s.heap.get? l = some { cls := .type "tuple", dict := dd, data := .seq items n, slots := sl } ∧ R (.ok (.ret (Value.ref l))) { s with heap := s.heap, toks := s.toks }) :=
  .of_wp fun prog w A R s h => by
    obtain ⟨hp, g, d, tk, os⟩ := s
    obtain ⟨hl, h⟩ := h
    have f1 := AutoSeq1.idx_int
    wp_walk using wpAny_loadPart' hl
    repeat (first
      | (refine wpAny_ite_false (decide_eq_false (by rw [c0]; exact Bool.false_ne_true)) ?_; wp_walk using wpAny_loadPart' hl)
      | (refine wpAny_ite_true (decide_eq_true c1) ?_; wp_walk using wpAny_loadPart' hl))
    exact ⟨_, rfl, h⟩
theorem tuple_mulW0 (l : Addr) (items : Array Value) (n : Nat) (dd : Option Addr) (sl : Array (Option Value)) (x : Int) (u : Tok) (c0 : (decide (x < -(2 ^ 63)) || decide (x ≥ 2 ^ 63)) = false) (c1 : (items.isEmpty || x == 1) = false) (c2 : (decide (x ≤ 0) || items.isEmpty) = true) :
    Meets (Builtin.«tuple.__mul__» ⟨[.ref l, .int x u], []⟩) (fun _ R s => s.heap.get? l = some { cls := .type "tuple", dict := dd, data := .seq items n, slots := sl } ∧ R (.ok (.ret (Value.ref s.heap.objs.size))) { s with heap := s.heap.push { cls := Value.type "tuple", data := Data.seq #[] }, toks := s.toks }) :=
  .of_wp fun prog w A R s h => by
    obtain ⟨hp, g, d, tk, os⟩ := s
    obtain ⟨hl, h⟩ := h
    have f1 := AutoSeq1.idx_int
    wp_walk using wpAny_loadPart' hl
    repeat (first
      | (refine wpAny_ite_false (decide_eq_false (by rw [c0]; exact Bool.false_ne_true)) ?_; wp_walk using wpAny_loadPart' hl)
      | (refine wpAny_ite_false (decide_eq_false (by rw [c1]; exact Bool.false_ne_true)) ?_; wp_walk using wpAny_loadPart' hl)
      | (refine wpAny_ite_true (decide_eq_true c2) ?_; wp_walk using wpAny_loadPart' hl))
    exact ⟨_, rfl, h⟩
/-- t * k: the same tuple, a new one, or an empty one -/
def rRepA (K : PySem.W.Frag) : R2 := fun x y H Q => ∃ l k xs, x = .ref l ∧ y = .int k ∧ SqT K H l xs ∧ -1000000 ≤ k ∧ k ≤ 1000 ∧ xs.length ≤ 1000 ∧
  ((xs = [] ∨ k = 1) → Q (.ref l) H) ∧ (xs ≠ [] → k ≤ 0 → NewT H [] Q) ∧ (xs ≠ [] → 2 ≤ k → NewT H (List.replicate k.toNat xs).flatten Q)
theorem op_repA : OpR X (binaryOp .Mult) (rRepA X.K) := by
  intro pins s σ H x y v u Q I rx ry h
  obtain ⟨l, k, xs, rfl, rfl, hT, h0, h2, hz, q1, q0, q2⟩ := h
  by_cases hk : xs ≠ [] ∧ 2 ≤ k
  · exact op_repF pins s σ H _ _ v u Q I rx ry ⟨l, k, xs, rfl, rfl, hT, hk.1, hk.2, h2, hz, q2 hk.1 hk.2⟩
  cases rx
  obtain ⟨t, rfl⟩ := ry
  obtain ⟨its, r, ⟨⟨cls, dd, data, sl⟩, ho, hc, n, hd⟩, hs⟩ := I.tuple hT
  simp only at hc hd
  subst hc hd
  have c0 : (decide (k < -(2 ^ 63)) || decide (k ≥ 2 ^ 63)) = false := by
    rw [decide_eq_false (by omega), decide_eq_false (by omega)] <;> rfl
  by_cases h1 : xs = [] ∨ k = 1
  · have c1 : (its.toArray.isEmpty || k == 1) = true := by
      rcases h1 with e | e
      · have : its = [] := r.nil_iff.mpr e
        subst this; rfl
      · subst e; simp
    refine wpAny_binaryOp_repeat_ref (T := "tuple") (U := "int") (by decide) ⟨_, ho, rfl⟩ (fun s' => typeIs_int s' k t) noFill_tuple_mul F.fills_int_mul F.slot_int_rmul repeat_tuple F.slot_int_index.lookup
      (call_meets F.slot_int_rmul (typeIs_int s k t) F.entry_int_rmul (F.args_int_rmul_2 _ _) (int_rmul_tuple k t l its.toArray n dd sl)
        ⟨ho, rfl, ⟨_, ho, rfl⟩, call_meets F.slot_tuple_mul ⟨_, ho, rfl⟩ F.entry_tuple_mul (F.args_tuple_mul_2 _ _) (tuple_mulW1 l its.toArray n dd sl k t c0 c1) ⟨ho, ?_⟩⟩)
    exact ⟨.ref l, H, I, rfl, q1 h1⟩
  · have hx : xs ≠ [] := fun e => h1 (.inl e)
    have hk1 : k ≠ 1 := fun e => h1 (.inr e)
    have hk0 : k ≤ 0 := by
      have : ¬ 2 ≤ k := fun z => hk ⟨hx, z⟩
      omega
    have hi : its.toArray.isEmpty = false := by
      cases its with
      | nil => exact absurd (r.nil_iff.mp rfl) hx
      | cons a b => rfl
    have c1 : (its.toArray.isEmpty || k == 1) = false := by
      rw [hi, Bool.false_or]
      exact beq_eq_false_iff_ne.mpr hk1
    have c2 : (decide (k ≤ 0) || its.toArray.isEmpty) = true := by rw [decide_eq_true hk0]; rfl
    refine wpAny_binaryOp_repeat_ref (T := "tuple") (U := "int") (by decide) ⟨_, ho, rfl⟩ (fun s' => typeIs_int s' k t) noFill_tuple_mul F.fills_int_mul F.slot_int_rmul repeat_tuple F.slot_int_index.lookup
      (call_meets F.slot_int_rmul (typeIs_int s k t) F.entry_int_rmul (F.args_int_rmul_2 _ _) (int_rmul_tuple k t l its.toArray n dd sl)
        ⟨ho, rfl, ⟨_, ho, rfl⟩, call_meets F.slot_tuple_mul ⟨_, ho, rfl⟩ F.entry_tuple_mul (F.args_tuple_mul_2 _ _) (tuple_mulW0 l its.toArray n dd sl k t c0 c1 c2) ⟨ho, ?_⟩⟩)
    exact fin_tup I (Nat.zero_le _) (by exact .nil) (q0 hx hk0)
end Ev

/-! EvTupI -/
set_option maxHeartbeats 4000000
namespace Ev
open PySem PySem.Spec PyProof.Rows L2 HT
section
variable {prog : Program} {w : World} {A : Around} {E : Value → Shared → Prop} {s : Shared}
theorem noI_tuple_add : typeLookup (.type "tuple") (dunderI "add") = pure none := by rw [typeLookup_type, builtinLookup_eq_fast]; kernel_rfl
theorem iconcat_meets {T id : String} {B : Builtin} {a b : Value} {S : PySem.Spec} {Q : Value → Shared → Prop} (ha : s.TypeIs a T) (hb : s.TypeIs b T) (hno : typeLookup (.type T) (dunderI "add") = pure none)
    (hfill : fillsNumberSlot (.type T) "add" = pure false) (hseq : seqSlot? (.type T) "__add__" = pure (some (.builtin id))) (slot : Slot T "__add__" id)
    (entry : entryFor table id = some B) (args : argsOk id ⟨[a, b], []⟩) (g : Meets (B ⟨[a, b], []⟩) S) (h : S A (wants Q E) s) : wpAny (model prog w) A (inplaceOp .Add a b) Q E s :=
  PySem.wpAny_inplaceOp_concat ha hb hno hfill hseq (call_meets slot ha entry args g h)
theorem icat_tup0 {t b : Addr} {ws : List Value} {Q : Value → Shared → Prop} (ht : IsTup s.heap t ([] : List Value).toArray) (hb : IsTup s.heap b ws.toArray) (h : Q (.ref b) s) : wpAny (model prog w) A (inplaceOp .Add (.ref t) (.ref b)) Q E s := by
  obtain ⟨⟨cls, dd, data, sl⟩, ho, hc, n, hd⟩ := id ht
  obtain ⟨⟨cls2, dd2, data2, sl2⟩, ho2, hc2, n2, hd2⟩ := id hb
  simp only at hc hd hc2 hd2
  subst hc hd hc2 hd2
  exact iconcat_meets ⟨_, ho, rfl⟩ ⟨_, ho2, rfl⟩ noI_tuple_add noFill_tuple_add seq_tuple_add PySem.F.slot_tuple_add PySem.F.entry_tuple_add (PySem.F.args_tuple_add_2 _ _)
    (tuple_addW0 t b ([] : List Value).toArray ws.toArray n n2 dd dd2 sl sl2 (by simp)) ⟨ho, ho2, h⟩
theorem icat_tup {t b : Addr} {vs ws : List Value} {Q : Value → Shared → Prop} (ht : IsTup s.heap t vs.toArray) (hb : IsTup s.heap b ws.toArray) (hv : vs ≠ [])
    (h1 : ws = [] → Q (.ref t) s) (h2 : ws ≠ [] → Q (.ref s.heap.objs.size) { s with heap := s.heap.push { cls := .type "tuple", data := .seq (vs ++ ws).toArray } })
    (hsz : vs.length + ws.length ≤ sizeLine) : wpAny (model prog w) A (inplaceOp .Add (.ref t) (.ref b)) Q E s := by
  obtain ⟨⟨cls, dd, data, sl⟩, ho, hc, n, hd⟩ := id ht
  obtain ⟨⟨cls2, dd2, data2, sl2⟩, ho2, hc2, n2, hd2⟩ := id hb
  simp only at hc hd hc2 hd2
  subst hc hd hc2 hd2
  have e : vs.toArray ++ ws.toArray = (vs ++ ws).toArray := by simp
  by_cases hw : ws = []
  · exact iconcat_meets ⟨_, ho, rfl⟩ ⟨_, ho2, rfl⟩ noI_tuple_add noFill_tuple_add seq_tuple_add PySem.F.slot_tuple_add PySem.F.entry_tuple_add (PySem.F.args_tuple_add_2 _ _)
      (tuple_addW1 t b vs.toArray ws.toArray n n2 dd dd2 sl sl2 (by simpa using hv) (by simp [hw])) ⟨ho, ho2, h1 hw⟩
  · refine iconcat_meets ⟨_, ho, rfl⟩ ⟨_, ho2, rfl⟩ noI_tuple_add noFill_tuple_add seq_tuple_add PySem.F.slot_tuple_add PySem.F.entry_tuple_add (PySem.F.args_tuple_add_2 _ _)
      (tuple_addW2 t b vs.toArray ws.toArray n n2 dd dd2 sl sl2 (by simpa using hv) (by simpa using hw) (by rw [List.size_toArray, List.size_toArray]; exact hsz)) ⟨ho, ho2, ?_⟩
    rw [e]
    exact h2 hw
end
variable {X : Cx}
theorem iop_catF : OpR X (inplaceOp .Add) (rCatF X.K) := by
  intro pins s σ H x y v u Q I rx ry h
  obtain ⟨a, b, xs, ys, rfl, rfl, ha, hb, hz, q0, q1, q2⟩ := h
  cases rx
  cases ry
  obtain ⟨its, r1, p1, _⟩ := I.tuple ha
  obtain ⟨its2, r2, p2, _⟩ := I.tuple hb
  by_cases hx : xs = []
  · subst hx
    cases r1
    exact icat_tup0 p1 p2 ⟨.ref b, H, I, rfl, q0 rfl⟩
  · refine icat_tup p1 p2 (fun z => hx (r1.nil_iff.mp z)) (fun z => ⟨.ref a, H, I, rfl, q1 hx (r2.nil_iff.mp z)⟩) (fun z => ?_) (by rw [← r1.length, ← r2.length]; exact hz)
    exact fin_tup I (by rw [List.length_append]; exact hz) (by simpa using r1.append r2) (q2 hx fun w => z (r2.nil_iff.mpr w))
end Ev

/-! EvOps -/
set_option maxHeartbeats 4000000
namespace Ev
open PySem PySem.Spec PyProof.Rows L2

theorem iltB_iff {a b : Int} : iltB a b = decide (a < b) := by
  rw [Bool.eq_iff_iff, decide_eq_true_eq]
  cases a with
  | ofNat a => cases b with
    | ofNat b => simp [iltB, Nat.blt_eq]
    | negSucc b => simp [iltB]; omega
  | negSucc a => cases b with
    | ofNat b => simp [iltB]; omega
    | negSucc b => simp [iltB, Nat.blt_eq]; omega
theorem ileB_iff {a b : Int} : ileB a b = decide (a ≤ b) := by
  unfold ileB
  rw [iltB_iff, Bool.eq_iff_iff]
  simp
theorem ieqB_iff {a b : Int} : ieqB a b = decide (a = b) := by
  rw [Bool.eq_iff_iff, decide_eq_true_eq]
  cases a with
  | ofNat a => cases b with
    | ofNat b => simp [ieqB]; omega
    | negSucc b => simp [ieqB]
  | negSucc a => cases b with
    | ofNat b => simp [ieqB]
    | negSucc b => simp [ieqB]
theorem lenOk_iff {α : Type} {xs : List α} : lenOk xs = true ↔ xs.length ≤ sizeLine := by
  unfold lenOk lim
  rw [Nat.ble_eq, sizeLine_eq]
theorem fitsB_iff {i : Int} : fitsB i = true ↔ -(2 ^ 64) < i ∧ i < 2 ^ 64 := by
  unfold fitsB
  rw [Bool.and_eq_true, iltB_iff, iltB_iff, decide_eq_true_eq, decide_eq_true_eq]
  omega
theorem natsEq_iff : ∀ {a b : List Nat}, natsEq a b = true ↔ a = b
  | [], [] => by simp [natsEq]
  | a :: as, b :: bs => by
    unfold natsEq
    rw [Bool.and_eq_true, Nat.beq_eq, natsEq_iff, List.cons.injEq]
  | [], _ :: _ => by simp [natsEq]
  | _ :: _, [] => by simp [natsEq]
theorem strEq_iff {x y : Str} : strEq x y = (x == y) := by
  rw [Bool.eq_iff_iff, beq_iff_eq]
  unfold strEq
  rw [natsEq_iff]
  constructor
  · exact PySem.W.str_of_cps
  · intro h; rw [h]
mutual
theorem eqv_iff : ∀ (x y : PyData), eqv x y = PyData.eqv x y
  | .none, y => by cases y <;> simp [eqv, PyData.eqv]
  | .bool a, y => by
    cases y with
    | bool b => cases a <;> cases b <;> simp [eqv, PyData.eqv]
    | int j => simp only [eqv, PyData.eqv, ieqB_iff]; cases a <;> simp [Bool.beq_eq_decide_eq]
    | _ => simp [eqv, PyData.eqv]
  | .int i, y => by
    cases y with
    | bool b => simp only [eqv, PyData.eqv, ieqB_iff]; cases b <;> simp [Bool.beq_eq_decide_eq]
    | int j => simp only [eqv, PyData.eqv, ieqB_iff, Bool.beq_eq_decide_eq]
    | _ => simp [eqv, PyData.eqv]
  | .str x, y => by
    cases y with
    | str z => simp only [eqv, PyData.eqv, strEq_iff]
    | _ => simp [eqv, PyData.eqv]
  | .list xs, y => by
    cases y with
    | list ys => simp only [eqv, PyData.eqv, eqvAll_iff xs ys]
    | _ => simp [eqv, PyData.eqv]
  | .tuple xs, y => by
    cases y with
    | tuple ys => simp only [eqv, PyData.eqv, eqvAll_iff xs ys]
    | _ => simp [eqv, PyData.eqv]
  | .dict _, y => by cases y <;> simp [eqv, PyData.eqv]
theorem eqvAll_iff : ∀ (xs ys : List PyData), eqvAll xs ys = PyData.eqvAll xs ys
  | [], ys => by cases ys <;> simp [eqvAll, PyData.eqvAll]
  | x :: xs, ys => by
    cases ys with
    | nil => simp [eqvAll, PyData.eqvAll]
    | cons y ys =>
      simp only [eqvAll, PyData.eqvAll, eqv_iff x y, eqvAll_iff xs ys]
      cases PyData.eqv x y <;> rfl
end
mutual
theorem flat_plain : ∀ (n : Nat) (d : PyData), flat n d = true → d.plain = true ∧ d.depth ≤ n
  | n, .none, _ => ⟨rfl, by simp [PyData.depth]⟩
  | n, .bool _, _ => ⟨rfl, by simp [PyData.depth]⟩
  | n, .int _, _ => ⟨rfl, by simp [PyData.depth]⟩
  | n, .str _, _ => ⟨rfl, by simp [PyData.depth]⟩
  | 0, .list _, h => by simp [flat] at h
  | 0, .tuple _, h => by simp [flat] at h
  | n + 1, .list xs, h => by
    have := flatAll_plain n xs (by simpa [flat] using h)
    exact ⟨by simpa [PyData.plain] using this.1, by simp only [PyData.depth]; omega⟩
  | n + 1, .tuple xs, h => by
    have := flatAll_plain n xs (by simpa [flat] using h)
    exact ⟨by simpa [PyData.plain] using this.1, by simp only [PyData.depth]; omega⟩
  | n, .dict _, h => by cases n <;> simp [flat] at h
theorem flatAll_plain : ∀ (n : Nat) (ds : List PyData), flatAll n ds = true → PyData.plainAll ds = true ∧ PyData.depthAll ds ≤ n
  | n, [], _ => ⟨rfl, by simp [PyData.depthAll]⟩
  | n, x :: xs, h => by
    simp only [flatAll] at h
    cases hx : flat n x with
    | false => rw [hx] at h; exact nomatch h
    | true =>
      rw [hx] at h
      have h1 := flat_plain n x hx
      have h2 := flatAll_plain n xs h
      exact ⟨by simp [PyData.plainAll, h1.1, h2.1], by simp only [PyData.depthAll]; omega⟩
end
theorem flatAll_each : ∀ {n : Nat} {ds : List PyData}, flatAll n ds = true → ∀ d ∈ ds, flat n d = true
  | n, [], _, d, hd => by simp at hd
  | n, x :: xs, h, d, hd => by
    simp only [flatAll] at h
    cases hx : flat n x with
    | false => rw [hx] at h; exact nomatch h
    | true =>
      rw [hx] at h
      rcases List.mem_cons.mp hd with rfl | hd
      · exact hx
      · exact flatAll_each h d hd

variable {K : PySem.W.Frag} {pa : Addr} {G G' H H' : Hp} {x y v : V} {d : PyData}
theorem bor_none (h : Bor pa G H x .none) : x = .non := by
  rcases h with h | ⟨_, _, _, h⟩
  · cases h; rfl
  · exact h.elim
theorem bor_bool {b : Bool} (h : Bor pa G H x (.bool b)) : x = .bl b := by
  rcases h with h | ⟨_, _, _, h⟩
  · cases h; rfl
  · exact h.elim
theorem bor_int {i : Int} (h : Bor pa G H x (.int i)) : x = .int i := by
  rcases h with h | ⟨_, _, _, h⟩
  · cases h; rfl
  · exact h.elim
theorem bor_str {s : Str} (h : Bor pa G H x (.str s)) : x = .str s := by
  rcases h with h | ⟨_, _, _, h⟩
  · cases h; rfl
  · exact h.elim
theorem bor_tup {ds : List PyData} (h : Bor pa G H x (.tuple ds)) : ∃ a xs, x = .ref a ∧ TupAt G a xs ∧ All2 (Da G) xs ds := by
  rcases h with h | ⟨_, _, _, h⟩
  · cases h with
    | tup q r => exact ⟨_, _, rfl, q, of_das r⟩
  · exact h.elim
theorem bor_lst {ds : List PyData} (s : Sub G H) (h : Bor pa G H x (.list ds)) : ∃ a xs, x = .ref a ∧ H a = some (.lst xs) ∧ All2 (Da G) xs ds := by
  rcases h with h | ⟨a, e, _, h⟩
  · cases h with
    | lst q r => exact ⟨_, _, rfl, s _ _ q, of_das r⟩
  · obtain ⟨xs, q, r⟩ := h
    exact ⟨a, xs, e, q, r⟩
theorem bor_dct {kvs : List (PyData × PyData)} (s : Sub G H) (h : Bor pa G H x (.dict kvs)) : ∃ a o, x = .ref a ∧ H a = some o ∧ DctV G a o kvs := by
  rcases h with h | ⟨a, e, _, h⟩
  · exact h.elim
  · obtain ⟨o, q, r⟩ := h
    exact ⟨a, o, e, q, r⟩
/-- data without dicts that is read now -/
theorem bor_dp (s : Sub G H) (h : Bor pa G H x d) (hd : ∀ kvs, d ≠ .dict kvs) : L2.Dp K H x d := by
  rcases h with h | ⟨a, e, _, h⟩
  · cases d with
    | dict kvs => exact absurd rfl (hd kvs)
    | _ => exact Da.dp (Da.sub s h)
  · cases d with
    | list ds =>
      obtain ⟨xs, q, r⟩ := h
      subst e
      exact .lst (SqL.of q) (DaAll.dp (das_of (r.mono fun _ _ => Da.sub s)))
    | dict kvs => exact absurd rfl (hd kvs)
    | _ => exact h.elim

/-- what a step must give: a value for r, what stood standing -/
def Res (K : PySem.W.Frag) (pa : Addr) (G H : Hp) (r : PyData) (Q : VK) : Prop := ∀ v H' G', Ext K pa G H G' H' → Val G' v r → Q v H'
variable {Q : VK}
theorem Res.at {r : PyData} (h : Res K pa G H r Q) (g : GH K pa G H) (hv : Val G v r) : Q v H := h v H G (Ext.refl g) hv
theorem Res.int {i : Int} (h : Res K pa G H (.int i) Q) (g : GH K pa G H) : Q (.int i) H := h.at g (Da.int i)
theorem Res.bool {i : Bool} (h : Res K pa G H (.bool i) Q) (g : GH K pa G H) : Q (.bl i) H := h.at g (Da.bl i)
theorem Res.str {i : Str} (h : Res K pa G H (.str i) Q) (g : GH K pa G H) : Q (.str i) H := h.at g (Da.str i)
theorem Res.lst {ds : List PyData} {xs : List V} (h : Res K pa G H (.list ds) Q) (g : GH K pa G H) (r : All2 (Da G) xs ds) : ∀ p, H p = none → Q (.ref p) (upd H p (.lst xs)) := fun p hp =>
  h (.ref p) _ _ (Ext.new g hp) (Da.lst upd_same (das_of (r.mono fun _ _ => Da.sub (sub_upd (g.sub.free hp)))))
theorem Res.tup {ds : List PyData} {xs : List V} (h : Res K pa G H (.tuple ds) Q) (g : GH K pa G H) (r : All2 (Da G) xs ds) : NewT H xs Q := fun p o hp ho =>
  h (.ref p) _ _ (Ext.new g hp) (Da.tup ⟨o, upd_same, ho⟩ (das_of (r.mono fun _ _ => Da.sub (sub_upd (g.sub.free hp)))))

/-- two operands in, r out -/
def R2D (K : PySem.W.Frag) (f : PyData → PyData → Option PyData) : R2 := fun x y H Q =>
  ∃ pa G da db r, GH K pa G H ∧ Bor pa G H x da ∧ Bor pa G H y db ∧ f da db = some r ∧ Res K pa G H r Q
def opK : Op → Operator
  | .add => .Add | .sub => .Sub | .mul => .Mult | .fdiv => .FloorDiv | .mod => .Mod
theorem OpR.imp {X : Cx} {f : Value → Value → Sem Value} {r r' : R2} (h : OpR X f r) (i : ∀ x y H Q, r' x y H Q → r x y H Q) : OpR X f r' :=
  fun pins s σ H x y v u Q I rx ry q => h pins s σ H x y v u Q I rx ry (i _ _ _ _ q)
theorem str_app (a b : Str) : (⟨(a.cps.toList ++ b.cps.toList).toArray⟩ : Str) = a ++ b := by
  apply PySem.W.str_of_cps
  show a.cps.toList ++ b.cps.toList = (a ++ b).cps.toList
  have : (a ++ b).cps = a.cps ++ b.cps := rfl
  rw [this, Array.toList_append]
theorem str_len (a : Str) : a.length = a.cps.toList.length := by simp [Str.length]
theorem repN_eq (xs : List PyData) : ∀ n, repN xs n = (List.replicate n xs).flatten
  | 0 => rfl
  | n + 1 => by
    show xs ++ repN xs n = _
    rw [repN_eq xs n, List.replicate_succ, List.flatten_cons]
theorem All2.rep {α β : Type} {R : α → β → Prop} {as : List α} {bs : List β} (h : All2 R as bs) : ∀ n, All2 R (List.replicate n as).flatten (List.replicate n bs).flatten
  | 0 => .nil
  | n + 1 => by rw [List.replicate_succ, List.replicate_succ, List.flatten_cons, List.flatten_cons]; exact h.append (All2.rep h n)
theorem op_snd {X : Cx} (o : Op) : OpR X (binaryOp (opK o)) (R2D X.K (opD o)) := by
  cases o with
  | add =>
    refine OpR.imp (OpR.or op_add (OpR.or op_add_str (OpR.or op_catF op_cat))) ?_
    rintro x y H Q ⟨pa, G, da, db, r, g, ha, hb, e, q⟩
    cases da with
    | int i => cases db with
      | int j =>
        cases e
        exact .inl ⟨i, j, bor_int ha, bor_int hb, q.int g⟩
      | _ => exact nomatch e
    | str i => cases db with
      | str j =>
        simp only [opD] at e
        cases hl : lenOk (i.cps.toList ++ j.cps.toList) with
        | false => rw [hl] at e; exact nomatch e
        | true =>
          rw [hl] at e
          cases e
          have z := lenOk_iff.mp hl
          rw [List.length_append] at z
          refine .inr (.inl ⟨i, j, bor_str ha, bor_str hb, by rw [str_len, str_len]; exact z, ?_⟩)
          have := q.str g
          rw [str_app] at this
          exact this
      | _ => exact nomatch e
    | tuple i => cases db with
      | tuple j =>
        simp only [opD] at e
        cases hl : lenOk (i ++ j) with
        | false => rw [hl] at e; exact nomatch e
        | true =>
          rw [hl] at e
          cases e
          have z := lenOk_iff.mp hl
          obtain ⟨a, xs, rfl, h1, r1⟩ := bor_tup ha
          obtain ⟨b, ys, rfl, h2, r2⟩ := bor_tup hb
          rw [List.length_append, ← r1.length, ← r2.length] at z
          refine .inr (.inr (.inl ⟨a, b, xs, ys, rfl, rfl, (h1.sub g.sub).sq, (h2.sub g.sub).sq, z, fun e0 => ?_, fun _ e0 => ?_, fun _ _ => q.tup g (r1.append r2)⟩))
          · subst e0
            cases r1
            exact q.at g (Da.tup h2 (das_of r2))
          · subst e0
            cases r2
            rw [List.append_nil] at q
            exact q.at g (Da.tup h1 (das_of r1))
      | _ => exact nomatch e
    | list i => cases db with
      | list j =>
        simp only [opD] at e
        cases hl : lenOk (i ++ j) with
        | false => rw [hl] at e; exact nomatch e
        | true =>
          rw [hl] at e
          cases e
          have z := lenOk_iff.mp hl
          obtain ⟨a, xs, rfl, h1, r1⟩ := bor_lst g.sub ha
          obtain ⟨b, ys, rfl, h2, r2⟩ := bor_lst g.sub hb
          rw [List.length_append, ← r1.length, ← r2.length] at z
          exact .inr (.inr (.inr ⟨a, b, xs, ys, rfl, rfl, h1, h2, z, q.lst g (r1.append r2)⟩))
      | _ => exact nomatch e
    | _ => cases db <;> exact nomatch e
  | sub =>
    refine OpR.imp op_sub ?_
    rintro x y H Q ⟨pa, G, da, db, r, g, ha, hb, e, q⟩
    cases da with
    | int i => cases db with
      | int j =>
        cases e
        exact ⟨i, j, bor_int ha, bor_int hb, q.int g⟩
      | _ => exact nomatch e
    | _ => cases db <;> exact nomatch e
  | mul =>
    refine OpR.imp (OpR.or op_mul (OpR.or op_rep op_repA)) ?_
    rintro x y H Q ⟨pa, G, da, db, r, g, ha, hb, e, q⟩
    cases da with
    | int i => cases db with
      | int j =>
        simp only [opD] at e
        cases hl : (fitsB i || fitsB j) with
        | false => rw [hl] at e; exact nomatch e
        | true =>
          rw [hl] at e
          cases e
          refine .inl ⟨i, j, bor_int ha, bor_int hb, ?_, q.int g⟩
          rw [Bool.or_eq_true, fitsB_iff, fitsB_iff] at hl
          exact hl
      | _ => exact nomatch e
    | list i => cases db with
      | int j =>
        simp only [opD] at e
        cases hl : (iltB j 1000000 && Nat.ble (i.length * j.toNat) lim && iltB (-1000000) j) with
        | false => rw [hl] at e; exact nomatch e
        | true =>
          rw [hl] at e
          cases e
          rw [Bool.and_eq_true, Bool.and_eq_true, iltB_iff, iltB_iff, decide_eq_true_eq, decide_eq_true_eq, Nat.ble_eq] at hl
          obtain ⟨⟨l1, l2⟩, l3⟩ := hl
          obtain ⟨a, xs, rfl, h1, r1⟩ := bor_lst g.sub ha
          have l2' : xs.length * j.toNat ≤ sizeLine := by rw [sizeLine_eq, r1.length]; exact l2
          rw [repN_eq] at q
          exact .inr (.inl ⟨a, j, xs, rfl, bor_int hb, h1, by omega, by omega, l2', q.lst g (r1.rep _)⟩)
      | _ => exact nomatch e
    | tuple i => cases db with
      | int j =>
        simp only [opD] at e
        cases hl : (ileB (-1000000) j && ileB j 1000 && Nat.ble i.length 1000) with
        | false => rw [hl] at e; exact nomatch e
        | true =>
          rw [hl] at e
          cases e
          rw [Bool.and_eq_true, Bool.and_eq_true, ileB_iff, ileB_iff, decide_eq_true_eq, decide_eq_true_eq, Nat.ble_eq] at hl
          obtain ⟨⟨l1, l2⟩, l3⟩ := hl
          obtain ⟨a, xs, rfl, h1, r1⟩ := bor_tup ha
          have l3' : xs.length ≤ 1000 := by rw [r1.length]; exact l3
          rw [repN_eq] at q
          refine .inr (.inr ⟨a, j, xs, rfl, bor_int hb, (h1.sub g.sub).sq, l1, l2, l3', fun e0 => ?_, fun hx hk => ?_, fun hx hk => q.tup g (r1.rep _)⟩)
          · have z : (List.replicate j.toNat i).flatten = i := by
              rcases e0 with e0 | e0
              · subst e0
                cases r1
                exact List.flatten_eq_nil_iff.mpr fun l hl => (List.mem_replicate.mp hl).2
              · subst e0
                show i ++ [] = i
                exact List.append_nil i
            rw [z] at q
            exact q.at g (Da.tup h1 (das_of r1))
          · have z : j.toNat = 0 := by omega
            rw [z] at q
            exact q.tup g .nil
      | _ => exact nomatch e
    | _ => cases db <;> exact nomatch e
  | fdiv =>
    refine OpR.imp op_fdivN ?_
    rintro x y H Q ⟨pa, G, da, db, r, g, ha, hb, e, q⟩
    cases da with
    | int i => cases db with
      | int j =>
        simp only [opD] at e
        cases hl : (!ieqB j 0 && iltB (-1073741824) j && iltB j 1073741824) with
        | false => rw [hl] at e; exact nomatch e
        | true =>
          rw [hl] at e
          cases e
          rw [Bool.and_eq_true, Bool.and_eq_true, iltB_iff, iltB_iff, ieqB_iff, decide_eq_true_eq, decide_eq_true_eq, Bool.not_eq_true', decide_eq_false_iff_not] at hl
          obtain ⟨⟨l1, l2⟩, l3⟩ := hl
          exact ⟨i, j, bor_int ha, bor_int hb, ⟨l1, by omega⟩, q.int g⟩
      | _ => exact nomatch e
    | _ => cases db <;> exact nomatch e
  | mod =>
    refine OpR.imp op_modN ?_
    rintro x y H Q ⟨pa, G, da, db, r, g, ha, hb, e, q⟩
    cases da with
    | int i => cases db with
      | int j =>
        simp only [opD] at e
        cases hl : ieqB j 0 with
        | true => rw [hl] at e; exact nomatch e
        | false =>
          rw [hl] at e
          cases e
          rw [ieqB_iff, decide_eq_false_iff_not] at hl
          exact ⟨i, j, bor_int ha, bor_int hb, hl, q.int g⟩
      | _ => exact nomatch e
    | _ => cases db <;> exact nomatch e
end Ev

/-! EvDict -/
set_option maxHeartbeats 4000000
namespace Ev
open PySem PySem.Spec PyProof.Rows L2

theorem keyD_eqv (a b : Key) : eqv (keyD a) (keyD b) = decide (a = b) := by
  rw [Bool.eq_iff_iff, decide_eq_true_eq]
  cases a with
  | inl i => cases b with
    | inl j => simp [keyD, eqv, ieqB_iff]
    | inr y => simp [keyD, eqv]
  | inr x => cases b with
    | inl j => simp [keyD, eqv]
    | inr y => simp [keyD, eqv, strEq_iff]
theorem leaf_key {k : PyData} (h : leafK k = true) : ∃ c : Key, k = keyD c := by
  cases k with
  | int i => exact ⟨.inl i, rfl⟩
  | str x => exact ⟨.inr x, rfl⟩
  | _ => exact nomatch h
variable {pa : Addr} {G G' H H' : Hp} {x y v : V} {d : PyData} {K : PySem.W.Frag}
theorem bor_keyD {c : Key} (h : Bor pa G H y (keyD c)) : y = kV c := by
  cases c with
  | inl i => exact bor_int h
  | inr s => exact bor_str h
abbrev KR (G : Hp) : List (Key × V) → List (PyData × PyData) → Prop := All2 (fun (kv : Key × V) (p : PyData × PyData) => p.1 = keyD kv.1 ∧ Da G kv.2 p.2)
theorem look_val (c : Key) : ∀ {ks : List (Key × V)} {kvs : List (PyData × PyData)}, KR G ks kvs → (lookD (keyD c) kvs = none ∧ valV ks c = none) ∨ ∃ d v, lookD (keyD c) kvs = some d ∧ valV ks c = some v ∧ Da G v d
  | _, _, .nil => .inl ⟨rfl, rfl⟩
  | _, _, .cons (a := kv) (b := p) (as := ks) (bs := kvs) r t => by
    have e : lookD (keyD c) (p :: kvs) = cond (eqv p.1 (keyD c)) (some p.2) (lookD (keyD c) kvs) := rfl
    rw [e, r.1, keyD_eqv]
    by_cases h : kv.1 = c
    · rw [decide_eq_true h]
      exact .inr ⟨_, _, rfl, valV_pos h, r.2⟩
    · rw [decide_eq_false h, valV_neg h]
      exact look_val c t
theorem look_some (c : Key) {ks : List (Key × V)} {kvs : List (PyData × PyData)} (r : KR G ks kvs) : (lookD (keyD c) kvs).isSome = (valV ks c).isSome := by
  rcases look_val c r with ⟨e1, e2⟩ | ⟨d, v, e1, e2, _⟩
  · rw [e1, e2]; rfl
  · rw [e1, e2]; rfl
theorem putK_hd {p : Key × V} {ks : List (Key × V)} {c : Key} {v : V} (h : p.1 = c) (hn : c ∉ ks.map (·.1)) : putK (p :: ks) c v = (p.1, v) :: ks := by
  have m : ks.map (fun kv => if kv.1 = c then (kv.1, v) else kv) = ks := by
    refine (List.map_congr_left fun kv hkv => ?_).trans (List.map_id ks)
    rw [if_neg fun z => hn (List.mem_map.mpr ⟨kv, hkv, z⟩)]; rfl
  unfold putK
  rw [if_pos (by simp [h]), List.map_cons, if_pos h, m]
theorem putK_tl {p : Key × V} {ks : List (Key × V)} {c : Key} {v : V} (h : ¬ p.1 = c) : putK (p :: ks) c v = p :: putK ks c v := by
  unfold putK
  rw [List.any_cons, decide_eq_false h, Bool.false_or]
  split
  · rw [List.map_cons, if_neg h]
  · rfl
theorem put_key {c : Key} {e : PyData} (he : Da G v e) : ∀ {ks : List (Key × V)} {kvs : List (PyData × PyData)}, KR G ks kvs → (ks.map (·.1)).Nodup → KR G (putK ks c v) (putD (keyD c) e kvs)
  | _, _, .nil, _ => .cons ⟨rfl, he⟩ .nil
  | _, _, .cons (a := kv) (b := p) (as := ks) (bs := kvs) r t, n => by
    have n := List.nodup_cons.mp n
    have q : putD (keyD c) e (p :: kvs) = cond (eqv p.1 (keyD c)) ((p.1, e) :: kvs) (p :: putD (keyD c) e kvs) := rfl
    rw [q, r.1, keyD_eqv]
    by_cases h : kv.1 = c
    · rw [decide_eq_true h, putK_hd h (by rw [← h]; exact n.1)]
      exact .cons ⟨rfl, he⟩ t
    · rw [decide_eq_false h, putK_tl h]
      exact .cons r (put_key he t n.2)
theorem put_mem {c k : Key} : ∀ {ks : List (Key × V)}, k ∈ (putK ks c v).map (·.1) → k = c ∨ k ∈ ks.map (·.1)
  | [], h => by
    rw [show putK ([] : List (Key × V)) c v = [(c, v)] from rfl] at h
    exact .inl (List.mem_singleton.mp h)
  | p :: ks, h => by
    by_cases e : p.1 = c
    · unfold putK at h
      rw [if_pos (by simp [e])] at h
      refine .inr ?_
      rw [List.map_map] at h
      obtain ⟨q, q1, q2⟩ := List.mem_map.mp h
      refine List.mem_map.mpr ⟨q, q1, ?_⟩
      rw [← q2]
      show q.1 = (if q.1 = c then (q.1, v) else q).1
      split <;> rfl
    · rw [putK_tl e] at h
      rcases List.mem_cons.mp h with z | z
      · exact .inr (List.mem_cons.mpr (.inl z))
      · exact (put_mem z).imp id fun z => List.mem_cons_of_mem _ z
theorem put_nodup {c : Key} : ∀ {ks : List (Key × V)}, (ks.map (·.1)).Nodup → ((putK ks c v).map (·.1)).Nodup
  | [], _ => by rw [show putK ([] : List (Key × V)) c v = [(c, v)] from rfl]; exact List.nodup_cons.mpr ⟨List.not_mem_nil, List.nodup_nil⟩
  | p :: ks, n => by
    have n' := List.nodup_cons.mp n
    by_cases h : p.1 = c
    · rw [putK_hd h (by rw [← h]; exact n'.1)]
      exact n
    · rw [putK_tl h]
      refine List.nodup_cons.mpr ⟨fun z => ?_, put_nodup n'.2⟩
      rcases put_mem z with z | z
      · exact h z
      · exact n'.1 z

section
variable {X : Cx} {A : Around} {E : Value → Shared → Prop} {pins : List (Addr × Obj)} {σ : L2.St} {s : Shared} {a : Addr} {o : HO} {kvs : List (PyData × PyData)} {k : PyData} {u r : Value} {v : V}
theorem dct_get (ha : H a = some o) (hd : DctV G a o kvs) (hk : keyIn k kvs = true) (hy : Bor pa G H y k) : ∃ w, DGet H a y w ∧ ((lookD k kvs = none ∧ w = none) ∨ ∃ d v, lookD k kvs = some d ∧ w = some v ∧ Da G v d) := by
  obtain ⟨c, rfl⟩ := leaf_key hk
  obtain ⟨ks, rfl, _, q⟩ := hd
  have e := bor_keyD hy
  subst e
  exact ⟨_, DGet.k ha, look_val c q⟩
theorem dct_in {Q : Value → Shared → Prop} (hu : A.units + 1 < cLine) (I : Inv X pins σ H s) (sub : Sub G H) (ha : H a = some o) (hd : DctV G a o kvs) (hk : keyIn k kvs = true) (hy : Bor pa G H y k) (ry : RelV y u)
    (h : ∀ s', Inv X pins σ H s' → Q (.bool (lookD k kvs).isSome) s') : wpAny (model X.prog X.w) A (compareOp .In u (.ref a)) Q E s := by
  obtain ⟨w, g, q⟩ := dct_get ha hd hk hy
  refine d_in hu I g ry fun s' I' => ?_
  have e : w.isSome = (lookD k kvs).isSome := by rcases q with ⟨e1, e2⟩ | ⟨d, v, e1, e2, _⟩ <;> rw [e1, e2] <;> rfl
  rw [e]
  exact h s' I'
theorem dct_notIn {Q : Value → Shared → Prop} (hu : A.units + 1 < cLine) (I : Inv X pins σ H s) (sub : Sub G H) (ha : H a = some o) (hd : DctV G a o kvs) (hk : keyIn k kvs = true) (hy : Bor pa G H y k) (ry : RelV y u)
    (h : ∀ s', Inv X pins σ H s' → Q (.bool (!(lookD k kvs).isSome)) s') : wpAny (model X.prog X.w) A (compareOp .NotIn u (.ref a)) Q E s := by
  obtain ⟨w, g, q⟩ := dct_get ha hd hk hy
  refine d_notIn hu I g ry fun s' I' => ?_
  have e : w.isSome = (lookD k kvs).isSome := by rcases q with ⟨e1, e2⟩ | ⟨d, v, e1, e2, _⟩ <;> rw [e1, e2] <;> rfl
  rw [e]
  exact h s' I'
theorem dct_item {d : PyData} {Q : Value → Shared → Prop} (hu : A.units + 1 < cLine) (I : Inv X pins σ H s) (sub : Sub G H) (ha : H a = some o) (hd : DctV G a o kvs) (hk : keyIn k kvs = true) (hy : Bor pa G H y k) (ry : RelV y u) (hl : lookD k kvs = some d)
    (h : ∀ v w' s', Da G v d → Inv X pins σ H s' → RelV v w' → Q w' s') : wpAny (model X.prog X.w) A (getItem (.ref a) u) Q E s := by
  obtain ⟨w, g, q⟩ := dct_get ha hd hk hy
  rcases q with ⟨e1, e2⟩ | ⟨d', v, e1, e2, q⟩
  · rw [e1] at hl; exact nomatch hl
  · rw [e1] at hl
    cases hl
    subst e2
    exact d_getItem hu I g ry fun w' s' I' rw' => h v w' s' q I' rw'
theorem dct_put {e : PyData} {Q : Unit → Shared → Prop} (hu : A.units + 1 < cLine) (I : Inv X pins σ H s) (ha : H a = some o) (hd : DctV G a o kvs) (hk : keyIn k kvs = true) (hy : Bor pa G H y k) (ry : RelV y u) (he : Da G v e) (rv : RelV v r)
    (hl : kvs.length < sizeLine) (h : ∀ o' s', DctV G a o' (putD k e kvs) → Inv X pins σ (upd H a o') s' → Q () s') : wpAny (model X.prog X.w) A (setItem (.ref a) u r) Q E s := by
  obtain ⟨c, rfl⟩ := leaf_key hk
  obtain ⟨ks, rfl, n, q⟩ := hd
  have e := bor_keyD hy
  subst e
  exact d_setItem hu I (DPut.k ha (by rw [q.length]; exact hl)) ry rv fun s' I' => h _ s' ⟨_, rfl, put_nodup n, put_key he q n⟩ I'
theorem dct_typ (I : Inv X pins σ H s) (ha : H a = some o) (hd : DctV G a o kvs) : s.TypeIs (.ref a) "dict" := by
  obtain ⟨ks, rfl, _, _⟩ := hd
  exact dict_typeIs I (DGet.k (k := .inl 0) ha)
theorem dct_len {Q : Value → Shared → Prop} (I : Inv X pins σ H s) (ha : H a = some o) (hd : DctV G a o kvs) (h : ∀ t s', Inv X pins σ H s' → Q (.int kvs.length t) s') : wpAny (model X.prog X.w) A (call (.builtin "len") [.ref a]) Q E s := by
  obtain ⟨ks, rfl, _, q⟩ := hd
  exact d_len I (.inl ha) fun t s' I' => by rw [q.length]; exact h t s' I'
end
end Ev

/-! EvCmp -/
set_option maxHeartbeats 4000000
namespace Ev
open PySem PySem.Spec PyProof.Rows L2

def cmK : Cm → CmpOp
  | .lt => .Lt | .le => .LtE | .gt => .Gt | .ge => .GtE | .eq => .Eq | .ne => .NotEq | .is => .Is | .isn => .IsNot | .mem => .In | .nmem => .NotIn
section
variable {X : Cx}
theorem flat_nd {n : Nat} {d : PyData} (h : flat n d = true) : ∀ kvs, d ≠ .dict kvs := fun kvs e => by subst e; cases n <;> simp [flat] at h
theorem op_eqP (hu : X.A.units + 64 < cLine) : OpR X (compareOp .Eq) (fun x y H Q => ∃ d e, L2.Dp X.K H x d ∧ L2.Dp X.K H y e ∧ flat dep d = true ∧ flat dep e = true ∧ Q (.bl (eqv d e)) H) := by
  intro pins s σ H x y v u Q I rx ry h
  obtain ⟨d, e, hd, he, sd, se, q⟩ := h
  obtain ⟨as, r1⟩ := L2.Dp.reads I d x v hd rx
  obtain ⟨bs, r2⟩ := L2.Dp.reads I e y u he ry
  have f1 := flat_plain dep d sd
  have f2 := flat_plain dep e se
  have hd : dep = 30 := rfl
  refine PySem.SeqAt.eq_plain r1 r2 f1.1 f2.1 (by omega) ⟨.bl _, H, I, rfl, ?_⟩
  rw [← eqv_iff]
  exact q
theorem op_neP (hu : X.A.units + 64 < cLine) : OpR X (compareOp .NotEq) (fun x y H Q => ∃ d e, L2.Dp X.K H x d ∧ L2.Dp X.K H y e ∧ flat dep d = true ∧ flat dep e = true ∧ Q (.bl (!eqv d e)) H) := by
  intro pins s σ H x y v u Q I rx ry h
  obtain ⟨d, e, hd, he, sd, se, q⟩ := h
  obtain ⟨as, r1⟩ := L2.Dp.reads I d x v hd rx
  obtain ⟨bs, r2⟩ := L2.Dp.reads I e y u he ry
  have f1 := flat_plain dep d sd
  have f2 := flat_plain dep e se
  have hd : dep = 30 := rfl
  refine PySem.SeqAt.ne_plain r1 r2 f1.1 f2.1 (by omega) ⟨.bl _, H, I, rfl, ?_⟩
  rw [← eqv_iff]
  exact q
theorem memD_any (x : PyData) : ∀ ys, memD x ys = ys.any fun y => PyData.eqv y x
  | [] => rfl
  | y :: ys => by
    show cond (eqv y x) true (memD x ys) = _
    rw [List.any_cons, memD_any x ys, eqv_iff]
    cases PyData.eqv y x <;> rfl
theorem op_inL (hu : X.A.units + 64 < cLine) : OpR X (compareOp .In) (fun x y H Q => ∃ d ys, L2.Dp X.K H x d ∧ L2.Dp X.K H y (.list ys) ∧ flat dep d = true ∧ flatAll dep ys = true ∧ Q (.bl (memD d ys)) H) := by
  intro pins s σ H x y v u Q I rx ry h
  obtain ⟨d, e, hd, he, sd, se, q⟩ := h
  obtain ⟨as, r1⟩ := L2.Dp.reads I d x v hd rx
  obtain ⟨bs, r2⟩ := L2.Dp.reads I _ y u he ry
  have f1 := flat_plain dep d sd
  have f2 := flatAll_plain dep e se
  have hd : dep = 30 := rfl
  refine PySem.SeqAt.in_list_data r2 r1 f2.1 f1.1 (by omega) ⟨.bl _, H, I, rfl, ?_⟩
  rw [← memD_any]
  exact q
theorem op_inT (hu : X.A.units + 64 < cLine) : OpR X (compareOp .In) (fun x y H Q => ∃ d ys, L2.Dp X.K H x d ∧ L2.Dp X.K H y (.tuple ys) ∧ flat dep d = true ∧ flatAll dep ys = true ∧ Q (.bl (memD d ys)) H) := by
  intro pins s σ H x y v u Q I rx ry h
  obtain ⟨d, e, hd, he, sd, se, q⟩ := h
  obtain ⟨as, r1⟩ := L2.Dp.reads I d x v hd rx
  obtain ⟨bs, r2⟩ := L2.Dp.reads I _ y u he ry
  have f1 := flat_plain dep d sd
  have f2 := flatAll_plain dep e se
  have hd : dep = 30 := rfl
  refine PySem.SeqAt.in_tuple_data r2 r1 f2.1 f1.1 (by omega) ⟨.bl _, H, I, rfl, ?_⟩
  rw [← memD_any]
  exact q
theorem op_ninL (hu : X.A.units + 64 < cLine) : OpR X (compareOp .NotIn) (fun x y H Q => ∃ d ys, L2.Dp X.K H x d ∧ L2.Dp X.K H y (.list ys) ∧ flat dep d = true ∧ flatAll dep ys = true ∧ Q (.bl (!memD d ys)) H) := by
  intro pins s σ H x y v u Q I rx ry h
  obtain ⟨d, e, hd, he, sd, se, q⟩ := h
  obtain ⟨as, r1⟩ := L2.Dp.reads I d x v hd rx
  obtain ⟨bs, r2⟩ := L2.Dp.reads I _ y u he ry
  have f1 := flat_plain dep d sd
  have f2 := flatAll_plain dep e se
  have hd : dep = 30 := rfl
  refine PySem.SeqAt.notIn_list_data r2 r1 f2.1 f1.1 (by omega) ⟨.bl _, H, I, rfl, ?_⟩
  rw [← memD_any]
  exact q
theorem op_ninT (hu : X.A.units + 64 < cLine) : OpR X (compareOp .NotIn) (fun x y H Q => ∃ d ys, L2.Dp X.K H x d ∧ L2.Dp X.K H y (.tuple ys) ∧ flat dep d = true ∧ flatAll dep ys = true ∧ Q (.bl (!memD d ys)) H) := by
  intro pins s σ H x y v u Q I rx ry h
  obtain ⟨d, e, hd, he, sd, se, q⟩ := h
  obtain ⟨as, r1⟩ := L2.Dp.reads I d x v hd rx
  obtain ⟨bs, r2⟩ := L2.Dp.reads I _ y u he ry
  have f1 := flat_plain dep d sd
  have f2 := flatAll_plain dep e se
  have hd : dep = 30 := rfl
  refine PySem.SeqAt.notIn_tuple_data r2 r1 f2.1 f1.1 (by omega) ⟨.bl _, H, I, rfl, ?_⟩
  rw [← memD_any]
  exact q
/-- what a dict is asked: rD of it -/
def AskD (X : Cx) (neg : Bool) : R2 := fun x y H Q => ∃ pa G a o kvs k, Sub G H ∧ y = .ref a ∧ H a = some o ∧ DctV G a o kvs ∧ keyIn k kvs = true ∧ Bor pa G H x k ∧ Q (.bl (cond neg (!(lookD k kvs).isSome) (lookD k kvs).isSome)) H
theorem op_inD (hu : X.A.units + 64 < cLine) : OpR X (compareOp .In) (AskD X false) := by
  intro pins s σ H x y v u Q I rx ry h
  obtain ⟨pa, G, a, o, kvs, k, sub, rfl, ha, hd, hk, hb, q⟩ := h
  cases ry
  exact dct_in (by omega) I sub ha hd hk hb rx fun s' I' => ⟨.bl _, H, I', rfl, q⟩
theorem op_ninD (hu : X.A.units + 64 < cLine) : OpR X (compareOp .NotIn) (AskD X true) := by
  intro pins s σ H x y v u Q I rx ry h
  obtain ⟨pa, G, a, o, kvs, k, sub, rfl, ha, hd, hk, hb, q⟩ := h
  cases ry
  exact dct_notIn (by omega) I sub ha hd hk hb rx fun s' I' => ⟨.bl _, H, I', rfl, q⟩
theorem hasC_iff (c : Nat) : ∀ xs, hasC c xs = decide (c ∈ xs)
  | [] => by simp [hasC]
  | x :: xs => by
    show cond (Nat.beq x c) true (hasC c xs) = _
    rw [hasC_iff c xs]
    cases h : Nat.beq x c with
    | true => have := Nat.eq_of_beq_eq_true h; subst this; simp
    | false =>
      have : ¬ c = x := fun e => by subst e; rw [Nat.beq_refl] at h; cases h
      simp [this]
theorem str1 {x : Str} {c : Nat} (h : x.cps.toList = [c]) : x = ⟨#[c]⟩ := PySem.W.str_of_cps h
end
theorem cond_some {α : Type} {c : Bool} {a b : α} (h : cond c (some a) none = some b) : c = true ∧ a = b := by
  cases c with
  | true => exact ⟨rfl, Option.some.inj h⟩
  | false => exact nomatch h
theorem cond_opt {α : Type} {c : Bool} {a : Option α} {b : α} (h : cond c a none = some b) : c = true ∧ a = some b := by
  cases c with
  | true => exact ⟨rfl, h⟩
  | false => exact nomatch h
theorem and2 {a b : Bool} (h : (a && b) = true) : a = true ∧ b = true := by rwa [Bool.and_eq_true] at h
theorem cmD_eq (a b : PyData) : cmD .eq a b = cond (flat dep a && flat dep b) (some (eqv a b)) none := by delta cmD; rfl
theorem cmD_ne (a b : PyData) : cmD .ne a b = cond (flat dep a && flat dep b) (some (!eqv a b)) none := by delta cmD; rfl
theorem cmD_mem_list (a : PyData) (ys : List PyData) : cmD .mem a (.list ys) = cond (flat dep a && flatAll dep ys) (some (memD a ys)) none := by delta cmD; cases a <;> rfl
theorem cmD_mem_tuple (a : PyData) (ys : List PyData) : cmD .mem a (.tuple ys) = cond (flat dep a && flatAll dep ys) (some (memD a ys)) none := by delta cmD; cases a <;> rfl
theorem cmD_nmem_list (a : PyData) (ys : List PyData) : cmD .nmem a (.list ys) = cond (flat dep a && flatAll dep ys) (some (!memD a ys)) none := by delta cmD; cases a <;> rfl
theorem cmD_nmem_tuple (a : PyData) (ys : List PyData) : cmD .nmem a (.tuple ys) = cond (flat dep a && flatAll dep ys) (some (!memD a ys)) none := by delta cmD; cases a <;> rfl
theorem cmD_mem_dict (a : PyData) (kvs : List (PyData × PyData)) : cmD .mem a (.dict kvs) = cond (keyIn a kvs) (some (lookD a kvs).isSome) none := by delta cmD; cases a <;> rfl
theorem cmD_nmem_dict (a : PyData) (kvs : List (PyData × PyData)) : cmD .nmem a (.dict kvs) = cond (keyIn a kvs) (some (!(lookD a kvs).isSome)) none := by delta cmD; cases a <;> rfl
abbrev RC (X : Cx) (c : Cm) : R2 := R2D X.K fun a b => (cmD c a b).map .bool
variable {X : Cx} {x y : V} {H : Hp} {Q : VK}
theorem RC.out {c : Cm} (h : RC X c x y H Q) : ∃ pa G da db r, GH X.K pa G H ∧ Bor pa G H x da ∧ Bor pa G H y db ∧ cmD c da db = some r ∧ Q (.bl r) H := by
  obtain ⟨pa, G, da, db, r, g, ha, hb, e, q⟩ := h
  have e : (cmD c da db).map PyData.bool = some r := e
  cases hc : cmD c da db with
  | none => rw [hc] at e; exact nomatch e
  | some t =>
    rw [hc] at e
    cases e
    exact ⟨pa, G, da, db, t, g, ha, hb, hc, q.bool g⟩
theorem cm_lt : OpR X (compareOp .Lt) (RC X .lt) := OpR.imp op_lt fun x y H Q h => by
  obtain ⟨pa, G, da, db, r, g, ha, hb, e, q⟩ := h.out
  cases da with
  | int i => cases db with
    | int j => cases e; exact ⟨i, j, bor_int ha, bor_int hb, by dsimp only; rw [← iltB_iff]; exact q⟩
    | _ => exact nomatch e
  | _ => cases db <;> exact nomatch e
theorem cm_le : OpR X (compareOp .LtE) (RC X .le) := OpR.imp op_le fun x y H Q h => by
  obtain ⟨pa, G, da, db, r, g, ha, hb, e, q⟩ := h.out
  cases da with
  | int i => cases db with
    | int j => cases e; exact ⟨i, j, bor_int ha, bor_int hb, by dsimp only; rw [← ileB_iff]; exact q⟩
    | _ => exact nomatch e
  | _ => cases db <;> exact nomatch e
theorem cm_gt : OpR X (compareOp .Gt) (RC X .gt) := OpR.imp op_gt fun x y H Q h => by
  obtain ⟨pa, G, da, db, r, g, ha, hb, e, q⟩ := h.out
  cases da with
  | int i => cases db with
    | int j => cases e; exact ⟨i, j, bor_int ha, bor_int hb, by dsimp only; rw [← iltB_iff]; exact q⟩
    | _ => exact nomatch e
  | _ => cases db <;> exact nomatch e
theorem cm_ge : OpR X (compareOp .GtE) (RC X .ge) := OpR.imp op_ge fun x y H Q h => by
  obtain ⟨pa, G, da, db, r, g, ha, hb, e, q⟩ := h.out
  cases da with
  | int i => cases db with
    | int j => cases e; exact ⟨i, j, bor_int ha, bor_int hb, by dsimp only; rw [← ileB_iff]; exact q⟩
    | _ => exact nomatch e
  | _ => cases db <;> exact nomatch e
theorem cm_eq (hu : X.A.units + 64 < cLine) : OpR X (compareOp .Eq) (RC X .eq) := OpR.imp (op_eqP hu) fun x y H Q h => by
  obtain ⟨pa, G, da, db, r, g, ha, hb, e, q⟩ := h.out
  obtain ⟨e1, rfl⟩ := cond_some ((cmD_eq da db).symm.trans e)
  obtain ⟨f1, f2⟩ := and2 e1
  exact ⟨da, db, bor_dp g.sub ha (flat_nd f1), bor_dp g.sub hb (flat_nd f2), f1, f2, q⟩
theorem cm_ne (hu : X.A.units + 64 < cLine) : OpR X (compareOp .NotEq) (RC X .ne) := OpR.imp (op_neP hu) fun x y H Q h => by
  obtain ⟨pa, G, da, db, r, g, ha, hb, e, q⟩ := h.out
  obtain ⟨e1, rfl⟩ := cond_some ((cmD_ne da db).symm.trans e)
  obtain ⟨f1, f2⟩ := and2 e1
  exact ⟨da, db, bor_dp g.sub ha (flat_nd f1), bor_dp g.sub hb (flat_nd f2), f1, f2, q⟩
theorem bor_isNone {pa : Addr} {G : Hp} {d : PyData} (h : Bor pa G H x d) : decide (x = .non) = isNoneD d := by
  cases d with
  | none => rw [bor_none h]; rfl
  | bool b => rw [bor_bool h]; rfl
  | int b => rw [bor_int h]; rfl
  | str b => rw [bor_str h]; rfl
  | tuple b => obtain ⟨a, _, rfl, _⟩ := bor_tup h; rfl
  | list b =>
    rcases h with h | ⟨a, rfl, _⟩
    · cases h; rfl
    · rfl
  | dict b =>
    rcases h with ⟨a, _, rfl, _⟩ | ⟨a, rfl, _⟩ <;> rfl
theorem cm_is : OpR X (compareOp .Is) (RC X .is) := OpR.imp op_isN fun x y H Q h => by
  obtain ⟨pa, G, da, db, r, g, ha, hb, e, q⟩ := h.out
  cases db with
  | none =>
    refine ⟨bor_none hb, ?_⟩
    rw [bor_isNone ha]
    have : isNoneD da = r := by cases da <;> exact Option.some.inj e
    rw [this]
    exact q
  | _ => cases da <;> exact nomatch e
theorem cm_isn : OpR X (compareOp .IsNot) (RC X .isn) := OpR.imp op_notN fun x y H Q h => by
  obtain ⟨pa, G, da, db, r, g, ha, hb, e, q⟩ := h.out
  cases db with
  | none =>
    refine ⟨bor_none hb, ?_⟩
    rw [bor_isNone ha]
    have : (!isNoneD da) = r := by cases da <;> exact Option.some.inj e
    rw [this]
    exact q
  | _ => cases da <;> exact nomatch e
theorem cm_mem (hu : X.A.units + 64 < cLine) : OpR X (compareOp .In) (RC X .mem) := OpR.imp (OpR.or (op_inL hu) (OpR.or (op_inT hu) (OpR.or op_in_sign (op_inD hu)))) fun x y H Q h => by
  obtain ⟨pa, G, da, db, r, g, ha, hb, e, q⟩ := h.out
  cases db with
  | list ys =>
    obtain ⟨e1, rfl⟩ := cond_some ((cmD_mem_list da ys).symm.trans e)
    obtain ⟨f1, f2⟩ := and2 e1
    exact .inl ⟨da, ys, bor_dp g.sub ha (flat_nd f1), bor_dp g.sub hb (fun _ z => nomatch z), f1, f2, q⟩
  | tuple ys =>
    obtain ⟨e1, rfl⟩ := cond_some ((cmD_mem_tuple da ys).symm.trans e)
    obtain ⟨f1, f2⟩ := and2 e1
    exact .inr (.inl ⟨da, ys, bor_dp g.sub ha (flat_nd f1), bor_dp g.sub hb (fun _ z => nomatch z), f1, f2, q⟩)
  | str z => cases da with
    | str t =>
      have e' : (match t.cps.toList with | [c] => some (hasC c z.cps.toList) | _ => none) = some r := e
      split at e'
      · rename_i c hc
        cases e'
        refine .inr (.inr (.inl ⟨c, z, ?_, bor_str hb, ?_⟩))
        · rw [bor_str ha, str1 hc]
        · rw [← hasC_iff]; exact q
      · exact nomatch e'
    | _ => exact nomatch e
  | dict kvs =>
    obtain ⟨e1, rfl⟩ := cond_some ((cmD_mem_dict da kvs).symm.trans e)
    obtain ⟨a, o, rfl, h1, h2⟩ := bor_dct g.sub hb
    exact .inr (.inr (.inr ⟨pa, G, a, o, kvs, da, g.sub, rfl, h1, h2, e1, ha, q⟩))
  | _ => cases da <;> exact nomatch e
theorem cm_nmem (hu : X.A.units + 64 < cLine) : OpR X (compareOp .NotIn) (RC X .nmem) := OpR.imp (OpR.or (op_ninL hu) (OpR.or (op_ninT hu) (OpR.or op_notIn_sign (op_ninD hu)))) fun x y H Q h => by
  obtain ⟨pa, G, da, db, r, g, ha, hb, e, q⟩ := h.out
  cases db with
  | list ys =>
    obtain ⟨e1, rfl⟩ := cond_some ((cmD_nmem_list da ys).symm.trans e)
    obtain ⟨f1, f2⟩ := and2 e1
    exact .inl ⟨da, ys, bor_dp g.sub ha (flat_nd f1), bor_dp g.sub hb (fun _ z => nomatch z), f1, f2, q⟩
  | tuple ys =>
    obtain ⟨e1, rfl⟩ := cond_some ((cmD_nmem_tuple da ys).symm.trans e)
    obtain ⟨f1, f2⟩ := and2 e1
    exact .inr (.inl ⟨da, ys, bor_dp g.sub ha (flat_nd f1), bor_dp g.sub hb (fun _ z => nomatch z), f1, f2, q⟩)
  | str z => cases da with
    | str t =>
      have e' : (match t.cps.toList with | [c] => some (!hasC c z.cps.toList) | _ => none) = some r := e
      split at e'
      · rename_i c hc
        cases e'
        refine .inr (.inr (.inl ⟨c, z, ?_, bor_str hb, ?_⟩))
        · rw [bor_str ha, str1 hc]
        · rw [← hasC_iff]; exact q
      · exact nomatch e'
    | _ => exact nomatch e
  | dict kvs =>
    obtain ⟨e1, rfl⟩ := cond_some ((cmD_nmem_dict da kvs).symm.trans e)
    obtain ⟨a, o, rfl, h1, h2⟩ := bor_dct g.sub hb
    exact .inr (.inr (.inr ⟨pa, G, a, o, kvs, da, g.sub, rfl, h1, h2, e1, ha, q⟩))
  | _ => cases da <;> exact nomatch e
theorem cm_snd (hu : X.A.units + 64 < cLine) : ∀ c, OpR X (compareOp (cmK c)) (RC X c)
  | .lt => cm_lt | .le => cm_le | .gt => cm_gt | .ge => cm_ge | .eq => cm_eq hu | .ne => cm_ne hu | .is => cm_is | .isn => cm_isn | .mem => cm_mem hu | .nmem => cm_nmem hu
end Ev

/-! EvIx -/
set_option maxHeartbeats 4000000
namespace Ev
open PySem PySem.Spec PyProof.Rows L2
variable {X : Cx}

theorem place_ixN {n : Nat} {i : Int} {j : Nat} (h : place n i = some j) : ixN n i = some j ∧ j < n := by
  cases i with
  | ofNat k =>
    have h' : cond (Nat.blt k n) (some k) none = some j := h
    obtain ⟨h1, rfl⟩ := cond_some h'
    have hk : k < n := by rwa [Nat.blt_eq] at h1
    refine ⟨?_, hk⟩
    unfold ixN
    rw [if_pos (show (0 : Int) ≤ Int.ofNat k from Int.natCast_nonneg _)]
    show (if ((k : Nat) : Int) < (n : Int) then some ((k : Nat) : Int).toNat else none) = some k
    rw [if_pos (by omega), Int.toNat_natCast]
  | negSucc k =>
    have h' : cond (Nat.blt k n) (some (n - (k + 1))) none = some j := h
    obtain ⟨h1, rfl⟩ := cond_some h'
    have hk : k < n := by rwa [Nat.blt_eq] at h1
    refine ⟨?_, by omega⟩
    unfold ixN
    rw [if_neg (by omega), if_pos (by omega)]
    congr 1
    omega
theorem place_atI {α : Type} {xs : List α} {i : Int} {j : Nat} {v : α} (h : place xs.length i = some j) (hv : xs[j]? = some v) : atI xs i = some v := by
  unfold atI
  rw [(place_ixN h).1]
  exact hv

/-- d[k], k there -/
def rIxD (X : Cx) : R2 := fun x y H Q => ∃ pa G a o kvs k d, Sub G H ∧ x = .ref a ∧ H a = some o ∧ DctV G a o kvs ∧ keyIn k kvs = true ∧ Bor pa G H y k ∧ lookD k kvs = some d ∧ ∀ v, Da G v d → Q v H
theorem dct_type {pins : List (Addr × Obj)} {σ : L2.St} {H : Hp} {s : Shared} {a : Addr} {o : HO} {G : Hp} {kvs : List (PyData × PyData)} (I : Inv X pins σ H s) (ha : H a = some o) (hd : DctV G a o kvs) : s.TypeIs (.ref a) "dict" := dct_typ I ha hd
theorem ix_dct (hu : X.A.units + 64 < cLine) : IxR X (rIxD X) := by
  intro value slice pins s σ H x y v u Q I rx ry h hs
  obtain ⟨pa, G, a, o, kvs, k, d, sub, rfl, ha, hd, hk, hb, hl, q⟩ := h
  cases rx
  have hT := dct_type I ha hd
  unfold subscriptTail
  refine wpAny_bind ?_
  rw [getitemInPython_of_ne hT.not_modules]
  refine wpAny_bind (wpAny_specialOf hT PySem.F.slot_dict_getitem.lookup ?_)
  have fin : wpAny (model X.prog X.w) X.A (subscripted slice false (.ref a) u) (fun r s₃ => wpAny (model X.prog X.w) X.A (letTemporaryGo value (.ref a) r >>= fun _ => pure r) (EP X pins σ Q) X.xe s₃) X.xe s := by
    rw [hs]
    refine wpAny_operating (dct_item (by omega) I sub ha hd hk hb ry hl fun w w' s' hw I' rw' => ?_)
    exact wpAny_bind (wpAny_letTemporaryGo (wpAny_pure ⟨w, H, I', rw', q w hw⟩))
  first
    | exact wpAny_pure (wpAny_bind fin)
    | exact wpAny_bind (wpAny_pure (wpAny_bind fin))
    | exact wpAny_bind fin
theorem ix_snd (hu : X.A.units + 64 < cLine) : IxR X (R2D X.K ixD) := by
  have base := (ix_seq (X := X)).or (ix_dct hu)
  intro value slice pins s σ H x y v u Q I rx ry h hs
  refine base value slice pins s σ H x y v u Q I rx ry ?_ hs
  obtain ⟨pa, G, da, db, r, g, ha, hb, e, q⟩ := h
  cases da with
  | list xs => cases db with
    | int i =>
      have e' : ((place xs.length i).bind fun j => xs[j]?) = some r := e
      cases hp : place xs.length i with
      | none => rw [hp] at e'; exact nomatch e'
      | some j =>
        rw [hp] at e'
        have e'' : xs[j]? = some r := e'
        obtain ⟨a, vs, rfl, h1, r1⟩ := bor_lst g.sub ha
        obtain ⟨w, hw, hd⟩ := r1.get e''
        refine .inl (.inl ⟨a, vs, i, w, rfl, bor_int hb, SqL.of h1, place_atI (j := j) (by rw [r1.length]; exact hp) hw, q.at g ?_⟩)
        cases r <;> first | exact hd | exact nomatch hd
    | _ => exact nomatch e
  | tuple xs => cases db with
    | int i =>
      have e' : ((place xs.length i).bind fun j => xs[j]?) = some r := e
      cases hp : place xs.length i with
      | none => rw [hp] at e'; exact nomatch e'
      | some j =>
        rw [hp] at e'
        have e'' : xs[j]? = some r := e'
        obtain ⟨a, vs, rfl, h1, r1⟩ := bor_tup ha
        obtain ⟨w, hw, hd⟩ := r1.get e''
        refine .inl (.inr (.inl ⟨a, vs, i, w, rfl, bor_int hb, (h1.sub g.sub).sq, place_atI (j := j) (by rw [r1.length]; exact hp) hw, q.at g ?_⟩))
        cases r <;> first | exact hd | exact nomatch hd
    | _ => exact nomatch e
  | str z => cases db with
    | int i =>
      have e' : cond (lenOk z.cps.toList) ((place z.cps.toList.length i).bind fun j => z.cps.toList[j]?.map fun c => .str ⟨#[c]⟩) none = some r := e
      obtain ⟨e1, e2⟩ := cond_opt e'
      cases hp : place z.cps.toList.length i with
      | none => rw [hp] at e2; exact nomatch e2
      | some j =>
        rw [hp] at e2
        have e2' : (z.cps.toList[j]?.map fun c => PyData.str ⟨#[c]⟩) = some r := e2
        cases hc : z.cps.toList[j]? with
        | none => rw [hc] at e2'; exact nomatch e2'
        | some c =>
          rw [hc] at e2'
          cases e2'
          exact .inl (.inr (.inr ⟨z, i, c, bor_str ha, bor_int hb, by rw [str_len]; exact lenOk_iff.mp e1, place_atI (j := j) hp hc, q.str g⟩))
    | _ => exact nomatch e
  | dict kvs =>
    have e' : cond (keyIn db kvs) (lookD db kvs) none = some r := by cases db <;> exact e
    obtain ⟨e1, e2⟩ := cond_opt e'
    obtain ⟨a, o, rfl, h1, h2⟩ := bor_dct g.sub ha
    refine .inr ⟨pa, G, a, o, kvs, db, r, g.sub, rfl, h1, h2, e1, hb, e2, fun v hv => q.at g ?_⟩
    cases r <;> first | exact hv | exact nomatch hv
  | _ => cases db <;> exact nomatch e

theorem clip_sIx (n d : Nat) (hd : d ≤ n) (o : Option Int) : clip n d o = HT.sIx n d o := by
  cases o with
  | none => rfl
  | some v => cases v with
    | ofNat k =>
      show cond (Nat.ble k n) k n = (if ((k : Nat) : Int) < 0 then (((k : Nat) : Int) + (n : Int)).toNat else min ((k : Nat) : Int).toNat n)
      rw [if_neg (by omega), Int.toNat_natCast]
      cases h : Nat.ble k n with
      | true => rw [Nat.ble_eq] at h; show k = _; omega
      | false =>
        have : ¬ k ≤ n := fun z => by rw [← Nat.ble_eq, h] at z; cases z
        show n = _
        omega
    | negSucc k =>
      show n - (k + 1) = (if Int.negSucc k < 0 then (Int.negSucc k + (n : Int)).toNat else min (Int.negSucc k).toNat n)
      rw [if_pos (by omega)]
      omega
theorem cut_eq {α : Type} (xs : List α) (lo hi : Option Int) : cut xs lo hi = (xs.drop (HT.sIx xs.length 0 lo)).take (HT.sIx xs.length xs.length hi - HT.sIx xs.length 0 lo) := by
  show (xs.drop (clip xs.length 0 lo)).take (clip xs.length xs.length hi - clip xs.length 0 lo) = _
  rw [clip_sIx _ _ (Nat.zero_le _), clip_sIx _ _ (Nat.le_refl _)]
theorem All2.cut {R : V → PyData → Prop} {as : List V} {bs : List PyData} (h : All2 R as bs) (lo hi : Option Int) : All2 R (cutV as lo hi) (Ev.cut bs lo hi) := by
  rw [cut_eq, ← h.length]
  exact (h.drop _).take _
def SlD (K : PySem.W.Frag) : V → Option Int → Option Int → Hp → VK → Prop := fun x lo hi H Q => ∃ pa G da r, GH K pa G H ∧ Bor pa G H x da ∧
  sl1 da lo hi = some r ∧ Res K pa G H r Q
theorem sl_snd : SlR X (SlD X.K) := by
  have base := (sl_list (X := X)).or ((sl_tupF (X := X)).or (sl_str (X := X)))
  intro pins s σ H x v vl vu lo hi sl Q I rx hs pl pu h
  refine base pins s σ H x v vl vu lo hi sl Q I rx hs pl pu ?_
  obtain ⟨pa, G, da, r, g, ha, e, q⟩ := h
  cases da with
  | list xs =>
    cases e
    obtain ⟨a, vs, rfl, h1, r1⟩ := bor_lst g.sub ha
    exact .inl ⟨a, vs, rfl, SqL.of h1, q.lst g (r1.cut lo hi)⟩
  | tuple xs =>
    cases e
    obtain ⟨a, vs, rfl, h1, r1⟩ := bor_tup ha
    refine .inr (.inl ⟨a, vs, rfl, (h1.sub g.sub).sq, fun hw => ?_, fun _ => q.tup g (r1.cut lo hi)⟩)
    have e0 : cut xs lo hi = xs := by
      rw [cut_eq, ← r1.length, hw.1, hw.2, List.drop_zero, Nat.sub_zero, r1.length, List.take_length]
    rw [e0] at q
    exact q.at g (Da.tup h1 (das_of r1))
  | str z =>
    obtain ⟨e1, rfl⟩ := cond_some (show cond (lenOk z.cps.toList) (some (PyData.str ⟨(cut z.cps.toList lo hi).toArray⟩)) none = some r from e)
    refine .inr (.inr ⟨z, bor_str ha, by rw [str_len]; exact lenOk_iff.mp e1, ?_⟩)
    have := q.str g
    rw [cut_eq, ← str_len] at this
    exact this
  | _ => exact nomatch e

section
variable {prog : Program} {w : World} {A : Around} {E : Value → Shared → Prop} {s : Shared}
theorem adjust_rev (n : Nat) : Builtin.Slice.sliceAdjust none none (-1) (n : Int) = ((n : Int) - 1, -1) := by
  unfold Builtin.Slice.sliceAdjust
  simp
theorem places_rev (n : Nat) : Builtin.Slice.slicePlaces ((n : Int) - 1) (-1) (-1) = n := by
  unfold Builtin.Slice.slicePlaces
  simp
  try (split <;> omega)
  try omega
theorem sliceApplied_rev {sl : Addr} {vl vu vs : Value} {n : Nat} {Q : Int × Int × Nat → Shared → Prop} (hs : s.heap.IsSliceOf sl vl vu vs) (pl : IsPart vl none) (pu : IsPart vu none) (ps : IsPart vs (some (-1)))
    (h : Q ((n : Int) - 1, -1, n) s) : wpAny (model prog w) A (Builtin.Slice.sliceApplied (.ref sl) (pure (n : Int))) Q E s := by
  obtain ⟨os, hos, hcs, hds⟩ := id hs
  unfold Builtin.Slice.sliceApplied Builtin.Slice.sliceFields
  refine wpAny_bind (wpAny_bind (wpAny_field hos hds (x := vl) rfl (wpAny_bind (wpAny_field hos hds (x := vu) rfl (wpAny_bind (wpAny_field hos hds (x := vs) rfl (wpAny_pure ?_)))))))
  refine wpAny_bind (HT.slicePart_ ps ?_)
  show wpAny _ _ (if ((-1 : Int) == 0) = true then _ else _) _ _ s
  rw [if_neg (by decide)]
  refine wpAny_bind (HT.slicePart_ pl (wpAny_bind (HT.slicePart_ pu (wpAny_bind (wpAny_pure ?_)))))
  show wpAny _ _ (match Builtin.Slice.sliceAdjust none none (-1) (n : Int) with | (lo, hi) => pure (lo, (-1 : Int), Builtin.Slice.slicePlaces lo hi (-1))) _ _ s
  rw [adjust_rev n]
  show wpAny _ _ (pure ((n : Int) - 1, (-1 : Int), Builtin.Slice.slicePlaces ((n : Int) - 1) (-1) (-1))) _ _ s
  rw [places_rev]
  exact wpAny_pure h
theorem fm_congr {α β : Type} {f g : α → Option β} : ∀ {l : List α}, (∀ x ∈ l, f x = g x) → l.filterMap f = l.filterMap g
  | [], _ => rfl
  | x :: l, h => by rw [List.filterMap_cons, List.filterMap_cons, h x List.mem_cons_self, fm_congr fun y hy => h y (List.mem_cons_of_mem _ hy)]
theorem pick_rev (xs : Array Value) : ((List.range xs.size).filterMap fun (m : Nat) => xs[(((xs.size : Int) - 1) + (m : Int) * (-1)).toNat]?).toArray = xs.toList.reverse.toArray := by
  have e : ((List.range xs.size).filterMap fun (m : Nat) => xs[(((xs.size : Int) - 1) + (m : Int) * (-1)).toNat]?) = (((List.range xs.size).map fun k => xs.size - 1 - k).filterMap (xs[·]?)) := by
    rw [List.filterMap_map]
    refine fm_congr fun m hm => ?_
    have hm := List.mem_range.mp hm
    have : (((xs.size : Int) - 1) + (m : Int) * (-1)).toNat = xs.size - 1 - m := by omega
    show xs[_]? = xs[_]?
    rw [this]
  rw [e, PySem.W.krv_range, List.filterMap_reverse, PySem.W.krv_all]
theorem getItem_tuple_rev {t sl : Addr} {items : Array Value} {vl vu vs : Value} {Q : Value → Shared → Prop} (ht : IsTup s.heap t items) (hs : s.heap.IsSliceOf sl vl vu vs) (pl : IsPart vl none) (pu : IsPart vu none) (ps : IsPart vs (some (-1)))
    (h : Q (.ref s.heap.objs.size) { s with heap := s.heap.push { cls := .type "tuple", data := .seq items.toList.reverse.toArray } })
    (hsz : items.size ≤ sizeLine) : wpAny (model prog w) A (getItem (.ref t) (.ref sl)) Q E s := by
  have htake : sizeOk (.seq items.toList.reverse.toArray) := by
    show items.toList.reverse.toArray.size ≤ sizeLine
    rw [List.size_toArray, List.length_reverse, Array.length_toList]
    omega
  obtain ⟨os, hos, hcs, hds⟩ := id hs
  have hTs : s.TypeIs (.ref sl) "slice" := ⟨os, hos, hcs⟩
  unfold getItem
  try with_reducible refine wpAny_holding ?_
  first | refine wpAny_bind (wpAny_pure ?_) | skip
  refine wpAny_bind (wpAny_sequenceKey ht.typeIs (by decide) ?_)
  refine wpAny_bind (wpAny_callSpecial?_slot (name := Str.ofString "__getitem__") ht.typeIs PyProof.Rows.slot_tuple_getitem
    (wpAny_call_entry PyProof.Rows.slot_tuple_getitem ht.typeIs entry_tuple_getitem ?_ (args_tuple_getitem _ _)))
  show wpAny _ _ (Builtin.Tuple.tupleItemsOf (.ref t) >>= _) _ _ s
  refine wpAny_bind (tupleItemsOf_ ht ?_)
  refine wpAny_bind (wpAny_typeOf hTs ?_)
  rw [if_pos (by decide)]
  refine wpAny_bind (sliceApplied_rev hs pl pu ps ?_)
  have hno : ¬ ((((items.size : Int) - 1) == 0 && (-1 : Int) == 1 && items.size == items.size) = true) := by
    intro q
    rw [Bool.and_eq_true, Bool.and_eq_true] at q
    exact absurd q.1.2 (by decide)
  show wpAny _ _ (if (((items.size : Int) - 1) == 0 && (-1 : Int) == 1 && items.size == items.size) = true then _ else _) _ _ s
  rw [if_neg hno, pick_rev]
  first
    | exact wpAny_bind (m := Builtin.Tuple.tupleExact _) (wpAny_newObj_type (wpAny_pure ⟨_, rfl, wpAny_pure h⟩) htake)
    | exact wpAny_bind (m := Builtin.Tuple.tupleExact _) (wpAny_newObj_type (wpAny_bind (wpAny_pure (wpAny_pure ⟨_, rfl, wpAny_pure h⟩))) htake)
    | exact wpAny_bind (wpAny_bind (m := Builtin.Tuple.tupleExact _) (wpAny_newObj_type (wpAny_pure (wpAny_pure ⟨_, rfl, wpAny_pure h⟩)) htake))
    | exact wpAny_bind (wpAny_bind (m := Builtin.Tuple.tupleExact _) (wpAny_newObj_type (wpAny_pure ⟨_, rfl, wpAny_pure h⟩) htake))
end
/-- a list or a tuple -/
def tRevA (K : PySem.W.Frag) (te : TE) : TE := fun σ H Q => te σ H fun x H1 => ∃ a xs, x = .ref a ∧ ((SqL K H1 a xs ∧ ∀ p, H1 p = none → Q (.ref p) (upd H1 p (.lst xs.reverse))) ∨ (SqT K H1 a xs ∧ NewT H1 xs.reverse Q))
theorem pe_revA {e : Expr} {te : TE} {k : Nat} {p1 p2 p3 pos : Pos} (he : PE X e te) : PE X (.Subscript e (.Slice none none (some (.UnaryOp .USub (.Constant (.int 1) k p1) p2)) p3) pos) (tRevA X.K te) := by
  refine ⟨fun pins s σ H Q I h => ?_⟩
  refine Subscript_ (thn (he.run pins s σ H _ I h) fun v s1 ⟨x, H1, I1, r1, q1⟩ => ?_)
  obtain ⟨a, xs, ex, q1⟩ := q1
  subst ex
  cases r1
  have hst : PO X (some (.UnaryOp .USub (.Constant (.int 1) k p1) p2)) (tPart (tUn (rU fun i => .int (-i)) (tC (.int 1)))) := po_some (pe_un un_neg pe_int)
  refine wpAny_Slice (thn (po_none.run pins s1 σ H1 (fun o H2 => o = none ∧ H2 = H1) I1 ⟨rfl, rfl⟩) fun vl s2 ⟨l, H2, I2, pl, el, e2⟩ => ?_)
  subst el e2
  refine thn (po_none.run pins s2 σ H2 (fun o H3 => o = none ∧ H3 = H2) I2 ⟨rfl, rfl⟩) fun vu s3 ⟨u, H3, I3, pu, eu, e3⟩ => ?_
  subst eu e3
  refine thn (hst.run pins s3 σ H3 (fun o H4 => o = some (-1) ∧ H4 = H3) I3 ⟨1, rfl, -1, rfl, rfl, rfl⟩) fun vs s4 ⟨o, H4, I4, ps, eo, e4⟩ => ?_
  subst eo e4
  have I5 : Inv X pins σ H4 { s4 with heap := s4.heap.push { cls := .type "slice", data := .fields #[vl, vu, vs] } } := I4.kept (t' := s4.toks) fun b ob q => Heap.get?_push_of_some _ q
  show wpAny (model X.prog X.w) X.A (subscriptTail e (.Slice none none (some (.UnaryOp .USub (.Constant (.int 1) k p1) p2)) p3) (.ref a) (.ref s4.heap.objs.size)) (EP X pins σ Q) X.xe { s4 with heap := s4.heap.push { cls := .type "slice", data := .fields #[vl, vu, vs] } }
  rcases q1 with ⟨hx, q⟩ | ⟨hx, q⟩
  · obtain ⟨its, r, ht, hz⟩ := I5.list hx
    have hlen := r.length
    refine tail_any (ops := [.ref a, .ref s4.heap.objs.size]) ht.isList.typeIs (PySem.slot_list_getitem.lookup) ?_ (by with_unfolding_all rfl)
    refine wpAny_getItem_list_slice ht.isList (Heap.IsSliceOf.new _ vl vu vs) pl pu ps (by decide) ?_ (by rw [List.size_toArray]; omega)
    rw [PySem.W.krv_pick]
    refine ⟨.ref _, _, I5.laid (t' := s4.toks) (o := .lst xs.reverse) (fun b ob q => Heap.get?_push_of_some _ q) (Nat.le_refl _) ?_, rfl, q _ (I5.hok.fresh (Nat.le_refl _))⟩
    exact ⟨by rw [List.length_reverse]; exact hz, _, 0, r.reverse, Heap.get?_push_size _ rfl⟩
  · obtain ⟨its, r, ht, hz⟩ := I5.tuple hx
    have hlen := r.length
    refine tail_any (ops := [.ref a, .ref s4.heap.objs.size]) ht.typeIs (PyProof.Rows.slot_tuple_getitem.lookup) ?_ (by with_unfolding_all rfl)
    refine getItem_tuple_rev ht (Heap.IsSliceOf.new _ vl vu vs) pl pu ps ?_ (by rw [List.size_toArray]; omega)
    exact fin_tup I5 (by rw [List.length_reverse]; exact hz) (by simpa using r.reverse) q
end Ev

/-! EvSort -/
set_option maxHeartbeats 4000000
namespace Ev
open PySem PySem.Spec PyProof.Rows L2

theorem ltToks_eq : ∀ a b : List (Int ⊕ List Nat), ltToks a b = PyProof.Rows.lexLt itemOrd a b
  | [], [] => rfl
  | [], _ :: _ => rfl
  | _ :: _, [] => rfl
  | x :: r, y :: t => by
    have ih := ltToks_eq r t
    by_cases h : x = y
    · subst h
      rw [lex_self, ← ih]
      cases x with
      | inl i =>
        show (match cond (ieqB i i) none (some (iltB i i)) with | some r => r | none => ltToks r t) = _
        rw [ieqB_iff, decide_eq_true rfl]
        rfl
      | inr i =>
        show (match cond (natsEq i i) none (some (decide (i < i))) with | some r => r | none => ltToks r t) = _
        rw [natsEq_iff.mpr rfl]
        rfl
    · rw [lex_diff h]
      cases x with
      | inl i => cases y with
        | inl j =>
          show (match cond (ieqB i j) none (some (iltB i j)) with | some r => r | none => ltToks r t) = decide (i < j)
          rw [ieqB_iff, decide_eq_false (fun e => h (by rw [e])), iltB_iff]
          rfl
        | inr j => rfl
      | inr i => cases y with
        | inl j => rfl
        | inr j =>
          show (match cond (natsEq i j) none (some (decide (i < j))) with | some r => r | none => ltToks r t) = strKind.blt i j
          have hn : natsEq i j = false := by
            cases e : natsEq i j with
            | false => rfl
            | true => exact absurd (by rw [natsEq_iff.mp e]) h
          rw [hn]
          rfl
theorem ltD_eq (x y : PyData) : ltD x y = PySem.W.dataLt x y := by
  unfold ltD
  split
  · rw [PySem.W.dataLt_int, iltB_iff]
  · rw [ltToks_eq]; rfl

section
variable {α : Type} {le : α → α → Bool}
def insG (le : α → α → Bool) (x : α) : List α → List α
  | [] => [x]
  | y :: ys => cond (le x y) (x :: y :: ys) (y :: insG le x ys)
def sortG (le : α → α → Bool) : List α → List α
  | [] => []
  | x :: xs => insG le x (sortG le xs)
theorem mem_insG {x z : α} : ∀ {ys : List α}, z ∈ insG le x ys → z = x ∨ z ∈ ys
  | [], h => .inl (by simpa [insG] using h)
  | y :: ys, h => by
    have h' : z ∈ cond (le x y) (x :: y :: ys) (y :: insG le x ys) := h
    cases e : le x y with
    | true =>
      rw [e] at h'
      exact List.mem_cons.mp h'
    | false =>
      rw [e] at h'
      rcases List.mem_cons.mp h' with r | r
      · exact .inr (by rw [r]; exact List.mem_cons_self)
      · rcases mem_insG r with q | q
        · exact .inl q
        · exact .inr (List.mem_cons_of_mem _ q)
theorem insG_pair (t : PySem.W.TotalLe le) {x : α} : ∀ {ys : List α}, ys.Pairwise (fun a b => le a b = true) → (insG le x ys).Pairwise (fun a b => le a b = true)
  | [], _ => by simp [insG]
  | y :: ys, h => by
    rw [List.pairwise_cons] at h
    show (cond (le x y) (x :: y :: ys) (y :: insG le x ys)).Pairwise _
    cases e : le x y with
    | true =>
      refine List.pairwise_cons.mpr ⟨fun z hz => ?_, List.pairwise_cons.mpr h⟩
      rcases List.mem_cons.mp hz with r | r
      · rw [r]; exact e
      · exact t.trans _ _ _ e (h.1 z r)
    | false =>
      refine List.pairwise_cons.mpr ⟨fun z hz => ?_, insG_pair t h.2⟩
      rcases mem_insG hz with r | r
      · rw [r]
        rcases t.total y x with q | q
        · exact q
        · rw [e] at q; cases q
      · exact h.1 z r
theorem insG_filter (t : PySem.W.TotalLe le) (c : α) {x : α} : ∀ {ys : List α}, (insG le x ys).filter (PySem.W.sameRank le c) = (x :: ys).filter (PySem.W.sameRank le c)
  | [] => rfl
  | y :: ys => by
    show (cond (le x y) (x :: y :: ys) (y :: insG le x ys)).filter _ = _
    cases e : le x y with
    | true => rfl
    | false =>
      show (y :: insG le x ys).filter _ = _
      rw [List.filter_cons, insG_filter t c, List.filter_cons, List.filter_cons, List.filter_cons]
      cases hx : PySem.W.sameRank le c x with
      | false => simp
      | true =>
        have hy : PySem.W.sameRank le c y = false := by
          cases hy : PySem.W.sameRank le c y with
          | false => rfl
          | true =>
            unfold PySem.W.sameRank at hx hy
            rw [Bool.and_eq_true] at hx hy
            have := t.trans _ _ _ hx.2 hy.1
            rw [e] at this; cases this
        simp [hy]
theorem sortG_eq (t : PySem.W.TotalLe le) (l : List α) : sortG le l = l.mergeSort le := by
  refine PySem.W.sort_unique t ?_ fun c => ?_
  · induction l with
    | nil => exact List.Pairwise.nil
    | cons x xs ih => exact insG_pair t ih
  · induction l with
    | nil => rfl
    | cons x xs ih =>
      show (insG le x (sortG le xs)).filter _ = _
      rw [insG_filter t c, List.filter_cons, List.filter_cons, ih]
theorem mem_sortG {z : α} : ∀ {l : List α}, z ∈ sortG le l → z ∈ l
  | [], h => h
  | x :: xs, h => by
    rcases mem_insG h with r | r
    · rw [r]; exact List.mem_cons_self
    · exact List.mem_cons_of_mem _ (mem_sortG r)
end
theorem ins_eq (x : PyData) : ∀ ys, ins x ys = insG (PySem.W.dataLe false id) x ys
  | [] => rfl
  | y :: ys => by
    show cond (ltD y x) (y :: ins x ys) (x :: y :: ys) = cond (!PySem.W.dataLt y x) (x :: y :: ys) (y :: insG _ x ys)
    rw [ltD_eq, ins_eq x ys]
    cases PySem.W.dataLt y x <;> rfl
theorem sortD_eq : ∀ xs, sortD xs = sortG (PySem.W.dataLe false id) xs
  | [] => rfl
  | x :: xs => by
    show ins x (sortD xs) = insG _ x (sortG _ xs)
    rw [ins_eq, sortD_eq xs]
theorem insR_eq (x : PyData) : ∀ ys, insR x ys = insG (PySem.W.dataLe true id) x ys
  | [] => rfl
  | y :: ys => by
    show cond (ltD x y) (y :: insR x ys) (x :: y :: ys) = cond (!PySem.W.dataLt x y) (x :: y :: ys) (y :: insG _ x ys)
    rw [ltD_eq, insR_eq x ys]
    cases PySem.W.dataLt x y <;> rfl
theorem sortR_eq : ∀ xs, sortR xs = sortG (PySem.W.dataLe true id) xs
  | [] => rfl
  | x :: xs => by
    show insR x (sortR xs) = insG _ x (sortG _ xs)
    rw [insR_eq, sortR_eq xs]
theorem insK_eq (x : PyData × PyData) : ∀ ys, insK x ys = insG (PySem.W.dataLe false Prod.fst) x ys
  | [] => rfl
  | y :: ys => by
    show cond (ltD y.1 x.1) (y :: insK x ys) (x :: y :: ys) = cond (!PySem.W.dataLt y.1 x.1) (x :: y :: ys) (y :: insG _ x ys)
    rw [ltD_eq, insK_eq x ys]
    cases PySem.W.dataLt y.1 x.1 <;> rfl
theorem sortK_eq : ∀ xs, sortK xs = sortG (PySem.W.dataLe false Prod.fst) xs
  | [] => rfl
  | x :: xs => by
    show insK x (sortK xs) = insG _ x (sortG _ xs)
    rw [insK_eq, sortK_eq xs]
theorem le_total {β : Type} (rev : Bool) (k : β → PyData) : PySem.W.TotalLe (PySem.W.dataLe rev k) := PySem.W.sortLe_total _ _ _
/-- sorting commutes with a map that keeps the order -/
theorem sortG_map {α β : Type} {r : α → α → Bool} {s : β → β → Bool} (f : α → β) (h : ∀ a b, r a b = s (f a) (f b)) : ∀ l : List α, (sortG r l).map f = sortG s (l.map f)
  | [] => rfl
  | x :: xs => by
    have hi : ∀ ys : List α, (insG r x ys).map f = insG s (f x) (ys.map f) := by
      intro ys
      induction ys with
      | nil => rfl
      | cons y ys ih =>
        show (cond (r x y) (x :: y :: ys) (y :: insG r x ys)).map f = cond (s (f x) (f y)) (f x :: f y :: ys.map f) (f y :: insG s (f x) (ys.map f))
        rw [h]
        cases s (f x) (f y) with
        | true => rfl
        | false => show f y :: (insG r x ys).map f = _; rw [ih]; rfl
    show (insG r x (sortG r xs)).map f = insG s (f x) (sortG s (xs.map f))
    rw [hi, sortG_map f h xs]

theorem alikeB_all : ∀ {xs : List PyData}, alikeB xs = true → PySem.W.AllAlike xs
  | [], _ => fun d hd => absurd hd (by simp)
  | x :: xs, h => by
    obtain ⟨h1, h2⟩ := and2 (show (alikeTo x (x :: xs) && alikeB xs) = true from h)
    have ih := alikeB_all h2
    have hx : ∀ y ∈ x :: xs, PySem.W.alike x y = true := fun y hy => List.all_eq_true.mp h1 y hy
    intro d hd d' hd'
    rcases List.mem_cons.mp hd with e1 | h1'
    · subst e1; exact hx d' hd'
    · rcases List.mem_cons.mp hd' with e2 | h2'
      · subst e2; rw [PySem.W.alike_comm]; exact hx d (List.mem_cons_of_mem _ h1')
      · exact ih d h1' d' h2'
theorem sortable_ok {xs : List PyData} (h : sortable xs = true) : PySem.W.Sortable xs := by
  unfold sortable at h
  rw [Bool.or_eq_true] at h
  rcases h with h | h
  · refine .inl fun d hd => ?_
    have := List.all_eq_true.mp h d hd
    revert this
    cases d with
    | tuple ys => cases ys with
      | nil => intro q; exact nomatch q
      | cons y r => intro _; exact ⟨y, r, rfl⟩
    | _ => intro q; exact nomatch q
  · refine .inr fun d hd => ?_
    have := List.all_eq_true.mp h d hd
    revert this
    cases d with
    | tuple ys => intro q; exact nomatch q
    | none => intro q; exact nomatch q
    | _ => intro _; exact ⟨(fun z => nomatch z), (fun _ z => nomatch z)⟩
theorem canSort_ok {xs : List PyData} (h : canSort xs = true) : PySem.W.AllAlike xs ∧ PySem.W.Sortable xs ∧ (∀ d ∈ xs, d.depth ≤ 30 ∧ d.plain = true) ∧ xs.length ≤ sizeLine := by
  unfold canSort at h
  obtain ⟨h, h4⟩ := and2 h
  obtain ⟨h, h3⟩ := and2 h
  obtain ⟨h1, h2⟩ := and2 h
  refine ⟨alikeB_all h1, sortable_ok h2, fun d hd => ?_, lenOk_iff.mp h4⟩
  have := flat_plain dep d (flatAll_each h3 d hd)
  exact ⟨this.2, this.1⟩

section
variable {prog : Program} {w : World} {A : Around} {E : Value → Shared → Prop} {s : Shared} {β : Type} {R : Value → β → Prop} {enc : β → PyData} {vs : List Value} {bs : List β}
theorem sorted_any {l : Addr} {T : String} {o : Obj} {n : Nat} {rev : Bool} {kw : List (Str × Value)} (hk : kw = [] ∧ rev = false ∨ kw = [(Str.ofString "reverse", .bool rev)]) (hT : T = "list" ∨ T = "tuple") (ho : s.heap.get? l = some o) (hc : o.cls = .type T) (hd : o.data = .seq vs.toArray n)
    (e : PySem.W.EachIs R vs bs) (er : PySem.W.EachIs (fun v b => ∃ as, Reads s.heap v (enc b) as) vs bs) (hal : PySem.W.AllAlike (bs.map enc)) (hk' : PySem.W.Sortable (bs.map enc)) (hL : bs.length ≤ sizeLine)
    (hu : ∀ b, b ∈ bs → A.units + 2 + (enc b).depth < cLine) {Q : Value → Shared → Prop}
    (h : ∀ (out : List Value) (h₁ h' : Heap) (n : Nat), (∀ b o, s.heap.get? b = some o → h₁.get? b = some o) → (∀ b o, h₁.get? b = some o → h'.get? b = some o) → h'.get? h₁.objs.size = some { cls := .type "list", data := .seq out.toArray n } → out.length = bs.length → PySem.W.EachIs R out (sortG (PySem.W.dataLe rev enc) bs) → Q (.ref h₁.objs.size) { s with heap := h' }) :
    wpAny (model prog w) A (call (.builtin "sorted") [.ref l] kw) Q E s := by
  have hvl : vs.length ≤ sizeLine := by rw [e.length]; exact hL
  have core : ∀ (ha1 : argsOk "sorted" ⟨[.ref l], kw⟩) (ha2 : ∀ x, argsOk "list.sort" ⟨[.ref x], kw⟩)
      (body : ∀ (h₁ : Heap) (E' : Value → Shared → Prop), (∀ b o', s.heap.get? b = some o' → h₁.get? b = some o') →
        wpAny (model prog w) A.in1.in1 (Builtin.«list.sort» ⟨[.ref h₁.objs.size], kw⟩) (fun f s' => f = .done (.ret .none) ∧ Q (.ref h₁.objs.size) s') E' { s with heap := h₁.push (seqObj "list" vs.toArray 0) }),
      wpAny (model prog w) A (call (.builtin "sorted") [.ref l] kw) Q E s := by
    intro ha1 ha2 body
    refine call_function_entry_kw kind_sorted plain_sorted entry_sorted ha1 ?_
    unfold Builtin.«sorted»
    refine wpAny_bind (m := checkCount "sorted" 1 1 _) (wpAny_pure ?_)
    refine wpAny_bind (wpAny_collect_seq l hT ho hc hd (fun h₁ kp => ?_) (by rw [List.size_toArray]; exact hvl))
    refine wpAny_bind (wpAny_newList ?_ hvl)
    refine wpAny_bind (wpAny_holding (wpAny_call_entry_kw slot_list_sort ⟨_, Heap.get?_push_size _ rfl, rfl⟩ entry_list_sort ?body (ha2 _)))
    case body =>
      show wpAny (model prog w) A.in1.in1 (Builtin.«list.sort» ⟨[.ref h₁.objs.size], kw⟩) _ _ _
      refine wpAny_mono (body h₁ _ kp) (fun f s' hf => ?_) fun _ _ e => e
      obtain ⟨rfl, hq⟩ := hf
      exact ⟨_, rfl, wpAny_pure ⟨_, rfl, hq⟩⟩
  have fin : ∀ (h₁ : Heap) (kp : ∀ b o', s.heap.get? b = some o' → h₁.get? b = some o') (P : PySem.Fin → Shared → Prop) (E' : Value → Shared → Prop), P (.done (.ret .none)) { s with heap := sortedHeap (h₁.push (seqObj "list" vs.toArray 0)) h₁.objs.size vs (PySem.W.sortVals (PySem.W.dataKind (PySem.W.sortingHeap (h₁.push (seqObj "list" vs.toArray 0)) h₁.objs.size vs) (bs.map enc)) rev vs vs).toArray } →
      wpAny (model prog w) A.in1.in1 (Builtin.«list.sort» ⟨[.ref h₁.objs.size], kw⟩) P E' { s with heap := h₁.push (seqObj "list" vs.toArray 0) } := by
    intro h₁ kp P E' hP
    have hsrt : ∀ b o, s.heap.get? b = some o → (PySem.W.sortingHeap (h₁.push (seqObj "list" vs.toArray 0)) h₁.objs.size vs).get? b = some o := fun b o hb => by
      have h1 := kp b o hb
      exact PySem.W.sortingHeap_old (Nat.ne_of_lt (Heap.lt_size h1)) (Heap.get?_push_of_some _ h1)
    have er' : PySem.W.EachIs (fun v b => ∃ as, Reads (PySem.W.sortingHeap (h₁.push (seqObj "list" vs.toArray 0)) h₁.objs.size vs) v (enc b) as) vs bs := er.mono fun _ _ ⟨as, r⟩ => ⟨as, PyProof.Rows.Reads.keeps hsrt r⟩
    have S := PySem.W.SortsAt.data (prog := prog) (w := w) (A := A.in1.in1) (s := { s with heap := PySem.W.sortingHeap (h₁.push (seqObj "list" vs.toArray 0)) h₁.objs.size vs }) (PySem.W.each_map (R := fun v d => ∃ as, Reads (PySem.W.sortingHeap (h₁.push (seqObj "list" vs.toArray 0)) h₁.objs.size vs) v d as) enc er') hal hk' (PySem.W.bound_map hu)
    rcases hk with ⟨rfl, rfl⟩ | rfl
    · exact PySem.W.list_sort_vals (s := { s with heap := h₁.push (seqObj "list" vs.toArray 0) }) (Heap.get?_push_size _ rfl) S hvl hP
    · exact PySem.W.list_sort_rev_vals (s := { s with heap := h₁.push (seqObj "list" vs.toArray 0) }) (Heap.get?_push_size _ rfl) S hvl hP
  have body : ∀ (h₁ : Heap) (E' : Value → Shared → Prop), (∀ b o', s.heap.get? b = some o' → h₁.get? b = some o') →
        wpAny (model prog w) A.in1.in1 (Builtin.«list.sort» ⟨[.ref h₁.objs.size], kw⟩) (fun f s' => f = .done (.ret .none) ∧ Q (.ref h₁.objs.size) s') E' { s with heap := h₁.push (seqObj "list" vs.toArray 0) } := by
    intro h₁ E' kp
    refine fin h₁ kp _ _ ⟨rfl, ?_⟩
    have hsrt : ∀ b o, s.heap.get? b = some o → (PySem.W.sortingHeap (h₁.push (seqObj "list" vs.toArray 0)) h₁.objs.size vs).get? b = some o := fun b o hb => by
      have h1 := kp b o hb
      exact PySem.W.sortingHeap_old (Nat.ne_of_lt (Heap.lt_size h1)) (Heap.get?_push_of_some _ h1)
    have er' : PySem.W.EachIs (fun v b => ∃ as, Reads (PySem.W.sortingHeap (h₁.push (seqObj "list" vs.toArray 0)) h₁.objs.size vs) v (enc b) as) vs bs := er.mono fun _ _ ⟨as, r⟩ => ⟨as, PyProof.Rows.Reads.keeps hsrt r⟩
    obtain ⟨c, hc'⟩ := sortedHeap_at (h := h₁.push (seqObj "list" vs.toArray 0)) (a := h₁.objs.size) (vs := vs) (out := (PySem.W.sortVals (PySem.W.dataKind (PySem.W.sortingHeap (h₁.push (seqObj "list" vs.toArray 0)) h₁.objs.size vs) (bs.map enc)) rev vs vs).toArray) (n := 0) (Heap.get?_push_size _ rfl)
    refine h _ h₁ _ c kp (fun b o h1 => ?_) hc' (by rw [PySem.W.sortVals_length rev rfl]; exact e.length) ?_
    · have hlt := Heap.lt_size h1
      rw [sortedHeap_old (Nat.ne_of_lt hlt) (by rw [Heap.size_push]; exact Nat.lt_succ_of_lt hlt)]
      exact Heap.get?_push_of_some _ h1
    · rw [sortG_eq (le_total rev enc)]
      exact PySem.W.sortVals_data rev e er' hal
  rcases hk with ⟨rfl, rfl⟩ | rfl
  · exact core (args_sorted1 _) (fun _ => args_list_sort _) body
  · exact core (args_sorted_rev _ _) (fun _ => args_list_sort_rev _ _) body
end
end Ev

/-! EvBi -/
set_option maxHeartbeats 4000000
namespace Ev
open PySem PySem.Spec PyProof.Rows L2
variable {X : Cx}

theorem CallR.imp {f : Value} {r r' : List V → Hp → VK → Prop} (h : CallR X f r) (i : ∀ xs H Q, r' xs H Q → r xs H Q) : CallR X f r' :=
  fun pins s σ H xs us Q I rx q => h pins s σ H xs us Q I rx (i _ _ _ q)
/-- arguments in, r out -/
def BR (K : PySem.W.Frag) (f : List PyData → Option PyData) : List V → Hp → VK → Prop := fun vs H Q =>
  ∃ pa G ds r, GH K pa G H ∧ All2 (Bor pa G H) vs ds ∧ f ds = some r ∧ Res K pa G H r Q
theorem all2_1 {R : V → PyData → Prop} {vs : List V} {d : PyData} (h : All2 R vs [d]) : ∃ v, vs = [v] ∧ R v d := by
  cases h with
  | cons r t => cases t; exact ⟨_, rfl, r⟩
theorem all2_2 {R : V → PyData → Prop} {vs : List V} {d e : PyData} (h : All2 R vs [d, e]) : ∃ v w, vs = [v, w] ∧ R v d ∧ R w e := by
  cases h with
  | cons r t => cases t with
    | cons r' t => cases t; exact ⟨_, _, rfl, r, r'⟩
theorem bor_items {pa : Addr} {G H : Hp} {x : V} {d : PyData} {ds : List PyData} (sub : Sub G H) (h : Bor pa G H x d) (e : items d = some ds) :
    ∃ a xs, x = .ref a ∧ All2 (Da G) xs ds ∧ ((H a = some (.lst xs) ∧ d = .list ds) ∨ (TupAt H a xs ∧ TupAt G a xs ∧ d = .tuple ds)) := by
  cases d with
  | list ys =>
    cases e
    obtain ⟨a, xs, e, h1, r⟩ := bor_lst sub h
    exact ⟨a, xs, e, r, .inl ⟨h1, rfl⟩⟩
  | tuple ys =>
    cases e
    obtain ⟨a, xs, e, h1, r⟩ := bor_tup h
    exact ⟨a, xs, e, r, .inr ⟨h1.sub sub, h1, rfl⟩⟩
  | _ => exact nomatch e

theorem bi_len : CallR X (.builtin "len") (BR X.K (biD .len)) := by
  refine CallR.imp (CallR.or call_len_seq (CallR.or call_len_str (CallR.or call_lenD call_len_dT))) ?_
  rintro vs H Q ⟨pa, G, ds, r, g, ha, e, q⟩
  cases ds with
  | nil => exact nomatch e
  | cons d t => cases t with
    | cons _ _ => cases d <;> exact nomatch e
    | nil =>
      obtain ⟨v, rfl, hv⟩ := all2_1 ha
      cases d with
      | list xs =>
        cases e
        obtain ⟨a, ys, rfl, h1, r1⟩ := bor_lst g.sub hv
        refine .inl ⟨a, ys, rfl, .inl (SqL.of h1), ?_⟩
        rw [r1.length]
        exact q.int g
      | tuple xs =>
        cases e
        obtain ⟨a, ys, rfl, h1, r1⟩ := bor_tup hv
        refine .inl ⟨a, ys, rfl, .inr ((h1.sub g.sub).sq), ?_⟩
        rw [r1.length]
        exact q.int g
      | str z =>
        obtain ⟨e1, rfl⟩ := cond_some (show cond (lenOk z.cps.toList) (some (PyData.int z.cps.toList.length)) none = some r from e)
        refine .inr (.inl ⟨z, by rw [bor_str hv], by rw [str_len]; exact lenOk_iff.mp e1, ?_⟩)
        rw [str_len]
        exact q.int g
      | dict kvs =>
        exact nomatch e
      | _ => exact nomatch e
theorem bi_abs : CallR X (.builtin "abs") (BR X.K (biD .abs)) := by
  refine CallR.imp call_abs ?_
  rintro vs H Q ⟨pa, G, ds, r, g, ha, e, q⟩
  cases ds with
  | nil => exact nomatch e
  | cons d t => cases t with
    | cons _ _ => cases d <;> exact nomatch e
    | nil =>
      obtain ⟨v, rfl, hv⟩ := all2_1 ha
      cases d with
      | int i =>
        cases e
        refine ⟨i, by rw [bor_int hv], ?_⟩
        have e2 : (if i < 0 then -i else i) = cond (iltB i 0) (-i) i := by
          rw [iltB_iff]
          by_cases h : i < 0
          · rw [if_pos h, decide_eq_true h]; rfl
          · rw [if_neg h, decide_eq_false h]; rfl
        rw [e2]
        exact q.int g
      | _ => exact nomatch e
theorem minI_eq (i j : Int) : (if j < i then j else i) = minI i j := by
  unfold minI
  rw [iltB_iff]
  by_cases h : j < i
  · rw [if_pos h, decide_eq_true h]; rfl
  · rw [if_neg h, decide_eq_false h]; rfl
theorem maxI_eq (i j : Int) : (if j > i then j else i) = maxI i j := by
  unfold maxI
  rw [iltB_iff]
  by_cases h : i < j
  · rw [if_pos h, decide_eq_true h]; rfl
  · rw [if_neg h, decide_eq_false h]; rfl
theorem bi_min2 (hc : X.calm = true) : CallR X (.builtin "min") (BR X.K (biD .min2)) := by
  refine CallR.imp (call_min2 hc) ?_
  rintro vs H Q ⟨pa, G, ds, r, g, ha, e, q⟩
  match ds, e, ha with
  | [.int i, .int j], e, ha =>
    cases e
    obtain ⟨v, w, rfl, h1, h2⟩ := all2_2 ha
    refine ⟨i, j, by rw [bor_int h1, bor_int h2], ?_⟩
    rw [minI_eq]
    exact q.int g
theorem bi_max2 (hc : X.calm = true) : CallR X (.builtin "max") (BR X.K (biD .max2)) := by
  refine CallR.imp (call_max2 hc) ?_
  rintro vs H Q ⟨pa, G, ds, r, g, ha, e, q⟩
  match ds, e, ha with
  | [.int i, .int j], e, ha =>
    cases e
    obtain ⟨v, w, rfl, h1, h2⟩ := all2_2 ha
    refine ⟨i, j, by rw [bor_int h1, bor_int h2], ?_⟩
    rw [maxI_eq]
    exact q.int g
theorem bi_int : CallR X (.type "int") (BR X.K (biD .int)) := by
  refine CallR.imp call_int1 ?_
  rintro vs H Q ⟨pa, G, ds, r, g, ha, e, q⟩
  match ds, e, ha with
  | [.int i], e, ha =>
    cases e
    obtain ⟨v, rfl, h1⟩ := all2_1 ha
    exact .inl ⟨i, by rw [bor_int h1], q.int g⟩
  | [.bool i], e, ha =>
    cases e
    obtain ⟨v, rfl, h1⟩ := all2_1 ha
    refine .inr ⟨i, by rw [bor_bool h1], ?_⟩
    have e2 : (if i = true then (1 : Int) else 0) = cond i 1 0 := by cases i <;> rfl
    rw [e2]
    exact q.int g
theorem bi_list : CallR X (.type "list") (BR X.K (biD .list)) := by
  refine CallR.imp call_list_of ?_
  rintro vs H Q ⟨pa, G, ds, r, g, ha, e, q⟩
  match ds, e, ha with
  | [d], e, ha =>
    obtain ⟨v, rfl, h1⟩ := all2_1 ha
    have e' : (items d).map PyData.list = some r := e
    cases hi : items d with
    | none => rw [hi] at e'; exact nomatch e'
    | some ys =>
      rw [hi] at e'
      cases e'
      obtain ⟨a, xs, rfl, r1, h2⟩ := bor_items g.sub h1 hi
      refine ⟨a, xs, rfl, ?_, q.lst g r1⟩
      rcases h2 with ⟨h2, _⟩ | ⟨h2, _⟩
      · exact .inl (SqL.of h2)
      · exact .inr (h2.sq)
theorem bi_tuple : CallR X (.type "tuple") (BR X.K (biD .tuple)) := by
  refine CallR.imp call_tupleF ?_
  rintro vs H Q ⟨pa, G, ds, r, g, ha, e, q⟩
  match ds, e, ha with
  | [d], e, ha =>
    obtain ⟨v, rfl, h1⟩ := all2_1 ha
    have e' : (items d).map PyData.tuple = some r := e
    cases hi : items d with
    | none => rw [hi] at e'; exact nomatch e'
    | some ys =>
      rw [hi] at e'
      cases e'
      obtain ⟨a, xs, rfl, r1, h2⟩ := bor_items g.sub h1 hi
      refine ⟨a, xs, rfl, ?_⟩
      rcases h2 with ⟨h2, _⟩ | ⟨h2, h3, _⟩
      · exact .inl ⟨SqL.of h2, q.tup g r1⟩
      · exact .inr ⟨h2.sq, q.at g (Da.tup h3 (das_of r1))⟩

theorem asBools_eq : ∀ {ds : List PyData} {bs : List Bool}, asBools ds = some bs → ds = bs.map .bool
  | [], bs, h => by cases h; rfl
  | d :: ds, bs, h => by
    cases d with
    | bool b =>
      have h' : (asBools ds).map (b :: ·) = some bs := h
      cases hh : asBools ds with
      | none => rw [hh] at h'; exact nomatch h'
      | some cs =>
        rw [hh] at h'
        cases h'
        rw [asBools_eq hh]
        rfl
    | _ => exact nomatch h
theorem asInts_eq : ∀ {ds : List PyData} {ns : List Int}, asInts ds = some ns → ds = ns.map .int
  | [], bs, h => by cases h; rfl
  | d :: ds, bs, h => by
    cases d with
    | int b =>
      have h' : (asInts ds).map (b :: ·) = some bs := h
      cases hh : asInts ds with
      | none => rw [hh] at h'; exact nomatch h'
      | some cs =>
        rw [hh] at h'
        cases h'
        rw [asInts_eq hh]
        rfl
    | _ => exact nomatch h
theorem das_bools {G : Hp} : ∀ {xs : List V} {bs : List Bool}, All2 (Da G) xs (bs.map .bool) → xs = bs.map V.bl
  | _, [], .nil => rfl
  | _, b :: bs, .cons r t => by rw [List.map_cons, das_bools t]; cases r; rfl
theorem das_ints {G : Hp} : ∀ {xs : List V} {ns : List Int}, All2 (Da G) xs (ns.map .int) → xs = ns.map V.int
  | _, [], .nil => rfl
  | _, b :: bs, .cons r t => by rw [List.map_cons, das_ints t]; cases r; rfl
theorem bi_all (hc : X.calm = true) : CallR X (.builtin "all") (BR X.K (biD .all)) := by
  refine CallR.imp (cr_all hc) ?_
  rintro vs H Q ⟨pa, G, ds, r, g, ha, e, q⟩
  match ds, e, ha with
  | [.list d], e, ha =>
    obtain ⟨v, rfl, h1⟩ := all2_1 ha
    have e' : (asBools d).map (fun bs => PyData.bool (bs.all id)) = some r := e
    cases hi : asBools d with
    | none => rw [hi] at e'; exact nomatch e'
    | some bs =>
      rw [hi] at e'
      cases e'
      obtain ⟨a, xs, rfl, h2, r1⟩ := bor_lst g.sub h1
      rw [asBools_eq hi] at r1
      rw [das_bools r1] at h2
      exact ⟨a, bs, rfl, SqL.of h2, q.bool g⟩
theorem bi_any (hc : X.calm = true) : CallR X (.builtin "any") (BR X.K (biD .any)) := by
  refine CallR.imp (cr_any hc) ?_
  rintro vs H Q ⟨pa, G, ds, r, g, ha, e, q⟩
  match ds, e, ha with
  | [.list d], e, ha =>
    obtain ⟨v, rfl, h1⟩ := all2_1 ha
    have e' : (asBools d).map (fun bs => PyData.bool (bs.any id)) = some r := e
    cases hi : asBools d with
    | none => rw [hi] at e'; exact nomatch e'
    | some bs =>
      rw [hi] at e'
      cases e'
      obtain ⟨a, xs, rfl, h2, r1⟩ := bor_lst g.sub h1
      rw [asBools_eq hi] at r1
      rw [das_bools r1] at h2
      exact ⟨a, bs, rfl, SqL.of h2, q.bool g⟩
theorem sumI_eq : ∀ ns : List Int, sumI ns = ns.sum
  | [] => rfl
  | n :: ns => by
    show n + sumI ns = (n :: ns).sum
    rw [sumI_eq ns, List.sum_cons]
theorem cr_sumT (hc : X.calm = true) : CallR X (.builtin "sum") (fun vs H Q => ∃ (a : Addr) (ns : List Int), vs = [V.ref a] ∧ SqT X.K H a (ns.map V.int) ∧ Q (.int ns.sum) H) := by
  intro pins s σ H xs us Q I r h
  obtain ⟨a, ns, rfl, hq, q⟩ := h
  obtain ⟨u, rfl, rx⟩ := vals1 r
  cases rx
  obtain ⟨its, rv, pl, hz⟩ := I.tuple hq
  obtain ⟨xs, e⟩ := (L2.Vals.ints rv).allInts.items
  have hn : numsOf (intItems xs).toList = ns := by rw [← e]; exact (L2.Vals.ints rv).numsOf
  rw [nums_intItems] at hn
  have hl : s.heap.IsTuple a (intItems xs) := by
    obtain ⟨o, h1, h2, n, h3⟩ := pl
    exact ⟨o, h1, h2, n, by rw [← e]; exact h3⟩
  refine PySem.W.ktm_sumG (I.ok.hd hc) hl fun h' tk t' hk => ?_
  rw [preSum_eq, List.take_of_length_le (by simp), hn]
  exact ⟨.int ns.sum, H, (I.kept (t' := tk) hk), ⟨_, rfl⟩, q⟩
theorem bi_sum (hc : X.calm = true) : CallR X (.builtin "sum") (BR X.K (biD .sum)) := by
  refine CallR.imp (CallR.or (cr_sum hc) (cr_sumT hc)) ?_
  rintro vs H Q ⟨pa, G, ds, r, g, ha, e, q⟩
  match ds, e, ha with
  | [d], e, ha =>
    obtain ⟨v, rfl, h1⟩ := all2_1 ha
    have e' : ((items d).bind fun xs => (asInts xs).map fun ns => PyData.int (sumI ns)) = some r := e
    cases hi : items d with
    | none => rw [hi] at e'; exact nomatch e'
    | some ys =>
      rw [hi] at e'
      have e'' : ((asInts ys).map fun ns => PyData.int (sumI ns)) = some r := e'
      cases hj : asInts ys with
      | none => rw [hj] at e''; exact nomatch e''
      | some ns =>
        rw [hj] at e''
        cases e''
        obtain ⟨a, xs, rfl, r1, h2⟩ := bor_items g.sub h1 hi
        rw [asInts_eq hj] at r1
        have hx := das_ints r1
        subst hx
        have q : Res X.K pa G H (PyData.int (sumI ns)) Q := q
        rw [sumI_eq] at q
        rcases h2 with ⟨h2, _⟩ | ⟨h2, _, _⟩
        · exact .inl ⟨a, ns, rfl, SqL.of h2, q.int g⟩
        · exact .inr ⟨a, ns, rfl, h2.sq, q.int g⟩

def isK : Bi → String
  | .isInt => "int" | .isBool => "bool" | .isStr => "str" | .isTup => "tuple" | .isList => "list" | _ => ""
def isB (b : Bi) : Bool := match b with | .isInt => true | .isBool => true | .isStr => true | .isTup => true | .isList => true | _ => false
theorem bi_is (b : Bi) (hb : isB b = true) : CallR X (.builtin "isinstance") (fun vs H Q => ∃ v, vs = [v, .ty (isK b)] ∧ BR X.K (biD b) [v] H Q) := by
  intro pins s σ H xs us Q I r h
  obtain ⟨v, rfl, pa, G, ds, r0, g, ha, e, q⟩ := h
  obtain ⟨u1, u2, rfl, r1, r2⟩ := vals2 r
  cases r2
  match ds, e, ha with
  | [.dict kvs], e, ha => cases b <;> first | exact absurd hb (by decide) | skip
                          all_goals
                            cases e
                            obtain ⟨w, ew, h1⟩ := all2_1 ha
                            cases ew
                            obtain ⟨a, o, rfl, h2, h3⟩ := bor_dct g.sub h1
                            cases r1
                            obtain ⟨ob, g1, g2⟩ := dct_type I h2 h3
                            first
                              | exact IsiPair.dict_int g1 g2 (⟨.bl false, H, I.tok _, rfl, q.bool g⟩)
                              | exact IsiPair.dict_bool g1 g2 (⟨.bl false, H, I.tok _, rfl, q.bool g⟩)
                              | exact IsiPair.dict_str g1 g2 (⟨.bl false, H, I.tok _, rfl, q.bool g⟩)
                              | exact IsiPair.dict_tuple g1 g2 (⟨.bl false, H, I.tok _, rfl, q.bool g⟩)
                              | exact IsiPair.dict_list g1 g2 (⟨.bl false, H, I.tok _, rfl, q.bool g⟩)
  | [.none], e, ha | [.bool _], e, ha | [.int _], e, ha | [.str _], e, ha | [.list _], e, ha | [.tuple _], e, ha =>
    obtain ⟨w, ew, h1⟩ := all2_1 ha
    cases ew
    obtain ⟨as, rd⟩ := L2.Dp.reads I _ _ _ (bor_dp g.sub h1 (fun _ z => nomatch z)) r1
    cases b <;> first | exact absurd hb (by decide) | skip
    all_goals
      cases e
      first
        | exact PySem.W.isinstance_int_data rd fun tk _ => ⟨.bl _, H, I.tok tk, rfl, q.bool g⟩
        | exact PySem.W.isinstance_bool_data rd fun tk _ => ⟨.bl _, H, I.tok tk, rfl, q.bool g⟩
        | exact PySem.W.isinstance_str_data rd fun tk _ => ⟨.bl _, H, I.tok tk, rfl, q.bool g⟩
        | exact PySem.W.isinstance_tuple_data rd fun tk _ => ⟨.bl _, H, I.tok tk, rfl, q.bool g⟩
        | exact PySem.W.isinstance_list_data rd fun tk _ => ⟨.bl _, H, I.tok tk, rfl, q.bool g⟩
end Ev

/-! EvMe -/
set_option maxHeartbeats 4000000
namespace Ev
open PySem PySem.Spec PyProof.Rows L2
variable {X : Cx}

/-- the values of a list or tuple as the machine holds them -/
theorem its_of {pins : List (Addr × Obj)} {σ : L2.St} {H : Hp} {s : Shared} {a : Addr} {xs : List V} {ds : List PyData} {d : PyData} {G : Hp} (I : Inv X pins σ H s) (r : All2 (Da G) xs ds)
    (h : (H a = some (.lst xs) ∧ d = .list ds) ∨ (TupAt H a xs ∧ TupAt G a xs ∧ d = .tuple ds)) :
    ∃ (T : String) (o : Obj) (its : List Value) (n : Nat), (T = "list" ∨ T = "tuple") ∧ s.heap.get? a = some o ∧ o.cls = .type T ∧ o.data = .seq its.toArray n ∧ Vals xs its ∧ xs.length ≤ sizeLine ∧ (T = "list" → o = { cls := .type "list", data := .seq its.toArray n }) := by
  rcases h with ⟨h, _⟩ | ⟨h, _, _⟩
  · obtain ⟨z, its, n, rv, e⟩ := (show ObjOk X.prog X.w H s.heap a (.lst xs) from I.hok a _ h)
    exact ⟨"list", _, its, n, .inl rfl, e, rfl, rfl, rv, z, fun _ => rfl⟩
  · obtain ⟨ob, h, _⟩ := h
    obtain ⟨z, its, rv, o, h1, h2, n, h3⟩ := (show ObjOk X.prog X.w H s.heap a (.tup xs) from (I.hok a _ h).2)
    exact ⟨"tuple", o, its, n, .inr rfl, h1, h2, h3, rv, z, fun q => absurd q (by decide)⟩
theorem reads_at {pins : List (Addr × Obj)} {σ : L2.St} {H : Hp} {s : Shared} {G : Hp} (I : Inv X pins σ H s) (sub : Sub G H) {v : V} {u : Value} {d : PyData} (r : RelV v u) (h : Da G v d) : ∃ as, Reads s.heap u d as :=
  L2.Dp.reads I d v u (Da.dp (Da.sub sub h)) r
/-- values, machine's values, data: in step -/
inductive All3 (G : Hp) : List V → List Value → List PyData → Prop
  | nil : All3 G [] [] []
  | cons {v u d vs us ds} : RelV v u → Da G v d → All3 G vs us ds → All3 G (v :: vs) (u :: us) (d :: ds)
theorem all3_of {G : Hp} : ∀ {xs : List V} {its : List Value} {ds : List PyData}, Vals xs its → All2 (Da G) xs ds → All3 G xs its ds
  | _, _, _, .nil, .nil => .nil
  | _, _, _, .cons r t, .cons q u => .cons r q (all3_of t u)
theorem All3.each {G : Hp} : ∀ {xs : List V} {its : List Value} {ds : List PyData}, All3 G xs its ds → PySem.W.EachIs (fun (u : Value) (p : V × PyData) => RelV p.1 u ∧ Da G p.1 p.2) its (xs.zip ds)
  | _, _, _, .nil => .nil
  | _, _, _, .cons r q t => .cons ⟨r, q⟩ (All3.each t)
theorem All3.snd {G : Hp} : ∀ {xs : List V} {its : List Value} {ds : List PyData}, All3 G xs its ds → (xs.zip ds).map Prod.snd = ds
  | _, _, _, .nil => rfl
  | _, _, _, .cons _ _ t => by rw [List.zip_cons_cons, List.map_cons, All3.snd t]
theorem All3.readsAll {pins : List (Addr × Obj)} {σ : L2.St} {H : Hp} {s : Shared} {G : Hp} (I : Inv X pins σ H s) (sub : Sub G H) : ∀ {xs : List V} {its : List Value} {ds : List PyData}, All3 G xs its ds → ∃ as, ReadsAll s.heap its ds as
  | _, _, _, .nil => ⟨_, .nil⟩
  | _, _, _, .cons r q t => by
    obtain ⟨as, h1⟩ := reads_at I sub r q
    obtain ⟨bs, h2⟩ := All3.readsAll I sub t
    exact ⟨_, .cons h1 h2⟩
theorem All3.get {G : Hp} : ∀ {xs : List V} {its : List Value} {ds : List PyData} {i : Nat} {u : Value}, All3 G xs its ds → its[i]? = some u → ∃ v d, xs[i]? = some v ∧ ds[i]? = some d ∧ RelV v u ∧ Da G v d
  | _, _, _, _, _, .nil, e => by simp at e
  | _, _, _, 0, _, .cons r q _, e => by simp at e; subst e; exact ⟨_, _, rfl, rfl, r, q⟩
  | _, _, _, i + 1, _, .cons _ _ t, e => by
    obtain ⟨v, d, h⟩ := All3.get (i := i) t (by simpa using e)
    exact ⟨v, d, by simpa using h⟩
theorem each_rel : ∀ {out : List Value} {bs : List (V × PyData)} {G : Hp}, PySem.W.EachIs (fun (u : Value) (p : V × PyData) => RelV p.1 u ∧ Da G p.1 p.2) out bs → Vals (bs.map Prod.fst) out ∧ All2 (Da G) (bs.map Prod.fst) (bs.map Prod.snd)
  | _, _, _, .nil => ⟨.nil, .nil⟩
  | _, _, _, .cons h t => by
    obtain ⟨h1, h2⟩ := each_rel t
    exact ⟨.cons h.1 h1, .cons h.2 h2⟩

theorem sorted_run' {rev : Bool} {kw : List (Str × Value)} (hk : kw = [] ∧ rev = false ∨ kw = [(Str.ofString "reverse", .bool rev)]) (hu : X.A.units + 64 < cLine) {pins : List (Addr × Obj)} {s : Shared} {σ : L2.St} {H : Hp} {pa : Addr} {G : Hp} {x : V} {u : Value} {d : PyData} {ds : List PyData} {Q : VK}
    (I : Inv X pins σ H s) (rx : RelV x u) (g : GH X.K pa G H) (hx : Bor pa G H x d) (hi : items d = some ds) (hs : canSort ds = true) (q : Res X.K pa G H (.list (sortG (PySem.W.dataLe rev id) ds)) Q) :
    wpAny (model X.prog X.w) X.A (call (.builtin "sorted") [u] kw) (EP X pins σ Q) X.xe s := by
  obtain ⟨a, xs, rfl, r1, h2⟩ := bor_items g.sub hx hi
  cases rx
  obtain ⟨T, o, its, n, hT, ho, hc, hd, rv, hz, _⟩ := its_of I r1 h2
  have a3 := all3_of rv r1
  obtain ⟨c1, c2, c3, c4⟩ := canSort_ok hs
  have hlen : (xs.zip ds).length = ds.length := by rw [List.length_zip, r1.length, Nat.min_self]
  refine sorted_any (R := fun (u : Value) (p : V × PyData) => RelV p.1 u ∧ Da G p.1 p.2) (enc := Prod.snd) (bs := xs.zip ds) hk hT ho hc hd a3.each (a3.each.mono fun u p h => reads_at I g.sub h.1 h.2) (by rw [a3.snd]; exact c1) (by rw [a3.snd]; exact c2)
    (by rw [hlen]; exact c4) (fun p hp => ?_) (fun out h₁ h' m kp kp' hp hl he => ?_)
  · have : p.2 ∈ ds := by rw [← a3.snd]; exact List.mem_map_of_mem hp
    have := (c3 _ this).1
    omega
  · obtain ⟨e1, e2⟩ := each_rel he
    have e3 : (sortG (PySem.W.dataLe rev Prod.snd) (xs.zip ds)).map Prod.snd = sortG (PySem.W.dataLe rev id) ds := by
      have hm := sortG_map (r := PySem.W.dataLe rev Prod.snd) (s := PySem.W.dataLe rev id) (Prod.snd : V × PyData → PyData) (fun _ _ => rfl) (xs.zip ds)
      rw [hm, a3.snd]
    rw [e3] at e2
    have I1 : Inv X pins σ H { s with heap := h₁ } := I.kept (t' := s.toks) kp
    have hfr : H h₁.objs.size = none := I1.hok.fresh (Nat.le_refl _)
    refine ⟨.ref h₁.objs.size, _, I1.laid (t' := s.toks) (o := .lst ((sortG (PySem.W.dataLe rev Prod.snd) (xs.zip ds)).map Prod.fst)) kp' (Nat.le_refl _) ⟨?_, out, m, e1, hp⟩, rfl, q.lst g e2 _ hfr⟩
    rw [e1.length, hl, hlen]
    exact c4
theorem bi_sorted (hu : X.A.units + 64 < cLine) : CallR X (.builtin "sorted") (BR X.K (biD .sorted)) := by
  intro pins s σ H xs us Q I rx h
  obtain ⟨pa, G, ds, r, g, ha, e, q⟩ := h
  match ds, e, ha with
  | [d], e, ha =>
    obtain ⟨v, rfl, h1⟩ := all2_1 ha
    obtain ⟨u, rfl, ru⟩ := L2.Vals.one rx
    have e' : ((items d).bind fun xs => cond (canSort xs) (some (PyData.list (sortD xs))) none) = some r := e
    cases hi : items d with
    | none => rw [hi] at e'; exact nomatch e'
    | some ys =>
      rw [hi] at e'
      obtain ⟨e1, rfl⟩ := cond_some (show cond (canSort ys) (some (PyData.list (sortD ys))) none = some r from e')
      rw [sortD_eq] at q
      exact sorted_run' (.inl ⟨rfl, rfl⟩) hu I ru g h1 hi e1 q
/-- sorted(x, reverse=True) -/
theorem bi_sortedR (hu : X.A.units + 64 < cLine) : CallRK X (.builtin "sorted") [Str.ofString "reverse"] (fun vs zs H Q => zs = [.bl true] ∧ BR X.K (biD .sortedR) vs H Q) := by
  intro pins s σ H xs ys us ws Q I rx ry h
  obtain ⟨rfl, pa, G, ds, r, g, ha, e, q⟩ := h
  match ds, e, ha with
  | [d], e, ha =>
    obtain ⟨v, rfl, h1⟩ := all2_1 ha
    obtain ⟨u, rfl, ru⟩ := L2.Vals.one rx
    obtain ⟨u', rfl, ru'⟩ := L2.Vals.one ry
    cases ru'
    have e' : ((items d).bind fun xs => cond (canSort xs) (some (PyData.list (sortR xs))) none) = some r := e
    cases hi : items d with
    | none => rw [hi] at e'; exact nomatch e'
    | some ys =>
      rw [hi] at e'
      obtain ⟨e1, rfl⟩ := cond_some (show cond (canSort ys) (some (PyData.list (sortR ys))) none = some r from e')
      rw [sortR_eq] at q
      exact sorted_run' (.inr rfl) hu I ru g h1 hi e1 q

theorem minL_eq : ∀ (xs : List PyData) (x : PyData), minL x xs = PySem.W.minD x xs
  | [], x => rfl
  | y :: ys, x => by
    show minL (cond (ltD y x) y x) ys = PySem.W.minD (if PySem.W.dataLt y x then y else x) ys
    rw [minL_eq ys, ltD_eq]
    cases PySem.W.dataLt y x <;> rfl
theorem maxL_eq : ∀ (xs : List PyData) (x : PyData), maxL x xs = PySem.W.maxD x xs
  | [], x => rfl
  | y :: ys, x => by
    show maxL (cond (ltD x y) y x) ys = PySem.W.maxD (if PySem.W.dataLt x y then y else x) ys
    rw [maxL_eq ys, ltD_eq]
    cases PySem.W.dataLt x y <;> rfl
theorem depthAll_le {n : Nat} : ∀ {ds : List PyData}, (∀ d ∈ ds, d.depth ≤ n) → PyData.depthAll ds ≤ n
  | [], _ => by simp [PyData.depthAll]
  | d :: ds, h => by
    have h1 := h d List.mem_cons_self
    have h2 := depthAll_le fun e he => h e (List.mem_cons_of_mem _ he)
    simp only [PyData.depthAll]
    omega
theorem alikeAll_of {ds : List PyData} (h : PySem.W.AllAlike ds) (hs : PySem.W.Sortable ds) : PySem.W.AlikeAll ds := by
  refine ⟨fun x hx y hy => h x hx y hy, fun x hx => ?_⟩
  rcases hs with hs | hs
  · obtain ⟨y, r, e⟩ := hs x hx
    rw [e]; exact fun z => nomatch z
  · exact (hs x hx).1
theorem minmax_end {pins : List (Addr × Obj)} {σ : L2.St} {H : Hp} {s : Shared} {G : Hp} {pa : Addr} {xs : List V} {its : List Value} {ds : List PyData} {d : PyData} {Q : VK} {i : Nat} {v : Value} {h' : Heap} {tk : Nat} {bs : List Addr} (I : Inv X pins σ H s) (g : GH X.K pa G H) (a3 : All3 G xs its ds) (hp : ∀ d ∈ ds, d.plain = true)
    (hv : its.toArray[i]? = some v) (rd : Reads h' v d bs) (kp : ∀ b o, s.heap.get? b = some o → h'.get? b = some o) (q : Res X.K pa G H d Q) : EP X pins σ Q v { s with heap := h', toks := tk } := by
  obtain ⟨w, e, h1, h2, h3, h4⟩ := a3.get (by simpa using hv)
  obtain ⟨as, r⟩ := reads_at I g.sub h3 h4
  have r' := PyProof.Rows.Reads.keeps kp r
  have he : e.plain = true := hp e (List.mem_of_getElem? h2)
  have : e = d := PySem.SeqAt.plain_unique e d v _ _ he r' rd
  subst this
  refine ⟨w, H, I.kept (t' := tk) kp, h3, q.at g ?_⟩
  cases e <;> first | exact h4 | exact nomatch h4
theorem bi_min1 (hc : X.calm = true) (hu : X.A.units + 64 < cLine) : CallR X (.builtin "min") (BR X.K (biD .min1)) := by
  intro pins s σ H xs us Q I rx h
  obtain ⟨pa, G, ds, r, g, ha, e, q⟩ := h
  match ds, e, ha with
  | [d], e, ha =>
    obtain ⟨v, rfl, h1⟩ := all2_1 ha
    obtain ⟨u, rfl, ru⟩ := L2.Vals.one rx
    have e' : ((items d).bind fun xs => match xs with | [] => none | y :: ys => cond (canSort (y :: ys)) (some (minL y ys)) none) = some r := e
    cases hi : items d with
    | none => rw [hi] at e'; exact nomatch e'
    | some zs =>
      rw [hi] at e'
      cases zs with
      | nil => exact nomatch e'
      | cons y ys =>
        obtain ⟨e1, rfl⟩ := cond_some (show cond (canSort (y :: ys)) (some (minL y ys)) none = some r from e')
        obtain ⟨a, vs, rfl, r1, h2⟩ := bor_items g.sub h1 hi
        cases ru
        obtain ⟨T, o, its, n, hT, ho, hcl, hd, rv, hz, _⟩ := its_of I r1 h2
        have a3 := all3_of rv r1
        obtain ⟨c1, c2, c3, c4⟩ := canSort_ok e1
        obtain ⟨as, rds⟩ := a3.readsAll I g.sub
        have hdep := depthAll_le fun d hd => (c3 d hd).1
        rw [minL_eq] at q
        rcases hT with rfl | rfl
        · exact PySem.W.min_list_data (I.ok.hd hc) ⟨o, ho, hcl, n, hd⟩ (by simpa using rds) (alikeAll_of c1 c2) (by omega) fun i v h' tk bs hv rd kp => minmax_end I g a3 (fun d hd => (c3 d hd).2) hv rd kp q
        · exact PySem.W.min_tuple_data (I.ok.hd hc) ⟨o, ho, hcl, n, hd⟩ (by simpa using rds) (alikeAll_of c1 c2) (by omega) fun i v h' tk bs hv rd kp => minmax_end I g a3 (fun d hd => (c3 d hd).2) hv rd kp q
theorem bi_max1 (hc : X.calm = true) (hu : X.A.units + 64 < cLine) : CallR X (.builtin "max") (BR X.K (biD .max1)) := by
  intro pins s σ H xs us Q I rx h
  obtain ⟨pa, G, ds, r, g, ha, e, q⟩ := h
  match ds, e, ha with
  | [d], e, ha =>
    obtain ⟨v, rfl, h1⟩ := all2_1 ha
    obtain ⟨u, rfl, ru⟩ := L2.Vals.one rx
    have e' : ((items d).bind fun xs => match xs with | [] => none | y :: ys => cond (canSort (y :: ys)) (some (maxL y ys)) none) = some r := e
    cases hi : items d with
    | none => rw [hi] at e'; exact nomatch e'
    | some zs =>
      rw [hi] at e'
      cases zs with
      | nil => exact nomatch e'
      | cons y ys =>
        obtain ⟨e1, rfl⟩ := cond_some (show cond (canSort (y :: ys)) (some (maxL y ys)) none = some r from e')
        obtain ⟨a, vs, rfl, r1, h2⟩ := bor_items g.sub h1 hi
        cases ru
        obtain ⟨T, o, its, n, hT, ho, hcl, hd, rv, hz, _⟩ := its_of I r1 h2
        have a3 := all3_of rv r1
        obtain ⟨c1, c2, c3, c4⟩ := canSort_ok e1
        obtain ⟨as, rds⟩ := a3.readsAll I g.sub
        have hdep := depthAll_le fun d hd => (c3 d hd).1
        rw [maxL_eq] at q
        rcases hT with rfl | rfl
        · exact PySem.W.max_list_data (I.ok.hd hc) ⟨o, ho, hcl, n, hd⟩ (by simpa using rds) (alikeAll_of c1 c2) (by omega) fun i v h' tk bs hv rd kp => minmax_end I g a3 (fun d hd => (c3 d hd).2) hv rd kp q
        · exact PySem.W.max_tuple_data (I.ok.hd hc) ⟨o, ho, hcl, n, hd⟩ (by simpa using rds) (alikeAll_of c1 c2) (by omega) fun i v h' tk bs hv rd kp => minmax_end I g a3 (fun d hd => (c3 d hd).2) hv rd kp q

theorem indexD_spec (x : PyData) : ∀ (ys : List PyData) (k j : Nat), indexD x ys k = some j → k ≤ j ∧ j - k < ys.length ∧ (∃ z, ys[j - k]? = some z ∧ eqv z x = true) ∧ ∀ m z, m < j - k → ys[m]? = some z → eqv z x = false
  | [], k, j, h => nomatch h
  | y :: ys, k, j, h => by
    have h' : cond (eqv y x) (some k) (indexD x ys (k + 1)) = some j := h
    cases e : eqv y x with
    | true =>
      rw [e] at h'
      cases h'
      refine ⟨Nat.le_refl _, by simp, ⟨y, by simp, e⟩, fun m z hm _ => by omega⟩
    | false =>
      rw [e] at h'
      obtain ⟨h1, h2, ⟨z, h3, h4⟩, h5⟩ := indexD_spec x ys (k + 1) j h'
      have e1 : j - k = (j - (k + 1)) + 1 := by omega
      refine ⟨by omega, by rw [List.length_cons]; omega, ⟨z, by rw [e1, List.getElem?_cons_succ]; exact h3, h4⟩, fun m z' hm hz' => ?_⟩
      cases m with
      | zero => simp at hz'; subst hz'; exact e
      | succ m => exact h5 m z' (by omega) (by simpa using hz')
theorem countD_eq (x : PyData) : ∀ ys, countD x ys = ys.countP fun y => PyData.eqv y x
  | [] => rfl
  | y :: ys => by
    show cond (eqv y x) (countD x ys + 1) (countD x ys) = _
    rw [countD_eq x ys, List.countP_cons, eqv_iff]
    cases PyData.eqv y x <;> simp
/-- the machine's == of the items with u, place by place -/
theorem items_eq {pins : List (Addr × Obj)} {σ : L2.St} {H : Hp} {s : Shared} {G : Hp} {xs : List V} {its : List Value} {ds : List PyData} {d : PyData} {u : Value} {bs : List Addr} (I : Inv X pins σ H s) (sub : Sub G H) (hu : X.A.units + 64 < cLine) (a3 : All3 G xs its ds) (hf : flatAll dep ds = true) (fd : flat dep d = true) (rd : Reads s.heap u d bs) :
    ∀ j (hj : j < its.toArray.size), SeqAt.EqAt X.A.in1 s its.toArray[j] u ((ds[j]?.map fun e => eqv e d).getD false) := by
  intro j hj
  have hj' : j < its.length := by simpa using hj
  obtain ⟨w, e, h1, h2, h3, h4⟩ := a3.get (List.getElem?_eq_getElem hj')
  obtain ⟨as, r⟩ := reads_at I sub h3 h4
  rw [h2]
  show SeqAt.EqAt X.A.in1 s its.toArray[j] u (eqv e d)
  rw [eqv_iff]
  have f1 := flat_plain dep e (flatAll_each hf e (List.mem_of_getElem? h2))
  have f2 := flat_plain dep d fd
  have hd : dep = 30 := rfl
  have e0 : its.toArray[j] = its[j] := by simp
  rw [e0]
  exact PySem.SeqAt.eqAt_plain e d X.A.in1 s its[j] u _ _ r rd f1.1 f2.1 (by show X.A.units + 1 + _ < _; omega)
end Ev

/-! EvMt -/
set_option maxHeartbeats 4000000
namespace Ev
open PySem PySem.Spec PyProof.Rows L2
variable {X : Cx}

/-- the value is of that built-in type, without a dict of its own -/
def TyIs (X : Cx) (T : String) (x : V) (H : Hp) : Prop := ∀ (pins : List (Addr × Obj)) (σ : L2.St) (s : Shared) (v : Value), Inv X pins σ H s → RelV x v → s.TypeIs v T ∧ ∀ a, v = .ref a → ∃ o, s.heap.get? a = some o ∧ o.dict = none
def tMeG (X : Cx) (name : Str) (to : TE) (t : TA) : TE := fun σ H Q => to σ H fun x H1 => ∃ (T id : String), PlainAttrs T ∧ Slot T name id ∧ (typeOf (.builtin id) = pure (.type "method_descriptor")) ∧ TyIs X T x H1 ∧
  t σ H1 fun xs H2 => ∀ (pins : List (Addr × Obj)) (s : Shared) (v : Value) (us : List Value), Inv X pins σ H2 s → RelV x v → Vals xs us → wpAny (model X.prog X.w) X.A (call (.builtin id) (v :: us)) (EP X pins σ Q) X.xe s
theorem pe_meG {o e : Expr} {es : List Expr} {to : TE} {t : TA} {name : Str} {apos cpos : Pos} (ho : PE X o to) (ha : PA X (e :: es) t)
    (hbase : attributeBase o name X.env (eval o X.env) = eval o X.env)
    (hfew : ((backTo cpos (starEach (e :: es) X.env)).all (fun x => !x.1) && (backToKw cpos (keywordEach [] X.env)).all (fun x => x.1.isSome)
      && decide ((e :: es).length + ([] : List Keyword).length + (if ([] : List Keyword).isEmpty then 0 else 1) < 30)) = true)
    (hline : (apos.endLine == cpos.line) = true) (hs : starEach (e :: es) X.env = (false, eval e X.env) :: starEach es X.env) (hplain : (backTo cpos (starEach es X.env)).any (·.1) = false) :
    PE X (.Call (.Attribute o name apos) (e :: es) [] cpos) (tMeG X name to t) := by
  refine ⟨fun pins s σ H Q I h => ?_⟩
  refine wpAny_Call_method_late hbase hfew hline rfl (thn (ho.run pins s σ H _ I h) fun v s1 ⟨x, H1, I1, r1, T, id, pa, slot, hty, ty, q1⟩ => ?_)
  obtain ⟨h1, h2⟩ := ty pins σ s1 v I1 r1
  refine ⟨T, id, pa, slot, hty, h1, h2, ?_⟩
  have hA := ha.run cpos pins s1 σ H1 _ I1 q1
  rw [hs] at hA ⊢
  refine Calls.callWith_builtin (by show (false || (backTo cpos (starEach es X.env)).any (·.1)) = false; rw [hplain] <;> rfl) (Calls.evalArgs_plain ?_)
  exact thn hA fun us s2 ⟨vs, H2, I2, r2, q2⟩ => q2 pins s2 v us I2 r1 r2
theorem tyIs_of {T : String} {x : V} {H : Hp} (h : tyV X.K T x H) : TyIs X T x H := fun pins σ s v I r => tyV_is I r h
def meName : Me → Str
  | .index => "index" | .count => "count" | .get1 => "get" | .get2 => "get" | .join => "join" | .split => "split"
theorem tyIs_tup {a : Addr} {xs : List V} {H : Hp} (h : TupAt H a xs) : TyIs X "tuple" (.ref a) H := fun pins σ s v I r => by
  cases r
  obtain ⟨o, e, dn⟩ := h
  obtain ⟨g, z, its, rv, o', h1, h2, n, h3⟩ := (show ObjOk X.prog X.w H s.heap a (.frz o (.tup xs)) from I.hok a _ e)
  rw [g] at h1
  cases h1
  refine ⟨⟨o, g, h2⟩, fun b e => ?_⟩
  cases e
  exact ⟨o, g, dn.1⟩
/-- what a method's step must show: at H1 (receiver x for dx), with the arguments at (G2, H2) -/
theorem me_index {pa : Addr} {G H : Hp} {x y : V} {dx dy : PyData} {ds : List PyData} {r : PyData} {Q : VK} {pins : List (Addr × Obj)} {σ : L2.St} {s : Shared} {v : Value} {us : List Value} (hu : X.A.units + 64 < cLine) (I : Inv X pins σ H s) (g : GH X.K pa G H) (hx : Bor pa G H x dx) (hi : items dx = some ds) (hy : Bor pa G H y dy)
    (rx : RelV x v) (ry : Vals [y] us) (f1 : flat dep dy = true) (f2 : flatAll dep ds = true) {j : Nat} (hj : indexD dy ds 0 = some j) (q : Res X.K pa G H (.int j) Q) :
    wpAny (model X.prog X.w) X.A (call (.builtin (match dx with | .list _ => "list.index" | _ => "tuple.index")) (v :: us)) (EP X pins σ Q) X.xe s := by
  obtain ⟨a, xs, rfl, r1, h2⟩ := bor_items g.sub hx hi
  cases rx
  obtain ⟨u, rfl, ru⟩ := L2.Vals.one ry
  obtain ⟨as, rd⟩ := L2.Dp.reads I dy y u (bor_dp g.sub hy (flat_nd f1)) ru
  obtain ⟨T, o, its, n, hT, ho, hc, hd, rv, hz, hlst⟩ := its_of I r1 h2
  have a3 := all3_of rv r1
  obtain ⟨h1, h2', ⟨z, h3, h4⟩, h5⟩ := indexD_spec dy ds 0 j hj
  simp only [Nat.sub_zero] at h2' h3 h5
  have hl1 := rv.length
  have hl2 := r1.length
  have hj2 : j < its.toArray.size := by rw [List.size_toArray]; omega
  have ie := items_eq I g.sub hu a3 f2 f1 rd
  rcases h2 with ⟨h2, rfl⟩ | ⟨h2, _, rfl⟩
  · show wpAny _ _ (call (.builtin "list.index") _) _ _ s
    obtain ⟨z', its', n', rv', e'⟩ := (show ObjOk X.prog X.w H s.heap a (.lst xs) from I.hok a _ h2)
    rw [ho] at e'
    have hT' : T = "list" := by
      have := Option.some.inj e'
      rw [this] at hc
      injection hc with hc
      exact hc.symm
    have ho2 := hlst hT'
    subst ho2
    refine call_meets PySem.F.slot_list_index ⟨_, ho, rfl⟩ PySem.F.entry_list_index (PySem.F.args_list_index_2 _ _)
      (SeqAt.list_index2_found a its.toArray n none #[] u (fun j => (ds[j]?.map fun e => eqv e dy).getD false) j hj2 (Nat.zero_le _) ?_ ?_ ?_) ⟨ho, ie, ?_⟩
    · rw [sizeLine_eq] at hz; omega
    · rw [h3]; exact h4
    · intro m hm _ hlt
      have hm' : m < ds.length := by rw [List.size_toArray] at hm; omega
      rw [List.getElem?_eq_getElem hm']
      exact h5 m _ hlt (List.getElem?_eq_getElem hm')
    · exact ⟨.int j, H, I.tok _, ⟨_, rfl⟩, q.int g⟩
  · show wpAny _ _ (call (.builtin "tuple.index") _) _ _ s
    obtain ⟨ot, ot1, _⟩ := h2
    obtain ⟨z', its', rv', o', g1, g2, n', g3⟩ := (show ObjOk X.prog X.w H s.heap a (.tup xs) from (I.hok a _ ot1).2)
    rw [ho] at g1
    cases g1
    obtain ⟨cls, dd, data, sl⟩ := o
    simp only at g2 hd
    subst g2 hd
    refine call_meets PySem.F.slot_tuple_index ⟨_, ho, rfl⟩ PySem.F.entry_tuple_index (PySem.F.args_tuple_index_2 _ _)
      (SeqAt.tuple_index2_found a its.toArray n dd sl u (fun j => (ds[j]?.map fun e => eqv e dy).getD false) j hj2 (Nat.zero_le _) hj2 ?_ ?_) ⟨ho, ie, ?_⟩
    · rw [h3]; exact h4
    · intro m hm _ hlt
      have hm' : m < ds.length := by rw [List.size_toArray] at hm; omega
      rw [List.getElem?_eq_getElem hm']
      exact h5 m _ hlt (List.getElem?_eq_getElem hm')
    · exact ⟨.int j, H, I.tok _, ⟨_, rfl⟩, q.int g⟩
theorem me_count {pa : Addr} {G H : Hp} {x y : V} {dx dy : PyData} {ds : List PyData} {Q : VK} {pins : List (Addr × Obj)} {σ : L2.St} {s : Shared} {v : Value} {us : List Value} (hu : X.A.units + 64 < cLine) (I : Inv X pins σ H s) (g : GH X.K pa G H) (hx : Bor pa G H x dx) (hi : items dx = some ds) (hy : Bor pa G H y dy)
    (rx : RelV x v) (ry : Vals [y] us) (f1 : flat dep dy = true) (f2 : flatAll dep ds = true) (q : Res X.K pa G H (.int (countD dy ds)) Q) :
    wpAny (model X.prog X.w) X.A (call (.builtin (match dx with | .list _ => "list.count" | _ => "tuple.count")) (v :: us)) (EP X pins σ Q) X.xe s := by
  obtain ⟨a, xs, rfl, r1, h2⟩ := bor_items g.sub hx hi
  cases rx
  obtain ⟨u, rfl, ru⟩ := L2.Vals.one ry
  obtain ⟨as, rd⟩ := L2.Dp.reads I dy y u (bor_dp g.sub hy (flat_nd f1)) ru
  obtain ⟨T, o, its, n, hT, ho, hc, hd, rv, hz, hlst⟩ := its_of I r1 h2
  have a3 := all3_of rv r1
  obtain ⟨bs, rds⟩ := a3.readsAll I g.sub
  have fd := flat_plain dep dy f1
  have fs := flatAll_plain dep ds f2
  have hdp : dep = 30 := rfl
  rw [countD_eq] at q
  rcases h2 with ⟨h2, rfl⟩ | ⟨h2, _, rfl⟩
  · obtain ⟨z', its', n', rv', e'⟩ := (show ObjOk X.prog X.w H s.heap a (.lst xs) from I.hok a _ h2)
    have hT' : o.cls = .type "list" := by rw [ho] at e'; have := Option.some.inj e'; rw [this]
    exact PySem.SeqAt.count_list_data ⟨o, ho, hT', n, hd⟩ (by simpa using rds) rd fs.1 fd.1 (by omega) ⟨.int _, H, I.tok _, ⟨_, rfl⟩, q.int g⟩
  · obtain ⟨ot, ot1, _⟩ := h2
    obtain ⟨z', its', rv', o', g1, g2, n', g3⟩ := (show ObjOk X.prog X.w H s.heap a (.tup xs) from (I.hok a _ ot1).2)
    rw [ho] at g1
    cases g1
    exact PySem.SeqAt.count_tuple_data ⟨o, ho, g2, n, hd⟩ (by simpa using rds) rd fs.1 fd.1 (by omega) ⟨.int _, H, I.tok _, ⟨_, rfl⟩, q.int g⟩

theorem dlist {a : Bool} {m : Option Nat} {r : PyData} (h : cond a (m.map fun (k : Nat) => PyData.int k) none = some r) : a = true ∧ ∃ j, m = some j ∧ r = .int j := by
  obtain ⟨h1, h2⟩ := cond_opt h
  cases m with
  | none => exact nomatch h2
  | some j => exact ⟨h1, j, rfl, (Option.some.inj h2).symm⟩
/-- the receiver is served: its method is found, and what the call does is what meD says -/
theorem me_rcv (hu : X.A.units + 64 < cLine) {pa : Addr} {G H : Hp} {x : V} {dx : PyData} (m : Me) (g : GH X.K pa G H) (hx : Bor pa G H x dx) (ok : meOk m dx = true) :
    ∃ (T id : String), PlainAttrs T ∧ Slot T (meName m) id ∧ (typeOf (.builtin id) = pure (.type "method_descriptor")) ∧ TyIs X T x H ∧
      ∀ G2 H2, Ext X.K pa G H G2 H2 → ∀ ys ds r Q, All2 (Bor pa G2 H2) ys ds → meD m dx ds = some r → Res X.K pa G2 H2 r Q →
        ∀ (pins : List (Addr × Obj)) (σ : L2.St) (s : Shared) (v : Value) (us : List Value), Inv X pins σ H2 s → RelV x v → Vals ys us → wpAny (model X.prog X.w) X.A (call (.builtin id) (v :: us)) (EP X pins σ Q) X.xe s := by
  cases dx with
  | list xs =>
    obtain ⟨a, vs, rfl, h1, r1⟩ := bor_lst g.sub hx
    have ty : TyIs X "list" (.ref a) H := tyIs_of (.inl ⟨rfl, vs, SqL.of h1⟩)
    cases m with
    | index =>
      refine ⟨"list", "list.index", PySem.F.plainAttrs_list, PySem.F.slot_list_index, rfl, ty, fun G2 H2 e2 ys ds r Q hys e q pins σ s v us I rx rs => ?_⟩
      match ds, e, hys with
      | [d], e, hys =>
        obtain ⟨y, rfl, hy⟩ := all2_1 hys
        obtain ⟨e1, j, e3, rfl⟩ := dlist (show cond (flat dep d && flatAll dep xs) ((indexD d xs 0).map fun (k : Nat) => PyData.int k) none = some r from e)
        obtain ⟨f1, f2⟩ := and2 e1
        exact me_index (r := .none) (dx := .list xs) hu I (e2.gh' g) (hx.ext e2) rfl hy rx rs f1 f2 e3 q
    | count =>
      refine ⟨"list", "list.count", PySem.F.plainAttrs_list, PySem.F.slot_list_count, rfl, ty, fun G2 H2 e2 ys ds r Q hys e q pins σ s v us I rx rs => ?_⟩
      match ds, e, hys with
      | [d], e, hys =>
        obtain ⟨y, rfl, hy⟩ := all2_1 hys
        obtain ⟨e1, rfl⟩ := cond_some (show cond (flat dep d && flatAll dep xs) (some (PyData.int (countD d xs))) none = some r from e)
        obtain ⟨f1, f2⟩ := and2 e1
        exact me_count (dx := .list xs) hu I (e2.gh' g) (hx.ext e2) rfl hy rx rs f1 f2 q
    | _ => exact nomatch ok
  | tuple xs =>
    obtain ⟨a, vs, rfl, h1, r1⟩ := bor_tup hx
    have ty : TyIs X "tuple" (.ref a) H := tyIs_tup (h1.sub g.sub)
    cases m with
    | index =>
      refine ⟨"tuple", "tuple.index", PySem.F.plainAttrs_tuple, PySem.F.slot_tuple_index, rfl, ty, fun G2 H2 e2 ys ds r Q hys e q pins σ s v us I rx rs => ?_⟩
      match ds, e, hys with
      | [d], e, hys =>
        obtain ⟨y, rfl, hy⟩ := all2_1 hys
        obtain ⟨e1, j, e3, rfl⟩ := dlist (show cond (flat dep d && flatAll dep xs) ((indexD d xs 0).map fun (k : Nat) => PyData.int k) none = some r from e)
        obtain ⟨f1, f2⟩ := and2 e1
        exact me_index (r := .none) (dx := .tuple xs) hu I (e2.gh' g) (hx.ext e2) rfl hy rx rs f1 f2 e3 q
    | count =>
      refine ⟨"tuple", "tuple.count", PySem.F.plainAttrs_tuple, PySem.F.slot_tuple_count, rfl, ty, fun G2 H2 e2 ys ds r Q hys e q pins σ s v us I rx rs => ?_⟩
      match ds, e, hys with
      | [d], e, hys =>
        obtain ⟨y, rfl, hy⟩ := all2_1 hys
        obtain ⟨e1, rfl⟩ := cond_some (show cond (flat dep d && flatAll dep xs) (some (PyData.int (countD d xs))) none = some r from e)
        obtain ⟨f1, f2⟩ := and2 e1
        exact me_count (dx := .tuple xs) hu I (e2.gh' g) (hx.ext e2) rfl hy rx rs f1 f2 q
    | _ => exact nomatch ok
  | _ => cases m <;> exact nomatch ok
end Ev

/-! EvSnd -/
set_option maxHeartbeats 4000000
namespace Ev
open PySem PySem.Spec PyProof.Rows L2

theorem strEq_eq {x y : Str} (h : strEq x y = true) : x = y := by rw [strEq_iff] at h; exact beq_iff_eq.mp h
theorem strEq_ne {x y : Str} (h : (!strEq x y) = true) : (x == y) = false := by rw [strEq_iff] at h; cases e : (x == y) with | true => rw [e] at h; cases h | false => rfl
theorem lookN_eq (x : Str) : ∀ l, lookN x l = l.lookup x
  | [] => rfl
  | (y, k) :: r => by
    show cond (strEq x y) (some k) (lookN x r) = _
    rw [lookN_eq x r, strEq_iff, List.lookup_cons]
    cases (x == y) <;> rfl
theorem okN_ok {x : Str} (h : okN x = true) : (x == ("__debug__" : Str)) = false ∧ (x == ("__classdict__" : Str)) = false ∧ x ≠ "__name__" := by
  unfold okN at h
  obtain ⟨h, h3⟩ := and2 h
  obtain ⟨h1, h2⟩ := and2 h
  refine ⟨strEq_ne h1, strEq_ne h2, fun e => ?_⟩
  have := strEq_ne h3
  rw [e, beq_self_eq_true] at this
  cases this
variable {C : Ctx} {X : Cx} {sc : Scope}
theorem nameAt_ok {i : Nat} {x : Str} (h : nameAt C i x = true) : C.N[i]? = some x := by
  unfold nameAt at h
  split at h
  · rename_i y e; rw [e, strEq_eq h]
  · exact nomatch h
theorem visB_ok {x : Str} (h : visB sc x = true) : Vis sc x := by
  unfold visB at h
  rw [lookN_eq] at h
  split at h
  · rename_i e; exact .inl e
  · rename_i e; exact .inr (.inl e)
  · rename_i e; exact .inr (.inr e)
  · exact nomatch h
theorem locB_ok {x : Str} (h : locB sc x = true) : Loc sc x := by
  unfold locB at h
  rw [lookN_eq] at h
  split at h
  · rename_i e; exact .inl e
  · rename_i e; exact .inr e
  · exact nomatch h
theorem glB_ok {x : Str} (h : glB sc x = true) : sc.names.lookup x = some .globalImplicit := by
  unfold glB at h
  rw [lookN_eq] at h
  split at h
  · rename_i e; exact e
  · exact nomatch h
theorem star1 {e : Expr} (h : nostar e = true) (es : List Expr) (env : PySem.Env) : starEach (e :: es) env = (false, eval e env) :: starEach es env := by
  cases e <;> first | rfl | exact nomatch h
theorem set1 {e : Expr} (h : noset e = true) (env : PySem.Env) (x : Value) : foldedSetIterable e env x = pure x := by
  cases e <;> first | rfl | exact nomatch h
theorem slice1 {e : Expr} (h : noslice e = true) : PlainIx e := by
  intro o i
  cases e <;> first | rfl | exact nomatch h
theorem base1 {e : Expr} {a : Str} (h : nocall0 e = true) (env : PySem.Env) : attributeBase e a env (eval e env) = eval e env := by
  unfold attributeBase
  split
  · exact nomatch h
  · rfl
theorem test1 {e : Expr} (h : byVal e = true) (env : PySem.Env) : ∀ whole, isTrue e env whole = (do let v ← whole; standAt e.pos; holding [v] (truthy v)) := by
  intro w
  cases e with
  | UnaryOp op x p => cases op <;> first | rfl | exact nomatch h
  | BoolOp _ _ _ => exact nomatch h
  | IfExp _ _ _ _ => exact nomatch h
  | Compare _ _ _ _ => exact nomatch h
  | _ => rfl

/-- what a def of the table promises -/
def spFn (K : PySem.W.Frag) (F : Nat → Bool → List PyData → Tr PyData) (i : Nat) (pool : Bool) : Sp := fun vs H Q _ =>
  ∃ (pa : Addr) (G : Hp) (ws : List V) (ds : List PyData), vs = (cond pool [V.ref pa] []) ++ ws ∧ GH K pa G H ∧ All2 (Val G) ws ds ∧ (F i pool ds).All fun d => ∀ v H' G', Ext K pa G H G' H' → Val G' v d → Q v H'
def spDraw (K : PySem.W.Frag) : Sp := fun vs H Q _ =>
  ∃ (pa : Addr) (G : Hp) (n : Nat), vs = [.ref pa, .int n] ∧ GH K pa G H ∧ 0 < n ∧ n < 1073741824 ∧ ∀ r : Nat, r < n → ∀ H', Ext K pa G H G H' → Q (.int r) H'
/-- the def of that name keeps the promise -/
def FnAt (X : Cx) (x : Str) (sp : Sp) : Prop := ∃ k f fd ps, FnOk X.prog X.w X.K X.mg X.base CX0 k f fd ps sp ∧ Room k X.A ∧ X.mg x = some (.ref f) ∧ PySem.W.keepIn X.K (.ref f) = true ∧ Binds X.K fd ps []
def bltNames : List Str := ["len", "abs", "min", "max", "sum", "int", "list", "tuple", "sorted", "isinstance", "str", "bool", "all", "any", "range", "zip", "set", "dict", "repr"]
/-- the scope as the machine has it: a free name may be a cell there -/
def RelS (sc sc' : Scope) : Prop := ∀ x k, sc.names.lookup x = some k → sc'.names.lookup x = some k ∨ (k = .free ∧ sc'.names.lookup x = some .cell)
theorem RelS.refl (sc : Scope) : RelS sc sc := fun _ _ h => .inl h
theorem lookup_relabel {env : PySem.Env} : ∀ {names : List (Str × NameKind)} {x : Str} {k : NameKind}, names.lookup x = some k →
    (names.map fun (n, k) => if (k == NameKind.free && env.scope.kind == .function && env.kindOf n == some .cell) then (n, NameKind.cell) else (n, k)).lookup x = some k ∨
    (k = .free ∧ (names.map fun (n, k) => if (k == NameKind.free && env.scope.kind == .function && env.kindOf n == some .cell) then (n, NameKind.cell) else (n, k)).lookup x = some .cell)
  | [], _, _, h => by simp at h
  | (n, k') :: r, x, k, h => by
    have ih := @lookup_relabel env r x k
    show List.lookup x ((if (k' == NameKind.free && env.scope.kind == .function && env.kindOf n == some .cell) = true then (n, NameKind.cell) else (n, k')) :: _) = _ ∨ (_ ∧ List.lookup x ((if (k' == NameKind.free && env.scope.kind == .function && env.kindOf n == some .cell) = true then (n, NameKind.cell) else (n, k')) :: _) = _)
    cases hx : x == n with
    | true =>
      simp only [List.lookup_cons, hx] at h
      cases h
      by_cases hc : (k' == NameKind.free && env.scope.kind == .function && env.kindOf n == some .cell) = true
      · rw [if_pos hc]
        simp only [List.lookup_cons, hx]
        rw [Bool.and_eq_true, Bool.and_eq_true, beq_iff_eq] at hc
        exact .inr ⟨hc.1.1, trivial⟩
      · rw [if_neg hc]
        simp only [List.lookup_cons, hx]
        exact .inl trivial
    | false =>
      simp only [List.lookup_cons, hx] at h
      by_cases hc : (k' == NameKind.free && env.scope.kind == .function && env.kindOf n == some .cell) = true
      · rw [if_pos hc]; simp only [List.lookup_cons, hx]; exact ih h
      · rw [if_neg hc]; simp only [List.lookup_cons, hx]; exact ih h
theorem RelS.relabel (sc : Scope) (env : PySem.Env) : RelS sc (relabel sc env) := fun x k h => lookup_relabel h
structure OkX (C : Ctx) (F : Nat → Bool → List PyData → Tr PyData) (X : Cx) (sc : Scope) : Prop where
  scp : RelS sc X.env.scope
  nm : X.N = C.N
  nd : C.N.Nodup
  calm : X.calm = true
  hu : X.A.units + 64 < cLine
  cell : ∀ x, sc.names.lookup x = some .cell → X.fn x = true
  blt : ∀ x ∈ bltNames, X.mg x = none
  fns : ∀ (i : Nat) (x : Str) (b : Bool), C.fns[i]? = some (x, b) → FnAt X x (spFn X.K F i b)
  drw : FnAt X C.drw (spDraw X.K)
  gls : ∀ (k : Nat) (x : Str) (d : PyData), C.gls[k]? = some (x, d) → (∀ i : Int, d = .int i → ∃ t, X.mg x = some (.int i t)) ∧ ∀ z : Str, d = .str z → ∃ t, X.mg x = some (.str z t)
variable {F : Nat → Bool → List PyData → Tr PyData}
theorem OkX.gl (o : OkX C F X sc) {x : Str} (h : glB sc x = true) : Gl X x := by
  rcases o.scp x _ (glB_ok h) with e | ⟨e, _⟩
  · exact e
  · cases e
theorem OkX.vis (o : OkX C F X sc) {x : Str} (h : visB sc x = true) : Vis X.env.scope x := by
  rcases visB_ok h with e | e | e
  · rcases o.scp x _ e with e | ⟨e, _⟩
    · exact .inl e
    · cases e
  · rcases o.scp x _ e with e | ⟨e, _⟩
    · exact .inr (.inl e)
    · cases e
  · rcases o.scp x _ e with e | ⟨_, e⟩
    · exact .inr (.inr e)
    · exact .inr (.inl e)
theorem OkX.loc (o : OkX C F X sc) {x : Str} (h : locB sc x = true) : Loc X.env.scope x ∧ (X.fn x = true ∨ X.env.scope.names.lookup x = some .local) := by
  rcases locB_ok h with e | e
  · rcases o.scp x _ e with e' | ⟨e', _⟩
    · exact ⟨.inl e', .inr e'⟩
    · cases e'
  · rcases o.scp x _ e with e' | ⟨e', _⟩
    · exact ⟨.inr e', .inl (o.cell x e)⟩
    · cases e'
theorem OkX.at (o : OkX C F X sc) {i : Nat} {x : Str} (h : nameAt C i x = true) : X.N[i]? = some x := by
  rw [o.nm]
  exact nameAt_ok h
theorem OkX.blk (o : OkX C F X sc) (s : Shared) (H : Hp) (sc' : Scope) (cl : List (Str × Addr)) (D : Addr) (fp : List Addr) : OkX C F (X.blk s H sc' (compEnvC sc' cl D X.env) fp) sc' where
  scp := RelS.relabel sc' X.env
  nm := o.nm
  nd := o.nd
  calm := o.calm
  hu := o.hu
  cell := fun x e => by show (sc'.names.lookup x == some .cell) = true; rw [e]; rfl
  blt := o.blt
  fns := o.fns
  drw := o.drw
  gls := o.gls

theorem PE.imp {x : Expr} {t t' : TE} (h : PE X x t) (i : ∀ σ H Q, t' σ H Q → t σ H Q) : PE X x t' := ⟨fun pins s σ H Q I q => h.run pins s σ H Q I (i _ _ _ q)⟩
theorem PA.imp {x : List Expr} {t t' : TA} (h : PA X x t) (i : ∀ σ H Q, t' σ H Q → t σ H Q) : PA X x t' := ⟨fun pos pins s σ H Q I q => h.run pos pins s σ H Q I (i _ _ _ q)⟩
theorem PT.imp {x : Expr} {t t' : TT} (h : PT X x t) (i : ∀ σ H Q, t' σ H Q → t σ H Q) : PT X x t' := ⟨fun pins s σ H Q I q => h.run pins s σ H Q I (i _ _ _ q)⟩
theorem PW.imp {x : Expr} {t t' : TT} (h : PW X x t) (i : ∀ σ H Q, t' σ H Q → t σ H Q) : PW X x t' := ⟨fun w pins s σ H Q I q => h.run w pins s σ H Q I (i _ _ _ q)⟩
theorem PI.imp {tg x : Expr} {t t' : TI} (h : PI X tg x t) (i : ∀ σ H Q, t' σ H Q → t σ H Q) : PI X tg x t' := ⟨fun pins s σ H Q I q => h.run pins s σ H Q I (i _ _ _ q)⟩
theorem PG.imp {x : Expr} {t t' : TG} (h : PG X x t) (i : ∀ v σ H Q, t' v σ H Q → t v σ H Q) : PG X x t' := ⟨fun pins s σ H v u Q I r q => h.run pins s σ H v u Q I r (i _ _ _ _ q)⟩
theorem PGs.imp {x : List Expr} {t t' : TGs} (h : PGs X x t) (i : ∀ v σ H Q, t' v σ H Q → t v σ H Q) : PGs X x t' := ⟨fun pins s σ H v u Q I r q => h.run pins s σ H v u Q I r (i _ _ _ _ q)⟩
theorem PO.imp {x : Option Expr} {t t' : TO} (h : PO X x t) (i : ∀ σ H Q, t' σ H Q → t σ H Q) : PO X x t' := ⟨fun pins s σ H Q I q => h.run pins s σ H Q I (i _ _ _ q)⟩
theorem PTs.imp {x : List Expr} {t t' : TT} (h : PTs X x t) (i : ∀ σ H Q, t' σ H Q → t σ H Q) : PTs X x t' := ⟨fun pins s σ H Q I q => h.run pins s σ H Q I (i _ _ _ q)⟩

/-- the evaluator's word for an expression, a test, a row -/
def tEv (K : PySem.W.Frag) (F : Nat → Bool → List PyData → Tr PyData) (b : Bool) (e : E) : TE := fun σ H Q =>
  ∃ (pa : Addr) (G : Hp) (env : Env), RE K pa G env σ H ∧ (ev F e env).All fun d => ∀ v H' G', Ext K pa G H G' H' → VB pa b G' H' v d → Q v H'
def tEvT (K : PySem.W.Frag) (F : Nat → Bool → List PyData → Tr PyData) (e : E) : TT := fun σ H Q =>
  ∃ (pa : Addr) (G : Hp) (env : Env), RE K pa G env σ H ∧ (ev F e env).All fun d => ∃ c, d = .bool c ∧ ∀ H' G', Ext K pa G H G' H' → Q c H'
def tEvA (K : PySem.W.Frag) (F : Nat → Bool → List PyData → Tr PyData) (b : Bool) (e : E) : TA := fun σ H Q =>
  ∃ (pa : Addr) (G : Hp) (env : Env), RE K pa G env σ H ∧ (ev F e env).All fun d => ∃ ds, d = .tuple ds ∧ ∀ vs H' G', Ext K pa G H G' H' → All2 (VB pa b G' H') vs ds → Q vs H'
/-- a value that a loop hands out: the datum d, or a new pair -/
def ValT (K : PySem.W.Frag) (G H : Hp) (v : V) (d : PyData) : Prop := Val G v d ∨ ∃ a xs ds, v = .ref a ∧ SqT K H a xs ∧ d = .tuple ds ∧ All2 (Da G) xs ds
/-- the walk of ds: b: it stands while what stands stands; else: for good -/
def WalkOk (K : PySem.W.Frag) (pa : Addr) (b tp : Bool) (J : It) (ds : List PyData) (G H : Hp) : Prop :=
  ∃ (W : Hp → Prop) (Y : Nat → Hp → V → Hp → Prop), Walk J ds.length W Y ∧ (∀ G2 H2, cond b (Ext K pa G H G2 H2) (Sub G G2 ∧ GH K pa G2 H2) → W H2) ∧
    ∀ i G2 H2 x H3, i < ds.length → cond b (Ext K pa G H G2 H2) (Sub G G2 ∧ GH K pa G2 H2) → Y i H2 x H3 → ∃ d, ds[i]? = some d ∧ Ext K pa G2 H2 G2 H3 ∧ cond tp (ValT K G2 H3 x d) (Val G2 x d)
def tEvI (K : PySem.W.Frag) (F : Nat → Bool → List PyData → Tr PyData) (b tp : Bool) (e : E) : TI := fun σ H R =>
  ∃ (pa : Addr) (G : Hp) (env : Env), RE K pa G env σ H ∧ (ev F e env).All fun d => ∃ ds, walkD d = some ds ∧ ∀ J H' G', Ext K pa G H G' H' → WalkOk K pa b tp J ds G' H' → R J H'
/-- a row of one -/
def tEv1 (K : PySem.W.Frag) (F : Nat → Bool → List PyData → Tr PyData) (b : Bool) (e : E) : TE := fun σ H Q =>
  ∃ (pa : Addr) (G : Hp) (env : Env), RE K pa G env σ H ∧ (ev F e env).All fun d => ∃ d1, d = .tuple [d1] ∧ ∀ v H' G', Ext K pa G H G' H' → VB pa b G' H' v d1 → Q v H'
/-- .. for a target: which slots change is told -/
def Chg (vs : List Nat) (σ σ' : L2.St) : Prop := ∀ ws : List Nat, (∀ i ∈ vs, i ∈ ws) → wipe σ' ws = wipe σ ws
def tEvG (K : PySem.W.Frag) (tp : Bool) (tg : Tg) : TG := fun v σ H Q =>
  ∃ (pa : Addr) (G : Hp) (env env' : Env) (d : PyData), RE K pa G env σ H ∧ cond tp (ValT K G H v d) (Val G v d) ∧ assign tg d env = some env' ∧ ∀ σ', RE K pa G env' σ' H → Chg (slotsT tg) σ σ' → Q σ' H
def tEvGs (K : PySem.W.Frag) (tg : Tg) : TGs := fun vs σ H Q =>
  ∃ (pa : Addr) (G : Hp) (env env' : Env) (ds : List PyData), RE K pa G env σ H ∧ All2 (Da G) vs ds ∧ assignAll tg ds env = some env' ∧ ∀ σ', RE K pa G env' σ' H → Chg (slotsT tg) σ σ' → Q σ' H

variable {K : PySem.W.Frag} {pa : Addr} {G H : Hp} {env : Env} {σ : L2.St} {Q : VK}
/-- two operands by values -/
theorem snd_op2 {b : Bool} {e a c : E} {f : PyData → PyData → Option PyData} (hev : ∀ env, ev F e env = (ev F a env).bind fun x => (ev F c env).bind fun y => Tr.ofO (f x y))
    (h : tEv K F b e σ H Q) : tOp (R2D K f) (tEv K F true a) (tEv K F true c) σ H Q := by
  obtain ⟨pa, G, env, re, all⟩ := h
  rw [hev] at all
  refine ⟨pa, G, env, re, Tr.All_mono (Tr.All_bind all) fun x hx v H1 G1 e1 b1 => ?_⟩
  refine ⟨pa, G1, env, re.ext e1, Tr.All_mono (Tr.All_bind hx) fun y hy u H2 G2 e2 b2 => ?_⟩
  obtain ⟨r, hr, q⟩ := Tr.All_ofO hy
  have b1' : Bor pa G1 H1 v x := b1
  have b2' : Bor pa G2 H2 u y := b2
  refine ⟨pa, G2, x, y, r, e2.gh' (e1.gh' re.gh), b1'.ext e2, b2', hr, fun w H3 G3 e3 hv => q w H3 G3 ((e1.trans e2).trans e3) ?_⟩
  cases b with
  | true => exact .inl hv
  | false => exact hv
theorem val_vb {b : Bool} {v : V} {d : PyData} (h : Val G v d) : VB pa b G H v d := by
  cases b with
  | true => exact .inl h
  | false => exact h
/-- an argument row into a built-in -/
theorem snd_bi {b : Bool} {f : Bi} {es : E} (h : tEv K F b (.bi f es) σ H Q) : tCB (BR K (biD f)) (tEvA K F true es) σ H Q := by
  obtain ⟨pa, G, env, re, all⟩ := h
  have all : ((ev F es env).bind fun y => match y with | .tuple ys => Tr.ofO (biD f ys) | _ => .fail).All _ := all
  refine ⟨pa, G, env, re, Tr.All_mono (Tr.All_bind all) fun y hy => ?_⟩
  cases y with
  | tuple ys =>
    refine ⟨ys, rfl, fun vs H1 G1 e1 b1 => ?_⟩
    obtain ⟨r, hr, q⟩ := Tr.All_ofO hy
    exact ⟨pa, G1, ys, r, e1.gh' re.gh, b1, hr, fun w H3 G3 e3 hv => q w H3 G3 (e1.trans e3) (val_vb hv)⟩
  | _ => exact hy.elim
end Ev

/-! EvSn2 -/
set_option maxHeartbeats 4000000
namespace Ev
open PySem PySem.Spec PyProof.Rows L2
variable {C : Ctx} {X : Cx} {sc : Scope} {F : Nat → Bool → List PyData → Tr PyData} {K : PySem.W.Frag} {pa : Addr} {G H : Hp} {env : Env} {σ : L2.St} {Q : VK}

def iAny (K : PySem.W.Frag) (te : TE) : TI := fun σ H R => te σ H fun x H1 =>
  (∃ a, x = .ref a ∧ (∃ xs, SqL K H1 a xs) ∧ R (Itl K a) H1) ∨ (∃ a, x = .ref a ∧ (∃ xs, SqT K H1 a xs) ∧ R (Itt K a) H1) ∨ ∃ z, x = .str z ∧ R (Its z) H1
theorem pi_any {tg l : Expr} {tl : TE} (hl : PE X l tl) : PI X tg l (iAny X.K tl) := by
  refine ⟨fun pins s σ H R I h => ?_⟩
  refine thn (hl.run pins s σ H _ I h) fun v s1 ⟨x, H1, I1, r1, q1⟩ => ?_
  have fr : ∀ b ∈ [s1.heap.objs.size], FpOk X pins H1 b := fun b hb => by
    have e : b = s1.heap.objs.size := by simpa using hb
    subst e
    exact I1.fpOk (Nat.le_refl _) (I1.hok.fresh (Nat.le_refl _))
  rcases q1 with ⟨a, e, ⟨xs, hq⟩, q⟩ | ⟨a, e, ⟨xs, hq⟩, q⟩ | ⟨x, e, q⟩
  · subst e
    cases r1
    obtain ⟨its, rv, p, hz⟩ := I1.list hq
    refine wpAny_pyIter_list p.isList ?_
    exact ⟨s1.heap.objs.size, [s1.heap.objs.size], _, _, H1, rfl, I1.kept (t' := s1.toks) fun b o e => Heap.get?_push_of_some _ e, turn_list a _, ⟨_, Heap.get?_push_size _ rfl, rfl, rfl⟩, fr, q⟩
  · subst e
    cases r1
    obtain ⟨its, rv, p, hz⟩ := I1.tuple hq
    refine wpAny_pyIter_tuple (show s1.heap.IsTuple a its.toArray from p) ?_
    exact ⟨s1.heap.objs.size, [s1.heap.objs.size], _, _, H1, rfl, I1.kept (t' := s1.toks) fun b o e => Heap.get?_push_of_some _ e, turn_tuple a _, ⟨_, Heap.get?_push_size _ rfl, rfl, rfl⟩, fr, q⟩
  · subst e
    obtain ⟨t, rfl⟩ := r1
    cases ha : x.cps.all (· < 128)
    · exact wpAny_pyIter_wide ha (pi_one (tk := s1.toks) I1 _ (turn_str _ x t "str_iterator" (.inr rfl)) ⟨_, Heap.get?_push_size _ rfl, rfl, rfl⟩ q)
    · exact wpAny_pyIter_ascii ha (pi_one (tk := s1.toks) I1 _ (turn_str _ x t "str_ascii_iterator" (.inl rfl)) ⟨_, Heap.get?_push_size _ rfl, rfl, rfl⟩ q)
/-- the walk's standing: what G says stays, in both readings -/
theorem stand_sub {b : Bool} {G2 H2 : Hp} (h : cond b (Ext K pa G H G2 H2) (Sub G G2 ∧ GH K pa G2 H2)) : Sub G H2 ∧ Sub G G2 := by
  cases b with
  | true => exact ⟨fun c o e => h.gh _ _ (h.gg _ _ e), h.gg⟩
  | false => exact ⟨fun c o e => h.2.sub _ _ (h.1 _ _ e), h.1⟩
theorem stand_gh {b : Bool} {G2 H2 : Hp} (g : GH K pa G H) (h : cond b (Ext K pa G H G2 H2) (Sub G G2 ∧ GH K pa G2 H2)) : GH K pa G2 H2 := by
  cases b with
  | true => exact h.gh' g
  | false => exact h.2
theorem val_tp {tp : Bool} {v : V} {d : PyData} (h : Val G v d) : cond tp (ValT K G H v d) (Val G v d) := by
  cases tp with
  | true => exact .inl h
  | false => exact h
theorem da_val {v : V} {d : PyData} (h : Da G v d) : Val G v d := by
  cases d <;> first | exact h | exact nomatch h
theorem walk_lst {b tp : Bool} {a : Addr} {xs : List V} {ds : List PyData} (g : GH K pa G H) (r : All2 (Da G) xs ds) (hw : ∀ G2 H2, cond b (Ext K pa G H G2 H2) (Sub G G2 ∧ GH K pa G2 H2) → SqL K H2 a xs) : WalkOk K pa b tp (Itl K a) ds G H := by
  refine ⟨_, _, by rw [← r.length]; exact walk_list (xs := xs), hw, fun i G2 H2 x H3 hi st y => ?_⟩
  obtain ⟨rfl, e⟩ := y
  obtain ⟨d, e', h⟩ := r.get' e
  exact ⟨d, e', Ext.refl (stand_gh g st), val_tp (da_val (Da.sub (stand_sub st).2 h))⟩
theorem walk_tpl {b tp : Bool} {a : Addr} {xs : List V} {ds : List PyData} (g : GH K pa G H) (r : All2 (Da G) xs ds) (hw : TupAt G a xs) : WalkOk K pa b tp (Itt K a) ds G H := by
  refine ⟨_, _, by rw [← r.length]; exact walk_tup (xs := xs), fun G2 H2 st => (hw.sub (stand_sub st).1).sq, fun i G2 H2 x H3 hi st y => ?_⟩
  obtain ⟨rfl, e⟩ := y
  obtain ⟨d, e', h⟩ := r.get' e
  exact ⟨d, e', Ext.refl (stand_gh g st), val_tp (da_val (Da.sub (stand_sub st).2 h))⟩
theorem chars_get : ∀ (cs : List Nat) (i : Nat), (chars cs)[i]? = cs[i]?.map fun c => PyData.str ⟨#[c]⟩
  | [], i => by simp [chars]
  | c :: cs, 0 => by simp [chars]
  | c :: cs, i + 1 => by
    show (PyData.str ⟨#[c]⟩ :: chars cs)[i + 1]? = _
    rw [List.getElem?_cons_succ, List.getElem?_cons_succ]
    exact chars_get cs i
theorem chars_len : ∀ cs : List Nat, (chars cs).length = cs.length
  | [] => rfl
  | c :: cs => congrArg (· + 1) (chars_len cs)
theorem walk_txt {b tp : Bool} {z : Str} (g : GH K pa G H) : WalkOk K pa b tp (Its z) (chars z.cps.toList) G H := by
  refine ⟨_, _, by rw [chars_len, Array.length_toList]; exact walk_str (z := z), fun _ _ _ => trivial, fun i G2 H2 x H3 hi st y => ?_⟩
  obtain ⟨rfl, c, e, rfl⟩ := y
  refine ⟨.str ⟨#[c]⟩, by rw [chars_get, Array.getElem?_toList, e]; rfl, Ext.refl (stand_gh g st), val_tp (Da.str _)⟩
theorem upI_len (c : Int) : ∀ n lo, (upI c n lo).length = n
  | 0, _ => rfl
  | n + 1, lo => congrArg (· + 1) (upI_len c n (lo + c))
theorem upI_get (c : Int) : ∀ (n i : Nat) (lo : Int), i < n → (upI c n lo)[i]? = some (.int (lo + (i : Int) * c))
  | 0, i, lo, h => by omega
  | n + 1, 0, lo, _ => by simp [upI]
  | n + 1, i + 1, lo, h => by
    show (PyData.int lo :: upI c n (lo + c))[i + 1]? = _
    rw [List.getElem?_cons_succ, upI_get c n i (lo + c) (by omega)]
    congr 2
    rw [Int.natCast_succ, Int.add_mul, Int.one_mul]
    omega
theorem walk_rng {b tp : Bool} {lo c : Int} {n : Nat} {J : It} (g : GH K pa G H) (w : Walk J n (fun _ => True) (YFn fun i => .int (lo + (i : Nat) * c))) : WalkOk K pa b tp J (upI c n lo) G H := by
  refine ⟨_, _, by rw [upI_len]; exact w, fun _ _ _ => trivial, fun i G2 H2 x H3 hi st y => ?_⟩
  obtain ⟨rfl, rfl⟩ := y
  rw [upI_len] at hi
  exact ⟨_, upI_get c n i lo hi, Ext.refl (stand_gh g st), val_tp (Da.int _)⟩
theorem small62_iff {i : Int} (h : small62 i = true) : -(2 ^ 62) ≤ i ∧ i < 2 ^ 62 := by
  unfold small62 at h
  rw [Bool.and_eq_true, iltB_iff, iltB_iff, decide_eq_true_eq, decide_eq_true_eq] at h
  omega
theorem zipD_get : ∀ (xs ys : List PyData) (i : Nat) (x y : PyData), xs[i]? = some x → ys[i]? = some y → (zipD xs ys)[i]? = some (.tuple [x, y])
  | [], _, i, x, y, h, _ => by simp at h
  | _ :: _, [], i, x, y, _, h => by simp at h
  | a :: xs, b :: ys, 0, x, y, h1, h2 => by simp at h1 h2; subst h1 h2; rfl
  | a :: xs, b :: ys, i + 1, x, y, h1, h2 => by
    show (PyData.tuple [a, b] :: zipD xs ys)[i + 1]? = _
    rw [List.getElem?_cons_succ]
    exact zipD_get xs ys i x y (by simpa using h1) (by simpa using h2)
theorem zipD_len : ∀ (xs ys : List PyData), (zipD xs ys).length = min xs.length ys.length
  | [], _ => by simp [zipD]
  | _ :: _, [] => by simp [zipD]
  | a :: xs, b :: ys => by
    show (zipD xs ys).length + 1 = _
    rw [zipD_len xs ys, List.length_cons, List.length_cons]
    omega
theorem ypair_ok {b : Bool} {vs ws : List V} {xs ys : List PyData} {i : Nat} {G2 H2 H3 : Hp} {v : V} (g : GH K pa G H) (r1 : All2 (Da G) vs xs) (r2 : All2 (Da G) ws ys) (st : cond b (Ext K pa G H G2 H2) (Sub G G2 ∧ GH K pa G2 H2))
    (y : YPair (fun i => vs[i]?) (fun i => ws[i]?) i H2 v H3) : ∃ d, (zipD xs ys)[i]? = some d ∧ Ext K pa G2 H2 G2 H3 ∧ ValT K G2 H3 v d := by
  obtain ⟨T, x, z, rfl, h2, rfl, h4, h5⟩ := y
  obtain ⟨d1, e1, q1⟩ := r1.get' h4
  obtain ⟨d2, e2, q2⟩ := r2.get' h5
  have g2 := stand_gh g st
  have sb := (stand_sub st).2
  exact ⟨_, zipD_get _ _ _ _ _ e1 e2, Ext.new0 g2 h2, .inr ⟨T, [x, z], [d1, d2], rfl, SqT.of upd_same, rfl, .cons (Da.sub sb q1) (.cons (Da.sub sb q2) .nil)⟩⟩
theorem walk_zpL {b : Bool} {a c : Addr} {vs ws : List V} {xs ys : List PyData} (g : GH K pa G H) (r1 : All2 (Da G) vs xs) (r2 : All2 (Da G) ws ys) (hw : ∀ G2 H2, cond b (Ext K pa G H G2 H2) (Sub G G2 ∧ GH K pa G2 H2) → SqL K H2 a vs ∧ SqL K H2 c ws) :
    WalkOk K pa b true (Itz K a c) (zipD xs ys) G H :=
  ⟨_, _, by rw [zipD_len, ← r1.length, ← r2.length]; exact walk_zip rfl, hw, fun i G2 H2 x H3 hi st y => ypair_ok g r1 r2 st y⟩
theorem walk_zipT {a b : Addr} {xs ys : List V} {n : Nat} (hn : n = min xs.length ys.length) : Walk (RZ.ItzT K a b) n (fun H => SqT K H a xs ∧ SqT K H b ys) (YPair (fun i => xs[i]?) (fun i => ys[i]?)) := by
  subst hn
  refine ⟨fun i _ hi q => ?_, fun _ q => ⟨xs, ys, q.1, q.2, by omega⟩, fun i H v H' _ q y => ?_⟩
  · have h1 : i < xs.length := by omega
    have h2 : i < ys.length := by omega
    exact ⟨xs, ys, xs[i], ys[i], q.1, q.2, by simp [h1], by simp [h2]⟩
  · obtain ⟨T, x, z, h1, h2, h3, h4, h5⟩ := y
    exact ⟨T, x, z, h1, h2, h3, h4 xs q.1, h5 ys q.2⟩
theorem walk_zpT {b : Bool} {a c : Addr} {vs ws : List V} {xs ys : List PyData} (g : GH K pa G H) (r1 : All2 (Da G) vs xs) (r2 : All2 (Da G) ws ys) (h1 : TupAt G a vs) (h2 : TupAt G c ws) : WalkOk K pa b true (RZ.ItzT K a c) (zipD xs ys) G H :=
  ⟨fun H => SqT K H a vs ∧ SqT K H c ws, _, by rw [zipD_len, ← r1.length, ← r2.length]; exact walk_zipT rfl, fun G2 H2 st => ⟨(h1.sub (stand_sub st).1).sq, (h2.sub (stand_sub st).1).sq⟩, fun i G2 H2 x H3 hi st y => ypair_ok g r1 r2 st y⟩
/-- a list that is read now stays so -/
theorem lst_stays {b : Bool} {v : V} {ds : List PyData} (g : GH K pa G H) (h : VB pa b G H v (.list ds)) :
    ∃ a xs, v = .ref a ∧ All2 (Da G) xs ds ∧ ∀ G2 H2, cond b (Ext K pa G H G2 H2) (Sub G G2 ∧ GH K pa G2 H2) → SqL K H2 a xs := by
  have val : Val G v (.list ds) → ∃ a xs, v = .ref a ∧ All2 (Da G) xs ds ∧ ∀ G2 H2, cond b (Ext K pa G H G2 H2) (Sub G G2 ∧ GH K pa G2 H2) → SqL K H2 a xs := fun h => by
    have h : Da G v (.list ds) := h
    cases h with
    | lst q r => exact ⟨_, _, rfl, of_das r, fun G2 H2 st => SqL.of ((stand_sub st).1 _ _ q)⟩
  cases b with
  | false => exact val h
  | true =>
    rcases h with h | ⟨a, e, n, xs, q, r⟩
    · exact val h
    · exact ⟨a, xs, e, r, fun G2 H2 st => SqL.of (st.hh _ _ n q)⟩
/-- walking a value -/
theorem snd_walk {b tp : Bool} {e : E} {x tg : Expr} (h : PE X x (tEv X.K F b e)) : PI X tg x (tEvI X.K F b tp e) := by
  refine PI.imp (pi_any h) fun σ H R ⟨pa, G, env, re, all⟩ => ?_
  refine ⟨pa, G, env, re, Tr.All_mono all fun d ⟨ds, hd, q⟩ v H1 G1 e1 b1 => ?_⟩
  have g1 := e1.gh' re.gh
  cases d with
  | list xs =>
    cases hd
    obtain ⟨a, vs, rfl, r, hw⟩ := lst_stays g1 b1
    refine .inl ⟨a, rfl, ⟨vs, hw G1 H1 ?_⟩, q _ H1 G1 e1 (walk_lst g1 r hw)⟩
    cases b with
    | true => exact Ext.refl g1
    | false => exact ⟨fun _ _ h => h, g1⟩
  | tuple xs =>
    cases hd
    obtain ⟨a, vs, rfl, h1, r⟩ := bor_tup b1.bor
    exact .inr (.inl ⟨a, rfl, ⟨vs, (h1.sub g1.sub).sq⟩, q _ H1 G1 e1 (walk_tpl g1 r h1)⟩)
  | str z =>
    cases hd
    exact .inr (.inr ⟨z, bor_str b1.bor, q _ H1 G1 e1 (walk_txt g1)⟩)
  | _ => exact nomatch hd

theorem wipe_set (i : Nat) (x : Option V) : ∀ (ws : List Nat) (σ : L2.St), wipe (σ.set i x) ws = if i ∈ ws then wipe σ ws else (wipe σ ws).set i x
  | [], σ => by simp [wipe]
  | w :: ws, σ => by
    show (wipe (σ.set i x) ws).set w none = _
    rw [wipe_set i x ws σ]
    by_cases h : i ∈ ws
    · rw [if_pos h, if_pos (List.mem_cons_of_mem _ h)]; rfl
    · rw [if_neg h]
      by_cases e : i = w
      · subst e
        rw [if_pos List.mem_cons_self, List.set_set]; rfl
      · rw [if_neg (by simp [e, h]), List.set_comm _ _ (by exact e)]; rfl
theorem Chg.one {i : Nat} {σ : L2.St} {v : Option V} : Chg [i] σ (σ.set i v) := fun ws h => by
  rw [wipe_set, if_pos (h i List.mem_cons_self)]
theorem Chg.refl {vs : List Nat} {σ : L2.St} : Chg vs σ σ := fun _ _ => rfl
theorem Chg.app {vs us : List Nat} {σ σ1 σ2 : L2.St} (h1 : Chg vs σ σ1) (h2 : Chg us σ1 σ2) : Chg (vs ++ us) σ σ2 := fun ws h => by
  rw [h2 ws fun i hi => h i (List.mem_append_right _ hi), h1 ws fun i hi => h i (List.mem_append_left _ hi)]
theorem asg1 {e : Expr} (h : nostar e = true) (es : List Expr) (env : PySem.Env) : assignEach (e :: es) env = (false, PySem.assign e env) :: assignEach es env := by
  cases e <;> first | rfl | exact nomatch h
theorem asg_len : ∀ (ts : Tg) (xs : List Expr) {ds : List PyData} {env env' : Env} {en : PySem.Env}, chkTs C ts sc xs = true → assignAll ts ds env = some env' → ds.length = (assignEach xs en).length
  | .nil, xs, ds, env, env', en, h, ha => by
    cases xs with
    | nil => cases ds with
      | nil => rfl
      | cons _ _ => exact nomatch ha
    | cons _ _ => exact nomatch h
  | .cons t ts, xs, ds, env, env', en, h, ha => by
    cases xs with
    | nil => exact nomatch h
    | cons x xs =>
      obtain ⟨h1, h3⟩ := and2 (show (nostar x && chkT C t sc x && chkTs C ts sc xs) = true from h)
      obtain ⟨h1, h2⟩ := and2 h1
      cases ds with
      | nil => exact nomatch ha
      | cons d ds =>
        have ha : ((assign t d env).bind fun env => assignAll ts ds env) = some env' := ha
        cases he : assign t d env with
        | none => rw [he] at ha; exact nomatch ha
        | some env1 =>
          rw [he] at ha
          rw [asg1 h1, List.length_cons, List.length_cons, asg_len ts xs (en := en) h3 ha]
  | .nm _, xs, ds, env, env', en, h, ha => nomatch h
  | .tp _, xs, ds, env, env', en, h, ha => nomatch h
mutual
theorem snd_tgt (o : OkX C F X sc) : ∀ (tg : Tg) (x : Expr), chkT C tg sc x = true → PG X x (tEvG X.K (isTp tg) tg)
  | .nm i, x, h => by
    cases x with
    | Name y p =>
      obtain ⟨h1, h2⟩ := and2 (show (nameAt C i y && locB sc y) = true from h)
      obtain ⟨l1, l2⟩ := o.loc h2
      refine PG.imp (pg_name (i := i) (by rw [o.nm]; exact o.nd) (o.at h1) l1 l2) fun v σ H Q ⟨pa, G, env, env', d, re, hv, ha, q⟩ => ?_
      have ha : some (setE i (.v d) env) = some env' := ha
      cases ha
      exact q _ (re.set ⟨v, rfl, hv⟩) Chg.one
    | _ => exact nomatch h
  | .tp ts, x, h => by
    cases x with
    | Tuple xs k p =>
      have h : chkTs C ts sc xs = true := h
      obtain ⟨hs, hn⟩ := snd_tgts o ts xs h
      refine PG.imp (pg_tup o.calm hs rfl (hn X.env)) fun v σ H Q ⟨pa, G, env, env', d, re, hv, ha, q⟩ => ?_
      cases d with
      | tuple ds =>
        have ha : assignAll ts ds env = some env' := ha
        have hl : ∀ (us : List V), All2 (Da G) us ds → us.length = (assignEach xs X.env).length := fun us r => by
          rw [r.length]; exact asg_len ts xs h ha
        rcases hv with hv | ⟨a, us, ds', rfl, hq, ed, r⟩
        · have hv : Da G v (.tuple ds) := hv
          cases hv with
          | tup h1 r =>
            have r := of_das r
            exact ⟨_, _, rfl, (h1.sub re.gh.sub).sq, hl _ r, pa, G, env, env', ds, re, r, ha, q⟩
        · cases ed
          exact ⟨_, _, rfl, hq, hl _ r, pa, G, env, env', ds, re, r, ha, q⟩
      | _ => exact nomatch ha
    | _ => exact nomatch h
  | .nil, x, h => nomatch h
  | .cons _ _, x, h => nomatch h
theorem snd_tgts (o : OkX C F X sc) : ∀ (tg : Tg) (xs : List Expr), chkTs C tg sc xs = true → PGs X xs (tEvGs X.K tg) ∧ ∀ env, (assignEach xs env).findIdx? (·.1) = none
  | .nil, xs, h => by
    cases xs with
    | nil =>
      refine ⟨PGs.imp pgs_nil fun vs σ H Q ⟨pa, G, env, env', ds, re, r, ha, q⟩ => ?_, fun env => rfl⟩
      cases ds with
      | nil =>
        cases r
        cases (show some env = some env' from ha)
        exact ⟨rfl, q σ re Chg.refl⟩
      | cons _ _ => exact nomatch ha
    | cons _ _ => exact nomatch h
  | .cons t ts, xs, h => by
    cases xs with
    | nil => exact nomatch h
    | cons x xs =>
      obtain ⟨h1, h3⟩ := and2 (show (nostar x && chkT C t sc x && chkTs C ts sc xs) = true from h)
      obtain ⟨h1, h2⟩ := and2 h1
      obtain ⟨hs, hn⟩ := snd_tgts o ts xs h3
      refine ⟨PGs.imp (pgs_cons (snd_tgt o t x h2) hs (by rw [asg1 h1]; rfl)) fun vs σ H Q ⟨pa, G, env, env', ds, re, r, ha, q⟩ => ?_, fun env => ?_⟩
      · cases ds with
        | nil => exact nomatch ha
        | cons d ds =>
          have ha : ((assign t d env).bind fun env => assignAll ts ds env) = some env' := ha
          cases he : assign t d env with
          | none => rw [he] at ha; exact nomatch ha
          | some env1 =>
            rw [he] at ha
            have ha : assignAll ts ds env1 = some env' := ha
            cases r with
            | cons r rs =>
              refine ⟨_, _, rfl, pa, G, env, env1, d, re, val_tp (da_val r), he, fun σ1 re1 c1 => ?_⟩
              exact ⟨pa, G, env1, env', ds, re1, rs, ha, fun σ2 re2 c2 => q σ2 re2 (c1.app c2)⟩
      · rw [asg1 h1, List.findIdx?_cons]
        simp [hn env]
  | .nm _, xs, h => nomatch h
  | .tp _, xs, h => nomatch h
end
end Ev

/-! EvSn3 -/
set_option maxHeartbeats 4000000
namespace Ev
open PySem PySem.Spec PyProof.Rows L2
variable {C : Ctx} {X : Cx} {sc : Scope} {F : Nat → Bool → List PyData → Tr PyData} {K : PySem.W.Frag} {pa : Addr} {G H : Hp} {env : Env} {σ : L2.St} {Q : VK}

theorem chkL_star : ∀ (e : E) {b : Bool} {xs : List Expr} (h : chkL C e b sc xs = true) (env : PySem.Env) (pos : Pos), (backTo pos (starEach xs env)).any (·.1) = false
  | .nil, b, xs, h, env, pos => by
    cases xs with
    | nil => rfl
    | cons _ _ => exact nomatch h
  | .cons a as, b, xs, h, env, pos => by
    cases xs with
    | nil => exact nomatch h
    | cons x xs =>
      obtain ⟨h1, h3⟩ := and2 (show (nostar x && chkE C a b none sc x && chkL C as b sc xs) = true from h)
      obtain ⟨h1, h2⟩ := and2 h1
      rw [star1 h1]
      show (false || (backTo pos (starEach xs env)).any (·.1)) = false
      rw [chkL_star as h3, Bool.false_or]
  | .var _, _, _, h, _, _ | .rd _, _, _, h, _, _ | .lit _, _, _, h, _, _ | .glb _ _, _, _, h, _, _ | .op _ _ _, _, _, h, _, _ | .neg _, _, _, h, _, _ | .cm _ _ _, _, _, h, _, _ | .chn _ _ _ _ _, _, _, h, _, _ | .and _ _, _, _, h, _, _ | .or _ _, _, _, h, _, _
  | .one _, _, _, h, _, _ | .not _, _, _, h, _, _ | .ite _ _ _, _, _, h, _, _ | .tup _, _, _, h, _, _ | .lst _, _, _, h, _, _ | .ix _ _, _, _, h, _, _ | .sl _ _ _, _, _, h, _, _ | .no, _, _, h, _, _ | .rev _, _, _, h, _, _ | .bi _ _, _, _, h, _, _ | .me _ _ _, _, _, h, _, _
  | .call _ _, _, _, h, _, _ | .callp _ _ _, _, _, h, _, _ | .draw _ _, _, _, h, _, _ | .rng _, _, _, h, _, _ | .rngl _, _, _, h, _, _ | .rngt _, _, _, h, _, _ | .zip _ _, _, _, h, _, _ | .comp _ _ _ _, _, _, h, _, _ | .yes, _, _, h, _, _ | .dct _, _, _, h, _, _ | .sortk _ _ _, _, _, h, _, _ | .sset _, _, _, h, _, _ | .lset _, _, _, h, _, _ => nomatch h
theorem chkL_head {e : E} {b : Bool} {x : Expr} {xs : List Expr} (h : chkL C e b sc (x :: xs) = true) (env : PySem.Env) (pos : Pos) : starEach (x :: xs) env = (false, eval x env) :: starEach xs env ∧ (backTo pos (starEach xs env)).any (·.1) = false := by
  have hs := chkL_star e h env pos
  have hn : nostar x = true := by
    cases e with
    | cons a as =>
      obtain ⟨h1, h3⟩ := and2 (show (nostar x && chkE C a b none sc x && chkL C as b sc xs) = true from h)
      exact (and2 h1).1
    | nil => exact nomatch h
    | _ => exact nomatch h
  rw [star1 hn] at hs ⊢
  have hs : (false || (backTo pos (starEach xs env)).any (·.1)) = false := hs
  rw [Bool.false_or] at hs
  exact ⟨rfl, hs⟩

/-- what range of ds means -/
structure RgOkD (ds : List PyData) (a b c : Int) (n : Nat) : Prop where
  sm : Builtin.Range.small a b c = true
  sz : Builtin.Range.rangeSize a b c = n
  nn : n ≤ 2 ^ 24
  c0 : c ≠ 0
  c1 : c.natAbs < 1073741824
  ar : (ds = [.int b] ∧ a = 0 ∧ c = 1) ∨ (ds = [.int a, .int b] ∧ c = 1) ∨ ds = [.int a, .int b, .int c]
theorem rngD_ok {ds its : List PyData} (h : rngD ds = some its) : ∃ a b c n, its = upI c n a ∧ RgOkD ds a b c n := by
  match ds, h with
  | [.int n], h =>
    obtain ⟨e, rfl⟩ := cond_some (show cond (small62 n && Nat.ble n.toNat lim) (some (upI 1 n.toNat 0)) none = some its from h)
    obtain ⟨e1, e2⟩ := and2 e
    obtain ⟨b1, b2⟩ := small62_iff e1
    rw [Nat.ble_eq] at e2
    have hl : lim = 16777216 := rfl
    refine ⟨0, n, 1, n.toNat, rfl, small_one (by omega) (by omega) b1 b2, ?_, by omega, by decide, by decide, .inl ⟨rfl, rfl, rfl⟩⟩
    rw [rangeSize_nat]
    simp
  | [.int a, .int b], h =>
    obtain ⟨e, rfl⟩ := cond_some (show cond (small62 a && small62 b && Nat.ble (b - a).toNat lim) (some (upI 1 (b - a).toNat a)) none = some its from h)
    obtain ⟨e1, e2⟩ := and2 e
    obtain ⟨e0, e1⟩ := and2 e1
    obtain ⟨b1, b2⟩ := small62_iff e0
    obtain ⟨b3, b4⟩ := small62_iff e1
    rw [Nat.ble_eq] at e2
    have hl : lim = 16777216 := rfl
    exact ⟨a, b, 1, (b - a).toNat, rfl, small_one b1 b2 b3 b4, rangeSize_nat a b, by omega, by decide, by decide, .inr (.inl ⟨rfl, rfl⟩)⟩
  | [.int a, .int b, .int c], h =>
    obtain ⟨e, rfl⟩ := cond_some (show cond (Builtin.Range.small a b c && !ieqB c 0 && iltB (-1000000) c && iltB c 1000000 && ileB 0 (Builtin.Range.rangeSize a b c) && Nat.ble (Builtin.Range.rangeSize a b c).toNat lim) (some (upI c (Builtin.Range.rangeSize a b c).toNat a)) none = some its from h)
    obtain ⟨e, e6⟩ := and2 e
    obtain ⟨e, e5⟩ := and2 e
    obtain ⟨e, e4⟩ := and2 e
    obtain ⟨e, e3⟩ := and2 e
    obtain ⟨e1, e2⟩ := and2 e
    rw [Nat.ble_eq] at e6
    rw [ileB_iff, decide_eq_true_eq] at e5
    rw [iltB_iff, decide_eq_true_eq] at e3 e4
    rw [ieqB_iff, Bool.not_eq_true', decide_eq_false_iff_not] at e2
    have hl : lim = 16777216 := rfl
    exact ⟨a, b, c, _, rfl, e1, by omega, by omega, e2, by omega, .inr (.inr rfl)⟩
/-- the row of arguments of range, and what comes of it -/
def tRgE (K : PySem.W.Frag) (F : Nat → Bool → List PyData → Tr PyData) (es : E) (σ : L2.St) (H : Hp) (R : Int → Int → Int → Nat → Hp → Prop) : Prop :=
  ∃ (pa : Addr) (G : Hp) (env : Env), RE K pa G env σ H ∧ (ev F es env).All fun d => ∃ ds its, d = .tuple ds ∧ rngD ds = some its ∧ ∀ a b c n H' G', Ext K pa G H G' H' → its = upI c n a → RgOkD ds a b c n → R a b c n H'
theorem vals_int1 {v : V} {i : Int} (h : VB pa true G H v (.int i)) : v = .int i := bor_int h
theorem rg_eval (o : OkX C F X sc) {y : Str} {p pos : Pos} {z : Expr} {zs : List Expr} {es : E} (hg : Gl X "range") (ha : PA X (z :: zs) (tEvA X.K F true es)) (hc : chkL C es true sc (z :: zs) = true)
    {E : Value → Shared → Prop} {pins : List (Addr × Obj)} {s : Shared} {σ : L2.St} {H : Hp} {R : Int → Int → Int → Nat → Hp → Prop} (I : Inv X pins σ H s) (h : tRgE X.K F es σ H R) :
    wpAny (model X.prog X.w) X.A (eval (.Call (.Name "range" p) (z :: zs) [] pos) X.env) (fun x s' => ∃ r a b c n t u v H' ds, x = .ref r ∧ IsRange s'.heap r a b c t u v ∧ Inv X pins σ H' s' ∧ RgOkD ds a b c n ∧ R a b c n H') X.xe s := by
  obtain ⟨h1, h2⟩ := chkL_head hc X.env pos
  have hm : X.mg "range" = none := o.blt _ (by decide +kernel)
  refine Call_ (ld_blt I hg hm boot_range (PyProof.Rows.callWith_type1 (thn (ha.run pos pins s σ H (fun vs H1 => ∃ ds its pa G1, rngD ds = some its ∧ All2 (VB pa true G1 H1) vs ds ∧ ∀ a b c n, its = upI c n a → RgOkD ds a b c n → R a b c n H1) I ?_) fun us s1 ⟨vs, H1, I1, r1, q1⟩ => ?_) h1 h2))
  · obtain ⟨pa, G, env, re, all⟩ := h
    refine ⟨pa, G, env, re, Tr.All_mono all fun d ⟨ds, its, e, e2, q⟩ => ⟨ds, e, fun vs H1 G1 e1 b1 => ⟨ds, its, pa, G1, e2, b1, fun a b c n z1 z2 => q a b c n H1 G1 e1 z1 z2⟩⟩⟩
  · obtain ⟨ds, its, pa, G1, e, hv, q⟩ := q1
    obtain ⟨a, b, c, n, e1, ok⟩ := rngD_ok e
    have qq := q a b c n e1 ok
    rcases ok.ar with ⟨rfl, rfl, rfl⟩ | ⟨rfl, rfl⟩ | rfl
    · obtain ⟨v, rfl, hv1⟩ := all2_1 hv
      obtain rfl := vals_int1 hv1
      obtain ⟨u, rfl, t, rfl⟩ := vals1 r1
      exact call_range_1 ⟨_, 0, b, 1, n, _, _, _, H1, _, rfl, IsRange.new _ _ _ _ _ _ _, I1.kept fun b u e => Heap.get?_push_of_some _ e, ok, qq⟩
    · obtain ⟨v, w, rfl, hv1, hw1⟩ := all2_2 hv
      obtain rfl := vals_int1 hv1
      obtain rfl := vals_int1 hw1
      obtain ⟨u1, u2, rfl, ⟨t, rfl⟩, t', rfl⟩ := vals2 r1
      exact call_range_2 ⟨_, a, b, 1, n, _, _, _, H1, _, rfl, IsRange.new _ _ _ _ _ _ _, I1.kept fun b u e => Heap.get?_push_of_some _ e, ok, qq⟩
    · cases hv with
      | cons hv hv' => cases hv' with
        | cons hw hv' => cases hv' with
          | cons hx hv' =>
            cases hv'
            obtain rfl := vals_int1 hv
            obtain rfl := vals_int1 hw
            obtain rfl := vals_int1 hx
            cases r1 with
            | cons r rr => cases rr with
              | cons r' rr => cases rr with
                | cons r'' rr =>
                  cases rr
                  obtain ⟨t, rfl⟩ := r
                  obtain ⟨t', rfl⟩ := r'
                  obtain ⟨t'', rfl⟩ := r''
                  exact call_range_3 ok.c0 ⟨_, a, b, c, n, _, _, _, H1, _, rfl, IsRange.new _ _ _ _ _ _ _, I1.kept fun b u e => Heap.get?_push_of_some _ e, ok, qq⟩ (.inl (PyProof.noPylong_small ok.c1))
end Ev

/-! EvSn4 -/
set_option maxHeartbeats 4000000
namespace Ev
open PySem PySem.Spec PyProof.Rows L2
variable {C : Ctx} {X : Cx} {sc : Scope} {F : Nat → Bool → List PyData → Tr PyData} {K : PySem.W.Frag} {pa : Addr} {G H : Hp} {env : Env} {σ : L2.St} {Q : VK}

/-- a node is served: as a value, a test, a row, a walk -/
structure Snd (C : Ctx) (F : Nat → Bool → List PyData → Tr PyData) (e : E) : Prop where
  pe : ∀ {X sc}, OkX C F X sc → ∀ {b x}, chkE C e b none sc x = true → PE X x (tEv X.K F b e)
  pt : ∀ {X sc}, OkX C F X sc → ∀ {b x}, chkE C e b none sc x = true → PT X x (tEvT X.K F e)
  pw : ∀ {X sc}, OkX C F X sc → ∀ {b op vs p}, chkE C e b none sc (.BoolOp op vs p) = true → PW X (.BoolOp op vs p) (tEvT X.K F e)
  pa : ∀ {X sc}, OkX C F X sc → ∀ {b xs}, chkL C e b sc xs = true → PA X xs (tEvA X.K F b e)
  p1 : ∀ {X sc}, OkX C F X sc → ∀ {b x}, chkL C e b sc [x] = true → PE X x (tEv1 X.K F b e)
  pi : ∀ {X sc}, OkX C F X sc → ∀ {b tp t x}, chkE C e b (some (tp, t)) sc x = true → PI X t x (tEvI X.K F b tp e)

/-- a value that is a bool -/
theorem vb_bool {b c : Bool} {v : V} (h : VB pa b G H v (.bool c)) : v = .bl c := bor_bool h.bor
/-- .. as a test, by its value -/
theorem pt_of {e : E} {b : Bool} {x : Expr} (h : PE X x (tEv X.K F b e)) (hv : byVal x = true) : PT X x (tEvT X.K F e) := by
  refine PT.imp (pt_val h (test1 hv X.env)) fun σ H Q ⟨pa, G, env, re, all⟩ => ?_
  refine ⟨pa, G, env, re, Tr.All_mono all fun d ⟨c, hd, q⟩ v H1 G1 e1 b1 => ?_⟩
  subst hd
  exact ⟨c, vb_bool b1, q H1 G1 e1⟩
theorem Snd.mk1 {e : E} (pe : ∀ {X sc}, OkX C F X sc → ∀ {b w x}, chkE C e b w sc x = true → PE X x (tEv X.K F b e)) (hv : ∀ {sc b w x}, chkE C e b w sc x = true → byVal x = true) (hl : ∀ b sc xs, chkL C e b sc xs = false) : Snd C F e where
  pe := fun o _ _ h => pe o h
  pt := fun o _ _ h => pt_of (pe o h) (hv h)
  pw := fun o _ _ _ _ h => nomatch hv h
  pa := fun o _ _ h => by rw [hl] at h; exact nomatch h
  p1 := fun o _ _ h => by rw [hl] at h; exact nomatch h
  pi := fun o _ _ _ _ h => snd_walk (pe o h)
/-- a node with its own test -/
theorem Snd.mk2 {e : E} (pe : ∀ {X sc}, OkX C F X sc → ∀ {b w x}, chkE C e b w sc x = true → PE X x (tEv X.K F b e)) (pt : ∀ {X sc}, OkX C F X sc → ∀ {b x}, chkE C e b none sc x = true → PT X x (tEvT X.K F e))
    (pw : ∀ {X sc}, OkX C F X sc → ∀ {b op vs p}, chkE C e b none sc (.BoolOp op vs p) = true → PW X (.BoolOp op vs p) (tEvT X.K F e)) (hl : ∀ b sc xs, chkL C e b sc xs = false) : Snd C F e where
  pe := fun o _ _ h => pe o h
  pt := pt
  pw := pw
  pa := fun o _ _ h => by rw [hl] at h; exact nomatch h
  p1 := fun o _ _ h => by rw [hl] at h; exact nomatch h
  pi := fun o _ _ _ _ h => snd_walk (pe o h)
/-- a node that is never taken -/
theorem Snd.no {e : E} (h : ∀ b w sc x, chkE C e b w sc x = false) (hl : ∀ b sc xs, chkL C e b sc xs = false) : Snd C F e where
  pe := fun o _ _ z => by rw [h] at z; exact nomatch z
  pt := fun o _ _ z => by rw [h] at z; exact nomatch z
  pw := fun o _ _ _ _ z => by rw [h] at z; exact nomatch z
  pa := fun o _ _ z => by rw [hl] at z; exact nomatch z
  p1 := fun o _ _ z => by rw [hl] at z; exact nomatch z
  pi := fun o _ _ _ _ z => by rw [h] at z; exact nomatch z

theorem snd_var (i : Nat) : Snd C F (.var i) := by
  refine Snd.mk1 (fun {X sc} o {b w x} h => ?_) (fun {sc b w x} h => ?_) fun _ _ _ => rfl
  · cases x with
    | Name y p =>
      obtain ⟨h1, h3⟩ := and2 (show (nameAt C i y && visB sc y && okN y) = true from h)
      obtain ⟨h1, h2⟩ := and2 h1
      obtain ⟨n1, n2, _⟩ := okN_ok h3
      refine PE.imp (pe_var (i := i) (o.at h1) (o.vis h2) n1 n2) fun σ H Q ⟨pa, G, env, re, all⟩ => ?_
      rw [ev_var] at all
      have sl := re.slot i
      cases hs : getE i env with
      | v d =>
        rw [hs] at all sl
        obtain ⟨v, e, hv⟩ := sl
        exact ⟨v, e, all v H G (Ext.refl re.gh) (val_vb hv)⟩
      | _ => rw [hs] at all; exact all.elim
    | _ => exact nomatch h
  · cases x <;> first | rfl | exact nomatch h
theorem snd_rd (i : Nat) : Snd C F (.rd i) := by
  refine Snd.mk1 (fun {X sc} o {b w x} h => ?_) (fun {sc b w x} h => ?_) fun _ _ _ => rfl
  · cases x with
    | Name y p =>
      obtain ⟨h1, h3⟩ := and2 (show (b && nameAt C i y && visB sc y && okN y) = true from h)
      obtain ⟨h1, h2⟩ := and2 h1
      obtain ⟨h0, h1⟩ := and2 h1
      subst h0
      obtain ⟨n1, n2, _⟩ := okN_ok h3
      refine PE.imp (pe_var (i := i) (o.at h1) (o.vis h2) n1 n2) fun σ H Q ⟨pa, G, env, re, all⟩ => ?_
      rw [ev_rd] at all
      have sl := re.slot i
      cases hs : getE i env with
      | v d =>
        rw [hs] at all sl
        obtain ⟨v, e, hv⟩ := sl
        exact ⟨v, e, all v H G (Ext.refl re.gh) (.inl hv)⟩
      | o d =>
        rw [hs] at all sl
        obtain ⟨a, e, n, _, hv⟩ := sl
        exact ⟨_, e, all _ H G (Ext.refl re.gh) (.inr ⟨a, rfl, n, hv⟩)⟩
      | _ => rw [hs] at all; exact all.elim
    | _ => exact nomatch h
  · cases x <;> first | rfl | exact nomatch h
theorem snd_lit (d : PyData) : Snd C F (.lit d) := by
  refine Snd.mk1 (fun {X sc} o {b w x} h => ?_) (fun {sc b w x} h => ?_) fun _ _ _ => rfl
  · cases x with
    | Constant c k p =>
      have h : litIs d c = true := h
      have fin : ∀ v, Da (fun _ => none) v d → ∀ σ H Q, tEv X.K F b (.lit d) σ H Q → tC v σ H Q := fun v hv σ H Q ⟨pa, G, env, re, all⟩ =>
        (show (Tr.ret d).All _ from all) v H G (Ext.refl re.gh) (val_vb (da_val (Da.sub (fun _ _ z => nomatch (show (none : Option HO) = some _ from z)) hv)))
      cases d with
      | none => cases c with
        | none => exact PE.imp pe_non (fin _ .non)
        | _ => exact nomatch h
      | bool a => cases c with
        | bool a' =>
          have e : a = a' := by cases a <;> cases a' <;> first | rfl | exact nomatch h
          subst e
          exact PE.imp pe_bl (fin _ (.bl a))
        | _ => exact nomatch h
      | int i => cases c with
        | int j =>
          have e : i = j := by
            have h : ieqB i j = true := h
            rw [ieqB_iff, decide_eq_true_eq] at h
            exact h
          subst e
          exact PE.imp pe_int (fin _ (.int i))
        | _ => exact nomatch h
      | str i => cases c with
        | str j =>
          have e : i = j := strEq_eq h
          subst e
          exact PE.imp pe_str (fin _ (.str i))
        | _ => exact nomatch h
      | _ => cases c <;> exact nomatch h
    | _ => exact nomatch h
  · cases x <;> first | rfl | exact nomatch h
theorem snd_glb (k : Nat) (d : PyData) : Snd C F (.glb k d) := by
  refine Snd.mk1 (fun {X sc} o {b w x} h => ?_) (fun {sc b w x} h => ?_) fun _ _ _ => rfl
  · cases x with
    | Name y p =>
      obtain ⟨h1, h2⟩ := and2 (show (glB sc y && okN y && (match C.gls[k]? with | some (z, d') => strEq z y && leafD d && eqv d d' && leafD d' | none => false)) = true from h)
      obtain ⟨h0, h1⟩ := and2 h1
      obtain ⟨n1, n2, _⟩ := okN_ok h1
      split at h2
      · rename_i z d' hg
        obtain ⟨h2, h5⟩ := and2 h2
        obtain ⟨h2, h4⟩ := and2 h2
        obtain ⟨h2, h3⟩ := and2 h2
        have e := strEq_eq h2
        subst e
        obtain ⟨g1, g2⟩ := o.gls k z d' hg
        have fin : ∀ v, Da (fun _ => none) v d → ∀ σ H Q, tEv X.K F b (.glb k d) σ H Q → tC v σ H Q := fun v hv σ H Q ⟨pa, G, env, re, all⟩ =>
          (show (Tr.ret d).All _ from all) v H G (Ext.refl re.gh) (val_vb (da_val (Da.sub (fun _ _ z => nomatch (show (none : Option HO) = some _ from z)) hv)))
        cases d with
        | int i => cases d' with
          | int j =>
            have h4 : ieqB i j = true := h4
            rw [ieqB_iff, decide_eq_true_eq] at h4
            subst h4
            obtain ⟨t, ht⟩ := g1 i rfl
            exact PE.imp (pe_glob (v := .int i) (o.gl h0) ht ⟨t, rfl⟩ n1) (fin _ (.int i))
          | str _ => exact nomatch h4
          | _ => exact nomatch h5
        | str i => cases d' with
          | str j =>
            have h4 : strEq i j = true := h4
            have e := strEq_eq h4
            subst e
            obtain ⟨t, ht⟩ := g2 i rfl
            exact PE.imp (pe_glob (v := .str i) (o.gl h0) ht ⟨t, rfl⟩ n1) (fin _ (.str i))
          | int _ => exact nomatch h4
          | _ => exact nomatch h5
        | _ => exact nomatch h3
      · exact nomatch h2
    | _ => exact nomatch h
  · cases x <;> first | rfl | exact nomatch h

theorem opIs_eq {o : Op} {p : Operator} (h : opIs o p = true) : p = opK o := by cases o <;> cases p <;> first | rfl | exact nomatch h
theorem cmIs_eq {o : Cm} {p : CmpOp} (h : cmIs o p = true) : p = cmK o := by cases o <;> cases p <;> first | rfl | exact nomatch h
theorem snd_op (op : Op) (a c : E) (sa : Snd C F a) (sc' : Snd C F c) : Snd C F (.op op a c) := by
  refine Snd.mk1 (fun {X sc} o {b w x} h => ?_) (fun {sc b w x} h => ?_) fun _ _ _ => rfl
  · cases x with
    | BinOp l p r pos =>
      obtain ⟨h1, h3⟩ := and2 (show (opIs op p && chkE C a true none sc l && chkE C c true none sc r) = true from h)
      obtain ⟨h1, h2⟩ := and2 h1
      rw [opIs_eq h1]
      exact PE.imp (pe_op (op_snd op) (sa.pe o h2) (sc'.pe o h3)) fun σ H Q q => snd_op2 (fun env => rfl) q
    | _ => exact nomatch h
  · cases x <;> first | rfl | exact nomatch h
theorem snd_neg (a : E) (sa : Snd C F a) : Snd C F (.neg a) := by
  refine Snd.mk1 (fun {X sc} o {b w x} h => ?_) (fun {sc b w x} h => ?_) fun _ _ _ => rfl
  · cases x with
    | UnaryOp op y pos => cases op with
      | USub =>
        have h : chkE C a true none sc y = true := h
        refine PE.imp (pe_un un_neg (sa.pe o h)) fun σ H Q ⟨pa, G, env, re, all⟩ => ?_
        refine ⟨pa, G, env, re, Tr.All_mono (Tr.All_bind (t := ev F a env) all) fun d hd v H1 G1 e1 b1 => ?_⟩
        cases d with
        | int i => exact ⟨i, bor_int b1.bor, hd _ H1 G1 e1 (val_vb (Da.int _))⟩
        | _ => exact hd.elim
      | _ => exact nomatch h
    | _ => exact nomatch h
  · cases x with
    | UnaryOp op y pos => cases op <;> first | rfl | exact nomatch h
    | _ => exact nomatch h
theorem snd_cm (c : Cm) (a d : E) (sa : Snd C F a) (sd : Snd C F d) : Snd C F (.cm c a d) := by
  have pe : ∀ {X sc}, OkX C F X sc → ∀ {b w x}, chkE C (.cm c a d) b w sc x = true → PE X x (tEv X.K F b (.cm c a d)) := fun {X sc} o {b w x} h => by
    cases x with
    | Compare l ops rs pos =>
      match ops, rs, h with
      | [p], [r], h =>
        obtain ⟨h1, h4⟩ := and2 (show (cmIs c p && chkE C a true none sc l && chkE C d true none sc r && !behindInMarks p r) = true from h)
        obtain ⟨h1, h3⟩ := and2 h1
        obtain ⟨h1, h2⟩ := and2 h1
        rw [cmIs_eq h1] at h4 ⊢
        rw [Bool.not_eq_true'] at h4
        exact PE.imp (pe_cmpR (cm_snd o.hu c) (sa.pe o h2) (sd.pe o h3) h4) fun σ H Q q => snd_op2 (f := fun a b => (cmD c a b).map PyData.bool) (fun env => rfl) q
    | _ => exact nomatch h
  refine Snd.mk2 pe (fun {X sc} o {b x} h => ?_) (fun {X sc} o {b op vs p} h => nomatch h) fun _ _ _ => rfl
  cases x with
  | Compare l ops rs pos =>
    match ops, rs, h with
    | [p], [r], h =>
      obtain ⟨h1, h4⟩ := and2 (show (cmIs c p && chkE C a true none sc l && chkE C d true none sc r && !behindInMarks p r) = true from h)
      obtain ⟨h1, h3⟩ := and2 h1
      obtain ⟨h1, h2⟩ := and2 h1
      rw [cmIs_eq h1] at h4 ⊢
      rw [Bool.not_eq_true'] at h4
      refine PT.imp (pt_cmpR (cm_snd o.hu c) (sa.pe o h2) (sd.pe o h3) h4) fun σ H Q ⟨pa, G, env, re, all⟩ => ?_
      have : tEv X.K F true (.cm c a d) σ H fun x H' => ∃ k, x = V.bl k ∧ Q k H' := by
        refine ⟨pa, G, env, re, Tr.All_mono all fun y ⟨k, hk, q⟩ v H1 G1 e1 b1 => ?_⟩
        subst hk
        exact ⟨k, vb_bool b1, q H1 G1 e1⟩
      exact snd_op2 (f := fun a b => (cmD c a b).map PyData.bool) (fun env => rfl) this
  | _ => exact nomatch h

theorem iteD {c : Bool} {P R : Prop} (h1 : c = true → P) (h2 : c = false → R) : if c = true then P else R := by
  cases c with
  | true => exact h1 rfl
  | false => exact h2 rfl
theorem snd_chn (c c' : Cm) (a d e : E) (sa : Snd C F a) (sd : Snd C F d) (se : Snd C F e) : Snd C F (.chn c c' a d e) := by
  -- the walk of a chain, from what the evaluator says
  have core : ∀ {X sc} (o : OkX C F X sc) {σ H} {Q : VK}, tEv X.K F true (.chn c c' a d e) σ H Q → tChain (RC X c) (RC X c') (tEv X.K F true a) (tEv X.K F true d) (tEv X.K F true e) σ H Q := fun {X sc} o {σ H Q} ⟨pa, G, env, re, all⟩ => by
    refine ⟨pa, G, env, re, Tr.All_mono (Tr.All_bind (t := ev F a env) all) fun x hx v H1 G1 e1 b1 => ?_⟩
    refine ⟨pa, G1, env, re.ext e1, Tr.All_mono (Tr.All_bind (t := ev F d env) hx) fun y hy u H2 G2 e2 b2 => ?_⟩
    have re2 := (re.ext e1).ext e2
    have b1' : Bor pa G1 H1 v x := b1
    have b2' : Bor pa G2 H2 u y := b2
    cases hc : cmD c x y with
    | none => rw [hc] at hy; exact hy.elim
    | some k =>
      rw [hc] at hy
      refine ⟨pa, G2, x, y, .bool k, re2.gh, b1'.ext e2, b2', by show (cmD c x y).map PyData.bool = _; rw [hc]; rfl, fun z H3 G3 e3 hz => ?_⟩
      refine ⟨k, bor_bool (pa := pa) (H := H3) (.inl hz), iteD (fun hk => ?_) fun hk => ?_⟩
      · subst hk
        refine ⟨pa, G3, env, re2.ext e3, Tr.All_mono (Tr.All_bind (t := ev F e env) hy) fun w hw z' H4 G4 e4 b4 => ?_⟩
        obtain ⟨r, hr, q⟩ := Tr.All_ofO hw
        have b4' : Bor pa G4 H4 z' w := b4
        exact ⟨pa, G4, y, w, r, e4.gh' (re2.ext e3).gh, (b2'.ext e3).ext e4, b4', hr, fun z2 H5 G5 e5 h5 => q z2 H5 G5 ((((e1.trans e2).trans e3).trans e4).trans e5) (.inl h5)⟩
      · subst hk
        exact hy _ H3 G3 ((e1.trans e2).trans e3) (.inl (Da.bl false))
  have pe : ∀ {X sc}, OkX C F X sc → ∀ {b w x}, chkE C (.chn c c' a d e) b w sc x = true → PE X x (tEv X.K F b (.chn c c' a d e)) := fun {X sc} o {b w x} h => by
    cases x with
    | Compare l ops rs pos =>
      match ops, rs, h with
      | [p, p'], [m, r], h =>
        obtain ⟨h1, h6⟩ := and2 (show (cmIs c p && cmIs c' p' && chkE C a true none sc l && chkE C d true none sc m && chkE C e true none sc r && !lastMarks [p, p'] [m, r]) = true from h)
        obtain ⟨h1, h5⟩ := and2 h1
        obtain ⟨h1, h4⟩ := and2 h1
        obtain ⟨h1, h3⟩ := and2 h1
        obtain ⟨h1, h2⟩ := and2 h1
        rw [cmIs_eq h1, cmIs_eq h2] at h6 ⊢
        rw [Bool.not_eq_true'] at h6
        refine PE.imp (pe_chain (cm_snd o.hu c) (cm_snd o.hu c') (sa.pe o h3) (sd.pe o h4) (se.pe o h5) h6) fun σ H Q q => core o ?_
        obtain ⟨pa, G, env, re, all⟩ := q
        have hb : (ev F (.chn c c' a d e) env).All fun d => ∃ k, d = .bool k ∧ ∀ v H' G', Ext X.K pa G H G' H' → VB pa b G' H' v d → Q v H' := by
          refine Tr.bind_All (t := ev F a env) (Tr.All_mono (Tr.All_bind (t := ev F a env) all) fun x hx => ?_)
          refine Tr.bind_All (t := ev F d env) (Tr.All_mono (Tr.All_bind (t := ev F d env) hx) fun y hy => ?_)
          cases hc : cmD c x y with
          | none => rw [hc] at hy; exact hy.elim
          | some k =>
            rw [hc] at hy
            cases k with
            | false => exact ⟨false, rfl, hy⟩
            | true =>
              refine Tr.bind_All (t := ev F e env) (Tr.All_mono (Tr.All_bind (t := ev F e env) hy) fun z hz => ?_)
              show (Tr.ofO ((cmD c' y z).map PyData.bool)).All _
              have hz : (Tr.ofO ((cmD c' y z).map PyData.bool)).All _ := hz
              cases hc2 : cmD c' y z with
              | none => rw [hc2] at hz; exact hz.elim
              | some k2 =>
                rw [hc2] at hz
                exact ⟨k2, rfl, hz⟩
        exact ⟨pa, G, env, re, Tr.All_mono hb fun d ⟨k, hk, q⟩ v H1 G1 e1 b1 => by
          subst hk
          refine q v H1 G1 e1 (val_vb ?_)
          rw [bor_bool b1.bor]
          exact Da.bl k⟩
    | _ => exact nomatch h
  refine Snd.mk2 pe (fun {X sc} o {b x} h => ?_) (fun {X sc} o {b op vs p} h => nomatch h) fun _ _ _ => rfl
  cases x with
  | Compare l ops rs pos =>
    match ops, rs, h with
    | [p, p'], [m, r], h =>
      obtain ⟨h1, h6⟩ := and2 (show (cmIs c p && cmIs c' p' && chkE C a true none sc l && chkE C d true none sc m && chkE C e true none sc r && !lastMarks [p, p'] [m, r]) = true from h)
      obtain ⟨h1, h5⟩ := and2 h1
      obtain ⟨h1, h4⟩ := and2 h1
      obtain ⟨h1, h3⟩ := and2 h1
      obtain ⟨h1, h2⟩ := and2 h1
      rw [cmIs_eq h1, cmIs_eq h2] at h6 ⊢
      rw [Bool.not_eq_true'] at h6
      refine PT.imp (pt_chain (cm_snd o.hu c) (cm_snd o.hu c') (sa.pe o h3) (sd.pe o h4) (se.pe o h5) h6) fun σ H Q ⟨pa, G, env, re, all⟩ => core o ?_
      refine ⟨pa, G, env, re, Tr.All_mono all fun y ⟨k, hk, q⟩ v H1 G1 e1 b1 => ?_⟩
      subst hk
      exact ⟨k, vb_bool b1, q H1 G1 e1⟩
  | _ => exact nomatch h

theorem snd_and (a d : E) (sa : Snd C F a) (sd : Snd C F d) : Snd C F (.and a d) := by
  have pe : ∀ {X sc}, OkX C F X sc → ∀ {b w x}, chkE C (.and a d) b w sc x = true → PE X x (tEv X.K F b (.and a d)) := fun {X sc} o {b w x} h => by
    cases x with
    | BoolOp op vs pos =>
      match op, vs, h with
      | .And, l :: m :: r, h =>
        obtain ⟨h1, h2⟩ := and2 (show (chkE C a true none sc l && chkE C d b none sc (.BoolOp .And (m :: r) pos)) = true from h)
        refine PE.imp (pe_and (sa.pe o h1) (sd.pe o h2)) fun σ H Q ⟨pa, G, env, re, all⟩ => ?_
        refine ⟨pa, G, env, re, Tr.All_mono (Tr.All_bind (t := ev F a env) all) fun x hx v H1 G1 e1 b1 => ?_⟩
        cases x with
        | bool k =>
          refine ⟨k, vb_bool b1, iteD (fun hk => ?_) fun hk => ?_⟩
          · subst hk
            exact ⟨pa, G1, env, re.ext e1, Tr.All_mono hx fun y hy u H2 G2 e2 b2 => hy u H2 G2 (e1.trans e2) b2⟩
          · subst hk
            exact hx _ H1 G1 e1 (val_vb (Da.bl false))
        | _ => exact hx.elim
    | _ => exact nomatch h
  have pw : ∀ {X sc}, OkX C F X sc → ∀ {b op vs p}, chkE C (.and a d) b none sc (.BoolOp op vs p) = true → PW X (.BoolOp op vs p) (tEvT X.K F (.and a d)) := fun {X sc} o {b op vs pos} h => by
    match op, vs, h with
    | .And, l :: m :: r, h =>
      obtain ⟨h1, h2⟩ := and2 (show (chkE C a true none sc l && chkE C d b none sc (.BoolOp .And (m :: r) pos)) = true from h)
      refine PW.imp (pw_and (sa.pt o h1) (sd.pw o h2)) fun σ H Q ⟨pa, G, env, re, all⟩ => ?_
      refine ⟨pa, G, env, re, Tr.All_mono (Tr.All_bind (t := ev F a env) all) fun x hx => ?_⟩
      cases x with
      | bool k =>
        refine ⟨k, rfl, fun H1 G1 e1 => iteD (fun hk => ?_) fun hk => ?_⟩
        · subst hk
          exact ⟨pa, G1, env, re.ext e1, Tr.All_mono hx fun y ⟨c, hc, q⟩ => ⟨c, hc, fun H2 G2 e2 => q H2 G2 (e1.trans e2)⟩⟩
        · subst hk
          obtain ⟨c, hc, q⟩ := hx
          cases hc
          exact q H1 G1 e1
      | _ => exact hx.elim
  refine Snd.mk2 pe (fun {X sc} o {b x} h => ?_) pw fun _ _ _ => rfl
  cases x with
  | BoolOp op vs pos => exact (pw o h).pt
  | _ => exact nomatch h
theorem snd_or (a d : E) (sa : Snd C F a) (sd : Snd C F d) : Snd C F (.or a d) := by
  have pe : ∀ {X sc}, OkX C F X sc → ∀ {b w x}, chkE C (.or a d) b w sc x = true → PE X x (tEv X.K F b (.or a d)) := fun {X sc} o {b w x} h => by
    cases x with
    | BoolOp op vs pos =>
      match op, vs, h with
      | .Or, l :: m :: r, h =>
        obtain ⟨h1, h2⟩ := and2 (show (chkE C a true none sc l && chkE C d b none sc (.BoolOp .Or (m :: r) pos)) = true from h)
        refine PE.imp (pe_or (sa.pe o h1) (sd.pe o h2)) fun σ H Q ⟨pa, G, env, re, all⟩ => ?_
        refine ⟨pa, G, env, re, Tr.All_mono (Tr.All_bind (t := ev F a env) all) fun x hx v H1 G1 e1 b1 => ?_⟩
        cases x with
        | bool k =>
          refine ⟨k, vb_bool b1, iteD (fun hk => ?_) fun hk => ?_⟩
          · subst hk
            exact hx _ H1 G1 e1 (val_vb (Da.bl true))
          · subst hk
            exact ⟨pa, G1, env, re.ext e1, Tr.All_mono hx fun y hy u H2 G2 e2 b2 => hy u H2 G2 (e1.trans e2) b2⟩
        | _ => exact hx.elim
    | _ => exact nomatch h
  have pw : ∀ {X sc}, OkX C F X sc → ∀ {b op vs p}, chkE C (.or a d) b none sc (.BoolOp op vs p) = true → PW X (.BoolOp op vs p) (tEvT X.K F (.or a d)) := fun {X sc} o {b op vs pos} h => by
    match op, vs, h with
    | .Or, l :: m :: r, h =>
      obtain ⟨h1, h2⟩ := and2 (show (chkE C a true none sc l && chkE C d b none sc (.BoolOp .Or (m :: r) pos)) = true from h)
      refine PW.imp (pw_or (sa.pt o h1) (sd.pw o h2)) fun σ H Q ⟨pa, G, env, re, all⟩ => ?_
      refine ⟨pa, G, env, re, Tr.All_mono (Tr.All_bind (t := ev F a env) all) fun x hx => ?_⟩
      cases x with
      | bool k =>
        refine ⟨k, rfl, fun H1 G1 e1 => iteD (fun hk => ?_) fun hk => ?_⟩
        · subst hk
          obtain ⟨c, hc, q⟩ := hx
          cases hc
          exact q H1 G1 e1
        · subst hk
          exact ⟨pa, G1, env, re.ext e1, Tr.All_mono hx fun y ⟨c, hc, q⟩ => ⟨c, hc, fun H2 G2 e2 => q H2 G2 (e1.trans e2)⟩⟩
      | _ => exact hx.elim
  refine Snd.mk2 pe (fun {X sc} o {b x} h => ?_) pw fun _ _ _ => rfl
  cases x with
  | BoolOp op vs pos => exact (pw o h).pt
  | _ => exact nomatch h
theorem snd_one (a : E) (sa : Snd C F a) : Snd C F (.one a) := by
  have pe : ∀ {X sc}, OkX C F X sc → ∀ {b w x}, chkE C (.one a) b w sc x = true → PE X x (tEv X.K F b (.one a)) := fun {X sc} o {b w x} h => by
    cases x with
    | BoolOp op vs pos =>
      match vs, h with
      | [l], h => exact pe_one (sa.pe o h)
    | _ => exact nomatch h
  have pw : ∀ {X sc}, OkX C F X sc → ∀ {b op vs p}, chkE C (.one a) b none sc (.BoolOp op vs p) = true → PW X (.BoolOp op vs p) (tEvT X.K F (.one a)) := fun {X sc} o {b op vs pos} h => by
    match vs, h with
    | [l], h => cases op with
      | And => exact pw_and1 (sa.pt o h)
      | Or => exact pw_or1 (sa.pt o h)
  refine Snd.mk2 pe (fun {X sc} o {b x} h => ?_) pw fun _ _ _ => rfl
  cases x with
  | BoolOp op vs pos => exact (pw o h).pt
  | _ => exact nomatch h
theorem snd_not (a : E) (sa : Snd C F a) : Snd C F (.not a) := by
  have pe : ∀ {X sc}, OkX C F X sc → ∀ {b w x}, chkE C (.not a) b w sc x = true → PE X x (tEv X.K F b (.not a)) := fun {X sc} o {b w x} h => by
    cases x with
    | UnaryOp op y pos => cases op with
      | Not =>
        refine PE.imp (pe_not (sa.pe o (show chkE C a true none sc y = true from h))) fun σ H Q ⟨pa, G, env, re, all⟩ => ?_
        refine ⟨pa, G, env, re, Tr.All_mono (Tr.All_bind (t := ev F a env) all) fun x hx v H1 G1 e1 b1 => ?_⟩
        cases x with
        | bool k => exact ⟨k, vb_bool b1, hx _ H1 G1 e1 (val_vb (Da.bl _))⟩
        | _ => exact hx.elim
      | _ => exact nomatch h
    | _ => exact nomatch h
  refine Snd.mk2 pe (fun {X sc} o {b x} h => ?_) (fun {X sc} o {b op vs p} h => nomatch h) fun _ _ _ => rfl
  cases x with
  | UnaryOp op y pos => cases op with
    | Not =>
      refine PT.imp (pt_not (sa.pt o (show chkE C a true none sc y = true from h))) fun σ H Q ⟨pa, G, env, re, all⟩ => ?_
      refine ⟨pa, G, env, re, Tr.All_mono (Tr.All_bind (t := ev F a env) all) fun x hx => ?_⟩
      cases x with
      | bool k =>
        obtain ⟨c, hc, q⟩ := hx
        cases hc
        exact ⟨k, rfl, q⟩
      | _ => exact hx.elim
    | _ => exact nomatch h
  | _ => exact nomatch h
theorem snd_ite (t a d : E) (st : Snd C F t) (sa : Snd C F a) (sd : Snd C F d) : Snd C F (.ite t a d) := by
  have pe : ∀ {X sc}, OkX C F X sc → ∀ {b w x}, chkE C (.ite t a d) b w sc x = true → PE X x (tEv X.K F b (.ite t a d)) := fun {X sc} o {b w x} h => by
    cases x with
    | IfExp c l r pos =>
      obtain ⟨h1, h3⟩ := and2 (show (chkE C t true none sc c && chkE C a b none sc l && chkE C d b none sc r) = true from h)
      obtain ⟨h1, h2⟩ := and2 h1
      refine PE.imp (pe_ifExp (st.pt o h1) (sa.pe o h2) (sd.pe o h3)) fun σ H Q ⟨pa, G, env, re, all⟩ => ?_
      refine ⟨pa, G, env, re, Tr.All_mono (Tr.All_bind (t := ev F t env) all) fun x hx => ?_⟩
      cases x with
      | bool k =>
        refine ⟨k, rfl, fun H1 G1 e1 => iteD (fun hk => ?_) fun hk => ?_⟩
        · subst hk
          exact ⟨pa, G1, env, re.ext e1, Tr.All_mono hx fun y hy u H2 G2 e2 b2 => hy u H2 G2 (e1.trans e2) b2⟩
        · subst hk
          exact ⟨pa, G1, env, re.ext e1, Tr.All_mono hx fun y hy u H2 G2 e2 b2 => hy u H2 G2 (e1.trans e2) b2⟩
      | _ => exact hx.elim
    | _ => exact nomatch h
  refine Snd.mk2 pe (fun {X sc} o {b x} h => ?_) (fun {X sc} o {b op vs p} h => nomatch h) fun _ _ _ => rfl
  cases x with
  | IfExp c l r pos =>
    obtain ⟨h1, h3⟩ := and2 (show (chkE C t true none sc c && chkE C a b none sc l && chkE C d b none sc r) = true from h)
    obtain ⟨h1, h2⟩ := and2 h1
    refine ⟨fun pins s σ H Q I ⟨pa, G, env, re, all⟩ => ?_⟩
    show wpAny _ _ (isTrue c X.env (eval c X.env) >>= fun k => if k = true then isTrue l X.env (eval l X.env) else isTrue r X.env (eval r X.env)) _ _ s
    refine wpAny_bind (thn ((st.pt o h1).run pins s σ H (fun k H1 => ∃ G1, Ext X.K pa G H G1 H1 ∧ (cond k (ev F a env) (ev F d env)).All fun d => ∃ c, d = .bool c ∧ ∀ H' G', Ext X.K pa G H G' H' → Q c H') I ?_) fun k s1 ⟨H1, I1, G1, e1, q⟩ => ?_)
    · refine ⟨pa, G, env, re, Tr.All_mono (Tr.All_bind (t := ev F t env) all) fun x hx => ?_⟩
      cases x with
      | bool k => exact ⟨k, rfl, fun H1 G1 e1 => ⟨G1, e1, by cases k <;> exact hx⟩⟩
      | _ => exact hx.elim
    · cases k with
      | true => exact (sa.pt o h2).run pins s1 σ H1 Q I1 ⟨pa, G1, env, re.ext e1, Tr.All_mono q fun y ⟨c, hc, q⟩ => ⟨c, hc, fun H2 G2 e2 => q H2 G2 (e1.trans e2)⟩⟩
      | false => exact (sd.pt o h3).run pins s1 σ H1 Q I1 ⟨pa, G1, env, re.ext e1, Tr.All_mono q fun y ⟨c, hc, q⟩ => ⟨c, hc, fun H2 G2 e2 => q H2 G2 (e1.trans e2)⟩⟩
  | _ => exact nomatch h
end Ev

/-! EvSet -/
set_option maxHeartbeats 4000000
namespace Ev
open PySem PySem.Spec PyProof.Rows L2
/-- the object that set.__new__ makes -/
abbrev newSet (w : World) : Obj := { cls := .type "set", dict := none, data := .set #[] 0 (.fresh 0 0 (!w.params.followText "set-order")) }
section
variable {P : Program} {w : World} {A : Around} {E : Value → Shared → Prop} {s : Shared}
set_option maxHeartbeats 6400000 in
/-- set(a list of ints) -/
theorem set_of_list {l : Addr} {items : Array Value} (ns : List Int) {Q : Value → Shared → Prop} (hh : A.handled = none) (hl : s.heap.IsList l items) (hit : IntsAre items.toList ns) (hb : ns.length + 1 < scanBound)
    (h : ∀ (h' : Heap) (tk c : Nat), SetR w h' s.heap.objs.size (fun j => decide (j ∈ ns)) c → c ≤ ns.length → (∀ b o, s.heap.get? b = some o → h'.get? b = some o) → Q (.ref s.heap.objs.size) { s with heap := h', toks := tk }) :
    wpAny (model P w) A (call (.type "set") [.ref l]) Q E s := by
  have hisz : items.size = ns.length := (Array.length_toList (xs := items)).symm.trans (IntsAre.length hit)
  obtain ⟨_, _, hmro⟩ := F.called_set.mro
  have f1 := F.called_set.made; have f2 := F.called_set.sub; have f3 := F.called_set.notType; have f4 := F.called_set.canCreate; have f5 := F.typeCall_set_1 (.ref l)
  refine wpAny_call (codeAny_of_tree (show wpAny _ _ (callAny (.type "set") _) _ _ _ from wpAny_pure ⟨Code.quiet_builtin _ (by decide +kernel), codeAny_builtin F.entry_type_call ?_⟩))
  rw [Around.under_plain (weight_type_call_type "set" [.ref l] []) rfl]
  repeat (any_goals (first | assumption | wp_step))
  refine codeAny_mono (code_set_led1 (P := P) (w := w) (.ref l) (E := E) (Q₁ := fun obj s₁ => obj = .ref s.heap.objs.size ∧ s₁ = { s with heap := s.heap.push (newSet w) }) ⟨rfl, rfl⟩) fun r s₁ hr => ?_
  match r, hr with
  | .error e, hr => exact hr
  | .ok (.next), hr | .ok (.brk), hr | .ok (.cont), hr => exact hr.elim
  | .ok (.ret obj), hr =>
    obtain ⟨rfl, rfl⟩ := hr
    have hS : (s.heap.push (newSet w)).get? s.heap.objs.size = some (newSet w) := Heap.get?_push_size _ rfl
    have hT : Shared.TypeIs { s with heap := s.heap.push (newSet w) } (.ref s.heap.objs.size) "set" := ⟨_, hS, rfl⟩
    have g1 := F.called_set.init.lookup; have g2 := F.called_set.init.bind (.ref s.heap.objs.size)
    repeat (any_goals (first | assumption | wp_step))
    refine codeAny_mono (codeAny_call_builtin (R := wants (fun r s₂ => r = .none ∧ ∃ h' tk c, s₂ = { s with heap := h', toks := tk } ∧ SetR w h' s.heap.objs.size (fun j => decide (j ∈ ns)) c ∧ c ≤ ns.length ∧
        (∀ b o, s.heap.get? b = some o → h'.get? b = some o)) E) F.called_set.init.plain F.entry_set_init (check_set_init_1 hT ?_)) fun r₂ s₂ hr₂ => ?_
    · obtain ⟨⟨oc, od, odt, osl⟩, hol, hcl, nl, hdl⟩ := hl
      have hcl : oc = _ := hcl
      have hdl : odt = _ := hdl
      subst hcl hdl
      have k1 : (s.heap.push (newSet w)).get? l = some { cls := .type "list", dict := od, data := .seq items nl, slots := osl } := Heap.get?_push_of_some _ hol
      have k2 := F.sub_list_set; have k3 := F.sub_list_frozenset; have k4 : (Value.type "list" == Value.type "dict") = false := by decide
      have hl1 : (s.heap.push (newSet w)).IsList l items := ⟨_, k1, rfl, nl, rfl⟩
      unfold Builtin.«set.__init__» noKeywords Builtin.Frozenset.updateFrom
      generalize hPI : pyIter = PI
      wp_walk
      subst hPI
      refine wpAny_pyIter_list hl1 (wpAny_bind (wpAny_runValue ?_))
      have hlS : l < s.heap.objs.size := Heap.lt_size hol
      have sz : (s.heap.push (newSet w)).objs.size = s.heap.objs.size + 1 := Heap.size_push ..
      have hval : ∀ (i : Nat) (v : Value), items[i]? = some v → ∃ k t, ns[i]? = some k ∧ v = .int k t := fun i v hv => by
        obtain ⟨t, e⟩ := IntsAre.int_at hit i v (by rw [Array.getElem?_toList]; exact hv)
        have hi : i < ns.length := hisz ▸ (Array.getElem?_eq_some_iff.mp hv).1
        exact ⟨ns[i], t, List.getElem?_eq_getElem hi, by rw [e, List.getD_eq_getElem?_getD, List.getElem?_eq_getElem hi] <;> rfl⟩
      have nI : l ≠ (s.heap.push (newSet w)).objs.size := Nat.ne_of_lt (by rw [Heap.size_push]; exact Nat.lt_succ_of_lt hlS)
      have nS : s.heap.objs.size ∉ [(s.heap.push (newSet w)).objs.size, l] := fun z => by
        rcases List.mem_cons.mp z with z | z
        · exact absurd z (Nat.ne_of_lt (by rw [Heap.size_push]; exact Nat.lt_succ_self _))
        · exact absurd (List.mem_singleton.mp z) (Nat.ne_of_gt hlS)
      refine set_update_ints (P := P) (w := w) ((Walks.list (A := A.in1.in1.in1) (by simp [hh]) _ l nI items).toS) s.heap.objs.size nS ns hisz hb hval (items.size - 0) 0 _ (by omega) (Nat.zero_le _)
        ⟨⟨_, Heap.get?_push_size _ rfl, rfl, rfl⟩, hl1.push _⟩ ⟨0, Nat.le_refl 0, setR_new_at (Heap.get?_push_of_some _ hS)⟩ fun s' c' hm hc' hS' => ?_
      obtain ⟨h', g2, d', tk', os'⟩ := s'
      cases (show g2 = s.gens from hm.gens)
      cases (show d' = s.drawn from hm.drawn)
      cases (show os' = s.os from hm.os)
      refine wpAny_pure (show wpAny _ _ (ret Value.none) _ _ _ from wpAny_pure ⟨rfl, h', tk', c', rfl, hS', by omega, fun b o e => ?_⟩)
      have hb0 : b < s.heap.objs.size := Heap.lt_size e
      exact hm.heap b o (fun z => by
        rcases List.mem_cons.mp z with z | z
        · exact absurd z (Nat.ne_of_lt hb0)
        · exact absurd (List.mem_singleton.mp z) (Nat.ne_of_lt (by rw [Heap.size_push]; exact Nat.lt_succ_of_lt hb0))) (Heap.get?_push_of_some _ (Heap.get?_push_of_some _ e))
    · match r₂, hr₂ with
      | .error e, hr₂ => exact hr₂
      | .ok (.next), hr₂ | .ok (.brk), hr₂ | .ok (.cont), hr₂ => exact hr₂.elim
      | .ok (.ret _), hr₂ =>
        obtain ⟨rfl, h', tk, c, rfl, q1, q2, q3⟩ := hr₂
        repeat (any_goals (first | assumption | wp_step))
        exact h _ _ _ q1 q2 q3
end
end Ev

/-! EvSnS -/
set_option maxHeartbeats 4000000
namespace Ev
open PySem PySem.Spec PyProof.Rows L2
variable {C : Ctx} {X : Cx} {sc : Scope} {F : Nat → Bool → List PyData → Tr PyData} {K : PySem.W.Frag} {pa : Addr} {G H : Hp} {env : Env} {σ : L2.St} {Q : VK}
theorem insU_mem {x k : Int} : ∀ {l : List Int}, k ∈ insU x l ↔ k = x ∨ k ∈ l
  | [] => by simp [insU]
  | y :: ys => by
    simp only [insU]
    cases h1 : iltB x y with
    | true => simp
    | false => cases h2 : ieqB x y with
      | true =>
        rw [ieqB_iff, decide_eq_true_eq] at h2
        subst h2
        simp
      | false =>
        show k ∈ y :: insU x ys ↔ _
        rw [List.mem_cons, insU_mem, List.mem_cons]
        constructor
        · rintro (h | h | h) <;> simp [h]
        · rintro (h | h | h) <;> simp [h]
theorem insU_pw {x : Int} : ∀ {l : List Int}, l.Pairwise (· < ·) → (insU x l).Pairwise (· < ·)
  | [], _ => by simp [insU]
  | y :: ys, h => by
    obtain ⟨a, b⟩ := List.pairwise_cons.mp h
    simp only [insU]
    cases h1 : iltB x y with
    | true =>
      rw [iltB_iff, decide_eq_true_eq] at h1
      refine List.pairwise_cons.mpr ⟨fun z hz => ?_, h⟩
      rcases List.mem_cons.mp hz with e | e
      · omega
      · have := a z e; omega
    | false =>
      rw [iltB_iff, decide_eq_false_iff_not] at h1
      cases h2 : ieqB x y with
      | true => exact h
      | false =>
        rw [ieqB_iff, decide_eq_false_iff_not] at h2
        refine List.pairwise_cons.mpr ⟨fun z hz => ?_, insU_pw b⟩
        rcases insU_mem.mp hz with e | e
        · omega
        · exact a z e
theorem sortU_mem {k : Int} : ∀ {l : List Int}, k ∈ sortU l ↔ k ∈ l
  | [] => Iff.rfl
  | x :: xs => by
    show k ∈ insU x (sortU xs) ↔ _
    rw [insU_mem, sortU_mem, List.mem_cons]
theorem sortU_pw : ∀ (l : List Int), (sortU l).Pairwise (· < ·)
  | [] => .nil
  | _ :: xs => insU_pw (sortU_pw xs)
theorem pw_ext : ∀ {a b : List Int}, a.Pairwise (· < ·) → b.Pairwise (· < ·) → (∀ k, k ∈ a ↔ k ∈ b) → a = b
  | [], [], _, _, _ => rfl
  | [], y :: ys, _, _, h => by have := (h y).mpr List.mem_cons_self; simp at this
  | x :: xs, [], _, _, h => by have := (h x).mp List.mem_cons_self; simp at this
  | x :: xs, y :: ys, p, q, h => by
    obtain ⟨p1, p2⟩ := List.pairwise_cons.mp p
    obtain ⟨q1, q2⟩ := List.pairwise_cons.mp q
    have e : x = y := by
      rcases List.mem_cons.mp ((h x).mp List.mem_cons_self) with e | e
      · exact e
      · rcases List.mem_cons.mp ((h y).mpr List.mem_cons_self) with e' | e'
        · exact e'.symm
        · have := p1 y e'; have := q1 x e; omega
    subst e
    rw [pw_ext p2 q2 fun k => ?_]
    have hk := h k
    rw [List.mem_cons, List.mem_cons] at hk
    constructor
    · intro z
      rcases hk.mp (.inr z) with e | e
      · have := p1 k z; omega
      · exact e
    · intro z
      rcases hk.mpr (.inr z) with e | e
      · have := q1 k z; omega
      · exact e
theorem ints_das {G : Hp} : ∀ (ns : List Int), All2 (Da G) (ns.map V.int) (ns.map .int)
  | [] => .nil
  | n :: ns => .cons (Da.int n) (ints_das ns)
def rSetI (K : PySem.W.Frag) (w : World) : List V → Hp → VK → Prop := fun xs H Q => ∃ (l : Addr) (ns : List Int), xs = [V.ref l] ∧ (SqL K H l (ns.map V.int) ∨ SqT K H l (ns.map V.int)) ∧ ns.length < 4000 ∧
  ∀ a c, H a = none → c ≤ ns.length → Q (.ref a) (upd H a (SetO w a (fun j => decide (j ∈ ns)) c))
theorem ints_vals : ∀ {ns : List Int} {us : List Value}, Vals (ns.map V.int) us → IntsAre us ns
  | [], _, .nil => .nil
  | n :: ns, _, .cons r t => by
    obtain ⟨k, rfl⟩ := r
    exact .cons n k (ints_vals t)
theorem cr_setI (hc : X.calm = true) : CallR X (.type "set") (rSetI X.K X.w) := by
  intro pins s σ H xs us Q I r h
  obtain ⟨l, ns, rfl, hl, hn, q⟩ := h
  rw [Vals.ref1 r]
  have fr : H s.heap.objs.size = none := I.hok.fresh (Nat.le_refl _)
  rcases hl with hl | hl
  · obtain ⟨its, rv, pl, hz⟩ := I.list hl
    exact set_of_list (P := X.prog) (w := X.w) ns (I.ok.hd hc) pl.isList (by simpa using ints_vals rv) (by unfold scanBound; omega) fun h' tk c R hcl k =>
      ⟨.ref s.heap.objs.size, _, I.laid (t' := tk) k (Nat.le_refl _) (setO_new R), rfl, q _ c fr hcl⟩
  · obtain ⟨its, rv, pl, hz⟩ := I.tuple hl
    exact call_set_tupI (P := X.prog) (w := X.w) ns (I.ok.hd hc) pl (by simpa using ints_vals rv) (by unfold scanBound; omega) fun h' tk c R hcl k =>
      ⟨.ref s.heap.objs.size, _, I.laid (t' := tk) k (Nat.le_refl _) (setO_new R), rfl, q _ c fr hcl⟩
theorem setR_count {w : World} {h : Heap} {a : Addr} {ns : List Int} {c : Nat} (R : SetR w h a (fun j => decide (j ∈ ns)) c) : c = (sortU ns).length := by
  obtain ⟨o, es, ep, t, ho, hex, hd, g, nd, hm, hb, hf, hn, hr, hl⟩ := R
  have p : (es.toList.map keyOf).Perm (sortU ns) := by
    refine (List.perm_ext_iff_of_nodup nd ((sortU_pw ns).imp fun z e => by omega)).mpr fun k => ?_
    rw [sortU_mem]
    have := hm k
    simpa using this.symm
  have := p.length_eq
  rw [List.length_map, Array.length_toList] at this
  omega
def rLenS (w : World) : List V → Hp → VK → Prop := fun xs H Q => ∃ (a : Addr) (ns : List Int) (c : Nat), xs = [V.ref a] ∧ H a = some (SetO w a (fun j => decide (j ∈ ns)) c) ∧ Q (.int (sortU ns).length) H
theorem cr_lenS : CallR X (.builtin "len") (rLenS X.w) := by
  intro pins s σ H xs us Q I r h
  obtain ⟨a, ns, c, rfl, ha, q⟩ := h
  rw [Vals.ref1 r]
  have R := setO_get I ha
  have e := setR_count R
  obtain ⟨o, es, ep, t, ho, hex, hd, _, _, _, hb, hf, hn, _⟩ := R
  have hb' : es.size < 4096 := hb
  exact call_len_set ho hex hd hf (by omega) ⟨.int c, H, I.tok _, ⟨_, by rw [hn]⟩, by rw [e]; exact q⟩
/-- the ints of a list or tuple that may be read -/
theorem bor_ints {b : V} {d : PyData} {ns : List Int} (sub : Sub G H) (h : Bor pa G H b d) (e : (items d).bind asInts = some ns) : ∃ a, b = .ref a ∧ (SqL K H a (ns.map V.int) ∨ SqT K H a (ns.map V.int)) := by
  cases hi : items d with
  | none => rw [hi] at e; exact nomatch e
  | some ds =>
    rw [hi] at e
    have e : asInts ds = some ns := e
    obtain ⟨a, xs, rfl, r, h2⟩ := bor_items sub h hi
    rw [asInts_eq e] at r
    have ex := das_ints r
    subst ex
    refine ⟨a, rfl, ?_⟩
    rcases h2 with ⟨h2, _⟩ | ⟨h2, _, _⟩
    · exact .inl (SqL.of h2)
    · exact .inr h2.sq
theorem snd_sset (es : E) (ss : Snd C F es) : Snd C F (.sset es) := by
  refine Snd.mk1 (fun {X sc} o {b w x} h => ?_) (fun {sc b w x} h => ?_) fun _ _ _ => rfl
  · simp only [chkE] at h
    split at h
    · rename_i y p y' p' z zs q pos
      obtain ⟨h1, h7⟩ := and2 h
      obtain ⟨h1, h6⟩ := and2 h1
      obtain ⟨h1, h5⟩ := and2 h1
      obtain ⟨h1, h4⟩ := and2 h1
      obtain ⟨h1, h3⟩ := and2 h1
      obtain ⟨hgl, h2⟩ := and2 h1
      have e := strEq_eq h2
      subst e
      have e := strEq_eq h5
      subst e
      obtain ⟨s1, s2⟩ := chkL_head h7 X.env q
      refine PE.imp (pe_callB (cr_sortedSet o.calm) (o.gl hgl) (o.blt _ (by decide +kernel)) boot_sorted (pa_cons (pe_callTy (cr_setI o.calm) (o.gl h4) (o.blt _ (by decide +kernel)) boot_set (ss.pa o h7) (by decide +kernel) (by decide +kernel) s1 s2) pa_nil) (by decide +kernel) (by decide +kernel) rfl rfl) fun σ H Q ⟨pa, G, env, re, all⟩ => ?_
      refine ⟨pa, G, env, re, Tr.All_mono (Tr.All_bind (t := ev F es env) all) fun y hy => ?_⟩
      cases y with
      | tuple ys =>
        refine ⟨ys, rfl, fun vs H1 G1 e1 b1 => ?_⟩
        have g1 := e1.gh' re.gh
        obtain ⟨r, hr, qq⟩ := Tr.All_ofO (show (Tr.ofO (ssetD ys)).All _ from hy)
        match ys, hr, b1 with
        | [d], hr, b1 =>
          obtain ⟨v, rfl, hv⟩ := all2_1 b1
          have hr : (((items d).bind asInts).bind fun ns => cond (Nat.blt ns.length 64) (some (.list ((sortU ns).map .int))) none) = some r := hr
          cases hi : (items d).bind asInts with
          | none => rw [hi] at hr; exact nomatch hr
          | some ns =>
            rw [hi] at hr
            obtain ⟨hl, rfl⟩ := cond_some hr
            rw [Nat.blt_eq] at hl
            obtain ⟨a, rfl, hs⟩ := bor_ints (K := X.K) g1.sub hv.bor hi
            refine ⟨a, ns, rfl, hs, by omega, fun p c np hc => ⟨p, _, c, rfl, upd_same, by omega, fun ns' t pw mem _ nt => ?_⟩⟩
            have en : ns' = sortU ns := pw_ext pw (sortU_pw ns) fun k => by rw [mem k, sortU_mem, decide_eq_true_eq]
            subst en
            have e2 := Ext.new0 (o := SetO X.w p (fun j => decide (j ∈ ns)) c) g1 np
            have g2 := e2.gh' g1
            have e3 := Ext.new (o := .lst ((sortU ns).map V.int)) g2 nt
            exact qq (.ref t) _ _ ((e1.trans e2).trans e3) (val_vb (show Da _ _ (.list _) from Da.lst upd_same (das_of (ints_das _))))
      | _ => exact hy.elim
    · exact nomatch h
  · simp only [chkE] at h
    split at h
    · rfl
    · exact nomatch h
theorem intsEq_iff : ∀ {x y : List Int}, intsEq x y = decide (x = y)
  | [], [] => rfl
  | [], _ :: _ => rfl
  | _ :: _, [] => rfl
  | x :: xs, y :: ys => by
    show cond (ieqB x y) (intsEq xs ys) false = _
    rw [ieqB_iff, intsEq_iff (x := xs)]
    by_cases h1 : x = y
    · by_cases h2 : xs = ys <;> simp [h1, h2]
    · simp [h1]
theorem memI_iff {x : List Int} : ∀ {ys : List (List Int)}, memI x ys = decide (x ∈ ys)
  | [] => by simp [memI]
  | y :: ys => by
    show cond (intsEq x y) true (memI x ys) = _
    rw [intsEq_iff, memI_iff (ys := ys)]
    by_cases h1 : x = y
    · simp [h1]
    · by_cases h2 : x ∈ ys <;> simp [h1, h2]
theorem onceI_mem {k : List Int} : ∀ {l : List (List Int)}, k ∈ onceI l ↔ k ∈ l
  | [] => Iff.rfl
  | x :: xs => by
    show k ∈ cond (memI x xs) (onceI xs) (x :: onceI xs) ↔ _
    rw [memI_iff]
    by_cases h : x ∈ xs
    · rw [decide_eq_true h]
      show k ∈ onceI xs ↔ _
      rw [onceI_mem (l := xs), List.mem_cons]
      exact ⟨.inr, fun z => z.elim (fun e => e ▸ h) id⟩
    · rw [decide_eq_false h]
      show k ∈ x :: onceI xs ↔ _
      rw [List.mem_cons, onceI_mem (l := xs), List.mem_cons]
theorem onceI_nodup : ∀ (l : List (List Int)), (onceI l).Nodup
  | [] => .nil
  | x :: xs => by
    show (cond (memI x xs) (onceI xs) (x :: onceI xs)).Nodup
    rw [memI_iff]
    by_cases h : x ∈ xs
    · rw [decide_eq_true h]; exact onceI_nodup xs
    · rw [decide_eq_false h]
      exact List.nodup_cons.mpr ⟨fun z => h (onceI_mem.mp z), onceI_nodup xs⟩
theorem tups_of {G : Hp} (sub : Sub G H) : ∀ {us : List V} {ds : List PyData} {kk : List (List Int)}, All2 (Da G) us ds → asTups ds = some kk →
    ∃ ks : List (Addr × List Int), us = ks.map (fun p => V.ref p.1) ∧ ks.map (·.2) = kk ∧ ∀ p ∈ ks, SqT K H p.1 (p.2.map V.int)
  | _, [], kk, .nil, e => by
    cases e
    exact ⟨[], rfl, rfl, fun p h => (nomatch h)⟩
  | u :: us, d :: ds, kk, .cons r t, e => by
    cases d with
    | tuple xs =>
      have e : ((asInts xs).bind fun ns => (asTups ds).map (ns :: ·)) = some kk := e
      cases h1 : asInts xs with
      | none => rw [h1] at e; exact nomatch e
      | some ns =>
        rw [h1] at e
        have e : (asTups ds).map (ns :: ·) = some kk := e
        cases h2 : asTups ds with
        | none => rw [h2] at e; exact nomatch e
        | some k2 =>
          rw [h2] at e
          cases e
          obtain ⟨ks, e1, e2, e3⟩ := tups_of sub t h2
          cases r with
          | @tup a ws _ q rr =>
            have ew := das_ints (asInts_eq h1 ▸ of_das rr)
            subst ew
            refine ⟨(a, ns) :: ks, by rw [e1]; rfl, by rw [List.map_cons, e2], fun p hp => ?_⟩
            rcases List.mem_cons.mp hp with z | z
            · rw [z]; exact (q.sub sub).sq
            · exact e3 p z
    | _ => exact nomatch e
theorem SqT.sub' {H' : Hp} {a : Addr} {xs : List V} (s : Sub H H') (r : SqT K H a xs) : SqT K H' a xs := r.imp (Rd.sub s) id
def rLenT (K : PySem.W.Frag) (P : Program) (w : World) : List V → Hp → VK → Prop := fun vs H Q => ∃ (a : Addr) (L : List (Addr × List Int)), vs = [V.ref a] ∧ H a = some (SetTO P w a L) ∧ (∀ p ∈ L, SqT K H p.1 (p.2.map V.int)) ∧ ((L.map (·.2)).Nodup → Q (.int (L.length : Nat)) H)
theorem cr_lenT : CallR X (.builtin "len") (rLenT X.K X.prog X.w) := by
  intro pins s σ H vs us Q I r h
  obtain ⟨a, L, rfl, ha, hk, q⟩ := h
  have R0 : SetT0 X.prog X.w s.heap a L := (I.hok a _ ha).1
  obtain ⟨es, ep, t, R⟩ := R0.full fun p hp => L2.Inv.isT I (hk p hp)
  rw [Vals.ref1 r]
  obtain ⟨o, ho, hex, hd⟩ := R.ob
  have hsz := R.size
  have few := R.few
  exact call_len_set ho hex hd R.fits (by omega) ⟨.int L.length, H, I.tok _, ⟨_, by rw [hsz]⟩, q R.nd⟩
theorem snd_lset (es : E) (ss : Snd C F es) : Snd C F (.lset es) := by
  refine Snd.mk1 (fun {X sc} o {b w x} h => ?_) (fun {sc b w x} h => ?_) fun _ _ _ => rfl
  · simp only [chkE] at h
    split at h
    · rename_i y p y' p' z zs q pos
      obtain ⟨h1, h7⟩ := and2 h
      obtain ⟨h1, h6⟩ := and2 h1
      obtain ⟨h1, h5⟩ := and2 h1
      obtain ⟨h1, h4⟩ := and2 h1
      obtain ⟨h1, h3⟩ := and2 h1
      obtain ⟨hgl, h2⟩ := and2 h1
      have e := strEq_eq h2
      subst e
      have e := strEq_eq h5
      subst e
      obtain ⟨s1, s2⟩ := chkL_head h7 X.env q
      refine PE.imp (pe_callB (CallR.or cr_lenS cr_lenT) (o.gl hgl) (o.blt _ (by decide +kernel)) boot_len (pa_cons (pe_callTy (CallR.or (cr_setI o.calm) (cr_setOfT o.calm o.hu)) (o.gl h4) (o.blt _ (by decide +kernel)) boot_set (ss.pa o h7) (by decide +kernel) (by decide +kernel) s1 s2) pa_nil) (by decide +kernel) (by decide +kernel) rfl rfl) fun σ H Q ⟨pa, G, env, re, all⟩ => ?_
      refine ⟨pa, G, env, re, Tr.All_mono (Tr.All_bind (t := ev F es env) all) fun y hy => ?_⟩
      cases y with
      | tuple ys =>
        refine ⟨ys, rfl, fun vs H1 G1 e1 b1 => ?_⟩
        have g1 := e1.gh' re.gh
        obtain ⟨r, hr, qq⟩ := Tr.All_ofO (show (Tr.ofO (lsetD ys)).All _ from hy)
        match ys, hr, b1 with
        | [d], hr, b1 =>
          obtain ⟨v, rfl, hv⟩ := all2_1 b1
          have hr : (match (items d).bind asInts with
            | some ns => cond (Nat.blt ns.length 4000) (some (PyData.int (sortU ns).length)) none
            | none => lsetT d) = some r := hr
          cases hi : (items d).bind asInts with
          | some ns =>
            rw [hi] at hr
            obtain ⟨hl, rfl⟩ := cond_some hr
            rw [Nat.blt_eq] at hl
            obtain ⟨a, rfl, hs⟩ := bor_ints (K := X.K) g1.sub hv.bor hi
            refine .inl ⟨a, ns, rfl, hs, hl, fun p c np hc => .inl ⟨p, ns, c, rfl, upd_same, ?_⟩⟩
            exact qq _ _ _ (e1.trans (Ext.new0 g1 np)) (val_vb (show Da _ _ (.int _) from Da.int _))
          | none =>
            rw [hi] at hr
            cases d with
            | list xs =>
              have hr : ((asTups xs).bind fun ks => cond (Nat.blt ks.length 64) (some (PyData.int (onceI ks).length)) none) = some r := hr
              cases ht : asTups xs with
              | none => rw [ht] at hr; exact nomatch hr
              | some kk =>
                rw [ht] at hr
                obtain ⟨hl, rfl⟩ := cond_some hr
                rw [Nat.blt_eq] at hl
                obtain ⟨a, us, rfl, h1, r1⟩ := bor_lst g1.sub hv.bor
                obtain ⟨ks, rfl, rfl, h3⟩ := tups_of (K := X.K) g1.sub r1 ht
                rw [List.length_map] at hl
                refine .inr ⟨a, ks, rfl, SqL.of h1, h3, hl, fun p L np hsub hall => .inr ⟨p, L, rfl, upd_same, fun q hq => SqT.sub' (sub_upd np) (h3 q (hsub q hq)), fun nd => ?_⟩⟩
                have en : L.length = (onceI (ks.map (·.2))).length := by
                  have pm : (L.map (·.2)).Perm (onceI (ks.map (·.2))) := (List.perm_ext_iff_of_nodup nd (onceI_nodup _)).mpr fun k => by
                    rw [onceI_mem]
                    constructor
                    · intro z
                      obtain ⟨q, hq, rfl⟩ := List.mem_map.mp z
                      exact List.mem_map.mpr ⟨q, hsub q hq, rfl⟩
                    · intro z
                      obtain ⟨q, hq, rfl⟩ := List.mem_map.mp z
                      exact hall q hq
                  have := pm.length_eq
                  rwa [List.length_map] at this
                rw [en]
                exact qq _ _ _ (e1.trans (Ext.new0 g1 np)) (val_vb (show Da _ _ (.int _) from Da.int _))
            | _ => exact nomatch hr
      | _ => exact hy.elim
    · exact nomatch h
  · simp only [chkE] at h
    split at h
    · rfl
    · exact nomatch h
end Ev

/-! EvSn5 -/
set_option maxHeartbeats 4000000
namespace Ev
open PySem PySem.Spec PyProof.Rows L2
variable {C : Ctx} {X : Cx} {sc : Scope} {F : Nat → Bool → List PyData → Tr PyData} {K : PySem.W.Frag} {pa : Addr} {G H : Hp} {env : Env} {σ : L2.St} {Q : VK}

/-- a row -/
theorem Snd.mkL {e : E} (pa : ∀ {X sc}, OkX C F X sc → ∀ {b xs}, chkL C e b sc xs = true → PA X xs (tEvA X.K F b e)) (p1 : ∀ {X sc}, OkX C F X sc → ∀ {b x}, chkL C e b sc [x] = true → PE X x (tEv1 X.K F b e)) (h : ∀ b w sc x, chkE C e b w sc x = false) : Snd C F e where
  pe := fun o _ _ z => by rw [h] at z; exact nomatch z
  pt := fun o _ _ z => by rw [h] at z; exact nomatch z
  pw := fun o _ _ _ _ z => by rw [h] at z; exact nomatch z
  pa := pa
  p1 := p1
  pi := fun o _ _ _ _ z => by rw [h] at z; exact nomatch z
theorem snd_nil : Snd C F .nil := by
  refine Snd.mkL (fun {X sc} o {b xs} h => ?_) (fun {X sc} o {b x} h => nomatch h) fun _ _ _ _ => rfl
  cases xs with
  | nil =>
    refine PA.imp pa_nil fun σ H Q ⟨pa, G, env, re, all⟩ => ?_
    obtain ⟨ds, hd, q⟩ := (show (Tr.ret (PyData.tuple [])).All _ from all)
    cases hd
    exact q [] H G (Ext.refl re.gh) .nil
  | cons _ _ => exact nomatch h
theorem all2_ext {b : Bool} {G' H' : Hp} {vs : List V} {ds : List PyData} (e : Ext K pa G H G' H') (h : All2 (VB pa b G H) vs ds) : All2 (VB pa b G' H') vs ds := h.mono fun _ _ => VB.ext e
theorem snd_cons (a as : E) (sa : Snd C F a) (ss : Snd C F as) : Snd C F (.cons a as) := by
  refine Snd.mkL (fun {X sc} o {b xs} h => ?_) (fun {X sc} o {b x} h => ?_) fun _ _ _ _ => rfl
  rotate_left
  · obtain ⟨h1, h3⟩ := and2 (show (nostar x && chkE C a b none sc x && chkL C as b sc []) = true from h)
    obtain ⟨h1, h2⟩ := and2 h1
    refine PE.imp (sa.pe o h2) fun σ H Q ⟨pa, G, env, re, all⟩ => ?_
    cases as with
    | nil =>
      refine ⟨pa, G, env, re, Tr.All_mono (Tr.All_bind (t := ev F a env) all) fun x hx v H1 G1 e1 b1 => ?_⟩
      obtain ⟨d1, hd, q⟩ := (show (Tr.ret (PyData.tuple [x])).All _ from hx)
      cases hd
      exact q v H1 G1 e1 b1
    | cons _ _ => exact nomatch h3
    | _ => exact nomatch h3
  cases xs with
  | nil => exact nomatch h
  | cons x xs =>
    obtain ⟨h1, h3⟩ := and2 (show (nostar x && chkE C a b none sc x && chkL C as b sc xs) = true from h)
    obtain ⟨h1, h2⟩ := and2 h1
    refine PA.imp (pa_cons (sa.pe o h2) (ss.pa o h3) (star1 h1 xs X.env)) fun σ H Q ⟨pa, G, env, re, all⟩ => ?_
    refine ⟨pa, G, env, re, Tr.All_mono (Tr.All_bind (t := ev F a env) all) fun x hx v H1 G1 e1 b1 => ?_⟩
    refine ⟨pa, G1, env, re.ext e1, Tr.All_mono (Tr.All_bind (t := ev F as env) hx) fun y hy => ?_⟩
    cases y with
    | tuple ys =>
      obtain ⟨ds, hd, q⟩ := hy
      cases hd
      exact ⟨ys, rfl, fun vs H2 G2 e2 b2 => q (v :: vs) H2 G2 (e1.trans e2) (.cons (b1.ext e2) b2)⟩
    | _ => exact hy.elim
/-- a row of values that stand still: no dicts -/
theorem vals_da {vs : List V} {ds : List PyData} (h : All2 (VB pa false G H) vs ds) : All2 (Val G) vs ds := h
theorem val_da {v : V} {d : PyData} (h : Val G v d) : Da G v d := by
  cases d with
  | dict kvs => exact h.elim
  | _ => exact h
theorem snd_tup (es : E) (ss : Snd C F es) : Snd C F (.tup es) := by
  refine Snd.mk1 (fun {X sc} o {b w x} h => ?_) (fun {sc b w x} h => ?_) fun _ _ _ => rfl
  · cases x with
    | Tuple xs k pos =>
      refine PE.imp (pe_tupF (ss.pa o (show chkL C es false sc xs = true from h))) fun σ H Q ⟨pa, G, env, re, all⟩ => ?_
      refine ⟨pa, G, env, re, Tr.All_mono (Tr.All_bind (t := ev F es env) all) fun y hy => ?_⟩
      cases y with
      | tuple ys =>
        refine ⟨ys, rfl, fun vs H1 G1 e1 b1 => ?_⟩
        have hy : (cond (lenOk ys) (Tr.ret (PyData.tuple ys)) Tr.fail).All _ := hy
        cases hl : lenOk ys with
        | false => rw [hl] at hy; exact hy.elim
        | true =>
          rw [hl] at hy
          have r : Res X.K pa G1 H1 (.tuple ys) Q := fun v H2 G2 e2 hv => hy v H2 G2 (e1.trans e2) (val_vb hv)
          exact ⟨by rw [b1.length]; exact lenOk_iff.mp hl, r.tup (e1.gh' re.gh) (b1.mono fun _ _ => val_da)⟩
      | _ => exact hy.elim
    | _ => exact nomatch h
  · cases x <;> first | rfl | exact nomatch h
theorem snd_lst (es : E) (ss : Snd C F es) : Snd C F (.lst es) := by
  refine Snd.mk1 (fun {X sc} o {b w x} h => ?_) (fun {sc b w x} h => ?_) fun _ _ _ => rfl
  · cases x with
    | List xs pos =>
      refine PE.imp (pe_lst (ss.pa o (show chkL C es false sc xs = true from h))) fun σ H Q ⟨pa, G, env, re, all⟩ => ?_
      refine ⟨pa, G, env, re, Tr.All_mono (Tr.All_bind (t := ev F es env) all) fun y hy => ?_⟩
      cases y with
      | tuple ys =>
        refine ⟨ys, rfl, fun vs H1 G1 e1 b1 => ?_⟩
        have hy : (cond (lenOk ys) (Tr.ret (PyData.list ys)) Tr.fail).All _ := hy
        cases hl : lenOk ys with
        | false => rw [hl] at hy; exact hy.elim
        | true =>
          rw [hl] at hy
          have r : Res X.K pa G1 H1 (.list ys) Q := fun v H2 G2 e2 hv => hy v H2 G2 (e1.trans e2) (val_vb hv)
          exact ⟨by rw [b1.length]; exact lenOk_iff.mp hl, r.lst (e1.gh' re.gh) (b1.mono fun _ _ => val_da)⟩
      | _ => exact hy.elim
    | _ => exact nomatch h
  · cases x <;> first | rfl | exact nomatch h

theorem snd_ix (a i : E) (sa : Snd C F a) (si : Snd C F i) : Snd C F (.ix a i) := by
  refine Snd.mk1 (fun {X sc} o {b w x} h => ?_) (fun {sc b w x} h => ?_) fun _ _ _ => rfl
  · cases x with
    | Subscript l r pos =>
      obtain ⟨h1, h3⟩ := and2 (show (noslice r && chkE C a true none sc l && chkE C i true none sc r) = true from h)
      obtain ⟨h1, h2⟩ := and2 h1
      exact PE.imp (pe_ix (ix_snd o.hu) (sa.pe o h2) (si.pe o h3) (slice1 h1)) fun σ H Q q => snd_op2 (f := ixD) (fun env => rfl) q
    | _ => exact nomatch h
  · cases x <;> first | rfl | exact nomatch h
/-- a part of a slice -/
def tEvO (K : PySem.W.Frag) (F : Nat → Bool → List PyData → Tr PyData) (e : E) : TO := fun σ H Q =>
  ∃ (pa : Addr) (G : Hp) (env : Env), RE K pa G env σ H ∧ (ev F e env).All fun d => ∃ p, partD d = some p ∧ ∀ H' G', Ext K pa G H G' H' → Q p H'
theorem po_snd {X : Cx} {sc : Scope} (o : OkX C F X sc) {e : E} (s : Snd C F e) (x : Option Expr) (h : (match x with | some y => chkE C e true none sc y | none => isNo e) = true) : PO X x (tEvO X.K F e) := by
  cases x with
  | none =>
    have h : isNo e = true := h
    cases e with
    | no =>
      refine PO.imp po_none fun σ H Q ⟨pa, G, env, re, all⟩ => ?_
      obtain ⟨p, hp, q⟩ := (show (Tr.ret PyData.none).All _ from all)
      cases hp
      exact q H G (Ext.refl re.gh)
    | _ => exact nomatch h
  | some y =>
    refine ⟨fun pins t σ H Q I ⟨pa, G, env, re, all⟩ => ?_⟩
    rw [evalPart_some]
    refine thn ((s.pe o h).run pins t σ H (fun x H1 => (∃ i, x = .int i ∧ Q (some i) H1) ∨ (x = .non ∧ Q none H1)) I ?_) fun u s1 ⟨x, H1, I1, r1, q1⟩ => ?_
    · refine ⟨pa, G, env, re, Tr.All_mono all fun d ⟨p, hp, q⟩ v H1 G1 e1 b1 => ?_⟩
      cases d with
      | int i =>
        cases hp
        exact .inl ⟨i, bor_int b1.bor, q H1 G1 e1⟩
      | none =>
        cases hp
        exact .inr ⟨bor_none b1.bor, q H1 G1 e1⟩
      | _ => exact nomatch hp
    · rcases q1 with ⟨i, rfl, q⟩ | ⟨rfl, q⟩
      · obtain ⟨t, rfl⟩ := r1
        exact ⟨some i, H1, I1, .int i t, q⟩
      · cases r1
        exact ⟨none, H1, I1, .none, q⟩
theorem snd_sl (a lo hi : E) (sa : Snd C F a) (s1 : Snd C F lo) (s2 : Snd C F hi) : Snd C F (.sl a lo hi) := by
  refine Snd.mk1 (fun {X sc} o {b w x} h => ?_) (fun {sc b w x} h => ?_) fun _ _ _ => rfl
  · cases x with
    | Subscript l r pos => cases r with
      | Slice x1 x2 x3 p3 => cases x3 with
        | none =>
          obtain ⟨h1, h3⟩ := and2 (show (chkE C a true none sc l && (match (generalizing := false) x1 with | some y => chkE C lo true none sc y | none => isNo lo) && (match (generalizing := false) x2 with | some y => chkE C hi true none sc y | none => isNo hi)) = true from h)
          obtain ⟨h1, h2⟩ := and2 h1
          refine PE.imp (pe_slice sl_snd (sa.pe o h1) (po_snd o s1 x1 h2) (po_snd o s2 x2 h3)) fun σ H Q ⟨pa, G, env, re, all⟩ => ?_
          refine ⟨pa, G, env, re, Tr.All_mono (Tr.All_bind (t := ev F a env) all) fun x hx v H1 G1 e1 b1 => ?_⟩
          refine ⟨pa, G1, env, re.ext e1, Tr.All_mono (Tr.All_bind (t := ev F lo env) hx) fun y hy => ?_⟩
          cases hp : partD y with
          | none => rw [hp] at hy; exact hy.elim
          | some p =>
            rw [hp] at hy
            have hy := Tr.All_bind (t := ev F hi env) hy
            refine ⟨p, rfl, fun H2 G2 e2 => ?_⟩
            refine ⟨pa, G2, env, (re.ext e1).ext e2, Tr.All_mono hy fun z hz => ?_⟩
            obtain ⟨r, hr, q⟩ := Tr.All_ofO hz
            have hr : ((partD z).bind fun q => sl1 x p q) = some r := hr
            cases hp2 : partD z with
            | none => rw [hp2] at hr; exact nomatch hr
            | some p2 =>
              rw [hp2] at hr
              refine ⟨p2, rfl, fun H3 G3 e3 => ?_⟩
              have b1' : Bor pa G1 H1 v x := b1
              exact ⟨pa, G3, x, r, e3.gh' (e2.gh' (e1.gh' re.gh)), (b1'.ext e2).ext e3, hr, fun u H4 G4 e4 hv => q u H4 G4 (((e1.trans e2).trans e3).trans e4) (val_vb hv)⟩
        | some _ => exact nomatch h
      | _ => exact nomatch h
    | _ => exact nomatch h
  · cases x <;> first | rfl | exact nomatch h
end Ev

/-! EvSn6 -/
set_option maxHeartbeats 4000000
namespace Ev
open PySem PySem.Spec PyProof.Rows L2
variable {C : Ctx} {X : Cx} {sc : Scope} {F : Nat → Bool → List PyData → Tr PyData} {K : PySem.W.Frag} {pa : Addr} {G H : Hp} {env : Env} {σ : L2.St} {Q : VK}

theorem snd_rev (a : E) (sa : Snd C F a) : Snd C F (.rev a) := by
  refine Snd.mk1 (fun {X sc} o {b w x} h => ?_) (fun {sc b w x} h => ?_) fun _ _ _ => rfl
  · match x, h with
    | .Subscript l (.Slice none none (some (.UnaryOp .USub (.Constant (.int 1) k p1) p2)) p3) p4, h =>
      refine PE.imp (pe_revA (sa.pe o (show chkE C a true none sc l = true from h))) fun σ H Q ⟨pa, G, env, re, all⟩ => ?_
      refine ⟨pa, G, env, re, Tr.All_mono (Tr.All_bind (t := ev F a env) all) fun x hx v H1 G1 e1 b1 => ?_⟩
      obtain ⟨r, hr, q⟩ := Tr.All_ofO hx
      have g1 := e1.gh' re.gh
      have rs : Res X.K pa G1 H1 r Q := fun v H2 G2 e2 hv => q v H2 G2 (e1.trans e2) (val_vb hv)
      cases x with
      | list xs =>
        cases hr
        obtain ⟨a, vs, rfl, h1, r1⟩ := bor_lst g1.sub b1.bor
        exact ⟨a, vs, rfl, .inl ⟨SqL.of h1, rs.lst g1 r1.reverse⟩⟩
      | tuple xs =>
        cases hr
        obtain ⟨a, vs, rfl, h1, r1⟩ := bor_tup b1.bor
        exact ⟨a, vs, rfl, .inr ⟨(h1.sub g1.sub).sq, rs.tup g1 r1.reverse⟩⟩
      | _ => exact nomatch hr
  · match x, h with
    | .Subscript l (.Slice none none (some (.UnaryOp .USub (.Constant (.int 1) k p1) p2)) p3) p4, h => rfl

theorem bi_plain (o : OkX C F X sc) (f : Bi) (h : biPlain f = true) : (∃ id, CallR X (.builtin id) (BR X.K (biD f)) ∧ bootBuiltins (biName f) = some (.builtin id)) ∨ ∃ T, CallR X (.type T) (BR X.K (biD f)) ∧ bootBuiltins (biName f) = some (.type T) := by
  cases f with
  | len => exact .inl ⟨_, bi_len, by decide +kernel⟩
  | abs => exact .inl ⟨_, bi_abs, by decide +kernel⟩
  | min2 => exact .inl ⟨_, bi_min2 o.calm, by decide +kernel⟩
  | max2 => exact .inl ⟨_, bi_max2 o.calm, by decide +kernel⟩
  | min1 => exact .inl ⟨_, bi_min1 o.calm o.hu, by decide +kernel⟩
  | max1 => exact .inl ⟨_, bi_max1 o.calm o.hu, by decide +kernel⟩
  | sum => exact .inl ⟨_, bi_sum o.calm, by decide +kernel⟩
  | int => exact .inr ⟨_, bi_int, by decide +kernel⟩
  | list => exact .inr ⟨_, bi_list, by decide +kernel⟩
  | tuple => exact .inr ⟨_, bi_tuple, by decide +kernel⟩
  | sorted => exact .inl ⟨_, bi_sorted o.hu, by decide +kernel⟩
  | all => exact .inl ⟨_, bi_all o.calm, by decide +kernel⟩
  | any => exact .inl ⟨_, bi_any o.calm, by decide +kernel⟩
  | _ => exact nomatch h
theorem biName_blt (f : Bi) (h : (biPlain f || biIs f) = true) : biName f ∈ bltNames := by cases f <;> first | exact absurd h (by decide) | decide +kernel
theorem biIs_K (f : Bi) (h : biIs f = true) : isB f = true ∧ bootBuiltins (biName f) = some (.type (isK f)) := by cases f <;> first | exact absurd h (by decide) | exact ⟨rfl, by decide +kernel⟩
theorem star_one {e : Expr} {es : List Expr} {env : PySem.Env} (h : starEach (e :: es) env = (false, eval e env) :: starEach es env) : nostar e = true := by
  cases e <;> first | rfl | skip
  cases (show (true, _) :: _ = (false, _) :: _ from h)
theorem pe_tyv {X : Cx} (hc : True) {t : Str} {T : String} {p : Pos} (hg : Gl X t) (hm : X.mg t = none) (hv : bootBuiltins t = some (.type T)) (hn : t ≠ "__name__") (hd : (t == ("__debug__" : Str)) = false) : PE X (.Name t p) (tC (.ty T)) :=
  pe_bltn hg hm hv rfl hn hd
theorem snd_bin (f : Bi) (es : E) (ss : Snd C F es) : Snd C F (.bi f es) := by
  refine Snd.mk1 (fun {X sc} o {b w x} h => ?_) (fun {sc b w x} h => ?_) fun _ _ _ => rfl
  · match x, h with
    | .Call (.Name y p) (z :: zs) [] pos, h =>
      have h : cond (biPlain f) (glB sc y && strEq y (biName f) && okN y && chkL C es true sc (z :: zs))
        (cond (biIs f) (glB sc y && strEq y "isinstance" && okN y && tyArg sc f zs && chkL C es true sc [z]) false) = true := h
      cases hp : biPlain f with
      | true =>
        rw [hp] at h
        obtain ⟨h1, h4⟩ := and2 (show (glB sc y && strEq y (biName f) && okN y && chkL C es true sc (z :: zs)) = true from h)
        obtain ⟨h1, h3⟩ := and2 h1
        obtain ⟨h1, h2⟩ := and2 h1
        obtain ⟨n1, n2, n3⟩ := okN_ok h3
        have e := strEq_eq h2
        subst e
        obtain ⟨s1, s2⟩ := chkL_head h4 X.env pos
        have hm := o.blt _ (biName_blt f (by rw [hp]; rfl))
        rcases bi_plain o f hp with ⟨id, hc, hb⟩ | ⟨T, hc, hb⟩
        · exact PE.imp (pe_callB hc (o.gl h1) hm hb (ss.pa o h4) n3 n1 s1 s2) fun σ H Q q => snd_bi q
        · exact PE.imp (pe_callTy hc (o.gl h1) hm hb (ss.pa o h4) n3 n1 s1 s2) fun σ H Q q => snd_bi q
      | false =>
        rw [hp] at h
        cases hi : biIs f with
        | false => rw [hi] at h; exact nomatch h
        | true =>
          rw [hi] at h
          obtain ⟨h1, h5⟩ := and2 (show (glB sc y && strEq y "isinstance" && okN y && tyArg sc f zs && chkL C es true sc [z]) = true from h)
          obtain ⟨h1, h4⟩ := and2 h1
          obtain ⟨h1, h3⟩ := and2 h1
          obtain ⟨hgl, h2⟩ := and2 h1
          obtain ⟨n1, n2, n3⟩ := okN_ok h3
          have e := strEq_eq h2
          subst e
          match zs, h4 with
          | [.Name t tp], h4 =>
            obtain ⟨t1, t3⟩ := and2 (show (glB sc t && strEq t (biName f) && okN t) = true from h4)
            obtain ⟨t1, t2⟩ := and2 t1
            obtain ⟨m1, m2, m3⟩ := okN_ok t3
            have e := strEq_eq t2
            subst e
            obtain ⟨s1, s2⟩ := chkL_head h5 X.env pos
            have nz : nostar z = true := star_one s1
            obtain ⟨k1, k2⟩ := biIs_K f hi
            have hm := o.blt _ (biName_blt f (by rw [hi, Bool.or_true]))
            have pty : PE X (.Name (biName f) tp) (tC (.ty (isK f))) := pe_tyv trivial (o.gl t1) hm k2 m3 m1
            refine PE.imp (pe_callB (bi_is f k1) (o.gl hgl) (o.blt _ (by decide +kernel)) boot_isinstance (pa_cons (ss.p1 o h5) (pa_cons pty pa_nil (star1 rfl _ _)) (star1 nz _ _)) n3 n1 (star1 nz _ _) rfl) fun σ H Q q => ?_
            obtain ⟨pa, G, env, re, all⟩ := q
            refine ⟨pa, G, env, re, Tr.All_mono (Tr.All_bind (t := ev F es env) all) fun y hy => ?_⟩
            cases y with
            | tuple ys =>
              match ys, hy with
              | [d1], hy =>
                refine ⟨d1, rfl, fun v H1 G1 e1 b1 => ⟨v, rfl, pa, G1, [d1], ?_⟩⟩
                obtain ⟨r, hr, q⟩ := Tr.All_ofO (show (Tr.ofO (biD f [d1])).All _ from hy)
                exact ⟨r, e1.gh' re.gh, .cons b1 .nil, hr, fun w H3 G3 e3 hv => q w H3 G3 (e1.trans e3) (val_vb hv)⟩
              | [], hy => exact absurd hy (by cases f <;> first | exact absurd hi (by decide) | exact fun z => z)
              | _ :: _ :: _, hy => exact absurd hy (by cases f <;> first | exact absurd hi (by decide) | exact fun z => z)
            | _ => exact hy.elim
    | .Call (.Name y p) (z :: zs) [⟨some k, .Constant (.bool true) kk kp, kpos⟩] pos, h =>
      obtain ⟨h1, h6⟩ := and2 (show (isSR f && glB sc y && strEq y "sorted" && okN y && strEq k "reverse" && chkL C es true sc (z :: zs)) = true from h)
      obtain ⟨h1, h5⟩ := and2 h1
      obtain ⟨h1, h4⟩ := and2 h1
      obtain ⟨h1, h3⟩ := and2 h1
      obtain ⟨h0, hgl⟩ := and2 h1
      cases f with
      | sortedR =>
        obtain ⟨n1, n2, n3⟩ := okN_ok h4
        have e := strEq_eq h3
        subst e
        have e := strEq_eq h5
        subst e
        obtain ⟨s1, s2⟩ := chkL_head h6 X.env pos
        refine PE.imp (pe_callBK (bi_sortedR o.hu) (o.gl hgl) (o.blt _ (by decide +kernel)) boot_sorted (ss.pa o h6) (pk_cons (pe_bl (b := true)) pk_nil) n3 n1 (by rw [s1]; rfl) (by rw [s1]; exact s2) rfl rfl rfl) fun σ H Q q => ?_
        have q' := snd_bi q
        obtain ⟨pa, G, env, re, all⟩ := q'
        exact ⟨pa, G, env, re, Tr.All_mono all fun d ⟨ds, hd, q⟩ => ⟨ds, hd, fun vs H1 G1 e1 b1 => ⟨rfl, q vs H1 G1 e1 b1⟩⟩⟩
      | _ => exact nomatch h0
  · match x, h with
    | .Call (.Name y p) (z :: zs) _ pos, h => rfl

theorem meStr_eq (m : Me) : meStr m = meName m := by cases m <;> rfl
theorem few_ok {e : E} {b : Bool} {x : Expr} {xs : List Expr} (h : chkL C e b sc (x :: xs) = true) (hl : Nat.blt xs.length 28 = true) (env : PySem.Env) (pos : Pos) :
    ((backTo pos (starEach (x :: xs) env)).all (fun x => !x.1) && (backToKw pos (keywordEach [] env)).all (fun x => x.1.isSome)
      && decide ((x :: xs).length + ([] : List Keyword).length + (if ([] : List Keyword).isEmpty then 0 else 1) < 30)) = true := by
  have h1 := chkL_star e h env pos
  rw [Nat.blt_eq] at hl
  have h2 : (backTo pos (starEach (x :: xs) env)).all (fun x => !x.1) = true := by
    rw [List.any_eq_false] at h1
    rw [List.all_eq_true]
    intro y hy
    have := h1 y hy
    cases hz : y.1 with
    | true => exact absurd hz this
    | false => rfl
  rw [h2, Bool.true_and]
  show (true && decide ((x :: xs).length + 0 + 0 < 30)) = true
  rw [Bool.true_and, decide_eq_true_eq, List.length_cons]
  omega
theorem snd_me (m : Me) (r es : E) (sr : Snd C F r) (ss : Snd C F es) : Snd C F (.me m r es) := by
  refine Snd.mk1 (fun {X sc} o {b w x} h => ?_) (fun {sc b w x} h => ?_) fun _ _ _ => rfl
  · match x, h with
    | .Call (.Attribute y nm ap) (z :: zs) [] cp, h =>
      obtain ⟨h1, h6⟩ := and2 (show (strEq nm (meStr m) && plainLine ap cp && Nat.blt zs.length 28 && nocall0 y && chkE C r true none sc y && chkL C es true sc (z :: zs)) = true from h)
      obtain ⟨h1, h5⟩ := and2 h1
      obtain ⟨h1, h4⟩ := and2 h1
      obtain ⟨h1, h3⟩ := and2 h1
      obtain ⟨hnm, h2⟩ := and2 h1
      have e := strEq_eq hnm
      subst e
      obtain ⟨s1, s2⟩ := chkL_head h6 X.env cp
      refine PE.imp (pe_meG (sr.pe o h5) (ss.pa o h6) (base1 h4 X.env) (few_ok h6 h3 X.env cp) h2 s1 s2) fun σ H Q ⟨pa, G, env, re, all⟩ => ?_
      refine ⟨pa, G, env, re, Tr.All_mono (Tr.All_bind (t := ev F r env) all) fun x hx v H1 G1 e1 b1 => ?_⟩
      have hx : (cond (meOk m x) ((ev F es env).bind fun y => match y with | .tuple ys => Tr.ofO (meD m x ys) | _ => .fail) .fail).All _ := hx
      cases hok : meOk m x with
      | false => rw [hok] at hx; exact hx.elim
      | true =>
        rw [hok] at hx
        obtain ⟨T, id, t1, t2, t3, t4, t5⟩ := me_rcv o.hu m (e1.gh' re.gh) b1 hok
        rw [meStr_eq]
        refine ⟨T, id, t1, t2, t3, t4, pa, G1, env, re.ext e1, Tr.All_mono (Tr.All_bind (t := ev F es env) hx) fun y hy => ?_⟩
        cases y with
        | tuple ys =>
          refine ⟨ys, rfl, fun vs H2 G2 e2 b2 => ?_⟩
          obtain ⟨d, hd, q⟩ := Tr.All_ofO (show (Tr.ofO (meD m x ys)).All _ from hy)
          exact fun pins s v us I rv rs => t5 G2 H2 e2 vs ys d Q b2 hd (fun w H3 G3 e3 hv => q w H3 G3 ((e1.trans e2).trans e3) (val_vb hv)) pins σ s v us I rv rs
        | _ => exact hy.elim
  · match x, h with
    | .Call (.Attribute y nm ap) (z :: zs) [] cp, h => rfl

theorem vals_stand {vs : List V} {ds : List PyData} (h : All2 (VB pa false G H) vs ds) : All2 (Val G) vs ds := h
theorem snd_call (f : Nat) (es : E) (ss : Snd C F es) : Snd C F (.call f es) := by
  refine Snd.mk1 (fun {X sc} o {b w x} h => ?_) (fun {sc b w x} h => ?_) fun _ _ _ => rfl
  · match x, h with
    | .Call (.Name y p) zs [] pos, h =>
      obtain ⟨h1, h4⟩ := and2 (show (glB sc y && okN y && (match C.fns[f]? with | some (n, false) => strEq n y | _ => false) && chkL C es false sc zs) = true from h)
      obtain ⟨h1, h3⟩ := and2 h1
      obtain ⟨hgl, h2⟩ := and2 h1
      obtain ⟨n1, n2, n3⟩ := okN_ok h2
      split at h3
      · rename_i n hf
        have e := strEq_eq h3
        subst e
        obtain ⟨k, fa, fd, ps, FO, hr, hm, hk, hb⟩ := o.fns f n false hf
        have fin : ∀ σ H Q, tEv X.K F b (.call f es) σ H Q → tEvA X.K F false es σ H fun vs H1 => spFn X.K F f false (vs ++ []) H1 Q E0 := fun σ H Q ⟨pa, G, env, re, all⟩ => by
          refine ⟨pa, G, env, re, Tr.All_mono (Tr.All_bind (t := ev F es env) all) fun y hy => ?_⟩
          cases y with
          | tuple ys =>
            refine ⟨ys, rfl, fun vs H1 G1 e1 b1 => ⟨pa, G1, vs, ys, by rw [List.append_nil]; rfl, e1.gh' re.gh, b1, ?_⟩⟩
            exact Tr.All_mono (show (F f false ys).All _ from hy) fun d hd v H2 G2 e2 hv => hd v H2 G2 (e1.trans e2) (val_vb hv)
          | _ => exact hy.elim
        cases zs with
        | nil =>
          cases es with
          | nil =>
            refine PE.imp (pe_call0 FO hr (o.gl hgl) hm hk hb .nil pass0 n1) fun σ H Q q => ?_
            obtain ⟨pa, G, env, re, all⟩ := fin σ H Q q
            obtain ⟨ds, hd, q⟩ := (show (Tr.ret (PyData.tuple [])).All _ from all)
            cases hd
            exact q [] H G (Ext.refl re.gh) .nil
          | cons _ _ => exact nomatch h4
          | _ => exact nomatch h4
        | cons z zs =>
          obtain ⟨s1, s2⟩ := chkL_head h4 X.env pos
          exact PE.imp (pe_call FO hr (o.gl hgl) hm hk hb .nil pass0 (ss.pa o h4) n1 s1 s2) fin
      · exact nomatch h3
  · match x, h with
    | .Call (.Name y p) zs [] pos, h => rfl
/-- the pool as an argument -/
theorem pe_pool {X : Cx} {sc : Scope} (o : OkX C F X sc) {i : Nat} {y : Str} {p : Pos} (h1 : nameAt C i y = true) (h2 : visB sc y = true) (h3 : okN y = true) : PE X (.Name y p) (tVar i) := by
  obtain ⟨n1, n2, _⟩ := okN_ok h3
  exact pe_var (o.at h1) (o.vis h2) n1 n2
theorem snd_callp (f i : Nat) (es : E) (ss : Snd C F es) : Snd C F (.callp f i es) := by
  refine Snd.mk1 (fun {X sc} o {b w x} h => ?_) (fun {sc b w x} h => ?_) fun _ _ _ => rfl
  · match x, h with
    | .Call (.Name y p) (.Name q qp :: zs) [] pos, h =>
      obtain ⟨h1, h7⟩ := and2 (show (glB sc y && okN y && nameAt C i q && visB sc q && okN q && (match C.fns[f]? with | some (n, true) => strEq n y | _ => false) && chkL C es false sc zs) = true from h)
      obtain ⟨h1, h6⟩ := and2 h1
      obtain ⟨h1, h5⟩ := and2 h1
      obtain ⟨h1, h4⟩ := and2 h1
      obtain ⟨h1, h3⟩ := and2 h1
      obtain ⟨hgl, h2⟩ := and2 h1
      obtain ⟨n1, n2, n3⟩ := okN_ok h2
      split at h6
      · rename_i n hf
        have e := strEq_eq h6
        subst e
        obtain ⟨k, fa, fd, ps, FO, hr, hm, hk, hb⟩ := o.fns f n true hf
        refine PE.imp (pe_call FO hr (o.gl hgl) hm hk hb .nil pass0 (pa_cons (pe_pool o (p := qp) h3 h4 h5) (ss.pa o h7)) n1 rfl (chkL_star es h7 X.env pos)) fun σ H Q ⟨pa, G, env, re, all⟩ => ?_
        have all : (match getE i env with | .pool => ((ev F es env).bind fun y => (match y with | .tuple ys => F f true ys | _ => .fail)) | _ => .fail).All _ := all
        have sl := re.slot i
        cases hs : getE i env with
        | pool =>
          rw [hs] at all sl
          refine ⟨.ref pa, sl, pa, G, env, re, Tr.All_mono (Tr.All_bind (t := ev F es env) all) fun y hy => ?_⟩
          cases y with
          | tuple ys =>
            refine ⟨ys, rfl, fun vs H1 G1 e1 b1 => ⟨pa, G1, vs, ys, by rw [List.append_nil]; rfl, e1.gh' re.gh, b1, ?_⟩⟩
            exact Tr.All_mono (show (F f true ys).All _ from hy) fun d hd v H2 G2 e2 hv => hd v H2 G2 (e1.trans e2) (val_vb hv)
          | _ => exact hy.elim
        | _ => rw [hs] at all; exact all.elim
      · exact nomatch h6
  · match x, h with
    | .Call (.Name y p) (.Name q qp :: zs) [] pos, h => rfl
theorem snd_draw (i : Nat) (e : E) (se : Snd C F e) : Snd C F (.draw i e) := by
  refine Snd.mk1 (fun {X sc} o {b w x} h => ?_) (fun {sc b w x} h => ?_) fun _ _ _ => rfl
  · match x, h with
    | .Call (.Name y p) [.Name q qp, z] [] pos, h =>
      obtain ⟨h1, h8⟩ := and2 (show (glB sc y && okN y && strEq y C.drw && nameAt C i q && visB sc q && okN q && nostar z && chkE C e true none sc z) = true from h)
      obtain ⟨h1, h7⟩ := and2 h1
      obtain ⟨h1, h6⟩ := and2 h1
      obtain ⟨h1, h5⟩ := and2 h1
      obtain ⟨h1, h4⟩ := and2 h1
      obtain ⟨h1, h3⟩ := and2 h1
      obtain ⟨hgl, h2⟩ := and2 h1
      obtain ⟨n1, n2, n3⟩ := okN_ok h2
      have ey := strEq_eq h3
      subst ey
      obtain ⟨k, fa, fd, ps, FO, hr, hm, hk, hb⟩ := o.drw
      refine PE.imp (pe_call FO hr (o.gl hgl) hm hk hb .nil pass0 (pa_cons (pe_pool o (p := qp) h4 h5 h6) (pa_cons (se.pe o h8) pa_nil (star1 h7 _ _))) n1 rfl (by rw [star1 h7]; rfl)) fun σ H Q ⟨pa, G, env, re, all⟩ => ?_
      have all : (match getE i env with | .pool => ((ev F e env).bind fun y => (match y with | .int (.ofNat n) => cond (Nat.blt 0 n && Nat.blt n 1073741824) (Tr.draw n fun r => Tr.ret (PyData.int (.ofNat r))) Tr.fail | _ => Tr.fail)) | _ => Tr.fail : Tr PyData).All _ := all
      have sl := re.slot i
      cases hs : getE i env with
      | pool =>
        rw [hs] at all sl
        refine ⟨.ref pa, sl, pa, G, env, re, Tr.All_mono (Tr.All_bind (t := ev F e env) all) fun y hy v H1 G1 e1 b1 => ?_⟩
        cases y with
        | int j => cases j with
          | ofNat n =>
            have hy : (cond (Nat.blt 0 n && Nat.blt n 1073741824) (Tr.draw n fun r => Tr.ret (PyData.int (.ofNat r))) Tr.fail : Tr PyData).All _ := hy
            cases hc : (Nat.blt 0 n && Nat.blt n 1073741824) with
            | false => rw [hc] at hy; exact hy.elim
            | true =>
              rw [hc] at hy
              obtain ⟨c1, c2⟩ := and2 hc
              rw [Nat.blt_eq] at c1 c2
              refine ⟨pa, G1, n, by rw [bor_int b1.bor]; rfl, e1.gh' re.gh, c1, c2, fun r hr H2 e2 => ?_⟩
              exact hy r hr _ H2 G1 (e1.trans e2) (val_vb (Da.int _))
          | negSucc _ => exact hy.elim
        | _ => exact hy.elim
      | _ => rw [hs] at all; exact all.elim
  · match x, h with
    | .Call (.Name y p) [.Name q qp, z] [] pos, h => rfl
end Ev

/-! EvSn7 -/
set_option maxHeartbeats 4000000
namespace Ev
open PySem PySem.Spec PyProof.Rows L2
variable {C : Ctx} {X : Cx} {sc : Scope} {F : Nat → Bool → List PyData → Tr PyData} {K : PySem.W.Frag} {pa : Addr} {G H : Hp} {env : Env} {σ : L2.St} {Q : VK}

/-- only walked -/
theorem Snd.mkI {e : E} (pi : ∀ {X sc}, OkX C F X sc → ∀ {b tp t x}, chkE C e b (some (tp, t)) sc x = true → PI X t x (tEvI X.K F b tp e)) (h : ∀ b sc x, chkE C e b none sc x = false) (hl : ∀ b sc xs, chkL C e b sc xs = false) : Snd C F e where
  pe := fun o _ _ z => by rw [h] at z; exact nomatch z
  pt := fun o _ _ z => by rw [h] at z; exact nomatch z
  pw := fun o _ _ _ _ z => by rw [h] at z; exact nomatch z
  pa := fun o _ _ z => by rw [hl] at z; exact nomatch z
  p1 := fun o _ _ z => by rw [hl] at z; exact nomatch z
  pi := pi
theorem snd_rng (es : E) (ss : Snd C F es) : Snd C F (.rng es) := by
  refine Snd.mkI (fun {X sc} o {b tp t x} h => ?_) (fun _ _ _ => rfl) fun _ _ _ => rfl
  match x, h with
  | .Call (.Name y p) (z :: zs) [] pos, h =>
    obtain ⟨h1, h4⟩ := and2 (show (glB sc y && strEq y "range" && okN y && chkL C es true sc (z :: zs)) = true from h)
    obtain ⟨h1, h3⟩ := and2 h1
    obtain ⟨hgl, h2⟩ := and2 h1
    have e := strEq_eq h2
    subst e
    refine ⟨fun pins s σ H R I ⟨pa, G, env, re, all⟩ => ?_⟩
    refine thn (rg_eval (y := "") (p := p) (pos := pos) (E := X.xe) (R := fun a b c n H1 => R (Itc a c n) H1) o (o.gl hgl) (ss.pa o h4) h4 I ?_) fun v s1 ⟨r, a, b', c, n, t1, t2, t3, H1, ds, ev', hr, I1, ok, q⟩ => ?_
    · refine ⟨pa, G, env, re, Tr.All_mono (Tr.All_bind (t := ev F es env) all) fun y hy => ?_⟩
      cases y with
      | tuple ys =>
        obtain ⟨d, hd, ds, hw, q⟩ := Tr.All_ofO (show (Tr.ofO ((rngD ys).map PyData.list)).All _ from hy)
        cases hg : rngD ys with
        | none => rw [hg] at hd; exact nomatch hd
        | some its =>
          rw [hg] at hd
          cases hd
          cases hw
          refine ⟨ys, _, rfl, hg, fun a b' c n H1 G1 e1 hi ok => q _ H1 G1 e1 ?_⟩
          subst hi
          exact walk_rng (e1.gh' re.gh) walk_rangeC
      | _ => exact hy.elim
    · subst ev'
      refine wpAny_pyIter_range hr ok.sm ?_
      refine pi_one (tk := s1.toks) I1 _ (turn_rangeC _ a c n) ?_ q
      have e1 : a + ((0 : Nat) : Int) * c = a := by simp
      have e2 : (n : Int) - ((0 : Nat) : Int) = Builtin.Range.rangeSize a b' c := by rw [ok.sz]; simp
      show IsRangeIter _ _ (a + ((0 : Nat) : Int) * c) ((n : Int) - ((0 : Nat) : Int)) c
      rw [e1, e2]
      exact Heap.get?_push_size _ rfl
def upV (c : Int) (n : Nat) (a : Int) : List V := (List.range n).map fun (i : Nat) => V.int (a + (i : Int) * c)
theorem all2_of {α β : Type} {R : α → β → Prop} : ∀ {as : List α} {bs : List β}, as.length = bs.length → (∀ (i : Nat) a b, as[i]? = some a → bs[i]? = some b → R a b) → All2 R as bs
  | [], [], _, _ => .nil
  | [], _ :: _, h, _ => by simp at h
  | _ :: _, [], h, _ => by simp at h
  | a :: as, b :: bs, h, f => .cons (f 0 a b rfl rfl) (all2_of (by simpa using h) fun i x y h1 h2 => f (i + 1) x y (by simpa using h1) (by simpa using h2))
theorem upV_da (c : Int) (n : Nat) (a : Int) : All2 (Da G) (upV c n a) (upI c n a) := by
  refine all2_of (by unfold upV; rw [List.length_map, List.length_range, upI_len]) fun i x y h1 h2 => ?_
  have hi : i < n := by
    have := (List.getElem?_eq_some_iff.mp h2).1
    rwa [upI_len] at this
  rw [upI_get c n i a hi] at h2
  unfold upV at h1
  rw [List.getElem?_map, List.getElem?_range hi] at h1
  cases h1
  cases h2
  exact Da.int _
theorem vals_up {a c : Int} {n : Nat} {acc : Array Value} (h : ItemsOf (fun i v => ∃ t, v = .int (a + i * c) t) acc n) : Vals (upV c n a) acc.toList := by
  have e : acc.toList.length = n := by rw [Array.length_toList]; exact h.1
  unfold upV
  rw [← e]
  refine vals_of_get acc.toList _ fun j u hj => ?_
  obtain ⟨t, rfl⟩ := h.2 j u (by rw [← hj, Array.getElem?_toList])
  exact ⟨t, rfl⟩
theorem snd_rngl (es : E) (ss : Snd C F es) : Snd C F (.rngl es) := by
  refine Snd.mk1 (fun {X sc} o {b w x} h => ?_) (fun {sc b w x} h => ?_) fun _ _ _ => rfl
  · match x, h with
    | .Call (.Name y0 p0) [.Call (.Name y p) (z :: zs) [] pos] [] pos0, h =>
      obtain ⟨h1, h7⟩ := and2 (show (glB sc y0 && strEq y0 "list" && okN y0 && glB sc y && strEq y "range" && okN y && chkL C es true sc (z :: zs)) = true from h)
      obtain ⟨h1, h6⟩ := and2 h1
      obtain ⟨h1, h5⟩ := and2 h1
      obtain ⟨h1, h4⟩ := and2 h1
      obtain ⟨h1, h3⟩ := and2 h1
      obtain ⟨hgl, h2⟩ := and2 h1
      have e := strEq_eq h2
      subst e
      have e := strEq_eq h5
      subst e
      refine ⟨fun pins s σ H Q I ⟨pa, G, env, re, all⟩ => ?_⟩
      refine Call_ (ld_blt I (o.gl hgl) (o.blt _ (by decide +kernel)) boot_list (PyProof.Rows.callWith_type1 (args_cons (thn (rg_eval (y := "") (p := p) (pos := pos) (E := X.xe) (R := fun a b' c n H1 => ∃ G1, Ext X.K pa G H G1 H1 ∧ Res X.K pa G1 H1 (.list (upI c n a)) Q) o (o.gl h4) (ss.pa o h7) h7 I ?_) fun v s1 ⟨r, a, b', c, n, t1, t2, t3, H1, ds, ev', hr, I1, ok, G1, e1, q⟩ => args_nil ?_) rfl) rfl))
      · refine ⟨pa, G, env, re, Tr.All_mono (Tr.All_bind (t := ev F es env) all) fun y hy => ?_⟩
        cases y with
        | tuple ys =>
          obtain ⟨d, hd, q⟩ := Tr.All_ofO (show (Tr.ofO ((rngD ys).map PyData.list)).All _ from hy)
          cases hg : rngD ys with
          | none => rw [hg] at hd; exact nomatch hd
          | some its =>
            rw [hg] at hd
            cases hd
            refine ⟨ys, its, rfl, hg, fun a b' c n H1 G1 e1 hi ok => ⟨G1, e1, fun v H2 G2 e2 hv => q v H2 G2 (e1.trans e2) (val_vb ?_)⟩⟩
            subst hi
            exact hv
        | _ => exact hy.elim
      · subst ev'
        refine call_list_range (n := n) (I1.ok.hd o.calm) hr ok.sm ok.sz ok.nn fun h' tk acc c' hk e' hi => ?_
        have ln : (upV c n a).length = n := by unfold upV; rw [List.length_map, List.length_range]
        refine ⟨.ref s1.heap.objs.size, upd H1 s1.heap.objs.size (.lst (upV c n a)), I1.laid hk (Nat.le_refl _) (show ObjOk X.prog X.w _ _ _ (.lst (upV c n a)) from ⟨?_, acc.toList, c', vals_up hi, ?_⟩), rfl, q.lst (e1.gh' re.gh) (upV_da c n a) _ (I1.hok.fresh (Nat.le_refl _))⟩
        · rw [ln, sizeLine_eq]; have := ok.nn; omega
        · rw [Array.toArray_toList]; exact e'
  · match x, h with
    | .Call (.Name y0 p0) [.Call (.Name y p) (z :: zs) [] pos] [] pos0, h => rfl
theorem snd_rngt (es : E) (ss : Snd C F es) : Snd C F (.rngt es) := by
  refine Snd.mk1 (fun {X sc} o {b w x} h => ?_) (fun {sc b w x} h => ?_) fun _ _ _ => rfl
  · match x, h with
    | .Call (.Name y0 p0) [.Call (.Name y p) (z :: zs) [] pos] [] pos0, h =>
      obtain ⟨h1, h7⟩ := and2 (show (glB sc y0 && strEq y0 "tuple" && okN y0 && glB sc y && strEq y "range" && okN y && chkL C es true sc (z :: zs)) = true from h)
      obtain ⟨h1, h6⟩ := and2 h1
      obtain ⟨h1, h5⟩ := and2 h1
      obtain ⟨h1, h4⟩ := and2 h1
      obtain ⟨h1, h3⟩ := and2 h1
      obtain ⟨hgl, h2⟩ := and2 h1
      have e := strEq_eq h2
      subst e
      have e := strEq_eq h5
      subst e
      refine ⟨fun pins s σ H Q I ⟨pa, G, env, re, all⟩ => ?_⟩
      refine Call_ (ld_blt I (o.gl hgl) (o.blt _ (by decide +kernel)) boot_tuple (PyProof.Rows.callWith_type1 (args_cons (thn (rg_eval (y := "") (p := p) (pos := pos) (E := X.xe) (R := fun a b' c n H1 => ∃ G1, Ext X.K pa G H G1 H1 ∧ Res X.K pa G1 H1 (.tuple (upI c n a)) Q) o (o.gl h4) (ss.pa o h7) h7 I ?_) fun v s1 ⟨r, a, b', c, n, t1, t2, t3, H1, ds, ev', hr, I1, ok, G1, e1, q⟩ => args_nil ?_) rfl) rfl))
      · refine ⟨pa, G, env, re, Tr.All_mono (Tr.All_bind (t := ev F es env) all) fun y hy => ?_⟩
        cases y with
        | tuple ys =>
          obtain ⟨d, hd, q⟩ := Tr.All_ofO (show (Tr.ofO ((rngD ys).map PyData.tuple)).All _ from hy)
          cases hg : rngD ys with
          | none => rw [hg] at hd; exact nomatch hd
          | some its =>
            rw [hg] at hd
            cases hd
            refine ⟨ys, its, rfl, hg, fun a b' c n H1 G1 e1 hi ok => ⟨G1, e1, fun v H2 G2 e2 hv => q v H2 G2 (e1.trans e2) (val_vb ?_)⟩⟩
            subst hi
            exact hv
        | _ => exact hy.elim
      · subst ev'
        refine call_tuple_range (n := n) (I1.ok.hd o.calm) hr ok.sm ok.sz ok.nn fun h' tk acc hk hi => ?_
        have ln : (upV c n a).length = n := by unfold upV; rw [List.length_map, List.length_range]
        have I2 : Inv X pins σ H1 { s1 with heap := h', toks := tk } := I1.kept hk
        exact fin_tup I2 (by rw [ln, sizeLine_eq]; have := ok.nn; omega) (vals_up hi) (q.tup (e1.gh' re.gh) (upV_da c n a))
  · match x, h with
    | .Call (.Name y0 p0) [.Call (.Name y p) (z :: zs) [] pos] [] pos0, h => rfl
theorem snd_zip (a d : E) (sa : Snd C F a) (sd : Snd C F d) : Snd C F (.zip a d) := by
  refine Snd.mkI (fun {X sc} o {b tp t x} h => ?_) (fun _ _ _ => rfl) fun _ _ _ => rfl
  match x, t, h with
  | .Call (.Name y p) [l, r] [] pos, .Tuple te tk tpos, h =>
    obtain ⟨h1, h8⟩ := and2 (show (tp && glB sc y && strEq y "zip" && okN y && nostar l && nostar r && chkE C a b none sc l && chkE C d b none sc r) = true from h)
    obtain ⟨h1, h7⟩ := and2 h1
    obtain ⟨h1, h6⟩ := and2 h1
    obtain ⟨h1, h5⟩ := and2 h1
    obtain ⟨h1, h4⟩ := and2 h1
    obtain ⟨h1, h3⟩ := and2 h1
    obtain ⟨h0, hgl⟩ := and2 h1
    subst h0
    have e := strEq_eq h3
    subst e
    refine PI.imp (RZ.pi_zipA (o.gl hgl) (o.blt _ (by decide +kernel)) (pa_cons (sa.pe o h7) (pa_cons (sd.pe o h8) pa_nil (star1 h6 _ _)) (star1 h5 _ _)) (star1 h5 _ _) (by rw [star1 h6]; rfl)) fun σ H R ⟨pa, G, env, re, all⟩ => ?_
    refine ⟨pa, G, env, re, Tr.All_mono (Tr.All_bind (t := ev F a env) all) fun x hx v H1 G1 e1 b1 => ?_⟩
    refine ⟨pa, G1, env, re.ext e1, Tr.All_mono (Tr.All_bind (t := ev F d env) hx) fun y hy u H2 G2 e2 b2 => ?_⟩
    have g2 := e2.gh' (e1.gh' re.gh)
    have b1' := b1.ext e2
    obtain ⟨dd, hd, ds, hw, q⟩ := Tr.All_ofO (show (Tr.ofO ((zipV x y).map PyData.list)).All _ from hy)
    have here : cond b (Ext X.K pa G2 H2 G2 H2) (Sub G2 G2 ∧ GH X.K pa G2 H2) := by
      cases b with
      | true => exact Ext.refl g2
      | false => exact ⟨fun _ _ z => z, g2⟩
    cases x with
    | list xs => cases y with
      | list ys =>
        cases hd
        cases hw
        obtain ⟨a1, vs, rfl, r1, w1⟩ := lst_stays g2 b1'
        obtain ⟨a2, ws, rfl, r2, w2⟩ := lst_stays g2 b2
        exact ⟨a1, a2, vs, ws, rfl, .inl ⟨w1 _ _ here, w2 _ _ here, q _ H2 G2 (e1.trans e2) (walk_zpL g2 r1 r2 fun G3 H3 st => ⟨w1 _ _ st, w2 _ _ st⟩)⟩⟩
      | _ => exact nomatch hd
    | tuple xs => cases y with
      | tuple ys =>
        cases hd
        cases hw
        obtain ⟨a1, vs, rfl, q1, r1⟩ := bor_tup b1'.bor
        obtain ⟨a2, ws, rfl, q2, r2⟩ := bor_tup b2.bor
        exact ⟨a1, a2, vs, ws, rfl, .inr ⟨(q1.sub g2.sub).sq, (q2.sub g2.sub).sq, q _ H2 G2 (e1.trans e2) (walk_zpT g2 r1 r2 q1 q2)⟩⟩
      | _ => exact nomatch hd
    | _ => cases y <;> exact nomatch hd
end Ev

/-! EvSn8 -/
set_option maxHeartbeats 4000000
namespace Ev
open PySem PySem.Spec PyProof.Rows L2
variable {C : Ctx} {X : Cx} {sc : Scope} {F : Nat → Bool → List PyData → Tr PyData} {K : PySem.W.Frag} {pa : Addr} {G H : Hp} {env : Env} {σ : L2.St} {Q : VK}

theorem re_wipe (re : RE K pa G env σ H) : ∀ vs : List Nat, RE K pa G (wipeE vs env) (wipe σ vs) H
  | [] => re
  | i :: vs => by
    have q := re_wipe re vs
    refine ⟨q.gh, ?_, fun j => ?_⟩
    · show (setE i .no (Ev.wipeE vs env)).length = ((L2.wipe σ vs).set i none).length
      rw [setE_length, List.length_set]; exact q.len
    · show SlotOk pa G H (getE j (setE i .no (Ev.wipeE vs env))) ((L2.wipe σ vs).set i none)[j]?
      rw [getE_setE]
      by_cases e : i = j
      · rw [if_pos e]; split <;> trivial
      · rw [if_neg e, List.getElem?_set_ne e]; exact q.slot j
theorem wipe_wipe (vs : List Nat) : ∀ us : List Nat, (∀ i ∈ us, i ∈ vs) → wipe (wipe σ us) vs = wipe σ vs
  | [], _ => rfl
  | u :: us, h => by
    show wipe ((wipe σ us).set u none) vs = _
    rw [wipe_set, if_pos (h u List.mem_cons_self)]
    exact wipe_wipe vs us fun i hi => h i (List.mem_cons_of_mem _ hi)
/-- a write at an object that was not there ahead and is not told of in G -/
theorem Ext.write {G1 H1 : Hp} {D : Addr} {o : HO} (e : Ext K pa G H G1 H1) (hD : H D = none) (gD : G1 D = none) (hp : H pa ≠ none) : Ext K pa G H G1 (upd H1 D o) where
  gg := e.gg
  gh := fun b u h => by rw [upd_ne (by intro z; subst z; rw [gD] at h; cases h)]; exact e.gh _ _ h
  hh := fun b u n h => by rw [upd_ne (by intro z; subst z; rw [hD] at h; cases h)]; exact e.hh _ _ n h
  nw := e.nw
  pool := by
    obtain ⟨l, ns, i, r, c, s, q, x⟩ := e.pool
    exact ⟨l, ns, i, r, c, s, by rw [upd_ne (by intro z; subst z; exact hp hD)]; exact q, x⟩
theorem Ext.none_ {G1 H1 : Hp} {D : Addr} (e : Ext K pa G H G1 H1) (gD : G D = none) (hD : H D ≠ none) : G1 D = none := by
  cases z : G1 D with
  | none => rfl
  | some o => exact absurd (e.nw D gD (by rw [z]; exact fun q => nomatch q)) hD
/-- what was made on the way is told of at the end -/
theorem Ext.tell {G1 H1 : Hp} {D : Addr} {o : HO} (e : Ext K pa G H G1 H1) (hD : H D = none) (g1 : H1 D = some o) (gD : G1 D = none) (np : D ≠ pa) : Ext K pa G H (upd G1 D o) H1 where
  gg := fun b u h => sub_upd gD b u (e.gg b u h)
  gh := fun b u h => by
    by_cases z : b = D
    · subst z; rw [upd_same] at h; cases h; exact g1
    · rw [upd_ne z] at h; exact e.gh _ _ h
  hh := e.hh
  nw := fun b h h' => by
    by_cases z : b = D
    · subst z; exact hD
    · rw [upd_ne z] at h'; exact e.nw b h h'
  pool := by
    obtain ⟨l, ns, i, r, c, s, q, x, y⟩ := e.pool
    exact ⟨l, ns, i, r, c, s, q, SqL.sub (sub_upd gD) x, y⟩
theorem Ext.none0 {G1 H1 : Hp} {D : Addr} (e : Ext K pa G H G1 H1) (hD : H1 D = none) : H D = none := by
  cases z : H D with
  | none => rfl
  | some o =>
    by_cases n : D = pa
    · subst n; exact absurd hD e.pool.at
    · rw [e.hh _ _ n z] at hD; cases hD
/-- one turn of a comprehension -/
noncomputable def stepC (F : Nat → Bool → List PyData → Tr PyData) (elt : E) (tg : Tg) (cnd : E) (env : Env) (x : PyData) : Tr (Option PyData) := match assign tg x (wipeE (slotsT tg) env) with
  | some env' => (ev F cnd env').bind fun t => match t with
    | .bool true => (ev F elt env').bind fun d => .ret (some d)
    | .bool false => .ret none
    | _ => .fail
  | none => .fail
theorem own_fst (N : List Str) : ∀ vs : List Nat, (ownN N vs).length = vs.length → (ownN N vs).map (·.2) = vs
  | [], _ => rfl
  | i :: vs, h => by
    have len : ∀ ws : List Nat, (ownN N ws).length ≤ ws.length := fun ws => by
      induction ws with
      | nil => exact Nat.le_refl _
      | cons j ws ih =>
        unfold ownN
        split
        · simp only [List.length_cons]; omega
        · simp only [List.length_cons]; omega
    unfold ownN at h ⊢
    split
    · rename_i x e
      rw [e] at h
      rw [List.map_cons, own_fst N vs (by simpa using h)]
    · rename_i e
      rw [e] at h
      have := len vs
      simp only [List.length_cons] at h
      omega
theorem blk_rel {N : List Str} {sc real scope : Scope} {own : List (Str × Nat)} (h : BlkOk N sc scope own) (r : RelS sc real) : BlkOk N real scope own :=
  ⟨h.kind, h.uniq, h.ix, fun y hy e => by
    rcases h.free y hy e with z | z
    · rcases r _ _ z with z | ⟨z, _⟩
      · exact .inl z
      · cases z
    · rcases r _ _ z with z | ⟨_, z⟩
      · exact .inr z
      · exact .inl z, h.own⟩
/-- a list that is made anew and not told of yet -/
def tEvN (K : PySem.W.Frag) (F : Nat → Bool → List PyData → Tr PyData) (e : E) : TE := fun σ H Q =>
  ∃ (pa : Addr) (G : Hp) (env : Env), RE K pa G env σ H ∧ (ev F e env).All fun d => ∃ ds, d = .list ds ∧ ∀ a xs H' G', Ext K pa G H G' H' → H a = none → G' a = none → H' a = some (.lst xs) → All2 (Da G') xs ds → Q (.ref a) H'
theorem tell_N {b : Bool} {ds : List PyData} (g : GH K pa G H) (q : ∀ v H' G', Ext K pa G H G' H' → VB pa b G' H' v (.list ds) → Q v H') :
    ∀ a xs H' G', Ext K pa G H G' H' → H a = none → G' a = none → H' a = some (.lst xs) → All2 (Da G') xs ds → Q (.ref a) H' := fun a xs H' G' e ha ga h r => by
  have np : a ≠ pa := fun z => by subst z; exact g.pool.at ha
  exact q (.ref a) H' _ (e.tell ha h ga np) (val_vb (Da.lst upd_same (das_of (r.mono fun _ _ => Da.sub (sub_upd ga)))))
/-- the new list's step -/
theorem new_N {G1 H1 : Hp} {ds : List PyData} {xs : List V} (e1 : Ext K pa G H G1 H1) (g1 : GH K pa G1 H1) (q : ∀ a xs H' G', Ext K pa G H G' H' → H a = none → G' a = none → H' a = some (.lst xs) → All2 (Da G') xs ds → Q (.ref a) H')
    (r : All2 (Da G1) xs ds) : ∀ p, H1 p = none → Q (.ref p) (upd H1 p (.lst xs)) := fun p hp =>
  q p xs _ G1 (e1.trans (Ext.new0 g1 hp)) (e1.none0 hp) (g1.sub.free hp) upd_same r
structure CompParts (C : Ctx) (F : Nat → Bool → List PyData → Tr PyData) (X : Cx) (elt : E) (tg : Tg) (it cnd : E) (y t z : Expr) (ifs : List Expr) (sc' : Scope) : Prop where
  hv : (ownN C.N (slotsT tg)).map (·.2) = slotsT tg
  bo : BlkOk X.N X.env.scope sc' (ownN C.N (slotsT tg))
  pi : PI X t z (tEvI X.K F true (isTp tg) it)
  pg : ∀ (s : Shared) (H : Hp) (D : Addr) (cl : List (Str × Addr)) (fp : List Addr), PG (X.blk s H sc' (compEnvC sc' cl D X.env) fp) t (tEvG X.K (isTp tg) tg)
  pt : ∀ (s : Shared) (H : Hp) (D : Addr) (cl : List (Str × Addr)) (fp : List Addr), PTs (X.blk s H sc' (compEnvC sc' cl D X.env) fp) ifs (tEvT X.K F cnd)
  pe : ∀ (s : Shared) (H : Hp) (D : Addr) (cl : List (Str × Addr)) (fp : List Addr), PE (X.blk s H sc' (compEnvC sc' cl D X.env) fp) y (tEv X.K F false elt)
  hs : ∀ x, foldedSetIterable z X.env x = pure x
theorem comp_parts (elt : E) (tg : Tg) (it cnd : E) (se : Snd C F elt) (si : Snd C F it) (sn : Snd C F cnd) (o : OkX C F X sc) {b : Bool} {w : Option (Bool × Expr)} {y t z : Expr} {ifs : List Expr} {sc' : Scope} {pos : Pos}
    (h : chkE C (.comp elt tg it cnd) b w sc (.ListComp y [⟨t, z, ifs, 0⟩] sc' pos) = true) : CompParts C F X elt tg it cnd y t z ifs sc' := by
  obtain ⟨h1, h7⟩ := and2 (show (chkE C it true (some (isTp tg, t)) sc z && blkC C.N sc sc' (ownN C.N (slotsT tg)) && Nat.beq (ownN C.N (slotsT tg)).length (slotsT tg).length && chkT C tg sc' t && noset z && chkE C elt false none sc' y &&
    (match (generalizing := false) ifs with | [] => isYes cnd | [c] => chkE C cnd true none sc' c | _ => false)) = true from h)
  obtain ⟨h1, h6⟩ := and2 h1
  obtain ⟨h1, h5⟩ := and2 h1
  obtain ⟨h1, h4⟩ := and2 h1
  obtain ⟨h1, h3⟩ := and2 h1
  obtain ⟨h1, h2⟩ := and2 h1
  refine ⟨own_fst _ _ (Nat.eq_of_beq_eq_true h3), by rw [o.nm]; exact blk_rel (blkOk_by h2) o.scp, si.pi o h1, fun s H D cl fp => snd_tgt (o.blk s H sc' cl D fp) tg t h4, fun s H D cl fp => ?_, fun s H D cl fp => se.pe (o.blk s H sc' cl D fp) h6, fun x => set1 h5 X.env x⟩
  have ob := o.blk s H sc' cl D fp
  match ifs, h7 with
  | [], h7 =>
    cases cnd with
    | yes =>
      refine PTs.imp pts_nil fun σ H Q ⟨pa, G, env, re, all⟩ => ?_
      obtain ⟨c, hc, q⟩ := (show (Tr.ret (PyData.bool true)).All _ from all)
      cases hc
      exact q H G (Ext.refl re.gh)
    | _ => exact nomatch h7
  | [c], h7 => exact pts_one (sn.pt ob h7)
theorem comp_core {elt : E} {tg : Tg} {it cnd : E} (hq : tEvN K F (.comp elt tg it cnd) σ H Q) : tLc (tEvI K F true (isTp tg) it) (tEvG K (isTp tg) tg) (tEvT K F cnd) (tEv K F false elt) (slotsT tg) σ H Q := by
      obtain ⟨pa, G, env, re, all⟩ := hq
      refine ⟨pa, G, env, re, Tr.All_mono (Tr.All_bind (t := ev F it env) all) fun x hx => ?_⟩
      cases hw : walkD x with
      | none => rw [hw] at hx; exact hx.elim
      | some xs =>
        rw [hw] at hx
        have hx : (cond (lenOk xs) ((turnsC (stepC F elt tg cnd env) xs).bind fun ys => Tr.ret (PyData.list ys)) Tr.fail).All _ := hx
        cases hl : lenOk xs with
        | false => rw [hl] at hx; exact hx.elim
        | true =>
          rw [hl] at hx
          have hx := Tr.All_bind (t := turnsC (stepC F elt tg cnd env) xs) hx
          have hn := lenOk_iff.mp hl
          refine ⟨xs, rfl, fun J H1 G1 e1 ⟨W, Y, wk, stand, ylds⟩ D hD => ?_⟩
          have g1 := e1.gh' re.gh
          have re1 := re.ext e1
          have gD : G1 D = none := g1.sub.free hD
          have hpa : D ≠ pa := fun z => by subst z; exact g1.pool.at hD
          refine lc_it wk (fun i Hc => ∃ Gc acc dacc, Ext K pa G1 H1 Gc Hc ∧ Gc D = none ∧ Hc D = some (.lst acc) ∧ acc.length ≤ i ∧ All2 (Da Gc) acc dacc ∧
              (turnsC (stepC F elt tg cnd env) (xs.drop i)).All fun rest => ∀ a xs H' G', Ext K pa G H G' H' → H a = none → G' a = none → H' a = some (.lst xs) → All2 (Da G') xs (dacc ++ rest) → Q (.ref a) H') ?_ ?_ ?_ ?_
          · exact ⟨G1, [], [], Ext.new0 g1 hD, gD, upd_same, Nat.le_refl _, .nil, Tr.All_mono hx fun rest hr => by
              obtain ⟨ds, hd, q⟩ := (show ∃ ds, PyData.list rest = .list ds ∧ _ from hr)
              cases hd
              exact q⟩
          · rintro i Hc hi ⟨Gc, acc, dacc, ec, _, _, _, _, _⟩
            exact stand Gc Hc ec
          · rintro i v Hc H' hi ⟨Gc, acc, dacc, ec, gcD, hcD, hlen, hacc, hrest⟩ hY
            obtain ⟨d, hd, ey, hval⟩ := ylds i Gc Hc v H' hi ec hY
            have hdrop : xs.drop i = d :: xs.drop (i + 1) := by
              rw [List.drop_eq_getElem_cons hi]
              congr 1
              rw [List.getElem?_eq_getElem hi] at hd
              exact Option.some.inj hd
            rw [hdrop] at hrest
            have hrest := Tr.All_bind (t := stepC F elt tg cnd env d) hrest
            have ey1 := ec.trans ey
            have rey := re_wipe (re1.ext ey1) (slotsT tg)
            unfold stepC at hrest
            cases ha : assign tg d (wipeE (slotsT tg) env) with
            | none => rw [ha] at hrest; exact hrest.elim
            | some env' =>
              rw [ha] at hrest
              have hrest := Tr.All_bind (t := ev F cnd env') hrest
              refine ⟨pa, Gc, _, env', d, rey, hval, ha, fun σ' re' chg => ⟨?_, ?_⟩⟩
              · rw [chg (slotsT tg) (fun _ z => z), wipe_wipe _ _ fun _ z => z]
              · refine ⟨pa, Gc, env', re', Tr.All_mono hrest fun t ht => ?_⟩
                cases t with
                | bool k =>
                  refine ⟨k, rfl, fun H3 G3 e3 => iteD (fun hk => ?_) fun hk => ?_⟩
                  · subst hk
                    have ht := Tr.All_bind (t := ev F elt env') ht
                    refine ⟨pa, G3, env', re'.ext e3, Tr.All_mono ht fun r hr u H4 G4 e4 hu => ?_⟩
                    have hr := Tr.All_bind (t := turnsC (stepC F elt tg cnd env) (xs.drop (i + 1))) (show ((turnsC (stepC F elt tg cnd env) (xs.drop (i + 1))).bind fun ys => Tr.ret (r :: ys)).All _ from hr)
                    have hcy : H' D = some (.lst acc) := ey.hh _ _ hpa hcD
                    have h4D : H4 D = some (.lst acc) := e4.hh _ _ hpa (e3.hh _ _ hpa hcy)
                    have e34 := e3.trans e4
                    have g4D : G4 D = none := e34.none_ gcD (by rw [hcy]; exact fun z => nomatch z)
                    refine ⟨acc, h4D, by omega, G4, acc ++ [u], dacc ++ [r], (ey1.trans e34).write hD g4D g1.pool.at, g4D, upd_same, by rw [List.length_append]; simp; omega, (hacc.mono fun _ _ => Da.sub e34.gg).append (.cons (val_da hu) .nil), Tr.All_mono hr fun rest q a xs H5 G5 e5 n1 n2 n3 hv => q a xs H5 G5 e5 n1 n2 n3 ?_⟩
                    rw [List.append_assoc] at hv
                    exact hv
                  · subst hk
                    have hr := Tr.All_bind (t := turnsC (stepC F elt tg cnd env) (xs.drop (i + 1))) (show ((turnsC (stepC F elt tg cnd env) (xs.drop (i + 1))).bind fun ys => Tr.ret ys).All _ from ht)
                    have hcy : H' D = some (.lst acc) := ey.hh _ _ hpa hcD
                    have h3D : H3 D = some (.lst acc) := e3.hh _ _ hpa hcy
                    have g3D : G3 D = none := e3.none_ gcD (by rw [hcy]; exact fun z => nomatch z)
                    exact ⟨G3, acc, dacc, ey1.trans e3, g3D, h3D, by omega, hacc.mono fun _ _ => Da.sub e3.gg, hr⟩
                | _ => exact ht.elim
          · rintro Hc ⟨Gc, acc, dacc, ec, gcD, hcD, _, hacc, hrest⟩
            rw [List.drop_length] at hrest
            have q := (show (Tr.ret ([] : List PyData)).All _ from hrest)
            have q := (show ∀ a xs H' G', Ext K pa G H G' H' → H a = none → G' a = none → H' a = some (.lst xs) → All2 (Da G') xs (dacc ++ []) → Q (.ref a) H' from q)
            rw [List.append_nil] at q
            exact q D acc Hc Gc (e1.trans ec) (e1.none0 hD) gcD hcD hacc
theorem comp_list {elt : E} {tg : Tg} {it cnd : E} {P : PyData → Prop} (all : (ev F (.comp elt tg it cnd) env).All P) : (ev F (.comp elt tg it cnd) env).All fun d => ∃ ds, d = .list ds ∧ P d := by
  refine Tr.bind_All (t := ev F it env) (Tr.All_mono (Tr.All_bind (t := ev F it env) all) fun x hx => ?_)
  cases hw : walkD x with
  | none => rw [hw] at hx; exact hx.elim
  | some xs =>
    rw [hw] at hx
    have hx : (cond (lenOk xs) ((turnsC (stepC F elt tg cnd env) xs).bind fun ys => Tr.ret (PyData.list ys)) Tr.fail).All _ := hx
    show (cond (lenOk xs) ((turnsC (stepC F elt tg cnd env) xs).bind fun ys => Tr.ret (PyData.list ys)) Tr.fail).All _
    cases hl : lenOk xs with
    | false => rw [hl] at hx; exact hx.elim
    | true =>
      rw [hl] at hx
      exact Tr.bind_All (t := turnsC (stepC F elt tg cnd env) xs) (Tr.All_mono (Tr.All_bind (t := turnsC (stepC F elt tg cnd env) xs) hx) fun ys hy => ⟨ys, rfl, hy⟩)
theorem comp_N {elt : E} {tg : Tg} {it cnd : E} {b : Bool} (h : tEv K F b (.comp elt tg it cnd) σ H Q) : tEvN K F (.comp elt tg it cnd) σ H Q := by
  obtain ⟨pa, G, env, re, all⟩ := h
  exact ⟨pa, G, env, re, Tr.All_mono (comp_list all) fun d ⟨ds, hd, q⟩ => ⟨ds, hd, by subst hd; exact tell_N re.gh q⟩⟩
theorem snd_comp (elt : E) (tg : Tg) (it cnd : E) (se : Snd C F elt) (si : Snd C F it) (sn : Snd C F cnd) : Snd C F (.comp elt tg it cnd) := by
  refine Snd.mk1 (fun {X sc} o {b w x} h => ?_) (fun {sc b w x} h => ?_) fun _ _ _ => rfl
  · match x, h with
    | .ListComp y [⟨t, z, ifs, 0⟩] sc' pos, h =>
      have P := comp_parts elt tg it cnd se si sn o h
      refine PE.imp (pe_lc o.calm (by rw [o.nm]; exact o.nd) P.pi P.bo P.pg P.pt P.pe P.hs) fun σ H Q q => ?_
      rw [P.hv]
      exact comp_core (comp_N q)
  · match x, h with
    | .ListComp y [⟨t, z, ifs, 0⟩] sc' pos, h => rfl
theorem snd_all (C : Ctx) (F : Nat → Bool → List PyData → Tr PyData) : ∀ e : E, Snd C F e
  | .var i => snd_var i
  | .rd i => snd_rd i
  | .lit d => snd_lit d
  | .glb k d => snd_glb k d
  | .op o a b => snd_op o a b (snd_all C F a) (snd_all C F b)
  | .neg a => snd_neg a (snd_all C F a)
  | .cm c a b => snd_cm c a b (snd_all C F a) (snd_all C F b)
  | .chn c c' a b d => snd_chn c c' a b d (snd_all C F a) (snd_all C F b) (snd_all C F d)
  | .and a b => snd_and a b (snd_all C F a) (snd_all C F b)
  | .or a b => snd_or a b (snd_all C F a) (snd_all C F b)
  | .one a => snd_one a (snd_all C F a)
  | .not a => snd_not a (snd_all C F a)
  | .ite t a b => snd_ite t a b (snd_all C F t) (snd_all C F a) (snd_all C F b)
  | .nil => snd_nil
  | .cons a as => snd_cons a as (snd_all C F a) (snd_all C F as)
  | .tup es => snd_tup es (snd_all C F es)
  | .lst es => snd_lst es (snd_all C F es)
  | .ix a i => snd_ix a i (snd_all C F a) (snd_all C F i)
  | .sl a lo hi => snd_sl a lo hi (snd_all C F a) (snd_all C F lo) (snd_all C F hi)
  | .no => Snd.no (fun _ _ _ _ => rfl) fun _ _ _ => rfl
  | .rev a => snd_rev a (snd_all C F a)
  | .bi f es => snd_bin f es (snd_all C F es)
  | .me m r es => snd_me m r es (snd_all C F r) (snd_all C F es)
  | .call f es => snd_call f es (snd_all C F es)
  | .callp f i es => snd_callp f i es (snd_all C F es)
  | .draw i e => snd_draw i e (snd_all C F e)
  | .rng es => snd_rng es (snd_all C F es)
  | .rngl es => snd_rngl es (snd_all C F es)
  | .rngt es => snd_rngt es (snd_all C F es)
  | .zip a b => snd_zip a b (snd_all C F a) (snd_all C F b)
  | .comp elt tg it cnd => snd_comp elt tg it cnd (snd_all C F elt) (snd_all C F it) (snd_all C F cnd)
  | .yes => Snd.no (fun _ _ _ _ => rfl) fun _ _ _ => rfl
  | .dct es => Snd.no (fun _ _ _ _ => rfl) fun _ _ _ => rfl
  | .sortk it i key => Snd.no (fun _ _ _ _ => rfl) fun _ _ _ => rfl
  | .sset es => snd_sset es (snd_all C F es)
  | .lset es => snd_lset es (snd_all C F es)
end Ev

/-! EvSt -/
set_option maxHeartbeats 4000000
namespace Ev
open PySem PySem.Spec PyProof.Rows L2
variable {C : Ctx} {X : Cx} {sc : Scope} {F : Nat → Bool → List PyData → Tr PyData} {K : PySem.W.Frag} {pa : Addr} {Gf G0 H0 G H G' H' : Hp} {env : Env} {σ : L2.St} {Q : VK} {fuel : Nat}

/-- a body's state: what the slots hold; what stood at the entry stands; its own objects are new and apart -/
structure SE (K : PySem.W.Frag) (pa : Addr) (Gf G0 H0 G : Hp) (env : Env) (σ : L2.St) (H : Hp) : Prop where
  re : RE K pa G env σ H
  ext : Ext K pa G0 H0 G H
  fl : Sub Gf G
  own : ∀ i a d, getE i env = .o d → σ[i]? = some (some (.ref a)) → H0 a = none
  dis : ∀ i j a d e, i ≠ j → getE i env = .o d → getE j env = .o e → σ[i]? = some (some (.ref a)) → σ[j]? = some (some (.ref a)) → False
theorem SE.step (s : SE K pa Gf G0 H0 G env σ H) (e : Ext K pa G H G' H') : SE K pa Gf G0 H0 G' env σ H' := ⟨s.re.ext e, s.ext.trans e, fun b o h => e.gg b o (s.fl b o h), s.own, s.dis⟩
theorem get_set_self {i : Nat} {x : SV} {d : PyData} {env : Env} (h : getE i (setE i x env) = .o d) : x = .o d := by
  rw [getE_setE, if_pos rfl] at h
  split at h
  · exact h
  · cases h
theorem get_set_ne {i j : Nat} {x : SV} {env : Env} (n : i ≠ j) : getE j (setE i x env) = getE j env := by
  rw [getE_setE, if_neg n]
/-- a slot is set to a value that stands still -/
theorem SE.setV {i : Nat} {d : PyData} {v : V} (s : SE K pa Gf G0 H0 G env σ H) (hv : Val G v d) : SE K pa Gf G0 H0 G (setE i (.v d) env) (σ.set i (some v)) H where
  re := s.re.set ⟨v, rfl, hv⟩
  ext := s.ext
  fl := s.fl
  own := fun j a e h1 h2 => by
    by_cases n : i = j
    · subst n; exact nomatch get_set_self h1
    · rw [get_set_ne n] at h1; rw [List.getElem?_set_ne n] at h2; exact s.own j a e h1 h2
  dis := fun j k a e f n h1 h2 h3 h4 => by
    by_cases n1 : i = j
    · subst n1; exact nomatch get_set_self h1
    · by_cases n2 : i = k
      · subst n2; exact nomatch get_set_self h2
      · rw [get_set_ne n1] at h1; rw [List.getElem?_set_ne n1] at h3; rw [get_set_ne n2] at h2; rw [List.getElem?_set_ne n2] at h4
        exact s.dis j k a e f n h1 h2 h3 h4
/-- the slot's own list, as it lies -/
theorem SE.ownL {i : Nat} {ds : List PyData} (s : SE K pa Gf G0 H0 G env σ H) (h : getE i env = .o (.list ds)) : ∃ a xs, σ[i]? = some (some (.ref a)) ∧ a ≠ pa ∧ G a = none ∧ H0 a = none ∧ H a = some (.lst xs) ∧ All2 (Da G) xs ds := by
  have sl := s.re.slot i
  rw [h] at sl
  obtain ⟨a, e, n, g, xs, hx, r⟩ := sl
  exact ⟨a, xs, e, n, g, s.own i a _ h e, hx, r⟩
theorem get_lt {i : Nat} {env : Env} {d : PyData} (h : getE i env = .o d) : i < env.length := by
  rcases Nat.lt_or_ge i env.length with q | q
  · exact q
  · rw [getE_none q] at h; cases h
/-- the own object of a slot changes -/
theorem SE.putO {i : Nat} {a : Addr} {d dn : PyData} {ob : HO} (s : SE K pa Gf G0 H0 G env σ H) (h : getE i env = .o d) (e : σ[i]? = some (some (.ref a))) (n : a ≠ pa) (g : G a = none) (r : OwnAt G (upd H a ob) a dn) :
    SE K pa Gf G0 H0 G (setE i (.o dn) env) σ (upd H a ob) where
  re := by
    refine ⟨⟨fun b u hb => ?_, ?_, s.re.gh.ng⟩, by rw [setE_length]; exact s.re.len, fun j => ?_⟩
    · rw [upd_ne (by intro z; subst z; rw [g] at hb; cases hb)]; exact s.re.gh.sub _ _ hb
    · obtain ⟨l, ns, p, q, c, t, e1, x⟩ := s.re.gh.pool
      exact ⟨l, ns, p, q, c, t, by rw [upd_ne (Ne.symm n)]; exact e1, x⟩
    · by_cases z : i = j
      · subst z
        rw [getE_setE, if_pos rfl, if_pos (get_lt h)]
        exact ⟨a, e, n, g, r⟩
      · rw [get_set_ne z]
        have sl := s.re.slot j
        cases hj : getE j env with
        | no => trivial
        | v d' => rw [hj] at sl; exact sl
        | pool => rw [hj] at sl; exact sl
        | o d' =>
          rw [hj] at sl
          obtain ⟨b, e2, n2, g2, o2⟩ := sl
          have hab : b ≠ a := fun z2 => by subst z2; exact s.dis i j b d d' z h hj e e2
          refine ⟨b, e2, n2, g2, ?_⟩
          cases d' with
          | list ds' => obtain ⟨ys, q1, q2⟩ := o2; exact ⟨ys, by rw [upd_ne hab]; exact q1, q2⟩
          | dict kvs => obtain ⟨o', q1, q2⟩ := o2; exact ⟨o', by rw [upd_ne hab]; exact q1, q2⟩
          | _ => exact o2.elim
  fl := s.fl
  ext := by
    have hz := s.own i a d h e
    refine ⟨s.ext.gg, fun b u hb => ?_, fun b u nb hb => ?_, s.ext.nw, ?_⟩
    · rw [upd_ne (by intro z; subst z; rw [g] at hb; cases hb)]; exact s.ext.gh _ _ hb
    · rw [upd_ne (by intro z; subst z; rw [hz] at hb; cases hb)]; exact s.ext.hh _ _ nb hb
    · obtain ⟨l, ns, p, q, c, t, e1, x⟩ := s.ext.pool
      exact ⟨l, ns, p, q, c, t, by rw [upd_ne (Ne.symm n)]; exact e1, x⟩
  own := fun j b d' h1 h2 => by
    by_cases z : i = j
    · subst z; rw [e] at h2; cases h2; exact s.own i a d h e
    · rw [get_set_ne z] at h1; exact s.own j b d' h1 h2
  dis := fun j k b d1 d2 nn h1 h2 h3 h4 => by
    have w : ∀ j d1, getE j (setE i (.o dn) env) = .o d1 → ∃ d2, getE j env = .o d2 := fun j d1 hj => by
      by_cases z : i = j
      · subst z; exact ⟨d, h⟩
      · rw [get_set_ne z] at hj; exact ⟨d1, hj⟩
    obtain ⟨e1, w1⟩ := w j d1 h1
    obtain ⟨e2, w2⟩ := w k d2 h2
    exact s.dis j k b e1 e2 nn w1 w2 h3 h4
theorem SE.putL {i : Nat} {a : Addr} {d : PyData} {ds : List PyData} {xs : List V} (s : SE K pa Gf G0 H0 G env σ H) (h : getE i env = .o d) (e : σ[i]? = some (some (.ref a))) (n : a ≠ pa) (g : G a = none) (r : All2 (Da G) xs ds) :
    SE K pa Gf G0 H0 G (setE i (.o (.list ds)) env) σ (upd H a (.lst xs)) := s.putO h e n g ⟨xs, upd_same, r⟩
/-- a slot gets a new object of its own -/
theorem SE.newO {i : Nat} {a : Addr} {dn : PyData} (s : SE K pa Gf G0 H0 G env σ H) (hi : i < env.length) (hn : H0 a = none) (n : a ≠ pa) (g : G a = none) (r : OwnAt G H a dn)
    (fr : ∀ j d, getE j env = .o d → σ[j]? ≠ some (some (.ref a))) : SE K pa Gf G0 H0 G (setE i (.o dn) env) (σ.set i (some (.ref a))) H where
  re := s.re.set ⟨a, rfl, n, g, r⟩
  ext := s.ext
  fl := s.fl
  own := fun j b d h1 h2 => by
    by_cases z : i = j
    · subst z
      rw [List.getElem?_set_self (by rw [← s.re.len]; exact hi)] at h2
      cases h2
      exact hn
    · rw [get_set_ne z] at h1; rw [List.getElem?_set_ne z] at h2; exact s.own j b d h1 h2
  dis := fun j k b d1 d2 nn h1 h2 h3 h4 => by
    by_cases z : i = j
    · subst z
      rw [List.getElem?_set_self (by rw [← s.re.len]; exact hi)] at h3
      cases h3
      rw [get_set_ne nn] at h2; rw [List.getElem?_set_ne nn] at h4
      exact fr k d2 h2 h4
    · by_cases z2 : i = k
      · subst z2
        rw [List.getElem?_set_self (by rw [← s.re.len]; exact hi)] at h4
        cases h4
        rw [get_set_ne z] at h1; rw [List.getElem?_set_ne z] at h3
        exact fr j d1 h1 h3
      · rw [get_set_ne z] at h1; rw [List.getElem?_set_ne z] at h3; rw [get_set_ne z2] at h2; rw [List.getElem?_set_ne z2] at h4
        exact s.dis j k b d1 d2 nn h1 h2 h3 h4
theorem SE.newL {i : Nat} {a : Addr} {ds : List PyData} {xs : List V} (s : SE K pa Gf G0 H0 G env σ H) (hi : i < env.length) (hn : H0 a = none) (n : a ≠ pa) (g : G a = none) (ha : H a = some (.lst xs)) (r : All2 (Da G) xs ds)
    (fr : ∀ j d, getE j env = .o d → σ[j]? ≠ some (some (.ref a))) : SE K pa Gf G0 H0 G (setE i (.o (.list ds)) env) (σ.set i (some (.ref a))) H := s.newO hi hn n g ⟨xs, ha, r⟩ fr
/-- the slot's own dict, as it lies -/
theorem SE.ownD {i : Nat} {kvs : List (PyData × PyData)} (s : SE K pa Gf G0 H0 G env σ H) (h : getE i env = .o (.dict kvs)) : ∃ a o, σ[i]? = some (some (.ref a)) ∧ a ≠ pa ∧ G a = none ∧ H0 a = none ∧ H a = some o ∧ DctV G a o kvs := by
  have sl := s.re.slot i
  rw [h] at sl
  obtain ⟨a, e, n, g, o, hx, r⟩ := sl
  exact ⟨a, o, e, n, g, s.own i a _ h e, hx, r⟩
/-- an own object stands still from here on -/
theorem SE.frz {i : Nat} {ds : List PyData} (s : SE K pa Gf G0 H0 G env σ H) (h : getE i env = .o (.list ds)) : ∃ G', SE K pa Gf G0 H0 G' (setE i (.v (.list ds)) env) σ H ∧ ∃ a, σ[i]? = some (some (.ref a)) ∧ Val G' (.ref a) (.list ds) ∧ Ext K pa G0 H0 G' H := by
  obtain ⟨a, xs, e, n, g, hz, hx, r⟩ := s.ownL h
  have sub := sub_upd (o := .lst xs) g
  have val : Val (upd G a (.lst xs)) (.ref a) (.list ds) := Da.lst upd_same (das_of (r.mono fun _ _ => Da.sub sub))
  have ext := s.ext.tell hz hx g n
  refine ⟨upd G a (.lst xs), ⟨⟨⟨fun b u hb => ?_, ext.pool, ?_⟩, by rw [setE_length]; exact s.re.len, fun j => ?_⟩, ext, fun b o h => sub b o (s.fl b o h), fun j b d h1 h2 => ?_, fun j k b d1 d2 nn h1 h2 h3 h4 => ?_⟩, a, e, val, ext⟩
  · by_cases z : b = a
    · subst z; rw [upd_same] at hb; cases hb; exact hx
    · rw [upd_ne z] at hb; exact s.re.gh.sub _ _ hb
  · rw [upd_ne (Ne.symm n)]; exact s.re.gh.ng
  · by_cases z : i = j
    · subst z
      rw [getE_setE, if_pos rfl, if_pos (get_lt h)]
      exact ⟨_, e, val⟩
    · rw [get_set_ne z]
      have sl := s.re.slot j
      cases hj : getE j env with
      | no => trivial
      | v d' => rw [hj] at sl; obtain ⟨v, q1, q2⟩ := sl; exact ⟨v, q1, q2.sub sub⟩
      | pool => rw [hj] at sl; exact sl
      | o d' =>
        rw [hj] at sl
        obtain ⟨b, e2, n2, g2, o2⟩ := sl
        have hab : b ≠ a := fun z2 => by subst z2; exact s.dis i j b _ d' z h hj e e2
        refine ⟨b, e2, n2, by rw [upd_ne hab]; exact g2, ?_⟩
        cases d' with
        | list ds' => obtain ⟨ys, q1, q2⟩ := o2; exact ⟨ys, q1, q2.mono fun _ _ => Da.sub sub⟩
        | dict kvs => obtain ⟨o', q1, q2⟩ := o2; exact ⟨o', q1, q2.sub sub⟩
        | _ => exact o2.elim
  · by_cases z : i = j
    · subst z; exact nomatch get_set_self h1
    · rw [get_set_ne z] at h1; exact s.own j b d h1 h2
  · by_cases z : i = j
    · subst z; exact nomatch get_set_self h1
    · by_cases z2 : i = k
      · subst z2; exact nomatch get_set_self h2
      · rw [get_set_ne z] at h1; rw [get_set_ne z2] at h2
        exact s.dis j k b d1 d2 nn h1 h2 h3 h4

/-- a slot is forgotten -/
theorem SE.wipe1 {i : Nat} (s : SE K pa Gf G0 H0 G env σ H) : SE K pa Gf G0 H0 G (setE i .no env) σ H := by
  refine ⟨⟨s.re.gh, by rw [setE_length]; exact s.re.len, fun j => ?_⟩, s.ext, s.fl, fun j b d h1 h2 => ?_, fun j k b d1 d2 nn h1 h2 h3 h4 => ?_⟩
  · by_cases z : i = j
    · subst z
      rw [getE_setE, if_pos rfl]
      split <;> trivial
    · rw [get_set_ne z]; exact s.re.slot j
  · by_cases z : i = j
    · subst z; exact nomatch get_set_self h1
    · rw [get_set_ne z] at h1; exact s.own j b d h1 h2
  · by_cases z : i = j
    · subst z; exact nomatch get_set_self h1
    · by_cases z2 : i = k
      · subst z2; exact nomatch get_set_self h2
      · rw [get_set_ne z] at h1; rw [get_set_ne z2] at h2
        exact s.dis j k b d1 d2 nn h1 h2 h3 h4
theorem SE.wipes (s : SE K pa Gf G0 H0 G env σ H) : ∀ is : List Nat, SE K pa Gf G0 H0 G (wipeE is env) σ H
  | [] => s
  | _ :: is => (s.wipes is).wipe1
/-- what an outcome asks of the ends -/
def OutOk (K : PySem.W.Frag) (pa : Addr) (Gf G0 H0 : Hp) (D : Ends) : Out → Prop
  | .nx e => ∀ σ H G, SE K pa Gf G0 H0 G e σ H → D.nx σ H
  | .rt d => ∀ v H G, Ext K pa G0 H0 G H → Val G v d → D.rt v H
  | .bk e => ∀ σ H G, SE K pa Gf G0 H0 G e σ H → D.bk σ H
  | .ct e => ∀ σ H G, SE K pa Gf G0 H0 G e σ H → D.ct σ H
def tEvS (K : PySem.W.Frag) (F : Nat → Bool → List PyData → Tr PyData) (fuel : Nat) (s : S) : TS := fun D σ H =>
  ∃ (pa : Addr) (Gf G0 H0 G : Hp) (env : Env), SE K pa Gf G0 H0 G env σ H ∧ (ex F fuel s env).All (OutOk K pa Gf G0 H0 D)
/-- what a def's body stands on -/
structure OkB (C : Ctx) (F : Nat → Bool → List PyData → Tr PyData) (X : Cx) (sc : Scope) : Prop extends OkX C F X sc where
  real : X.env.scope = sc
  fkind : sc.kind = .function
  pass : PassesOwn (model X.prog X.w) X.A X.env X.xe
theorem PS.imp {x : Stmt} {t t' : TS} (h : PS X x t) (i : ∀ D σ H, t' D σ H → t D σ H) : PS X x t' := ⟨fun pins s σ H D I q => h.run pins s σ H D I (i _ _ _ q)⟩
theorem PSs.imp {x : List Stmt} {t t' : TS} (h : PSs X x t) (i : ∀ D σ H, t' D σ H → t D σ H) : PSs X x t' := ⟨fun pins s σ H D I q => h.run pins s σ H D I (i _ _ _ q)⟩
end Ev

/-! EvSt2 -/
set_option maxHeartbeats 4000000
namespace Ev
open PySem PySem.Spec PyProof.Rows L2
variable {C : Ctx} {X : Cx} {sc : Scope} {F : Nat → Bool → List PyData → Tr PyData} {K : PySem.W.Frag} {pa : Addr} {G0 H0 G H G' H' : Hp} {env : Env} {σ : L2.St} {Q : VK} {fuel : Nat}

theorem new_lst (o : OkX C F X sc) {es : E} {x : Expr} (h : chkE C (.lst es) false none sc x = true) : PE X x (tEvN X.K F (.lst es)) := by
  cases x with
  | List xs pos =>
    refine PE.imp (pe_lst ((snd_all C F es).pa o (show chkL C es false sc xs = true from h))) fun σ H Q ⟨pa, G, env, re, all⟩ => ?_
    refine ⟨pa, G, env, re, Tr.All_mono (Tr.All_bind (t := ev F es env) all) fun y hy => ?_⟩
    cases y with
    | tuple ys =>
      refine ⟨ys, rfl, fun vs H1 G1 e1 b1 => ?_⟩
      have hy : (cond (lenOk ys) (Tr.ret (PyData.list ys)) Tr.fail).All _ := hy
      cases hl : lenOk ys with
      | false => rw [hl] at hy; exact hy.elim
      | true =>
        rw [hl] at hy
        obtain ⟨ds, hd, q⟩ := hy
        cases hd
        exact ⟨by rw [b1.length]; exact lenOk_iff.mp hl, new_N e1 (e1.gh' re.gh) q (b1.mono fun _ _ => val_da)⟩
    | _ => exact hy.elim
  | _ => exact nomatch h
theorem new_list (o : OkX C F X sc) {es : E} {x : Expr} (h : chkE C (.bi .list es) false none sc x = true) : PE X x (tEvN X.K F (.bi .list es)) := by
  match x, h with
  | .Call (.Name y p) (z :: zs) [] pos, h =>
    obtain ⟨h1, h4⟩ := and2 (show (glB sc y && strEq y (biName .list) && okN y && chkL C es true sc (z :: zs)) = true from h)
    obtain ⟨h1, h3⟩ := and2 h1
    obtain ⟨hgl, h2⟩ := and2 h1
    obtain ⟨n1, n2, n3⟩ := okN_ok h3
    have e := strEq_eq h2
    subst e
    obtain ⟨s1, s2⟩ := chkL_head h4 X.env pos
    refine PE.imp (pe_callTy call_list_of (o.gl hgl) (o.blt _ (by decide +kernel)) boot_list ((snd_all C F es).pa o h4) n3 n1 s1 s2) fun σ H Q ⟨pa, G, env, re, all⟩ => ?_
    refine ⟨pa, G, env, re, Tr.All_mono (Tr.All_bind (t := ev F es env) all) fun y hy => ?_⟩
    cases y with
    | tuple ys =>
      refine ⟨ys, rfl, fun vs H1 G1 e1 b1 => ?_⟩
      have g1 := e1.gh' re.gh
      obtain ⟨r, hr, ds, hd, q⟩ := Tr.All_ofO (show (Tr.ofO (biD .list ys)).All _ from hy)
      subst hd
      match ys, hr, b1 with
      | [d], hr, b1 =>
        obtain ⟨v, rfl, hv⟩ := all2_1 b1
        have hr : (items d).map PyData.list = some (.list ds) := hr
        cases hi : items d with
        | none => rw [hi] at hr; exact nomatch hr
        | some zs =>
          rw [hi] at hr
          cases hr
          obtain ⟨a, xs, rfl, r1, h2⟩ := bor_items g1.sub hv.bor hi
          refine ⟨a, xs, rfl, ?_, new_N e1 g1 q r1⟩
          rcases h2 with ⟨h2, _⟩ | ⟨h2, _⟩
          · exact .inl (SqL.of h2)
          · exact .inr h2.sq
    | _ => exact hy.elim
  | .Call (.Name y p) (z :: zs) (kw :: kws) pos, h =>
    simp only [chkE] at h
    split at h <;> simp_all [isSR]
theorem new_rngl (o : OkX C F X sc) {es : E} {x : Expr} (h : chkE C (.rngl es) false none sc x = true) : PE X x (tEvN X.K F (.rngl es)) := by
  simp only [chkE] at h
  split at h
  · rename_i y0 p0 y p z zs pos pos0
    obtain ⟨h1, h7⟩ := and2 h
    obtain ⟨h1, h6⟩ := and2 h1
    obtain ⟨h1, h5⟩ := and2 h1
    obtain ⟨h1, h4⟩ := and2 h1
    obtain ⟨h1, h3⟩ := and2 h1
    obtain ⟨hgl, h2⟩ := and2 h1
    have e := strEq_eq h2
    subst e
    have e := strEq_eq h5
    subst e
    refine ⟨fun pins s σ H Q I ⟨pa, G, env, re, all⟩ => ?_⟩
    refine Call_ (ld_blt I (o.gl hgl) (o.blt _ (by decide +kernel)) boot_list (PyProof.Rows.callWith_type1 (args_cons (thn (rg_eval (y := "") (p := p) (pos := pos) (E := X.xe) (R := fun a b' c n H1 => ∃ G1, Ext X.K pa G H G1 H1 ∧ ∀ a' xs H' G', Ext X.K pa G H G' H' → H a' = none → G' a' = none → H' a' = some (.lst xs) → All2 (Da G') xs (upI c n a) → Q (.ref a') H') o (o.gl h4) ((snd_all C F es).pa o h7) h7 I ?_) fun v s1 ⟨r, a, b', c, n, t1, t2, t3, H1, ds, ev', hr, I1, ok, G1, e1, q⟩ => args_nil ?_) rfl) rfl))
    · refine ⟨pa, G, env, re, Tr.All_mono (Tr.All_bind (t := ev F es env) all) fun y hy => ?_⟩
      cases y with
      | tuple ys =>
        obtain ⟨d, hd, q⟩ := Tr.All_ofO (show (Tr.ofO ((rngD ys).map PyData.list)).All _ from hy)
        cases hg : rngD ys with
        | none => rw [hg] at hd; exact nomatch hd
        | some its =>
          rw [hg] at hd
          cases hd
          refine ⟨ys, its, rfl, hg, fun a b' c n H1 G1 e1 hi ok => ⟨G1, e1, fun a' xs H' G' ee ha ga hx rr => ?_⟩⟩
          obtain ⟨ds', hd', q'⟩ := q
          cases hd'
          subst hi
          exact q' a' xs H' G' ee ha ga hx rr
      | _ => exact hy.elim
    · subst ev'
      refine call_list_range (n := n) (I1.ok.hd o.calm) hr ok.sm ok.sz ok.nn fun h' tk acc c' hk e' hi => ?_
      have ln : (upV c n a).length = n := by unfold upV; rw [List.length_map, List.length_range]
      have np : H1 s1.heap.objs.size = none := I1.hok.fresh (Nat.le_refl _)
      refine ⟨.ref s1.heap.objs.size, upd H1 s1.heap.objs.size (.lst (upV c n a)), I1.laid hk (Nat.le_refl _) (show ObjOk X.prog X.w _ _ _ (.lst (upV c n a)) from ⟨?_, acc.toList, c', vals_up hi, ?_⟩), rfl, new_N e1 (e1.gh' re.gh) q (upV_da c n a) _ np⟩
      · rw [ln, sizeLine_eq]; have := ok.nn; omega
      · rw [Array.toArray_toList]; exact e'
  · exact nomatch h
theorem new_op (o : OkX C F X sc) {op : Op} {a c : E} {x : Expr} (hop : op = .add ∨ op = .mul) (h : chkE C (.op op a c) false none sc x = true) : PE X x (tEvN X.K F (.op op a c)) := by
  cases x with
  | BinOp l p r pos =>
    obtain ⟨h1, h3⟩ := and2 (show (opIs op p && chkE C a true none sc l && chkE C c true none sc r) = true from h)
    obtain ⟨h1, h2⟩ := and2 h1
    rw [opIs_eq h1]
    -- both operands
    have two : ∀ {R : R2} {σ H Q}, tEvN X.K F (.op op a c) σ H Q → (∀ pa G0 H0 G1 H1 v u x y ds, GH X.K pa G0 H0 → Ext X.K pa G0 H0 G1 H1 → Bor pa G1 H1 v x → Bor pa G1 H1 u y → opD op x y = some (.list ds) →
        (∀ a xs H' G', Ext X.K pa G0 H0 G' H' → H0 a = none → G' a = none → H' a = some (.lst xs) → All2 (Da G') xs ds → Q (.ref a) H') → R v u H1 Q) → tOp R (tEv X.K F true a) (tEv X.K F true c) σ H Q := fun {R σ H Q} ⟨pa, G, env, re, all⟩ f => by
      refine ⟨pa, G, env, re, Tr.All_mono (Tr.All_bind (t := ev F a env) all) fun x hx v H1 G1 e1 b1 => ?_⟩
      refine ⟨pa, G1, env, re.ext e1, Tr.All_mono (Tr.All_bind (t := ev F c env) hx) fun y hy u H2 G2 e2 b2 => ?_⟩
      obtain ⟨r, hr, ds, hd, q⟩ := Tr.All_ofO hy
      subst hd
      have b1' : Bor pa G1 H1 v x := b1
      exact f pa G H G2 H2 v u x y ds re.gh (e1.trans e2) (b1'.ext e2) b2 hr q
    rcases hop with rfl | rfl
    · refine PE.imp (pe_op op_cat ((snd_all C F a).pe o h2) ((snd_all C F c).pe o h3)) fun σ H Q q => two q fun pa G0 H0 G1 H1 v u x y ds g e b1 b2 hr q => ?_
      have g1 := e.gh' g
      cases x with
      | list i => cases y with
        | list j =>
          simp only [opD] at hr
          cases hl : lenOk (i ++ j) with
          | false => rw [hl] at hr; exact nomatch hr
          | true =>
            rw [hl] at hr
            cases hr
            have z := lenOk_iff.mp hl
            obtain ⟨a, xs, rfl, h1, r1⟩ := bor_lst g1.sub b1
            obtain ⟨b, ys, rfl, h2, r2⟩ := bor_lst g1.sub b2
            rw [List.length_append, ← r1.length, ← r2.length] at z
            exact ⟨a, b, xs, ys, rfl, rfl, h1, h2, z, new_N e g1 q (r1.append r2)⟩
        | _ => exact nomatch hr
      | str i => cases y with
        | str j =>
          simp only [opD] at hr
          cases hl : lenOk (i.cps.toList ++ j.cps.toList) with
          | false => rw [hl] at hr; exact nomatch hr
          | true => rw [hl] at hr; exact nomatch hr
        | _ => exact nomatch hr
      | tuple i => cases y with
        | tuple j =>
          simp only [opD] at hr
          cases hl : lenOk (i ++ j) with
          | false => rw [hl] at hr; exact nomatch hr
          | true => rw [hl] at hr; exact nomatch hr
        | _ => exact nomatch hr
      | _ => cases y <;> exact nomatch hr
    · refine PE.imp (pe_op op_rep ((snd_all C F a).pe o h2) ((snd_all C F c).pe o h3)) fun σ H Q q => two q fun pa G0 H0 G1 H1 v u x y ds g e b1 b2 hr q => ?_
      have g1 := e.gh' g
      cases x with
      | list i => cases y with
        | int j =>
          simp only [opD] at hr
          cases hl : (iltB j 1000000 && Nat.ble (i.length * j.toNat) lim && iltB (-1000000) j) with
          | false => rw [hl] at hr; exact nomatch hr
          | true =>
            rw [hl] at hr
            cases hr
            rw [Bool.and_eq_true, Bool.and_eq_true, iltB_iff, iltB_iff, decide_eq_true_eq, decide_eq_true_eq, Nat.ble_eq] at hl
            obtain ⟨⟨l1, l2⟩, l3⟩ := hl
            obtain ⟨a, xs, rfl, h1, r1⟩ := bor_lst g1.sub b1
            have l2' : xs.length * j.toNat ≤ sizeLine := by rw [sizeLine_eq, r1.length]; exact l2
            rw [repN_eq] at q
            exact ⟨a, j, xs, rfl, bor_int b2, h1, by omega, by omega, l2', new_N e g1 q (r1.rep _)⟩
        | _ => exact nomatch hr
      | int i => cases y with
        | int j =>
          simp only [opD] at hr
          cases hl : (fitsB i || fitsB j) with
          | false => rw [hl] at hr; exact nomatch hr
          | true => rw [hl] at hr; exact nomatch hr
        | _ => exact nomatch hr
      | tuple i => cases y with
        | int j =>
          simp only [opD] at hr
          cases hl : (ileB (-1000000) j && ileB j 1000 && Nat.ble i.length 1000) with
          | false => rw [hl] at hr; exact nomatch hr
          | true => rw [hl] at hr; exact nomatch hr
        | _ => exact nomatch hr
      | _ => cases y <;> exact nomatch hr
  | _ => exact nomatch h

theorem new_comp (o : OkX C F X sc) {elt : E} {tg : Tg} {it cnd : E} {x : Expr} (h : chkE C (.comp elt tg it cnd) false none sc x = true) : PE X x (tEvN X.K F (.comp elt tg it cnd)) := by
  match x, h with
  | .ListComp y [⟨t, z, ifs, 0⟩] sc' pos, h =>
    have P := comp_parts elt tg it cnd (snd_all C F elt) (snd_all C F it) (snd_all C F cnd) o h
    refine PE.imp (pe_lc o.calm (by rw [o.nm]; exact o.nd) P.pi P.bo P.pg P.pt P.pe P.hs) fun σ H Q q => ?_
    rw [P.hv]
    exact comp_core q
theorem setE_out {i : Nat} {x : SV} : ∀ {env : Env}, env.length ≤ i → setE i x env = env := by
  induction i with
  | zero => intro env h; cases env with
    | nil => rfl
    | cons _ _ => simp at h
  | succ i ih => intro env h; cases env with
    | nil => rfl
    | cons y ys => show y :: setE i x ys = _; rw [ih (by simpa using h)]

theorem kind_loc (o : OkB C F X sc) {y : Str} : (X.env.kindOf y == some .local) = loc1 sc y := by
  have : X.env.kindOf y = sc.names.lookup y := by show X.env.scope.names.lookup y = _; rw [o.real]
  rw [this]
  unfold loc1
  rw [lookN_eq]
  cases sc.names.lookup y with
  | none => rfl
  | some k => cases k <;> rfl
theorem blk_fn (o : OkB C F X sc) : X.env.blockKind = .function := by
  have : X.env.scope.kind = .function := by rw [o.real]; exact o.fkind
  unfold Env.blockKind
  rw [this]; rfl
theorem sw_is (o : OkB C F X sc) {x : Expr} {y : Str} {py : Pos} {l : Nat} : swapsWith x (some (.Name y py)) l X.env = pure (swB sc x y py) := by
  have k := kind_loc o (y := y)
  have b := blk_fn o
  cases x <;> first
    | rfl
    | (show pure (X.env.blockKind == .function && X.env.kindOf y == some .local && py.line == _ && !_) = pure (loc1 sc y && py.line == _ && !_)
       rw [k, b]; rfl)
/-- name = value by a reading -/
theorem st_asg (o : OkB C F X sc) {i : Nat} {y : Str} {py pos : Pos} {x : Expr} {te : TE} (hn : nameAt C i y = true) (hl : locB sc y = true) (pe : PE X x te) (hs : (!swB sc x y py) = true) : PS X (.Assign [.Name y py] x pos) (tAsg te (gName i)) := by
  rw [Bool.not_eq_true'] at hs
  obtain ⟨l1, l2⟩ := o.loc hl
  exact ps_set (by rw [o.nm]; exact o.nd) (o.at hn) l1 pe (by rw [sw_is o, hs]) l2
theorem st_comp (o : OkB C F X sc) {i : Nat} {y : Str} {py pos : Pos} {x : Expr} {elt : E} {tg : Tg} {it cnd : E} (hn : nameAt C i y = true) (hs : swB sc x y py = true) (h : chkE C (.comp elt tg it cnd) false none sc x = true) :
    PS X (.Assign [.Name y py] x pos) (tAsg (tEvN X.K F (.comp elt tg it cnd)) (gName i)) := by
  match x, h with
  | .ListComp y' [⟨t, z, ifs, 0⟩] sc' p', h =>
    have P := comp_parts elt tg it cnd (snd_all C F elt) (snd_all C F it) (snd_all C F cnd) o.toOkX h
    have hy : X.env.scope.names.lookup y = some .local := by
      obtain ⟨h1, _⟩ := and2 (show (loc1 sc y && py.line == p'.line && !(sc'.names.any fun (n, k) => n == y && (k == .local || k == .cell))) = true from hs)
      obtain ⟨h1, _⟩ := and2 h1
      unfold loc1 at h1
      rw [lookN_eq] at h1
      rw [o.real]
      split at h1
      · rename_i e; exact e
      · exact nomatch h1
    refine PS.imp (ps_setLc o.calm (by rw [o.nm]; exact o.nd) (o.at hn) hy (by rw [sw_is o, hs]) P.pi P.bo P.pg P.pt P.pe P.hs) fun D σ H q => ?_
    rw [P.hv]
    exact comp_core (show tEvN X.K F (.comp elt tg it cnd) σ H (fun x H1 => gName i x σ H1 D.nx) from q)
/-- a value that stands still -/
theorem st_set (o : OkB C F X sc) {i : Nat} {e : E} {y : Str} {py pos : Pos} {x : Expr} (h : (nameAt C i y && locB sc y && chkE C e false none sc x && (!swB sc x y py || isCompE e)) = true) : PS X (.Assign [.Name y py] x pos) (tEvS X.K F fuel (.set i e)) := by
  obtain ⟨h1, h4⟩ := and2 h
  obtain ⟨h1, h3⟩ := and2 h1
  obtain ⟨hnm, h2⟩ := and2 h1
  have fin : ∀ D σ H, tEvS X.K F fuel (.set i e) D σ H → tEv X.K F false e σ H fun x H1 => gName i x σ H1 D.nx := fun D σ H ⟨pa, Gf, G0, H0, G, env, s, all⟩ =>
    ⟨pa, G, env, s.re, Tr.All_mono (Tr.All_bind (t := ev F e env) all) fun d hd v H1 G1 e1 b1 => (show ∀ σ H G, SE X.K pa Gf G0 H0 G (setE i (.v d) env) σ H → D.nx σ H from hd) _ _ _ ((s.step e1).setV b1)⟩
  cases hs : swB sc x y py with
  | false => exact PS.imp (st_asg o hnm h2 ((snd_all C F e).pe o.toOkX h3) (by rw [hs]; rfl)) fin
  | true =>
    rw [hs] at h4
    cases e with
    | comp elt tg it cnd => exact PS.imp (st_comp o hnm hs h3) fun D σ H q => comp_N (fin D σ H q)
    | _ => exact nomatch h4
/-- an object of the def's own -/
theorem st_own (o : OkB C F X sc) {i : Nat} {e : E} {y : Str} {py pos : Pos} {x : Expr} (h : (nameAt C i y && locB sc y && newE e && chkE C e false none sc x && (!swB sc x y py || isCompE e)) = true) : PS X (.Assign [.Name y py] x pos) (tEvS X.K F fuel (.own i e)) := by
  obtain ⟨h1, h5⟩ := and2 h
  obtain ⟨h1, h4⟩ := and2 h1
  obtain ⟨h1, h3⟩ := and2 h1
  obtain ⟨hnm, h2⟩ := and2 h1
  have fin : ∀ D σ H, tEvS X.K F fuel (.own i e) D σ H → tEvN X.K F e σ H fun x H1 => gName i x σ H1 D.nx := fun D σ H ⟨pa, Gf, G0, H0, G, env, s, all⟩ => by
    refine ⟨pa, G, env, s.re, Tr.All_mono (Tr.All_bind (t := ev F e env) all) fun d hd => ?_⟩
    cases d with
    | list ds =>
      refine ⟨ds, rfl, fun a xs H1 G1 e1 ha ga h1 r => ?_⟩
      refine (show ∀ σ H G, SE X.K pa Gf G0 H0 G (setE i (.o (.list ds)) env) σ H → D.nx σ H from hd) _ _ G1 ?_
      have np : a ≠ pa := fun z => by subst z; exact s.re.gh.pool.at ha
      rcases Nat.lt_or_ge i env.length with hi | hi
      · refine (s.step e1).newL hi (s.ext.none0 ha) np ga h1 r fun j d' hj ej => ?_
        have sl := s.re.slot j
        rw [hj] at sl
        obtain ⟨b, eb, _, _, ob⟩ := sl
        rw [eb] at ej
        cases ej
        exact ob.at ha
      · have e1' : setE i (.o (.list ds)) env = env := setE_out hi
        have e2 : σ.set i (some (V.ref a)) = σ := List.set_eq_of_length_le (by rw [← s.re.len]; exact hi)
        show SE X.K pa Gf G0 H0 G1 (setE i (.o (.list ds)) env) (σ.set i (some (V.ref a))) H1
        rw [e1', e2]
        exact s.step e1
    | _ => exact hd.elim
  have pe : PE X x (tEvN X.K F e) := by
    cases e with
    | lst es => exact new_lst o.toOkX h4
    | bi f es => cases f <;> first | exact new_list o.toOkX h4 | exact nomatch h3
    | op op a c => cases op <;> first | exact new_op o.toOkX (.inl rfl) h4 | exact new_op o.toOkX (.inr rfl) h4 | exact nomatch h3
    | comp elt tg it cnd => exact new_comp o.toOkX h4
    | rngl es => exact new_rngl o.toOkX h4
    | _ => exact nomatch h3
  cases hs : swB sc x y py with
  | false => exact PS.imp (st_asg o hnm h2 pe (by rw [hs]; rfl)) fin
  | true =>
    rw [hs] at h5
    cases e with
    | comp elt tg it cnd => exact PS.imp (st_comp o hnm hs h4) fin
    | _ => exact nomatch h5
end Ev

/-! EvSt3 -/
set_option maxHeartbeats 4000000
namespace Ev
open PySem PySem.Spec PyProof.Rows L2
variable {C : Ctx} {X : Cx} {sc : Scope} {F : Nat → Bool → List PyData → Tr PyData} {K : PySem.W.Frag} {pa : Addr} {Gf G0 H0 G H G' H' : Hp} {env : Env} {σ : L2.St} {Q : VK} {fuel : Nat}

mutual
theorem asg_keeps : ∀ (tg : Tg) (d : PyData) (env env' : Env), assign tg d env = some env' → ∀ j, (j ∈ slotsT tg ∧ ∀ d', getE j env' ≠ .o d') ∨ (j ∉ slotsT tg ∧ getE j env' = getE j env)
  | .nm i, d, env, env', h, j => by
    cases (show some (setE i (.v d) env) = some env' from h)
    by_cases e : i = j
    · subst e
      exact .inl ⟨List.mem_cons_self, fun d' z => nomatch get_set_self z⟩
    · exact .inr ⟨by simpa [slotsT] using fun z => e z.symm, get_set_ne e⟩
  | .tp ts, d, env, env', h, j => by
    cases d with
    | tuple ds => exact asgs_keeps ts ds env env' h j
    | _ => exact nomatch h
  | .nil, _, _, _, h, _ => nomatch h
  | .cons _ _, _, _, _, h, _ => nomatch h
theorem asgs_keeps : ∀ (tg : Tg) (ds : List PyData) (env env' : Env), assignAll tg ds env = some env' → ∀ j, (j ∈ slotsT tg ∧ ∀ d', getE j env' ≠ .o d') ∨ (j ∉ slotsT tg ∧ getE j env' = getE j env)
  | .nil, ds, env, env', h, j => by
    cases ds with
    | nil => cases (show some env = some env' from h); exact .inr ⟨by simp [slotsT], rfl⟩
    | cons _ _ => exact nomatch h
  | .cons t ts, ds, env, env', h, j => by
    cases ds with
    | nil => exact nomatch h
    | cons d ds =>
      have h : ((assign t d env).bind fun env => assignAll ts ds env) = some env' := h
      cases he : assign t d env with
      | none => rw [he] at h; exact nomatch h
      | some env1 =>
        rw [he] at h
        have k1 := asg_keeps t d env env1 he j
        have k2 := asgs_keeps ts ds env1 env' h j
        have em : ∀ j, j ∈ slotsT (.cons t ts) ↔ j ∈ slotsT t ∨ j ∈ slotsT ts := fun j => List.mem_append
        rcases k2 with ⟨q1, q2⟩ | ⟨q1, q2⟩
        · exact .inl ⟨(em j).mpr (.inr q1), q2⟩
        · rcases k1 with ⟨p1, p2⟩ | ⟨p1, p2⟩
          · exact .inl ⟨(em j).mpr (.inl p1), fun d' z => p2 d' (by rw [← q2]; exact z)⟩
          · exact .inr ⟨fun z => ((em j).mp z).elim p1 q1, q2.trans p2⟩
  | .nm _, _, _, _, h, _ => nomatch h
  | .tp _, _, _, _, h, _ => nomatch h
end
theorem wipe_get {j : Nat} : ∀ (vs : List Nat), j ∉ vs → (wipe σ vs)[j]? = σ[j]?
  | [], _ => rfl
  | v :: vs, h => by
    show ((wipe σ vs).set v none)[j]? = _
    rw [List.getElem?_set_ne (by intro z; subst z; exact h List.mem_cons_self)]
    exact wipe_get vs fun z => h (List.mem_cons_of_mem _ z)
theorem chg_keeps {vs : List Nat} {σ' : L2.St} {j : Nat} (c : Chg vs σ σ') (h : j ∉ vs) : σ'[j]? = σ[j]? := by
  have := c vs fun _ z => z
  rw [← wipe_get (σ := σ) vs h, ← this, wipe_get vs h]
theorem SE.asg {tg : Tg} {d : PyData} {env' : Env} {σ' : L2.St} (s : SE K pa Gf G0 H0 G env σ H) (ha : assign tg d env = some env') (re : RE K pa G env' σ' H) (chg : Chg (slotsT tg) σ σ') : SE K pa Gf G0 H0 G env' σ' H := by
  have key := asg_keeps tg d env env' ha
  refine ⟨re, s.ext, s.fl, fun j a d' h1 h2 => ?_, fun j k a e f nn h1 h2 h3 h4 => ?_⟩
  · rcases key j with ⟨_, q⟩ | ⟨q1, q2⟩
    · exact absurd h1 (q d')
    · rw [q2] at h1; rw [chg_keeps chg q1] at h2; exact s.own j a d' h1 h2
  · rcases key j with ⟨_, q⟩ | ⟨q1, q2⟩
    · exact absurd h1 (q e)
    · rcases key k with ⟨_, p⟩ | ⟨p1, p2⟩
      · exact absurd h2 (p f)
      · rw [q2] at h1; rw [p2] at h2; rw [chg_keeps chg q1] at h3; rw [chg_keeps chg p1] at h4
        exact s.dis j k a e f nn h1 h2 h3 h4
theorem sw_fold {ts vs : List Expr} {kt k2 : Nat} {p p2 : Pos} {env : PySem.Env} (h : vs.all (foldedForSure 8) = true) : swappedStores [.Tuple ts kt p] (.Tuple vs k2 p2) env = pure none := by
  unfold swappedStores
  simp only [h, if_true]
  repeat (first | rfl | split)
theorem sw_unp {ts : List Expr} {kt : Nat} {p : Pos} {x : Expr} {env : PySem.Env} (h : (notTup x || foldTup x) = true) : swappedStores [.Tuple ts kt p] x env = pure none := by
  cases x with
  | Tuple vs k2 p2 => exact sw_fold h
  | _ => rfl
theorem st_unp (o : OkB C F X sc) {tg : Tg} {e : E} {ts : List Expr} {k : Nat} {p pos : Pos} {x : Expr} (h : (isTp tg && chkT C tg sc (.Tuple ts k p) && (notTup x || foldTup x) && nocomp x && chkE C e false none sc x) = true) : PS X (.Assign [.Tuple ts k p] x pos) (tEvS X.K F fuel (.unp tg e)) := by
  obtain ⟨h1, h5⟩ := and2 h
  obtain ⟨h1, h4⟩ := and2 h1
  obtain ⟨h1, h3⟩ := and2 h1
  obtain ⟨h1, h2⟩ := and2 h1
  refine PS.imp (ps_asg ((snd_all C F e).pe o.toOkX h5) (snd_tgt o.toOkX tg _ h2) (by cases x <;> first | rfl | exact nomatch h4) (sw_unp h3) rfl) fun D σ H ⟨pa, Gf, G0, H0, G, env, s, all⟩ => ?_
  refine ⟨pa, G, env, s.re, Tr.All_mono (Tr.All_bind (t := ev F e env) all) fun d hd v H1 G1 e1 b1 => ?_⟩
  cases ha : assign tg d env with
  | none => rw [ha] at hd; exact hd.elim
  | some env' =>
    rw [ha] at hd
    exact ⟨pa, G1, env, env', d, s.re.ext e1, val_tp b1, ha, fun σ' re' chg => (show ∀ σ H G, SE X.K pa Gf G0 H0 G env' σ H → D.nx σ H from hd) _ _ _ ((s.step e1).asg ha re' chg)⟩
theorem ip_all (op : Op) (h : augOk op = true) : PIp X (opK op) (fun x y H Q => ∃ i j r, x = .int i ∧ y = .int j ∧ opD op (.int i) (.int j) = some r ∧ ∀ k, r = .int k → Q (.int k) H) := by
  intro pins s σ H x y v u Q I r1 r2 h
  obtain ⟨i, j, r, rfl, rfl, e, q⟩ := h
  obtain ⟨t, rfl⟩ := r1
  obtain ⟨t', rfl⟩ := r2
  cases op with
  | add => cases e; exact iadd_int ⟨.int _, H, I.tok _, ⟨_, rfl⟩, q _ rfl⟩
  | sub => cases e; exact isub_int ⟨.int _, H, I.tok _, ⟨_, rfl⟩, q _ rfl⟩
  | mul =>
    simp only [opD] at e
    cases hl : (fitsB i || fitsB j) with
    | false => rw [hl] at e; exact nomatch e
    | true =>
      rw [hl] at e
      cases e
      rw [Bool.or_eq_true, fitsB_iff, fitsB_iff] at hl
      exact imul_int ⟨.int _, H, I.tok _, ⟨_, rfl⟩, q _ rfl⟩ (show CMul i j from hl).ok
  | fdiv =>
    simp only [opD] at e
    cases hl : (!ieqB j 0 && iltB (-1073741824) j && iltB j 1073741824) with
    | false => rw [hl] at e; exact nomatch e
    | true =>
      rw [hl] at e
      cases e
      rw [Bool.and_eq_true, Bool.and_eq_true, iltB_iff, iltB_iff, ieqB_iff, decide_eq_true_eq, decide_eq_true_eq, Bool.not_eq_true', decide_eq_false_iff_not] at hl
      obtain ⟨⟨l1, l2⟩, l3⟩ := hl
      exact ifloordiv_int l1 ⟨.int _, H, I.tok _, ⟨_, rfl⟩, q _ rfl⟩ (.inl (PyProof.noPylong_small (by omega)))
  | mod =>
    simp only [opD] at e
    cases hc : ieqB j 0 with
    | true => rw [hc] at e; exact nomatch e
    | false =>
      rw [hc] at e
      cases e
      rw [ieqB_iff, decide_eq_false_iff_not] at hc
      exact imod_int hc ⟨.int _, H, I.tok _, ⟨_, rfl⟩, q _ rfl⟩
theorem opD_int {op : Op} {i j : Int} {r : PyData} (h : opD op (.int i) (.int j) = some r) : ∃ k, r = .int k := by
  cases op with
  | add => cases h; exact ⟨_, rfl⟩
  | sub => cases h; exact ⟨_, rfl⟩
  | mul => simp only [opD] at h; obtain ⟨_, rfl⟩ := cond_some h; exact ⟨_, rfl⟩
  | fdiv => simp only [opD] at h; obtain ⟨_, rfl⟩ := cond_some h; exact ⟨_, rfl⟩
  | mod =>
    simp only [opD] at h
    cases hc : ieqB j 0 with
    | true => rw [hc] at h; exact nomatch h
    | false => rw [hc] at h; cases h; exact ⟨_, rfl⟩
theorem ip_any (op : Op) (h : augOk op = true) : PIp X (opK op) (fun x y H Q => (∃ i j r, x = .int i ∧ y = .int j ∧ opD op (.int i) (.int j) = some r ∧ ∀ k, r = .int k → Q (.int k) H) ∨ (op = .add ∧ rCatF X.K x y H Q)) := by
  intro pins s σ H x y v u Q I r1 r2 h2
  rcases h2 with h2 | ⟨e, h2⟩
  · exact ip_all op h pins s σ H x y v u Q I r1 r2 h2
  · subst e
    exact iop_catF pins s σ H x y v u Q I r1 r2 h2
theorem st_aug (o : OkB C F X sc) {i : Nat} {op : Op} {e : E} {y : Str} {p pos : Pos} {op' : Operator} {x : Expr} (h : (opIs op op' && augOk op && nameAt C i y && locB sc y && chkE C e true none sc x) = true) : PS X (.AugAssign (.Name y p) op' x pos) (tEvS X.K F fuel (.aug i op e)) := by
  obtain ⟨h1, h5⟩ := and2 h
  obtain ⟨h1, h4⟩ := and2 h1
  obtain ⟨h1, h3⟩ := and2 h1
  obtain ⟨h1, h2⟩ := and2 h1
  obtain ⟨l1, l2⟩ := o.loc h4
  rw [opIs_eq h1]
  refine PS.imp (ps_aug (by rw [o.nm]; exact o.nd) (o.at h3) l1 ((snd_all C F e).pe o.toOkX h5) (ip_any op h2) l2) fun D σ H ⟨pa, Gf, G0, H0, G, env, s, all⟩ => ?_
  have all : (match getE i env with | .v x => ((ev F e env).bind fun y => (match augX op x y with | some z => Tr.ret (Out.nx (setE i (.v z) env)) | none => Tr.fail)) | _ => Tr.fail).All _ := all
  have sl := s.re.slot i
  cases hs : getE i env with
  | v d =>
    rw [hs] at all sl
    obtain ⟨v, ev', hv⟩ := sl
    refine ⟨v, ev', pa, G, env, s.re, Tr.All_mono (Tr.All_bind (t := ev F e env) all) fun y hy u H1 G1 e1 b1 => ?_⟩
    cases d with
    | int a => cases y with
      | int b =>
        have ea : augX op (.int a) (.int b) = opD op (.int a) (.int b) := by cases op <;> rfl
        have hy : (match augX op (.int a) (.int b) with | some z => Tr.ret (Out.nx (setE i (.v z) env)) | none => Tr.fail).All _ := hy
        rw [ea] at hy
        have hy : (match opD op (.int a) (.int b) with | some z => Tr.ret (Out.nx (setE i (.v z) env)) | none => Tr.fail).All _ := hy
        cases hr : opD op (.int a) (.int b) with
        | none => rw [hr] at hy; exact hy.elim
        | some r =>
          rw [hr] at hy
          refine .inl ⟨a, b, r, bor_int (pa := pa) (H := H) (.inl hv), bor_int b1, hr, fun k hk => ?_⟩
          subst hk
          exact (show ∀ σ H G, SE X.K pa Gf G0 H0 G (setE i (.v (.int k)) env) σ H → D.nx σ H from hy) _ _ _ ((s.step e1).setV (Da.int k))
      | _ => cases op <;> exact hy.elim
    | tuple a => cases y with
      | tuple b =>
        cases op with
        | add =>
          have hy : (match cond (lenOk (a ++ b)) (some (PyData.tuple (a ++ b))) none with | some z => Tr.ret (Out.nx (setE i (.v z) env)) | none => Tr.fail).All _ := hy
          cases hl : lenOk (a ++ b) with
          | false => rw [hl] at hy; exact hy.elim
          | true =>
            rw [hl] at hy
            have g1 := e1.gh' s.re.gh
            have k : ∀ v H G, Ext X.K pa G1 H1 G H → Val G v (.tuple (a ++ b)) → D.nx (σ.set i (some v)) H := fun v H2 G2 e2 hv2 => (show ∀ σ H G, SE X.K pa Gf G0 H0 G (setE i (.v (.tuple (a ++ b))) env) σ H → D.nx σ H from hy) _ _ _ (((s.step e1).step e2).setV hv2)
            have q : Res X.K pa G1 H1 (.tuple (a ++ b)) (fun v H => D.nx (σ.set i (some v)) H) := fun v H G ex hv2 => k v H G ex hv2
            obtain ⟨p1, xs, rfl, t1, r1⟩ := bor_tup (pa := pa) (H := H) (.inl hv)
            obtain ⟨p2, ys, rfl, t2, r2⟩ := bor_tup b1
            have t1 := t1.sub e1.gg
            have r1 := r1.mono fun _ _ => Da.sub e1.gg
            have z := lenOk_iff.mp hl
            rw [List.length_append, ← r1.length, ← r2.length] at z
            refine .inr ⟨rfl, p1, p2, xs, ys, rfl, rfl, (t1.sub g1.sub).sq, (t2.sub g1.sub).sq, z, fun e0 => ?_, fun _ e0 => ?_, fun _ _ => q.tup g1 (r1.append r2)⟩
            · subst e0
              cases r1
              exact q.at g1 (Da.tup t2 (das_of r2))
            · subst e0
              cases r2
              rw [List.append_nil] at q
              exact q.at g1 (Da.tup t1 (das_of r1))
        | _ => exact hy.elim
      | _ => cases op <;> exact hy.elim
    | _ => cases op <;> exact hy.elim
  | _ => rw [hs] at all; exact all.elim

theorem st_ret (o : OkB C F X sc) {e : E} {x : Expr} {pos : Pos} (h : chkE C e false none sc x = true) : PS X (.Return (some x) pos) (tEvS X.K F fuel (.ret e)) := by
  refine PS.imp (ps_ret ((snd_all C F e).pe o.toOkX h)) fun D σ H ⟨pa, Gf, G0, H0, G, env, s, all⟩ => ?_
  exact ⟨pa, G, env, s.re, Tr.All_mono (Tr.All_bind (t := ev F e env) all) fun d hd v H1 G1 e1 b1 => (show ∀ v H G, Ext X.K pa G0 H0 G H → Val G v d → D.rt v H from hd) v H1 G1 (s.ext.trans e1) b1⟩
theorem st_retO (o : OkB C F X sc) {i : Nat} {y : Str} {p pos : Pos} (h : (nameAt C i y && visB sc y && okN y) = true) : PS X (.Return (some (.Name y p)) pos) (tEvS X.K F fuel (.retO i)) := by
  obtain ⟨h1, h3⟩ := and2 h
  obtain ⟨h1, h2⟩ := and2 h1
  refine PS.imp (ps_ret (pe_pool o.toOkX h1 h2 h3)) fun D σ H ⟨pa, Gf, G0, H0, G, env, s, all⟩ => ?_
  have all : (match getE i env with | .o (.list ds) => Tr.ret (Out.rt (.list ds)) | .v d => Tr.ret (Out.rt d) | _ => Tr.fail).All _ := all
  have sl := s.re.slot i
  cases hs : getE i env with
  | v d =>
    rw [hs] at all sl
    obtain ⟨v, ev', hv⟩ := sl
    exact ⟨v, ev', (show ∀ v H G, Ext X.K pa G0 H0 G H → Val G v d → D.rt v H from all) v H G s.ext hv⟩
  | o d =>
    rw [hs] at all sl
    cases d with
    | list ds =>
      obtain ⟨G', s', a, ea, hv, ex'⟩ := s.frz hs
      exact ⟨_, ea, (show ∀ v H G, Ext X.K pa G0 H0 G H → Val G v (.list ds) → D.rt v H from all) _ H G' ex' hv⟩
    | _ => exact all.elim
  | _ => rw [hs] at all; exact all.elim
theorem st_drop (o : OkB C F X sc) {e : E} {x : Expr} {pos : Pos} (h : (nocomp x && chkE C e true none sc x) = true) : PS X (.Expr x pos) (tEvS X.K F fuel (.drop e)) := by
  obtain ⟨h1, h2⟩ := and2 h
  refine PS.imp (ps_expr ((snd_all C F e).pe o.toOkX h2) (by cases x <;> first | rfl | exact nomatch h1)) fun D σ H ⟨pa, Gf, G0, H0, G, env, s, all⟩ => ?_
  exact ⟨pa, G, env, s.re, Tr.All_mono (Tr.All_bind (t := ev F e env) all) fun d hd v H1 G1 e1 b1 => (show ∀ σ H G, SE X.K pa Gf G0 H0 G env σ H → D.nx σ H from hd) _ _ _ (s.step e1)⟩

theorem st_app (o : OkB C F X sc) {i : Nat} {e : E} {y nm : Str} {p ap cp pos : Pos} {x : Expr} (h : (nameAt C i y && visB sc y && okN y && strEq nm "append" && plainLine ap cp && nostar x && chkE C e false none sc x) = true) :
    PS X (.Expr (.Call (.Attribute (.Name y p) nm ap) [x] [] cp) pos) (tEvS X.K F fuel (.app i e)) := by
  obtain ⟨h1, h7⟩ := and2 h
  obtain ⟨h1, h6⟩ := and2 h1
  obtain ⟨h1, h5⟩ := and2 h1
  obtain ⟨h1, h4⟩ := and2 h1
  obtain ⟨h1, h3⟩ := and2 h1
  obtain ⟨hnm, h2⟩ := and2 h1
  have en := strEq_eq h4
  subst en
  refine PS.imp (ps_expr (pe_bm PySem.F.plainAttrs_list PySem.F.slot_list_append rfl mt_append (pe_pool o.toOkX (p := p) hnm h2 h3) (pa_cons ((snd_all C F e).pe o.toOkX h7) pa_nil (star1 h6 _ _)) rfl (by rw [star1 h6]; rfl) h5 (star1 h6 _ _) rfl) rfl) fun D σ H ⟨pa, Gf, G0, H0, G, env, s, all⟩ => ?_
  have all : (match getE i env with | .o (.list xs) => ((ev F e env).bind fun d => cond (Nat.blt xs.length lim) (Tr.ret (Out.nx (setE i (.o (.list (xs ++ [d]))) env))) Tr.fail) | _ => Tr.fail).All _ := all
  cases hs : getE i env with
  | o d => cases d with
    | list ds =>
      rw [hs] at all
      obtain ⟨a, xs, ea, na, ga, h0, hx, r⟩ := s.ownL hs
      refine ⟨_, ea, .inl ⟨rfl, xs, SqL.of hx⟩, pa, G, env, s.re, Tr.All_mono (Tr.All_bind (t := ev F e env) all) fun d hd v H1 G1 e1 b1 => ?_⟩
      have s1 := s.step e1
      have hx1 := e1.hh _ _ na hx
      have ga1 := e1.none_ ga (by rw [hx]; exact fun z => nomatch z)
      cases hl : Nat.blt ds.length lim with
      | false => rw [hl] at hd; exact hd.elim
      | true =>
        rw [hl] at hd
        rw [Nat.blt_eq] at hl
        refine ⟨a, xs, v, rfl, rfl, hx1, by rw [sizeLine_eq, r.length]; exact hl, ?_⟩
        exact (show ∀ σ H G, SE X.K pa Gf G0 H0 G (setE i (.o (.list (ds ++ [d]))) env) σ H → D.nx σ H from hd) _ _ _ (s1.putL hs ea na ga1 ((r.mono fun _ _ => Da.sub e1.gg).append (.cons (val_da b1) .nil)))
    | _ => rw [hs] at all; exact all.elim
  | _ => rw [hs] at all; exact all.elim
/-- x.extend(y): y a list or a plain tuple -/
def rExtB : V → List V → Hp → VK → Prop := fun x vs H Q => ∃ l b xs zs, x = .ref l ∧ vs = [.ref b] ∧ H l = some (.lst xs) ∧ (H b = some (.lst zs) ∨ TupAt H b zs) ∧ xs.length + zs.length ≤ sizeLine ∧ Q .non (upd H l (.lst (xs ++ zs)))
theorem mt_extB {X : Cx} : MtM X "list.extend" rExtB := by
  intro pins s σ H x vs v us Q I rx rv h
  obtain ⟨l, b, xs, zs, rfl, rfl, hH, hB, hz, q⟩ := h
  rcases hB with hB | hB
  · exact mt_extend pins s σ H _ _ v us Q I rx rv ⟨l, b, xs, zs, rfl, rfl, hH, hB, hz, q⟩
  cases rx
  obtain ⟨u, rfl, ru⟩ := rv.one
  cases ru
  obtain ⟨z, its, n, r, hl, e⟩ := I.lstM hH
  obtain ⟨ob, eb, hd, hs⟩ := hB
  obtain ⟨g, z2, its2, r2, o', h1, h2, n2, h3⟩ := (show ObjOk X.prog X.w H s.heap b (.frz ob (.tup zs)) from I.hok b _ eb)
  rw [g] at h1
  cases h1
  have e2 : s.heap.get? b = some { cls := .type "tuple", dict := none, data := .seq its2.toArray n2, slots := #[] } := by
    rw [g]
    obtain ⟨c, d, dt, sl⟩ := ob
    cases h2; cases h3; cases hd; cases hs
    rfl
  have hl2 := r2.length
  have hsz : its.toArray.size + its2.toArray.size ≤ sizeLine := by rw [List.size_toArray, List.size_toArray]; omega
  have hlong : ¬ (!its.toArray.isEmpty && Builtin.List.listTooLong (its.toArray.size + its2.toArray.size)) = true := by
    rw [notLongL hsz, Bool.and_false]
    exact Bool.false_ne_true
  refine call_meets F.slot_list_extend ⟨_, e, rfl⟩ F.entry_list_extend (F.args_list_extend_2 _ _)
    (AutoSeq1.list_extend_list_tuple_0 l its.toArray n b its2.toArray n2 hlong (by rw [List.size_toArray]; omega) (by omega)) ⟨e, e2, ?_⟩
  refine ⟨.non, _, I.lset (its' := its ++ its2) hH e (by simp) (r.append r2) ?_, rfl, q⟩
  rw [List.length_append]
  omega
theorem st_ext (o : OkB C F X sc) {i : Nat} {e : E} {y nm : Str} {p ap cp pos : Pos} {x : Expr} (h : (nameAt C i y && visB sc y && okN y && strEq nm "extend" && plainLine ap cp && nostar x && chkE C e false none sc x) = true) :
    PS X (.Expr (.Call (.Attribute (.Name y p) nm ap) [x] [] cp) pos) (tEvS X.K F fuel (.ext i e)) := by
  obtain ⟨h1, h7⟩ := and2 h
  obtain ⟨h1, h6⟩ := and2 h1
  obtain ⟨h1, h5⟩ := and2 h1
  obtain ⟨h1, h4⟩ := and2 h1
  obtain ⟨h1, h3⟩ := and2 h1
  obtain ⟨hnm, h2⟩ := and2 h1
  have en := strEq_eq h4
  subst en
  refine PS.imp (ps_expr (pe_bm PySem.F.plainAttrs_list PySem.F.slot_list_extend rfl mt_extB (pe_pool o.toOkX (p := p) hnm h2 h3) (pa_cons ((snd_all C F e).pe o.toOkX h7) pa_nil (star1 h6 _ _)) rfl (by rw [star1 h6]; rfl) h5 (star1 h6 _ _) rfl) rfl) fun D σ H ⟨pa, Gf, G0, H0, G, env, s, all⟩ => ?_
  have all : (match getE i env with | .o (.list xs) => ((ev F e env).bind fun d => (match d with | .list ys => cond (lenOk (xs ++ ys)) (Tr.ret (Out.nx (setE i (.o (.list (xs ++ ys))) env))) Tr.fail | .tuple ys => cond (lenOk (xs ++ ys)) (Tr.ret (Out.nx (setE i (.o (.list (xs ++ ys))) env))) Tr.fail | _ => Tr.fail)) | _ => Tr.fail).All _ := all
  cases hs : getE i env with
  | o d => cases d with
    | list ds =>
      rw [hs] at all
      obtain ⟨a, xs, ea, na, ga, h0, hx, r⟩ := s.ownL hs
      refine ⟨_, ea, .inl ⟨rfl, xs, SqL.of hx⟩, pa, G, env, s.re, Tr.All_mono (Tr.All_bind (t := ev F e env) all) fun d hd v H1 G1 e1 b1 => ?_⟩
      have s1 := s.step e1
      have hx1 := e1.hh _ _ na hx
      have ga1 := e1.none_ ga (by rw [hx]; exact fun z => nomatch z)
      cases d with
      | list ys =>
        have hd : (cond (lenOk (ds ++ ys)) (Tr.ret (Out.nx (setE i (.o (.list (ds ++ ys))) env))) Tr.fail).All _ := hd
        cases hl : lenOk (ds ++ ys) with
        | false => rw [hl] at hd; exact hd.elim
        | true =>
          rw [hl] at hd
          have z := lenOk_iff.mp hl
          have b1 : Da G1 v (.list ys) := b1
          cases b1 with
          | @lst b ws _ q rr =>
            have rr := of_das rr
            rw [List.length_append, ← r.length, ← rr.length] at z
            refine ⟨a, b, xs, ws, rfl, rfl, hx1, .inl (e1.gh _ _ q), z, ?_⟩
            exact (show ∀ σ H G, SE X.K pa Gf G0 H0 G (setE i (.o (.list (ds ++ ys))) env) σ H → D.nx σ H from hd) _ _ _ (s1.putL hs ea na ga1 ((r.mono fun _ _ => Da.sub e1.gg).append rr))
      | tuple ys =>
        have hd : (cond (lenOk (ds ++ ys)) (Tr.ret (Out.nx (setE i (.o (.list (ds ++ ys))) env))) Tr.fail).All _ := hd
        cases hl : lenOk (ds ++ ys) with
        | false => rw [hl] at hd; exact hd.elim
        | true =>
          rw [hl] at hd
          have z := lenOk_iff.mp hl
          have b1 : Da G1 v (.tuple ys) := b1
          cases b1 with
          | @tup b ws _ q rr =>
            have rr := of_das rr
            rw [List.length_append, ← r.length, ← rr.length] at z
            refine ⟨a, b, xs, ws, rfl, rfl, hx1, .inr (q.sub e1.gh), z, ?_⟩
            exact (show ∀ σ H G, SE X.K pa Gf G0 H0 G (setE i (.o (.list (ds ++ ys))) env) σ H → D.nx σ H from hd) _ _ _ (s1.putL hs ea na ga1 ((r.mono fun _ _ => Da.sub e1.gg).append rr))
      | _ => exact hd.elim
    | _ => rw [hs] at all; exact all.elim
  | _ => rw [hs] at all; exact all.elim
end Ev

/-! EvSt4 -/
set_option maxHeartbeats 4000000
namespace Ev
open PySem PySem.Spec PyProof.Rows L2
variable {C : Ctx} {X : Cx} {sc : Scope} {F : Nat → Bool → List PyData → Tr PyData} {K : PySem.W.Frag} {pa : Addr} {Gf G0 H0 G H G' H' : Hp} {env : Env} {σ : L2.St} {Q : VK} {fuel : Nat}

theorem slice2 {e : Expr} (h : noslice e = true) (o : Expr) (p : Pos) (env : PySem.Env) : ∀ v, PySem.assign (.Subscript o e p) env v = (do
      let ov ← holding [v] (eval o env)
      let iv ← holding [v, ov] (eval e env)
      standAt p
      holding [v, ov, iv] (setItem ov iv v)
      release [v, ov, iv] []) := by
  intro v
  cases e <;> first | rfl | exact nomatch h
/-- d[k] = v -/
def rSetD : V → V → V → Hp → (Hp → Prop) → Prop := fun o i v H Q => ∃ pa G p ob kvs k d, o = V.ref p ∧ H p = some ob ∧ DctV G p ob kvs ∧ keyIn k kvs = true ∧ Bor pa G H i k ∧ Da G v d ∧ kvs.length < sizeLine ∧ ∀ ob', DctV G p ob' (putD k d kvs) → Q (upd H p ob')
theorem set_dct (hu : X.A.units + 64 < cLine) : PSet X rSetD := by
  intro pins s σ H o i v ov iv u Q I ro ri rv h
  obtain ⟨pa, G, p, ob, kvs, k, d, rfl, hp, hd, hk, hb, he, hl, q⟩ := h
  cases ro
  exact dct_put (by omega) I hp hd hk hb ri he rv hl fun ob' s' hd' I' => ⟨_, I', q ob' hd'⟩
theorem set_any (hu : X.A.units + 64 < cLine) : PSet X (fun o i v H Q => rSetL o i v H Q ∨ rSetD o i v H Q) := by
  intro pins s σ H o i v ov iv u Q I ro ri rv h
  rcases h with h | h
  · exact set_list pins s σ H o i v ov iv u Q I ro ri rv h
  · exact set_dct hu pins s σ H o i v ov iv u Q I ro ri rv h
theorem all2_kr {ks : List (Key × V)} {kvs : List (PyData × PyData)} (e : Sub G G') (h : KR G ks kvs) : KR G' ks kvs := h.mono fun _ _ z => ⟨z.1, Da.sub e z.2⟩
theorem st_seti (o : OkB C F X sc) {i : Nat} {k e : E} {y : Str} {p sp pos : Pos} {kx x : Expr} (h : (nameAt C i y && visB sc y && okN y && noslice kx && nocomp x && chkE C k true none sc kx && chkE C e false none sc x) = true) :
    PS X (.Assign [.Subscript (.Name y p) kx sp] x pos) (tEvS X.K F fuel (.seti i k e)) := by
  obtain ⟨h1, h7⟩ := and2 h
  obtain ⟨h1, h6⟩ := and2 h1
  obtain ⟨h1, h5⟩ := and2 h1
  obtain ⟨h1, h4⟩ := and2 h1
  obtain ⟨h1, h3⟩ := and2 h1
  obtain ⟨h1, h2⟩ := and2 h1
  refine PS.imp (ps_asg ((snd_all C F e).pe o.toOkX h7) (pg_sub (pe_pool o.toOkX (p := p) h1 h2 h3) ((snd_all C F k).pe o.toOkX h6) (set_any o.hu) (slice2 h4 _ _ _)) (by cases x <;> first | rfl | exact nomatch h5) (by cases x <;> rfl) rfl) fun D σ H ⟨pa, Gf, G0, H0, G, env, s, all⟩ => ?_
  refine ⟨pa, G, env, s.re, Tr.All_mono (Tr.All_bind (t := ev F e env) all) fun d hd v H1 G1 e1 b1 => ?_⟩
  have hd : (match getE i env with | .o (.list xs) => ((ev F k env).bind fun k => (match putL xs k d with | some ys => Tr.ret (Out.nx (setE i (.o (.list ys)) env)) | none => Tr.fail)) | .o (.dict kvs) => ((ev F k env).bind fun k => cond (keyIn k kvs && Nat.blt kvs.length lim) (Tr.ret (Out.nx (setE i (.o (.dict (putD k d kvs))) env))) Tr.fail) | _ => Tr.fail).All _ := hd
  have s1 := s.step e1
  cases hs : getE i env with
  | o d0 => cases d0 with
    | list ds =>
      rw [hs] at hd
      obtain ⟨a, xs, ea, na, ga, h0, hx, r⟩ := s1.ownL hs
      refine ⟨_, ea, pa, G1, env, s1.re, Tr.All_mono (Tr.All_bind (t := ev F k env) hd) fun q hq u H2 G2 e2 b2 => ?_⟩
      have s2 := s1.step e2
      have hx2 := e2.hh _ _ na hx
      have ga2 := e2.none_ ga (by rw [hx]; exact fun z => nomatch z)
      cases q with
      | int j =>
        have hq : (match (place ds.length j).map fun n => ds.set n d with | some ys => Tr.ret (Out.nx (setE i (.o (.list ys)) env)) | none => Tr.fail).All _ := hq
        cases hp : place ds.length j with
        | none => rw [hp] at hq; exact hq.elim
        | some n =>
          rw [hp] at hq
          refine .inl ⟨a, xs, j, n, rfl, bor_int b2, hx2, by rw [r.length]; exact (place_ixN hp).1, ?_⟩
          refine (show ∀ σ H G, SE X.K pa Gf G0 H0 G (setE i (.o (.list (ds.set n d))) env) σ H → D.nx σ H from hq) _ _ _ (s2.putL hs ea na ga2 ?_)
          exact (r.mono fun _ _ => Da.sub e2.gg).set (Da.sub e2.gg (val_da b1)) n
      | _ => exact hq.elim
    | dict kvs =>
      rw [hs] at hd
      obtain ⟨a, ob, ea, na, ga, h0, hx, r⟩ := s1.ownD hs
      refine ⟨_, ea, pa, G1, env, s1.re, Tr.All_mono (Tr.All_bind (t := ev F k env) hd) fun q hq u H2 G2 e2 b2 => ?_⟩
      have s2 := s1.step e2
      have hx2 := e2.hh _ _ na hx
      have ga2 := e2.none_ ga (by rw [hx]; exact fun z => nomatch z)
      cases hk : (keyIn q kvs && Nat.blt kvs.length lim) with
      | false => rw [hk] at hq; exact hq.elim
      | true =>
        rw [hk] at hq
        obtain ⟨k1, k2⟩ := and2 hk
        rw [Nat.blt_eq] at k2
        refine .inr ⟨pa, G2, a, ob, kvs, q, d, rfl, hx2, r.sub e2.gg, k1, b2, Da.sub e2.gg (val_da b1), by rw [sizeLine_eq]; exact k2, fun ob' hd' => ?_⟩
        exact (show ∀ σ H G, SE X.K pa Gf G0 H0 G (setE i (.o (.dict (putD q d kvs))) env) σ H → D.nx σ H from hq) _ _ _ (s2.putO hs ea na ga2 ⟨ob', upd_same, hd'⟩)
    | _ => rw [hs] at hd; exact hd.elim
  | _ => rw [hs] at hd; exact hd.elim

/-- x = {} -/
theorem st_dnew (o : OkB C F X sc) {i : Nat} {b : Bool} {y : Str} {py dp pos : Pos} (h : (nameAt C i y && locB sc y) = true) : PS X (.Assign [.Name y py] (.Dict [] [] dp) pos) (tEvS X.K F fuel (.dnew i b)) := by
  obtain ⟨h1, h2⟩ := and2 h
  have ns : (!swB sc (.Dict [] [] dp) y py) = true := by unfold swB; first | rfl | simp
  refine PS.imp (st_asg o h1 h2 pe_dnewK ns) fun D σ H ⟨pa, Gf, G0, H0, G, env, s, all⟩ => ?_
  intro p hp
  have all : (Tr.ret (Out.nx (setE i (.o (.dict [])) env))).All (OutOk X.K pa Gf G0 H0 D) := all
  refine (show ∀ σ H G, SE X.K pa Gf G0 H0 G (setE i (.o (.dict [])) env) σ H → D.nx σ H from all) _ _ G ?_
  have e1 := Ext.new0 (o := .dK []) s.re.gh hp
  have np : p ≠ pa := fun z => by subst z; exact s.re.gh.pool.at hp
  rcases Nat.lt_or_ge i env.length with hi | hi
  · refine (s.step e1).newO hi (s.ext.none0 hp) np (s.re.gh.sub.free hp) ⟨.dK [], upd_same, [], rfl, List.nodup_nil, .nil⟩ fun j d' hj ej => ?_
    have sl := s.re.slot j
    rw [hj] at sl
    obtain ⟨b, eb, _, _, ob⟩ := sl
    rw [eb] at ej
    cases ej
    exact ob.at hp
  · have e1' : setE i (.o (.dict [])) env = env := setE_out hi
    have e2 : σ.set i (some (V.ref p)) = σ := List.set_eq_of_length_le (by rw [← s.re.len]; exact hi)
    show SE X.K pa Gf G0 H0 G (setE i (.o (.dict [])) env) (σ.set i (some (V.ref p))) _
    rw [e1', e2]
    exact s.step e1
theorem sw_none {a b c d : Expr} {p1 p2 : Pos} {kt : Nat} {p : Pos} {x : Expr} {env : PySem.Env} : swappedStores [.Tuple [.Subscript a b p1, .Subscript c d p2] kt p] x env = pure none := by
  cases x with
  | Tuple vs k2 p2 =>
    unfold swappedStores
    show (if _ = true then (pure none : Sem (Option (List Str))) else _) = _
    split
    · rfl
    · show (if _ = true then (pure none : Sem (Option (List Str))) else _) = _
      split
      · rfl
      · rfl
  | _ => rfl
theorem setE_setE {i : Nat} {x y : SV} : ∀ {env : Env}, setE i x (setE i y env) = setE i x env := by
  induction i with
  | zero => intro env; cases env <;> rfl
  | succ i ih => intro env; cases env with
    | nil => rfl
    | cons z zs => show z :: setE i x (setE i y zs) = z :: setE i x zs; rw [ih]
/-- a new pair's two parts -/
theorem st_swap (o : OkB C F X sc) {i : Nat} {k l e : E} {y z : Str} {p q sp sq tp pos : Pos} {kt : Nat} {kx lx x : Expr} (h : (nameAt C i y && nameAt C i z && visB sc y && visB sc z && okN y && okN z && noslice kx && noslice lx && nocomp x && chkE C k true none sc kx && chkE C l true none sc lx && chkE C e false none sc x) = true) :
    PS X (.Assign [.Tuple [.Subscript (.Name y p) kx sp, .Subscript (.Name z q) lx sq] kt tp] x pos) (tEvS X.K F fuel (.swap i k l e)) := by
  obtain ⟨h1, h12⟩ := and2 h
  obtain ⟨h1, h11⟩ := and2 h1
  obtain ⟨h1, h10⟩ := and2 h1
  obtain ⟨h1, h9⟩ := and2 h1
  obtain ⟨h1, h8⟩ := and2 h1
  obtain ⟨h1, h7⟩ := and2 h1
  obtain ⟨h1, h6⟩ := and2 h1
  obtain ⟨h1, h5⟩ := and2 h1
  obtain ⟨h1, h4⟩ := and2 h1
  obtain ⟨h1, h3⟩ := and2 h1
  obtain ⟨h1, h2⟩ := and2 h1
  refine PS.imp (ps_asg ((snd_all C F e).pe o.toOkX h12) (pg_tup o.calm (pgs_cons (pg_sub (pe_pool o.toOkX (p := p) h1 h3 h5) ((snd_all C F k).pe o.toOkX h10) set_list (slice2 h7 _ _ _))
    (pgs_cons (pg_sub (pe_pool o.toOkX (p := q) h2 h4 h6) ((snd_all C F l).pe o.toOkX h11) set_list (slice2 h8 _ _ _)) pgs_nil)) rfl rfl) (by cases x <;> first | rfl | exact nomatch h9) sw_none) fun D σ H ⟨pa, Gf, G0, H0, G, env, s, all⟩ => ?_
  refine ⟨pa, G, env, s.re, Tr.All_mono (Tr.All_bind (t := ev F e env) all) fun d hd v H1 G1 e1 b1 => ?_⟩
  have s1 := s.step e1
  match d, hd, b1 with
  | .tuple [d1, d2], hd, b1 =>
    have b1 : Da G1 v (.tuple [d1, d2]) := b1
    cases b1 with
    | tup ht r =>
      cases r with
      | cons r1 r =>
        cases r with
        | cons r2 r =>
          cases r
          refine ⟨_, _, rfl, (ht.sub s1.re.gh.sub).sq, rfl, ?_⟩
          have hd : (match getE i env with | .o (.list xs) => ((ev F k env).bind fun k => (match putL xs k d1 with
              | some ys => ((ev F l (setE i (.o (.list ys)) env)).bind fun l => (match putL ys l d2 with | some zs => Tr.ret (Out.nx (setE i (.o (.list zs)) env)) | none => Tr.fail)) | none => Tr.fail)) | _ => Tr.fail).All _ := hd
          cases hs : getE i env with
          | o d0 => cases d0 with
            | list ds =>
              rw [hs] at hd
              obtain ⟨a, xs, ea, na, ga, h0, hx, r⟩ := s1.ownL hs
              refine ⟨_, _, rfl, _, ea, pa, G1, env, s1.re, Tr.All_mono (Tr.All_bind (t := ev F k env) hd) fun kd hk u H2 G2 e2 b2 => ?_⟩
              have s2 := s1.step e2
              have hx2 := e2.hh _ _ na hx
              have ga2 := e2.none_ ga (by rw [hx]; exact fun z => nomatch z)
              cases kd with
              | int j =>
                have hk : (match (place ds.length j).map fun n => ds.set n d1 with | some ys => ((ev F l (setE i (.o (.list ys)) env)).bind fun l => (match putL ys l d2 with | some zs => Tr.ret (Out.nx (setE i (.o (.list zs)) env)) | none => Tr.fail)) | none => Tr.fail).All _ := hk
                cases hp : place ds.length j with
                | none => rw [hp] at hk; exact hk.elim
                | some n =>
                  rw [hp] at hk
                  have hk : ((ev F l (setE i (.o (.list (ds.set n d1))) env)).bind fun l => (match putL (ds.set n d1) l d2 with | some zs => Tr.ret (Out.nx (setE i (.o (.list zs)) env)) | none => Tr.fail)).All _ := hk
                  refine ⟨a, xs, j, n, rfl, bor_int b2, hx2, by rw [r.length]; exact (place_ixN hp).1, ?_⟩
                  have r' := r.mono fun _ _ => Da.sub e2.gg
                  have s3 : SE X.K pa Gf G0 H0 G2 (setE i (.o (.list (ds.set n d1))) env) σ (upd H2 a (.lst (xs.set n _))) := s2.putL hs ea na ga2 (r'.set (Da.sub e2.gg r1) n)
                  have hs3 : getE i (setE i (.o (.list (ds.set n d1))) env) = .o (.list (ds.set n d1)) := by
                    rw [getE_setE, if_pos rfl, if_pos (get_lt hs)]
                  refine ⟨_, _, rfl, _, ea, pa, G2, _, s3.re, Tr.All_mono (Tr.All_bind (t := ev F l (setE i (.o (.list (ds.set n d1))) env)) hk) fun ld hl u3 H3 G3 e3 b3 => ?_⟩
                  have s4 := s3.step e3
                  have hx4 := e3.hh _ _ na upd_same
                  have ga4 := e3.none_ ga2 (by rw [upd_same]; exact fun z => nomatch z)
                  cases ld with
                  | int j2 =>
                    have hl : (match (place (ds.set n d1).length j2).map fun n2 => (ds.set n d1).set n2 d2 with | some zs => Tr.ret (Out.nx (setE i (.o (.list zs)) env)) | none => Tr.fail).All _ := hl
                    cases hp2 : place (ds.set n d1).length j2 with
                    | none => rw [hp2] at hl; exact hl.elim
                    | some n2 =>
                      rw [hp2] at hl
                      have r4 := (r'.set (Da.sub e2.gg r1) n).mono fun _ _ => Da.sub e3.gg
                      refine ⟨a, _, j2, n2, rfl, bor_int b3, hx4, by rw [r4.length]; exact (place_ixN hp2).1, rfl, ?_⟩
                      have fin : SE X.K pa Gf G0 H0 G3 (setE i (.o (.list ((ds.set n d1).set n2 d2))) (setE i (.o (.list (ds.set n d1))) env)) σ _ := s4.putL hs3 ea na ga4 (r4.set (Da.sub e3.gg (Da.sub e2.gg r2)) n2)
                      rw [setE_setE] at fin
                      exact (show ∀ σ H G, SE X.K pa Gf G0 H0 G (setE i (.o (.list ((ds.set n d1).set n2 d2))) env) σ H → D.nx σ H from hl) _ _ _ fin
                  | _ => exact hl.elim
              | _ => exact hk.elim
            | _ => rw [hs] at hd; exact hd.elim
          | _ => rw [hs] at hd; exact hd.elim

theorem st_ife (o : OkB C F X sc) {c : E} {a b : S} {x : Expr} {l r : List Stmt} {pos : Pos} (hc : chkE C c true none sc x = true) (ha : PSs X l (tEvS X.K F fuel a)) (hb : PSs X r (tEvS X.K F fuel b)) : PS X (.If x l r pos) (tEvS X.K F fuel (.ife c a b)) := by
  refine PS.imp (ps_if ((snd_all C F c).pt o.toOkX hc) ha hb) fun D σ H ⟨pa, Gf, G0, H0, G, env, s, all⟩ => ?_
  refine ⟨pa, G, env, s.re, Tr.All_mono (Tr.All_bind (t := ev F c env) all) fun d hd => ?_⟩
  cases d with
  | bool k =>
    refine ⟨k, rfl, fun H1 G1 e1 => iteD (fun hk => ?_) fun hk => ?_⟩
    · subst hk; exact ⟨pa, Gf, G0, H0, G1, env, s.step e1, hd⟩
    · subst hk; exact ⟨pa, Gf, G0, H0, G1, env, s.step e1, hd⟩
  | _ => exact hd.elim
theorem st_whl (o : OkB C F X sc) {c : E} {b : S} {x : Expr} {l : List Stmt} {pos : Pos} (hc : chkE C c true none sc x = true) (hb : PSs X l (tEvS X.K F fuel b)) : PS X (.While x l [] pos) (tEvS X.K F fuel (.whl c b)) := by
  refine PS.imp (ps_while o.pass ((snd_all C F c).pt o.toOkX hc) hb) fun D σ H ⟨pa, Gf, G0, H0, G, env, s, all⟩ => ?_
  refine ⟨fun m σ H => ∃ G env, SE X.K pa Gf G0 H0 G env σ H ∧ (loopW (ev F c) (ex F fuel b) m env).All (OutOk X.K pa Gf G0 H0 D), ⟨fuel, G, env, s, all⟩, ?_⟩
  rintro m σ H ⟨G, env, s, all⟩
  cases m with
  | zero => exact all.elim
  | succ m =>
    refine ⟨pa, G, env, s.re, Tr.All_mono (Tr.All_bind (t := ev F c env) all) fun d hd => ?_⟩
    cases d with
    | bool k =>
      refine ⟨k, rfl, fun H1 G1 e1 => iteD (fun hk => ?_) fun hk => ?_⟩
      · subst hk
        refine ⟨_, fun _ _ h => ⟨m, Nat.lt_succ_self m, h⟩, pa, Gf, G0, H0, G1, env, s.step e1, Tr.All_mono (Tr.All_bind (t := ex F fuel b env) hd) fun w hw => ?_⟩
        cases w with
        | nx e' => exact fun σ' H' G' s' => ⟨G', e', s', hw⟩
        | ct e' => exact fun σ' H' G' s' => ⟨G', e', s', hw⟩
        | bk e' => exact hw
        | rt d => exact hw
      · subst hk
        exact (show ∀ σ H G, SE X.K pa Gf G0 H0 G env σ H → D.nx σ H from hd) _ _ _ (s.step e1)
    | _ => exact hd.elim
theorem SE.floor {Gx : Hp} (s : SE K pa Gx G0 H0 G env σ H) (h : Sub Gf Gx) : SE K pa Gf G0 H0 G env σ H := ⟨s.re, s.ext, fun b o q => s.fl b o (h b o q), s.own, s.dis⟩
theorem SE.rise (s : SE K pa Gf G0 H0 G env σ H) : SE K pa G G0 H0 G env σ H := ⟨s.re, s.ext, fun _ _ q => q, s.own, s.dis⟩
theorem SE.up {Gx : Hp} (s : SE K pa Gf G0 H0 G env σ H) (h : Sub Gx G) : SE K pa Gx G0 H0 G env σ H := ⟨s.re, s.ext, h, s.own, s.dis⟩
theorem st_fr (o : OkB C F X sc) {tg : Tg} {it : E} {b : S} {t x : Expr} {l : List Stmt} {pos : Pos} (hi : chkE C it false (some (isTp tg, t)) sc x = true) (ht : chkT C tg sc t = true) (hs : noset x = true) (hb : PSs X l (tEvS X.K F fuel b)) :
    PS X (.For t x l [] pos) (tEvS X.K F fuel (.fr tg it b)) := by
  refine PS.imp (ps_for o.pass o.calm ((snd_all C F it).pi o.toOkX hi) (snd_tgt o.toOkX tg t ht) hb (fun v => set1 hs X.env v)) fun D σ H ⟨pa, Gf, G0, H0, G, env, s, all⟩ => ?_
  refine ⟨pa, G, env, s.re, Tr.All_mono (Tr.All_bind (t := ev F it env) all) fun d hd => ?_⟩
  cases hw : walkD d with
  | none => rw [hw] at hd; exact hd.elim
  | some xs =>
    rw [hw] at hd
    have hd : (loopF (assign tg) (ex F fuel b) xs env).All _ := hd
    refine ⟨xs, rfl, fun J H1 G1 e1 ⟨W, Y, wk, stand, ylds⟩ => ?_⟩
    have s1 := s.step e1
    refine for_it wk (fun i σ H => ∃ G env, SE X.K pa Gf G0 H0 G env σ H ∧ Sub G1 G ∧ (loopF (assign tg) (ex F fuel b) (xs.drop i) env).All (OutOk X.K pa Gf G0 H0 D)) ⟨G1, env, s1, fun _ _ z => z, hd⟩ ?_ ?_ ?_
    · rintro i σ H hi ⟨G2, env2, s2, sb, _⟩
      exact stand G2 H ⟨sb, s2.re.gh⟩
    · rintro i v σ H H' hi ⟨G2, env2, s2, sb, hl⟩ hY
      obtain ⟨d, hd, ey, hval⟩ := ylds i G2 H v H' hi ⟨sb, s2.re.gh⟩ hY
      have hdrop : xs.drop i = d :: xs.drop (i + 1) := by
        rw [List.drop_eq_getElem_cons hi]
        congr 1
        rw [List.getElem?_eq_getElem hi] at hd
        exact Option.some.inj hd
      rw [hdrop] at hl
      have s3 := s2.step ey
      have hl : (match assign tg d env2 with | none => Tr.fail | some env => ((ex F fuel b env).bind fun o => (match o with | .nx e => loopF (assign tg) (ex F fuel b) (xs.drop (i + 1)) e | .ct e => loopF (assign tg) (ex F fuel b) (xs.drop (i + 1)) e | .bk e => Tr.ret (.nx e) | .rt d => Tr.ret (.rt d)))).All _ := hl
      cases ha : assign tg d env2 with
      | none => rw [ha] at hl; exact hl.elim
      | some env3 =>
        rw [ha] at hl
        refine ⟨pa, G2, env2, env3, d, s3.re, hval, ha, fun σ' re' chg => ?_⟩
        have s4 := s3.asg ha re' chg
        refine ⟨pa, G2, G0, H0, G2, env3, s4.rise, Tr.All_mono (Tr.All_bind (t := ex F fuel b env3) hl) fun w hw => ?_⟩
        have fl2 : Sub Gf G2 := s2.fl
        cases w with
        | nx e' => exact fun σ' H' G' s' => ⟨G', e', s'.floor fl2, fun b o q => s'.fl b o (sb b o q), hw⟩
        | ct e' => exact fun σ' H' G' s' => ⟨G', e', s'.floor fl2, fun b o q => s'.fl b o (sb b o q), hw⟩
        | bk e' => exact fun σ' H' G' s' => (show ∀ σ H G, SE X.K pa Gf G0 H0 G e' σ H → D.nx σ H from hw) _ _ _ (s'.floor fl2)
        | rt d => exact hw
    · rintro σ H ⟨G2, env2, s2, sb, hl⟩
      rw [List.drop_length] at hl
      exact (show ∀ σ H G, SE X.K pa Gf G0 H0 G env2 σ H → D.nx σ H from hl) _ _ _ s2
end Ev

/-! EvPar -/
set_option maxHeartbeats 4000000
namespace Ev
open PySem PySem.Spec PyProof.Rows L2
variable {C : Ctx} {X : Cx} {sc : Scope} {F : Nat → Bool → List PyData → Tr PyData} {K : PySem.W.Frag} {pa : Addr} {Gf G0 H0 G H G' H' : Hp} {env : Env} {σ : L2.St} {Q : VK} {fuel : Nat}
theorem sw_pair {x y : Str} {px py pt p2 : Pos} {kt k2 : Nat} {l r : Expr} {env : PySem.Env} (hb : env.blockKind = .function) (ex : env.kindOf x = some .local) (ey : env.kindOf y = some .local) (hl : px.line = py.line) (hxy : x ≠ y)
    (sl : nostar l = true) (sr : nostar r = true) (h1 : ([l, r].all (foldedForSure 8)) = false) (h2 : ([l, r].all (constantsAlone 8)) = false) :
    swappedStores [.Tuple [.Name x px, .Name y py] kt pt] (.Tuple [l, r] k2 p2) env = pure (some [x, y]) := by
  have s1 : ∀ e : Expr, nostar e = true → (match e with | .Starred .. => true | _ => false) = false := fun e h => by
    cases e <;> first | rfl | (simp [nostar] at h)
  have st : ([l, r].any fun | .Starred .. => true | _ => false) = false := by
    rw [List.any_cons, List.any_cons, List.any_nil, s1 l sl, s1 r sr]; rfl
  have dd : ([x, y] : List Str).eraseDups = [x, y] := by
    simp [List.eraseDups_cons, hxy, Ne.symm hxy]
  unfold swappedStores
  simp only [hb, st, h1, h2, List.filterMap_cons, List.filterMap_nil, ex, ey, List.head?_cons, Option.map_some, Option.getD_some, Expr.pos, hl, beq_self_eq_true, Bool.and_self, if_true, List.length_cons, List.length_nil]
  rw [if_neg (by decide)]
  refine Eq.trans (if_neg fun z => ?_) ?_
  · have z' := st.symm.trans z
    cases z'
  rw [dd]
  refine Eq.trans (if_neg (by simp)) ?_
  rw [if_neg (by decide), if_neg (by decide)]
/-- a value into each of two names -/
theorem st_par (o : OkB C F X sc) {i j : Nat} {a b : E} {x y : Str} {px py pt p2 pos : Pos} {kt k2 : Nat} {l r : Expr}
    (h : (!Nat.beq i j && nameAt C i x && nameAt C j y && loc1 sc x && loc1 sc y && !strEq x y && px.line == py.line && nostar l && nostar r && !([l, r].all (foldedForSure 8)) && !([l, r].all (constantsAlone 8)) && chkE C a false none sc l && chkE C b false none sc r) = true) :
    PS X (.Assign [.Tuple [.Name x px, .Name y py] kt pt] (.Tuple [l, r] k2 p2) pos) (tEvS X.K F fuel (.par i j a b)) := by
  obtain ⟨h1, h13⟩ := and2 h
  obtain ⟨h1, h12⟩ := and2 h1
  obtain ⟨h1, h11⟩ := and2 h1
  obtain ⟨h1, h10⟩ := and2 h1
  obtain ⟨h1, h9⟩ := and2 h1
  obtain ⟨h1, h8⟩ := and2 h1
  obtain ⟨h1, h7⟩ := and2 h1
  obtain ⟨h1, h6⟩ := and2 h1
  obtain ⟨h1, h5⟩ := and2 h1
  obtain ⟨h1, h4⟩ := and2 h1
  obtain ⟨h1, h3⟩ := and2 h1
  obtain ⟨h1, h2⟩ := and2 h1
  have hij : i ≠ j := fun z => by subst z; rw [Nat.beq_refl] at h1; exact nomatch h1
  have hxy : x ≠ y := fun z => by
    subst z
    have := strEq_ne h6
    rw [beq_self_eq_true] at this
    cases this
  have kx : (X.env.kindOf x == some .local) = true := by rw [kind_loc o]; exact h4
  have ky : (X.env.kindOf y == some .local) = true := by rw [kind_loc o]; exact h5
  have lx : X.env.scope.names.lookup x = some .local := beq_iff_eq.mp kx
  have ly : X.env.scope.names.lookup y = some .local := beq_iff_eq.mp ky
  have hw : swappedStores [.Tuple [.Name x px, .Name y py] kt pt] (.Tuple [l, r] k2 p2) X.env = pure (some [x, y]) :=
    sw_pair (blk_fn o) lx ly (beq_iff_eq.mp h7) hxy h8 h9 ((Bool.not_eq_true' _).mp h10) ((Bool.not_eq_true' _).mp h11)
  refine PS.imp (ps_par o.calm (by rw [o.nm]; exact o.nd) (o.at h2) (o.at h3) hij lx ly (pa_cons ((snd_all C F a).pe o.toOkX h12) (pa_cons ((snd_all C F b).pe o.toOkX h13) pa_nil (star1 h9 _ _)) (star1 h8 _ _)) hw rfl) fun D σ H ⟨pa, Gf, G0, H0, G, env, s, all⟩ => ?_
  refine ⟨pa, G, env, s.re, Tr.All_mono (Tr.All_bind (t := ev F a env) all) fun d hd v H1 G1 e1 b1 => ?_⟩
  have b1 : Val G1 v d := b1
  refine ⟨pa, G1, env, s.re.ext e1, Tr.All_mono (Tr.All_bind (t := ev F b env) hd) fun q hq u H2 G2 e2 b2 => ?_⟩
  refine ⟨v, u, rfl, (show ∀ σ H G, SE X.K pa Gf G0 H0 G (setE j (.v q) (setE i (.v d) env)) σ H → D.nx σ H from hq) _ _ G2 ?_⟩
  exact (((s.step e1).step e2).setV (b1.sub e2.gg)).setV b2

def tPopAt (K : PySem.W.Frag) (F : Nat → Bool → List PyData → Tr PyData) (i : Nat) (e : E) : TE := fun σ H Q =>
  ∃ (pa : Addr) (Gf G0 H0 G : Hp) (env : Env) (xs : List PyData), SE K pa Gf G0 H0 G env σ H ∧ getE i env = .o (.list xs) ∧
    (ev F e env).All fun k => ∃ d ys, popD xs k = some (d, ys) ∧ ∀ v H' G', Ext K pa G H G H → SE K pa Gf G0 H0 G' (setE i (.o (.list ys)) env) σ H' → Da G' v d → Q v H'
theorem popD_eq {xs : List PyData} {k : PyData} {d : PyData} {ys : List PyData} (h : popD xs k = some (d, ys)) : ∃ i j, k = .int i ∧ small62 i = true ∧ place xs.length i = some j ∧ xs[j]? = some d ∧ ys = xs.eraseIdx j := by
  cases k with
  | int i =>
    have h : cond (small62 i) ((place xs.length i).bind fun j => (xs[j]?).map fun d => (d, xs.eraseIdx j)) none = some (d, ys) := h
    have h1 : small62 i = true := by
      cases h1 : small62 i with
      | false => rw [h1] at h; exact nomatch h
      | true => rfl
    rw [h1] at h
    have h : ((place xs.length i).bind fun j => (xs[j]?).map fun d => (d, xs.eraseIdx j)) = some (d, ys) := h
    cases hp : place xs.length i with
    | none => rw [hp] at h; exact nomatch h
    | some j =>
      rw [hp] at h
      have h : (xs[j]?).map (fun d => (d, xs.eraseIdx j)) = some (d, ys) := h
      cases hx : xs[j]? with
      | none => rw [hx] at h; exact nomatch h
      | some d' =>
        rw [hx] at h
        cases h
        exact ⟨i, j, rfl, h1, hp, hx, rfl⟩
  | _ => exact nomatch h
theorem place_seq {n : Nat} {i : Int} {j : Nat} (h : place n i = some j) : seqIndex? i n = some j := (ixN_seq (place_ixN h).1).1
theorem pe_popAt (o : OkB C F X sc) {i : Nat} {e : E} {y nm : Str} {p ap cp : Pos} {x : Expr} (h : popB C i e sc y nm ap cp x = true) : PE X (.Call (.Attribute (.Name y p) nm ap) [x] [] cp) (tPopAt X.K F i e) := by
  obtain ⟨h1, h7⟩ := and2 h
  obtain ⟨h1, h6⟩ := and2 h1
  obtain ⟨h1, h5⟩ := and2 h1
  obtain ⟨h1, h4⟩ := and2 h1
  obtain ⟨h1, h3⟩ := and2 h1
  obtain ⟨hnm, h2⟩ := and2 h1
  have en := strEq_eq h4
  subst en
  refine PE.imp (pe_bm PySem.F.plainAttrs_list PySem.F.slot_list_pop rfl mt_popAt (pe_pool o.toOkX (p := p) hnm h2 h3) (pa_cons ((snd_all C F e).pe o.toOkX h7) pa_nil (star1 h6 _ _)) rfl (by rw [star1 h6]; rfl) h5 (star1 h6 _ _) rfl) fun σ H Q ⟨pa, Gf, G0, H0, G, env, xs, s, hs, all⟩ => ?_
  obtain ⟨a, us, ea, na, ga, h0, hx, r⟩ := s.ownL hs
  refine ⟨_, ea, .inl ⟨rfl, us, SqL.of hx⟩, pa, G, env, s.re, Tr.All_mono all fun k hk v H1 G1 e1 b1 => ?_⟩
  obtain ⟨d, ys, hp, q⟩ := hk
  obtain ⟨n, j, rfl, hsm, hpl, hd, rfl⟩ := popD_eq hp
  have s1 := s.step e1
  have hx1 := e1.hh _ _ na hx
  have ga1 := e1.none_ ga (by rw [hx]; exact fun z => nomatch z)
  have r1 := r.mono fun _ _ => Da.sub e1.gg
  obtain ⟨w, hw, hd1⟩ := r1.get hd
  have sm : iltB (-4611686018427387904) n = true ∧ iltB n 4611686018427387904 = true := and2 hsm
  rw [iltB_iff, iltB_iff, decide_eq_true_eq, decide_eq_true_eq] at sm
  refine ⟨a, us, n, j, w, rfl, by rw [bor_int b1], hx1, by omega, by omega, by rw [r1.length]; exact place_seq hpl, hw, ?_⟩
  exact q w _ G1 (Ext.refl s.re.gh) (s1.putL hs ea na ga1 (r1.erase j)) hd1
theorem st_popat (o : OkB C F X sc) {i : Nat} {e : E} {y nm : Str} {p ap cp pos : Pos} {x : Expr} (h : popB C i e sc y nm ap cp x = true) : PS X (.Expr (.Call (.Attribute (.Name y p) nm ap) [x] [] cp) pos) (tEvS X.K F fuel (.popat i e)) := by
  refine PS.imp (ps_expr (pe_popAt o h) rfl) fun D σ H ⟨pa, Gf, G0, H0, G, env, s, all⟩ => ?_
  have all : (match getE i env with | .o (.list xs) => ((ev F e env).bind fun k => (match popD xs k with | some (_, ys) => Tr.ret (Out.nx (setE i (.o (.list ys)) env)) | none => Tr.fail)) | _ => Tr.fail).All _ := all
  cases hs : getE i env with
  | o d0 => cases d0 with
    | list xs =>
      rw [hs] at all
      refine ⟨pa, Gf, G0, H0, G, env, xs, s, hs, Tr.All_mono (Tr.All_bind (t := ev F e env) all) fun k hk => ?_⟩
      cases hp : popD xs k with
      | none => rw [hp] at hk; exact hk.elim
      | some r =>
        obtain ⟨d, ys⟩ := r
        rw [hp] at hk
        exact ⟨d, ys, rfl, fun v H' G' _ s' hv => (show ∀ σ H G, SE X.K pa Gf G0 H0 G (setE i (.o (.list ys)) env) σ H → D.nx σ H from hk) _ _ _ s'⟩
    | _ => rw [hs] at all; exact all.elim
  | _ => rw [hs] at all; exact all.elim
theorem st_popatset (o : OkB C F X sc) {k i : Nat} {e : E} {y z nm : Str} {p pz ap cp pos : Pos} {x : Expr} (h : (nameAt C k z && locB sc z && popB C i e sc y nm ap cp x) = true) :
    PS X (.Assign [.Name z pz] (.Call (.Attribute (.Name y p) nm ap) [x] [] cp) pos) (tEvS X.K F fuel (.popatset k i e)) := by
  obtain ⟨h1, h3⟩ := and2 h
  obtain ⟨h1, h2⟩ := and2 h1
  refine PS.imp (st_asg o h1 h2 (pe_popAt o h3) rfl) fun D σ H ⟨pa, Gf, G0, H0, G, env, s, all⟩ => ?_
  have all : (match getE i env with | .o (.list xs) => ((ev F e env).bind fun q => (match popD xs q with | some (d, ys) => Tr.ret (Out.nx (setE k (.v d) (setE i (.o (.list ys)) env))) | none => Tr.fail)) | _ => Tr.fail).All _ := all
  cases hs : getE i env with
  | o d0 => cases d0 with
    | list xs =>
      rw [hs] at all
      refine ⟨pa, Gf, G0, H0, G, env, xs, s, hs, Tr.All_mono (Tr.All_bind (t := ev F e env) all) fun q hq => ?_⟩
      cases hp : popD xs q with
      | none => rw [hp] at hq; exact hq.elim
      | some r =>
        obtain ⟨d, ys⟩ := r
        rw [hp] at hq
        exact ⟨d, ys, rfl, fun v H' G' _ s' hv => (show ∀ σ H G, SE X.K pa Gf G0 H0 G (setE k (.v d) (setE i (.o (.list ys)) env)) σ H → D.nx σ H from hq) _ _ _ (s'.setV (da_val hv))⟩
    | _ => rw [hs] at all; exact all.elim
  | _ => rw [hs] at all; exact all.elim
theorem st_apppopat (o : OkB C F X sc) {i j : Nat} {e : E} {y z nm nm' : Str} {p pz ap cp ap' cp' pos : Pos} {x : Expr} (h : (nameAt C i z && visB sc z && okN z && strEq nm' "append" && plainLine ap' cp' && popB C j e sc y nm ap cp x) = true) :
    PS X (.Expr (.Call (.Attribute (.Name z pz) nm' ap') [.Call (.Attribute (.Name y p) nm ap) [x] [] cp] [] cp') pos) (tEvS X.K F fuel (.apppopat i j e)) := by
  obtain ⟨h1, h6⟩ := and2 h
  obtain ⟨h1, h5⟩ := and2 h1
  obtain ⟨h1, h4⟩ := and2 h1
  obtain ⟨h1, h3⟩ := and2 h1
  obtain ⟨hnm, h2⟩ := and2 h1
  have en := strEq_eq h4
  subst en
  refine PS.imp (ps_expr (pe_bm PySem.F.plainAttrs_list PySem.F.slot_list_append rfl mt_append (pe_pool o.toOkX (p := pz) hnm h2 h3) (pa_cons (pe_popAt o h6) pa_nil rfl) rfl rfl h5 rfl rfl) rfl) fun D σ H ⟨pa, Gf, G0, H0, G, env, s, all⟩ => ?_
  have all : (match getE i env with | .o (.list ys) => (match getE j env with | .o (.list xs) => ((ev F e env).bind fun q => appPop i j ys xs env q) | _ => Tr.fail) | _ => Tr.fail).All _ := all
  cases hi : getE i env with
  | o d0 => cases d0 with
    | list ys =>
      rw [hi] at all
      obtain ⟨a, us, ea, na, ga, h0, hx, r⟩ := s.ownL hi
      refine ⟨_, ea, .inl ⟨rfl, us, SqL.of hx⟩, ?_⟩
      have all : (match getE j env with | .o (.list xs) => ((ev F e env).bind fun q => appPop i j ys xs env q) | _ => Tr.fail).All _ := all
      cases hj : getE j env with
      | o d1 => cases d1 with
        | list xs =>
          rw [hj] at all
          refine ⟨pa, Gf, G0, H0, G, env, xs, s, hj, Tr.All_mono (Tr.All_bind (t := ev F e env) all) fun q hq => ?_⟩
          have hq : (appPop i j ys xs env q).All _ := hq
          unfold appPop at hq
          cases hp : popD xs q with
          | none => rw [hp] at hq; exact hq.elim
          | some rr =>
            obtain ⟨d, zs⟩ := rr
            rw [hp] at hq
            have hq : (cond (Nat.blt ys.length lim && !Nat.beq i j) (Tr.ret (Out.nx (setE i (.o (.list (ys ++ [d]))) (setE j (.o (.list zs)) env)))) Tr.fail).All _ := hq
            cases hl : (Nat.blt ys.length lim && !Nat.beq i j) with
            | false => rw [hl] at hq; exact hq.elim
            | true =>
              rw [hl] at hq
              obtain ⟨hl, hij⟩ := and2 hl
              rw [Nat.blt_eq] at hl
              have hij : j ≠ i := fun z => by subst z; rw [Nat.beq_refl] at hij; exact nomatch hij
              refine ⟨d, zs, rfl, fun v H' G' _ s' hv => ?_⟩
              have hi' : getE i (setE j (.o (.list zs)) env) = .o (.list ys) := by rw [get_set_ne hij]; exact hi
              obtain ⟨a', us', ea', na', ga', h0', hx', r'⟩ := s'.ownL hi'
              rw [ea] at ea'
              cases ea'
              refine ⟨a, us', v, rfl, rfl, hx', by rw [sizeLine_eq, r'.length]; exact hl, ?_⟩
              exact (show ∀ σ H G, SE X.K pa Gf G0 H0 G (setE i (.o (.list (ys ++ [d]))) (setE j (.o (.list zs)) env)) σ H → D.nx σ H from hq) _ _ _ (s'.putL hi' ea na' ga' (r'.append (.cons hv .nil)))
        | _ => rw [hj] at all; exact all.elim
      | _ => rw [hj] at all; exact all.elim
    | _ => rw [hi] at all; exact all.elim
  | _ => rw [hi] at all; exact all.elim
theorem pg_list : PGet X (fun o i H Q => ∃ a xs k n v, o = .ref a ∧ i = .int k ∧ H a = some (.lst xs) ∧ place xs.length k = some n ∧ xs[n]? = some v ∧ Q v H) := by
  intro pins s σ H o i ov iv Q I ro ri h
  obtain ⟨a, xs, k, n, v, rfl, rfl, hH, hp, hx, q⟩ := h
  cases ro
  obtain ⟨t, rfl⟩ := ri
  obtain ⟨its, rv, pl, hz⟩ := I.list (SqL.of hH)
  obtain ⟨w, hw, rw'⟩ := rv.get hx
  have fin : EP X pins σ Q w s := ⟨v, H, I, rw', q⟩
  have hl := rv.length
  have hn := line63
  cases k with
  | ofNat m =>
    have hp : cond (Nat.blt m xs.length) (some m) none = some n := hp
    obtain ⟨h1, rfl⟩ := cond_some hp
    rw [Nat.blt_eq] at h1
    exact wpAny_getItem_list pl.isList (Int.natCast_nonneg m) (show (m : Int) < 2 ^ 63 by omega) (by simpa using hw) fin
  | negSucc m =>
    have hp : cond (Nat.blt m xs.length) (some (xs.length - (m + 1))) none = some n := hp
    obtain ⟨h1, rfl⟩ := cond_some hp
    rw [Nat.blt_eq] at h1
    have e : (Int.negSucc m + (its.toArray.size : Int)).toNat = xs.length - (m + 1) := by rw [List.size_toArray]; omega
    exact wpAny_getItem_list_neg pl.isList (by omega) (by rw [List.size_toArray]; omega) (by omega) (by rw [e]; simpa using hw) fin
theorem aug_store {iv : Expr} (h : noslice iv = true) : ∀ ov i2 new, augStore iv ov i2 new = (do holding [new, ov, i2] (setItem ov i2 new); release [new, ov, i2] []; pure .next) := by
  intro ov i2 new
  cases iv <;> first | rfl | exact nomatch h
theorem st_augi (o : OkB C F X sc) {i : Nat} {k e : E} {op : Op} {y : Str} {p sp pos : Pos} {op' : Operator} {kx x : Expr} (h : (opIs op op' && augOk op && nameAt C i y && visB sc y && okN y && noslice kx && chkE C k true none sc kx && chkE C e true none sc x) = true) :
    PS X (.AugAssign (.Subscript (.Name y p) kx sp) op' x pos) (tEvS X.K F fuel (.augi i k op e)) := by
  obtain ⟨h1, h8⟩ := and2 h
  obtain ⟨h1, h7⟩ := and2 h1
  obtain ⟨h1, h6⟩ := and2 h1
  obtain ⟨h1, h5⟩ := and2 h1
  obtain ⟨h1, h4⟩ := and2 h1
  obtain ⟨h1, h3⟩ := and2 h1
  obtain ⟨h1, h2⟩ := and2 h1
  rw [opIs_eq h1]
  refine PS.imp (ps_augS (pe_pool o.toOkX (p := p) h3 h4 h5) ((snd_all C F k).pe o.toOkX h7) pg_list ((snd_all C F e).pe o.toOkX h8) (ip_all op h2) set_list (aug_store h6)) fun D σ H ⟨pa, Gf, G0, H0, G, env, s, all⟩ => ?_
  have all : (match getE i env with | .o (.list xs) => ((ev F k env).bind fun k => augAt F i xs op e env k) | _ => Tr.fail).All _ := all
  cases hs : getE i env with
  | o d0 => cases d0 with
    | list ds =>
      rw [hs] at all
      obtain ⟨a, xs, ea, na, ga, h0, hx, r⟩ := s.ownL hs
      refine ⟨_, ea, pa, G, env, s.re, Tr.All_mono (Tr.All_bind (t := ev F k env) all) fun kd hk u H1 G1 e1 b1 => ?_⟩
      have s1 := s.step e1
      have hx1 := e1.hh _ _ na hx
      have ga1 := e1.none_ ga (by rw [hx]; exact fun z => nomatch z)
      have r1 := r.mono fun _ _ => Da.sub e1.gg
      unfold augAt at hk
      cases kd with
      | int kk =>
        have hk : (match place ds.length kk with | some n => augIn F i ds op e env n | none => Tr.fail).All _ := hk
        cases hp : place ds.length kk with
        | none => rw [hp] at hk; exact hk.elim
        | some n =>
          rw [hp] at hk
          have hk : (augIn F i ds op e env n).All _ := hk
          unfold augIn at hk
          cases hd : ds[n]? with
          | none => rw [hd] at hk; exact hk.elim
          | some d =>
            rw [hd] at hk
            obtain ⟨w, hw, hwd⟩ := r1.get hd
            refine ⟨a, xs, kk, n, w, rfl, bor_int b1, hx1, by rw [r.length]; exact hp, hw, ?_⟩
            refine ⟨pa, G1, env, s1.re, Tr.All_mono (Tr.All_bind (t := ev F e env) hk) fun y hy u2 H2 G2 e2 b2 => ?_⟩
            cases d with
            | int ai => cases y with
              | int bi =>
                have hy : (match opD op (.int ai) (.int bi) with | some z => Tr.ret (Out.nx (setE i (.o (.list (ds.set n z))) env)) | none => Tr.fail).All _ := hy
                cases hr : opD op (.int ai) (.int bi) with
                | none => rw [hr] at hy; exact hy.elim
                | some z =>
                  rw [hr] at hy
                  have ew : w = .int ai := by cases hwd; rfl
                  refine ⟨ai, bi, z, ew, bor_int b2, hr, fun k2 hk2 => ?_⟩
                  subst hk2
                  have s2 := s1.step e2
                  have hx2 := e2.hh _ _ na hx1
                  have ga2 := e2.none_ ga1 (by rw [hx1]; exact fun z => nomatch z)
                  have r2 := r1.mono fun _ _ => Da.sub e2.gg
                  refine ⟨a, xs, kk, n, rfl, bor_int b1, hx2, by rw [r.length]; exact (place_ixN hp).1, ?_⟩
                  exact (show ∀ σ H G, SE X.K pa Gf G0 H0 G (setE i (.o (.list (ds.set n (.int k2)))) env) σ H → D.nx σ H from hy) _ _ _ (s2.putL hs ea na ga2 (r2.set (Da.int k2) n))
              | _ => exact hy.elim
            | _ => exact hy.elim
      | _ => exact hk.elim
    | _ => rw [hs] at all; exact all.elim
  | _ => rw [hs] at all; exact all.elim
end Ev

/-! EvSt5 -/
set_option maxHeartbeats 4000000
namespace Ev
open PySem PySem.Spec PyProof.Rows L2
variable {C : Ctx} {X : Cx} {sc : Scope} {F : Nat → Bool → List PyData → Tr PyData} {K : PySem.W.Frag} {pa : Addr} {Gf G0 H0 G H G' H' : Hp} {env : Env} {σ : L2.St} {Q : VK} {fuel : Nat}

/-- the state with a slot's object standing still -/
theorem frz_in {i : Nat} {s : S} {D : Ends} (h : tEvS K F fuel (.frz i s) D σ H) : tEvS K F fuel s D σ H := by
  obtain ⟨pa, Gf, G0, H0, G, env, st, all⟩ := h
  have all : (match getE i env with | .o (.list ds) => ex F fuel s (setE i (.v (.list ds)) env) | .v _ => ex F fuel s env | _ => Tr.fail).All _ := all
  cases hs : getE i env with
  | o d =>
    rw [hs] at all
    cases d with
    | list ds =>
      obtain ⟨G', s', _⟩ := st.frz hs
      exact ⟨pa, Gf, G0, H0, G', _, s', all⟩
    | _ => exact all.elim
  | v d => rw [hs] at all; exact ⟨pa, Gf, G0, H0, G, env, st, all⟩
  | _ => rw [hs] at all; exact all.elim
theorem wipe_in {is : List Nat} {s : S} {D : Ends} (h : tEvS K F fuel (.wipe is s) D σ H) : tEvS K F fuel s D σ H := by
  obtain ⟨pa, Gf, G0, H0, G, env, st, all⟩ := h
  exact ⟨pa, Gf, G0, H0, G, _, st.wipes is, all⟩
mutual
/-- every statement -/
theorem st_one (o : OkB C F X sc) : ∀ (s : S) (x : Stmt), oneS s = true → chkS C s sc [x] = true → PS X x (tEvS X.K F fuel s)
  | .nop, _, h, _ => nomatch h
  | .seq _ _, _, h, _ => nomatch h
  | .frz i s, x, h1, h => PS.imp (st_one o s x h1 h) fun _ _ _ q => frz_in q
  | .wipe is s, x, h1, h => PS.imp (st_one o s x h1 h) fun _ _ _ q => wipe_in q
  | .set i e, x, _, h => by
    simp only [chkS] at h
    split at h
    · rename_i heq
      cases heq
      exact st_set o h
    · exact nomatch h
  | .own i e, x, _, h => by
    simp only [chkS] at h
    split at h
    · rename_i heq
      cases heq
      exact st_own o h
    · exact nomatch h
  | .unp tg e, x, _, h => by
    simp only [chkS] at h
    split at h
    · rename_i heq
      cases heq
      exact st_unp o h
    · exact nomatch h
  | .par i j a b, x, _, h => by
    simp only [chkS] at h
    split at h
    · rename_i heq
      cases heq
      exact st_par o h
    · exact nomatch h
  | .aug i op e, x, _, h => by
    simp only [chkS] at h
    split at h
    · rename_i heq
      cases heq
      exact st_aug o h
    · exact nomatch h
  | .app i e, x, _, h => by
    simp only [chkS] at h
    split at h
    · rename_i heq
      cases heq
      exact st_app o h
    · exact nomatch h
  | .ext i e, x, _, h => by
    simp only [chkS] at h
    split at h
    · rename_i heq
      cases heq
      exact st_ext o h
    · exact nomatch h
  | .seti i k e, x, _, h => by
    simp only [chkS] at h
    split at h
    · rename_i heq
      cases heq
      exact st_seti o h
    · exact nomatch h
  | .ife c a b, x, _, h => by
    simp only [chkS] at h
    split at h
    · rename_i heq
      cases heq
      obtain ⟨h1, h3⟩ := and2 h
      obtain ⟨h1, h2⟩ := and2 h1
      obtain ⟨h0, h1⟩ := and2 h1
      obtain ⟨ha, hb⟩ := and2 h0
      exact st_ife o h1 (sts_all o a _ ha h2) (sts_all o b _ hb h3)
    · exact nomatch h
  | .whl c b, x, _, h => by
    simp only [chkS] at h
    split at h
    · rename_i heq
      cases heq
      obtain ⟨h1, h2⟩ := and2 h
      obtain ⟨hb, h1⟩ := and2 h1
      exact st_whl o h1 (sts_all o b _ hb h2)
    · exact nomatch h
  | .fr tg it b, x, _, h => by
    simp only [chkS] at h
    split at h
    · rename_i heq
      cases heq
      obtain ⟨h1, h4⟩ := and2 h
      obtain ⟨h1, h3⟩ := and2 h1
      obtain ⟨h1, h2⟩ := and2 h1
      obtain ⟨hb, h1⟩ := and2 h1
      exact st_fr o h1 h2 h3 (sts_all o b _ hb h4)
    · exact nomatch h
  | .ret e, x, _, h => by
    simp only [chkS] at h
    split at h
    · rename_i heq
      cases heq
      exact st_ret o h
    · exact nomatch h
  | .retO i, x, _, h => by
    simp only [chkS] at h
    split at h
    · rename_i heq
      cases heq
      exact st_retO o h
    · exact nomatch h
  | .retN, x, _, h => by
    simp only [chkS] at h
    split at h
    · rename_i heq
      cases heq
      exact PS.imp ps_retN fun D σ H ⟨pa, Gf, G0, H0, G, env, s, all⟩ => (show ∀ v H G, Ext X.K pa G0 H0 G H → Val G v .none → D.rt v H from all) .non H G s.ext Da.non
    · exact nomatch h
  | .drop e, x, _, h => by
    simp only [chkS] at h
    split at h
    · rename_i heq
      cases heq
      exact st_drop o h
    · exact nomatch h
  | .brk, x, _, h => by
    simp only [chkS] at h
    split at h
    · rename_i heq
      cases heq
      exact PS.imp ps_break fun D σ H ⟨pa, Gf, G0, H0, G, env, s, all⟩ => (show ∀ σ H G, SE X.K pa Gf G0 H0 G env σ H → D.bk σ H from all) _ _ _ s
    · exact nomatch h
  | .cnt, x, _, h => by
    simp only [chkS] at h
    split at h
    · rename_i heq
      cases heq
      exact PS.imp ps_continue fun D σ H ⟨pa, Gf, G0, H0, G, env, s, all⟩ => (show ∀ σ H G, SE X.K pa Gf G0 H0 G env σ H → D.ct σ H from all) _ _ _ s
    · exact nomatch h
  | .never, x, _, h => ⟨fun pins s σ H D I ⟨pa, Gf, G0, H0, G, env, st, all⟩ => (show False from all).elim⟩
  | .pop _, _, _, h => nomatch h
  | .popat i e, x, _, h => by
    simp only [chkS] at h
    split at h
    · rename_i heq
      cases heq
      exact st_popat o h
    · exact nomatch h
  | .popset _ _, _, _, h => nomatch h
  | .popatset k i e, x, _, h => by
    simp only [chkS] at h
    split at h
    · rename_i heq
      cases heq
      exact st_popatset o h
    · exact nomatch h
  | .popunp _ _, _, _, h => nomatch h
  | .apppop _ _, _, _, h => nomatch h
  | .apppopat i j e, x, _, h => by
    simp only [chkS] at h
    split at h
    · rename_i heq
      cases heq
      exact st_apppopat o h
    · exact nomatch h
  | .augi i k op e, x, _, h => by
    simp only [chkS] at h
    split at h
    · rename_i heq
      cases heq
      exact st_augi o h
    · exact nomatch h
  | .swap i k l e, x, _, h => by
    simp only [chkS] at h
    split at h
    · rename_i heq
      cases heq
      exact st_swap o h
    · exact nomatch h
  | .dnew i b, x, _, h => by
    simp only [chkS] at h
    split at h
    · rename_i heq
      cases heq
      exact st_dnew o h
    · exact nomatch h
/-- every row of statements -/
theorem sts_all (o : OkB C F X sc) : ∀ (s : S) (xs : List Stmt), rowS s = true → chkS C s sc xs = true → PSs X xs (tEvS X.K F fuel s)
  | .nop, xs, _, h => by
    cases xs with
    | nil => exact PSs.imp pss_nil fun D σ H ⟨pa, Gf, G0, H0, G, env, s, all⟩ => (show ∀ σ H G, SE X.K pa Gf G0 H0 G env σ H → D.nx σ H from all) _ _ _ s
    | cons _ _ => exact nomatch h
  | .seq a b, xs, _, h => by
    cases xs with
    | nil => exact nomatch h
    | cons x r =>
      obtain ⟨h1, h2⟩ := and2 (show (oneS a && rowS b && chkS C a sc [x] && chkS C b sc r) = true from h)
      obtain ⟨h0, h1⟩ := and2 h1
      obtain ⟨h0, hb⟩ := and2 h0
      refine PSs.imp (pss_cons (st_one o a x h0 h1) (sts_all o b r hb h2)) fun D σ H ⟨pa, Gf, G0, H0, G, env, s, all⟩ => ?_
      refine ⟨pa, Gf, G0, H0, G, env, s, Tr.All_mono (Tr.All_bind (t := ex F fuel a env) all) fun w hw => ?_⟩
      cases w with
      | nx e => exact fun σ' H' G' s' => ⟨pa, Gf, G0, H0, G', e, s', hw⟩
      | rt d => exact hw
      | bk e => exact hw
      | ct e => exact hw
  | .frz i s, xs, h0, h => PSs.imp (sts_all o s xs h0 h) fun _ _ _ q => frz_in q
  | .wipe is s, xs, h0, h => PSs.imp (sts_all o s xs h0 h) fun _ _ _ q => wipe_in q
  | .never, xs, _, h => ⟨fun pins s σ H D I ⟨pa, Gf, G0, H0, G, env, st, all⟩ => (show False from all).elim⟩
  | .set _ _, _, h, _ => nomatch h
  | .own _ _, _, h, _ => nomatch h
  | .unp _ _, _, h, _ => nomatch h
  | .par _ _ _ _, _, h, _ => nomatch h
  | .aug _ _ _, _, h, _ => nomatch h
  | .app _ _, _, h, _ => nomatch h
  | .ext _ _, _, h, _ => nomatch h
  | .seti _ _ _, _, h, _ => nomatch h
  | .ife _ _ _, _, h, _ => nomatch h
  | .whl _ _, _, h, _ => nomatch h
  | .fr _ _ _, _, h, _ => nomatch h
  | .ret _, _, h, _ => nomatch h
  | .retO _, _, h, _ => nomatch h
  | .retN , _, h, _ => nomatch h
  | .drop _, _, h, _ => nomatch h
  | .brk , _, h, _ => nomatch h
  | .cnt , _, h, _ => nomatch h
  | .pop _, _, h, _ => nomatch h
  | .popat _ _, _, h, _ => nomatch h
  | .popset _ _, _, h, _ => nomatch h
  | .popatset _ _ _, _, h, _ => nomatch h
  | .popunp _ _, _, h, _ => nomatch h
  | .apppop _ _, _, h, _ => nomatch h
  | .apppopat _ _ _, _, h, _ => nomatch h
  | .augi _ _ _ _, _, h, _ => nomatch h
  | .swap _ _ _ _, _, h, _ => nomatch h
  | .dnew _ _, _, h, _ => nomatch h
end
end Ev

/-! EvFn -/
set_option maxHeartbeats 4000000
namespace Ev
open PySem PySem.Spec PyProof.Rows L2
variable {C : Ctx} {F : Nat → Bool → List PyData → Tr PyData} {K : PySem.W.Frag} {pa : Addr} {G H : Hp} {fuel : Nat}
variable {P : Program} {w : World} {mg : Str → Option Value} {base : Heap}

theorem getE_app : ∀ (xs ys : Env) (i : Nat), getE i (xs ++ ys) = if i < xs.length then getE i xs else getE (i - xs.length) ys
  | [], ys, i => by simp
  | x :: xs, ys, 0 => by simp
  | x :: xs, ys, i + 1 => by
    show getE i (xs ++ ys) = _
    rw [getE_app xs ys i]
    simp
theorem getE_blank : ∀ (n i : Nat), getE i (blank n) = .no
  | 0, i => by cases i <;> rfl
  | n + 1, 0 => rfl
  | n + 1, i + 1 => getE_blank n i
theorem blank_len : ∀ n, (blank n).length = n
  | 0 => rfl
  | n + 1 => congrArg (· + 1) (blank_len n)
theorem getE_map (ds : List PyData) (i : Nat) : getE i (ds.map SV.v) = match ds[i]? with | some d => .v d | none => .no := by
  induction ds generalizing i with
  | nil => cases i <;> rfl
  | cons d ds ih => cases i with
    | zero => rfl
    | succ i => simpa using ih i
/-- the slots at a def's entry -/
theorem entry_ok {f : Fn} {N : List Str} {ws : List V} {ds : List PyData} (g : GH K pa G H) (r : All2 (Val G) ws ds) (hn : N.length = f.slots) (hd : ds.length = f.arity) (hs : (cond f.pool 1 0) + f.arity ≤ f.slots) :
    SE K pa G G H G (entry f ds) (L2.start N ((cond f.pool [V.ref pa] []) ++ ws)) H := by
  have hl := r.length
  have len : (entry f ds).length = (L2.start N ((cond f.pool [V.ref pa] []) ++ ws)).length := by
    unfold entry L2.start
    rw [List.length_append, List.length_append, List.length_map, blank_len, List.length_append, List.length_map, List.length_replicate, List.length_append]
    cases hp : f.pool <;> rw [hp] at hs <;> simp only [cond_true, cond_false, List.length_nil, List.length_cons] at * <;> omega
  have noown : ∀ i d, getE i (entry f ds) ≠ .o d := fun i d h => by
    unfold entry at h
    rw [getE_app, getE_app] at h
    split at h
    · split at h
      · cases hp : f.pool with
        | true => rw [hp] at h; cases i with
          | zero => exact nomatch h
          | succ i => rw [show getE (i + 1) (cond true [SV.pool] []) = .no from getE_none (by simp)] at h; exact nomatch h
        | false => rw [hp] at h; rw [show getE i (cond false [SV.pool] []) = .no from getE_none (by simp)] at h; exact nomatch h
      · rw [getE_map] at h
        split at h <;> exact nomatch h
    · rw [getE_blank] at h; exact nomatch h
  refine ⟨⟨g, len, fun i => ?_⟩, Ext.refl g, fun _ _ z => z, fun i a d h => absurd h (noown i d), fun i j a d e _ h => absurd h (noown i d)⟩
  have key : ∀ (ws : List V) (ds : List PyData) (n m i : Nat), All2 (Val G) ws ds → SlotOk pa G H (getE i (ds.map SV.v ++ blank n)) ((ws.map some ++ List.replicate m none)[i]?) := fun ws ds n m i r => by
    rw [getE_app, List.length_map]
    split
    · rename_i hi
      obtain ⟨w', h1, h2⟩ := r.get (List.getElem?_eq_getElem hi)
      rw [getE_map, List.getElem?_eq_getElem hi]
      refine ⟨w', ?_, h2⟩
      rw [List.getElem?_append_left (by rw [List.length_map, r.length]; exact hi), List.getElem?_map, h1]
      rfl
    · rw [getE_blank]; trivial
  unfold entry L2.start
  cases hp : f.pool with
  | false =>
    show SlotOk pa G H (getE i ([] ++ ds.map SV.v ++ blank _)) (([] ++ ws).map some ++ List.replicate _ none)[i]?
    rw [List.nil_append, List.nil_append]
    exact key ws ds _ _ i r
  | true =>
    cases i with
    | zero => rfl
    | succ i => exact key ws ds _ _ i r

/-- a def of the text: its name, its statement, the names of its slots -/
structure Df where
  name : Str
  st : Stmt
  N : List Str
def parN (f : Fn) : Nat := (cond f.pool 1 0) + f.arity
/-- the checker of a def -/
def chkD (fns : List (Str × Bool)) (gls : List (Str × PyData)) (drw : Str) (f : Fn) (d : Df) : Bool :=
  Nat.beq d.N.length f.slots && Nat.ble (parN f) f.slots && rowS f.body && chkS ⟨d.N, fns, gls, drw⟩ f.body (defScope d.st) (defBody d.st)
/-- what the top gives of a def -/
structure DefAt (K : PySem.W.Frag) (mg : Str → Option Value) (f : Fn) (d : Df) (a : Addr) (fd : FuncData) : Prop where
  fn : Fun K d.name d.name d.st a fd
  sc : FnScope d.N (d.N.take (parN f)) (defScope d.st)
  bd : Binds K fd (d.N.take (parN f)) []
  mg : mg d.name = some (.ref a)
/-- the whole table of defs -/
structure TabAt (P : Program) (w : World) (K : PySem.W.Frag) (mg : Str → Option Value) (base : Heap) (T : List Fn) (D : List Df) (gls : List (Str × PyData)) (drw : Str) : Prop where
  defs : ∀ (i : Nat) (f : Fn), T[i]? = some f → ∃ d a fd, D[i]? = some d ∧ DefAt K mg f d a fd ∧ chkD (T.zip D |>.map fun p => (p.2.name, p.1.pool)) gls drw f d = true
  len : T.length = D.length
  blt : ∀ x ∈ bltNames, mg x = none
  drw : ∃ a fd ps, FnOk P w K mg base CX0 2 a fd ps (spDraw K) ∧ mg drw = some (.ref a) ∧ PySem.W.keepIn K (.ref a) = true ∧ Binds K fd ps []
  gls : ∀ (k : Nat) (x : Str) (d : PyData), gls[k]? = some (x, d) → (∀ i : Int, d = .int i → ∃ t, mg x = some (.int i t)) ∧ ∀ z : Str, d = .str z → ∃ t, mg x = some (.str z t)
theorem getF_eq : ∀ (T : List Fn) (i : Nat), getF i T = T[i]?
  | [], i => by simp [getF]
  | f :: fs, 0 => rfl
  | f :: fs, i + 1 => by simpa [getF] using getF_eq fs i
/-- one def, the others one call less deep -/
theorem def_ok {T : List Fn} {D : List Df} {gls : List (Str × PyData)} {drw : Str} (W : TabAt P w K mg base T D gls drw) {depth : Nat} (ih : ∀ (i : Nat) (f : Fn) (d : Df) (a : Addr) (fd : FuncData), T[i]? = some f → D[i]? = some d → DefAt K mg f d a fd →
      FnOk P w K mg base CX0 (depth + 2) a fd (d.N.take (parN f)) (spFn K (run T fuel depth) i f.pool))
    {i : Nat} {f : Fn} {d : Df} {a : Addr} {fd : FuncData} (hi : T[i]? = some f) (hd : D[i]? = some d) (da : DefAt K mg f d a fd) (hc : chkD (T.zip D |>.map fun p => (p.2.name, p.1.pool)) gls drw f d = true) :
    FnOk P w K mg base CX0 (depth + 3) a fd (d.N.take (parN f)) (spFn K (run T fuel (depth + 1)) i f.pool) := by
  obtain ⟨h1, h4⟩ := and2 (show (Nat.beq d.N.length f.slots && Nat.ble (parN f) f.slots && rowS f.body && chkS ⟨d.N, _, gls, drw⟩ f.body (defScope d.st) (defBody d.st)) = true from hc)
  obtain ⟨h1, h3⟩ := and2 h1
  obtain ⟨h1, h2⟩ := and2 h1
  have hn : d.N.length = f.slots := Nat.eq_of_beq_eq_true h1
  rw [Nat.ble_eq] at h2
  -- what the evaluator's word says of the arguments
  have arg : ∀ vs H Q E, spFn K (run T fuel (depth + 1)) i f.pool vs H Q E → ∃ pa G ws ds, vs = (cond f.pool [V.ref pa] []) ++ ws ∧ GH K pa G H ∧ All2 (Val G) ws ds ∧ ds.length = f.arity ∧
      (ex (run T fuel depth) fuel f.body (entry f ds)).All fun o => (outD o).All fun d => ∀ v H' G', Ext K pa G H G' H' → Val G' v d → Q v H' := fun vs H Q E ⟨pa, G, ws, ds, e, g, r, all⟩ => by
    have all : (match getF i T with | some f' => cond ((cond f'.pool f.pool (!f.pool)) && Nat.beq ds.length f'.arity) ((ex (run T fuel depth) fuel f'.body (entry f' ds)).bind outD) Tr.fail | none => Tr.fail).All _ := all
    rw [getF_eq, hi] at all
    have all : (cond ((cond f.pool f.pool (!f.pool)) && Nat.beq ds.length f.arity) ((ex (run T fuel depth) fuel f.body (entry f ds)).bind outD) Tr.fail).All _ := all
    cases hb : ((cond f.pool f.pool (!f.pool)) && Nat.beq ds.length f.arity) with
    | false => rw [hb] at all; exact all.elim
    | true =>
      rw [hb] at all
      exact ⟨pa, G, ws, ds, e, g, r, Nat.eq_of_beq_eq_true (and2 hb).2, Tr.All_bind (t := ex (run T fuel depth) fuel f.body (entry f ds)) all⟩
  refine da.fn.ok da.sc (fun vs H Q E h => ?_) (fun cdv A outer s H vs Q E hr h => ?_)
  · obtain ⟨pa, G, ws, ds, e, g, r, hl, _⟩ := arg vs H Q E h
    subst e
    rw [List.length_append, r.length, hl, List.length_take, hn, Nat.min_eq_left h2]
    unfold parN
    cases f.pool <;> rfl
  · obtain ⟨pa, G, ws, ds, e, g, r, hl, all⟩ := arg vs H Q E h
    subst e
    have hu := hr.units
    have ok : OkB ⟨d.N, T.zip D |>.map fun p => (p.2.name, p.1.pool), gls, drw⟩ (run T fuel depth) (cxOf CX0 P w K mg base d.N d.name (defScope d.st) a cdv A outer s H E).nox (defScope d.st) :=
      { scp := RelS.refl _, nm := rfl, nd := da.sc.nd, calm := rfl, hu := hu, cell := fun _ _ => rfl, blt := W.blt
        fns := fun j x b hj => by
          rw [List.getElem?_map] at hj
          cases hz : (T.zip D)[j]? with
          | none => rw [hz] at hj; exact nomatch hj
          | some p =>
            rw [hz] at hj
            cases hj
            rw [List.getElem?_zip_eq_some] at hz
            obtain ⟨z1, z2⟩ := hz
            obtain ⟨d', a', fd', q1, q2, _⟩ := W.defs j p.1 z1
            rw [z2] at q1
            cases q1
            exact ⟨depth + 2, a', fd', _, ih j p.1 p.2 a' fd' z1 z2 q2, hr, q2.mg, q2.fn.kp, q2.bd⟩
        drw := by
          obtain ⟨a', fd', ps, q1, q2, q3, q4⟩ := W.drw
          exact ⟨2, a', fd', ps, q1, hr.mono (by omega), q2, q3, q4⟩
        gls := W.gls
        real := rfl, fkind := da.sc.kind, pass := PassesOwn.never }
    refine ⟨_, sts_all (fuel := fuel) ok f.body (defBody d.st) h3 h4, pa, G, G, H, G, entry f ds, entry_ok g r hn hl h2, Tr.All_mono all fun w hw => ?_⟩
    cases w with
    | nx e => exact fun σ' H' G' s' => (show ∀ v H' G', Ext K pa G H G' H' → Val G' v .none → Q v H' from hw) .non H' G' s'.ext Da.non
    | rt d => exact fun v H' G' e hv => (show ∀ v H' G', Ext K pa G H G' H' → Val G' v d → Q v H' from hw) v H' G' e hv
    | bk e => exact (show False from hw).elim
    | ct e => exact (show False from hw).elim
/-- every def, at every depth -/
theorem defs_ok {T : List Fn} {D : List Df} {gls : List (Str × PyData)} {drw : Str} (W : TabAt P w K mg base T D gls drw) : ∀ (depth i : Nat) (f : Fn) (d : Df) (a : Addr) (fd : FuncData), T[i]? = some f → D[i]? = some d → DefAt K mg f d a fd →
      FnOk P w K mg base CX0 (depth + 2) a fd (d.N.take (parN f)) (spFn K (run T fuel depth) i f.pool)
  | 0, i, f, d, a, fd, _, _, _ => by
    have no : ∀ vs H Q E, ¬ spFn K (run T fuel 0) i f.pool vs H Q E := fun vs H Q E ⟨_, _, _, _, _, _, _, all⟩ => all
    exact ⟨fun vs H Q E h => absurd h (no vs H Q E), fun A outer s H args us vs Q E _ _ _ _ h => absurd h (no vs H Q E)⟩
  | depth + 1, i, f, d, a, fd, h1, h2, da => by
    obtain ⟨d', a', fd', q1, q2, q3⟩ := W.defs i f h1
    rw [h2] at q1
    cases q1
    exact def_ok W (defs_ok W depth) h1 h2 da q3
end Ev

/-! EvLaw -/
set_option maxHeartbeats 4000000
namespace Ev
open PySem PySem.Spec PyProof.Rows L2
variable {K : PySem.W.Frag} {P : Program} {w : World} {mg : Str → Option Value} {base : Heap} {fuel : Nat}

/-- what the text alone says of a def -/
structure DfOk (f : Fn) (d : Df) : Prop where
  sc : FnScope d.N (d.N.take (parN f)) (defScope d.st)
  bi : ∀ (kV doc pm : Value) (an : Option Addr) (cdv ct : Value) (us : List Value), us.length = (d.N.take (parN f)).length →
    bindArgs (PySem.W.fnOf d.name d.name (defArgs d.st) (defBody d.st) (defScope d.st) .none kV doc pm an cdv ct) ⟨us, []⟩ = pure ((d.N.take (parN f)).zip us)
inductive AllOk : List Fn → List Df → Prop
  | nil : AllOk [] []
  | cons {f d T D} : DfOk f d → AllOk T D → AllOk (f :: T) (d :: D)
theorem AllOk.get : ∀ {T : List Fn} {D : List Df}, AllOk T D → ∀ {i : Nat} {f : Fn}, T[i]? = some f → ∃ d, D[i]? = some d ∧ DfOk f d
  | _, _, .nil, i, f, h => by simp at h
  | _, _, .cons a r, 0, f, h => by simp at h; subst h; exact ⟨_, rfl, a⟩
  | _, _, .cons a r, i + 1, f, h => by
    obtain ⟨d, h1, h2⟩ := r.get (i := i) (by simpa using h)
    exact ⟨d, by simpa using h1, h2⟩
theorem AllOk.len : ∀ {T : List Fn} {D : List Df}, AllOk T D → T.length = D.length
  | _, _, .nil => rfl
  | _, _, .cons _ r => congrArg (· + 1) r.len
def chkAll (fns : List (Str × Bool)) (gls : List (Str × PyData)) (drw : Str) : List Fn → List Df → Bool
  | [], [] => true
  | f :: fs, d :: ds => chkD fns gls drw f d && chkAll fns gls drw fs ds
  | _, _ => false
theorem chkAll_get {fns : List (Str × Bool)} {gls : List (Str × PyData)} {drw : Str} : ∀ {T : List Fn} {D : List Df}, chkAll fns gls drw T D = true → ∀ {i : Nat} {f : Fn} {d : Df}, T[i]? = some f → D[i]? = some d → chkD fns gls drw f d = true
  | [], _, _, i, f, d, h, _ => by simp at h
  | _ :: _, [], h, _, _, _, _, _ => nomatch h
  | f :: fs, d :: ds, h, 0, f', d', h1, h2 => by
    simp at h1 h2; subst h1; subst h2
    exact (and2 (show (chkD fns gls drw f d && chkAll fns gls drw fs ds) = true from h)).1
  | f :: fs, d :: ds, h, i + 1, f', d', h1, h2 =>
    chkAll_get (and2 (show (chkD fns gls drw f d && chkAll fns gls drw fs ds) = true from h)).2 (i := i) (by simpa using h1) (by simpa using h2)

def Df.fnD (d : Df) : He.FnD := ⟨(d.name, none), d.name, d.name, defArgs d.st, defBody d.st, defScope d.st⟩
def glF : Str × PyData → List He.Fa
  | (x, .int i) => [.int x i]
  | (x, .str z) => [.str x z]
  | _ => []
def factsL (D : List Df) (gls : List (Str × PyData)) : List He.Fa := (D.map fun d => He.Fa.glo d.name) ++ ((D.map fun d => He.Fa.keep d.name) ++ ((bltNames.map He.Fa.free) ++ gls.flatMap glF))
def defsL (D : List Df) : List He.FnD := D.map Df.fnD
theorem fact_in {fa : List He.Fa} {fn : List He.FnD} (c : He.SaysE fa fn K) {f : He.Fa} (h : f ∈ fa) : f.ok K = true := by
  obtain ⟨i, hi⟩ := List.mem_iff_getElem?.mp h
  exact c.fact i hi
variable {h : Heap} {D : List Df} {gls : List (Str × PyData)}
theorem def_in (X : K.In h) (G : h.Ns mainGlobals mg) (c : He.SaysE (factsL D gls) (defsL D) K) {d : Df} (hd : d ∈ D) : ∃ fd, Fun K d.name d.name d.st (He.ga K d.name) fd ∧ mg d.name = some (.ref (He.ga K d.name)) := by
  have h1 : (He.Fa.glo d.name).ok K = true := fact_in c (List.mem_append_left _ (List.mem_map.mpr ⟨d, hd, rfl⟩))
  have h2 : (He.Fa.keep d.name).ok K = true := fact_in c (List.mem_append_right _ (List.mem_append_left _ (List.mem_map.mpr ⟨d, hd, rfl⟩)))
  obtain ⟨i, hi⟩ := List.mem_iff_getElem?.mp hd
  obtain ⟨oc, od, osl, kV, doc, pm, an, cdv, ct, l, cc⟩ := c.def_ i (d := d.fnD) (by show (D.map Df.fnD)[i]? = _; rw [List.getElem?_map, hi]; rfl)
  exact ⟨_, fun_mk l cc (He.keep_ok h2), He.glo_ok X G h1⟩
theorem free_in (X : K.In h) (G : h.Ns mainGlobals mg) (c : He.SaysE (factsL D gls) (defsL D) K) : ∀ x ∈ bltNames, mg x = none := fun x hx =>
  He.free_ok X G (fact_in c (List.mem_append_right _ (List.mem_append_right _ (List.mem_append_left _ (List.mem_map.mpr ⟨x, hx, rfl⟩)))))
theorem gls_in (X : K.In h) (G : h.Ns mainGlobals mg) (c : He.SaysE (factsL D gls) (defsL D) K) : ∀ (k : Nat) (x : Str) (d : PyData), gls[k]? = some (x, d) → (∀ i : Int, d = .int i → ∃ t, mg x = some (.int i t)) ∧ ∀ z : Str, d = .str z → ∃ t, mg x = some (.str z t) := fun k x d hk => by
  have hm := List.mem_of_getElem? hk
  refine ⟨fun i e => ?_, fun z e => ?_⟩
  · subst e
    exact He.int_ok X G (fact_in c (List.mem_append_right _ (List.mem_append_right _ (List.mem_append_right _ (List.mem_flatMap.mpr ⟨_, hm, List.mem_cons_self⟩)))))
  · subst e
    exact He.str_ok X G (fact_in c (List.mem_append_right _ (List.mem_append_right _ (List.mem_append_right _ (List.mem_flatMap.mpr ⟨_, hm, List.mem_cons_self⟩)))))
/-- the table, from the head's facts -/
theorem tab_at (X : K.In h) (G : h.Ns mainGlobals mg) (c : He.SaysE (factsL D gls) (defsL D) K) {T : List Fn} {DT : List Df} {drw : Str} (sub : ∀ d ∈ DT, d ∈ D) (ok : AllOk T DT)
    (chk : chkAll (T.zip DT |>.map fun p => (p.2.name, p.1.pool)) gls drw T DT = true)
    (hd : ∃ a fd ps, FnOk P w K mg base CX0 2 a fd ps (spDraw K) ∧ mg drw = some (.ref a) ∧ PySem.W.keepIn K (.ref a) = true ∧ Binds K fd ps []) : TabAt P w K mg base T DT gls drw where
  defs := fun i f hi => by
    obtain ⟨d, h1, h2⟩ := ok.get hi
    obtain ⟨fd, q1, q2⟩ := def_in X G c (sub d (List.mem_of_getElem? h1))
    exact ⟨d, _, fd, h1, ⟨q1, h2.sc, q1.binds h2.bi, q2⟩, chkAll_get chk hi h1⟩
  len := ok.len
  blt := free_in X G c
  drw := hd
  gls := gls_in X G c

theorem fun_to {x qual : Str} {st : Stmt} {f : Addr} {fd : FuncData} {ps : List Str} (F : Fun K x qual st f fd)
    (h : ∀ (kV doc pm : Value) (an : Option Addr) (cdv ct : Value) (us : List Value), us.length = ps.length → bindArgs (PySem.W.fnOf x qual (defArgs st) (defBody st) (defScope st) .none kV doc pm an cdv ct) ⟨us, []⟩ = pure (ps.zip us)) (s : Shared) (us : List Value) (hl : us.length = ps.length) : BindsTo s fd ⟨us, []⟩ (ps.zip us) := by
  obtain ⟨oc, od, kV, doc, pm, an, cdv, ct, osl, rfl, lk, hcd⟩ := F.ex
  exact .of_eq (h kV doc pm an cdv ct us hl)
/-- from its first draw on -/
noncomputable def lawRun (T : List Fn) (fuel depth : Nat) (f : Fn) : Tr Out := ex (run T fuel depth) fuel f.body (setE 1 .pool (blank f.slots))
def spLaw (K : PySem.W.Frag) : Sp := fun vs H Q _ => ∃ (a : Addr) (ns : List Int), vs = [.ref a] ∧ SqL K H a (ns.map V.int) ∧ ns.length ≤ 63 ∧ ∀ H', Q (.bl true) H'
def isYesO : Out → Bool
  | .rt (.bool true) => true
  | _ => false
/-- All, in a box: what stands in it is not reckoned while a text is read -/
structure AL {α : Type} (t : Tr α) (P : α → Prop) : Prop where
  all : t.All P
abbrev YS : Out → Prop := fun o => isYesO o = true
def spPool (K : PySem.W.Frag) : Sp := fun vs H Q _ => ∃ (a : Addr) (ns : List Int), vs = [.ref a] ∧ SqL K H a (ns.map V.int) ∧ ns.length ≤ 63 ∧ ∀ pa G H', GH K pa G H' → Q (.ref pa) H'
def chkLaw (fns : List (Str × Bool)) (gls : List (Str × PyData)) (drw : Str) (f : Fn) (d : Df) (rest : List Stmt) : Bool :=
  Nat.beq d.N.length f.slots && nameAt ⟨d.N, fns, gls, drw⟩ 0 "script" && nameAt ⟨d.N, fns, gls, drw⟩ 1 "pool" && visB (defScope d.st) "script" && locB (defScope d.st) "pool" && glB (defScope d.st) "_law_pool" && rowS f.body && chkS ⟨d.N, fns, gls, drw⟩ f.body (defScope d.st) rest
theorem ok_law {T : List Fn} {DT : List Df} {gls : List (Str × PyData)} {drw : Str} (W : TabAt P w K mg base T DT gls drw) {f : Fn} {d : Df} {a : Addr} {fd : FuncData} (F : Fun K d.name d.name d.st a fd) (S : FnScope d.N ["script"] (defScope d.st))
    {fp : Addr} {fdp : FuncData} (GP : FnOk P w K mg base CX0 1 fp fdp ["script"] (spPool K)) (mP : mg "_law_pool" = some (.ref fp)) (kP : PySem.W.keepIn K (.ref fp) = true) (bP : Binds K fdp ["script"] [])
    {p1 p2 p3 p4 p5 : Pos} {rest : List Stmt} (hb : defBody d.st = .Assign [.Name "pool" p1] (.Call (.Name "_law_pool" p2) [.Name "script" p3] [] p4) p5 :: rest)
    (hc : chkLaw (T.zip DT |>.map fun p => (p.2.name, p.1.pool)) gls drw f d rest = true) {depth : Nat} (box : AL (lawRun T fuel depth f) YS) : FnOk P w K mg base CX0 (depth + 3) a fd ["script"] (spLaw K) := by
  obtain ⟨h1, h8⟩ := and2 hc
  obtain ⟨h1, h7⟩ := and2 h1
  obtain ⟨h1, h6⟩ := and2 h1
  obtain ⟨h1, h5⟩ := and2 h1
  obtain ⟨h1, h4⟩ := and2 h1
  obtain ⟨h1, h3⟩ := and2 h1
  obtain ⟨h1, h2⟩ := and2 h1
  have hn : d.N.length = f.slots := Nat.eq_of_beq_eq_true h1
  refine F.ok S (fun vs H Q E h => ?_) (fun cdv A outer s H vs Q E hr h => ?_)
  · obtain ⟨a, ns, rfl, _⟩ := h
    rfl
  · obtain ⟨a, ns, rfl, hS, hlen, q⟩ := h
    have hu := hr.units
    have ok : OkB ⟨d.N, T.zip DT |>.map fun p => (p.2.name, p.1.pool), gls, drw⟩ (run T fuel depth) (cxOf CX0 P w K mg base d.N d.name (defScope d.st) _ cdv A outer s H E).nox (defScope d.st) :=
      { scp := RelS.refl _, nm := rfl, nd := S.nd, calm := rfl, hu := hu, cell := fun _ _ => rfl, blt := W.blt
        fns := fun j x b hj => by
          rw [List.getElem?_map] at hj
          cases hz : (T.zip DT)[j]? with
          | none => rw [hz] at hj; exact nomatch hj
          | some p =>
            rw [hz] at hj
            cases hj
            rw [List.getElem?_zip_eq_some] at hz
            obtain ⟨z1, z2⟩ := hz
            obtain ⟨d', a', fd', q1, q2, _⟩ := W.defs j p.1 z1
            rw [z2] at q1
            cases q1
            exact ⟨depth + 2, a', fd', _, defs_ok W depth j p.1 p.2 a' fd' z1 z2 q2, hr, q2.mg, q2.fn.kp, q2.bd⟩
        drw := by
          obtain ⟨a', fd', ps, q1, q2, q3, q4⟩ := W.drw
          exact ⟨2, a', fd', ps, q1, hr.mono (by omega), q2, q3, q4⟩
        gls := W.gls
        real := rfl, fkind := S.kind, pass := PassesOwn.never }
    rw [hb]
    refine ⟨_, pss_cons (st_asg (i := 1) ok h3 h5 (pe_call GP (hr.mono (by omega)) (ok.gl h6) mP kP bP .nil pass0 (pa_cons (pe_pool ok.toOkX h2 h4 (by decide +kernel)) pa_nil)) rfl) (sts_all (fuel := fuel) ok f.body rest h7 h8), ?_⟩
    have hs0 : (L2.start d.N [V.ref a])[0]? = some (some (V.ref a)) := rfl
    refine ⟨_, hs0, a, ns, rfl, hS, hlen, fun pa G H' gh => ?_⟩
    have hl1 : 1 < d.N.length := (List.getElem?_eq_some_iff.mp (nameAt_ok h3)).1
    have lenS : (L2.start d.N [V.ref a]).length = d.N.length := by
      unfold L2.start
      rw [List.length_append, List.length_map, List.length_replicate]
      simp only [List.length_cons, List.length_nil]
      omega
    have no : ∀ i x, getE i (setE 1 .pool (blank f.slots)) = x → x = .no ∨ (i = 1 ∧ x = .pool) := fun i x hx => by
      rw [getE_setE] at hx
      split at hx
      · rename_i e
        split at hx
        · exact .inr ⟨e.symm, hx.symm⟩
        · exact .inl hx.symm
      · rw [getE_blank] at hx; exact .inl hx.symm
    refine ⟨pa, G, G, H', G, setE 1 .pool (blank f.slots), ⟨⟨gh, ?_, fun i => ?_⟩, Ext.refl gh, fun _ _ z => z, fun i b e hg => ?_, fun i j b e1 e2 _ hg => ?_⟩, Tr.All_mono box.all fun o ho => ?_⟩
    · rw [setE_length, blank_len, List.length_set, lenS, hn]
    · rcases no i _ rfl with z | ⟨rfl, z⟩
      · rw [z]; trivial
      · rw [z]
        show _ = _
        rw [List.getElem?_set_self (by rw [lenS]; exact hl1)]
    · rcases no i _ hg with z | ⟨_, z⟩ <;> exact nomatch z
    · rcases no i _ hg with z | ⟨_, z⟩ <;> exact nomatch z
    · match o, ho with
      | .rt (.bool true), _ =>
        exact fun v H2 G2 _ hv => by
          have hv : Da G2 v (.bool true) := hv
          cases hv
          exact q H2
end Ev

/-! EvCut -/
set_option maxHeartbeats 4000000
namespace Ev
open PySem L2
variable {α β : Type}
def takeS : Nat → S → S
  | 0, _ => .nop
  | n + 1, .seq a b => .seq a (takeS n b)
  | _ + 1, s => s
def dropS : Nat → S → S
  | 0, s => s
  | n + 1, .seq _ b => dropS n b
  | _ + 1, _ => .nop
/-- what follows an outcome -/
noncomputable def thenO (f : Env → Tr Out) : Out → Tr Out
  | .nx e => f e
  | .rt d => .ret (.rt d)
  | .bk e => .ret (.bk e)
  | .ct e => .ret (.ct e)
variable {F : Nat → Bool → List PyData → Tr PyData} {fuel : Nat}
theorem bind_ret (t : Tr Out) : (t.bind fun o => thenO (fun e => .ret (.nx e)) o) = t := by
  induction t with
  | ret a => cases a <;> rfl
  | draw n k ih =>
    show Tr.draw n (fun r => (k r).bind _) = _
    congr 1
    funext r
    exact ih r
  | fail => rfl
theorem ex_seq (a b : S) (env : Env) : ex F fuel (.seq a b) env = (ex F fuel a env).bind (thenO (ex F fuel b)) := by
  show (ex F fuel a env).bind _ = _
  congr 1
theorem ex_split (n : Nat) : ∀ (s : S) (env : Env), ex F fuel s env = (ex F fuel (takeS n s) env).bind (thenO (ex F fuel (dropS n s))) := by
  induction n with
  | zero => intro s env; rfl
  | succ n ih =>
    intro s env
    have one : ∀ s : S, takeS (n + 1) s = s → dropS (n + 1) s = .nop → ex F fuel s env = (ex F fuel (takeS (n + 1) s) env).bind (thenO (ex F fuel (dropS (n + 1) s))) := fun s e1 e2 => by
      rw [e1, e2]
      exact (bind_ret _).symm
    cases s with
    | seq a b =>
      show ex F fuel (.seq a b) env = (ex F fuel (.seq a (takeS n b)) env).bind (thenO (ex F fuel (dropS n b)))
      rw [ex_seq, ex_seq, Tr.bind_assoc]
      congr 1
      funext o
      cases o with
      | nx e => exact ih b e
      | _ => rfl
    | _ => exact one _ rfl rfl
/-- the outcome goes on with f, or P holds of it -/
def OutK (f : Env → Prop) (P : Out → Prop) : Out → Prop
  | .nx e => f e
  | .rt d => P (.rt d)
  | .bk e => P (.bk e)
  | .ct e => P (.ct e)
theorem OutK_nx {f : Env → Prop} {P : Out → Prop} {e : Env} (h : f e) : OutK f P (.nx e) := h
theorem OutK_eq {f : Env → Prop} {P : Out → Prop} {e : Env} {o : Out} (z : o = .nx e) (h : f e) : OutK f P o := by subst z; exact h
theorem AL_split (n : Nat) {s : S} {env : Env} {P : Out → Prop} (h : AL (ex F fuel (takeS n s) env) (OutK (fun e => AL (ex F fuel (dropS n s) e) P) P)) : AL (ex F fuel s env) P := by
  refine ⟨?_⟩
  rw [ex_split n]
  refine Tr.bind_All (Tr.All_mono h.all fun o ho => ?_)
  cases o <;> first | exact ho | exact AL.all ho

def drawN : Tr α → Option Nat
  | .draw n _ => some n
  | _ => none
def kid (t : Tr α) (r : Nat) : Tr α := match t with
  | .draw _ k => k r
  | _ => .fail
theorem AL_kid {t : Tr α} {n : Nat} {P : α → Prop} (h : drawN t = some n) (hk : ∀ r, r < n → AL (kid t r) P) : AL t P := by
  cases t with
  | draw m k => cases h; exact ⟨fun r hr => (hk r hr).all⟩
  | ret a => exact nomatch h
  | fail => exact nomatch h
theorem AL_B {t : Tr α} {p : α → Bool} (h : t.allB p = true) : AL t fun a => p a = true := ⟨Tr.allB_All h⟩
theorem AL_mono {t : Tr α} {P Q : α → Prop} (h : AL t P) (f : ∀ a, P a → Q a) : AL t Q := ⟨Tr.All_mono h.all f⟩
theorem AL_bind {t : Tr α} {f : α → Tr β} {P : β → Prop} (h : AL t fun a => AL (f a) P) : AL (t.bind f) P := ⟨Tr.bind_All (Tr.All_mono h.all fun _ q => q.all)⟩
/-- all of lo, lo + 1, .., n of them -/
def allR (p : Nat → Bool) : Nat → Nat → Bool
  | _, 0 => true
  | lo, n + 1 => cond (p lo) (allR p (lo + 1) n) false
theorem allR_at {p : Nat → Bool} : ∀ {n lo : Nat}, allR p lo n = true → ∀ {r : Nat}, lo ≤ r → r < lo + n → p r = true
  | 0, lo, _, r, h1, h2 => by omega
  | n + 1, lo, h, r, h1, h2 => by
    have h : cond (p lo) (allR p (lo + 1) n) false = true := h
    cases e : p lo with
    | false => rw [e] at h; exact nomatch h
    | true =>
      rw [e] at h
      by_cases z : r = lo
      · subst z; exact e
      · exact allR_at h (by omega) (by omega)
theorem AL_ret {t : Tr α} {a : α} {P : α → Prop} (h : t = .ret a) (p : P a) : AL t P := by subst h; exact ⟨p⟩
/-- the environment behind -/
def outE (t : Tr Out) : Env := match t with
  | .ret (.nx e) => e
  | _ => []
mutual
/-- the same datum, to the sign -/
def same : PyData → PyData → Bool
  | .none, y => match y with | .none => true | _ => false
  | .bool a, y => match y with | .bool b => cond a b (!b) | _ => false
  | .int i, y => match y with | .int j => ieqB i j | _ => false
  | .str x, y => match y with | .str z => strEq x z | _ => false
  | .list xs, y => match y with | .list ys => sameAll xs ys | _ => false
  | .tuple xs, y => match y with | .tuple ys => sameAll xs ys | _ => false
  | .dict _, _ => false
def sameAll : List PyData → List PyData → Bool
  | [], ys => match ys with | [] => true | _ :: _ => false
  | x :: xs, ys => match ys with | y :: ys => cond (same x y) (sameAll xs ys) false | [] => false
end
mutual
theorem same_eq : ∀ {x y : PyData}, same x y = true → x = y
  | .none, y, h => by cases y <;> first | rfl | exact nomatch h
  | .bool a, y, h => by
    cases y with
    | bool b => cases a <;> cases b <;> first | rfl | exact nomatch h
    | _ => exact nomatch h
  | .int i, y, h => by
    cases y with
    | int j => have h : ieqB i j = true := h; rw [ieqB_iff, decide_eq_true_eq] at h; rw [h]
    | _ => exact nomatch h
  | .str a, y, h => by
    cases y with
    | str z => rw [strEq_eq (show strEq a z = true from h)]
    | _ => exact nomatch h
  | .list xs, y, h => by
    cases y with
    | list ys => rw [sameAll_eq (show sameAll xs ys = true from h)]
    | _ => exact nomatch h
  | .tuple xs, y, h => by
    cases y with
    | tuple ys => rw [sameAll_eq (show sameAll xs ys = true from h)]
    | _ => exact nomatch h
  | .dict _, _, h => nomatch h
theorem sameAll_eq : ∀ {xs ys : List PyData}, sameAll xs ys = true → xs = ys
  | [], ys, h => by cases ys <;> first | rfl | exact nomatch h
  | x :: xs, ys, h => by
    cases ys with
    | nil => exact nomatch h
    | cons y ys =>
      have h : cond (same x y) (sameAll xs ys) false = true := h
      cases e : same x y with
      | false => rw [e] at h; exact nomatch h
      | true =>
        rw [e] at h
        rw [same_eq e, sameAll_eq h]
end
end Ev

/-! EvWalk -/
set_option maxHeartbeats 4000000
namespace Ev
open PySem L2
variable {α β : Type} {F : Nat → Bool → List PyData → Tr PyData} {fuel : Nat} {env : Env}
theorem bind_r (a : α) (f : α → Tr β) : (Tr.ret a).bind f = f a := rfl
theorem ofO_s (a : α) : Tr.ofO (some a) = Tr.ret a := rfl
theorem thenO_nx (f : Env → Tr Out) (e : Env) : thenO f (.nx e) = f e := rfl
theorem thenO_rt (f : Env → Tr Out) (d : PyData) : thenO f (.rt d) = .ret (.rt d) := rfl
theorem thenO_bk (f : Env → Tr Out) (e : Env) : thenO f (.bk e) = .ret (.bk e) := rfl
theorem outD_rt (d : PyData) : outD (.rt d) = .ret d := rfl
theorem w_seq (a b : S) : ex F fuel (.seq a b) env = (ex F fuel a env).bind (thenO (ex F fuel b)) := ex_seq a b env
theorem w_nop : ex F fuel .nop env = .ret (.nx env) := rfl
theorem w_set (i : Nat) (e : E) : ex F fuel (.set i e) env = (ev F e env).bind fun d => .ret (.nx (setE i (.v d) env)) := rfl
theorem w_own (i : Nat) (e : E) : ex F fuel (.own i e) env = (ev F e env).bind fun d => match d with
    | .list xs => .ret (.nx (setE i (.o (.list xs)) env))
    | _ => .fail := rfl
theorem w_par (i j : Nat) (a b : E) : ex F fuel (.par i j a b) env = (ev F a env).bind fun x => (ev F b env).bind fun y => .ret (.nx (setE j (.v y) (setE i (.v x) env))) := rfl
theorem w_ret (e : E) : ex F fuel (.ret e) env = (ev F e env).bind fun d => .ret (.rt d) := rfl
theorem w_ife (c : E) (a b : S) : ex F fuel (.ife c a b) env = (ev F c env).bind fun t => match t with
    | .bool true => ex F fuel a env
    | .bool false => ex F fuel b env
    | _ => .fail := rfl
theorem w_fr (tg : Tg) (it : E) (b : S) : ex F fuel (.fr tg it b) env = (ev F it env).bind fun x => match walkD x with
    | some xs => loopF (assign tg) (ex F fuel b) xs env
    | none => .fail := rfl
theorem w_whl (c : E) (b : S) : ex F fuel (.whl c b) env = loopW (ev F c) (ex F fuel b) fuel env := rfl
theorem w_app (i : Nat) (e : E) : ex F fuel (.app i e) env = (match getE i env with
    | .o (.list xs) => (ev F e env).bind fun d => cond (Nat.blt xs.length lim) (.ret (.nx (setE i (.o (.list (xs ++ [d]))) env))) .fail
    | _ => .fail) := rfl
theorem w_swap (i : Nat) (k l e : E) : ex F fuel (.swap i k l e) env = (ev F e env).bind fun d => match d with
    | .tuple [x, y] => match getE i env with
      | .o (.list xs) => (ev F k env).bind fun k => match putL xs k x with
        | some ys => (ev F l (setE i (.o (.list ys)) env)).bind fun l => match putL ys l y with
          | some zs => .ret (.nx (setE i (.o (.list zs)) env))
          | none => .fail
        | none => .fail
      | _ => .fail
    | _ => .fail := rfl
theorem e_var (i : Nat) : ev F (.var i) env = (match getE i env with
  | .v d => .ret d
  | _ => .fail) := ev_var F i env
theorem e_rd (i : Nat) : ev F (.rd i) env = (match getE i env with
  | .v d => .ret d
  | .o d => .ret d
  | _ => .fail) := ev_rd F i env
theorem e_lit (d : PyData) : ev F (.lit d) env = .ret d := rfl
theorem e_nil : ev F .nil env = .ret (.tuple []) := rfl
theorem e_yes : ev F .yes env = .ret (.bool true) := rfl
theorem e_no : ev F .no env = .ret .none := rfl
theorem e_one (a : E) : ev F (.one a) env = ev F a env := rfl
theorem e_op (o : Op) (a b : E) : ev F (.op o a b) env = (ev F a env).bind fun x => (ev F b env).bind fun y => Tr.ofO (opD o x y) := rfl
theorem e_cm (c : Cm) (a b : E) : ev F (.cm c a b) env = (ev F a env).bind fun x => (ev F b env).bind fun y => Tr.ofO ((cmD c x y).map .bool) := rfl
theorem e_cons (a as : E) : ev F (.cons a as) env = (ev F a env).bind fun x => (ev F as env).bind fun y => match y with
    | .tuple ys => .ret (.tuple (x :: ys))
    | _ => .fail := rfl
theorem e_tup (es : E) : ev F (.tup es) env = (ev F es env).bind fun y => match y with
    | .tuple ys => cond (lenOk ys) (.ret (.tuple ys)) .fail
    | _ => .fail := rfl
theorem e_lst (es : E) : ev F (.lst es) env = (ev F es env).bind fun y => match y with
    | .tuple ys => cond (lenOk ys) (.ret (.list ys)) .fail
    | _ => .fail := rfl
theorem e_ix (a i : E) : ev F (.ix a i) env = (ev F a env).bind fun x => (ev F i env).bind fun y => Tr.ofO (ixD x y) := rfl
theorem e_bi (f : Bi) (es : E) : ev F (.bi f es) env = (ev F es env).bind fun y => match y with
    | .tuple ys => Tr.ofO (biD f ys)
    | _ => .fail := rfl
theorem e_call (f : Nat) (es : E) : ev F (.call f es) env = (ev F es env).bind fun y => match y with
    | .tuple ys => F f false ys
    | _ => .fail := rfl
theorem e_not (a : E) : ev F (.not a) env = (ev F a env).bind fun x => match x with
    | .bool b => .ret (.bool (!b))
    | _ => .fail := rfl
theorem e_or (a b : E) : ev F (.or a b) env = (ev F a env).bind fun x => match x with
    | .bool true => .ret (.bool true)
    | .bool false => ev F b env
    | _ => .fail := rfl
theorem e_and (a b : E) : ev F (.and a b) env = (ev F a env).bind fun x => match x with
    | .bool true => ev F b env
    | .bool false => .ret (.bool false)
    | _ => .fail := rfl
theorem e_ite (t a b : E) : ev F (.ite t a b) env = (ev F t env).bind fun x => match x with
    | .bool true => ev F a env
    | .bool false => ev F b env
    | _ => .fail := rfl
theorem e_rng (es : E) : ev F (.rng es) env = (ev F es env).bind fun y => match y with
    | .tuple ys => Tr.ofO ((rngD ys).map .list)
    | _ => .fail := rfl
theorem e_sl (a lo hi : E) : ev F (.sl a lo hi) env = (ev F a env).bind fun x => (ev F lo env).bind fun y => match partD y with
    | some p => (ev F hi env).bind fun z => Tr.ofO ((partD z).bind fun q => sl1 x p q)
    | none => .fail := rfl
theorem e_comp (elt : E) (tg : Tg) (it cnd : E) : ev F (.comp elt tg it cnd) env = (ev F it env).bind fun x => match walkD x with
    | some xs => cond (lenOk xs) ((turnsC (fun x => kStep (ev F elt) (ev F cnd) tg env x) xs).bind fun ys => .ret (.list ys)) .fail
    | none => .fail := rfl
theorem d_add (a b : Int) : opD .add (.int a) (.int b) = some (.int (a + b)) := rfl
theorem d_sub (a b : Int) : opD .sub (.int a) (.int b) = some (.int (a - b)) := rfl
theorem d_min (a b : Int) : biD .min2 [.int a, .int b] = some (.int (minI a b)) := rfl
theorem d_max (a b : Int) : biD .max2 [.int a, .int b] = some (.int (maxI a b)) := rfl
theorem d_list (xs : List PyData) : biD .list [.list xs] = some (.list xs) := rfl
theorem d_list' (xs : List PyData) : biD .list [.tuple xs] = some (.list xs) := rfl
theorem d_tup (xs : List PyData) : biD .tuple [.list xs] = some (.tuple xs) := rfl
theorem d_tup' (xs : List PyData) : biD .tuple [.tuple xs] = some (.tuple xs) := rfl
theorem d_len (xs : List PyData) : biD .len [.list xs] = some (.int xs.length) := rfl
theorem d_len' (xs : List PyData) : biD .len [.tuple xs] = some (.int xs.length) := rfl
theorem l0 : lenOk ([] : List PyData) = true := rfl
theorem l1 (a : PyData) : lenOk [a] = true := rfl
theorem l2 (a b : PyData) : lenOk [a, b] = true := rfl
theorem l3 (a b c : PyData) : lenOk [a, b, c] = true := rfl
theorem walk_l (xs : List PyData) : walkD (.list xs) = some xs := rfl
theorem walk_t (xs : List PyData) : walkD (.tuple xs) = some xs := rfl
theorem c_lt (a b : Int) : cmD .lt (.int a) (.int b) = some (iltB a b) := rfl
theorem c_gt (a b : Int) : cmD .gt (.int a) (.int b) = some (iltB b a) := rfl
theorem part_n : partD .none = some none := rfl
theorem part_i (i : Int) : partD (.int i) = some (some i) := rfl
theorem loopF_nil {asg : PyData → Env → Option Env} {b : Env → Tr Out} : loopF asg b [] env = .ret (.nx env) := rfl
theorem loopF_cons {asg : PyData → Env → Option Env} {b : Env → Tr Out} {x : PyData} {xs : List PyData} {e e' : Env} (h1 : asg x env = some e) (h2 : b e = .ret (.nx e')) : loopF asg b (x :: xs) env = loopF asg b xs e' := by
  show (match asg x env with
    | none => Tr.fail
    | some env => (b env).bind fun o => match o with
      | .nx e => loopF asg b xs e
      | .ct e => loopF asg b xs e
      | .bk e => .ret (.nx e)
      | .rt d => .ret (.rt d)) = _
  rw [h1]
  show (b e).bind _ = _
  rw [h2]
  rfl
theorem loopF_inv {asg : PyData → Env → Option Env} {b : Env → Tr Out} (Inv : List PyData → Env → Prop) (step : ∀ x rest env, Inv (x :: rest) env → ∃ e e', asg x env = some e ∧ b e = .ret (.nx e') ∧ Inv rest e') :
    ∀ (xs : List PyData) (env : Env), Inv xs env → ∃ e', loopF asg b xs env = .ret (.nx e') ∧ Inv [] e'
  | [], env, h => ⟨env, rfl, h⟩
  | x :: xs, env, h => by
    obtain ⟨e, e', h1, h2, h3⟩ := step x xs env h
    obtain ⟨e2, h4, h5⟩ := loopF_inv Inv step xs e' h3
    exact ⟨e2, (loopF_cons h1 h2).trans h4, h5⟩
theorem turnsC_map {step : PyData → Tr (Option PyData)} (g : PyData → Option PyData) : ∀ (xs : List PyData), (∀ x ∈ xs, step x = .ret (g x)) → turnsC step xs = .ret (xs.filterMap g)
  | [], _ => rfl
  | x :: xs, h => by
    show (step x).bind _ = _
    rw [h x List.mem_cons_self]
    show (turnsC step xs).bind _ = _
    rw [turnsC_map g xs fun y hy => h y (List.mem_cons_of_mem _ hy), List.filterMap_cons]
    cases g x <;> rfl
/-- a comprehension whose turns draw -/
theorem turnsC_AL {step : PyData → Tr (Option PyData)} (P : PyData → Prop) : ∀ (xs : List PyData), (∀ x ∈ xs, AL (step x) fun r => ∃ y, r = some y ∧ P y) → AL (turnsC step xs) fun ys => ys.length = xs.length ∧ ∀ y ∈ ys, P y
  | [], _ => ⟨⟨rfl, fun y h => nomatch h⟩⟩
  | x :: xs, h => by
    have h1 := h x List.mem_cons_self
    have h2 := turnsC_AL P xs fun y hy => h y (List.mem_cons_of_mem _ hy)
    refine ⟨(AL_bind (t := step x) (f := fun r => (turnsC step xs).bind fun ys => .ret (match r with | some y => y :: ys | none => ys)) (AL_mono h1 fun r hr => AL_bind (AL_mono h2 fun ys hys => ?_))).all⟩
    obtain ⟨y, rfl, py⟩ := hr
    refine ⟨⟨?_, fun z hz => ?_⟩⟩
    · show ys.length + 1 = xs.length + 1; rw [hys.1]
    · rcases List.mem_cons.mp hz with e | e
      · rw [e]; exact py
      · exact hys.2 z e
def intsD (xs : List Int) : List PyData := xs.map .int
abbrev tupI (xs : List Int) : PyData := .tuple (intsD xs)
theorem intsD_len (xs : List Int) : (intsD xs).length = xs.length := List.length_map ..
theorem place_nat {n i : Nat} (h : i < n) : place n (.ofNat i) = some i := by
  show cond (Nat.blt i n) (some i) none = _
  rw [(Nat.blt_eq).mpr h]; rfl
theorem intsD_at {xs : List Int} {i : Nat} (h : i < xs.length) : (intsD xs)[i]? = some (.int (xs.getD i 0)) := by
  unfold intsD
  rw [List.getElem?_map, List.getD_eq_getElem?_getD, List.getElem?_eq_getElem h]; rfl
theorem ix_lst {xs : List Int} {k : Int} {i : Nat} (e : k = .ofNat i) (h : i < xs.length) : ixD (.list (intsD xs)) (.int k) = some (.int (xs.getD i 0)) := by
  subst e
  show (place (intsD xs).length (.ofNat i)).bind (fun j => (intsD xs)[j]?) = _
  rw [intsD_len, place_nat h]
  exact intsD_at h
theorem ix_tup' {xs : List Int} {k : Int} {i : Nat} (e : k = .ofNat i) (h : i < xs.length) : ixD (tupI xs) (.int k) = some (.int (xs.getD i 0)) := by
  subst e
  show (place (intsD xs).length (.ofNat i)).bind (fun j => (intsD xs)[j]?) = _
  rw [intsD_len, place_nat h]
  exact intsD_at h
theorem put_lst {xs : List Int} {k v : Int} {i : Nat} (e : k = .ofNat i) (h : i < xs.length) : putL (intsD xs) (.int k) (.int v) = some (intsD (xs.set i v)) := by
  subst e
  show (place (intsD xs).length (.ofNat i)).map (fun j => (intsD xs).set j (.int v)) = _
  rw [intsD_len, place_nat h]
  unfold intsD
  rw [List.map_set]; rfl
def idxD (lo n : Nat) : List PyData := (List.range' lo n).map fun k => .int (.ofNat k)
theorem upI_nat : ∀ (n lo : Nat), upI 1 n (.ofNat lo) = idxD lo n
  | 0, _ => rfl
  | n + 1, lo => by
    show PyData.int (.ofNat lo) :: upI 1 n (.ofNat (lo + 1)) = _
    rw [upI_nat n (lo + 1)]
    unfold idxD
    rw [List.range'_succ, List.map_cons]
theorem small_nat {n : Nat} (h : n ≤ 1000) : small62 (.ofNat n) = true := by
  show (true && Nat.blt n 4611686018427387904) = true
  rw [Bool.true_and, Nat.blt_eq]; omega
theorem lim_nat {n : Nat} (h : n ≤ 1000) : Nat.ble n lim = true := by
  rw [Nat.ble_eq]; unfold lim; omega
theorem blt_lim {n : Nat} (h : n ≤ 1000) : Nat.blt n lim = true := by
  rw [Nat.blt_eq]; unfold lim; omega
theorem rng1 {n : Nat} (h : n ≤ 1000) : rngD [.int (.ofNat n)] = some (idxD 0 n) := by
  show cond (small62 (.ofNat n) && Nat.ble n lim) (some (upI 1 n (.ofNat 0))) none = _
  rw [small_nat h, lim_nat h, upI_nat]; rfl
theorem rng2 {a b : Nat} (h : b ≤ 1000) (ha : a ≤ 1000) : rngD [.int (.ofNat a), .int (.ofNat b)] = some (idxD a (b - a)) := by
  have e : ((Int.ofNat b) - (.ofNat a)).toNat = b - a := by show ((b : Int) - (a : Int)).toNat = _; omega
  show cond (small62 (.ofNat a) && small62 (.ofNat b) && Nat.ble ((Int.ofNat b) - (.ofNat a)).toNat lim) (some (upI 1 ((Int.ofNat b) - (.ofNat a)).toNat (.ofNat a))) none = _
  rw [e, small_nat h, small_nat ha, lim_nat (by omega), upI_nat]; rfl
theorem idxD_nil (lo : Nat) : idxD lo 0 = [] := rfl
theorem idxD_cons (lo n : Nat) : idxD lo (n + 1) = .int (.ofNat lo) :: idxD (lo + 1) n := by
  unfold idxD
  rw [List.range'_succ, List.map_cons]
theorem clip_nat {n d k : Nat} (h : k ≤ n) : clip n d (some (.ofNat k)) = k := by
  show cond (Nat.ble k n) k n = k
  rw [(Nat.ble_eq).mpr h]; rfl
theorem cut_from {xs : List α} {k : Nat} (h : k ≤ xs.length) : cut xs (some (.ofNat k)) none = xs.drop k := by
  show (xs.drop (clip xs.length 0 (some (.ofNat k)))).take (xs.length - clip xs.length 0 (some (.ofNat k))) = _
  rw [clip_nat h]
  exact List.take_of_length_le (by rw [List.length_drop]; omega)
theorem cut_to {xs : List α} {k : Nat} (h : k ≤ xs.length) : cut xs none (some (.ofNat k)) = xs.take k := by
  show (xs.drop 0).take (clip xs.length xs.length (some (.ofNat k)) - 0) = _
  rw [clip_nat h]; rfl
theorem cut_mid {xs : List α} {i k : Nat} (h : k ≤ xs.length) (hi : i ≤ xs.length) : cut xs (some (.ofNat i)) (some (.ofNat k)) = (xs.drop i).take (k - i) := by
  show (xs.drop (clip xs.length 0 (some (.ofNat i)))).take (clip xs.length xs.length (some (.ofNat k)) - clip xs.length 0 (some (.ofNat i))) = _
  rw [clip_nat h, clip_nat hi]
theorem intsD_drop (xs : List Int) (k : Nat) : (intsD xs).drop k = intsD (xs.drop k) := List.map_drop.symm
theorem intsD_take (xs : List Int) (k : Nat) : (intsD xs).take k = intsD (xs.take k) := List.map_take.symm
theorem intsD_app (xs ys : List Int) : intsD xs ++ intsD ys = intsD (xs ++ ys) := (List.map_append ..).symm
theorem intsD_inj {xs ys : List Int} (h : intsD xs = intsD ys) : xs = ys := by
  induction xs generalizing ys with
  | nil => cases ys with
    | nil => rfl
    | cons _ _ => exact nomatch h
  | cons x xs ih => cases ys with
    | nil => exact nomatch h
    | cons y ys =>
      injection h with h1 h2
      injection h1 with h1
      rw [h1, ih h2]
theorem sl_t (xs : List PyData) (a b : Option Int) : sl1 (.tuple xs) a b = some (.tuple (cut xs a b)) := rfl
theorem sl_l (xs : List PyData) (a b : Option Int) : sl1 (.list xs) a b = some (.list (cut xs a b)) := rfl
theorem lenOk_le {xs : List α} (h : xs.length ≤ 1000) : lenOk xs = true := lim_nat h
theorem add_one (k : Nat) : (Int.ofNat k) + 1 = .ofNat (k + 1) := rfl
theorem kst (elt cnd : Sm) (tg : Tg) (env : Env) (x : PyData) {e : Env} (h : assign tg x (wipeE (slotsT tg) env) = some e) : kStep elt cnd tg env x = (cnd e).bind fun t => match t with
          | .bool true => (elt e).bind fun d => .ret (some d)
          | .bool false => .ret none
          | _ => .fail := by
  unfold kStep
  rw [h] <;> rfl
theorem asInts_ints : ∀ xs : List Int, asInts (intsD xs) = some xs
  | [] => rfl
  | x :: xs => by
    show (asInts (intsD xs)).map (x :: ·) = _
    rw [asInts_ints xs]; rfl
end Ev

/-! EvAL -/
set_option maxHeartbeats 2000000
namespace Ev
open PySem
noncomputable section
theorem bind_d {α β : Type} (n : Nat) (k : Nat → Tr α) (f : α → Tr β) : (Tr.draw n k).bind f = .draw n fun r => (k r).bind f := rfl
theorem AL_draw {α : Type} {n : Nat} {k : Nat → Tr α} {P : α → Prop} (h : ∀ r, r < n → AL (k r) P) : AL (.draw n k) P := ⟨fun r hr => (h r hr).all⟩
theorem AL_pure {α : Type} {a : α} {P : α → Prop} (h : P a) : AL (.ret a) P := ⟨h⟩
variable {F : Nat → Bool → List PyData → Tr PyData} {fuel : Nat} {env : Env}
def headS : S → S
  | .seq a _ => a
  | s => s
/-- the k-th statement, then the rest -/
theorem AL_seq {s a b : S} {P : Out → Prop} (h : s = .seq a b) (h1 : AL (ex F fuel a env) (OutK (fun e => AL (ex F fuel b e) P) P)) : AL (ex F fuel s env) P := by
  subst h
  rw [ex_seq]
  refine AL_bind (AL_mono h1 fun o ho => ?_)
  cases o with
  | nx e => exact ho
  | rt d => exact ⟨ho⟩
  | bk e => exact ⟨ho⟩
  | ct e => exact ⟨ho⟩
theorem AL_step {s a b : S} {e' : Env} {P : Out → Prop} (h : s = .seq a b) (h1 : ex F fuel a env = .ret (.nx e')) (h2 : AL (ex F fuel b e') P) : AL (ex F fuel s env) P :=
  AL_seq h (AL_ret h1 (OutK_nx h2))
theorem AL_set {s b : S} {i : Nat} {e : E} {P : Out → Prop} {R : PyData → Prop} (h : s = .seq (.set i e) b) (h1 : AL (ev F e env) R) (h2 : ∀ d, R d → AL (ex F fuel b (setE i (.v d) env)) P) : AL (ex F fuel s env) P := by
  refine AL_seq h ?_
  show AL ((ev F e env).bind fun d => Tr.ret (Out.nx (setE i (.v d) env))) _
  exact AL_bind (AL_mono h1 fun d hd => AL_pure (OutK_nx (h2 d hd)))
theorem comp_AL {elt : E} {tg : Tg} {it cnd : E} (P : PyData → Prop) (Q : List PyData → Prop) (hit : AL (ev F it env) fun v => ∃ xs, walkD v = some xs ∧ xs.length ≤ 1000 ∧ Q xs)
    (hstep : ∀ xs, Q xs → ∀ x ∈ xs, AL (kStep (ev F elt) (ev F cnd) tg env x) fun r => ∃ y, r = some y ∧ P y) : AL (ev F (.comp elt tg it cnd) env) fun v => ∃ ys xs, v = .list ys ∧ Q xs ∧ ys.length = xs.length ∧ xs.length ≤ 1000 ∧ ∀ y ∈ ys, P y := by
  rw [e_comp]
  refine AL_bind (AL_mono hit fun v ⟨xs, h1, h2, h3⟩ => ?_)
  rw [h1]
  show AL (cond (lenOk xs) ((turnsC (fun x => kStep (ev F elt) (ev F cnd) tg env x) xs).bind fun ys => Tr.ret (PyData.list ys)) .fail) _
  rw [lenOk_le h2]
  show AL ((turnsC (fun x => kStep (ev F elt) (ev F cnd) tg env x) xs).bind fun ys => Tr.ret (PyData.list ys)) _
  exact AL_bind (AL_mono (turnsC_AL P xs (hstep xs h3)) fun ys h4 => AL_pure ⟨ys, xs, rfl, h3, h4.1, h2, h4.2⟩)
theorem tupc_AL {c : E} {R : List PyData → Prop} (h : AL (ev F c env) fun v => ∃ ys, v = .list ys ∧ R ys) : AL (ev F (.bi .tuple (.cons c .nil)) env) fun v => ∃ ys, v = .tuple ys ∧ R ys := by
  rw [e_bi, e_cons]
  refine AL_bind (AL_bind (AL_mono h fun v ⟨ys, h1, h2⟩ => ?_))
  subst h1
  exact AL_pure (AL_pure ⟨ys, rfl, h2⟩)
theorem step_AL {elt : E} {tg : Tg} {x : PyData} {e : Env} {P : PyData → Prop} (h : assign tg x (wipeE (slotsT tg) env) = some e) (h1 : AL (ev F elt e) P) : AL (kStep (ev F elt) (ev F .yes) tg env x) fun r => ∃ y, r = some y ∧ P y := by
  rw [kst _ _ _ _ _ h]
  show AL ((ev F elt e).bind fun d => Tr.ret (some d)) _
  exact AL_bind (AL_mono h1 fun d hd => AL_pure ⟨d, rfl, hd⟩)
theorem draw_AL {i : Nat} {e : E} {n : Nat} (hp : getE i env = .pool) (he : ev F e env = .ret (.int (.ofNat n))) (h0 : 0 < n) (h1 : n ≤ 1000) : ev F (.draw i e) env = .draw n fun r => .ret (.int (.ofNat r)) := by
  show (match getE i env with
    | .pool => (ev F e env).bind fun y => match y with
      | .int (.ofNat n) => cond (Nat.blt 0 n && Nat.blt n 1073741824) (Tr.draw n fun r => Tr.ret (PyData.int (.ofNat r))) Tr.fail
      | _ => Tr.fail
    | _ => Tr.fail) = _
  rw [hp, he]
  show cond (Nat.blt 0 n && Nat.blt n 1073741824) (Tr.draw n fun r => Tr.ret (PyData.int (.ofNat r))) Tr.fail = _
  rw [(Nat.blt_eq).mpr h0, (Nat.blt_eq).mpr (show n < 1073741824 by omega)]; rfl
theorem callp_ev {f i : Nat} {es : E} {ds : List PyData} (hp : getE i env = .pool) (he : ev F es env = .ret (.tuple ds)) : ev F (.callp f i es) env = F f true ds := by
  show (match getE i env with
    | .pool => (ev F es env).bind fun y => match y with
      | .tuple ys => F f true ys
      | _ => .fail
    | _ => .fail) = _
  rw [hp, he]; rfl
end
end Ev

/-! EvTy -/
set_option maxHeartbeats 2000000
namespace Ev
open PySem L2
noncomputable section
variable {α β γ δ σ ρ τ : Type}
def mapT (e : α → β) (t : Tr α) : Tr β := t.bind fun a => .ret (e a)
theorem mapT_bind (e : α → β) (t : Tr α) (k : β → Tr γ) : (mapT e t).bind k = t.bind fun a => k (e a) := by
  unfold mapT
  rw [Tr.bind_assoc]; rfl
theorem mapT_of (e : β → γ) (t : Tr α) (k : α → Tr β) : mapT e (t.bind k) = t.bind fun a => mapT e (k a) := by
  unfold mapT
  rw [Tr.bind_assoc]
theorem mapT_map (e : β → γ) (f : α → β) (t : Tr α) : mapT e (mapT f t) = mapT (fun a => e (f a)) t := by
  unfold mapT
  rw [Tr.bind_assoc]; rfl
theorem mapT_cond (e : α → β) (c : Bool) (t u : Tr α) : mapT e (cond c t u) = cond c (mapT e t) (mapT e u) := by cases c <;> rfl
theorem bind_cond (c : Bool) (t u : Tr α) (k : α → Tr β) : (cond c t u).bind k = cond c (t.bind k) (u.bind k) := by cases c <;> rfl
def grd (b : Bool) (t : Tr α) : Tr α := cond b t .fail
theorem grd_t {b : Bool} (t : Tr α) (h : b = true) : grd b t = t := by rw [h]; rfl
theorem mapT_grd (e : α → β) (b : Bool) (t : Tr α) : mapT e (grd b t) = grd b (mapT e t) := mapT_cond e b t .fail
def eD (d : PyData) : PyData := d
def eT (e : α → PyData) (xs : List α) : PyData := .tuple (xs.map e)
def eL (e : α → PyData) (xs : List α) : PyData := .list (xs.map e)
def eP (e : α → PyData) (f : β → PyData) (p : α × β) : PyData := .tuple [e p.1, f p.2]
def eQ (e : α → PyData) (f : β → PyData) (g : γ → PyData) (p : α × β × γ) : PyData := .tuple [e p.1, f p.2.1, g p.2.2]
def eO (e : α → PyData) : Option α → PyData
  | none => .none
  | some a => e a
def eS (s : List Nat) : PyData := .str ⟨s.toArray⟩
def eKV (e : α → PyData) (f : β → PyData) (p : α × β) : PyData × PyData := (e p.1, f p.2)
def eM (e : α → PyData) (f : β → PyData) (xs : List (α × β)) : PyData := .dict (xs.map (eKV e f))
/-- flat data -/
def Flat (n : Nat) (e : α → PyData) : Prop := ∀ x m, n ≤ m → flat m (e x) = true
theorem flatAll_map {n : Nat} {e : α → PyData} (h : Flat n e) (m : Nat) (hm : n ≤ m) : ∀ xs : List α, flatAll m (xs.map e) = true
  | [] => rfl
  | x :: xs => by
    show cond (flat m (e x)) (flatAll m (xs.map e)) false = true
    rw [h x m hm, flatAll_map h m hm xs]; rfl
theorem fl_int : Flat 0 PyData.int := fun _ m _ => by cases m <;> rfl
theorem fl_bool : Flat 0 PyData.bool := fun _ m _ => by cases m <;> rfl
theorem fl_str : Flat 0 eS := fun _ m _ => by cases m <;> rfl
theorem fl_T {n : Nat} {e : α → PyData} (h : Flat n e) : Flat (n + 1) (eT e) := fun xs m hm => match m, hm with
  | m + 1, hm => flatAll_map h m (Nat.le_of_succ_le_succ hm) xs
theorem fl_L {n : Nat} {e : α → PyData} (h : Flat n e) : Flat (n + 1) (eL e) := fun xs m hm => match m, hm with
  | m + 1, hm => flatAll_map h m (Nat.le_of_succ_le_succ hm) xs
theorem fl_P {n k : Nat} {e : α → PyData} {f : β → PyData} (h : Flat n e) (h' : Flat k f) : Flat (max n k + 1) (eP e f) := fun p m hm => match m, hm with
  | m + 1, hm => by
    show cond (flat m (e p.1)) (cond (flat m (f p.2)) true false) false = true
    rw [h _ m (by omega), h' _ m (by omega)]; rfl
theorem fl_Q {n k l : Nat} {e : α → PyData} {f : β → PyData} {g : γ → PyData} (h : Flat n e) (h' : Flat k f) (h'' : Flat l g) : Flat (max n (max k l) + 1) (eQ e f g) := fun p m hm => match m, hm with
  | m + 1, hm => by
    show cond (flat m (e p.1)) (cond (flat m (f p.2.1)) (cond (flat m (g p.2.2)) true false) false) false = true
    rw [h _ m (by omega), h' _ m (by omega), h'' _ m (by omega)]; rfl
theorem fl_O {n : Nat} {e : α → PyData} (h : Flat n e) : Flat n (eO e) := fun p m hm => match p with
  | none => by cases m <;> rfl
  | some a => h a m hm
def EqOk (e : α → PyData) (f : β → PyData) (q : α → β → Bool) : Prop := ∀ x y, eqv (e x) (f y) = q x y
def eqL (q : α → β → Bool) : List α → List β → Bool
  | [], [] => true
  | x :: xs, y :: ys => cond (q x y) (eqL q xs ys) false
  | [], _ :: _ => false
  | _ :: _, [] => false
def eqPr (q : α → β → Bool) (r : γ → δ → Bool) (x : α × γ) (y : β × δ) : Bool := cond (q x.1 y.1) (r x.2 y.2) false
def eqOp (q : α → β → Bool) : Option α → Option β → Bool
  | none, none => true
  | some x, some y => q x y
  | _, _ => false
theorem eqvAll_map {e : α → PyData} {f : β → PyData} {q : α → β → Bool} (h : EqOk e f q) : ∀ (xs : List α) (ys : List β), eqvAll (xs.map e) (ys.map f) = eqL q xs ys
  | [], [] => rfl
  | [], _ :: _ => rfl
  | _ :: _, [] => rfl
  | x :: xs, y :: ys => by
    show cond (eqv (e x) (f y)) (eqvAll (xs.map e) (ys.map f)) false = cond (q x y) (eqL q xs ys) false
    rw [h, eqvAll_map h xs ys]
theorem eq_int : EqOk PyData.int PyData.int ieqB := fun _ _ => rfl
theorem eq_bool : EqOk PyData.bool PyData.bool (fun a b => cond a b (!b)) := fun _ _ => rfl
theorem eq_str : EqOk eS eS natsEq := fun _ _ => rfl
theorem eq_D : EqOk eD eD eqv := fun _ _ => rfl
theorem eq_any (e : α → PyData) (f : β → PyData) : EqOk e f (fun x y => eqv (e x) (f y)) := fun _ _ => rfl
theorem eq_T {e : α → PyData} {f : β → PyData} {q : α → β → Bool} (h : EqOk e f q) : EqOk (eT e) (eT f) (eqL q) := fun xs ys => eqvAll_map h xs ys
theorem eq_L {e : α → PyData} {f : β → PyData} {q : α → β → Bool} (h : EqOk e f q) : EqOk (eL e) (eL f) (eqL q) := fun xs ys => eqvAll_map h xs ys
theorem eq_P {e : α → PyData} {f : β → PyData} {e' : γ → PyData} {f' : δ → PyData} {q : α → β → Bool} {r : γ → δ → Bool} (h : EqOk e f q) (h' : EqOk e' f' r) : EqOk (eP e e') (eP f f') (eqPr q r) := fun x y => by
  show cond (eqv (e x.1) (f y.1)) (cond (eqv (e' x.2) (f' y.2)) true false) false = cond (q x.1 y.1) (r x.2 y.2) false
  rw [h, h']
  cases q x.1 y.1 <;> cases r x.2 y.2 <;> rfl
def LtOk (e : α → PyData) (q : α → α → Bool) : Prop := ∀ x y, ltD (e x) (e y) = q x y
theorem lt_int : LtOk PyData.int iltB := fun _ _ => rfl
theorem lt_any (e : α → PyData) : LtOk e (fun x y => ltD (e x) (e y)) := fun _ _ => rfl
def insY (lt : α → α → Bool) (x : α) : List α → List α
  | [] => [x]
  | y :: ys => cond (lt y x) (y :: insY lt x ys) (x :: y :: ys)
def sortY (lt : α → α → Bool) : List α → List α
  | [] => []
  | x :: xs => insY lt x (sortY lt xs)
def insRY (lt : α → α → Bool) (x : α) : List α → List α
  | [] => [x]
  | y :: ys => cond (lt x y) (y :: insRY lt x ys) (x :: y :: ys)
def sortRY (lt : α → α → Bool) : List α → List α
  | [] => []
  | x :: xs => insRY lt x (sortRY lt xs)
def minY (lt : α → α → Bool) (x : α) : List α → α
  | [] => x
  | y :: ys => minY lt (cond (lt y x) y x) ys
def maxY (lt : α → α → Bool) (x : α) : List α → α
  | [] => x
  | y :: ys => maxY lt (cond (lt x y) y x) ys
section
variable {e : α → PyData} {lt : α → α → Bool}
theorem ins_map (h : LtOk e lt) (x : α) : ∀ ys : List α, ins (e x) (ys.map e) = (insY lt x ys).map e
  | [] => rfl
  | y :: ys => by
    show cond (ltD (e y) (e x)) (e y :: ins (e x) (ys.map e)) (e x :: e y :: ys.map e) = _
    rw [h, ins_map h x ys]
    show _ = (cond (lt y x) (y :: insY lt x ys) (x :: y :: ys)).map e
    cases lt y x <;> rfl
theorem sort_map (h : LtOk e lt) : ∀ xs : List α, sortD (xs.map e) = (sortY lt xs).map e
  | [] => rfl
  | x :: xs => by
    show ins (e x) (sortD (xs.map e)) = _
    rw [sort_map h xs, ins_map h]; rfl
theorem insR_map (h : LtOk e lt) (x : α) : ∀ ys : List α, insR (e x) (ys.map e) = (insRY lt x ys).map e
  | [] => rfl
  | y :: ys => by
    show cond (ltD (e x) (e y)) (e y :: insR (e x) (ys.map e)) (e x :: e y :: ys.map e) = _
    rw [h, insR_map h x ys]
    show _ = (cond (lt x y) (y :: insRY lt x ys) (x :: y :: ys)).map e
    cases lt x y <;> rfl
theorem sortR_map (h : LtOk e lt) : ∀ xs : List α, sortR (xs.map e) = (sortRY lt xs).map e
  | [] => rfl
  | x :: xs => by
    show insR (e x) (sortR (xs.map e)) = _
    rw [sortR_map h xs, insR_map h]; rfl
theorem min_map (h : LtOk e lt) : ∀ (xs : List α) (x : α), minL (e x) (xs.map e) = e (minY lt x xs)
  | [], _ => rfl
  | y :: ys, x => by
    show minL (cond (ltD (e y) (e x)) (e y) (e x)) (ys.map e) = e (minY lt (cond (lt y x) y x) ys)
    rw [h, ← min_map h ys]
    cases lt y x <;> rfl
theorem max_map (h : LtOk e lt) : ∀ (xs : List α) (x : α), maxL (e x) (xs.map e) = e (maxY lt x xs)
  | [], _ => rfl
  | y :: ys, x => by
    show maxL (cond (ltD (e x) (e y)) (e y) (e x)) (ys.map e) = e (maxY lt (cond (lt x y) y x) ys)
    rw [h, ← max_map h ys]
    cases lt x y <;> rfl
end
/-- what may be sorted -/
def SrtOk (e : α → PyData) (q : List α → Bool) : Prop := ∀ xs, canSort (xs.map e) = q xs
theorem srt_any (e : α → PyData) : SrtOk e (fun xs => canSort (xs.map e)) := fun _ => rfl
theorem lenOk_map (e : α → β) (xs : List α) : lenOk (xs.map e) = lenOk xs := by
  unfold lenOk
  rw [List.length_map]
theorem srt_int : SrtOk PyData.int lenOk := fun xs => by
  have a : alikeB (xs.map PyData.int) = true := by
    cases xs with
    | nil => rfl
    | cons x xs =>
      show (alikeTo (PyData.int x) ((x :: xs).map PyData.int) && alikeB (xs.map PyData.int)) = true
      have t : ∀ (y : Int) (ys : List Int), alikeTo (PyData.int y) (ys.map PyData.int) = true := fun y ys => by
        unfold alikeTo
        rw [List.all_eq_true]
        intro z hz
        obtain ⟨w, _, rfl⟩ := List.mem_map.mp hz
        rfl
      have b : ∀ ys : List Int, alikeB (ys.map PyData.int) = true := fun ys => by
        induction ys with
        | nil => rfl
        | cons y ys ih =>
          show (alikeTo (PyData.int y) ((y :: ys).map PyData.int) && alikeB (ys.map PyData.int)) = true
          rw [t, ih]; rfl
      rw [t, b]; rfl
  have s : sortable (xs.map PyData.int) = true := by
    unfold sortable
    rw [Bool.or_eq_true]
    refine .inr ?_
    rw [List.all_eq_true]
    intro z hz
    obtain ⟨w, _, rfl⟩ := List.mem_map.mp hz
    rfl
  unfold canSort
  rw [a, s, flatAll_map fl_int _ (Nat.zero_le _), lenOk_map]; rfl
theorem ixM {e : α → PyData} (xs : List α) (i : Int) : ((place (xs.map e).length i).bind fun j => (xs.map e)[j]?) = ((place xs.length i).bind fun j => xs[j]?).map e := by
  rw [List.length_map]
  cases place xs.length i with
  | none => rfl
  | some j => show (xs.map e)[j]? = _; rw [List.getElem?_map]; rfl
def ixT (xs : List α) (i : Int) : Tr α := Tr.ofO ((place xs.length i).bind fun j => xs[j]?)
theorem ofO_map (e : α → β) (o : Option α) : Tr.ofO (o.map e) = mapT e (Tr.ofO o) := by cases o <;> rfl
def appT (xs ys : List α) : Tr (List α) := grd (lenOk (xs ++ ys)) (.ret (xs ++ ys))
theorem lenOk_app (e : α → β) (xs ys : List α) : lenOk (xs.map e ++ ys.map e) = lenOk (xs ++ ys) := by
  rw [← List.map_append, lenOk_map]
theorem cut_map (e : α → β) (xs : List α) (a b : Option Int) : cut (xs.map e) a b = (cut xs a b).map e := by
  unfold cut
  rw [List.length_map, List.map_take, List.map_drop]
def memY (q : α → β → Bool) (x : β) : List α → Bool
  | [] => false
  | y :: ys => cond (q y x) true (memY q x ys)
theorem mem_map {e : α → PyData} {f : β → PyData} {q : α → β → Bool} (h : EqOk e f q) (x : β) : ∀ xs : List α, memD (f x) (xs.map e) = memY q x xs
  | [] => rfl
  | y :: ys => by
    show cond (eqv (e y) (f x)) true (memD (f x) (ys.map e)) = cond (q y x) true (memY q x ys)
    rw [h, mem_map h x ys]
def indexY (q : α → β → Bool) (x : β) : List α → Nat → Option Nat
  | [], _ => none
  | y :: ys, k => cond (q y x) (some k) (indexY q x ys (k + 1))
theorem index_map {e : α → PyData} {f : β → PyData} {q : α → β → Bool} (h : EqOk e f q) (x : β) : ∀ (xs : List α) (k : Nat), indexD (f x) (xs.map e) k = indexY q x xs k
  | [], _ => rfl
  | y :: ys, k => by
    show cond (eqv (e y) (f x)) (some k) (indexD (f x) (ys.map e) (k + 1)) = cond (q y x) (some k) (indexY q x ys (k + 1))
    rw [h, index_map h x ys]
def countY (q : α → β → Bool) (x : β) : List α → Nat
  | [] => 0
  | y :: ys => cond (q y x) (countY q x ys + 1) (countY q x ys)
theorem count_map {e : α → PyData} {f : β → PyData} {q : α → β → Bool} (h : EqOk e f q) (x : β) : ∀ xs : List α, countD (f x) (xs.map e) = countY q x xs
  | [] => rfl
  | y :: ys => by
    show cond (eqv (e y) (f x)) (countD (f x) (ys.map e) + 1) (countD (f x) (ys.map e)) = cond (q y x) (countY q x ys + 1) (countY q x ys)
    rw [h, count_map h x ys]
def repY (xs : List α) : Nat → List α
  | 0 => []
  | n + 1 => xs ++ repY xs n
theorem rep_map (e : α → PyData) (xs : List α) : ∀ n, repN (xs.map e) n = (repY xs n).map e
  | 0 => rfl
  | n + 1 => by
    show xs.map e ++ repN (xs.map e) n = (xs ++ repY xs n).map e
    rw [rep_map e xs n, List.map_append]
def upN (c : Int) : Nat → Int → List Int
  | 0, _ => []
  | n + 1, lo => lo :: upN c n (lo + c)
theorem up_map (c : Int) : ∀ (n : Nat) (lo : Int), upI c n lo = (upN c n lo).map .int
  | 0, _ => rfl
  | n + 1, lo => by
    show PyData.int lo :: upI c n (lo + c) = _
    rw [up_map c n]; rfl
def rng1T (n : Int) : Tr (List Int) := grd (small62 n && Nat.ble n.toNat lim) (.ret (upN 1 n.toNat 0))
def rng2T (a b : Int) : Tr (List Int) := grd (small62 a && small62 b && Nat.ble (b - a).toNat lim) (.ret (upN 1 (b - a).toNat a))
def rng3T (a b c : Int) : Tr (List Int) := grd (Builtin.Range.small a b c && !ieqB c 0 && iltB (-1000000) c && iltB c 1000000 && ileB 0 (Builtin.Range.rangeSize a b c) && Nat.ble (Builtin.Range.rangeSize a b c).toNat lim) (.ret (upN c (Builtin.Range.rangeSize a b c).toNat a))
theorem asInts_map : ∀ xs : List Int, asInts (xs.map .int) = some xs
  | [] => rfl
  | x :: xs => by
    show (asInts (xs.map .int)).map (x :: ·) = _
    rw [asInts_map xs]; rfl
theorem asBools_map : ∀ xs : List Bool, asBools (xs.map .bool) = some xs
  | [] => rfl
  | x :: xs => by
    show (asBools (xs.map .bool)).map (x :: ·) = _
    rw [asBools_map xs]; rfl
def lookY (q : α → β → Bool) (k : β) : List (α × γ) → Option γ
  | [] => none
  | p :: r => cond (q p.1 k) (some p.2) (lookY q k r)
theorem look_map {e : α → PyData} {f : γ → PyData} {q : α → α → Bool} (h : EqOk e e q) (k : α) : ∀ kvs : List (α × γ), lookD (e k) (kvs.map (eKV e f)) = (lookY q k kvs).map f
  | [] => rfl
  | p :: r => by
    show cond (eqv (e p.1) (e k)) (some (f p.2)) (lookD (e k) (r.map (eKV e f))) = (cond (q p.1 k) (some p.2) (lookY q k r)).map f
    rw [h, look_map h k r]
    cases q p.1 k <;> rfl
def putY (q : α → α → Bool) (k : α) (v : γ) : List (α × γ) → List (α × γ)
  | [] => [(k, v)]
  | p :: r => cond (q p.1 k) ((p.1, v) :: r) (p :: putY q k v r)
theorem put_map {e : α → PyData} {f : γ → PyData} {q : α → α → Bool} (h : EqOk e e q) (k : α) (v : γ) : ∀ kvs : List (α × γ), putD (e k) (f v) (kvs.map (eKV e f)) = (putY q k v kvs).map (eKV e f)
  | [] => rfl
  | p :: r => by
    show cond (eqv (e p.1) (e k)) ((e p.1, f v) :: r.map (eKV e f)) ((e p.1, f p.2) :: putD (e k) (f v) (r.map (eKV e f))) = (cond (q p.1 k) ((p.1, v) :: r) (p :: putY q k v r)).map (eKV e f)
    rw [h, put_map h k v r]
    cases q p.1 k <;> rfl
def KeyOk (e : α → PyData) : Prop := ∀ k, leafK (e k) = true
theorem key_int : KeyOk PyData.int := fun _ => rfl
theorem key_str : KeyOk eS := fun _ => rfl
end
end Ev

/-! EvTy2 -/
set_option maxHeartbeats 2000000
namespace Ev
open PySem L2
noncomputable section
variable {α β γ δ σ ρ τ : Type} {F : Nat → Bool → List PyData → Tr PyData} {fuel : Nat} {env : Env}
theorem bind_congr {t : Tr α} {f g : α → Tr β} (h : ∀ a, f a = g a) : t.bind f = t.bind g := by rw [show f = g from funext h]
theorem e_callp {f i : Nat} (es : E) (h : getE i env = .pool) : ev F (.callp f i es) env = (ev F es env).bind fun y => match y with
    | .tuple ys => F f true ys
    | _ => .fail := by
  show (match getE i env with
    | .pool => (ev F es env).bind fun y => (match y with
      | .tuple ys => F f true ys
      | _ => .fail)
    | _ => .fail) = _
  rw [h]
theorem t_pure {e : E} {em : α → PyData} {x : α} (h : ev F e env = .ret (em x)) : ev F e env = mapT em (.ret x) := h
theorem t_var {i : Nat} {em : α → PyData} {x : α} (h : getE i env = .v (em x)) : ev F (.var i) env = mapT em (.ret x) := by rw [e_var, h]; rfl
theorem t_rdV {i : Nat} {em : α → PyData} {x : α} (h : getE i env = .v (em x)) : ev F (.rd i) env = mapT em (.ret x) := by rw [e_rd, h]; rfl
theorem t_rdO {i : Nat} {em : α → PyData} {x : α} (h : getE i env = .o (em x)) : ev F (.rd i) env = mapT em (.ret x) := by rw [e_rd, h]; rfl
theorem t_lit {d : PyData} {em : α → PyData} {x : α} (h : d = em x) : ev F (.lit d) env = mapT em (.ret x) := by subst h; rfl
theorem t_glb {k : Nat} {d : PyData} {em : α → PyData} {x : α} (h : d = em x) : ev F (.glb k d) env = mapT em (.ret x) := by subst h; rfl
theorem t_one {a : E} {em : α → PyData} {t : Tr α} (h : ev F a env = mapT em t) : ev F (.one a) env = mapT em t := h
/-- another way to stand as data -/
theorem t_as {e : E} {em : α → PyData} {em' : β → PyData} {t : Tr α} (f : α → β) (hf : ∀ x, em x = em' (f x)) (h : ev F e env = mapT em t) : ev F e env = mapT em' (t.bind fun x => .ret (f x)) := by
  rw [h, mapT_of]
  exact bind_congr fun x => congrArg Tr.ret (hf x)
theorem t_op {o : Op} {a b : E} {ea : α → PyData} {eb : β → PyData} {ec : γ → PyData} {ta : Tr α} {tb : Tr β} {f : α → β → Tr γ} (hf : ∀ x y, Tr.ofO (opD o (ea x) (eb y)) = mapT ec (f x y)) (ha : ev F a env = mapT ea ta) (hb : ev F b env = mapT eb tb) :
    ev F (.op o a b) env = mapT ec (ta.bind fun x => tb.bind fun y => f x y) := by
  rw [e_op, ha, hb, mapT_bind, mapT_of]
  refine bind_congr fun x => ?_
  rw [mapT_bind, mapT_of]
  exact bind_congr fun y => hf x y
def mulT (a b : Int) : Tr Int := grd (fitsB a || fitsB b) (.ret (a * b))
def fdivT (a b : Int) : Tr Int := grd (!ieqB b 0 && iltB (-1073741824) b && iltB b 1073741824) (.ret (a.fdiv b))
def modT (a b : Int) : Tr Int := cond (ieqB b 0) .fail (.ret (a.fmod b))
theorem ofO_cond (e : α → PyData) (c : Bool) (x : α) {d : PyData} (h : d = e x) : Tr.ofO (cond c (some d) none) = mapT e (grd c (.ret x)) := by subst h; cases c <;> rfl
theorem h_addI (x y : Int) : Tr.ofO (opD .add (.int x) (.int y)) = mapT PyData.int (.ret (x + y)) := rfl
theorem h_subI (x y : Int) : Tr.ofO (opD .sub (.int x) (.int y)) = mapT PyData.int (.ret (x - y)) := rfl
theorem h_mulI (x y : Int) : Tr.ofO (opD .mul (.int x) (.int y)) = mapT PyData.int (mulT x y) := ofO_cond PyData.int _ _ rfl
theorem h_fdivI (x y : Int) : Tr.ofO (opD .fdiv (.int x) (.int y)) = mapT PyData.int (fdivT x y) := ofO_cond PyData.int _ _ rfl
theorem h_modI (x y : Int) : Tr.ofO (opD .mod (.int x) (.int y)) = mapT PyData.int (modT x y) := by
  show Tr.ofO (cond (ieqB y 0) none (some (PyData.int (x.fmod y)))) = _
  unfold modT
  cases ieqB y 0 <;> rfl
theorem h_addT {e : α → PyData} (x y : List α) : Tr.ofO (opD .add (eT e x) (eT e y)) = mapT (eT e) (appT x y) := by
  show Tr.ofO (cond (lenOk (x.map e ++ y.map e)) (some (PyData.tuple (x.map e ++ y.map e))) none) = _
  rw [lenOk_app]
  exact ofO_cond (eT e) _ _ (by rw [← List.map_append]; rfl)
theorem h_addL {e : α → PyData} (x y : List α) : Tr.ofO (opD .add (eL e x) (eL e y)) = mapT (eL e) (appT x y) := by
  show Tr.ofO (cond (lenOk (x.map e ++ y.map e)) (some (PyData.list (x.map e ++ y.map e))) none) = _
  rw [lenOk_app]
  exact ofO_cond (eL e) _ _ (by rw [← List.map_append]; rfl)
theorem h_addS (x y : List Nat) : Tr.ofO (opD .add (eS x) (eS y)) = mapT eS (appT x y) := ofO_cond eS _ _ rfl
def repLT (xs : List α) (b : Int) : Tr (List α) := grd (iltB b 1000000 && Nat.ble (xs.length * b.toNat) lim && iltB (-1000000) b) (.ret (repY xs b.toNat))
theorem h_mulL {e : α → PyData} (x : List α) (b : Int) : Tr.ofO (opD .mul (eL e x) (.int b)) = mapT (eL e) (repLT x b) := by
  show Tr.ofO (cond (iltB b 1000000 && Nat.ble ((x.map e).length * b.toNat) lim && iltB (-1000000) b) (some (PyData.list (repN (x.map e) b.toNat))) none) = _
  rw [List.length_map]
  exact ofO_cond (eL e) _ _ (by rw [rep_map]; rfl)
def repTT (xs : List α) (b : Int) : Tr (List α) := grd (ileB (-1000000) b && ileB b 1000 && Nat.ble xs.length 1000) (.ret (repY xs b.toNat))
theorem h_mulT {e : α → PyData} (x : List α) (b : Int) : Tr.ofO (opD .mul (eT e x) (.int b)) = mapT (eT e) (repTT x b) := by
  show Tr.ofO (cond (ileB (-1000000) b && ileB b 1000 && Nat.ble (x.map e).length 1000) (some (PyData.tuple (repN (x.map e) b.toNat))) none) = _
  rw [List.length_map]
  exact ofO_cond (eT e) _ _ (by rw [rep_map]; rfl)
def opX (o : Op) (x y : PyData) : Tr PyData := Tr.ofO (opD o x y)
theorem mapT_eD (t : Tr PyData) : mapT eD t = t := by
  unfold mapT
  induction t with
  | ret a => rfl
  | draw n k ih =>
    show Tr.draw n (fun r => (k r).bind _) = _
    congr 1
    funext r
    exact ih r
  | fail => rfl
theorem h_opD {o : Op} {ea : α → PyData} {eb : β → PyData} (x : α) (y : β) : Tr.ofO (opD o (ea x) (eb y)) = mapT eD (opX o (ea x) (eb y)) := (mapT_eD _).symm
theorem t_neg {a : E} {ta : Tr Int} (ha : ev F a env = mapT PyData.int ta) : ev F (.neg a) env = mapT PyData.int (ta.bind fun x => .ret (-x)) := by
  show (ev F a env).bind _ = _
  rw [ha, mapT_bind, mapT_of]
  exact bind_congr fun _ => rfl
theorem t_cm {c : Cm} {a b : E} {ea : α → PyData} {eb : β → PyData} {ta : Tr α} {tb : Tr β} {f : α → β → Tr Bool} (hf : ∀ x y, Tr.ofO ((cmD c (ea x) (eb y)).map .bool) = mapT PyData.bool (f x y)) (ha : ev F a env = mapT ea ta) (hb : ev F b env = mapT eb tb) :
    ev F (.cm c a b) env = mapT PyData.bool (ta.bind fun x => tb.bind fun y => f x y) := by
  rw [e_cm, ha, hb, mapT_bind, mapT_of]
  refine bind_congr fun x => ?_
  rw [mapT_bind, mapT_of]
  exact bind_congr fun y => hf x y
theorem h_lt (x y : Int) : Tr.ofO ((cmD .lt (.int x) (.int y)).map PyData.bool) = mapT PyData.bool (.ret (iltB x y)) := rfl
theorem h_le (x y : Int) : Tr.ofO ((cmD .le (.int x) (.int y)).map PyData.bool) = mapT PyData.bool (.ret (ileB x y)) := rfl
theorem h_gt (x y : Int) : Tr.ofO ((cmD .gt (.int x) (.int y)).map PyData.bool) = mapT PyData.bool (.ret (iltB y x)) := rfl
theorem h_ge (x y : Int) : Tr.ofO ((cmD .ge (.int x) (.int y)).map PyData.bool) = mapT PyData.bool (.ret (ileB y x)) := rfl
theorem h_eq {ea : α → PyData} {eb : β → PyData} {n k : Nat} {q : α → β → Bool} (fa : Flat n ea) (fb : Flat k eb) (hn : n ≤ dep) (hk : k ≤ dep) (h : EqOk ea eb q) (x : α) (y : β) : Tr.ofO ((cmD .eq (ea x) (eb y)).map PyData.bool) = mapT PyData.bool (.ret (q x y)) := by
  have e : cmD .eq (ea x) (eb y) = cond (flat dep (ea x) && flat dep (eb y)) (some (eqv (ea x) (eb y))) none := by cases ea x <;> cases eb y <;> rfl
  rw [e, fa x dep hn, fb y dep hk, h]; rfl
theorem h_ne {ea : α → PyData} {eb : β → PyData} {n k : Nat} {q : α → β → Bool} (fa : Flat n ea) (fb : Flat k eb) (hn : n ≤ dep) (hk : k ≤ dep) (h : EqOk ea eb q) (x : α) (y : β) : Tr.ofO ((cmD .ne (ea x) (eb y)).map PyData.bool) = mapT PyData.bool (.ret (!q x y)) := by
  have e : cmD .ne (ea x) (eb y) = cond (flat dep (ea x) && flat dep (eb y)) (some (!eqv (ea x) (eb y))) none := by cases ea x <;> cases eb y <;> rfl
  rw [e, fa x dep hn, fb y dep hk, h]; rfl
def cmX (c : Cm) (x y : PyData) : Tr Bool := Tr.ofO (cmD c x y)
theorem h_cmD {c : Cm} {ea : α → PyData} {eb : β → PyData} (x : α) (y : β) : Tr.ofO ((cmD c (ea x) (eb y)).map PyData.bool) = mapT PyData.bool (cmX c (ea x) (eb y)) := ofO_map _ _
theorem t_isN {a : E} {ea : α → PyData} {ta : Tr α} (ha : ev F a env = mapT ea ta) : ev F (.cm .is a (.lit .none)) env = mapT PyData.bool (ta.bind fun x => .ret (isNoneD (ea x))) := by
  rw [e_cm, ha, mapT_bind, mapT_of]
  refine bind_congr fun x => ?_
  rw [e_lit, bind_r]
  cases ea x <;> rfl
theorem t_isnN {a : E} {ea : α → PyData} {ta : Tr α} (ha : ev F a env = mapT ea ta) : ev F (.cm .isn a (.lit .none)) env = mapT PyData.bool (ta.bind fun x => .ret (!isNoneD (ea x))) := by
  rw [e_cm, ha, mapT_bind, mapT_of]
  refine bind_congr fun x => ?_
  rw [e_lit, bind_r]
  cases ea x <;> rfl
theorem cmD_mem_l (x : PyData) (ys : List PyData) : cmD .mem x (.list ys) = cond (flat dep x && flatAll dep ys) (some (memD x ys)) none := by cases x <;> rfl
theorem cmD_mem_t (x : PyData) (ys : List PyData) : cmD .mem x (.tuple ys) = cond (flat dep x && flatAll dep ys) (some (memD x ys)) none := by cases x <;> rfl
theorem cmD_nmem_l (x : PyData) (ys : List PyData) : cmD .nmem x (.list ys) = cond (flat dep x && flatAll dep ys) (some (!memD x ys)) none := by cases x <;> rfl
theorem cmD_nmem_t (x : PyData) (ys : List PyData) : cmD .nmem x (.tuple ys) = cond (flat dep x && flatAll dep ys) (some (!memD x ys)) none := by cases x <;> rfl
section
variable {ea : α → PyData} {eb : β → PyData} {n k : Nat} {q : α → β → Bool} (fa : Flat n ea) (fb : Flat k eb) (hn : n ≤ dep) (hk : k ≤ dep) (h : EqOk ea eb q)
include fa fb hn hk h
theorem h_memL (x : β) (ys : List α) : Tr.ofO ((cmD .mem (eb x) (eL ea ys)).map PyData.bool) = mapT PyData.bool (.ret (memY q x ys)) := by
  unfold eL
  rw [cmD_mem_l, fb x dep hk, flatAll_map fa dep hn, mem_map h]; rfl
theorem h_memT (x : β) (ys : List α) : Tr.ofO ((cmD .mem (eb x) (eT ea ys)).map PyData.bool) = mapT PyData.bool (.ret (memY q x ys)) := by
  unfold eT
  rw [cmD_mem_t, fb x dep hk, flatAll_map fa dep hn, mem_map h]; rfl
theorem h_nmemL (x : β) (ys : List α) : Tr.ofO ((cmD .nmem (eb x) (eL ea ys)).map PyData.bool) = mapT PyData.bool (.ret (!memY q x ys)) := by
  unfold eL
  rw [cmD_nmem_l, fb x dep hk, flatAll_map fa dep hn, mem_map h]; rfl
theorem h_nmemT (x : β) (ys : List α) : Tr.ofO ((cmD .nmem (eb x) (eT ea ys)).map PyData.bool) = mapT PyData.bool (.ret (!memY q x ys)) := by
  unfold eT
  rw [cmD_nmem_t, fb x dep hk, flatAll_map fa dep hn, mem_map h]; rfl
end
theorem cmD_memD (x : PyData) (kvs : List (PyData × PyData)) : cmD .mem x (.dict kvs) = cond (keyIn x kvs) (some (lookD x kvs).isSome) none := by cases x <;> rfl
theorem cmD_nmemD (x : PyData) (kvs : List (PyData × PyData)) : cmD .nmem x (.dict kvs) = cond (keyIn x kvs) (some (!(lookD x kvs).isSome)) none := by cases x <;> rfl
section
variable {ea : α → PyData} {eb : β → PyData} {q : α → α → Bool} (hk : KeyOk ea) (h : EqOk ea ea q)
include hk h
theorem h_memM (x : α) (ys : List (α × β)) : Tr.ofO ((cmD .mem (ea x) (eM ea eb ys)).map PyData.bool) = mapT PyData.bool (.ret (lookY q x ys).isSome) := by
  unfold eM
  rw [cmD_memD, show keyIn (ea x) _ = true from hk x, look_map h]
  cases lookY q x ys <;> rfl
theorem h_nmemM (x : α) (ys : List (α × β)) : Tr.ofO ((cmD .nmem (ea x) (eM ea eb ys)).map PyData.bool) = mapT PyData.bool (.ret (!(lookY q x ys).isSome)) := by
  unfold eM
  rw [cmD_nmemD, show keyIn (ea x) _ = true from hk x, look_map h]
  cases lookY q x ys <;> rfl
theorem h_ixM (ys : List (α × β)) (x : α) : Tr.ofO (ixD (eM ea eb ys) (ea x)) = mapT eb (Tr.ofO (lookY q x ys)) := by
  show Tr.ofO (cond (keyIn (ea x) _) (lookD (ea x) (ys.map (eKV ea eb))) none) = _
  rw [show keyIn (ea x) _ = true from hk x, look_map h]
  exact ofO_map _ _
end
theorem t_chn {c c' : Cm} {a b d : E} {ea : α → PyData} {eb : β → PyData} {ed : γ → PyData} {ta : Tr α} {tb : Tr β} {td : Tr γ} {p : α → β → Bool} {q : β → γ → Bool} (h1 : ∀ x y, cmD c (ea x) (eb y) = some (p x y)) (h2 : ∀ x y, cmD c' (eb x) (ed y) = some (q x y))
    (ha : ev F a env = mapT ea ta) (hb : ev F b env = mapT eb tb) (hd : ev F d env = mapT ed td) :
    ev F (.chn c c' a b d) env = mapT PyData.bool (ta.bind fun x => tb.bind fun y => cond (p x y) (td.bind fun z => .ret (q y z)) (.ret false)) := by
  show ((ev F a env).bind fun x => (ev F b env).bind fun y => match cmD c x y with
    | some true => (ev F d env).bind fun z => Tr.ofO ((cmD c' y z).map PyData.bool)
    | some false => Tr.ret (PyData.bool false)
    | none => .fail) = _
  rw [ha, hb, hd, mapT_bind, mapT_of]
  refine bind_congr fun x => ?_
  rw [mapT_bind, mapT_of]
  refine bind_congr fun y => ?_
  rw [h1]
  cases p x y with
  | false => rfl
  | true =>
    show (mapT ed td).bind _ = mapT PyData.bool (td.bind fun z => .ret (q y z))
    rw [mapT_bind, mapT_of]
    exact bind_congr fun z => by rw [h2]; rfl
theorem t_chnX {c c' : Cm} {a b d : E} {ea : α → PyData} {eb : β → PyData} {ed : γ → PyData} {ta : Tr α} {tb : Tr β} {td : Tr γ}
    (ha : ev F a env = mapT ea ta) (hb : ev F b env = mapT eb tb) (hd : ev F d env = mapT ed td) :
    ev F (.chn c c' a b d) env = mapT PyData.bool (ta.bind fun x => tb.bind fun y => (cmX c (ea x) (eb y)).bind fun r => cond r (td.bind fun z => cmX c' (eb y) (ed z)) (.ret false)) := by
  show ((ev F a env).bind fun x => (ev F b env).bind fun y => match cmD c x y with
    | some true => (ev F d env).bind fun z => Tr.ofO ((cmD c' y z).map PyData.bool)
    | some false => Tr.ret (PyData.bool false)
    | none => .fail) = _
  rw [ha, hb, hd, mapT_bind, mapT_of]
  refine bind_congr fun x => ?_
  rw [mapT_bind, mapT_of]
  refine bind_congr fun y => ?_
  unfold cmX
  cases cmD c (ea x) (eb y) with
  | none => rfl
  | some r =>
    cases r with
    | false => rfl
    | true =>
      show (mapT ed td).bind _ = mapT PyData.bool (td.bind fun z => Tr.ofO (cmD c' (eb y) (ed z)))
      rw [mapT_bind, mapT_of]
      exact bind_congr fun z => ofO_map _ _
theorem t_ixQ0 {a : E} {ea : α → PyData} {eb : β → PyData} {ec : γ → PyData} {ta : Tr (α × β × γ)} (ha : ev F a env = mapT (eQ ea eb ec) ta) : ev F (.ix a (.lit (.int 0))) env = mapT ea (ta.bind fun p => .ret p.1) := by
  rw [e_ix, ha, mapT_bind, mapT_of]; exact bind_congr fun _ => rfl
theorem t_ixQ1 {a : E} {ea : α → PyData} {eb : β → PyData} {ec : γ → PyData} {ta : Tr (α × β × γ)} (ha : ev F a env = mapT (eQ ea eb ec) ta) : ev F (.ix a (.lit (.int 1))) env = mapT eb (ta.bind fun p => .ret p.2.1) := by
  rw [e_ix, ha, mapT_bind, mapT_of]; exact bind_congr fun _ => rfl
theorem t_ixQ2 {a : E} {ea : α → PyData} {eb : β → PyData} {ec : γ → PyData} {ta : Tr (α × β × γ)} (ha : ev F a env = mapT (eQ ea eb ec) ta) : ev F (.ix a (.lit (.int 2))) env = mapT ec (ta.bind fun p => .ret p.2.2) := by
  rw [e_ix, ha, mapT_bind, mapT_of]; exact bind_congr fun _ => rfl
theorem t_chnP {c c' : Cm} {a b d : E} {ea : α → PyData} {eb : β → PyData} {ed : γ → PyData} {x : α} {y : β} {z : γ} {p : α → β → Bool} {q : β → γ → Bool} (h1 : ∀ x y, cmD c (ea x) (eb y) = some (p x y)) (h2 : ∀ x y, cmD c' (eb x) (ed y) = some (q x y))
    (ha : ev F a env = mapT ea (.ret x)) (hb : ev F b env = mapT eb (.ret y)) (hd : ev F d env = mapT ed (.ret z)) : ev F (.chn c c' a b d) env = mapT PyData.bool (.ret (p x y && q y z)) := by
  rw [t_chn h1 h2 ha hb hd]
  show mapT PyData.bool (cond (p x y) (.ret (q y z)) (.ret false)) = _
  cases p x y <;> rfl
theorem t_and {a b : E} {ta tb : Tr Bool} (ha : ev F a env = mapT PyData.bool ta) (hb : ev F b env = mapT PyData.bool tb) : ev F (.and a b) env = mapT PyData.bool (ta.bind fun x => cond x tb (.ret false)) := by
  show (ev F a env).bind _ = _
  rw [ha, mapT_bind, mapT_of]
  refine bind_congr fun x => ?_
  cases x with
  | true => exact hb
  | false => rfl
theorem t_andP {a b : E} {x y : Bool} (ha : ev F a env = mapT PyData.bool (.ret x)) (hb : ev F b env = mapT PyData.bool (.ret y)) : ev F (.and a b) env = mapT PyData.bool (.ret (x && y)) := by
  rw [t_and ha hb]; cases x <;> rfl
theorem t_or {a b : E} {ta tb : Tr Bool} (ha : ev F a env = mapT PyData.bool ta) (hb : ev F b env = mapT PyData.bool tb) : ev F (.or a b) env = mapT PyData.bool (ta.bind fun x => cond x (.ret true) tb) := by
  show (ev F a env).bind _ = _
  rw [ha, mapT_bind, mapT_of]
  refine bind_congr fun x => ?_
  cases x with
  | true => rfl
  | false => exact hb
theorem t_orP {a b : E} {x y : Bool} (ha : ev F a env = mapT PyData.bool (.ret x)) (hb : ev F b env = mapT PyData.bool (.ret y)) : ev F (.or a b) env = mapT PyData.bool (.ret (x || y)) := by
  rw [t_or ha hb]; cases x <;> rfl
theorem t_not {a : E} {ta : Tr Bool} (ha : ev F a env = mapT PyData.bool ta) : ev F (.not a) env = mapT PyData.bool (ta.bind fun x => .ret (!x)) := by
  show (ev F a env).bind _ = _
  rw [ha, mapT_bind, mapT_of]
  exact bind_congr fun _ => rfl
theorem t_ite {c a b : E} {em : α → PyData} {tc : Tr Bool} {ta tb : Tr α} (hc : ev F c env = mapT PyData.bool tc) (ha : ev F a env = mapT em ta) (hb : ev F b env = mapT em tb) : ev F (.ite c a b) env = mapT em (tc.bind fun x => cond x ta tb) := by
  show (ev F c env).bind _ = _
  rw [hc, mapT_bind, mapT_of]
  refine bind_congr fun x => ?_
  cases x with
  | true => exact ha
  | false => exact hb
theorem t_iteP {c a b : E} {em : α → PyData} {x : Bool} {y z : α} (hc : ev F c env = mapT PyData.bool (.ret x)) (ha : ev F a env = mapT em (.ret y)) (hb : ev F b env = mapT em (.ret z)) : ev F (.ite c a b) env = mapT em (.ret (cond x y z)) := by
  rw [t_ite hc ha hb]; cases x <;> rfl
theorem t_ix {a b : E} {ea : α → PyData} {eb : β → PyData} {ec : γ → PyData} {ta : Tr α} {tb : Tr β} {f : α → β → Tr γ} (hf : ∀ x y, Tr.ofO (ixD (ea x) (eb y)) = mapT ec (f x y)) (ha : ev F a env = mapT ea ta) (hb : ev F b env = mapT eb tb) :
    ev F (.ix a b) env = mapT ec (ta.bind fun x => tb.bind fun y => f x y) := by
  rw [e_ix, ha, hb, mapT_bind, mapT_of]
  refine bind_congr fun x => ?_
  rw [mapT_bind, mapT_of]
  exact bind_congr fun y => hf x y
theorem h_ixT {e : α → PyData} (xs : List α) (i : Int) : Tr.ofO (ixD (eT e xs) (.int i)) = mapT e (ixT xs i) := (congrArg Tr.ofO (ixM xs i)).trans (ofO_map _ _)
theorem h_ixL {e : α → PyData} (xs : List α) (i : Int) : Tr.ofO (ixD (eL e xs) (.int i)) = mapT e (ixT xs i) := (congrArg Tr.ofO (ixM xs i)).trans (ofO_map _ _)
def ixST (xs : List Nat) (i : Int) : Tr (List Nat) := grd (lenOk xs) ((ixT xs i).bind fun c => .ret [c])
theorem h_ixS (xs : List Nat) (i : Int) : Tr.ofO (ixD (eS xs) (.int i)) = mapT eS (ixST xs i) := by
  show Tr.ofO (cond (lenOk xs) ((place xs.length i).bind fun j => xs[j]?.map fun c => PyData.str ⟨#[c]⟩) none) = _
  unfold ixST ixT
  cases lenOk xs with
  | false => rfl
  | true =>
    cases place xs.length i with
    | none => rfl
    | some j =>
      show Tr.ofO (xs[j]?.map fun c => PyData.str ⟨#[c]⟩) = mapT eS ((Tr.ofO xs[j]?).bind fun c => .ret [c])
      cases xs[j]? <;> rfl
def ixX (x y : PyData) : Tr PyData := Tr.ofO (ixD x y)
theorem h_ixD {ea : α → PyData} {eb : β → PyData} (x : α) (y : β) : Tr.ofO (ixD (ea x) (eb y)) = mapT eD (ixX (ea x) (eb y)) := (mapT_eD _).symm
theorem ixP0 {ea : α → PyData} {eb : β → PyData} (p : α × β) : Tr.ofO (ixD (eP ea eb p) (.int 0)) = .ret (ea p.1) := rfl
theorem t_ixP0 {a : E} {ea : α → PyData} {eb : β → PyData} {ta : Tr (α × β)} (ha : ev F a env = mapT (eP ea eb) ta) : ev F (.ix a (.lit (.int 0))) env = mapT ea (ta.bind fun p => .ret p.1) := by
  rw [e_ix, ha, mapT_bind, mapT_of]; exact bind_congr fun _ => rfl
theorem t_ixP1 {a : E} {ea : α → PyData} {eb : β → PyData} {ta : Tr (α × β)} (ha : ev F a env = mapT (eP ea eb) ta) : ev F (.ix a (.lit (.int 1))) env = mapT eb (ta.bind fun p => .ret p.2) := by
  rw [e_ix, ha, mapT_bind, mapT_of]; exact bind_congr fun _ => rfl
theorem t_no : ev F .no env = mapT (eO PyData.int) (.ret none) := rfl
theorem part_O (o : Option Int) : partD (eO PyData.int o) = some o := by cases o <;> rfl
theorem t_some {a : E} {ta : Tr Int} (ha : ev F a env = mapT PyData.int ta) : ev F a env = mapT (eO PyData.int) (ta.bind fun x => .ret (some x)) := t_as some (fun _ => rfl) ha
theorem t_sl {a lo hi : E} {ea : α → PyData} {ec : γ → PyData} {ta : Tr α} {tl th : Tr (Option Int)} {f : α → Option Int → Option Int → Tr γ} (hf : ∀ x l h, Tr.ofO (sl1 (ea x) l h) = mapT ec (f x l h)) (ha : ev F a env = mapT ea ta) (hl : ev F lo env = mapT (eO PyData.int) tl) (hh : ev F hi env = mapT (eO PyData.int) th) :
    ev F (.sl a lo hi) env = mapT ec (ta.bind fun x => tl.bind fun l => th.bind fun h => f x l h) := by
  show ((ev F a env).bind fun x => (ev F lo env).bind fun y => match partD y with
    | some p => (ev F hi env).bind fun z => Tr.ofO ((partD z).bind fun q => sl1 x p q)
    | none => .fail) = _
  rw [ha, hl, hh, mapT_bind, mapT_of]
  refine bind_congr fun x => ?_
  rw [mapT_bind, mapT_of]
  refine bind_congr fun l => ?_
  rw [part_O]
  show (mapT (eO PyData.int) th).bind _ = _
  rw [mapT_bind, mapT_of]
  refine bind_congr fun h => ?_
  rw [part_O]
  exact hf x l h
theorem h_slT {e : α → PyData} (x : List α) (l h : Option Int) : Tr.ofO (sl1 (eT e x) l h) = mapT (eT e) (.ret (cut x l h)) := by
  show Tr.ret (PyData.tuple (cut (x.map e) l h)) = _
  rw [cut_map]; rfl
theorem h_slL {e : α → PyData} (x : List α) (l h : Option Int) : Tr.ofO (sl1 (eL e x) l h) = mapT (eL e) (.ret (cut x l h)) := by
  show Tr.ret (PyData.list (cut (x.map e) l h)) = _
  rw [cut_map]; rfl
theorem h_slS (x : List Nat) (l h : Option Int) : Tr.ofO (sl1 (eS x) l h) = mapT eS (grd (lenOk x) (.ret (cut x l h))) := ofO_cond eS _ _ rfl
def slX (x : PyData) (l h : Option Int) : Tr PyData := Tr.ofO (sl1 x l h)
theorem h_slD {ea : α → PyData} (x : α) (l h : Option Int) : Tr.ofO (sl1 (ea x) l h) = mapT eD (slX (ea x) l h) := (mapT_eD _).symm
theorem t_rev {a : E} {ea : α → PyData} {ec : γ → PyData} {ta : Tr α} {f : α → Tr γ} (hf : ∀ x, Tr.ofO (revD (ea x)) = mapT ec (f x)) (ha : ev F a env = mapT ea ta) : ev F (.rev a) env = mapT ec (ta.bind f) := by
  show (ev F a env).bind _ = _
  rw [ha, mapT_bind, mapT_of]
  exact bind_congr hf
theorem h_revT {e : α → PyData} (x : List α) : Tr.ofO (revD (eT e x)) = mapT (eT e) (.ret x.reverse) := by
  show Tr.ret (PyData.tuple (x.map e).reverse) = _
  rw [← List.map_reverse]; rfl
theorem h_revL {e : α → PyData} (x : List α) : Tr.ofO (revD (eL e x)) = mapT (eL e) (.ret x.reverse) := by
  show Tr.ret (PyData.list (x.map e).reverse) = _
  rw [← List.map_reverse]; rfl
def revX (x : PyData) : Tr PyData := Tr.ofO (revD x)
theorem h_revD {ea : α → PyData} (x : α) : Tr.ofO (revD (ea x)) = mapT eD (revX (ea x)) := (mapT_eD _).symm

theorem args0      : ev F .nil env = mapT PyData.tuple (.ret []) := by
  rfl
theorem args1 {τ0 : Type} {mx : τ0 → PyData} {tx : Tr τ0} {ax : E} (hx : ev F ax env = mapT mx tx) : ev F (.cons ax .nil) env = mapT PyData.tuple (tx.bind fun x => .ret [mx x]) := by
  show ((ev F ax env).bind fun x => (ev F .nil env).bind fun y => match y with | .tuple ys => Tr.ret (PyData.tuple (x :: ys)) | _ => .fail) = _
  rw [hx, mapT_bind, mapT_of]
  refine bind_congr fun x => ?_
  rw [args0 , mapT_bind]
  simp only [mapT_of, Tr.bind_assoc, bind_r]
  rfl
theorem args2 {τ0 : Type} {τ1 : Type} {mx : τ0 → PyData} {my : τ1 → PyData} {tx : Tr τ0} {ty : Tr τ1} {ax : E} {ay : E} (hx : ev F ax env = mapT mx tx) (hy : ev F ay env = mapT my ty) : ev F (.cons ax (.cons ay .nil)) env = mapT PyData.tuple (tx.bind fun x => ty.bind fun y => .ret [mx x, my y]) := by
  show ((ev F ax env).bind fun x => (ev F (.cons ay .nil) env).bind fun y => match y with | .tuple ys => Tr.ret (PyData.tuple (x :: ys)) | _ => .fail) = _
  rw [hx, mapT_bind, mapT_of]
  refine bind_congr fun x => ?_
  rw [args1 hy, mapT_bind]
  simp only [mapT_of, Tr.bind_assoc, bind_r]
  try rfl
theorem args3 {τ0 : Type} {τ1 : Type} {τ2 : Type} {mx : τ0 → PyData} {my : τ1 → PyData} {mz : τ2 → PyData} {tx : Tr τ0} {ty : Tr τ1} {tz : Tr τ2} {ax : E} {ay : E} {az : E} (hx : ev F ax env = mapT mx tx) (hy : ev F ay env = mapT my ty) (hz : ev F az env = mapT mz tz) : ev F (.cons ax (.cons ay (.cons az .nil))) env = mapT PyData.tuple (tx.bind fun x => ty.bind fun y => tz.bind fun z => .ret [mx x, my y, mz z]) := by
  show ((ev F ax env).bind fun x => (ev F (.cons ay (.cons az .nil)) env).bind fun y => match y with | .tuple ys => Tr.ret (PyData.tuple (x :: ys)) | _ => .fail) = _
  rw [hx, mapT_bind, mapT_of]
  refine bind_congr fun x => ?_
  rw [args2 hy hz, mapT_bind]
  simp only [mapT_of, Tr.bind_assoc, bind_r]
  try rfl
theorem args4 {τ0 : Type} {τ1 : Type} {τ2 : Type} {τ3 : Type} {mx : τ0 → PyData} {my : τ1 → PyData} {mz : τ2 → PyData} {mu : τ3 → PyData} {tx : Tr τ0} {ty : Tr τ1} {tz : Tr τ2} {tu : Tr τ3} {ax : E} {ay : E} {az : E} {au : E} (hx : ev F ax env = mapT mx tx) (hy : ev F ay env = mapT my ty) (hz : ev F az env = mapT mz tz) (hu : ev F au env = mapT mu tu) : ev F (.cons ax (.cons ay (.cons az (.cons au .nil)))) env = mapT PyData.tuple (tx.bind fun x => ty.bind fun y => tz.bind fun z => tu.bind fun u => .ret [mx x, my y, mz z, mu u]) := by
  show ((ev F ax env).bind fun x => (ev F (.cons ay (.cons az (.cons au .nil))) env).bind fun y => match y with | .tuple ys => Tr.ret (PyData.tuple (x :: ys)) | _ => .fail) = _
  rw [hx, mapT_bind, mapT_of]
  refine bind_congr fun x => ?_
  rw [args3 hy hz hu, mapT_bind]
  simp only [mapT_of, Tr.bind_assoc, bind_r]
  try rfl
theorem args5 {τ0 : Type} {τ1 : Type} {τ2 : Type} {τ3 : Type} {τ4 : Type} {mx : τ0 → PyData} {my : τ1 → PyData} {mz : τ2 → PyData} {mu : τ3 → PyData} {mv : τ4 → PyData} {tx : Tr τ0} {ty : Tr τ1} {tz : Tr τ2} {tu : Tr τ3} {tv : Tr τ4} {ax : E} {ay : E} {az : E} {au : E} {av : E} (hx : ev F ax env = mapT mx tx) (hy : ev F ay env = mapT my ty) (hz : ev F az env = mapT mz tz) (hu : ev F au env = mapT mu tu) (hv : ev F av env = mapT mv tv) : ev F (.cons ax (.cons ay (.cons az (.cons au (.cons av .nil))))) env = mapT PyData.tuple (tx.bind fun x => ty.bind fun y => tz.bind fun z => tu.bind fun u => tv.bind fun v => .ret [mx x, my y, mz z, mu u, mv v]) := by
  show ((ev F ax env).bind fun x => (ev F (.cons ay (.cons az (.cons au (.cons av .nil)))) env).bind fun y => match y with | .tuple ys => Tr.ret (PyData.tuple (x :: ys)) | _ => .fail) = _
  rw [hx, mapT_bind, mapT_of]
  refine bind_congr fun x => ?_
  rw [args4 hy hz hu hv, mapT_bind]
  simp only [mapT_of, Tr.bind_assoc, bind_r]
  try rfl
theorem args6 {τ0 : Type} {τ1 : Type} {τ2 : Type} {τ3 : Type} {τ4 : Type} {τ5 : Type} {mx : τ0 → PyData} {my : τ1 → PyData} {mz : τ2 → PyData} {mu : τ3 → PyData} {mv : τ4 → PyData} {mw : τ5 → PyData} {tx : Tr τ0} {ty : Tr τ1} {tz : Tr τ2} {tu : Tr τ3} {tv : Tr τ4} {tw : Tr τ5} {ax : E} {ay : E} {az : E} {au : E} {av : E} {aw : E} (hx : ev F ax env = mapT mx tx) (hy : ev F ay env = mapT my ty) (hz : ev F az env = mapT mz tz) (hu : ev F au env = mapT mu tu) (hv : ev F av env = mapT mv tv) (hw : ev F aw env = mapT mw tw) : ev F (.cons ax (.cons ay (.cons az (.cons au (.cons av (.cons aw .nil)))))) env = mapT PyData.tuple (tx.bind fun x => ty.bind fun y => tz.bind fun z => tu.bind fun u => tv.bind fun v => tw.bind fun w => .ret [mx x, my y, mz z, mu u, mv v, mw w]) := by
  show ((ev F ax env).bind fun x => (ev F (.cons ay (.cons az (.cons au (.cons av (.cons aw .nil))))) env).bind fun y => match y with | .tuple ys => Tr.ret (PyData.tuple (x :: ys)) | _ => .fail) = _
  rw [hx, mapT_bind, mapT_of]
  refine bind_congr fun x => ?_
  rw [args5 hy hz hu hv hw, mapT_bind]
  simp only [mapT_of, Tr.bind_assoc, bind_r]
  try rfl
theorem args7 {τ0 : Type} {τ1 : Type} {τ2 : Type} {τ3 : Type} {τ4 : Type} {τ5 : Type} {τ6 : Type} {mx : τ0 → PyData} {my : τ1 → PyData} {mz : τ2 → PyData} {mu : τ3 → PyData} {mv : τ4 → PyData} {mw : τ5 → PyData} {ma : τ6 → PyData} {tx : Tr τ0} {ty : Tr τ1} {tz : Tr τ2} {tu : Tr τ3} {tv : Tr τ4} {tw : Tr τ5} {ta : Tr τ6} {ax : E} {ay : E} {az : E} {au : E} {av : E} {aw : E} {aa : E} (hx : ev F ax env = mapT mx tx) (hy : ev F ay env = mapT my ty) (hz : ev F az env = mapT mz tz) (hu : ev F au env = mapT mu tu) (hv : ev F av env = mapT mv tv) (hw : ev F aw env = mapT mw tw) (ha : ev F aa env = mapT ma ta) : ev F (.cons ax (.cons ay (.cons az (.cons au (.cons av (.cons aw (.cons aa .nil))))))) env = mapT PyData.tuple (tx.bind fun x => ty.bind fun y => tz.bind fun z => tu.bind fun u => tv.bind fun v => tw.bind fun w => ta.bind fun a => .ret [mx x, my y, mz z, mu u, mv v, mw w, ma a]) := by
  show ((ev F ax env).bind fun x => (ev F (.cons ay (.cons az (.cons au (.cons av (.cons aw (.cons aa .nil)))))) env).bind fun y => match y with | .tuple ys => Tr.ret (PyData.tuple (x :: ys)) | _ => .fail) = _
  rw [hx, mapT_bind, mapT_of]
  refine bind_congr fun x => ?_
  rw [args6 hy hz hu hv hw ha, mapT_bind]
  simp only [mapT_of, Tr.bind_assoc, bind_r]
  try rfl
theorem args8 {τ0 : Type} {τ1 : Type} {τ2 : Type} {τ3 : Type} {τ4 : Type} {τ5 : Type} {τ6 : Type} {τ7 : Type} {mx : τ0 → PyData} {my : τ1 → PyData} {mz : τ2 → PyData} {mu : τ3 → PyData} {mv : τ4 → PyData} {mw : τ5 → PyData} {ma : τ6 → PyData} {mb : τ7 → PyData} {tx : Tr τ0} {ty : Tr τ1} {tz : Tr τ2} {tu : Tr τ3} {tv : Tr τ4} {tw : Tr τ5} {ta : Tr τ6} {tb : Tr τ7} {ax : E} {ay : E} {az : E} {au : E} {av : E} {aw : E} {aa : E} {ab : E} (hx : ev F ax env = mapT mx tx) (hy : ev F ay env = mapT my ty) (hz : ev F az env = mapT mz tz) (hu : ev F au env = mapT mu tu) (hv : ev F av env = mapT mv tv) (hw : ev F aw env = mapT mw tw) (ha : ev F aa env = mapT ma ta) (hb : ev F ab env = mapT mb tb) : ev F (.cons ax (.cons ay (.cons az (.cons au (.cons av (.cons aw (.cons aa (.cons ab .nil)))))))) env = mapT PyData.tuple (tx.bind fun x => ty.bind fun y => tz.bind fun z => tu.bind fun u => tv.bind fun v => tw.bind fun w => ta.bind fun a => tb.bind fun b => .ret [mx x, my y, mz z, mu u, mv v, mw w, ma a, mb b]) := by
  show ((ev F ax env).bind fun x => (ev F (.cons ay (.cons az (.cons au (.cons av (.cons aw (.cons aa (.cons ab .nil))))))) env).bind fun y => match y with | .tuple ys => Tr.ret (PyData.tuple (x :: ys)) | _ => .fail) = _
  rw [hx, mapT_bind, mapT_of]
  refine bind_congr fun x => ?_
  rw [args7 hy hz hu hv hw ha hb, mapT_bind]
  simp only [mapT_of, Tr.bind_assoc, bind_r]
  try rfl
theorem args9 {τ0 : Type} {τ1 : Type} {τ2 : Type} {τ3 : Type} {τ4 : Type} {τ5 : Type} {τ6 : Type} {τ7 : Type} {τ8 : Type} {mx : τ0 → PyData} {my : τ1 → PyData} {mz : τ2 → PyData} {mu : τ3 → PyData} {mv : τ4 → PyData} {mw : τ5 → PyData} {ma : τ6 → PyData} {mb : τ7 → PyData} {mc : τ8 → PyData} {tx : Tr τ0} {ty : Tr τ1} {tz : Tr τ2} {tu : Tr τ3} {tv : Tr τ4} {tw : Tr τ5} {ta : Tr τ6} {tb : Tr τ7} {tc : Tr τ8} {ax : E} {ay : E} {az : E} {au : E} {av : E} {aw : E} {aa : E} {ab : E} {ac : E} (hx : ev F ax env = mapT mx tx) (hy : ev F ay env = mapT my ty) (hz : ev F az env = mapT mz tz) (hu : ev F au env = mapT mu tu) (hv : ev F av env = mapT mv tv) (hw : ev F aw env = mapT mw tw) (ha : ev F aa env = mapT ma ta) (hb : ev F ab env = mapT mb tb) (hc : ev F ac env = mapT mc tc) : ev F (.cons ax (.cons ay (.cons az (.cons au (.cons av (.cons aw (.cons aa (.cons ab (.cons ac .nil))))))))) env = mapT PyData.tuple (tx.bind fun x => ty.bind fun y => tz.bind fun z => tu.bind fun u => tv.bind fun v => tw.bind fun w => ta.bind fun a => tb.bind fun b => tc.bind fun c => .ret [mx x, my y, mz z, mu u, mv v, mw w, ma a, mb b, mc c]) := by
  show ((ev F ax env).bind fun x => (ev F (.cons ay (.cons az (.cons au (.cons av (.cons aw (.cons aa (.cons ab (.cons ac .nil)))))))) env).bind fun y => match y with | .tuple ys => Tr.ret (PyData.tuple (x :: ys)) | _ => .fail) = _
  rw [hx, mapT_bind, mapT_of]
  refine bind_congr fun x => ?_
  rw [args8 hy hz hu hv hw ha hb hc, mapT_bind]
  simp only [mapT_of, Tr.bind_assoc, bind_r]
  try rfl
theorem args10 {τ0 : Type} {τ1 : Type} {τ2 : Type} {τ3 : Type} {τ4 : Type} {τ5 : Type} {τ6 : Type} {τ7 : Type} {τ8 : Type} {τ9 : Type} {mx : τ0 → PyData} {my : τ1 → PyData} {mz : τ2 → PyData} {mu : τ3 → PyData} {mv : τ4 → PyData} {mw : τ5 → PyData} {ma : τ6 → PyData} {mb : τ7 → PyData} {mc : τ8 → PyData} {md : τ9 → PyData} {tx : Tr τ0} {ty : Tr τ1} {tz : Tr τ2} {tu : Tr τ3} {tv : Tr τ4} {tw : Tr τ5} {ta : Tr τ6} {tb : Tr τ7} {tc : Tr τ8} {td : Tr τ9} {ax : E} {ay : E} {az : E} {au : E} {av : E} {aw : E} {aa : E} {ab : E} {ac : E} {ad : E} (hx : ev F ax env = mapT mx tx) (hy : ev F ay env = mapT my ty) (hz : ev F az env = mapT mz tz) (hu : ev F au env = mapT mu tu) (hv : ev F av env = mapT mv tv) (hw : ev F aw env = mapT mw tw) (ha : ev F aa env = mapT ma ta) (hb : ev F ab env = mapT mb tb) (hc : ev F ac env = mapT mc tc) (hd : ev F ad env = mapT md td) : ev F (.cons ax (.cons ay (.cons az (.cons au (.cons av (.cons aw (.cons aa (.cons ab (.cons ac (.cons ad .nil)))))))))) env = mapT PyData.tuple (tx.bind fun x => ty.bind fun y => tz.bind fun z => tu.bind fun u => tv.bind fun v => tw.bind fun w => ta.bind fun a => tb.bind fun b => tc.bind fun c => td.bind fun d => .ret [mx x, my y, mz z, mu u, mv v, mw w, ma a, mb b, mc c, md d]) := by
  show ((ev F ax env).bind fun x => (ev F (.cons ay (.cons az (.cons au (.cons av (.cons aw (.cons aa (.cons ab (.cons ac (.cons ad .nil))))))))) env).bind fun y => match y with | .tuple ys => Tr.ret (PyData.tuple (x :: ys)) | _ => .fail) = _
  rw [hx, mapT_bind, mapT_of]
  refine bind_congr fun x => ?_
  rw [args9 hy hz hu hv hw ha hb hc hd, mapT_bind]
  simp only [mapT_of, Tr.bind_assoc, bind_r]
  try rfl
theorem args11 {τ0 : Type} {τ1 : Type} {τ2 : Type} {τ3 : Type} {τ4 : Type} {τ5 : Type} {τ6 : Type} {τ7 : Type} {τ8 : Type} {τ9 : Type} {τ10 : Type} {mx : τ0 → PyData} {my : τ1 → PyData} {mz : τ2 → PyData} {mu : τ3 → PyData} {mv : τ4 → PyData} {mw : τ5 → PyData} {ma : τ6 → PyData} {mb : τ7 → PyData} {mc : τ8 → PyData} {md : τ9 → PyData} {mk : τ10 → PyData} {tx : Tr τ0} {ty : Tr τ1} {tz : Tr τ2} {tu : Tr τ3} {tv : Tr τ4} {tw : Tr τ5} {ta : Tr τ6} {tb : Tr τ7} {tc : Tr τ8} {td : Tr τ9} {tk : Tr τ10} {ax : E} {ay : E} {az : E} {au : E} {av : E} {aw : E} {aa : E} {ab : E} {ac : E} {ad : E} {ak : E} (hx : ev F ax env = mapT mx tx) (hy : ev F ay env = mapT my ty) (hz : ev F az env = mapT mz tz) (hu : ev F au env = mapT mu tu) (hv : ev F av env = mapT mv tv) (hw : ev F aw env = mapT mw tw) (ha : ev F aa env = mapT ma ta) (hb : ev F ab env = mapT mb tb) (hc : ev F ac env = mapT mc tc) (hd : ev F ad env = mapT md td) (hk : ev F ak env = mapT mk tk) : ev F (.cons ax (.cons ay (.cons az (.cons au (.cons av (.cons aw (.cons aa (.cons ab (.cons ac (.cons ad (.cons ak .nil))))))))))) env = mapT PyData.tuple (tx.bind fun x => ty.bind fun y => tz.bind fun z => tu.bind fun u => tv.bind fun v => tw.bind fun w => ta.bind fun a => tb.bind fun b => tc.bind fun c => td.bind fun d => tk.bind fun k => .ret [mx x, my y, mz z, mu u, mv v, mw w, ma a, mb b, mc c, md d, mk k]) := by
  show ((ev F ax env).bind fun x => (ev F (.cons ay (.cons az (.cons au (.cons av (.cons aw (.cons aa (.cons ab (.cons ac (.cons ad (.cons ak .nil)))))))))) env).bind fun y => match y with | .tuple ys => Tr.ret (PyData.tuple (x :: ys)) | _ => .fail) = _
  rw [hx, mapT_bind, mapT_of]
  refine bind_congr fun x => ?_
  rw [args10 hy hz hu hv hw ha hb hc hd hk, mapT_bind]
  simp only [mapT_of, Tr.bind_assoc, bind_r]
  try rfl
theorem args12 {τ0 : Type} {τ1 : Type} {τ2 : Type} {τ3 : Type} {τ4 : Type} {τ5 : Type} {τ6 : Type} {τ7 : Type} {τ8 : Type} {τ9 : Type} {τ10 : Type} {τ11 : Type} {mx : τ0 → PyData} {my : τ1 → PyData} {mz : τ2 → PyData} {mu : τ3 → PyData} {mv : τ4 → PyData} {mw : τ5 → PyData} {ma : τ6 → PyData} {mb : τ7 → PyData} {mc : τ8 → PyData} {md : τ9 → PyData} {mk : τ10 → PyData} {ml : τ11 → PyData} {tx : Tr τ0} {ty : Tr τ1} {tz : Tr τ2} {tu : Tr τ3} {tv : Tr τ4} {tw : Tr τ5} {ta : Tr τ6} {tb : Tr τ7} {tc : Tr τ8} {td : Tr τ9} {tk : Tr τ10} {tl : Tr τ11} {ax : E} {ay : E} {az : E} {au : E} {av : E} {aw : E} {aa : E} {ab : E} {ac : E} {ad : E} {ak : E} {al : E} (hx : ev F ax env = mapT mx tx) (hy : ev F ay env = mapT my ty) (hz : ev F az env = mapT mz tz) (hu : ev F au env = mapT mu tu) (hv : ev F av env = mapT mv tv) (hw : ev F aw env = mapT mw tw) (ha : ev F aa env = mapT ma ta) (hb : ev F ab env = mapT mb tb) (hc : ev F ac env = mapT mc tc) (hd : ev F ad env = mapT md td) (hk : ev F ak env = mapT mk tk) (hl : ev F al env = mapT ml tl) : ev F (.cons ax (.cons ay (.cons az (.cons au (.cons av (.cons aw (.cons aa (.cons ab (.cons ac (.cons ad (.cons ak (.cons al .nil)))))))))))) env = mapT PyData.tuple (tx.bind fun x => ty.bind fun y => tz.bind fun z => tu.bind fun u => tv.bind fun v => tw.bind fun w => ta.bind fun a => tb.bind fun b => tc.bind fun c => td.bind fun d => tk.bind fun k => tl.bind fun l => .ret [mx x, my y, mz z, mu u, mv v, mw w, ma a, mb b, mc c, md d, mk k, ml l]) := by
  show ((ev F ax env).bind fun x => (ev F (.cons ay (.cons az (.cons au (.cons av (.cons aw (.cons aa (.cons ab (.cons ac (.cons ad (.cons ak (.cons al .nil))))))))))) env).bind fun y => match y with | .tuple ys => Tr.ret (PyData.tuple (x :: ys)) | _ => .fail) = _
  rw [hx, mapT_bind, mapT_of]
  refine bind_congr fun x => ?_
  rw [args11 hy hz hu hv hw ha hb hc hd hk hl, mapT_bind]
  simp only [mapT_of, Tr.bind_assoc, bind_r]
  try rfl
theorem args13 {τ0 : Type} {τ1 : Type} {τ2 : Type} {τ3 : Type} {τ4 : Type} {τ5 : Type} {τ6 : Type} {τ7 : Type} {τ8 : Type} {τ9 : Type} {τ10 : Type} {τ11 : Type} {τ12 : Type} {mx : τ0 → PyData} {my : τ1 → PyData} {mz : τ2 → PyData} {mu : τ3 → PyData} {mv : τ4 → PyData} {mw : τ5 → PyData} {ma : τ6 → PyData} {mb : τ7 → PyData} {mc : τ8 → PyData} {md : τ9 → PyData} {mk : τ10 → PyData} {ml : τ11 → PyData} {mn : τ12 → PyData} {tx : Tr τ0} {ty : Tr τ1} {tz : Tr τ2} {tu : Tr τ3} {tv : Tr τ4} {tw : Tr τ5} {ta : Tr τ6} {tb : Tr τ7} {tc : Tr τ8} {td : Tr τ9} {tk : Tr τ10} {tl : Tr τ11} {tn : Tr τ12} {ax : E} {ay : E} {az : E} {au : E} {av : E} {aw : E} {aa : E} {ab : E} {ac : E} {ad : E} {ak : E} {al : E} {an : E} (hx : ev F ax env = mapT mx tx) (hy : ev F ay env = mapT my ty) (hz : ev F az env = mapT mz tz) (hu : ev F au env = mapT mu tu) (hv : ev F av env = mapT mv tv) (hw : ev F aw env = mapT mw tw) (ha : ev F aa env = mapT ma ta) (hb : ev F ab env = mapT mb tb) (hc : ev F ac env = mapT mc tc) (hd : ev F ad env = mapT md td) (hk : ev F ak env = mapT mk tk) (hl : ev F al env = mapT ml tl) (hn : ev F an env = mapT mn tn) : ev F (.cons ax (.cons ay (.cons az (.cons au (.cons av (.cons aw (.cons aa (.cons ab (.cons ac (.cons ad (.cons ak (.cons al (.cons an .nil))))))))))))) env = mapT PyData.tuple (tx.bind fun x => ty.bind fun y => tz.bind fun z => tu.bind fun u => tv.bind fun v => tw.bind fun w => ta.bind fun a => tb.bind fun b => tc.bind fun c => td.bind fun d => tk.bind fun k => tl.bind fun l => tn.bind fun n => .ret [mx x, my y, mz z, mu u, mv v, mw w, ma a, mb b, mc c, md d, mk k, ml l, mn n]) := by
  show ((ev F ax env).bind fun x => (ev F (.cons ay (.cons az (.cons au (.cons av (.cons aw (.cons aa (.cons ab (.cons ac (.cons ad (.cons ak (.cons al (.cons an .nil)))))))))))) env).bind fun y => match y with | .tuple ys => Tr.ret (PyData.tuple (x :: ys)) | _ => .fail) = _
  rw [hx, mapT_bind, mapT_of]
  refine bind_congr fun x => ?_
  rw [args12 hy hz hu hv hw ha hb hc hd hk hl hn, mapT_bind]
  simp only [mapT_of, Tr.bind_assoc, bind_r]
  try rfl
theorem args14 {τ0 : Type} {τ1 : Type} {τ2 : Type} {τ3 : Type} {τ4 : Type} {τ5 : Type} {τ6 : Type} {τ7 : Type} {τ8 : Type} {τ9 : Type} {τ10 : Type} {τ11 : Type} {τ12 : Type} {τ13 : Type} {mx : τ0 → PyData} {my : τ1 → PyData} {mz : τ2 → PyData} {mu : τ3 → PyData} {mv : τ4 → PyData} {mw : τ5 → PyData} {ma : τ6 → PyData} {mb : τ7 → PyData} {mc : τ8 → PyData} {md : τ9 → PyData} {mk : τ10 → PyData} {ml : τ11 → PyData} {mn : τ12 → PyData} {mo : τ13 → PyData} {tx : Tr τ0} {ty : Tr τ1} {tz : Tr τ2} {tu : Tr τ3} {tv : Tr τ4} {tw : Tr τ5} {ta : Tr τ6} {tb : Tr τ7} {tc : Tr τ8} {td : Tr τ9} {tk : Tr τ10} {tl : Tr τ11} {tn : Tr τ12} {to : Tr τ13} {ax : E} {ay : E} {az : E} {au : E} {av : E} {aw : E} {aa : E} {ab : E} {ac : E} {ad : E} {ak : E} {al : E} {an : E} {ao : E} (hx : ev F ax env = mapT mx tx) (hy : ev F ay env = mapT my ty) (hz : ev F az env = mapT mz tz) (hu : ev F au env = mapT mu tu) (hv : ev F av env = mapT mv tv) (hw : ev F aw env = mapT mw tw) (ha : ev F aa env = mapT ma ta) (hb : ev F ab env = mapT mb tb) (hc : ev F ac env = mapT mc tc) (hd : ev F ad env = mapT md td) (hk : ev F ak env = mapT mk tk) (hl : ev F al env = mapT ml tl) (hn : ev F an env = mapT mn tn) (ho : ev F ao env = mapT mo to) : ev F (.cons ax (.cons ay (.cons az (.cons au (.cons av (.cons aw (.cons aa (.cons ab (.cons ac (.cons ad (.cons ak (.cons al (.cons an (.cons ao .nil)))))))))))))) env = mapT PyData.tuple (tx.bind fun x => ty.bind fun y => tz.bind fun z => tu.bind fun u => tv.bind fun v => tw.bind fun w => ta.bind fun a => tb.bind fun b => tc.bind fun c => td.bind fun d => tk.bind fun k => tl.bind fun l => tn.bind fun n => to.bind fun o => .ret [mx x, my y, mz z, mu u, mv v, mw w, ma a, mb b, mc c, md d, mk k, ml l, mn n, mo o]) := by
  show ((ev F ax env).bind fun x => (ev F (.cons ay (.cons az (.cons au (.cons av (.cons aw (.cons aa (.cons ab (.cons ac (.cons ad (.cons ak (.cons al (.cons an (.cons ao .nil))))))))))))) env).bind fun y => match y with | .tuple ys => Tr.ret (PyData.tuple (x :: ys)) | _ => .fail) = _
  rw [hx, mapT_bind, mapT_of]
  refine bind_congr fun x => ?_
  rw [args13 hy hz hu hv hw ha hb hc hd hk hl hn ho, mapT_bind]
  simp only [mapT_of, Tr.bind_assoc, bind_r]
  try rfl
theorem args15 {τ0 : Type} {τ1 : Type} {τ2 : Type} {τ3 : Type} {τ4 : Type} {τ5 : Type} {τ6 : Type} {τ7 : Type} {τ8 : Type} {τ9 : Type} {τ10 : Type} {τ11 : Type} {τ12 : Type} {τ13 : Type} {τ14 : Type} {mx : τ0 → PyData} {my : τ1 → PyData} {mz : τ2 → PyData} {mu : τ3 → PyData} {mv : τ4 → PyData} {mw : τ5 → PyData} {ma : τ6 → PyData} {mb : τ7 → PyData} {mc : τ8 → PyData} {md : τ9 → PyData} {mk : τ10 → PyData} {ml : τ11 → PyData} {mn : τ12 → PyData} {mo : τ13 → PyData} {mp : τ14 → PyData} {tx : Tr τ0} {ty : Tr τ1} {tz : Tr τ2} {tu : Tr τ3} {tv : Tr τ4} {tw : Tr τ5} {ta : Tr τ6} {tb : Tr τ7} {tc : Tr τ8} {td : Tr τ9} {tk : Tr τ10} {tl : Tr τ11} {tn : Tr τ12} {to : Tr τ13} {tp : Tr τ14} {ax : E} {ay : E} {az : E} {au : E} {av : E} {aw : E} {aa : E} {ab : E} {ac : E} {ad : E} {ak : E} {al : E} {an : E} {ao : E} {ap : E} (hx : ev F ax env = mapT mx tx) (hy : ev F ay env = mapT my ty) (hz : ev F az env = mapT mz tz) (hu : ev F au env = mapT mu tu) (hv : ev F av env = mapT mv tv) (hw : ev F aw env = mapT mw tw) (ha : ev F aa env = mapT ma ta) (hb : ev F ab env = mapT mb tb) (hc : ev F ac env = mapT mc tc) (hd : ev F ad env = mapT md td) (hk : ev F ak env = mapT mk tk) (hl : ev F al env = mapT ml tl) (hn : ev F an env = mapT mn tn) (ho : ev F ao env = mapT mo to) (hp : ev F ap env = mapT mp tp) : ev F (.cons ax (.cons ay (.cons az (.cons au (.cons av (.cons aw (.cons aa (.cons ab (.cons ac (.cons ad (.cons ak (.cons al (.cons an (.cons ao (.cons ap .nil))))))))))))))) env = mapT PyData.tuple (tx.bind fun x => ty.bind fun y => tz.bind fun z => tu.bind fun u => tv.bind fun v => tw.bind fun w => ta.bind fun a => tb.bind fun b => tc.bind fun c => td.bind fun d => tk.bind fun k => tl.bind fun l => tn.bind fun n => to.bind fun o => tp.bind fun p => .ret [mx x, my y, mz z, mu u, mv v, mw w, ma a, mb b, mc c, md d, mk k, ml l, mn n, mo o, mp p]) := by
  show ((ev F ax env).bind fun x => (ev F (.cons ay (.cons az (.cons au (.cons av (.cons aw (.cons aa (.cons ab (.cons ac (.cons ad (.cons ak (.cons al (.cons an (.cons ao (.cons ap .nil)))))))))))))) env).bind fun y => match y with | .tuple ys => Tr.ret (PyData.tuple (x :: ys)) | _ => .fail) = _
  rw [hx, mapT_bind, mapT_of]
  refine bind_congr fun x => ?_
  rw [args14 hy hz hu hv hw ha hb hc hd hk hl hn ho hp, mapT_bind]
  simp only [mapT_of, Tr.bind_assoc, bind_r]
  try rfl
theorem args16 {τ0 : Type} {τ1 : Type} {τ2 : Type} {τ3 : Type} {τ4 : Type} {τ5 : Type} {τ6 : Type} {τ7 : Type} {τ8 : Type} {τ9 : Type} {τ10 : Type} {τ11 : Type} {τ12 : Type} {τ13 : Type} {τ14 : Type} {τ15 : Type} {mx : τ0 → PyData} {my : τ1 → PyData} {mz : τ2 → PyData} {mu : τ3 → PyData} {mv : τ4 → PyData} {mw : τ5 → PyData} {ma : τ6 → PyData} {mb : τ7 → PyData} {mc : τ8 → PyData} {md : τ9 → PyData} {mk : τ10 → PyData} {ml : τ11 → PyData} {mn : τ12 → PyData} {mo : τ13 → PyData} {mp : τ14 → PyData} {mq : τ15 → PyData} {tx : Tr τ0} {ty : Tr τ1} {tz : Tr τ2} {tu : Tr τ3} {tv : Tr τ4} {tw : Tr τ5} {ta : Tr τ6} {tb : Tr τ7} {tc : Tr τ8} {td : Tr τ9} {tk : Tr τ10} {tl : Tr τ11} {tn : Tr τ12} {to : Tr τ13} {tp : Tr τ14} {tq : Tr τ15} {ax : E} {ay : E} {az : E} {au : E} {av : E} {aw : E} {aa : E} {ab : E} {ac : E} {ad : E} {ak : E} {al : E} {an : E} {ao : E} {ap : E} {aq : E} (hx : ev F ax env = mapT mx tx) (hy : ev F ay env = mapT my ty) (hz : ev F az env = mapT mz tz) (hu : ev F au env = mapT mu tu) (hv : ev F av env = mapT mv tv) (hw : ev F aw env = mapT mw tw) (ha : ev F aa env = mapT ma ta) (hb : ev F ab env = mapT mb tb) (hc : ev F ac env = mapT mc tc) (hd : ev F ad env = mapT md td) (hk : ev F ak env = mapT mk tk) (hl : ev F al env = mapT ml tl) (hn : ev F an env = mapT mn tn) (ho : ev F ao env = mapT mo to) (hp : ev F ap env = mapT mp tp) (hq : ev F aq env = mapT mq tq) : ev F (.cons ax (.cons ay (.cons az (.cons au (.cons av (.cons aw (.cons aa (.cons ab (.cons ac (.cons ad (.cons ak (.cons al (.cons an (.cons ao (.cons ap (.cons aq .nil)))))))))))))))) env = mapT PyData.tuple (tx.bind fun x => ty.bind fun y => tz.bind fun z => tu.bind fun u => tv.bind fun v => tw.bind fun w => ta.bind fun a => tb.bind fun b => tc.bind fun c => td.bind fun d => tk.bind fun k => tl.bind fun l => tn.bind fun n => to.bind fun o => tp.bind fun p => tq.bind fun q => .ret [mx x, my y, mz z, mu u, mv v, mw w, ma a, mb b, mc c, md d, mk k, ml l, mn n, mo o, mp p, mq q]) := by
  show ((ev F ax env).bind fun x => (ev F (.cons ay (.cons az (.cons au (.cons av (.cons aw (.cons aa (.cons ab (.cons ac (.cons ad (.cons ak (.cons al (.cons an (.cons ao (.cons ap (.cons aq .nil))))))))))))))) env).bind fun y => match y with | .tuple ys => Tr.ret (PyData.tuple (x :: ys)) | _ => .fail) = _
  rw [hx, mapT_bind, mapT_of]
  refine bind_congr fun x => ?_
  rw [args15 hy hz hu hv hw ha hb hc hd hk hl hn ho hp hq, mapT_bind]
  simp only [mapT_of, Tr.bind_assoc, bind_r]
  try rfl
theorem t_bi1 {f : Bi} {ec : γ → PyData} {τ0 : Type} {mx : τ0 → PyData} {tx : Tr τ0} {ax : E} {g : τ0 → Tr γ} (hf : ∀ x, Tr.ofO (biD f [mx x]) = mapT ec (g x)) (hx : ev F ax env = mapT mx tx) : ev F (.bi f (.cons ax .nil)) env = mapT ec (tx.bind fun x => g x) := by
  show (ev F (.cons ax .nil) env).bind _ = _
  rw [args1 hx, mapT_bind]
  simp only [mapT_of, Tr.bind_assoc, bind_r, hf]
theorem t_bi2 {f : Bi} {ec : γ → PyData} {τ0 : Type} {τ1 : Type} {mx : τ0 → PyData} {my : τ1 → PyData} {tx : Tr τ0} {ty : Tr τ1} {ax : E} {ay : E} {g : τ0 → τ1 → Tr γ} (hf : ∀ x y, Tr.ofO (biD f [mx x, my y]) = mapT ec (g x y)) (hx : ev F ax env = mapT mx tx) (hy : ev F ay env = mapT my ty) : ev F (.bi f (.cons ax (.cons ay .nil))) env = mapT ec (tx.bind fun x => ty.bind fun y => g x y) := by
  show (ev F (.cons ax (.cons ay .nil)) env).bind _ = _
  rw [args2 hx hy, mapT_bind]
  simp only [mapT_of, Tr.bind_assoc, bind_r, hf]
theorem t_bi3 {f : Bi} {ec : γ → PyData} {τ0 : Type} {τ1 : Type} {τ2 : Type} {mx : τ0 → PyData} {my : τ1 → PyData} {mz : τ2 → PyData} {tx : Tr τ0} {ty : Tr τ1} {tz : Tr τ2} {ax : E} {ay : E} {az : E} {g : τ0 → τ1 → τ2 → Tr γ} (hf : ∀ x y z, Tr.ofO (biD f [mx x, my y, mz z]) = mapT ec (g x y z)) (hx : ev F ax env = mapT mx tx) (hy : ev F ay env = mapT my ty) (hz : ev F az env = mapT mz tz) : ev F (.bi f (.cons ax (.cons ay (.cons az .nil)))) env = mapT ec (tx.bind fun x => ty.bind fun y => tz.bind fun z => g x y z) := by
  show (ev F (.cons ax (.cons ay (.cons az .nil))) env).bind _ = _
  rw [args3 hx hy hz, mapT_bind]
  simp only [mapT_of, Tr.bind_assoc, bind_r, hf]
theorem t_call0 {f : Nat} {ec : γ → PyData}     {g : Tr γ} (hf : F f false [] = mapT ec (g))  : ev F (.call f .nil) env = mapT ec (g ) := by
  rw [e_call]
  rw [args0, mapT_bind]
  simp only [mapT_of, Tr.bind_assoc, bind_r, hf]
theorem t_callp0 {f : Nat} {i : Nat} (hp : getE i env = .pool) {ec : γ → PyData}     {g : Tr γ} (hf : F f true [] = mapT ec (g))  : ev F (.callp f i .nil) env = mapT ec (g ) := by
  rw [e_callp _ hp]
  rw [args0, mapT_bind]
  simp only [mapT_of, Tr.bind_assoc, bind_r, hf]
theorem t_call1 {f : Nat} {ec : γ → PyData} {τ0 : Type} {mx : τ0 → PyData} {tx : Tr τ0} {ax : E} {g : τ0 → Tr γ} (hf : ∀ x, F f false [mx x] = mapT ec (g x)) (hx : ev F ax env = mapT mx tx) : ev F (.call f (.cons ax .nil)) env = mapT ec (tx.bind fun x => g x) := by
  rw [e_call]
  rw [args1 hx, mapT_bind]
  simp only [mapT_of, Tr.bind_assoc, bind_r, hf]
theorem t_callp1 {f : Nat} {i : Nat} (hp : getE i env = .pool) {ec : γ → PyData} {τ0 : Type} {mx : τ0 → PyData} {tx : Tr τ0} {ax : E} {g : τ0 → Tr γ} (hf : ∀ x, F f true [mx x] = mapT ec (g x)) (hx : ev F ax env = mapT mx tx) : ev F (.callp f i (.cons ax .nil)) env = mapT ec (tx.bind fun x => g x) := by
  rw [e_callp _ hp]
  rw [args1 hx, mapT_bind]
  simp only [mapT_of, Tr.bind_assoc, bind_r, hf]
theorem t_call2 {f : Nat} {ec : γ → PyData} {τ0 : Type} {τ1 : Type} {mx : τ0 → PyData} {my : τ1 → PyData} {tx : Tr τ0} {ty : Tr τ1} {ax : E} {ay : E} {g : τ0 → τ1 → Tr γ} (hf : ∀ x y, F f false [mx x, my y] = mapT ec (g x y)) (hx : ev F ax env = mapT mx tx) (hy : ev F ay env = mapT my ty) : ev F (.call f (.cons ax (.cons ay .nil))) env = mapT ec (tx.bind fun x => ty.bind fun y => g x y) := by
  rw [e_call]
  rw [args2 hx hy, mapT_bind]
  simp only [mapT_of, Tr.bind_assoc, bind_r, hf]
theorem t_callp2 {f : Nat} {i : Nat} (hp : getE i env = .pool) {ec : γ → PyData} {τ0 : Type} {τ1 : Type} {mx : τ0 → PyData} {my : τ1 → PyData} {tx : Tr τ0} {ty : Tr τ1} {ax : E} {ay : E} {g : τ0 → τ1 → Tr γ} (hf : ∀ x y, F f true [mx x, my y] = mapT ec (g x y)) (hx : ev F ax env = mapT mx tx) (hy : ev F ay env = mapT my ty) : ev F (.callp f i (.cons ax (.cons ay .nil))) env = mapT ec (tx.bind fun x => ty.bind fun y => g x y) := by
  rw [e_callp _ hp]
  rw [args2 hx hy, mapT_bind]
  simp only [mapT_of, Tr.bind_assoc, bind_r, hf]
theorem t_call3 {f : Nat} {ec : γ → PyData} {τ0 : Type} {τ1 : Type} {τ2 : Type} {mx : τ0 → PyData} {my : τ1 → PyData} {mz : τ2 → PyData} {tx : Tr τ0} {ty : Tr τ1} {tz : Tr τ2} {ax : E} {ay : E} {az : E} {g : τ0 → τ1 → τ2 → Tr γ} (hf : ∀ x y z, F f false [mx x, my y, mz z] = mapT ec (g x y z)) (hx : ev F ax env = mapT mx tx) (hy : ev F ay env = mapT my ty) (hz : ev F az env = mapT mz tz) : ev F (.call f (.cons ax (.cons ay (.cons az .nil)))) env = mapT ec (tx.bind fun x => ty.bind fun y => tz.bind fun z => g x y z) := by
  rw [e_call]
  rw [args3 hx hy hz, mapT_bind]
  simp only [mapT_of, Tr.bind_assoc, bind_r, hf]
theorem t_callp3 {f : Nat} {i : Nat} (hp : getE i env = .pool) {ec : γ → PyData} {τ0 : Type} {τ1 : Type} {τ2 : Type} {mx : τ0 → PyData} {my : τ1 → PyData} {mz : τ2 → PyData} {tx : Tr τ0} {ty : Tr τ1} {tz : Tr τ2} {ax : E} {ay : E} {az : E} {g : τ0 → τ1 → τ2 → Tr γ} (hf : ∀ x y z, F f true [mx x, my y, mz z] = mapT ec (g x y z)) (hx : ev F ax env = mapT mx tx) (hy : ev F ay env = mapT my ty) (hz : ev F az env = mapT mz tz) : ev F (.callp f i (.cons ax (.cons ay (.cons az .nil)))) env = mapT ec (tx.bind fun x => ty.bind fun y => tz.bind fun z => g x y z) := by
  rw [e_callp _ hp]
  rw [args3 hx hy hz, mapT_bind]
  simp only [mapT_of, Tr.bind_assoc, bind_r, hf]
theorem t_call4 {f : Nat} {ec : γ → PyData} {τ0 : Type} {τ1 : Type} {τ2 : Type} {τ3 : Type} {mx : τ0 → PyData} {my : τ1 → PyData} {mz : τ2 → PyData} {mu : τ3 → PyData} {tx : Tr τ0} {ty : Tr τ1} {tz : Tr τ2} {tu : Tr τ3} {ax : E} {ay : E} {az : E} {au : E} {g : τ0 → τ1 → τ2 → τ3 → Tr γ} (hf : ∀ x y z u, F f false [mx x, my y, mz z, mu u] = mapT ec (g x y z u)) (hx : ev F ax env = mapT mx tx) (hy : ev F ay env = mapT my ty) (hz : ev F az env = mapT mz tz) (hu : ev F au env = mapT mu tu) : ev F (.call f (.cons ax (.cons ay (.cons az (.cons au .nil))))) env = mapT ec (tx.bind fun x => ty.bind fun y => tz.bind fun z => tu.bind fun u => g x y z u) := by
  rw [e_call]
  rw [args4 hx hy hz hu, mapT_bind]
  simp only [mapT_of, Tr.bind_assoc, bind_r, hf]
theorem t_callp4 {f : Nat} {i : Nat} (hp : getE i env = .pool) {ec : γ → PyData} {τ0 : Type} {τ1 : Type} {τ2 : Type} {τ3 : Type} {mx : τ0 → PyData} {my : τ1 → PyData} {mz : τ2 → PyData} {mu : τ3 → PyData} {tx : Tr τ0} {ty : Tr τ1} {tz : Tr τ2} {tu : Tr τ3} {ax : E} {ay : E} {az : E} {au : E} {g : τ0 → τ1 → τ2 → τ3 → Tr γ} (hf : ∀ x y z u, F f true [mx x, my y, mz z, mu u] = mapT ec (g x y z u)) (hx : ev F ax env = mapT mx tx) (hy : ev F ay env = mapT my ty) (hz : ev F az env = mapT mz tz) (hu : ev F au env = mapT mu tu) : ev F (.callp f i (.cons ax (.cons ay (.cons az (.cons au .nil))))) env = mapT ec (tx.bind fun x => ty.bind fun y => tz.bind fun z => tu.bind fun u => g x y z u) := by
  rw [e_callp _ hp]
  rw [args4 hx hy hz hu, mapT_bind]
  simp only [mapT_of, Tr.bind_assoc, bind_r, hf]
theorem t_call5 {f : Nat} {ec : γ → PyData} {τ0 : Type} {τ1 : Type} {τ2 : Type} {τ3 : Type} {τ4 : Type} {mx : τ0 → PyData} {my : τ1 → PyData} {mz : τ2 → PyData} {mu : τ3 → PyData} {mv : τ4 → PyData} {tx : Tr τ0} {ty : Tr τ1} {tz : Tr τ2} {tu : Tr τ3} {tv : Tr τ4} {ax : E} {ay : E} {az : E} {au : E} {av : E} {g : τ0 → τ1 → τ2 → τ3 → τ4 → Tr γ} (hf : ∀ x y z u v, F f false [mx x, my y, mz z, mu u, mv v] = mapT ec (g x y z u v)) (hx : ev F ax env = mapT mx tx) (hy : ev F ay env = mapT my ty) (hz : ev F az env = mapT mz tz) (hu : ev F au env = mapT mu tu) (hv : ev F av env = mapT mv tv) : ev F (.call f (.cons ax (.cons ay (.cons az (.cons au (.cons av .nil)))))) env = mapT ec (tx.bind fun x => ty.bind fun y => tz.bind fun z => tu.bind fun u => tv.bind fun v => g x y z u v) := by
  rw [e_call]
  rw [args5 hx hy hz hu hv, mapT_bind]
  simp only [mapT_of, Tr.bind_assoc, bind_r, hf]
theorem t_callp5 {f : Nat} {i : Nat} (hp : getE i env = .pool) {ec : γ → PyData} {τ0 : Type} {τ1 : Type} {τ2 : Type} {τ3 : Type} {τ4 : Type} {mx : τ0 → PyData} {my : τ1 → PyData} {mz : τ2 → PyData} {mu : τ3 → PyData} {mv : τ4 → PyData} {tx : Tr τ0} {ty : Tr τ1} {tz : Tr τ2} {tu : Tr τ3} {tv : Tr τ4} {ax : E} {ay : E} {az : E} {au : E} {av : E} {g : τ0 → τ1 → τ2 → τ3 → τ4 → Tr γ} (hf : ∀ x y z u v, F f true [mx x, my y, mz z, mu u, mv v] = mapT ec (g x y z u v)) (hx : ev F ax env = mapT mx tx) (hy : ev F ay env = mapT my ty) (hz : ev F az env = mapT mz tz) (hu : ev F au env = mapT mu tu) (hv : ev F av env = mapT mv tv) : ev F (.callp f i (.cons ax (.cons ay (.cons az (.cons au (.cons av .nil)))))) env = mapT ec (tx.bind fun x => ty.bind fun y => tz.bind fun z => tu.bind fun u => tv.bind fun v => g x y z u v) := by
  rw [e_callp _ hp]
  rw [args5 hx hy hz hu hv, mapT_bind]
  simp only [mapT_of, Tr.bind_assoc, bind_r, hf]
theorem t_call6 {f : Nat} {ec : γ → PyData} {τ0 : Type} {τ1 : Type} {τ2 : Type} {τ3 : Type} {τ4 : Type} {τ5 : Type} {mx : τ0 → PyData} {my : τ1 → PyData} {mz : τ2 → PyData} {mu : τ3 → PyData} {mv : τ4 → PyData} {mw : τ5 → PyData} {tx : Tr τ0} {ty : Tr τ1} {tz : Tr τ2} {tu : Tr τ3} {tv : Tr τ4} {tw : Tr τ5} {ax : E} {ay : E} {az : E} {au : E} {av : E} {aw : E} {g : τ0 → τ1 → τ2 → τ3 → τ4 → τ5 → Tr γ} (hf : ∀ x y z u v w, F f false [mx x, my y, mz z, mu u, mv v, mw w] = mapT ec (g x y z u v w)) (hx : ev F ax env = mapT mx tx) (hy : ev F ay env = mapT my ty) (hz : ev F az env = mapT mz tz) (hu : ev F au env = mapT mu tu) (hv : ev F av env = mapT mv tv) (hw : ev F aw env = mapT mw tw) : ev F (.call f (.cons ax (.cons ay (.cons az (.cons au (.cons av (.cons aw .nil))))))) env = mapT ec (tx.bind fun x => ty.bind fun y => tz.bind fun z => tu.bind fun u => tv.bind fun v => tw.bind fun w => g x y z u v w) := by
  rw [e_call]
  rw [args6 hx hy hz hu hv hw, mapT_bind]
  simp only [mapT_of, Tr.bind_assoc, bind_r, hf]
theorem t_callp6 {f : Nat} {i : Nat} (hp : getE i env = .pool) {ec : γ → PyData} {τ0 : Type} {τ1 : Type} {τ2 : Type} {τ3 : Type} {τ4 : Type} {τ5 : Type} {mx : τ0 → PyData} {my : τ1 → PyData} {mz : τ2 → PyData} {mu : τ3 → PyData} {mv : τ4 → PyData} {mw : τ5 → PyData} {tx : Tr τ0} {ty : Tr τ1} {tz : Tr τ2} {tu : Tr τ3} {tv : Tr τ4} {tw : Tr τ5} {ax : E} {ay : E} {az : E} {au : E} {av : E} {aw : E} {g : τ0 → τ1 → τ2 → τ3 → τ4 → τ5 → Tr γ} (hf : ∀ x y z u v w, F f true [mx x, my y, mz z, mu u, mv v, mw w] = mapT ec (g x y z u v w)) (hx : ev F ax env = mapT mx tx) (hy : ev F ay env = mapT my ty) (hz : ev F az env = mapT mz tz) (hu : ev F au env = mapT mu tu) (hv : ev F av env = mapT mv tv) (hw : ev F aw env = mapT mw tw) : ev F (.callp f i (.cons ax (.cons ay (.cons az (.cons au (.cons av (.cons aw .nil))))))) env = mapT ec (tx.bind fun x => ty.bind fun y => tz.bind fun z => tu.bind fun u => tv.bind fun v => tw.bind fun w => g x y z u v w) := by
  rw [e_callp _ hp]
  rw [args6 hx hy hz hu hv hw, mapT_bind]
  simp only [mapT_of, Tr.bind_assoc, bind_r, hf]
theorem rngD1 (x : Int) : Tr.ofO ((rngD [.int x]).map PyData.list) = mapT (eL PyData.int) (rng1T x) := by
  show Tr.ofO ((cond _ (some (upI _ _ _)) none).map PyData.list) = _
  rw [up_map]
  unfold rng1T
  generalize (_ && _ : Bool) = c
  cases c <;> rfl
theorem rngDt1 (x : Int) : Tr.ofO ((rngD [.int x]).map PyData.tuple) = mapT (eT PyData.int) (rng1T x) := by
  show Tr.ofO ((cond _ (some (upI _ _ _)) none).map PyData.tuple) = _
  rw [up_map]
  unfold rng1T
  generalize (_ && _ : Bool) = c
  cases c <;> rfl
theorem t_rng1 {tx : Tr Int} {ax : E} (hx : ev F ax env = mapT PyData.int tx) : ev F (.rng (.cons ax .nil)) env = mapT (eL PyData.int) (tx.bind fun x => rng1T x) := by
  show (ev F (.cons ax .nil) env).bind _ = _
  rw [args1 hx, mapT_bind]
  simp only [mapT_of, Tr.bind_assoc, bind_r, rngD1]
theorem t_rngl1 {tx : Tr Int} {ax : E} (hx : ev F ax env = mapT PyData.int tx) : ev F (.rngl (.cons ax .nil)) env = mapT (eL PyData.int) (tx.bind fun x => rng1T x) := by
  show (ev F (.cons ax .nil) env).bind _ = _
  rw [args1 hx, mapT_bind]
  simp only [mapT_of, Tr.bind_assoc, bind_r, rngD1]
theorem t_rngt1 {tx : Tr Int} {ax : E} (hx : ev F ax env = mapT PyData.int tx) : ev F (.rngt (.cons ax .nil)) env = mapT (eT PyData.int) (tx.bind fun x => rng1T x) := by
  show (ev F (.cons ax .nil) env).bind _ = _
  rw [args1 hx, mapT_bind]
  simp only [mapT_of, Tr.bind_assoc, bind_r, rngDt1]
theorem rngD2 (x y : Int) : Tr.ofO ((rngD [.int x, .int y]).map PyData.list) = mapT (eL PyData.int) (rng2T x y) := by
  show Tr.ofO ((cond _ (some (upI _ _ _)) none).map PyData.list) = _
  rw [up_map]
  unfold rng2T
  generalize (_ && _ : Bool) = c
  cases c <;> rfl
theorem rngDt2 (x y : Int) : Tr.ofO ((rngD [.int x, .int y]).map PyData.tuple) = mapT (eT PyData.int) (rng2T x y) := by
  show Tr.ofO ((cond _ (some (upI _ _ _)) none).map PyData.tuple) = _
  rw [up_map]
  unfold rng2T
  generalize (_ && _ : Bool) = c
  cases c <;> rfl
theorem t_rng2 {tx : Tr Int} {ty : Tr Int} {ax : E} {ay : E} (hx : ev F ax env = mapT PyData.int tx) (hy : ev F ay env = mapT PyData.int ty) : ev F (.rng (.cons ax (.cons ay .nil))) env = mapT (eL PyData.int) (tx.bind fun x => ty.bind fun y => rng2T x y) := by
  show (ev F (.cons ax (.cons ay .nil)) env).bind _ = _
  rw [args2 hx hy, mapT_bind]
  simp only [mapT_of, Tr.bind_assoc, bind_r, rngD2]
theorem t_rngl2 {tx : Tr Int} {ty : Tr Int} {ax : E} {ay : E} (hx : ev F ax env = mapT PyData.int tx) (hy : ev F ay env = mapT PyData.int ty) : ev F (.rngl (.cons ax (.cons ay .nil))) env = mapT (eL PyData.int) (tx.bind fun x => ty.bind fun y => rng2T x y) := by
  show (ev F (.cons ax (.cons ay .nil)) env).bind _ = _
  rw [args2 hx hy, mapT_bind]
  simp only [mapT_of, Tr.bind_assoc, bind_r, rngD2]
theorem t_rngt2 {tx : Tr Int} {ty : Tr Int} {ax : E} {ay : E} (hx : ev F ax env = mapT PyData.int tx) (hy : ev F ay env = mapT PyData.int ty) : ev F (.rngt (.cons ax (.cons ay .nil))) env = mapT (eT PyData.int) (tx.bind fun x => ty.bind fun y => rng2T x y) := by
  show (ev F (.cons ax (.cons ay .nil)) env).bind _ = _
  rw [args2 hx hy, mapT_bind]
  simp only [mapT_of, Tr.bind_assoc, bind_r, rngDt2]
theorem rngD3 (x y z : Int) : Tr.ofO ((rngD [.int x, .int y, .int z]).map PyData.list) = mapT (eL PyData.int) (rng3T x y z) := by
  show Tr.ofO ((cond _ (some (upI _ _ _)) none).map PyData.list) = _
  rw [up_map]
  unfold rng3T
  generalize (_ && _ : Bool) = c
  cases c <;> rfl
theorem rngDt3 (x y z : Int) : Tr.ofO ((rngD [.int x, .int y, .int z]).map PyData.tuple) = mapT (eT PyData.int) (rng3T x y z) := by
  show Tr.ofO ((cond _ (some (upI _ _ _)) none).map PyData.tuple) = _
  rw [up_map]
  unfold rng3T
  generalize (_ && _ : Bool) = c
  cases c <;> rfl
theorem t_rng3 {tx : Tr Int} {ty : Tr Int} {tz : Tr Int} {ax : E} {ay : E} {az : E} (hx : ev F ax env = mapT PyData.int tx) (hy : ev F ay env = mapT PyData.int ty) (hz : ev F az env = mapT PyData.int tz) : ev F (.rng (.cons ax (.cons ay (.cons az .nil)))) env = mapT (eL PyData.int) (tx.bind fun x => ty.bind fun y => tz.bind fun z => rng3T x y z) := by
  show (ev F (.cons ax (.cons ay (.cons az .nil))) env).bind _ = _
  rw [args3 hx hy hz, mapT_bind]
  simp only [mapT_of, Tr.bind_assoc, bind_r, rngD3]
theorem t_rngl3 {tx : Tr Int} {ty : Tr Int} {tz : Tr Int} {ax : E} {ay : E} {az : E} (hx : ev F ax env = mapT PyData.int tx) (hy : ev F ay env = mapT PyData.int ty) (hz : ev F az env = mapT PyData.int tz) : ev F (.rngl (.cons ax (.cons ay (.cons az .nil)))) env = mapT (eL PyData.int) (tx.bind fun x => ty.bind fun y => tz.bind fun z => rng3T x y z) := by
  show (ev F (.cons ax (.cons ay (.cons az .nil))) env).bind _ = _
  rw [args3 hx hy hz, mapT_bind]
  simp only [mapT_of, Tr.bind_assoc, bind_r, rngD3]
theorem t_rngt3 {tx : Tr Int} {ty : Tr Int} {tz : Tr Int} {ax : E} {ay : E} {az : E} (hx : ev F ax env = mapT PyData.int tx) (hy : ev F ay env = mapT PyData.int ty) (hz : ev F az env = mapT PyData.int tz) : ev F (.rngt (.cons ax (.cons ay (.cons az .nil)))) env = mapT (eT PyData.int) (tx.bind fun x => ty.bind fun y => tz.bind fun z => rng3T x y z) := by
  show (ev F (.cons ax (.cons ay (.cons az .nil))) env).bind _ = _
  rw [args3 hx hy hz, mapT_bind]
  simp only [mapT_of, Tr.bind_assoc, bind_r, rngDt3]
theorem t_tup0 {ec : γ → PyData}     (g : γ) (hf : PyData.tuple [] = ec (g))  : ev F (.tup .nil) env = mapT ec (.ret (g )) := by
  exact congrArg Tr.ret hf
theorem t_lst0 {ec : γ → PyData}     (g : γ) (hf : PyData.list [] = ec (g))  : ev F (.lst .nil) env = mapT ec (.ret (g )) := by
  exact congrArg Tr.ret hf
theorem t_tup1 {ec : γ → PyData} {τ0 : Type} {mx : τ0 → PyData} {tx : Tr τ0} {ax : E} (g : τ0 → γ) (hf : ∀ x, PyData.tuple [mx x] = ec (g x)) (hx : ev F ax env = mapT mx tx) : ev F (.tup (.cons ax .nil)) env = mapT ec (tx.bind fun x => .ret (g x)) := by
  show (ev F (.cons ax .nil) env).bind _ = _
  rw [args1 hx, mapT_bind]
  simp only [mapT_of, Tr.bind_assoc, bind_r]
  refine bind_congr fun x => ?_
  exact congrArg Tr.ret (hf x)
theorem t_lst1 {ec : γ → PyData} {τ0 : Type} {mx : τ0 → PyData} {tx : Tr τ0} {ax : E} (g : τ0 → γ) (hf : ∀ x, PyData.list [mx x] = ec (g x)) (hx : ev F ax env = mapT mx tx) : ev F (.lst (.cons ax .nil)) env = mapT ec (tx.bind fun x => .ret (g x)) := by
  show (ev F (.cons ax .nil) env).bind _ = _
  rw [args1 hx, mapT_bind]
  simp only [mapT_of, Tr.bind_assoc, bind_r]
  refine bind_congr fun x => ?_
  exact congrArg Tr.ret (hf x)
theorem t_tup2 {ec : γ → PyData} {τ0 : Type} {τ1 : Type} {mx : τ0 → PyData} {my : τ1 → PyData} {tx : Tr τ0} {ty : Tr τ1} {ax : E} {ay : E} (g : τ0 → τ1 → γ) (hf : ∀ x y, PyData.tuple [mx x, my y] = ec (g x y)) (hx : ev F ax env = mapT mx tx) (hy : ev F ay env = mapT my ty) : ev F (.tup (.cons ax (.cons ay .nil))) env = mapT ec (tx.bind fun x => ty.bind fun y => .ret (g x y)) := by
  show (ev F (.cons ax (.cons ay .nil)) env).bind _ = _
  rw [args2 hx hy, mapT_bind]
  simp only [mapT_of, Tr.bind_assoc, bind_r]
  refine bind_congr fun x => ?_
  refine bind_congr fun y => ?_
  exact congrArg Tr.ret (hf x y)
theorem t_lst2 {ec : γ → PyData} {τ0 : Type} {τ1 : Type} {mx : τ0 → PyData} {my : τ1 → PyData} {tx : Tr τ0} {ty : Tr τ1} {ax : E} {ay : E} (g : τ0 → τ1 → γ) (hf : ∀ x y, PyData.list [mx x, my y] = ec (g x y)) (hx : ev F ax env = mapT mx tx) (hy : ev F ay env = mapT my ty) : ev F (.lst (.cons ax (.cons ay .nil))) env = mapT ec (tx.bind fun x => ty.bind fun y => .ret (g x y)) := by
  show (ev F (.cons ax (.cons ay .nil)) env).bind _ = _
  rw [args2 hx hy, mapT_bind]
  simp only [mapT_of, Tr.bind_assoc, bind_r]
  refine bind_congr fun x => ?_
  refine bind_congr fun y => ?_
  exact congrArg Tr.ret (hf x y)
theorem t_tup3 {ec : γ → PyData} {τ0 : Type} {τ1 : Type} {τ2 : Type} {mx : τ0 → PyData} {my : τ1 → PyData} {mz : τ2 → PyData} {tx : Tr τ0} {ty : Tr τ1} {tz : Tr τ2} {ax : E} {ay : E} {az : E} (g : τ0 → τ1 → τ2 → γ) (hf : ∀ x y z, PyData.tuple [mx x, my y, mz z] = ec (g x y z)) (hx : ev F ax env = mapT mx tx) (hy : ev F ay env = mapT my ty) (hz : ev F az env = mapT mz tz) : ev F (.tup (.cons ax (.cons ay (.cons az .nil)))) env = mapT ec (tx.bind fun x => ty.bind fun y => tz.bind fun z => .ret (g x y z)) := by
  show (ev F (.cons ax (.cons ay (.cons az .nil))) env).bind _ = _
  rw [args3 hx hy hz, mapT_bind]
  simp only [mapT_of, Tr.bind_assoc, bind_r]
  refine bind_congr fun x => ?_
  refine bind_congr fun y => ?_
  refine bind_congr fun z => ?_
  exact congrArg Tr.ret (hf x y z)
theorem t_lst3 {ec : γ → PyData} {τ0 : Type} {τ1 : Type} {τ2 : Type} {mx : τ0 → PyData} {my : τ1 → PyData} {mz : τ2 → PyData} {tx : Tr τ0} {ty : Tr τ1} {tz : Tr τ2} {ax : E} {ay : E} {az : E} (g : τ0 → τ1 → τ2 → γ) (hf : ∀ x y z, PyData.list [mx x, my y, mz z] = ec (g x y z)) (hx : ev F ax env = mapT mx tx) (hy : ev F ay env = mapT my ty) (hz : ev F az env = mapT mz tz) : ev F (.lst (.cons ax (.cons ay (.cons az .nil)))) env = mapT ec (tx.bind fun x => ty.bind fun y => tz.bind fun z => .ret (g x y z)) := by
  show (ev F (.cons ax (.cons ay (.cons az .nil))) env).bind _ = _
  rw [args3 hx hy hz, mapT_bind]
  simp only [mapT_of, Tr.bind_assoc, bind_r]
  refine bind_congr fun x => ?_
  refine bind_congr fun y => ?_
  refine bind_congr fun z => ?_
  exact congrArg Tr.ret (hf x y z)
theorem t_tup4 {ec : γ → PyData} {τ0 : Type} {τ1 : Type} {τ2 : Type} {τ3 : Type} {mx : τ0 → PyData} {my : τ1 → PyData} {mz : τ2 → PyData} {mu : τ3 → PyData} {tx : Tr τ0} {ty : Tr τ1} {tz : Tr τ2} {tu : Tr τ3} {ax : E} {ay : E} {az : E} {au : E} (g : τ0 → τ1 → τ2 → τ3 → γ) (hf : ∀ x y z u, PyData.tuple [mx x, my y, mz z, mu u] = ec (g x y z u)) (hx : ev F ax env = mapT mx tx) (hy : ev F ay env = mapT my ty) (hz : ev F az env = mapT mz tz) (hu : ev F au env = mapT mu tu) : ev F (.tup (.cons ax (.cons ay (.cons az (.cons au .nil))))) env = mapT ec (tx.bind fun x => ty.bind fun y => tz.bind fun z => tu.bind fun u => .ret (g x y z u)) := by
  show (ev F (.cons ax (.cons ay (.cons az (.cons au .nil)))) env).bind _ = _
  rw [args4 hx hy hz hu, mapT_bind]
  simp only [mapT_of, Tr.bind_assoc, bind_r]
  refine bind_congr fun x => ?_
  refine bind_congr fun y => ?_
  refine bind_congr fun z => ?_
  refine bind_congr fun u => ?_
  exact congrArg Tr.ret (hf x y z u)
theorem t_lst4 {ec : γ → PyData} {τ0 : Type} {τ1 : Type} {τ2 : Type} {τ3 : Type} {mx : τ0 → PyData} {my : τ1 → PyData} {mz : τ2 → PyData} {mu : τ3 → PyData} {tx : Tr τ0} {ty : Tr τ1} {tz : Tr τ2} {tu : Tr τ3} {ax : E} {ay : E} {az : E} {au : E} (g : τ0 → τ1 → τ2 → τ3 → γ) (hf : ∀ x y z u, PyData.list [mx x, my y, mz z, mu u] = ec (g x y z u)) (hx : ev F ax env = mapT mx tx) (hy : ev F ay env = mapT my ty) (hz : ev F az env = mapT mz tz) (hu : ev F au env = mapT mu tu) : ev F (.lst (.cons ax (.cons ay (.cons az (.cons au .nil))))) env = mapT ec (tx.bind fun x => ty.bind fun y => tz.bind fun z => tu.bind fun u => .ret (g x y z u)) := by
  show (ev F (.cons ax (.cons ay (.cons az (.cons au .nil)))) env).bind _ = _
  rw [args4 hx hy hz hu, mapT_bind]
  simp only [mapT_of, Tr.bind_assoc, bind_r]
  refine bind_congr fun x => ?_
  refine bind_congr fun y => ?_
  refine bind_congr fun z => ?_
  refine bind_congr fun u => ?_
  exact congrArg Tr.ret (hf x y z u)
theorem t_tup5 {ec : γ → PyData} {τ0 : Type} {τ1 : Type} {τ2 : Type} {τ3 : Type} {τ4 : Type} {mx : τ0 → PyData} {my : τ1 → PyData} {mz : τ2 → PyData} {mu : τ3 → PyData} {mv : τ4 → PyData} {tx : Tr τ0} {ty : Tr τ1} {tz : Tr τ2} {tu : Tr τ3} {tv : Tr τ4} {ax : E} {ay : E} {az : E} {au : E} {av : E} (g : τ0 → τ1 → τ2 → τ3 → τ4 → γ) (hf : ∀ x y z u v, PyData.tuple [mx x, my y, mz z, mu u, mv v] = ec (g x y z u v)) (hx : ev F ax env = mapT mx tx) (hy : ev F ay env = mapT my ty) (hz : ev F az env = mapT mz tz) (hu : ev F au env = mapT mu tu) (hv : ev F av env = mapT mv tv) : ev F (.tup (.cons ax (.cons ay (.cons az (.cons au (.cons av .nil)))))) env = mapT ec (tx.bind fun x => ty.bind fun y => tz.bind fun z => tu.bind fun u => tv.bind fun v => .ret (g x y z u v)) := by
  show (ev F (.cons ax (.cons ay (.cons az (.cons au (.cons av .nil))))) env).bind _ = _
  rw [args5 hx hy hz hu hv, mapT_bind]
  simp only [mapT_of, Tr.bind_assoc, bind_r]
  refine bind_congr fun x => ?_
  refine bind_congr fun y => ?_
  refine bind_congr fun z => ?_
  refine bind_congr fun u => ?_
  refine bind_congr fun v => ?_
  exact congrArg Tr.ret (hf x y z u v)
theorem t_lst5 {ec : γ → PyData} {τ0 : Type} {τ1 : Type} {τ2 : Type} {τ3 : Type} {τ4 : Type} {mx : τ0 → PyData} {my : τ1 → PyData} {mz : τ2 → PyData} {mu : τ3 → PyData} {mv : τ4 → PyData} {tx : Tr τ0} {ty : Tr τ1} {tz : Tr τ2} {tu : Tr τ3} {tv : Tr τ4} {ax : E} {ay : E} {az : E} {au : E} {av : E} (g : τ0 → τ1 → τ2 → τ3 → τ4 → γ) (hf : ∀ x y z u v, PyData.list [mx x, my y, mz z, mu u, mv v] = ec (g x y z u v)) (hx : ev F ax env = mapT mx tx) (hy : ev F ay env = mapT my ty) (hz : ev F az env = mapT mz tz) (hu : ev F au env = mapT mu tu) (hv : ev F av env = mapT mv tv) : ev F (.lst (.cons ax (.cons ay (.cons az (.cons au (.cons av .nil)))))) env = mapT ec (tx.bind fun x => ty.bind fun y => tz.bind fun z => tu.bind fun u => tv.bind fun v => .ret (g x y z u v)) := by
  show (ev F (.cons ax (.cons ay (.cons az (.cons au (.cons av .nil))))) env).bind _ = _
  rw [args5 hx hy hz hu hv, mapT_bind]
  simp only [mapT_of, Tr.bind_assoc, bind_r]
  refine bind_congr fun x => ?_
  refine bind_congr fun y => ?_
  refine bind_congr fun z => ?_
  refine bind_congr fun u => ?_
  refine bind_congr fun v => ?_
  exact congrArg Tr.ret (hf x y z u v)
theorem t_tup6 {ec : γ → PyData} {τ0 : Type} {τ1 : Type} {τ2 : Type} {τ3 : Type} {τ4 : Type} {τ5 : Type} {mx : τ0 → PyData} {my : τ1 → PyData} {mz : τ2 → PyData} {mu : τ3 → PyData} {mv : τ4 → PyData} {mw : τ5 → PyData} {tx : Tr τ0} {ty : Tr τ1} {tz : Tr τ2} {tu : Tr τ3} {tv : Tr τ4} {tw : Tr τ5} {ax : E} {ay : E} {az : E} {au : E} {av : E} {aw : E} (g : τ0 → τ1 → τ2 → τ3 → τ4 → τ5 → γ) (hf : ∀ x y z u v w, PyData.tuple [mx x, my y, mz z, mu u, mv v, mw w] = ec (g x y z u v w)) (hx : ev F ax env = mapT mx tx) (hy : ev F ay env = mapT my ty) (hz : ev F az env = mapT mz tz) (hu : ev F au env = mapT mu tu) (hv : ev F av env = mapT mv tv) (hw : ev F aw env = mapT mw tw) : ev F (.tup (.cons ax (.cons ay (.cons az (.cons au (.cons av (.cons aw .nil))))))) env = mapT ec (tx.bind fun x => ty.bind fun y => tz.bind fun z => tu.bind fun u => tv.bind fun v => tw.bind fun w => .ret (g x y z u v w)) := by
  show (ev F (.cons ax (.cons ay (.cons az (.cons au (.cons av (.cons aw .nil)))))) env).bind _ = _
  rw [args6 hx hy hz hu hv hw, mapT_bind]
  simp only [mapT_of, Tr.bind_assoc, bind_r]
  refine bind_congr fun x => ?_
  refine bind_congr fun y => ?_
  refine bind_congr fun z => ?_
  refine bind_congr fun u => ?_
  refine bind_congr fun v => ?_
  refine bind_congr fun w => ?_
  exact congrArg Tr.ret (hf x y z u v w)
theorem t_lst6 {ec : γ → PyData} {τ0 : Type} {τ1 : Type} {τ2 : Type} {τ3 : Type} {τ4 : Type} {τ5 : Type} {mx : τ0 → PyData} {my : τ1 → PyData} {mz : τ2 → PyData} {mu : τ3 → PyData} {mv : τ4 → PyData} {mw : τ5 → PyData} {tx : Tr τ0} {ty : Tr τ1} {tz : Tr τ2} {tu : Tr τ3} {tv : Tr τ4} {tw : Tr τ5} {ax : E} {ay : E} {az : E} {au : E} {av : E} {aw : E} (g : τ0 → τ1 → τ2 → τ3 → τ4 → τ5 → γ) (hf : ∀ x y z u v w, PyData.list [mx x, my y, mz z, mu u, mv v, mw w] = ec (g x y z u v w)) (hx : ev F ax env = mapT mx tx) (hy : ev F ay env = mapT my ty) (hz : ev F az env = mapT mz tz) (hu : ev F au env = mapT mu tu) (hv : ev F av env = mapT mv tv) (hw : ev F aw env = mapT mw tw) : ev F (.lst (.cons ax (.cons ay (.cons az (.cons au (.cons av (.cons aw .nil))))))) env = mapT ec (tx.bind fun x => ty.bind fun y => tz.bind fun z => tu.bind fun u => tv.bind fun v => tw.bind fun w => .ret (g x y z u v w)) := by
  show (ev F (.cons ax (.cons ay (.cons az (.cons au (.cons av (.cons aw .nil)))))) env).bind _ = _
  rw [args6 hx hy hz hu hv hw, mapT_bind]
  simp only [mapT_of, Tr.bind_assoc, bind_r]
  refine bind_congr fun x => ?_
  refine bind_congr fun y => ?_
  refine bind_congr fun z => ?_
  refine bind_congr fun u => ?_
  refine bind_congr fun v => ?_
  refine bind_congr fun w => ?_
  exact congrArg Tr.ret (hf x y z u v w)
theorem t_tup7 {ec : γ → PyData} {τ0 : Type} {τ1 : Type} {τ2 : Type} {τ3 : Type} {τ4 : Type} {τ5 : Type} {τ6 : Type} {mx : τ0 → PyData} {my : τ1 → PyData} {mz : τ2 → PyData} {mu : τ3 → PyData} {mv : τ4 → PyData} {mw : τ5 → PyData} {ma : τ6 → PyData} {tx : Tr τ0} {ty : Tr τ1} {tz : Tr τ2} {tu : Tr τ3} {tv : Tr τ4} {tw : Tr τ5} {ta : Tr τ6} {ax : E} {ay : E} {az : E} {au : E} {av : E} {aw : E} {aa : E} (g : τ0 → τ1 → τ2 → τ3 → τ4 → τ5 → τ6 → γ) (hf : ∀ x y z u v w a, PyData.tuple [mx x, my y, mz z, mu u, mv v, mw w, ma a] = ec (g x y z u v w a)) (hx : ev F ax env = mapT mx tx) (hy : ev F ay env = mapT my ty) (hz : ev F az env = mapT mz tz) (hu : ev F au env = mapT mu tu) (hv : ev F av env = mapT mv tv) (hw : ev F aw env = mapT mw tw) (ha : ev F aa env = mapT ma ta) : ev F (.tup (.cons ax (.cons ay (.cons az (.cons au (.cons av (.cons aw (.cons aa .nil)))))))) env = mapT ec (tx.bind fun x => ty.bind fun y => tz.bind fun z => tu.bind fun u => tv.bind fun v => tw.bind fun w => ta.bind fun a => .ret (g x y z u v w a)) := by
  show (ev F (.cons ax (.cons ay (.cons az (.cons au (.cons av (.cons aw (.cons aa .nil))))))) env).bind _ = _
  rw [args7 hx hy hz hu hv hw ha, mapT_bind]
  simp only [mapT_of, Tr.bind_assoc, bind_r]
  refine bind_congr fun x => ?_
  refine bind_congr fun y => ?_
  refine bind_congr fun z => ?_
  refine bind_congr fun u => ?_
  refine bind_congr fun v => ?_
  refine bind_congr fun w => ?_
  refine bind_congr fun a => ?_
  exact congrArg Tr.ret (hf x y z u v w a)
theorem t_lst7 {ec : γ → PyData} {τ0 : Type} {τ1 : Type} {τ2 : Type} {τ3 : Type} {τ4 : Type} {τ5 : Type} {τ6 : Type} {mx : τ0 → PyData} {my : τ1 → PyData} {mz : τ2 → PyData} {mu : τ3 → PyData} {mv : τ4 → PyData} {mw : τ5 → PyData} {ma : τ6 → PyData} {tx : Tr τ0} {ty : Tr τ1} {tz : Tr τ2} {tu : Tr τ3} {tv : Tr τ4} {tw : Tr τ5} {ta : Tr τ6} {ax : E} {ay : E} {az : E} {au : E} {av : E} {aw : E} {aa : E} (g : τ0 → τ1 → τ2 → τ3 → τ4 → τ5 → τ6 → γ) (hf : ∀ x y z u v w a, PyData.list [mx x, my y, mz z, mu u, mv v, mw w, ma a] = ec (g x y z u v w a)) (hx : ev F ax env = mapT mx tx) (hy : ev F ay env = mapT my ty) (hz : ev F az env = mapT mz tz) (hu : ev F au env = mapT mu tu) (hv : ev F av env = mapT mv tv) (hw : ev F aw env = mapT mw tw) (ha : ev F aa env = mapT ma ta) : ev F (.lst (.cons ax (.cons ay (.cons az (.cons au (.cons av (.cons aw (.cons aa .nil)))))))) env = mapT ec (tx.bind fun x => ty.bind fun y => tz.bind fun z => tu.bind fun u => tv.bind fun v => tw.bind fun w => ta.bind fun a => .ret (g x y z u v w a)) := by
  show (ev F (.cons ax (.cons ay (.cons az (.cons au (.cons av (.cons aw (.cons aa .nil))))))) env).bind _ = _
  rw [args7 hx hy hz hu hv hw ha, mapT_bind]
  simp only [mapT_of, Tr.bind_assoc, bind_r]
  refine bind_congr fun x => ?_
  refine bind_congr fun y => ?_
  refine bind_congr fun z => ?_
  refine bind_congr fun u => ?_
  refine bind_congr fun v => ?_
  refine bind_congr fun w => ?_
  refine bind_congr fun a => ?_
  exact congrArg Tr.ret (hf x y z u v w a)
theorem t_tup8 {ec : γ → PyData} {τ0 : Type} {τ1 : Type} {τ2 : Type} {τ3 : Type} {τ4 : Type} {τ5 : Type} {τ6 : Type} {τ7 : Type} {mx : τ0 → PyData} {my : τ1 → PyData} {mz : τ2 → PyData} {mu : τ3 → PyData} {mv : τ4 → PyData} {mw : τ5 → PyData} {ma : τ6 → PyData} {mb : τ7 → PyData} {tx : Tr τ0} {ty : Tr τ1} {tz : Tr τ2} {tu : Tr τ3} {tv : Tr τ4} {tw : Tr τ5} {ta : Tr τ6} {tb : Tr τ7} {ax : E} {ay : E} {az : E} {au : E} {av : E} {aw : E} {aa : E} {ab : E} (g : τ0 → τ1 → τ2 → τ3 → τ4 → τ5 → τ6 → τ7 → γ) (hf : ∀ x y z u v w a b, PyData.tuple [mx x, my y, mz z, mu u, mv v, mw w, ma a, mb b] = ec (g x y z u v w a b)) (hx : ev F ax env = mapT mx tx) (hy : ev F ay env = mapT my ty) (hz : ev F az env = mapT mz tz) (hu : ev F au env = mapT mu tu) (hv : ev F av env = mapT mv tv) (hw : ev F aw env = mapT mw tw) (ha : ev F aa env = mapT ma ta) (hb : ev F ab env = mapT mb tb) : ev F (.tup (.cons ax (.cons ay (.cons az (.cons au (.cons av (.cons aw (.cons aa (.cons ab .nil))))))))) env = mapT ec (tx.bind fun x => ty.bind fun y => tz.bind fun z => tu.bind fun u => tv.bind fun v => tw.bind fun w => ta.bind fun a => tb.bind fun b => .ret (g x y z u v w a b)) := by
  show (ev F (.cons ax (.cons ay (.cons az (.cons au (.cons av (.cons aw (.cons aa (.cons ab .nil)))))))) env).bind _ = _
  rw [args8 hx hy hz hu hv hw ha hb, mapT_bind]
  simp only [mapT_of, Tr.bind_assoc, bind_r]
  refine bind_congr fun x => ?_
  refine bind_congr fun y => ?_
  refine bind_congr fun z => ?_
  refine bind_congr fun u => ?_
  refine bind_congr fun v => ?_
  refine bind_congr fun w => ?_
  refine bind_congr fun a => ?_
  refine bind_congr fun b => ?_
  exact congrArg Tr.ret (hf x y z u v w a b)
theorem t_lst8 {ec : γ → PyData} {τ0 : Type} {τ1 : Type} {τ2 : Type} {τ3 : Type} {τ4 : Type} {τ5 : Type} {τ6 : Type} {τ7 : Type} {mx : τ0 → PyData} {my : τ1 → PyData} {mz : τ2 → PyData} {mu : τ3 → PyData} {mv : τ4 → PyData} {mw : τ5 → PyData} {ma : τ6 → PyData} {mb : τ7 → PyData} {tx : Tr τ0} {ty : Tr τ1} {tz : Tr τ2} {tu : Tr τ3} {tv : Tr τ4} {tw : Tr τ5} {ta : Tr τ6} {tb : Tr τ7} {ax : E} {ay : E} {az : E} {au : E} {av : E} {aw : E} {aa : E} {ab : E} (g : τ0 → τ1 → τ2 → τ3 → τ4 → τ5 → τ6 → τ7 → γ) (hf : ∀ x y z u v w a b, PyData.list [mx x, my y, mz z, mu u, mv v, mw w, ma a, mb b] = ec (g x y z u v w a b)) (hx : ev F ax env = mapT mx tx) (hy : ev F ay env = mapT my ty) (hz : ev F az env = mapT mz tz) (hu : ev F au env = mapT mu tu) (hv : ev F av env = mapT mv tv) (hw : ev F aw env = mapT mw tw) (ha : ev F aa env = mapT ma ta) (hb : ev F ab env = mapT mb tb) : ev F (.lst (.cons ax (.cons ay (.cons az (.cons au (.cons av (.cons aw (.cons aa (.cons ab .nil))))))))) env = mapT ec (tx.bind fun x => ty.bind fun y => tz.bind fun z => tu.bind fun u => tv.bind fun v => tw.bind fun w => ta.bind fun a => tb.bind fun b => .ret (g x y z u v w a b)) := by
  show (ev F (.cons ax (.cons ay (.cons az (.cons au (.cons av (.cons aw (.cons aa (.cons ab .nil)))))))) env).bind _ = _
  rw [args8 hx hy hz hu hv hw ha hb, mapT_bind]
  simp only [mapT_of, Tr.bind_assoc, bind_r]
  refine bind_congr fun x => ?_
  refine bind_congr fun y => ?_
  refine bind_congr fun z => ?_
  refine bind_congr fun u => ?_
  refine bind_congr fun v => ?_
  refine bind_congr fun w => ?_
  refine bind_congr fun a => ?_
  refine bind_congr fun b => ?_
  exact congrArg Tr.ret (hf x y z u v w a b)
theorem t_tup9 {ec : γ → PyData} {τ0 : Type} {τ1 : Type} {τ2 : Type} {τ3 : Type} {τ4 : Type} {τ5 : Type} {τ6 : Type} {τ7 : Type} {τ8 : Type} {mx : τ0 → PyData} {my : τ1 → PyData} {mz : τ2 → PyData} {mu : τ3 → PyData} {mv : τ4 → PyData} {mw : τ5 → PyData} {ma : τ6 → PyData} {mb : τ7 → PyData} {mc : τ8 → PyData} {tx : Tr τ0} {ty : Tr τ1} {tz : Tr τ2} {tu : Tr τ3} {tv : Tr τ4} {tw : Tr τ5} {ta : Tr τ6} {tb : Tr τ7} {tc : Tr τ8} {ax : E} {ay : E} {az : E} {au : E} {av : E} {aw : E} {aa : E} {ab : E} {ac : E} (g : τ0 → τ1 → τ2 → τ3 → τ4 → τ5 → τ6 → τ7 → τ8 → γ) (hf : ∀ x y z u v w a b c, PyData.tuple [mx x, my y, mz z, mu u, mv v, mw w, ma a, mb b, mc c] = ec (g x y z u v w a b c)) (hx : ev F ax env = mapT mx tx) (hy : ev F ay env = mapT my ty) (hz : ev F az env = mapT mz tz) (hu : ev F au env = mapT mu tu) (hv : ev F av env = mapT mv tv) (hw : ev F aw env = mapT mw tw) (ha : ev F aa env = mapT ma ta) (hb : ev F ab env = mapT mb tb) (hc : ev F ac env = mapT mc tc) : ev F (.tup (.cons ax (.cons ay (.cons az (.cons au (.cons av (.cons aw (.cons aa (.cons ab (.cons ac .nil)))))))))) env = mapT ec (tx.bind fun x => ty.bind fun y => tz.bind fun z => tu.bind fun u => tv.bind fun v => tw.bind fun w => ta.bind fun a => tb.bind fun b => tc.bind fun c => .ret (g x y z u v w a b c)) := by
  show (ev F (.cons ax (.cons ay (.cons az (.cons au (.cons av (.cons aw (.cons aa (.cons ab (.cons ac .nil))))))))) env).bind _ = _
  rw [args9 hx hy hz hu hv hw ha hb hc, mapT_bind]
  simp only [mapT_of, Tr.bind_assoc, bind_r]
  refine bind_congr fun x => ?_
  refine bind_congr fun y => ?_
  refine bind_congr fun z => ?_
  refine bind_congr fun u => ?_
  refine bind_congr fun v => ?_
  refine bind_congr fun w => ?_
  refine bind_congr fun a => ?_
  refine bind_congr fun b => ?_
  refine bind_congr fun c => ?_
  exact congrArg Tr.ret (hf x y z u v w a b c)
theorem t_lst9 {ec : γ → PyData} {τ0 : Type} {τ1 : Type} {τ2 : Type} {τ3 : Type} {τ4 : Type} {τ5 : Type} {τ6 : Type} {τ7 : Type} {τ8 : Type} {mx : τ0 → PyData} {my : τ1 → PyData} {mz : τ2 → PyData} {mu : τ3 → PyData} {mv : τ4 → PyData} {mw : τ5 → PyData} {ma : τ6 → PyData} {mb : τ7 → PyData} {mc : τ8 → PyData} {tx : Tr τ0} {ty : Tr τ1} {tz : Tr τ2} {tu : Tr τ3} {tv : Tr τ4} {tw : Tr τ5} {ta : Tr τ6} {tb : Tr τ7} {tc : Tr τ8} {ax : E} {ay : E} {az : E} {au : E} {av : E} {aw : E} {aa : E} {ab : E} {ac : E} (g : τ0 → τ1 → τ2 → τ3 → τ4 → τ5 → τ6 → τ7 → τ8 → γ) (hf : ∀ x y z u v w a b c, PyData.list [mx x, my y, mz z, mu u, mv v, mw w, ma a, mb b, mc c] = ec (g x y z u v w a b c)) (hx : ev F ax env = mapT mx tx) (hy : ev F ay env = mapT my ty) (hz : ev F az env = mapT mz tz) (hu : ev F au env = mapT mu tu) (hv : ev F av env = mapT mv tv) (hw : ev F aw env = mapT mw tw) (ha : ev F aa env = mapT ma ta) (hb : ev F ab env = mapT mb tb) (hc : ev F ac env = mapT mc tc) : ev F (.lst (.cons ax (.cons ay (.cons az (.cons au (.cons av (.cons aw (.cons aa (.cons ab (.cons ac .nil)))))))))) env = mapT ec (tx.bind fun x => ty.bind fun y => tz.bind fun z => tu.bind fun u => tv.bind fun v => tw.bind fun w => ta.bind fun a => tb.bind fun b => tc.bind fun c => .ret (g x y z u v w a b c)) := by
  show (ev F (.cons ax (.cons ay (.cons az (.cons au (.cons av (.cons aw (.cons aa (.cons ab (.cons ac .nil))))))))) env).bind _ = _
  rw [args9 hx hy hz hu hv hw ha hb hc, mapT_bind]
  simp only [mapT_of, Tr.bind_assoc, bind_r]
  refine bind_congr fun x => ?_
  refine bind_congr fun y => ?_
  refine bind_congr fun z => ?_
  refine bind_congr fun u => ?_
  refine bind_congr fun v => ?_
  refine bind_congr fun w => ?_
  refine bind_congr fun a => ?_
  refine bind_congr fun b => ?_
  refine bind_congr fun c => ?_
  exact congrArg Tr.ret (hf x y z u v w a b c)
theorem t_tup10 {ec : γ → PyData} {τ0 : Type} {τ1 : Type} {τ2 : Type} {τ3 : Type} {τ4 : Type} {τ5 : Type} {τ6 : Type} {τ7 : Type} {τ8 : Type} {τ9 : Type} {mx : τ0 → PyData} {my : τ1 → PyData} {mz : τ2 → PyData} {mu : τ3 → PyData} {mv : τ4 → PyData} {mw : τ5 → PyData} {ma : τ6 → PyData} {mb : τ7 → PyData} {mc : τ8 → PyData} {md : τ9 → PyData} {tx : Tr τ0} {ty : Tr τ1} {tz : Tr τ2} {tu : Tr τ3} {tv : Tr τ4} {tw : Tr τ5} {ta : Tr τ6} {tb : Tr τ7} {tc : Tr τ8} {td : Tr τ9} {ax : E} {ay : E} {az : E} {au : E} {av : E} {aw : E} {aa : E} {ab : E} {ac : E} {ad : E} (g : τ0 → τ1 → τ2 → τ3 → τ4 → τ5 → τ6 → τ7 → τ8 → τ9 → γ) (hf : ∀ x y z u v w a b c d, PyData.tuple [mx x, my y, mz z, mu u, mv v, mw w, ma a, mb b, mc c, md d] = ec (g x y z u v w a b c d)) (hx : ev F ax env = mapT mx tx) (hy : ev F ay env = mapT my ty) (hz : ev F az env = mapT mz tz) (hu : ev F au env = mapT mu tu) (hv : ev F av env = mapT mv tv) (hw : ev F aw env = mapT mw tw) (ha : ev F aa env = mapT ma ta) (hb : ev F ab env = mapT mb tb) (hc : ev F ac env = mapT mc tc) (hd : ev F ad env = mapT md td) : ev F (.tup (.cons ax (.cons ay (.cons az (.cons au (.cons av (.cons aw (.cons aa (.cons ab (.cons ac (.cons ad .nil))))))))))) env = mapT ec (tx.bind fun x => ty.bind fun y => tz.bind fun z => tu.bind fun u => tv.bind fun v => tw.bind fun w => ta.bind fun a => tb.bind fun b => tc.bind fun c => td.bind fun d => .ret (g x y z u v w a b c d)) := by
  show (ev F (.cons ax (.cons ay (.cons az (.cons au (.cons av (.cons aw (.cons aa (.cons ab (.cons ac (.cons ad .nil)))))))))) env).bind _ = _
  rw [args10 hx hy hz hu hv hw ha hb hc hd, mapT_bind]
  simp only [mapT_of, Tr.bind_assoc, bind_r]
  refine bind_congr fun x => ?_
  refine bind_congr fun y => ?_
  refine bind_congr fun z => ?_
  refine bind_congr fun u => ?_
  refine bind_congr fun v => ?_
  refine bind_congr fun w => ?_
  refine bind_congr fun a => ?_
  refine bind_congr fun b => ?_
  refine bind_congr fun c => ?_
  refine bind_congr fun d => ?_
  exact congrArg Tr.ret (hf x y z u v w a b c d)
theorem t_lst10 {ec : γ → PyData} {τ0 : Type} {τ1 : Type} {τ2 : Type} {τ3 : Type} {τ4 : Type} {τ5 : Type} {τ6 : Type} {τ7 : Type} {τ8 : Type} {τ9 : Type} {mx : τ0 → PyData} {my : τ1 → PyData} {mz : τ2 → PyData} {mu : τ3 → PyData} {mv : τ4 → PyData} {mw : τ5 → PyData} {ma : τ6 → PyData} {mb : τ7 → PyData} {mc : τ8 → PyData} {md : τ9 → PyData} {tx : Tr τ0} {ty : Tr τ1} {tz : Tr τ2} {tu : Tr τ3} {tv : Tr τ4} {tw : Tr τ5} {ta : Tr τ6} {tb : Tr τ7} {tc : Tr τ8} {td : Tr τ9} {ax : E} {ay : E} {az : E} {au : E} {av : E} {aw : E} {aa : E} {ab : E} {ac : E} {ad : E} (g : τ0 → τ1 → τ2 → τ3 → τ4 → τ5 → τ6 → τ7 → τ8 → τ9 → γ) (hf : ∀ x y z u v w a b c d, PyData.list [mx x, my y, mz z, mu u, mv v, mw w, ma a, mb b, mc c, md d] = ec (g x y z u v w a b c d)) (hx : ev F ax env = mapT mx tx) (hy : ev F ay env = mapT my ty) (hz : ev F az env = mapT mz tz) (hu : ev F au env = mapT mu tu) (hv : ev F av env = mapT mv tv) (hw : ev F aw env = mapT mw tw) (ha : ev F aa env = mapT ma ta) (hb : ev F ab env = mapT mb tb) (hc : ev F ac env = mapT mc tc) (hd : ev F ad env = mapT md td) : ev F (.lst (.cons ax (.cons ay (.cons az (.cons au (.cons av (.cons aw (.cons aa (.cons ab (.cons ac (.cons ad .nil))))))))))) env = mapT ec (tx.bind fun x => ty.bind fun y => tz.bind fun z => tu.bind fun u => tv.bind fun v => tw.bind fun w => ta.bind fun a => tb.bind fun b => tc.bind fun c => td.bind fun d => .ret (g x y z u v w a b c d)) := by
  show (ev F (.cons ax (.cons ay (.cons az (.cons au (.cons av (.cons aw (.cons aa (.cons ab (.cons ac (.cons ad .nil)))))))))) env).bind _ = _
  rw [args10 hx hy hz hu hv hw ha hb hc hd, mapT_bind]
  simp only [mapT_of, Tr.bind_assoc, bind_r]
  refine bind_congr fun x => ?_
  refine bind_congr fun y => ?_
  refine bind_congr fun z => ?_
  refine bind_congr fun u => ?_
  refine bind_congr fun v => ?_
  refine bind_congr fun w => ?_
  refine bind_congr fun a => ?_
  refine bind_congr fun b => ?_
  refine bind_congr fun c => ?_
  refine bind_congr fun d => ?_
  exact congrArg Tr.ret (hf x y z u v w a b c d)
theorem t_tup11 {ec : γ → PyData} {τ0 : Type} {τ1 : Type} {τ2 : Type} {τ3 : Type} {τ4 : Type} {τ5 : Type} {τ6 : Type} {τ7 : Type} {τ8 : Type} {τ9 : Type} {τ10 : Type} {mx : τ0 → PyData} {my : τ1 → PyData} {mz : τ2 → PyData} {mu : τ3 → PyData} {mv : τ4 → PyData} {mw : τ5 → PyData} {ma : τ6 → PyData} {mb : τ7 → PyData} {mc : τ8 → PyData} {md : τ9 → PyData} {mk : τ10 → PyData} {tx : Tr τ0} {ty : Tr τ1} {tz : Tr τ2} {tu : Tr τ3} {tv : Tr τ4} {tw : Tr τ5} {ta : Tr τ6} {tb : Tr τ7} {tc : Tr τ8} {td : Tr τ9} {tk : Tr τ10} {ax : E} {ay : E} {az : E} {au : E} {av : E} {aw : E} {aa : E} {ab : E} {ac : E} {ad : E} {ak : E} (g : τ0 → τ1 → τ2 → τ3 → τ4 → τ5 → τ6 → τ7 → τ8 → τ9 → τ10 → γ) (hf : ∀ x y z u v w a b c d k, PyData.tuple [mx x, my y, mz z, mu u, mv v, mw w, ma a, mb b, mc c, md d, mk k] = ec (g x y z u v w a b c d k)) (hx : ev F ax env = mapT mx tx) (hy : ev F ay env = mapT my ty) (hz : ev F az env = mapT mz tz) (hu : ev F au env = mapT mu tu) (hv : ev F av env = mapT mv tv) (hw : ev F aw env = mapT mw tw) (ha : ev F aa env = mapT ma ta) (hb : ev F ab env = mapT mb tb) (hc : ev F ac env = mapT mc tc) (hd : ev F ad env = mapT md td) (hk : ev F ak env = mapT mk tk) : ev F (.tup (.cons ax (.cons ay (.cons az (.cons au (.cons av (.cons aw (.cons aa (.cons ab (.cons ac (.cons ad (.cons ak .nil)))))))))))) env = mapT ec (tx.bind fun x => ty.bind fun y => tz.bind fun z => tu.bind fun u => tv.bind fun v => tw.bind fun w => ta.bind fun a => tb.bind fun b => tc.bind fun c => td.bind fun d => tk.bind fun k => .ret (g x y z u v w a b c d k)) := by
  show (ev F (.cons ax (.cons ay (.cons az (.cons au (.cons av (.cons aw (.cons aa (.cons ab (.cons ac (.cons ad (.cons ak .nil))))))))))) env).bind _ = _
  rw [args11 hx hy hz hu hv hw ha hb hc hd hk, mapT_bind]
  simp only [mapT_of, Tr.bind_assoc, bind_r]
  refine bind_congr fun x => ?_
  refine bind_congr fun y => ?_
  refine bind_congr fun z => ?_
  refine bind_congr fun u => ?_
  refine bind_congr fun v => ?_
  refine bind_congr fun w => ?_
  refine bind_congr fun a => ?_
  refine bind_congr fun b => ?_
  refine bind_congr fun c => ?_
  refine bind_congr fun d => ?_
  refine bind_congr fun k => ?_
  exact congrArg Tr.ret (hf x y z u v w a b c d k)
theorem t_lst11 {ec : γ → PyData} {τ0 : Type} {τ1 : Type} {τ2 : Type} {τ3 : Type} {τ4 : Type} {τ5 : Type} {τ6 : Type} {τ7 : Type} {τ8 : Type} {τ9 : Type} {τ10 : Type} {mx : τ0 → PyData} {my : τ1 → PyData} {mz : τ2 → PyData} {mu : τ3 → PyData} {mv : τ4 → PyData} {mw : τ5 → PyData} {ma : τ6 → PyData} {mb : τ7 → PyData} {mc : τ8 → PyData} {md : τ9 → PyData} {mk : τ10 → PyData} {tx : Tr τ0} {ty : Tr τ1} {tz : Tr τ2} {tu : Tr τ3} {tv : Tr τ4} {tw : Tr τ5} {ta : Tr τ6} {tb : Tr τ7} {tc : Tr τ8} {td : Tr τ9} {tk : Tr τ10} {ax : E} {ay : E} {az : E} {au : E} {av : E} {aw : E} {aa : E} {ab : E} {ac : E} {ad : E} {ak : E} (g : τ0 → τ1 → τ2 → τ3 → τ4 → τ5 → τ6 → τ7 → τ8 → τ9 → τ10 → γ) (hf : ∀ x y z u v w a b c d k, PyData.list [mx x, my y, mz z, mu u, mv v, mw w, ma a, mb b, mc c, md d, mk k] = ec (g x y z u v w a b c d k)) (hx : ev F ax env = mapT mx tx) (hy : ev F ay env = mapT my ty) (hz : ev F az env = mapT mz tz) (hu : ev F au env = mapT mu tu) (hv : ev F av env = mapT mv tv) (hw : ev F aw env = mapT mw tw) (ha : ev F aa env = mapT ma ta) (hb : ev F ab env = mapT mb tb) (hc : ev F ac env = mapT mc tc) (hd : ev F ad env = mapT md td) (hk : ev F ak env = mapT mk tk) : ev F (.lst (.cons ax (.cons ay (.cons az (.cons au (.cons av (.cons aw (.cons aa (.cons ab (.cons ac (.cons ad (.cons ak .nil)))))))))))) env = mapT ec (tx.bind fun x => ty.bind fun y => tz.bind fun z => tu.bind fun u => tv.bind fun v => tw.bind fun w => ta.bind fun a => tb.bind fun b => tc.bind fun c => td.bind fun d => tk.bind fun k => .ret (g x y z u v w a b c d k)) := by
  show (ev F (.cons ax (.cons ay (.cons az (.cons au (.cons av (.cons aw (.cons aa (.cons ab (.cons ac (.cons ad (.cons ak .nil))))))))))) env).bind _ = _
  rw [args11 hx hy hz hu hv hw ha hb hc hd hk, mapT_bind]
  simp only [mapT_of, Tr.bind_assoc, bind_r]
  refine bind_congr fun x => ?_
  refine bind_congr fun y => ?_
  refine bind_congr fun z => ?_
  refine bind_congr fun u => ?_
  refine bind_congr fun v => ?_
  refine bind_congr fun w => ?_
  refine bind_congr fun a => ?_
  refine bind_congr fun b => ?_
  refine bind_congr fun c => ?_
  refine bind_congr fun d => ?_
  refine bind_congr fun k => ?_
  exact congrArg Tr.ret (hf x y z u v w a b c d k)
theorem t_tup12 {ec : γ → PyData} {τ0 : Type} {τ1 : Type} {τ2 : Type} {τ3 : Type} {τ4 : Type} {τ5 : Type} {τ6 : Type} {τ7 : Type} {τ8 : Type} {τ9 : Type} {τ10 : Type} {τ11 : Type} {mx : τ0 → PyData} {my : τ1 → PyData} {mz : τ2 → PyData} {mu : τ3 → PyData} {mv : τ4 → PyData} {mw : τ5 → PyData} {ma : τ6 → PyData} {mb : τ7 → PyData} {mc : τ8 → PyData} {md : τ9 → PyData} {mk : τ10 → PyData} {ml : τ11 → PyData} {tx : Tr τ0} {ty : Tr τ1} {tz : Tr τ2} {tu : Tr τ3} {tv : Tr τ4} {tw : Tr τ5} {ta : Tr τ6} {tb : Tr τ7} {tc : Tr τ8} {td : Tr τ9} {tk : Tr τ10} {tl : Tr τ11} {ax : E} {ay : E} {az : E} {au : E} {av : E} {aw : E} {aa : E} {ab : E} {ac : E} {ad : E} {ak : E} {al : E} (g : τ0 → τ1 → τ2 → τ3 → τ4 → τ5 → τ6 → τ7 → τ8 → τ9 → τ10 → τ11 → γ) (hf : ∀ x y z u v w a b c d k l, PyData.tuple [mx x, my y, mz z, mu u, mv v, mw w, ma a, mb b, mc c, md d, mk k, ml l] = ec (g x y z u v w a b c d k l)) (hx : ev F ax env = mapT mx tx) (hy : ev F ay env = mapT my ty) (hz : ev F az env = mapT mz tz) (hu : ev F au env = mapT mu tu) (hv : ev F av env = mapT mv tv) (hw : ev F aw env = mapT mw tw) (ha : ev F aa env = mapT ma ta) (hb : ev F ab env = mapT mb tb) (hc : ev F ac env = mapT mc tc) (hd : ev F ad env = mapT md td) (hk : ev F ak env = mapT mk tk) (hl : ev F al env = mapT ml tl) : ev F (.tup (.cons ax (.cons ay (.cons az (.cons au (.cons av (.cons aw (.cons aa (.cons ab (.cons ac (.cons ad (.cons ak (.cons al .nil))))))))))))) env = mapT ec (tx.bind fun x => ty.bind fun y => tz.bind fun z => tu.bind fun u => tv.bind fun v => tw.bind fun w => ta.bind fun a => tb.bind fun b => tc.bind fun c => td.bind fun d => tk.bind fun k => tl.bind fun l => .ret (g x y z u v w a b c d k l)) := by
  show (ev F (.cons ax (.cons ay (.cons az (.cons au (.cons av (.cons aw (.cons aa (.cons ab (.cons ac (.cons ad (.cons ak (.cons al .nil)))))))))))) env).bind _ = _
  rw [args12 hx hy hz hu hv hw ha hb hc hd hk hl, mapT_bind]
  simp only [mapT_of, Tr.bind_assoc, bind_r]
  refine bind_congr fun x => ?_
  refine bind_congr fun y => ?_
  refine bind_congr fun z => ?_
  refine bind_congr fun u => ?_
  refine bind_congr fun v => ?_
  refine bind_congr fun w => ?_
  refine bind_congr fun a => ?_
  refine bind_congr fun b => ?_
  refine bind_congr fun c => ?_
  refine bind_congr fun d => ?_
  refine bind_congr fun k => ?_
  refine bind_congr fun l => ?_
  exact congrArg Tr.ret (hf x y z u v w a b c d k l)
theorem t_lst12 {ec : γ → PyData} {τ0 : Type} {τ1 : Type} {τ2 : Type} {τ3 : Type} {τ4 : Type} {τ5 : Type} {τ6 : Type} {τ7 : Type} {τ8 : Type} {τ9 : Type} {τ10 : Type} {τ11 : Type} {mx : τ0 → PyData} {my : τ1 → PyData} {mz : τ2 → PyData} {mu : τ3 → PyData} {mv : τ4 → PyData} {mw : τ5 → PyData} {ma : τ6 → PyData} {mb : τ7 → PyData} {mc : τ8 → PyData} {md : τ9 → PyData} {mk : τ10 → PyData} {ml : τ11 → PyData} {tx : Tr τ0} {ty : Tr τ1} {tz : Tr τ2} {tu : Tr τ3} {tv : Tr τ4} {tw : Tr τ5} {ta : Tr τ6} {tb : Tr τ7} {tc : Tr τ8} {td : Tr τ9} {tk : Tr τ10} {tl : Tr τ11} {ax : E} {ay : E} {az : E} {au : E} {av : E} {aw : E} {aa : E} {ab : E} {ac : E} {ad : E} {ak : E} {al : E} (g : τ0 → τ1 → τ2 → τ3 → τ4 → τ5 → τ6 → τ7 → τ8 → τ9 → τ10 → τ11 → γ) (hf : ∀ x y z u v w a b c d k l, PyData.list [mx x, my y, mz z, mu u, mv v, mw w, ma a, mb b, mc c, md d, mk k, ml l] = ec (g x y z u v w a b c d k l)) (hx : ev F ax env = mapT mx tx) (hy : ev F ay env = mapT my ty) (hz : ev F az env = mapT mz tz) (hu : ev F au env = mapT mu tu) (hv : ev F av env = mapT mv tv) (hw : ev F aw env = mapT mw tw) (ha : ev F aa env = mapT ma ta) (hb : ev F ab env = mapT mb tb) (hc : ev F ac env = mapT mc tc) (hd : ev F ad env = mapT md td) (hk : ev F ak env = mapT mk tk) (hl : ev F al env = mapT ml tl) : ev F (.lst (.cons ax (.cons ay (.cons az (.cons au (.cons av (.cons aw (.cons aa (.cons ab (.cons ac (.cons ad (.cons ak (.cons al .nil))))))))))))) env = mapT ec (tx.bind fun x => ty.bind fun y => tz.bind fun z => tu.bind fun u => tv.bind fun v => tw.bind fun w => ta.bind fun a => tb.bind fun b => tc.bind fun c => td.bind fun d => tk.bind fun k => tl.bind fun l => .ret (g x y z u v w a b c d k l)) := by
  show (ev F (.cons ax (.cons ay (.cons az (.cons au (.cons av (.cons aw (.cons aa (.cons ab (.cons ac (.cons ad (.cons ak (.cons al .nil)))))))))))) env).bind _ = _
  rw [args12 hx hy hz hu hv hw ha hb hc hd hk hl, mapT_bind]
  simp only [mapT_of, Tr.bind_assoc, bind_r]
  refine bind_congr fun x => ?_
  refine bind_congr fun y => ?_
  refine bind_congr fun z => ?_
  refine bind_congr fun u => ?_
  refine bind_congr fun v => ?_
  refine bind_congr fun w => ?_
  refine bind_congr fun a => ?_
  refine bind_congr fun b => ?_
  refine bind_congr fun c => ?_
  refine bind_congr fun d => ?_
  refine bind_congr fun k => ?_
  refine bind_congr fun l => ?_
  exact congrArg Tr.ret (hf x y z u v w a b c d k l)
theorem t_tup13 {ec : γ → PyData} {τ0 : Type} {τ1 : Type} {τ2 : Type} {τ3 : Type} {τ4 : Type} {τ5 : Type} {τ6 : Type} {τ7 : Type} {τ8 : Type} {τ9 : Type} {τ10 : Type} {τ11 : Type} {τ12 : Type} {mx : τ0 → PyData} {my : τ1 → PyData} {mz : τ2 → PyData} {mu : τ3 → PyData} {mv : τ4 → PyData} {mw : τ5 → PyData} {ma : τ6 → PyData} {mb : τ7 → PyData} {mc : τ8 → PyData} {md : τ9 → PyData} {mk : τ10 → PyData} {ml : τ11 → PyData} {mn : τ12 → PyData} {tx : Tr τ0} {ty : Tr τ1} {tz : Tr τ2} {tu : Tr τ3} {tv : Tr τ4} {tw : Tr τ5} {ta : Tr τ6} {tb : Tr τ7} {tc : Tr τ8} {td : Tr τ9} {tk : Tr τ10} {tl : Tr τ11} {tn : Tr τ12} {ax : E} {ay : E} {az : E} {au : E} {av : E} {aw : E} {aa : E} {ab : E} {ac : E} {ad : E} {ak : E} {al : E} {an : E} (g : τ0 → τ1 → τ2 → τ3 → τ4 → τ5 → τ6 → τ7 → τ8 → τ9 → τ10 → τ11 → τ12 → γ) (hf : ∀ x y z u v w a b c d k l n, PyData.tuple [mx x, my y, mz z, mu u, mv v, mw w, ma a, mb b, mc c, md d, mk k, ml l, mn n] = ec (g x y z u v w a b c d k l n)) (hx : ev F ax env = mapT mx tx) (hy : ev F ay env = mapT my ty) (hz : ev F az env = mapT mz tz) (hu : ev F au env = mapT mu tu) (hv : ev F av env = mapT mv tv) (hw : ev F aw env = mapT mw tw) (ha : ev F aa env = mapT ma ta) (hb : ev F ab env = mapT mb tb) (hc : ev F ac env = mapT mc tc) (hd : ev F ad env = mapT md td) (hk : ev F ak env = mapT mk tk) (hl : ev F al env = mapT ml tl) (hn : ev F an env = mapT mn tn) : ev F (.tup (.cons ax (.cons ay (.cons az (.cons au (.cons av (.cons aw (.cons aa (.cons ab (.cons ac (.cons ad (.cons ak (.cons al (.cons an .nil)))))))))))))) env = mapT ec (tx.bind fun x => ty.bind fun y => tz.bind fun z => tu.bind fun u => tv.bind fun v => tw.bind fun w => ta.bind fun a => tb.bind fun b => tc.bind fun c => td.bind fun d => tk.bind fun k => tl.bind fun l => tn.bind fun n => .ret (g x y z u v w a b c d k l n)) := by
  show (ev F (.cons ax (.cons ay (.cons az (.cons au (.cons av (.cons aw (.cons aa (.cons ab (.cons ac (.cons ad (.cons ak (.cons al (.cons an .nil))))))))))))) env).bind _ = _
  rw [args13 hx hy hz hu hv hw ha hb hc hd hk hl hn, mapT_bind]
  simp only [mapT_of, Tr.bind_assoc, bind_r]
  refine bind_congr fun x => ?_
  refine bind_congr fun y => ?_
  refine bind_congr fun z => ?_
  refine bind_congr fun u => ?_
  refine bind_congr fun v => ?_
  refine bind_congr fun w => ?_
  refine bind_congr fun a => ?_
  refine bind_congr fun b => ?_
  refine bind_congr fun c => ?_
  refine bind_congr fun d => ?_
  refine bind_congr fun k => ?_
  refine bind_congr fun l => ?_
  refine bind_congr fun n => ?_
  exact congrArg Tr.ret (hf x y z u v w a b c d k l n)
theorem t_lst13 {ec : γ → PyData} {τ0 : Type} {τ1 : Type} {τ2 : Type} {τ3 : Type} {τ4 : Type} {τ5 : Type} {τ6 : Type} {τ7 : Type} {τ8 : Type} {τ9 : Type} {τ10 : Type} {τ11 : Type} {τ12 : Type} {mx : τ0 → PyData} {my : τ1 → PyData} {mz : τ2 → PyData} {mu : τ3 → PyData} {mv : τ4 → PyData} {mw : τ5 → PyData} {ma : τ6 → PyData} {mb : τ7 → PyData} {mc : τ8 → PyData} {md : τ9 → PyData} {mk : τ10 → PyData} {ml : τ11 → PyData} {mn : τ12 → PyData} {tx : Tr τ0} {ty : Tr τ1} {tz : Tr τ2} {tu : Tr τ3} {tv : Tr τ4} {tw : Tr τ5} {ta : Tr τ6} {tb : Tr τ7} {tc : Tr τ8} {td : Tr τ9} {tk : Tr τ10} {tl : Tr τ11} {tn : Tr τ12} {ax : E} {ay : E} {az : E} {au : E} {av : E} {aw : E} {aa : E} {ab : E} {ac : E} {ad : E} {ak : E} {al : E} {an : E} (g : τ0 → τ1 → τ2 → τ3 → τ4 → τ5 → τ6 → τ7 → τ8 → τ9 → τ10 → τ11 → τ12 → γ) (hf : ∀ x y z u v w a b c d k l n, PyData.list [mx x, my y, mz z, mu u, mv v, mw w, ma a, mb b, mc c, md d, mk k, ml l, mn n] = ec (g x y z u v w a b c d k l n)) (hx : ev F ax env = mapT mx tx) (hy : ev F ay env = mapT my ty) (hz : ev F az env = mapT mz tz) (hu : ev F au env = mapT mu tu) (hv : ev F av env = mapT mv tv) (hw : ev F aw env = mapT mw tw) (ha : ev F aa env = mapT ma ta) (hb : ev F ab env = mapT mb tb) (hc : ev F ac env = mapT mc tc) (hd : ev F ad env = mapT md td) (hk : ev F ak env = mapT mk tk) (hl : ev F al env = mapT ml tl) (hn : ev F an env = mapT mn tn) : ev F (.lst (.cons ax (.cons ay (.cons az (.cons au (.cons av (.cons aw (.cons aa (.cons ab (.cons ac (.cons ad (.cons ak (.cons al (.cons an .nil)))))))))))))) env = mapT ec (tx.bind fun x => ty.bind fun y => tz.bind fun z => tu.bind fun u => tv.bind fun v => tw.bind fun w => ta.bind fun a => tb.bind fun b => tc.bind fun c => td.bind fun d => tk.bind fun k => tl.bind fun l => tn.bind fun n => .ret (g x y z u v w a b c d k l n)) := by
  show (ev F (.cons ax (.cons ay (.cons az (.cons au (.cons av (.cons aw (.cons aa (.cons ab (.cons ac (.cons ad (.cons ak (.cons al (.cons an .nil))))))))))))) env).bind _ = _
  rw [args13 hx hy hz hu hv hw ha hb hc hd hk hl hn, mapT_bind]
  simp only [mapT_of, Tr.bind_assoc, bind_r]
  refine bind_congr fun x => ?_
  refine bind_congr fun y => ?_
  refine bind_congr fun z => ?_
  refine bind_congr fun u => ?_
  refine bind_congr fun v => ?_
  refine bind_congr fun w => ?_
  refine bind_congr fun a => ?_
  refine bind_congr fun b => ?_
  refine bind_congr fun c => ?_
  refine bind_congr fun d => ?_
  refine bind_congr fun k => ?_
  refine bind_congr fun l => ?_
  refine bind_congr fun n => ?_
  exact congrArg Tr.ret (hf x y z u v w a b c d k l n)
theorem t_tup14 {ec : γ → PyData} {τ0 : Type} {τ1 : Type} {τ2 : Type} {τ3 : Type} {τ4 : Type} {τ5 : Type} {τ6 : Type} {τ7 : Type} {τ8 : Type} {τ9 : Type} {τ10 : Type} {τ11 : Type} {τ12 : Type} {τ13 : Type} {mx : τ0 → PyData} {my : τ1 → PyData} {mz : τ2 → PyData} {mu : τ3 → PyData} {mv : τ4 → PyData} {mw : τ5 → PyData} {ma : τ6 → PyData} {mb : τ7 → PyData} {mc : τ8 → PyData} {md : τ9 → PyData} {mk : τ10 → PyData} {ml : τ11 → PyData} {mn : τ12 → PyData} {mo : τ13 → PyData} {tx : Tr τ0} {ty : Tr τ1} {tz : Tr τ2} {tu : Tr τ3} {tv : Tr τ4} {tw : Tr τ5} {ta : Tr τ6} {tb : Tr τ7} {tc : Tr τ8} {td : Tr τ9} {tk : Tr τ10} {tl : Tr τ11} {tn : Tr τ12} {to : Tr τ13} {ax : E} {ay : E} {az : E} {au : E} {av : E} {aw : E} {aa : E} {ab : E} {ac : E} {ad : E} {ak : E} {al : E} {an : E} {ao : E} (g : τ0 → τ1 → τ2 → τ3 → τ4 → τ5 → τ6 → τ7 → τ8 → τ9 → τ10 → τ11 → τ12 → τ13 → γ) (hf : ∀ x y z u v w a b c d k l n o, PyData.tuple [mx x, my y, mz z, mu u, mv v, mw w, ma a, mb b, mc c, md d, mk k, ml l, mn n, mo o] = ec (g x y z u v w a b c d k l n o)) (hx : ev F ax env = mapT mx tx) (hy : ev F ay env = mapT my ty) (hz : ev F az env = mapT mz tz) (hu : ev F au env = mapT mu tu) (hv : ev F av env = mapT mv tv) (hw : ev F aw env = mapT mw tw) (ha : ev F aa env = mapT ma ta) (hb : ev F ab env = mapT mb tb) (hc : ev F ac env = mapT mc tc) (hd : ev F ad env = mapT md td) (hk : ev F ak env = mapT mk tk) (hl : ev F al env = mapT ml tl) (hn : ev F an env = mapT mn tn) (ho : ev F ao env = mapT mo to) : ev F (.tup (.cons ax (.cons ay (.cons az (.cons au (.cons av (.cons aw (.cons aa (.cons ab (.cons ac (.cons ad (.cons ak (.cons al (.cons an (.cons ao .nil))))))))))))))) env = mapT ec (tx.bind fun x => ty.bind fun y => tz.bind fun z => tu.bind fun u => tv.bind fun v => tw.bind fun w => ta.bind fun a => tb.bind fun b => tc.bind fun c => td.bind fun d => tk.bind fun k => tl.bind fun l => tn.bind fun n => to.bind fun o => .ret (g x y z u v w a b c d k l n o)) := by
  show (ev F (.cons ax (.cons ay (.cons az (.cons au (.cons av (.cons aw (.cons aa (.cons ab (.cons ac (.cons ad (.cons ak (.cons al (.cons an (.cons ao .nil)))))))))))))) env).bind _ = _
  rw [args14 hx hy hz hu hv hw ha hb hc hd hk hl hn ho, mapT_bind]
  simp only [mapT_of, Tr.bind_assoc, bind_r]
  refine bind_congr fun x => ?_
  refine bind_congr fun y => ?_
  refine bind_congr fun z => ?_
  refine bind_congr fun u => ?_
  refine bind_congr fun v => ?_
  refine bind_congr fun w => ?_
  refine bind_congr fun a => ?_
  refine bind_congr fun b => ?_
  refine bind_congr fun c => ?_
  refine bind_congr fun d => ?_
  refine bind_congr fun k => ?_
  refine bind_congr fun l => ?_
  refine bind_congr fun n => ?_
  refine bind_congr fun o => ?_
  exact congrArg Tr.ret (hf x y z u v w a b c d k l n o)
theorem t_lst14 {ec : γ → PyData} {τ0 : Type} {τ1 : Type} {τ2 : Type} {τ3 : Type} {τ4 : Type} {τ5 : Type} {τ6 : Type} {τ7 : Type} {τ8 : Type} {τ9 : Type} {τ10 : Type} {τ11 : Type} {τ12 : Type} {τ13 : Type} {mx : τ0 → PyData} {my : τ1 → PyData} {mz : τ2 → PyData} {mu : τ3 → PyData} {mv : τ4 → PyData} {mw : τ5 → PyData} {ma : τ6 → PyData} {mb : τ7 → PyData} {mc : τ8 → PyData} {md : τ9 → PyData} {mk : τ10 → PyData} {ml : τ11 → PyData} {mn : τ12 → PyData} {mo : τ13 → PyData} {tx : Tr τ0} {ty : Tr τ1} {tz : Tr τ2} {tu : Tr τ3} {tv : Tr τ4} {tw : Tr τ5} {ta : Tr τ6} {tb : Tr τ7} {tc : Tr τ8} {td : Tr τ9} {tk : Tr τ10} {tl : Tr τ11} {tn : Tr τ12} {to : Tr τ13} {ax : E} {ay : E} {az : E} {au : E} {av : E} {aw : E} {aa : E} {ab : E} {ac : E} {ad : E} {ak : E} {al : E} {an : E} {ao : E} (g : τ0 → τ1 → τ2 → τ3 → τ4 → τ5 → τ6 → τ7 → τ8 → τ9 → τ10 → τ11 → τ12 → τ13 → γ) (hf : ∀ x y z u v w a b c d k l n o, PyData.list [mx x, my y, mz z, mu u, mv v, mw w, ma a, mb b, mc c, md d, mk k, ml l, mn n, mo o] = ec (g x y z u v w a b c d k l n o)) (hx : ev F ax env = mapT mx tx) (hy : ev F ay env = mapT my ty) (hz : ev F az env = mapT mz tz) (hu : ev F au env = mapT mu tu) (hv : ev F av env = mapT mv tv) (hw : ev F aw env = mapT mw tw) (ha : ev F aa env = mapT ma ta) (hb : ev F ab env = mapT mb tb) (hc : ev F ac env = mapT mc tc) (hd : ev F ad env = mapT md td) (hk : ev F ak env = mapT mk tk) (hl : ev F al env = mapT ml tl) (hn : ev F an env = mapT mn tn) (ho : ev F ao env = mapT mo to) : ev F (.lst (.cons ax (.cons ay (.cons az (.cons au (.cons av (.cons aw (.cons aa (.cons ab (.cons ac (.cons ad (.cons ak (.cons al (.cons an (.cons ao .nil))))))))))))))) env = mapT ec (tx.bind fun x => ty.bind fun y => tz.bind fun z => tu.bind fun u => tv.bind fun v => tw.bind fun w => ta.bind fun a => tb.bind fun b => tc.bind fun c => td.bind fun d => tk.bind fun k => tl.bind fun l => tn.bind fun n => to.bind fun o => .ret (g x y z u v w a b c d k l n o)) := by
  show (ev F (.cons ax (.cons ay (.cons az (.cons au (.cons av (.cons aw (.cons aa (.cons ab (.cons ac (.cons ad (.cons ak (.cons al (.cons an (.cons ao .nil)))))))))))))) env).bind _ = _
  rw [args14 hx hy hz hu hv hw ha hb hc hd hk hl hn ho, mapT_bind]
  simp only [mapT_of, Tr.bind_assoc, bind_r]
  refine bind_congr fun x => ?_
  refine bind_congr fun y => ?_
  refine bind_congr fun z => ?_
  refine bind_congr fun u => ?_
  refine bind_congr fun v => ?_
  refine bind_congr fun w => ?_
  refine bind_congr fun a => ?_
  refine bind_congr fun b => ?_
  refine bind_congr fun c => ?_
  refine bind_congr fun d => ?_
  refine bind_congr fun k => ?_
  refine bind_congr fun l => ?_
  refine bind_congr fun n => ?_
  refine bind_congr fun o => ?_
  exact congrArg Tr.ret (hf x y z u v w a b c d k l n o)
theorem t_tup15 {ec : γ → PyData} {τ0 : Type} {τ1 : Type} {τ2 : Type} {τ3 : Type} {τ4 : Type} {τ5 : Type} {τ6 : Type} {τ7 : Type} {τ8 : Type} {τ9 : Type} {τ10 : Type} {τ11 : Type} {τ12 : Type} {τ13 : Type} {τ14 : Type} {mx : τ0 → PyData} {my : τ1 → PyData} {mz : τ2 → PyData} {mu : τ3 → PyData} {mv : τ4 → PyData} {mw : τ5 → PyData} {ma : τ6 → PyData} {mb : τ7 → PyData} {mc : τ8 → PyData} {md : τ9 → PyData} {mk : τ10 → PyData} {ml : τ11 → PyData} {mn : τ12 → PyData} {mo : τ13 → PyData} {mp : τ14 → PyData} {tx : Tr τ0} {ty : Tr τ1} {tz : Tr τ2} {tu : Tr τ3} {tv : Tr τ4} {tw : Tr τ5} {ta : Tr τ6} {tb : Tr τ7} {tc : Tr τ8} {td : Tr τ9} {tk : Tr τ10} {tl : Tr τ11} {tn : Tr τ12} {to : Tr τ13} {tp : Tr τ14} {ax : E} {ay : E} {az : E} {au : E} {av : E} {aw : E} {aa : E} {ab : E} {ac : E} {ad : E} {ak : E} {al : E} {an : E} {ao : E} {ap : E} (g : τ0 → τ1 → τ2 → τ3 → τ4 → τ5 → τ6 → τ7 → τ8 → τ9 → τ10 → τ11 → τ12 → τ13 → τ14 → γ) (hf : ∀ x y z u v w a b c d k l n o p, PyData.tuple [mx x, my y, mz z, mu u, mv v, mw w, ma a, mb b, mc c, md d, mk k, ml l, mn n, mo o, mp p] = ec (g x y z u v w a b c d k l n o p)) (hx : ev F ax env = mapT mx tx) (hy : ev F ay env = mapT my ty) (hz : ev F az env = mapT mz tz) (hu : ev F au env = mapT mu tu) (hv : ev F av env = mapT mv tv) (hw : ev F aw env = mapT mw tw) (ha : ev F aa env = mapT ma ta) (hb : ev F ab env = mapT mb tb) (hc : ev F ac env = mapT mc tc) (hd : ev F ad env = mapT md td) (hk : ev F ak env = mapT mk tk) (hl : ev F al env = mapT ml tl) (hn : ev F an env = mapT mn tn) (ho : ev F ao env = mapT mo to) (hp : ev F ap env = mapT mp tp) : ev F (.tup (.cons ax (.cons ay (.cons az (.cons au (.cons av (.cons aw (.cons aa (.cons ab (.cons ac (.cons ad (.cons ak (.cons al (.cons an (.cons ao (.cons ap .nil)))))))))))))))) env = mapT ec (tx.bind fun x => ty.bind fun y => tz.bind fun z => tu.bind fun u => tv.bind fun v => tw.bind fun w => ta.bind fun a => tb.bind fun b => tc.bind fun c => td.bind fun d => tk.bind fun k => tl.bind fun l => tn.bind fun n => to.bind fun o => tp.bind fun p => .ret (g x y z u v w a b c d k l n o p)) := by
  show (ev F (.cons ax (.cons ay (.cons az (.cons au (.cons av (.cons aw (.cons aa (.cons ab (.cons ac (.cons ad (.cons ak (.cons al (.cons an (.cons ao (.cons ap .nil))))))))))))))) env).bind _ = _
  rw [args15 hx hy hz hu hv hw ha hb hc hd hk hl hn ho hp, mapT_bind]
  simp only [mapT_of, Tr.bind_assoc, bind_r]
  refine bind_congr fun x => ?_
  refine bind_congr fun y => ?_
  refine bind_congr fun z => ?_
  refine bind_congr fun u => ?_
  refine bind_congr fun v => ?_
  refine bind_congr fun w => ?_
  refine bind_congr fun a => ?_
  refine bind_congr fun b => ?_
  refine bind_congr fun c => ?_
  refine bind_congr fun d => ?_
  refine bind_congr fun k => ?_
  refine bind_congr fun l => ?_
  refine bind_congr fun n => ?_
  refine bind_congr fun o => ?_
  refine bind_congr fun p => ?_
  exact congrArg Tr.ret (hf x y z u v w a b c d k l n o p)
theorem t_lst15 {ec : γ → PyData} {τ0 : Type} {τ1 : Type} {τ2 : Type} {τ3 : Type} {τ4 : Type} {τ5 : Type} {τ6 : Type} {τ7 : Type} {τ8 : Type} {τ9 : Type} {τ10 : Type} {τ11 : Type} {τ12 : Type} {τ13 : Type} {τ14 : Type} {mx : τ0 → PyData} {my : τ1 → PyData} {mz : τ2 → PyData} {mu : τ3 → PyData} {mv : τ4 → PyData} {mw : τ5 → PyData} {ma : τ6 → PyData} {mb : τ7 → PyData} {mc : τ8 → PyData} {md : τ9 → PyData} {mk : τ10 → PyData} {ml : τ11 → PyData} {mn : τ12 → PyData} {mo : τ13 → PyData} {mp : τ14 → PyData} {tx : Tr τ0} {ty : Tr τ1} {tz : Tr τ2} {tu : Tr τ3} {tv : Tr τ4} {tw : Tr τ5} {ta : Tr τ6} {tb : Tr τ7} {tc : Tr τ8} {td : Tr τ9} {tk : Tr τ10} {tl : Tr τ11} {tn : Tr τ12} {to : Tr τ13} {tp : Tr τ14} {ax : E} {ay : E} {az : E} {au : E} {av : E} {aw : E} {aa : E} {ab : E} {ac : E} {ad : E} {ak : E} {al : E} {an : E} {ao : E} {ap : E} (g : τ0 → τ1 → τ2 → τ3 → τ4 → τ5 → τ6 → τ7 → τ8 → τ9 → τ10 → τ11 → τ12 → τ13 → τ14 → γ) (hf : ∀ x y z u v w a b c d k l n o p, PyData.list [mx x, my y, mz z, mu u, mv v, mw w, ma a, mb b, mc c, md d, mk k, ml l, mn n, mo o, mp p] = ec (g x y z u v w a b c d k l n o p)) (hx : ev F ax env = mapT mx tx) (hy : ev F ay env = mapT my ty) (hz : ev F az env = mapT mz tz) (hu : ev F au env = mapT mu tu) (hv : ev F av env = mapT mv tv) (hw : ev F aw env = mapT mw tw) (ha : ev F aa env = mapT ma ta) (hb : ev F ab env = mapT mb tb) (hc : ev F ac env = mapT mc tc) (hd : ev F ad env = mapT md td) (hk : ev F ak env = mapT mk tk) (hl : ev F al env = mapT ml tl) (hn : ev F an env = mapT mn tn) (ho : ev F ao env = mapT mo to) (hp : ev F ap env = mapT mp tp) : ev F (.lst (.cons ax (.cons ay (.cons az (.cons au (.cons av (.cons aw (.cons aa (.cons ab (.cons ac (.cons ad (.cons ak (.cons al (.cons an (.cons ao (.cons ap .nil)))))))))))))))) env = mapT ec (tx.bind fun x => ty.bind fun y => tz.bind fun z => tu.bind fun u => tv.bind fun v => tw.bind fun w => ta.bind fun a => tb.bind fun b => tc.bind fun c => td.bind fun d => tk.bind fun k => tl.bind fun l => tn.bind fun n => to.bind fun o => tp.bind fun p => .ret (g x y z u v w a b c d k l n o p)) := by
  show (ev F (.cons ax (.cons ay (.cons az (.cons au (.cons av (.cons aw (.cons aa (.cons ab (.cons ac (.cons ad (.cons ak (.cons al (.cons an (.cons ao (.cons ap .nil))))))))))))))) env).bind _ = _
  rw [args15 hx hy hz hu hv hw ha hb hc hd hk hl hn ho hp, mapT_bind]
  simp only [mapT_of, Tr.bind_assoc, bind_r]
  refine bind_congr fun x => ?_
  refine bind_congr fun y => ?_
  refine bind_congr fun z => ?_
  refine bind_congr fun u => ?_
  refine bind_congr fun v => ?_
  refine bind_congr fun w => ?_
  refine bind_congr fun a => ?_
  refine bind_congr fun b => ?_
  refine bind_congr fun c => ?_
  refine bind_congr fun d => ?_
  refine bind_congr fun k => ?_
  refine bind_congr fun l => ?_
  refine bind_congr fun n => ?_
  refine bind_congr fun o => ?_
  refine bind_congr fun p => ?_
  exact congrArg Tr.ret (hf x y z u v w a b c d k l n o p)
theorem t_tup16 {ec : γ → PyData} {τ0 : Type} {τ1 : Type} {τ2 : Type} {τ3 : Type} {τ4 : Type} {τ5 : Type} {τ6 : Type} {τ7 : Type} {τ8 : Type} {τ9 : Type} {τ10 : Type} {τ11 : Type} {τ12 : Type} {τ13 : Type} {τ14 : Type} {τ15 : Type} {mx : τ0 → PyData} {my : τ1 → PyData} {mz : τ2 → PyData} {mu : τ3 → PyData} {mv : τ4 → PyData} {mw : τ5 → PyData} {ma : τ6 → PyData} {mb : τ7 → PyData} {mc : τ8 → PyData} {md : τ9 → PyData} {mk : τ10 → PyData} {ml : τ11 → PyData} {mn : τ12 → PyData} {mo : τ13 → PyData} {mp : τ14 → PyData} {mq : τ15 → PyData} {tx : Tr τ0} {ty : Tr τ1} {tz : Tr τ2} {tu : Tr τ3} {tv : Tr τ4} {tw : Tr τ5} {ta : Tr τ6} {tb : Tr τ7} {tc : Tr τ8} {td : Tr τ9} {tk : Tr τ10} {tl : Tr τ11} {tn : Tr τ12} {to : Tr τ13} {tp : Tr τ14} {tq : Tr τ15} {ax : E} {ay : E} {az : E} {au : E} {av : E} {aw : E} {aa : E} {ab : E} {ac : E} {ad : E} {ak : E} {al : E} {an : E} {ao : E} {ap : E} {aq : E} (g : τ0 → τ1 → τ2 → τ3 → τ4 → τ5 → τ6 → τ7 → τ8 → τ9 → τ10 → τ11 → τ12 → τ13 → τ14 → τ15 → γ) (hf : ∀ x y z u v w a b c d k l n o p q, PyData.tuple [mx x, my y, mz z, mu u, mv v, mw w, ma a, mb b, mc c, md d, mk k, ml l, mn n, mo o, mp p, mq q] = ec (g x y z u v w a b c d k l n o p q)) (hx : ev F ax env = mapT mx tx) (hy : ev F ay env = mapT my ty) (hz : ev F az env = mapT mz tz) (hu : ev F au env = mapT mu tu) (hv : ev F av env = mapT mv tv) (hw : ev F aw env = mapT mw tw) (ha : ev F aa env = mapT ma ta) (hb : ev F ab env = mapT mb tb) (hc : ev F ac env = mapT mc tc) (hd : ev F ad env = mapT md td) (hk : ev F ak env = mapT mk tk) (hl : ev F al env = mapT ml tl) (hn : ev F an env = mapT mn tn) (ho : ev F ao env = mapT mo to) (hp : ev F ap env = mapT mp tp) (hq : ev F aq env = mapT mq tq) : ev F (.tup (.cons ax (.cons ay (.cons az (.cons au (.cons av (.cons aw (.cons aa (.cons ab (.cons ac (.cons ad (.cons ak (.cons al (.cons an (.cons ao (.cons ap (.cons aq .nil))))))))))))))))) env = mapT ec (tx.bind fun x => ty.bind fun y => tz.bind fun z => tu.bind fun u => tv.bind fun v => tw.bind fun w => ta.bind fun a => tb.bind fun b => tc.bind fun c => td.bind fun d => tk.bind fun k => tl.bind fun l => tn.bind fun n => to.bind fun o => tp.bind fun p => tq.bind fun q => .ret (g x y z u v w a b c d k l n o p q)) := by
  show (ev F (.cons ax (.cons ay (.cons az (.cons au (.cons av (.cons aw (.cons aa (.cons ab (.cons ac (.cons ad (.cons ak (.cons al (.cons an (.cons ao (.cons ap (.cons aq .nil)))))))))))))))) env).bind _ = _
  rw [args16 hx hy hz hu hv hw ha hb hc hd hk hl hn ho hp hq, mapT_bind]
  simp only [mapT_of, Tr.bind_assoc, bind_r]
  refine bind_congr fun x => ?_
  refine bind_congr fun y => ?_
  refine bind_congr fun z => ?_
  refine bind_congr fun u => ?_
  refine bind_congr fun v => ?_
  refine bind_congr fun w => ?_
  refine bind_congr fun a => ?_
  refine bind_congr fun b => ?_
  refine bind_congr fun c => ?_
  refine bind_congr fun d => ?_
  refine bind_congr fun k => ?_
  refine bind_congr fun l => ?_
  refine bind_congr fun n => ?_
  refine bind_congr fun o => ?_
  refine bind_congr fun p => ?_
  refine bind_congr fun q => ?_
  exact congrArg Tr.ret (hf x y z u v w a b c d k l n o p q)
theorem t_lst16 {ec : γ → PyData} {τ0 : Type} {τ1 : Type} {τ2 : Type} {τ3 : Type} {τ4 : Type} {τ5 : Type} {τ6 : Type} {τ7 : Type} {τ8 : Type} {τ9 : Type} {τ10 : Type} {τ11 : Type} {τ12 : Type} {τ13 : Type} {τ14 : Type} {τ15 : Type} {mx : τ0 → PyData} {my : τ1 → PyData} {mz : τ2 → PyData} {mu : τ3 → PyData} {mv : τ4 → PyData} {mw : τ5 → PyData} {ma : τ6 → PyData} {mb : τ7 → PyData} {mc : τ8 → PyData} {md : τ9 → PyData} {mk : τ10 → PyData} {ml : τ11 → PyData} {mn : τ12 → PyData} {mo : τ13 → PyData} {mp : τ14 → PyData} {mq : τ15 → PyData} {tx : Tr τ0} {ty : Tr τ1} {tz : Tr τ2} {tu : Tr τ3} {tv : Tr τ4} {tw : Tr τ5} {ta : Tr τ6} {tb : Tr τ7} {tc : Tr τ8} {td : Tr τ9} {tk : Tr τ10} {tl : Tr τ11} {tn : Tr τ12} {to : Tr τ13} {tp : Tr τ14} {tq : Tr τ15} {ax : E} {ay : E} {az : E} {au : E} {av : E} {aw : E} {aa : E} {ab : E} {ac : E} {ad : E} {ak : E} {al : E} {an : E} {ao : E} {ap : E} {aq : E} (g : τ0 → τ1 → τ2 → τ3 → τ4 → τ5 → τ6 → τ7 → τ8 → τ9 → τ10 → τ11 → τ12 → τ13 → τ14 → τ15 → γ) (hf : ∀ x y z u v w a b c d k l n o p q, PyData.list [mx x, my y, mz z, mu u, mv v, mw w, ma a, mb b, mc c, md d, mk k, ml l, mn n, mo o, mp p, mq q] = ec (g x y z u v w a b c d k l n o p q)) (hx : ev F ax env = mapT mx tx) (hy : ev F ay env = mapT my ty) (hz : ev F az env = mapT mz tz) (hu : ev F au env = mapT mu tu) (hv : ev F av env = mapT mv tv) (hw : ev F aw env = mapT mw tw) (ha : ev F aa env = mapT ma ta) (hb : ev F ab env = mapT mb tb) (hc : ev F ac env = mapT mc tc) (hd : ev F ad env = mapT md td) (hk : ev F ak env = mapT mk tk) (hl : ev F al env = mapT ml tl) (hn : ev F an env = mapT mn tn) (ho : ev F ao env = mapT mo to) (hp : ev F ap env = mapT mp tp) (hq : ev F aq env = mapT mq tq) : ev F (.lst (.cons ax (.cons ay (.cons az (.cons au (.cons av (.cons aw (.cons aa (.cons ab (.cons ac (.cons ad (.cons ak (.cons al (.cons an (.cons ao (.cons ap (.cons aq .nil))))))))))))))))) env = mapT ec (tx.bind fun x => ty.bind fun y => tz.bind fun z => tu.bind fun u => tv.bind fun v => tw.bind fun w => ta.bind fun a => tb.bind fun b => tc.bind fun c => td.bind fun d => tk.bind fun k => tl.bind fun l => tn.bind fun n => to.bind fun o => tp.bind fun p => tq.bind fun q => .ret (g x y z u v w a b c d k l n o p q)) := by
  show (ev F (.cons ax (.cons ay (.cons az (.cons au (.cons av (.cons aw (.cons aa (.cons ab (.cons ac (.cons ad (.cons ak (.cons al (.cons an (.cons ao (.cons ap (.cons aq .nil)))))))))))))))) env).bind _ = _
  rw [args16 hx hy hz hu hv hw ha hb hc hd hk hl hn ho hp hq, mapT_bind]
  simp only [mapT_of, Tr.bind_assoc, bind_r]
  refine bind_congr fun x => ?_
  refine bind_congr fun y => ?_
  refine bind_congr fun z => ?_
  refine bind_congr fun u => ?_
  refine bind_congr fun v => ?_
  refine bind_congr fun w => ?_
  refine bind_congr fun a => ?_
  refine bind_congr fun b => ?_
  refine bind_congr fun c => ?_
  refine bind_congr fun d => ?_
  refine bind_congr fun k => ?_
  refine bind_congr fun l => ?_
  refine bind_congr fun n => ?_
  refine bind_congr fun o => ?_
  refine bind_congr fun p => ?_
  refine bind_congr fun q => ?_
  exact congrArg Tr.ret (hf x y z u v w a b c d k l n o p q)
end
end Ev

/-! EvTy3 -/
set_option maxHeartbeats 2000000
namespace Ev
open PySem L2
noncomputable section
variable {α β γ δ σ ρ τ : Type} {F : Nat → Bool → List PyData → Tr PyData} {fuel : Nat} {env : Env}
section
variable {e : α → PyData}
theorem h_lenL (x : List α) : Tr.ofO (biD .len [eL e x]) = mapT PyData.int (.ret (Int.ofNat x.length)) := by
  show Tr.ret (PyData.int (Int.ofNat (x.map e).length)) = _
  rw [List.length_map]; rfl
theorem h_lenT (x : List α) : Tr.ofO (biD .len [eT e x]) = mapT PyData.int (.ret (Int.ofNat x.length)) := by
  show Tr.ret (PyData.int (Int.ofNat (x.map e).length)) = _
  rw [List.length_map]; rfl
theorem h_lenS (x : List Nat) : Tr.ofO (biD .len [eS x]) = mapT PyData.int (grd (lenOk x) (.ret (Int.ofNat x.length))) := ofO_cond PyData.int _ _ rfl
def lenX : PyData → Tr Int
  | .list xs => .ret (Int.ofNat xs.length)
  | .tuple xs => .ret (Int.ofNat xs.length)
  | .str s => grd (lenOk s.cps.toList) (.ret (Int.ofNat s.cps.toList.length))
  | _ => .fail
theorem h_lenD (x : PyData) : Tr.ofO (biD .len [eD x]) = mapT PyData.int (lenX x) := by
  cases x with
  | str s => exact ofO_cond PyData.int _ _ rfl
  | _ => rfl
theorem h_abs (x : Int) : Tr.ofO (biD .abs [.int x]) = mapT PyData.int (.ret (cond (iltB x 0) (-x) x)) := rfl
theorem h_min2 (x y : Int) : Tr.ofO (biD .min2 [.int x, .int y]) = mapT PyData.int (.ret (minI x y)) := rfl
theorem h_max2 (x y : Int) : Tr.ofO (biD .max2 [.int x, .int y]) = mapT PyData.int (.ret (maxI x y)) := rfl
def minT (lt : α → α → Bool) (q : List α → Bool) : List α → Tr α
  | [] => .fail
  | y :: ys => grd (q (y :: ys)) (.ret (minY lt y ys))
def maxT (lt : α → α → Bool) (q : List α → Bool) : List α → Tr α
  | [] => .fail
  | y :: ys => grd (q (y :: ys)) (.ret (maxY lt y ys))
section
variable {lt : α → α → Bool} {q : List α → Bool} (hl : LtOk e lt) (hq : SrtOk e q)
include hl hq
theorem min_aux (x : List α) : Tr.ofO (match x.map e with | [] => none | y :: ys => cond (canSort (y :: ys)) (some (minL y ys)) none) = mapT e (minT lt q x) := by
  cases x with
  | nil => rfl
  | cons y ys =>
    show Tr.ofO (cond (canSort ((y :: ys).map e)) (some (minL (e y) (ys.map e))) none) = _
    rw [hq, min_map hl]
    exact ofO_cond e _ _ rfl
theorem max_aux (x : List α) : Tr.ofO (match x.map e with | [] => none | y :: ys => cond (canSort (y :: ys)) (some (maxL y ys)) none) = mapT e (maxT lt q x) := by
  cases x with
  | nil => rfl
  | cons y ys =>
    show Tr.ofO (cond (canSort ((y :: ys).map e)) (some (maxL (e y) (ys.map e))) none) = _
    rw [hq, max_map hl]
    exact ofO_cond e _ _ rfl
theorem h_min1L (x : List α) : Tr.ofO (biD .min1 [eL e x]) = mapT e (minT lt q x) := min_aux hl hq x
theorem h_min1T (x : List α) : Tr.ofO (biD .min1 [eT e x]) = mapT e (minT lt q x) := min_aux hl hq x
theorem h_max1L (x : List α) : Tr.ofO (biD .max1 [eL e x]) = mapT e (maxT lt q x) := max_aux hl hq x
theorem h_max1T (x : List α) : Tr.ofO (biD .max1 [eT e x]) = mapT e (maxT lt q x) := max_aux hl hq x
theorem h_sortedL (x : List α) : Tr.ofO (biD .sorted [eL e x]) = mapT (eL e) (grd (q x) (.ret (sortY lt x))) := by
  show Tr.ofO (cond (canSort (x.map e)) (some (PyData.list (sortD (x.map e)))) none) = _
  rw [hq, sort_map hl]
  exact ofO_cond (eL e) _ _ rfl
theorem h_sortedT (x : List α) : Tr.ofO (biD .sorted [eT e x]) = mapT (eL e) (grd (q x) (.ret (sortY lt x))) := h_sortedL hl hq x
theorem h_sortedRL (x : List α) : Tr.ofO (biD .sortedR [eL e x]) = mapT (eL e) (grd (q x) (.ret (sortRY lt x))) := by
  show Tr.ofO (cond (canSort (x.map e)) (some (PyData.list (sortR (x.map e)))) none) = _
  rw [hq, sortR_map hl]
  exact ofO_cond (eL e) _ _ rfl
theorem h_sortedRT (x : List α) : Tr.ofO (biD .sortedR [eT e x]) = mapT (eL e) (grd (q x) (.ret (sortRY lt x))) := h_sortedRL hl hq x
end
theorem h_sumL (x : List Int) : Tr.ofO (biD .sum [eL PyData.int x]) = mapT PyData.int (.ret (sumI x)) := by
  show Tr.ofO ((asInts (x.map .int)).map fun ns => PyData.int (sumI ns)) = _
  rw [asInts_map]; rfl
theorem h_sumT (x : List Int) : Tr.ofO (biD .sum [eT PyData.int x]) = mapT PyData.int (.ret (sumI x)) := h_sumL x
theorem h_intI (x : Int) : Tr.ofO (biD .int [.int x]) = mapT PyData.int (.ret x) := rfl
theorem h_intB (x : Bool) : Tr.ofO (biD .int [.bool x]) = mapT PyData.int (.ret (cond x 1 0)) := rfl
theorem h_listL (x : List α) : Tr.ofO (biD .list [eL e x]) = mapT (eL e) (.ret x) := rfl
theorem h_listT (x : List α) : Tr.ofO (biD .list [eT e x]) = mapT (eL e) (.ret x) := rfl
theorem h_tupleL (x : List α) : Tr.ofO (biD .tuple [eL e x]) = mapT (eT e) (.ret x) := rfl
theorem h_tupleT (x : List α) : Tr.ofO (biD .tuple [eT e x]) = mapT (eT e) (.ret x) := rfl
end
def bI : PyData → Bool
  | .int _ => true
  | .bool _ => true
  | _ => false
def bB : PyData → Bool
  | .bool _ => true
  | _ => false
def bS : PyData → Bool
  | .str _ => true
  | _ => false
def bT : PyData → Bool
  | .tuple _ => true
  | _ => false
def bL : PyData → Bool
  | .list _ => true
  | _ => false
theorem h_isInt {e : α → PyData} (x : α) : Tr.ofO (biD .isInt [e x]) = mapT PyData.bool (.ret (bI (e x))) := by
  show Tr.ret (PyData.bool _) = Tr.ret (PyData.bool (bI (e x))); cases e x <;> rfl
theorem h_isBool {e : α → PyData} (x : α) : Tr.ofO (biD .isBool [e x]) = mapT PyData.bool (.ret (bB (e x))) := by
  show Tr.ret (PyData.bool _) = Tr.ret (PyData.bool (bB (e x))); cases e x <;> rfl
theorem h_isStr {e : α → PyData} (x : α) : Tr.ofO (biD .isStr [e x]) = mapT PyData.bool (.ret (bS (e x))) := by
  show Tr.ret (PyData.bool _) = Tr.ret (PyData.bool (bS (e x))); cases e x <;> rfl
theorem h_isTup {e : α → PyData} (x : α) : Tr.ofO (biD .isTup [e x]) = mapT PyData.bool (.ret (bT (e x))) := by
  show Tr.ret (PyData.bool _) = Tr.ret (PyData.bool (bT (e x))); cases e x <;> rfl
theorem h_isList {e : α → PyData} (x : α) : Tr.ofO (biD .isList [e x]) = mapT PyData.bool (.ret (bL (e x))) := by
  show Tr.ret (PyData.bool _) = Tr.ret (PyData.bool (bL (e x))); cases e x <;> rfl
theorem h_all (x : List Bool) : Tr.ofO (biD .all [eL PyData.bool x]) = mapT PyData.bool (.ret (x.all id)) := by
  show Tr.ofO ((asBools (x.map .bool)).map fun bs => PyData.bool (bs.all id)) = _
  rw [asBools_map]; rfl
theorem h_any (x : List Bool) : Tr.ofO (biD .any [eL PyData.bool x]) = mapT PyData.bool (.ret (x.any id)) := by
  show Tr.ofO ((asBools (x.map .bool)).map fun bs => PyData.bool (bs.any id)) = _
  rw [asBools_map]; rfl
def biX (f : Bi) (xs : List PyData) : Tr PyData := Tr.ofO (biD f xs)
theorem h_biD1 {f : Bi} {ea : α → PyData} (x : α) : Tr.ofO (biD f [ea x]) = mapT eD (biX f [ea x]) := (mapT_eD _).symm
theorem h_biD2 {f : Bi} {ea : α → PyData} {eb : β → PyData} (x : α) (y : β) : Tr.ofO (biD f [ea x, eb y]) = mapT eD (biX f [ea x, eb y]) := (mapT_eD _).symm
/-- a result of the right kind: numbers -/
def toI : PyData → Tr Int
  | .int i => .ret i
  | _ => .fail
def ssetT (xs : List Int) : Tr (List Int) := grd (Nat.blt xs.length 64) (.ret (sortU xs))
def lsetTI (xs : List Int) : Tr Int := grd (Nat.blt xs.length 4000) (.ret (Int.ofNat (sortU xs).length))
theorem t_sset1 {a : E} {ea : List Int → PyData} {ta : Tr (List Int)} (hf : ∀ x, items (ea x) = some (x.map .int)) (ha : ev F a env = mapT ea ta) : ev F (.sset (.cons a .nil)) env = mapT (eL PyData.int) (ta.bind ssetT) := by
  show (ev F (.cons a .nil) env).bind _ = _
  rw [args1 ha, mapT_bind, mapT_of, Tr.bind_assoc]
  refine bind_congr fun x => ?_
  show Tr.ofO (((items (ea x)).bind asInts).bind fun ns => cond (Nat.blt ns.length 64) (some (PyData.list ((sortU ns).map PyData.int))) none) = _
  rw [hf]
  show Tr.ofO ((asInts (x.map .int)).bind fun ns => cond (Nat.blt ns.length 64) (some (PyData.list ((sortU ns).map .int))) none) = _
  rw [asInts_map]
  exact ofO_cond (eL PyData.int) _ _ rfl
theorem t_lset1 {a : E} {ea : List Int → PyData} {ta : Tr (List Int)} (hf : ∀ x, items (ea x) = some (x.map .int)) (ha : ev F a env = mapT ea ta) : ev F (.lset (.cons a .nil)) env = mapT PyData.int (ta.bind lsetTI) := by
  show (ev F (.cons a .nil) env).bind _ = _
  rw [args1 ha, mapT_bind, mapT_of, Tr.bind_assoc]
  refine bind_congr fun x => ?_
  show Tr.ofO (match (items (ea x)).bind asInts with
    | some ns => cond (Nat.blt ns.length 4000) (some (PyData.int (sortU ns).length)) none
    | none => lsetT (ea x)) = _
  rw [hf]
  have h : (some (x.map PyData.int)).bind asInts = some x := asInts_map x
  rw [h]
  exact ofO_cond PyData.int _ _ rfl
theorem t_lsetT {a : E} {ta : Tr (List (List Int))} (ha : ev F a env = mapT (eL (eT PyData.int)) ta) : ev F (.lset (.cons a .nil)) env = mapT PyData.int (ta.bind fun x => grd (Nat.blt x.length 64) (.ret (Int.ofNat (onceI x).length))) := by
  show (ev F (.cons a .nil) env).bind _ = _
  rw [args1 ha, mapT_bind, mapT_of, Tr.bind_assoc]
  refine bind_congr fun x => ?_
  show Tr.ofO (match asInts (x.map (eT PyData.int)) with
    | some ns => cond (Nat.blt ns.length 4000) (some (PyData.int (sortU ns).length)) none
    | none => lsetT (eL (eT PyData.int) x)) = _
  have as : ∀ y : List (List Int), asTups (y.map (eT PyData.int)) = some y := fun y => by
    induction y with
    | nil => rfl
    | cons z y ih =>
      show (asInts (z.map .int)).bind (fun ns => (asTups (y.map (eT PyData.int))).map (ns :: ·)) = _
      rw [asInts_map, ih]; rfl
  cases x with
  | nil => rfl
  | cons z y =>
    show Tr.ofO ((asTups ((z :: y).map (eT PyData.int))).bind fun ks => cond (Nat.blt ks.length 64) (some (PyData.int (onceI ks).length)) none) = _
    rw [as]
    exact ofO_cond PyData.int _ _ rfl
theorem t_me1 {m : Me} {a b : E} {ea : α → PyData} {eb : β → PyData} {ec : γ → PyData} {ta : Tr α} {tb : Tr β} {f : α → β → Tr γ} (hok : ∀ x, meOk m (ea x) = true) (hf : ∀ x y, Tr.ofO (meD m (ea x) [eb y]) = mapT ec (f x y)) (ha : ev F a env = mapT ea ta) (hb : ev F b env = mapT eb tb) :
    ev F (.me m a (.cons b .nil)) env = mapT ec (ta.bind fun x => tb.bind fun y => f x y) := by
  show ((ev F a env).bind fun x => cond (meOk m x) ((ev F (.cons b .nil) env).bind _) .fail) = _
  rw [ha, mapT_bind, mapT_of]
  refine bind_congr fun x => ?_
  rw [hok]
  show (ev F (.cons b .nil) env).bind _ = _
  rw [args1 hb, mapT_bind, mapT_of, Tr.bind_assoc]
  exact bind_congr fun y => hf x y
section
variable {ea : α → PyData} {eb : β → PyData} {n k : Nat} {q : α → β → Bool} (fa : Flat n ea) (fb : Flat k eb) (hn : n ≤ dep) (hk : k ≤ dep) (h : EqOk ea eb q)
include fa fb hn hk h
theorem h_indexL (xs : List α) (y : β) : Tr.ofO (meD .index (eL ea xs) [eb y]) = mapT PyData.int (Tr.ofO ((indexY q y xs 0).map Int.ofNat)) := by
  show Tr.ofO (cond (flat dep (eb y) && flatAll dep (xs.map ea)) ((indexD (eb y) (xs.map ea) 0).map fun (k : Nat) => PyData.int k) none) = _
  rw [fb y dep hk, flatAll_map fa dep hn, index_map h, ← ofO_map, Option.map_map]; rfl
theorem h_indexT (xs : List α) (y : β) : Tr.ofO (meD .index (eT ea xs) [eb y]) = mapT PyData.int (Tr.ofO ((indexY q y xs 0).map Int.ofNat)) := by
  show Tr.ofO (cond (flat dep (eb y) && flatAll dep (xs.map ea)) ((indexD (eb y) (xs.map ea) 0).map fun (k : Nat) => PyData.int k) none) = _
  rw [fb y dep hk, flatAll_map fa dep hn, index_map h, ← ofO_map, Option.map_map]; rfl
theorem h_countL (xs : List α) (y : β) : Tr.ofO (meD .count (eL ea xs) [eb y]) = mapT PyData.int (.ret (Int.ofNat (countY q y xs))) := by
  show Tr.ofO (cond (flat dep (eb y) && flatAll dep (xs.map ea)) (some (PyData.int (countD (eb y) (xs.map ea)))) none) = _
  rw [fb y dep hk, flatAll_map fa dep hn, count_map h]; rfl
theorem h_countT (xs : List α) (y : β) : Tr.ofO (meD .count (eT ea xs) [eb y]) = mapT PyData.int (.ret (Int.ofNat (countY q y xs))) := by
  show Tr.ofO (cond (flat dep (eb y) && flatAll dep (xs.map ea)) (some (PyData.int (countD (eb y) (xs.map ea)))) none) = _
  rw [fb y dep hk, flatAll_map fa dep hn, count_map h]; rfl
end
abbrev WkOk (ei : α → PyData) (ex : β → PyData) (wk : α → Tr (List β)) : Prop := ∀ v, Tr.ofO (walkD (ei v)) = mapT (List.map ex) (wk v)
theorem wk_L {e : α → PyData} : WkOk (eL e) e (fun v => .ret v) := fun _ => rfl
theorem wk_T {e : α → PyData} : WkOk (eT e) e (fun v => .ret v) := fun _ => rfl
theorem chars_map : ∀ s : List Nat, chars s = (s.map fun c => [c]).map eS
  | [] => rfl
  | c :: s => by
    show PyData.str ⟨#[c]⟩ :: chars s = _
    rw [chars_map s]; rfl
theorem wk_S : WkOk eS eS (fun v => .ret (v.map fun c => [c])) := fun v => congrArg (fun z => Tr.ofO (some z)) (chars_map v)
theorem mapT_idL (t : Tr (List PyData)) : mapT (List.map eD) t = t := by
  have e : List.map eD = (id : List PyData → List PyData) := by funext xs; exact (List.map_congr_left fun _ _ => rfl).trans (List.map_id xs)
  rw [e]
  unfold mapT
  induction t with
  | ret a => rfl
  | draw n k ih =>
    show Tr.draw n (fun r => (k r).bind _) = _
    congr 1
    funext r
    exact ih r
  | fail => rfl
theorem wk_D {ei : α → PyData} : WkOk ei eD (fun v => Tr.ofO (walkD (ei v))) := fun v => (mapT_idL _).symm
def eZip (e : α → PyData) (f : β → PyData) : α × β → PyData := eP e f
theorem zipD_map {e : α → PyData} {f : β → PyData} : ∀ (xs : List α) (ys : List β), zipD (xs.map e) (ys.map f) = (xs.zip ys).map (eP e f)
  | [], _ => rfl
  | _ :: _, [] => rfl
  | x :: xs, y :: ys => by
    show PyData.tuple [e x, f y] :: zipD (xs.map e) (ys.map f) = _
    rw [zipD_map xs ys]; rfl
theorem t_zip {a b : E} {ea : α → PyData} {eb : β → PyData} {ec : γ → PyData} {ta : Tr α} {tb : Tr β} {f : α → β → γ} (hf : ∀ x y, (zipV (ea x) (eb y)).map PyData.list = some (ec (f x y))) (ha : ev F a env = mapT ea ta) (hb : ev F b env = mapT eb tb) :
    ev F (.zip a b) env = mapT ec (ta.bind fun x => tb.bind fun y => .ret (f x y)) := by
  show ((ev F a env).bind fun x => (ev F b env).bind fun y => Tr.ofO ((zipV x y).map PyData.list)) = _
  rw [ha, hb, mapT_bind, mapT_of]
  refine bind_congr fun x => ?_
  rw [mapT_bind, mapT_of]
  refine bind_congr fun y => ?_
  rw [hf]; rfl
theorem h_zipL {e : α → PyData} {f : β → PyData} (x : List α) (y : List β) : (zipV (eL e x) (eL f y)).map PyData.list = some (eL (eP e f) (x.zip y)) := by
  show some (PyData.list (zipD (x.map e) (y.map f))) = _
  rw [zipD_map]; rfl
theorem h_zipT {e : α → PyData} {f : β → PyData} (x : List α) (y : List β) : (zipV (eT e x) (eT f y)).map PyData.list = some (eL (eP e f) (x.zip y)) := by
  show some (PyData.list (zipD (x.map e) (y.map f))) = _
  rw [zipD_map]; rfl
def drawT : Int → Tr Int
  | .ofNat n => cond (Nat.blt 0 n && Nat.blt n 1073741824) (.draw n fun r => .ret (.ofNat r)) .fail
  | .negSucc _ => .fail
theorem t_draw {i : Nat} {a : E} {ta : Tr Int} (hp : getE i env = .pool) (ha : ev F a env = mapT PyData.int ta) : ev F (.draw i a) env = mapT PyData.int (ta.bind drawT) := by
  show (match getE i env with
    | .pool => (ev F a env).bind fun y => (match y with
      | .int (.ofNat n) => cond (Nat.blt 0 n && Nat.blt n 1073741824) (.draw n fun r => Tr.ret (PyData.int (.ofNat r))) .fail
      | _ => .fail)
    | _ => .fail) = _
  rw [hp]
  show (ev F a env).bind _ = _
  rw [ha, mapT_bind, mapT_of]
  refine bind_congr fun x => ?_
  cases x with
  | ofNat n =>
    show cond _ (Tr.draw n fun r => Tr.ret (PyData.int (.ofNat r))) Tr.fail = mapT PyData.int (cond _ _ _)
    rw [mapT_cond]
    generalize (Nat.blt 0 n && Nat.blt n 1073741824) = c
    cases c <;> rfl
  | negSucc n => rfl
def compT (st : α → Tr (Option β)) (xs : List α) : Tr (List β) := List.rec (motive := fun _ => Tr (List β)) (.ret [])
  (fun x _ ih => (st x).bind fun r => ih.bind fun ys => .ret (match r with | some y => y :: ys | none => ys)) xs
theorem turns_map {step : PyData → Tr (Option PyData)} {st : α → Tr (Option β)} {ea : α → PyData} {eb : β → PyData} (h : ∀ x, step (ea x) = mapT (Option.map eb) (st x)) : ∀ xs : List α, turnsC step (xs.map ea) = mapT (List.map eb) (compT st xs)
  | [] => rfl
  | x :: xs => by
    show (step (ea x)).bind (fun r => (turnsC step (xs.map ea)).bind fun ys => .ret (match r with | some y => y :: ys | none => ys)) = mapT (List.map eb) ((st x).bind fun r => (compT st xs).bind fun ys => .ret (match r with | some y => y :: ys | none => ys))
    rw [h, mapT_bind, mapT_of, turns_map h xs]
    refine bind_congr fun r => ?_
    rw [mapT_bind, mapT_of]
    refine bind_congr fun ys => ?_
    cases r <;> rfl
theorem t_comp {elt it cnd : E} {tg : Tg} {ei : α → PyData} {ex : β → PyData} {ec : γ → PyData} {ti : Tr α} {wk : α → Tr (List β)} {st : β → Tr (Option γ)} (hw : WkOk ei ex wk) (hi : ev F it env = mapT ei ti) (hs : ∀ x, kStep (ev F elt) (ev F cnd) tg env (ex x) = mapT (Option.map ec) (st x)) :
    ev F (.comp elt tg it cnd) env = mapT (eL ec) (ti.bind fun v => (wk v).bind fun xs => grd (lenOk xs) (compT st xs)) := by
  rw [e_comp, hi, mapT_bind, mapT_of]
  refine bind_congr fun v => ?_
  have e : ∀ o : Option (List PyData), (match o with
    | some xs => cond (lenOk xs) ((turnsC (fun x => kStep (ev F elt) (ev F cnd) tg env x) xs).bind fun ys => Tr.ret (PyData.list ys)) .fail
    | none => .fail) = (Tr.ofO o).bind fun xs => cond (lenOk xs) ((turnsC (fun x => kStep (ev F elt) (ev F cnd) tg env x) xs).bind fun ys => Tr.ret (PyData.list ys)) .fail := fun o => by cases o <;> rfl
  refine (e _).trans ?_
  rw [hw, mapT_bind, mapT_of]
  refine bind_congr fun xs => ?_
  rw [lenOk_map, turns_map hs, mapT_bind, mapT_grd]
  rfl
theorem k_step {elt cnd : E} {tg : Tg} {x : PyData} {env' : Env} {ec : γ → PyData} {tc : Tr Bool} {te : Tr γ} (h : assign tg x (wipeE (slotsT tg) env) = some env') (hc : ev F cnd env' = mapT PyData.bool tc) (he : ev F elt env' = mapT ec te) :
    kStep (ev F elt) (ev F cnd) tg env x = mapT (Option.map ec) (tc.bind fun c => cond c (te.bind fun d => .ret (some d)) (.ret none)) := by
  rw [kst _ _ _ _ _ h, hc, mapT_bind, mapT_of]
  refine bind_congr fun c => ?_
  cases c with
  | false => rfl
  | true =>
    show (ev F elt env').bind _ = mapT _ (te.bind _)
    rw [he, mapT_bind, mapT_of]; rfl
theorem t_yes : ev F .yes env = mapT PyData.bool (.ret true) := rfl
/-- all turns give one, without draws or failures -/
theorem compT_map {f : β → γ} : ∀ xs : List β, compT (fun x => .ret (some (f x))) xs = .ret (xs.map f)
  | [] => rfl
  | x :: xs => by
    show (compT (fun x => Tr.ret (some (f x))) xs).bind (fun ys => Tr.ret (f x :: ys)) = _
    rw [compT_map xs]; rfl
theorem compT_filter {c : β → Bool} {f : β → γ} : ∀ xs : List β, compT (fun x => cond (c x) (.ret (some (f x))) (.ret none)) xs = .ret ((xs.filter c).map f)
  | [] => rfl
  | x :: xs => by
    show (cond (c x) (Tr.ret (some (f x))) (.ret none)).bind (fun r => (compT (fun x => cond (c x) (Tr.ret (some (f x))) (.ret none)) xs).bind fun ys => Tr.ret (match r with | some y => y :: ys | none => ys)) = _
    rw [compT_filter xs, List.filter_cons]
    cases c x <;> rfl
theorem t_compM {elt it : E} {tg : Tg} {ei : α → PyData} {ex : β → PyData} {ec : γ → PyData} {ti : Tr α} {wk : α → Tr (List β)} {f : β → γ} (hw : WkOk ei ex wk) (hi : ev F it env = mapT ei ti) (hs : ∀ x, kStep (ev F elt) (ev F .yes) tg env (ex x) = mapT (Option.map ec) (.ret (some (f x)))) :
    ev F (.comp elt tg it .yes) env = mapT (eL ec) (ti.bind fun v => (wk v).bind fun xs => grd (lenOk xs) (.ret (xs.map f))) := by
  rw [t_comp hw hi hs]
  simp only [compT_map]
theorem t_compF {elt it cnd : E} {tg : Tg} {ei : α → PyData} {ex : β → PyData} {ec : γ → PyData} {ti : Tr α} {wk : α → Tr (List β)} {c : β → Bool} {f : β → γ} (hw : WkOk ei ex wk) (hi : ev F it env = mapT ei ti) (hs : ∀ x, kStep (ev F elt) (ev F cnd) tg env (ex x) = mapT (Option.map ec) (cond (c x) (.ret (some (f x))) (.ret none))) :
    ev F (.comp elt tg it cnd) env = mapT (eL ec) (ti.bind fun v => (wk v).bind fun xs => grd (lenOk xs) (.ret ((xs.filter c).map f))) := by
  rw [t_comp hw hi hs]
  simp only [compT_filter]
inductive Fl (σ ρ : Type) where
  | nx (s : σ) | rt (r : ρ)
def outN (E : σ → Env) (s : σ) : Out := .nx (E s)
def outR (e : ρ → PyData) (r : ρ) : Out := .rt (e r)
def outM (E : σ → Env) (e : ρ → PyData) : Fl σ ρ → Out
  | .nx s => .nx (E s)
  | .rt r => .rt (e r)
theorem seq_nx {a k : S} {e' : Env} (h : ex F fuel a env = .ret (.nx e')) : ex F fuel (.seq a k) env = ex F fuel k e' := by
  rw [ex_seq, h]; rfl
theorem s_nop {E : σ → Env} {s : σ} (h : env = E s) : ex F fuel .nop env = mapT (outN E) (.ret s) := by subst h; rfl
theorem s_nopM {E : σ → Env} {e : ρ → PyData} {s : σ} (h : env = E s) : ex F fuel .nop env = mapT (outM E e) (.ret (.nx s)) := by subst h; rfl
theorem s_set {i : Nat} {a : E} {k : S} {em : α → PyData} {ta : Tr α} {g : τ → Out} {tk : α → Tr τ} (ha : ev F a env = mapT em ta) (hk : ∀ x, ex F fuel k (setE i (.v (em x)) env) = mapT g (tk x)) : ex F fuel (.seq (.set i a) k) env = mapT g (ta.bind tk) := by
  rw [ex_seq, w_set, ha, mapT_bind, Tr.bind_assoc, mapT_of]
  exact bind_congr hk
theorem s_own {i : Nat} {a : E} {k : S} {em : α → PyData} {ta : Tr (List α)} {g : τ → Out} {tk : List α → Tr τ} (ha : ev F a env = mapT (eL em) ta) (hk : ∀ x, ex F fuel k (setE i (.o (eL em x)) env) = mapT g (tk x)) : ex F fuel (.seq (.own i a) k) env = mapT g (ta.bind tk) := by
  rw [ex_seq, w_own, ha, mapT_bind, Tr.bind_assoc, mapT_of]
  exact bind_congr hk
theorem s_unp {tg : Tg} {a : E} {k : S} {em : α → PyData} {ta : Tr α} {g : τ → Out} {tk : α → Tr τ} (ha : ev F a env = mapT em ta) (hk : ∀ x, ∃ env', assign tg (em x) env = some env' ∧ ex F fuel k env' = mapT g (tk x)) : ex F fuel (.seq (.unp tg a) k) env = mapT g (ta.bind tk) := by
  rw [ex_seq]
  show ((ev F a env).bind fun d => match assign tg d env with
    | some env => Tr.ret (Out.nx env)
    | none => .fail).bind _ = _
  rw [ha, mapT_bind, Tr.bind_assoc, mapT_of]
  refine bind_congr fun x => ?_
  obtain ⟨env', h1, h2⟩ := hk x
  rw [h1]
  exact h2
theorem s_par {i j : Nat} {a b : E} {k : S} {ea : α → PyData} {eb : β → PyData} {ta : Tr α} {tb : Tr β} {g : τ → Out} {tk : α → β → Tr τ} (ha : ev F a env = mapT ea ta) (hb : ev F b env = mapT eb tb) (hk : ∀ x y, ex F fuel k (setE j (.v (eb y)) (setE i (.v (ea x)) env)) = mapT g (tk x y)) :
    ex F fuel (.seq (.par i j a b) k) env = mapT g (ta.bind fun x => tb.bind fun y => tk x y) := by
  rw [ex_seq, w_par, ha, hb, mapT_bind, Tr.bind_assoc, mapT_of]
  refine bind_congr fun x => ?_
  rw [mapT_bind, Tr.bind_assoc, mapT_of]
  exact bind_congr fun y => hk x y
theorem s_aug {i : Nat} {o : Op} {a : E} {k : S} {ei : α → PyData} {ea : β → PyData} {ec : γ → PyData} {x : α} {ta : Tr β} {f : α → β → Tr γ} {g : τ → Out} {tk : γ → Tr τ} (hx : getE i env = .v (ei x)) (hf : ∀ x y, Tr.ofO (augX o (ei x) (ea y)) = mapT ec (f x y)) (ha : ev F a env = mapT ea ta) (hk : ∀ z, ex F fuel k (setE i (.v (ec z)) env) = mapT g (tk z)) :
    ex F fuel (.seq (.aug i o a) k) env = mapT g (ta.bind fun y => (f x y).bind tk) := by
  rw [ex_seq]
  show (match getE i env with
    | .v x => (ev F a env).bind fun y => (match augX o x y with
      | some z => Tr.ret (Out.nx (setE i (.v z) env))
      | none => .fail)
    | _ => .fail).bind _ = _
  rw [hx]
  show ((ev F a env).bind fun y => (match augX o (ei x) y with
      | some z => Tr.ret (Out.nx (setE i (.v z) env))
      | none => .fail)).bind _ = _
  rw [ha, mapT_bind, Tr.bind_assoc, mapT_of]
  refine bind_congr fun y => ?_
  have e : ∀ z : Option PyData, ((match z with
      | some z => Tr.ret (Out.nx (setE i (.v z) env))
      | none => .fail).bind (thenO (ex F fuel k))) = (Tr.ofO z).bind fun z => ex F fuel k (setE i (.v z) env) := fun z => by cases z <;> rfl
  rw [e, hf, mapT_bind, mapT_of]
  exact bind_congr hk
theorem a_op {o : Op} {x y : Int} : augX o (.int x) (.int y) = opD o (.int x) (.int y) := by cases o <;> rfl
theorem a_addI (x y : Int) : Tr.ofO (augX .add (.int x) (.int y)) = mapT PyData.int (.ret (x + y)) := rfl
theorem a_subI (x y : Int) : Tr.ofO (augX .sub (.int x) (.int y)) = mapT PyData.int (.ret (x - y)) := rfl
theorem a_mulI (x y : Int) : Tr.ofO (augX .mul (.int x) (.int y)) = mapT PyData.int (mulT x y) := h_mulI x y
theorem a_fdivI (x y : Int) : Tr.ofO (augX .fdiv (.int x) (.int y)) = mapT PyData.int (fdivT x y) := h_fdivI x y
theorem a_modI (x y : Int) : Tr.ofO (augX .mod (.int x) (.int y)) = mapT PyData.int (modT x y) := h_modI x y
theorem a_addT {e : α → PyData} (x y : List α) : Tr.ofO (augX .add (eT e x) (eT e y)) = mapT (eT e) (appT x y) := h_addT x y
def pushT (xs : List α) (x : α) : Tr (List α) := grd (Nat.blt xs.length lim) (.ret (xs ++ [x]))
theorem s_app {i : Nat} {a : E} {k : S} {em : α → PyData} {xs : List α} {ta : Tr α} {g : τ → Out} {tk : List α → Tr τ} (hx : getE i env = .o (eL em xs)) (ha : ev F a env = mapT em ta) (hk : ∀ z, ex F fuel k (setE i (.o (eL em z)) env) = mapT g (tk z)) :
    ex F fuel (.seq (.app i a) k) env = mapT g (ta.bind fun y => (pushT xs y).bind tk) := by
  rw [ex_seq, w_app, hx]
  show ((ev F a env).bind fun d => cond (Nat.blt (xs.map em).length lim) (Tr.ret (Out.nx (setE i (.o (.list (xs.map em ++ [d]))) env))) .fail).bind _ = _
  rw [ha, mapT_bind, Tr.bind_assoc, mapT_of]
  refine bind_congr fun y => ?_
  rw [List.length_map]
  unfold pushT grd
  cases Nat.blt xs.length lim with
  | false => rfl
  | true =>
    have e : setE i (.o (.list (xs.map em ++ [em y]))) env = setE i (.o (eL em (xs ++ [y]))) env := by
      unfold eL
      rw [List.map_append]; rfl
    show ex F fuel k (setE i (.o (.list (xs.map em ++ [em y]))) env) = _
    rw [e]
    exact hk _
theorem s_ext {i : Nat} {a : E} {k : S} {em : α → PyData} {xs : List α} {ta : Tr (List α)} {g : τ → Out} {tk : List α → Tr τ} (hx : getE i env = .o (eL em xs)) (ha : ev F a env = mapT (eL em) ta) (hk : ∀ z, ex F fuel k (setE i (.o (eL em z)) env) = mapT g (tk z)) :
    ex F fuel (.seq (.ext i a) k) env = mapT g (ta.bind fun y => (appT xs y).bind tk) := by
  rw [ex_seq]
  show (match getE i env with
    | .o (.list xs) => (ev F a env).bind fun d => (match d with
      | .list ys => let r := xs ++ ys; cond (lenOk r) (Tr.ret (Out.nx (setE i (.o (.list r)) env))) .fail
      | .tuple ys => let r := xs ++ ys; cond (lenOk r) (Tr.ret (Out.nx (setE i (.o (.list r)) env))) .fail
      | _ => .fail)
    | _ => .fail).bind _ = _
  rw [hx]
  show ((ev F a env).bind fun d => (match d with
      | .list ys => let r := xs.map em ++ ys; cond (lenOk r) (Tr.ret (Out.nx (setE i (.o (.list r)) env))) .fail
      | .tuple ys => let r := xs.map em ++ ys; cond (lenOk r) (Tr.ret (Out.nx (setE i (.o (.list r)) env))) .fail
      | _ => .fail)).bind _ = _
  rw [ha, mapT_bind, Tr.bind_assoc, mapT_of]
  refine bind_congr fun y => ?_
  show (cond (lenOk (xs.map em ++ y.map em)) (Tr.ret (Out.nx (setE i (.o (.list (xs.map em ++ y.map em))) env))) .fail).bind _ = _
  rw [lenOk_app, ← List.map_append]
  unfold appT grd
  cases lenOk (xs ++ y) with
  | false => rfl
  | true => exact hk _
theorem s_extT {i : Nat} {a : E} {k : S} {em : α → PyData} {xs : List α} {ta : Tr (List α)} {g : τ → Out} {tk : List α → Tr τ} (hx : getE i env = .o (eL em xs)) (ha : ev F a env = mapT (eT em) ta) (hk : ∀ z, ex F fuel k (setE i (.o (eL em z)) env) = mapT g (tk z)) :
    ex F fuel (.seq (.ext i a) k) env = mapT g (ta.bind fun y => (appT xs y).bind tk) := by
  rw [ex_seq]
  show (match getE i env with
    | .o (.list xs) => (ev F a env).bind fun d => (match d with
      | .list ys => let r := xs ++ ys; cond (lenOk r) (Tr.ret (Out.nx (setE i (.o (.list r)) env))) .fail
      | .tuple ys => let r := xs ++ ys; cond (lenOk r) (Tr.ret (Out.nx (setE i (.o (.list r)) env))) .fail
      | _ => .fail)
    | _ => .fail).bind _ = _
  rw [hx]
  show ((ev F a env).bind fun d => (match d with
      | .list ys => let r := xs.map em ++ ys; cond (lenOk r) (Tr.ret (Out.nx (setE i (.o (.list r)) env))) .fail
      | .tuple ys => let r := xs.map em ++ ys; cond (lenOk r) (Tr.ret (Out.nx (setE i (.o (.list r)) env))) .fail
      | _ => .fail)).bind _ = _
  rw [ha, mapT_bind, Tr.bind_assoc, mapT_of]
  refine bind_congr fun y => ?_
  show (cond (lenOk (xs.map em ++ y.map em)) (Tr.ret (Out.nx (setE i (.o (.list (xs.map em ++ y.map em))) env))) .fail).bind _ = _
  rw [lenOk_app, ← List.map_append]
  unfold appT grd
  cases lenOk (xs ++ y) with
  | false => rfl
  | true => exact hk _
def putT (xs : List α) (i : Int) (x : α) : Tr (List α) := Tr.ofO ((place xs.length i).map fun j => xs.set j x)
theorem putL_map {e : α → PyData} (xs : List α) (i : Int) (x : α) : putL (xs.map e) (.int i) (e x) = ((place xs.length i).map fun j => xs.set j x).map (List.map e) := by
  show (place (xs.map e).length i).map (fun j => (xs.map e).set j (e x)) = _
  rw [List.length_map]
  cases place xs.length i with
  | none => rfl
  | some j => show some ((xs.map e).set j (e x)) = some ((xs.set j x).map e); rw [List.map_set]
theorem ofO_bind' {o : Option α} {f : α → Tr β} : (match o with
    | some x => f x
    | none => .fail) = (Tr.ofO o).bind f := by cases o <;> rfl
theorem s_setiL {i : Nat} {kx a : E} {k : S} {em : α → PyData} {xs : List α} {tx : Tr Int} {ta : Tr α} {g : τ → Out} {tk : List α → Tr τ} (hx : getE i env = .o (eL em xs)) (hi : ev F kx env = mapT PyData.int tx) (ha : ev F a env = mapT em ta) (hk : ∀ z, ex F fuel k (setE i (.o (eL em z)) env) = mapT g (tk z)) :
    ex F fuel (.seq (.seti i kx a) k) env = mapT g (ta.bind fun v => tx.bind fun j => (putT xs j v).bind tk) := by
  rw [ex_seq]
  show ((ev F a env).bind fun v => match getE i env with
    | .o (.list xs) => (ev F kx env).bind fun k => (match putL xs k v with
      | some ys => Tr.ret (Out.nx (setE i (.o (.list ys)) env))
      | none => .fail)
    | .o (.dict kvs) => (ev F kx env).bind fun k => cond (keyIn k kvs && Nat.blt kvs.length lim) (.ret (.nx (setE i (.o (.dict (putD k v kvs))) env))) .fail
    | _ => .fail).bind _ = _
  rw [hx, ha, mapT_bind, Tr.bind_assoc, mapT_of]
  refine bind_congr fun v => ?_
  show ((ev F kx env).bind fun k => (match putL (xs.map em) k (em v) with
      | some ys => Tr.ret (Out.nx (setE i (.o (.list ys)) env))
      | none => .fail)).bind _ = _
  rw [hi, mapT_bind, Tr.bind_assoc, mapT_of]
  refine bind_congr fun j => ?_
  rw [putL_map]
  unfold putT
  cases place xs.length j with
  | none => rfl
  | some n => exact hk _
def dputT (q : α → α → Bool) (x : α) (y : β) (xs : List (α × β)) : Tr (List (α × β)) := grd (Nat.blt xs.length lim) (.ret (putY q x y xs))
theorem s_setiM {i : Nat} {kx a : E} {k : S} {ea : α → PyData} {eb : β → PyData} {q : α → α → Bool} {xs : List (α × β)} {tx : Tr α} {ta : Tr β} {g : τ → Out} {tk : List (α × β) → Tr τ} (hq : KeyOk ea) (he : EqOk ea ea q) (hx : getE i env = .o (eM ea eb xs)) (hi : ev F kx env = mapT ea tx) (ha : ev F a env = mapT eb ta) (hk : ∀ z, ex F fuel k (setE i (.o (eM ea eb z)) env) = mapT g (tk z)) :
    ex F fuel (.seq (.seti i kx a) k) env = mapT g (ta.bind fun v => tx.bind fun j => (dputT q j v xs).bind tk) := by
  rw [ex_seq]
  show ((ev F a env).bind fun v => match getE i env with
    | .o (.list xs) => (ev F kx env).bind fun k => (match putL xs k v with
      | some ys => Tr.ret (Out.nx (setE i (.o (.list ys)) env))
      | none => .fail)
    | .o (.dict kvs) => (ev F kx env).bind fun k => cond (keyIn k kvs && Nat.blt kvs.length lim) (.ret (.nx (setE i (.o (.dict (putD k v kvs))) env))) .fail
    | _ => .fail).bind _ = _
  rw [hx, ha, mapT_bind, Tr.bind_assoc, mapT_of]
  refine bind_congr fun v => ?_
  show ((ev F kx env).bind fun k => cond (keyIn k (xs.map (eKV ea eb)) && Nat.blt (xs.map (eKV ea eb)).length lim) (Tr.ret (Out.nx (setE i (.o (.dict (putD k (eb v) (xs.map (eKV ea eb))))) env))) .fail).bind _ = _
  rw [hi, mapT_bind, Tr.bind_assoc, mapT_of]
  refine bind_congr fun j => ?_
  rw [show keyIn (ea j) (xs.map (eKV ea eb)) = true from hq j, List.length_map, put_map he]
  unfold dputT grd
  cases Nat.blt xs.length lim with
  | false => rfl
  | true => exact hk _
theorem s_dnew {i : Nat} {b : Bool} {k : S} {ea : α → PyData} {eb : β → PyData} {g : τ → Out} {tk : Tr τ} (hk : ex F fuel k (setE i (.o (eM ea eb [])) env) = mapT g tk) : ex F fuel (.seq (.dnew i b) k) env = mapT g tk := by
  rw [ex_seq]; exact hk
def augT (f : α → β → Tr α) (xs : List α) (i : Int) (ty : Tr β) : Tr (List α) := (Tr.ofO (place xs.length i)).bind fun n => (Tr.ofO xs[n]?).bind fun x => ty.bind fun y => (f x y).bind fun z => .ret (xs.set n z)
theorem s_augi {i : Nat} {kx a : E} {o : Op} {k : S} {xs : List Int} {tx : Tr Int} {ta : Tr Int} {f : Int → Int → Tr Int} {g : τ → Out} {tk : List Int → Tr τ} (hx : getE i env = .o (eL PyData.int xs)) (hf : ∀ x y, Tr.ofO (opD o (.int x) (.int y)) = mapT PyData.int (f x y)) (hi : ev F kx env = mapT PyData.int tx) (ha : ev F a env = mapT PyData.int ta) (hk : ∀ z, ex F fuel k (setE i (.o (eL PyData.int z)) env) = mapT g (tk z)) :
    ex F fuel (.seq (.augi i kx o a) k) env = mapT g (tx.bind fun j => (augT f xs j ta).bind tk) := by
  rw [ex_seq]
  show (match getE i env with
    | .o (.list xs) => (ev F kx env).bind fun k => augAt F i xs o a env k
    | _ => .fail).bind _ = _
  rw [hx]
  show ((ev F kx env).bind fun k => augAt F i (xs.map PyData.int) o a env k).bind _ = _
  rw [hi, mapT_bind, Tr.bind_assoc, mapT_of]
  refine bind_congr fun j => ?_
  unfold augT
  show (match place (xs.map PyData.int).length j with
    | some n => augIn F i (xs.map PyData.int) o a env n
    | none => .fail).bind _ = _
  rw [List.length_map]
  cases place xs.length j with
  | none => rfl
  | some n =>
    show (match (xs.map PyData.int)[n]? with
      | some x => (ev F a env).bind fun y => (match augD o x y with
        | some z => Tr.ret (Out.nx (setE i (.o (.list ((xs.map PyData.int).set n z))) env))
        | none => .fail)
      | none => .fail).bind _ = _
    rw [List.getElem?_map]
    show _ = mapT g (((Tr.ofO xs[n]?).bind fun x => ta.bind fun y => (f x y).bind fun z => .ret (xs.set n z)).bind tk)
    cases xs[n]? with
    | none => rfl
    | some x =>
      show ((ev F a env).bind fun y => (match augD o (.int x) y with
        | some z => Tr.ret (Out.nx (setE i (.o (.list ((xs.map PyData.int).set n z))) env))
        | none => .fail)).bind _ = mapT g ((ta.bind fun y => (f x y).bind fun z => .ret (xs.set n z)).bind tk)
      rw [ha, mapT_bind, Tr.bind_assoc, Tr.bind_assoc, mapT_of]
      refine bind_congr fun y => ?_
      have ao : augD o (.int x) (.int y) = opD o (.int x) (.int y) := rfl
      have e2 : ∀ z : Option PyData, ((match z with
        | some z => Tr.ret (Out.nx (setE i (.o (.list ((xs.map PyData.int).set n z))) env))
        | none => .fail).bind (thenO (ex F fuel k))) = (Tr.ofO z).bind fun z => ex F fuel k (setE i (.o (.list ((xs.map PyData.int).set n z))) env) := fun z => by cases z <;> rfl
      refine (e2 _).trans ?_
      rw [ao, hf, mapT_bind, Tr.bind_assoc, mapT_of]
      refine bind_congr fun z => ?_
      have e : (xs.map PyData.int).set n (.int z) = (xs.set n z).map PyData.int := (List.map_set).symm
      show ex F fuel k (setE i (.o (.list ((xs.map PyData.int).set n (.int z)))) env) = _
      rw [e]
      exact hk _
theorem s_frzO {i : Nat} {s : S} {em : α → PyData} {xs : List α} {g : τ → Out} {t : Tr τ} (hx : getE i env = .o (eL em xs)) (hk : ex F fuel s (setE i (.v (eL em xs)) env) = mapT g t) : ex F fuel (.frz i s) env = mapT g t := by
  show (match getE i env with
    | .o (.list ds) => ex F fuel s (setE i (.v (.list ds)) env)
    | .v _ => ex F fuel s env
    | _ => .fail) = _
  rw [hx]; exact hk
theorem s_frzV {i : Nat} {s : S} {d : PyData} {g : τ → Out} {t : Tr τ} (hx : getE i env = .v d) (hk : ex F fuel s env = mapT g t) : ex F fuel (.frz i s) env = mapT g t := by
  show (match getE i env with
    | .o (.list ds) => ex F fuel s (setE i (.v (.list ds)) env)
    | .v _ => ex F fuel s env
    | _ => .fail) = _
  rw [hx]; exact hk
theorem s_wipe {is : List Nat} {s : S} {g : τ → Out} {t : Tr τ} (hk : ex F fuel s (wipeE is env) = mapT g t) : ex F fuel (.wipe is s) env = mapT g t := hk
/-- a frozen slot ahead of one statement -/
theorem s_fr1O {i : Nat} {a k : S} {em : α → PyData} {xs : List α} {g : τ → Out} {t : Tr τ} (hx : getE i env = .o (eL em xs)) (hk : ex F fuel (.seq a k) (setE i (.v (eL em xs)) env) = mapT g t) : ex F fuel (.seq (.frz i a) k) env = mapT g t := by
  rw [ex_seq]
  show (match getE i env with
    | .o (.list ds) => ex F fuel a (setE i (.v (.list ds)) env)
    | .v _ => ex F fuel a env
    | _ => .fail).bind _ = _
  rw [hx]
  rw [ex_seq] at hk
  exact hk
theorem s_fr1V {i : Nat} {a k : S} {d : PyData} {g : τ → Out} {t : Tr τ} (hx : getE i env = .v d) (hk : ex F fuel (.seq a k) env = mapT g t) : ex F fuel (.seq (.frz i a) k) env = mapT g t := by
  rw [ex_seq]
  show (match getE i env with
    | .o (.list ds) => ex F fuel a (setE i (.v (.list ds)) env)
    | .v _ => ex F fuel a env
    | _ => .fail).bind _ = _
  rw [hx]
  rw [ex_seq] at hk
  exact hk
theorem s_ret {a : E} {k : S} {em : ρ → PyData} {ta : Tr ρ} (ha : ev F a env = mapT em ta) : ex F fuel (.seq (.ret a) k) env = mapT (outR em) ta := by
  rw [ex_seq, w_ret, ha, mapT_bind, Tr.bind_assoc]; rfl
theorem s_retO {i : Nat} {k : S} {em : α → PyData} {xs : List α} (hx : getE i env = .o (eL em xs)) : ex F fuel (.seq (.retO i) k) env = mapT (outR (eL em)) (.ret xs) := by
  rw [ex_seq]
  show (match getE i env with
    | .o (.list ds) => Tr.ret (Out.rt (.list ds))
    | .v d => .ret (.rt d)
    | _ => .fail).bind _ = _
  rw [hx]; rfl
theorem s_retV {i : Nat} {k : S} {em : α → PyData} {x : α} (hx : getE i env = .v (em x)) : ex F fuel (.seq (.retO i) k) env = mapT (outR em) (.ret x) := by
  rw [ex_seq]
  show (match getE i env with
    | .o (.list ds) => Tr.ret (Out.rt (.list ds))
    | .v d => .ret (.rt d)
    | _ => .fail).bind _ = _
  rw [hx]; rfl
theorem s_drop {a : E} {k : S} {em : α → PyData} {ta : Tr α} {g : τ → Out} {tk : Tr τ} (ha : ev F a env = mapT em ta) (hk : ex F fuel k env = mapT g tk) : ex F fuel (.seq (.drop a) k) env = mapT g (ta.bind fun _ => tk) := by
  rw [ex_seq]
  show ((ev F a env).bind fun _ => Tr.ret (Out.nx env)).bind _ = _
  rw [ha, mapT_bind, Tr.bind_assoc, mapT_of]
  exact bind_congr fun _ => hk
/-- returns in a row of the mixed kind -/
theorem s_toM {s : S} {E : σ → Env} {em : ρ → PyData} {t : Tr ρ} (h : ex F fuel s env = mapT (outR em) t) : ex F fuel s env = mapT (outM E em) (t.bind fun r => .ret (.rt r)) := by
  rw [h, mapT_of]; rfl
theorem s_toM' {s : S} {E : σ → Env} {em : ρ → PyData} {t : Tr σ} (h : ex F fuel s env = mapT (outN E) t) : ex F fuel s env = mapT (outM E em) (t.bind fun r => .ret (.nx r)) := by
  rw [h, mapT_of]; rfl
theorem if_aux {c : E} {a b : S} {tc : Tr Bool} {g : τ → Out} {ta tb : Tr τ} (hc : ev F c env = mapT PyData.bool tc) (ha : ex F fuel a env = mapT g ta) (hb : ex F fuel b env = mapT g tb) : ex F fuel (.ife c a b) env = mapT g (tc.bind fun c => cond c ta tb) := by
  rw [w_ife, hc, mapT_bind, mapT_of]
  refine bind_congr fun c => ?_
  cases c with
  | true => exact ha
  | false => exact hb
/-- the last statement -/
theorem s_ifLast {c : E} {a b : S} {tc : Tr Bool} {g : τ → Out} {ta tb : Tr τ} (hc : ev F c env = mapT PyData.bool tc) (ha : ex F fuel a env = mapT g ta) (hb : ex F fuel b env = mapT g tb) : ex F fuel (.seq (.ife c a b) .nop) env = mapT g (tc.bind fun c => cond c ta tb) := by
  rw [ex_seq]
  exact (bind_ret _).trans (if_aux hc ha hb)
/-- both go on -/
theorem s_ifJoin {c : E} {a b k : S} {tc : Tr Bool} {E : σ → Env} {ta tb : Tr σ} {g : τ → Out} {tk : σ → Tr τ} (hc : ev F c env = mapT PyData.bool tc) (ha : ex F fuel a env = mapT (outN E) ta) (hb : ex F fuel b env = mapT (outN E) tb) (hk : ∀ s, ex F fuel k (E s) = mapT g (tk s)) :
    ex F fuel (.seq (.ife c a b) k) env = mapT g ((tc.bind fun c => cond c ta tb).bind tk) := by
  rw [ex_seq, if_aux hc ha hb, mapT_bind, mapT_of]
  exact bind_congr hk
/-- the first returns, the other goes on -/
theorem s_ifRet {c : E} {a b k : S} {tc : Tr Bool} {em : ρ → PyData} {ta : Tr ρ} {tk : Tr ρ} (hc : ev F c env = mapT PyData.bool tc) (ha : ex F fuel a env = mapT (outR em) ta) (hk : ex F fuel (.seq b k) env = mapT (outR em) tk) : ex F fuel (.seq (.ife c a b) k) env = mapT (outR em) (tc.bind fun c => cond c ta tk) := by
  rw [ex_seq, w_ife, hc, mapT_bind, Tr.bind_assoc, mapT_of]
  refine bind_congr fun c => ?_
  cases c with
  | true =>
    show (ex F fuel a env).bind _ = mapT (outR em) ta
    rw [ha, mapT_bind]; rfl
  | false =>
    rw [ex_seq] at hk
    exact hk
theorem s_ifRetM {c : E} {a b k : S} {tc : Tr Bool} {E : σ → Env} {em : ρ → PyData} {ta : Tr ρ} {tk : Tr (Fl σ ρ)} (hc : ev F c env = mapT PyData.bool tc) (ha : ex F fuel a env = mapT (outR em) ta) (hk : ex F fuel (.seq b k) env = mapT (outM E em) tk) : ex F fuel (.seq (.ife c a b) k) env = mapT (outM E em) (tc.bind fun c => cond c (ta.bind fun r => .ret (.rt r)) tk) := by
  rw [ex_seq, w_ife, hc, mapT_bind, Tr.bind_assoc, mapT_of]
  refine bind_congr fun c => ?_
  cases c with
  | true =>
    show (ex F fuel a env).bind _ = mapT (outM E em) (ta.bind fun r => .ret (.rt r))
    rw [ha, mapT_bind, mapT_of]; rfl
  | false =>
    rw [ex_seq] at hk
    exact hk
theorem seq_nop (k : S) : ex F fuel (.seq .nop k) env = ex F fuel k env := by rw [ex_seq]; rfl
/-- a row ahead of a row -/
theorem seq_seq (a b k : S) : ex F fuel (.seq (.seq a b) k) env = ex F fuel (.seq a (.seq b k)) env := by
  rw [ex_seq, ex_seq, ex_seq, Tr.bind_assoc]
  refine bind_congr fun o => ?_
  cases o with
  | nx e => exact (ex_seq b k e).symm
  | _ => rfl
/-- mixed, then a row -/
def flT (tk : σ → Tr ρ) : Fl σ ρ → Tr ρ
  | .nx s => tk s
  | .rt r => .ret r
def flM (tk : σ → Tr (Fl τ ρ)) : Fl σ ρ → Tr (Fl τ ρ)
  | .nx s => tk s
  | .rt r => .ret (.rt r)
theorem mix_R {E : σ → Env} {em : ρ → PyData} {t : Tr (Fl σ ρ)} {k : S} {tk : σ → Tr ρ} (hk : ∀ s, ex F fuel k (E s) = mapT (outR em) (tk s)) : (mapT (outM E em) t).bind (thenO (ex F fuel k)) = mapT (outR em) (t.bind (flT tk)) := by
  rw [mapT_bind, mapT_of]
  refine bind_congr fun o => ?_
  cases o with
  | nx s => exact hk s
  | rt r => rfl
theorem mix_M {E : σ → Env} {E' : τ → Env} {em : ρ → PyData} {t : Tr (Fl σ ρ)} {k : S} {tk : σ → Tr (Fl τ ρ)} (hk : ∀ s, ex F fuel k (E s) = mapT (outM E' em) (tk s)) : (mapT (outM E em) t).bind (thenO (ex F fuel k)) = mapT (outM E' em) (t.bind (flM tk)) := by
  rw [mapT_bind, mapT_of]
  refine bind_congr fun o => ?_
  cases o with
  | nx s => exact hk s
  | rt r => rfl
theorem s_ifMixR {c : E} {a b k : S} {tc : Tr Bool} {E : σ → Env} {em : ρ → PyData} {ta tb : Tr (Fl σ ρ)} {tk : σ → Tr ρ} (hc : ev F c env = mapT PyData.bool tc) (ha : ex F fuel a env = mapT (outM E em) ta) (hb : ex F fuel b env = mapT (outM E em) tb) (hk : ∀ s, ex F fuel k (E s) = mapT (outR em) (tk s)) :
    ex F fuel (.seq (.ife c a b) k) env = mapT (outR em) ((tc.bind fun c => cond c ta tb).bind (flT tk)) := by
  rw [ex_seq, if_aux hc ha hb, mix_R hk]
theorem s_ifMixM {c : E} {a b k : S} {tc : Tr Bool} {E : σ → Env} {E' : τ → Env} {em : ρ → PyData} {ta tb : Tr (Fl σ ρ)} {tk : σ → Tr (Fl τ ρ)} (hc : ev F c env = mapT PyData.bool tc) (ha : ex F fuel a env = mapT (outM E em) ta) (hb : ex F fuel b env = mapT (outM E em) tb) (hk : ∀ s, ex F fuel k (E s) = mapT (outM E' em) (tk s)) :
    ex F fuel (.seq (.ife c a b) k) env = mapT (outM E' em) ((tc.bind fun c => cond c ta tb).bind (flM tk)) := by
  rw [ex_seq, if_aux hc ha hb, mix_M hk]
def foldT (st : σ → α → Tr σ) (xs : List α) (s : σ) : Tr σ := List.rec (motive := fun _ => σ → Tr σ) (fun s => .ret s) (fun x _ ih s => (st s x).bind ih) xs s
def foldM (st : σ → α → Tr (Fl σ ρ)) (xs : List α) (s : σ) : Tr (Fl σ ρ) := List.rec (motive := fun _ => σ → Tr (Fl σ ρ)) (fun s => .ret (.nx s)) (fun x _ ih s => (st s x).bind fun o => match o with | .nx s => ih s | .rt r => .ret (.rt r)) xs s
theorem loop_N {tg : Tg} {b : S} {ea : α → PyData} {E : σ → Env} {st : σ → α → Tr σ} (hb : ∀ s x, ∃ env', assign tg (ea x) (E s) = some env' ∧ ex F fuel b env' = mapT (outN E) (st s x)) : ∀ (xs : List α) (s : σ), loopF (assign tg) (ex F fuel b) (xs.map ea) (E s) = mapT (outN E) (foldT st xs s)
  | [], _ => rfl
  | x :: xs, s => by
    obtain ⟨env', h1, h2⟩ := hb s x
    show (match assign tg (ea x) (E s) with
      | none => Tr.fail
      | some env => (ex F fuel b env).bind fun o => match o with
        | .nx e => loopF (assign tg) (ex F fuel b) (xs.map ea) e
        | .ct e => loopF (assign tg) (ex F fuel b) (xs.map ea) e
        | .bk e => .ret (.nx e)
        | .rt d => .ret (.rt d)) = mapT (outN E) ((st s x).bind fun s => foldT st xs s)
    rw [h1]
    show (ex F fuel b env').bind _ = _
    rw [h2, mapT_bind, mapT_of]
    exact bind_congr fun s' => loop_N hb xs s'
theorem loop_M {tg : Tg} {b : S} {ea : α → PyData} {E : σ → Env} {em : ρ → PyData} {st : σ → α → Tr (Fl σ ρ)} (hb : ∀ s x, ∃ env', assign tg (ea x) (E s) = some env' ∧ ex F fuel b env' = mapT (outM E em) (st s x)) : ∀ (xs : List α) (s : σ), loopF (assign tg) (ex F fuel b) (xs.map ea) (E s) = mapT (outM E em) (foldM st xs s)
  | [], _ => rfl
  | x :: xs, s => by
    obtain ⟨env', h1, h2⟩ := hb s x
    show (match assign tg (ea x) (E s) with
      | none => Tr.fail
      | some env => (ex F fuel b env).bind fun o => match o with
        | .nx e => loopF (assign tg) (ex F fuel b) (xs.map ea) e
        | .ct e => loopF (assign tg) (ex F fuel b) (xs.map ea) e
        | .bk e => .ret (.nx e)
        | .rt d => .ret (.rt d)) = mapT (outM E em) ((st s x).bind fun o => match o with | .nx s => foldM st xs s | .rt r => .ret (.rt r))
    rw [h1]
    show (ex F fuel b env').bind _ = _
    rw [h2, mapT_bind, mapT_of]
    refine bind_congr fun o => ?_
    cases o with
    | nx s' => exact loop_M hb xs s'
    | rt r => rfl
theorem fr_aux {tg : Tg} {it : E} {b : S} {ei : α → PyData} {ex' : β → PyData} {ti : Tr α} {wk : α → Tr (List β)} {g : τ → Out} {tl : List β → Tr τ} (hw : WkOk ei ex' wk) (hi : ev F it env = mapT ei ti) (hl : ∀ xs : List β, loopF (assign tg) (ex F fuel b) (xs.map ex') env = mapT g (tl xs)) :
    ex F fuel (.fr tg it b) env = mapT g (ti.bind fun v => (wk v).bind tl) := by
  rw [w_fr, hi, mapT_bind, mapT_of]
  refine bind_congr fun v => ?_
  have e : ∀ o : Option (List PyData), (match o with
    | some xs => loopF (assign tg) (ex F fuel b) xs env
    | none => .fail) = (Tr.ofO o).bind fun xs => loopF (assign tg) (ex F fuel b) xs env := fun o => by cases o <;> rfl
  refine (e _).trans ?_
  rw [hw, mapT_bind, mapT_of]
  exact bind_congr hl
section
variable {tg : Tg} {it : E} {b k : S} {ei : α → PyData} {ex' : β → PyData} {ti : Tr α} {wk : α → Tr (List β)} {E : σ → Env} {s0 : σ}
theorem s_forN {st : σ → β → Tr σ} {g : τ → Out} {tk : σ → Tr τ} (hw : WkOk ei ex' wk) (hi : ev F it env = mapT ei ti) (h0 : env = E s0) (hb : ∀ s x, ∃ env', assign tg (ex' x) (E s) = some env' ∧ ex F fuel b env' = mapT (outN E) (st s x)) (hk : ∀ s, ex F fuel k (E s) = mapT g (tk s)) :
    ex F fuel (.seq (.fr tg it b) k) env = mapT g ((ti.bind fun v => (wk v).bind fun xs => foldT st xs s0).bind tk) := by
  rw [ex_seq, fr_aux hw hi (fun xs => by rw [h0]; exact loop_N hb xs s0), mapT_bind, mapT_of]
  exact bind_congr hk
theorem s_forR {st : σ → β → Tr (Fl σ ρ)} {em : ρ → PyData} {tk : σ → Tr ρ} (hw : WkOk ei ex' wk) (hi : ev F it env = mapT ei ti) (h0 : env = E s0) (hb : ∀ s x, ∃ env', assign tg (ex' x) (E s) = some env' ∧ ex F fuel b env' = mapT (outM E em) (st s x)) (hk : ∀ s, ex F fuel k (E s) = mapT (outR em) (tk s)) :
    ex F fuel (.seq (.fr tg it b) k) env = mapT (outR em) ((ti.bind fun v => (wk v).bind fun xs => foldM st xs s0).bind (flT tk)) := by
  rw [ex_seq, fr_aux hw hi (fun xs => by rw [h0]; exact loop_M hb xs s0), mix_R hk]
theorem s_forM {st : σ → β → Tr (Fl σ ρ)} {em : ρ → PyData} {E' : τ → Env} {tk : σ → Tr (Fl τ ρ)} (hw : WkOk ei ex' wk) (hi : ev F it env = mapT ei ti) (h0 : env = E s0) (hb : ∀ s x, ∃ env', assign tg (ex' x) (E s) = some env' ∧ ex F fuel b env' = mapT (outM E em) (st s x)) (hk : ∀ s, ex F fuel k (E s) = mapT (outM E' em) (tk s)) :
    ex F fuel (.seq (.fr tg it b) k) env = mapT (outM E' em) ((ti.bind fun v => (wk v).bind fun xs => foldM st xs s0).bind (flM tk)) := by
  rw [ex_seq, fr_aux hw hi (fun xs => by rw [h0]; exact loop_M hb xs s0), mix_M hk]
end
def whileT (c : σ → Tr Bool) (b : σ → Tr σ) : Nat → σ → Tr σ
  | 0, _ => .fail
  | n + 1, s => (c s).bind fun t => cond t ((b s).bind fun s => whileT c b n s) (.ret s)
def whileM (c : σ → Tr Bool) (b : σ → Tr (Fl σ ρ)) : Nat → σ → Tr (Fl σ ρ)
  | 0, _ => .fail
  | n + 1, s => (c s).bind fun t => cond t ((b s).bind fun o => match o with | .nx s => whileM c b n s | .rt r => .ret (.rt r)) (.ret (.nx s))
section
variable {c : E} {b k : S} {E : σ → Env} {s0 : σ} {tc : σ → Tr Bool}
theorem whl_N {tb : σ → Tr σ} (hc : ∀ s, ev F c (E s) = mapT PyData.bool (tc s)) (hb : ∀ s, ex F fuel b (E s) = mapT (outN E) (tb s)) : ∀ (n : Nat) (s : σ), loopW (ev F c) (ex F fuel b) n (E s) = mapT (outN E) (whileT tc tb n s)
  | 0, _ => rfl
  | n + 1, s => by
    show (ev F c (E s)).bind _ = mapT (outN E) ((tc s).bind fun t => cond t ((tb s).bind fun s => whileT tc tb n s) (.ret s))
    rw [hc, mapT_bind, mapT_of]
    refine bind_congr fun t => ?_
    cases t with
    | false => rfl
    | true =>
      show (ex F fuel b (E s)).bind _ = mapT (outN E) ((tb s).bind fun s => whileT tc tb n s)
      rw [hb, mapT_bind, mapT_of]
      exact bind_congr fun s' => whl_N hc hb n s'
theorem whl_M {em : ρ → PyData} {tb : σ → Tr (Fl σ ρ)} (hc : ∀ s, ev F c (E s) = mapT PyData.bool (tc s)) (hb : ∀ s, ex F fuel b (E s) = mapT (outM E em) (tb s)) : ∀ (n : Nat) (s : σ), loopW (ev F c) (ex F fuel b) n (E s) = mapT (outM E em) (whileM tc tb n s)
  | 0, _ => rfl
  | n + 1, s => by
    show (ev F c (E s)).bind _ = mapT (outM E em) ((tc s).bind fun t => cond t ((tb s).bind fun o => match o with | .nx s => whileM tc tb n s | .rt r => .ret (.rt r)) (.ret (.nx s)))
    rw [hc, mapT_bind, mapT_of]
    refine bind_congr fun t => ?_
    cases t with
    | false => rfl
    | true =>
      show (ex F fuel b (E s)).bind _ = mapT (outM E em) ((tb s).bind fun o => match o with | .nx s => whileM tc tb n s | .rt r => .ret (.rt r))
      rw [hb, mapT_bind, mapT_of]
      refine bind_congr fun o => ?_
      cases o with
      | nx s' => exact whl_M hc hb n s'
      | rt r => rfl
theorem s_whlN {tb : σ → Tr σ} {g : τ → Out} {tk : σ → Tr τ} (h0 : env = E s0) (hc : ∀ s, ev F c (E s) = mapT PyData.bool (tc s)) (hb : ∀ s, ex F fuel b (E s) = mapT (outN E) (tb s)) (hk : ∀ s, ex F fuel k (E s) = mapT g (tk s)) :
    ex F fuel (.seq (.whl c b) k) env = mapT g ((whileT tc tb fuel s0).bind tk) := by
  rw [ex_seq, w_whl, h0, whl_N hc hb, mapT_bind, mapT_of]
  exact bind_congr hk
theorem s_whlR {em : ρ → PyData} {tb : σ → Tr (Fl σ ρ)} {tk : σ → Tr ρ} (h0 : env = E s0) (hc : ∀ s, ev F c (E s) = mapT PyData.bool (tc s)) (hb : ∀ s, ex F fuel b (E s) = mapT (outM E em) (tb s)) (hk : ∀ s, ex F fuel k (E s) = mapT (outR em) (tk s)) :
    ex F fuel (.seq (.whl c b) k) env = mapT (outR em) ((whileM tc tb fuel s0).bind (flT tk)) := by
  rw [ex_seq, w_whl, h0, whl_M hc hb, mix_R hk]
theorem s_whlM {em : ρ → PyData} {tb : σ → Tr (Fl σ ρ)} {E' : τ → Env} {tk : σ → Tr (Fl τ ρ)} (h0 : env = E s0) (hc : ∀ s, ev F c (E s) = mapT PyData.bool (tc s)) (hb : ∀ s, ex F fuel b (E s) = mapT (outM E em) (tb s)) (hk : ∀ s, ex F fuel k (E s) = mapT (outM E' em) (tk s)) :
    ex F fuel (.seq (.whl c b) k) env = mapT (outM E' em) ((whileM tc tb fuel s0).bind (flM tk)) := by
  rw [ex_seq, w_whl, h0, whl_M hc hb, mix_M hk]
end
theorem fn_R {T : List Fn} {D i : Nat} {p : Bool} {f : Fn} {ds : List PyData} {em : ρ → PyData} {t : Tr ρ} (hf : getF i T = some f) (hp : ((cond f.pool p (!p)) && Nat.beq ds.length f.arity) = true) (hb : ex (run T fuel D) fuel f.body (entry f ds) = mapT (outR em) t) : run T fuel (D + 1) i p ds = mapT em t := by
  show (match getF i T with
    | some f => cond ((cond f.pool p (!p)) && Nat.beq ds.length f.arity) ((ex (run T fuel D) fuel f.body (entry f ds)).bind outD) .fail
    | none => .fail) = _
  rw [hf]
  show cond ((cond f.pool p (!p)) && Nat.beq ds.length f.arity) ((ex (run T fuel D) fuel f.body (entry f ds)).bind outD) .fail = _
  rw [hp]
  show (ex (run T fuel D) fuel f.body (entry f ds)).bind outD = _
  rw [hb, mapT_bind]; rfl
end
end Ev
namespace Ev
open PySem L2
noncomputable section
variable {α β ρ : Type} {F : Nat → Bool → List PyData → Tr PyData} {fuel : Nat}
theorem fn_E {T : List Fn} {D i : Nat} {p : Bool} {f : Fn} {ds : List PyData} {env : Env} {b : S} {em : ρ → PyData} {t : Tr ρ} (hf : getF i T = some f) (hp : ((cond f.pool p (!p)) && Nat.beq ds.length f.arity) = true) (he : entry f ds = env) (hq : f.body = b) (hb : ex (run T fuel D) fuel b env = mapT (outR em) t) : run T fuel (D + 1) i p ds = mapT em t :=
  fn_R hf hp (by rw [he, hq]; exact hb)
theorem by_ {a b c : Tr β} (h : a = b) (e : b = c) : a = c := h.trans e
end
end Ev
namespace Ev
open PySem L2
noncomputable section
variable {α β γ σ ρ τ : Type} {F : Nat → Bool → List PyData → Tr PyData} {fuel : Nat} {env : Env}
theorem s_rowN {b k : S} {E : σ → Env} {tb : Tr σ} {g : τ → Out} {tk : σ → Tr τ} (hb : ex F fuel b env = mapT (outN E) tb) (hk : ∀ s, ex F fuel k (E s) = mapT g (tk s)) : ex F fuel (.seq b k) env = mapT g (tb.bind tk) := by
  rw [ex_seq, hb, mapT_bind, mapT_of]
  exact bind_congr hk
/-- the other one returns -/
theorem s_ifRet2 {c : E} {a b k : S} {tc : Tr Bool} {em : ρ → PyData} {tb : Tr ρ} {tk : Tr ρ} (hc : ev F c env = mapT PyData.bool tc) (hb : ex F fuel b env = mapT (outR em) tb) (hk : ex F fuel (.seq a k) env = mapT (outR em) tk) : ex F fuel (.seq (.ife c a b) k) env = mapT (outR em) (tc.bind fun c => cond c tk tb) := by
  rw [ex_seq, w_ife, hc, mapT_bind, Tr.bind_assoc, mapT_of]
  refine bind_congr fun c => ?_
  cases c with
  | false =>
    show (ex F fuel b env).bind _ = mapT (outR em) tb
    rw [hb, mapT_bind]; rfl
  | true =>
    rw [ex_seq] at hk
    exact hk
theorem s_ifRet2M {c : E} {a b k : S} {tc : Tr Bool} {E : σ → Env} {em : ρ → PyData} {tb : Tr ρ} {tk : Tr (Fl σ ρ)} (hc : ev F c env = mapT PyData.bool tc) (hb : ex F fuel b env = mapT (outR em) tb) (hk : ex F fuel (.seq a k) env = mapT (outM E em) tk) : ex F fuel (.seq (.ife c a b) k) env = mapT (outM E em) (tc.bind fun c => cond c tk (tb.bind fun r => .ret (.rt r))) := by
  rw [ex_seq, w_ife, hc, mapT_bind, Tr.bind_assoc, mapT_of]
  refine bind_congr fun c => ?_
  cases c with
  | false =>
    show (ex F fuel b env).bind _ = mapT (outM E em) (tb.bind fun r => .ret (.rt r))
    rw [hb, mapT_bind, mapT_of]; rfl
  | true =>
    rw [ex_seq] at hk
    exact hk
theorem law_E {T : List Fn} {D : Nat} {f : Fn} {env : Env} {b : S} {em : ρ → PyData} {t : Tr ρ} (he : setE 1 .pool (blank f.slots) = env) (hq : f.body = b) (hb : ex (run T fuel D) fuel b env = mapT (outR em) t) : lawRun T fuel D f = mapT (outR em) t := by
  unfold lawRun
  rw [he, hq]; exact hb
def swapT (xs : List α) (i j : Int) (x y : α) : Tr (List α) := (putT xs i x).bind fun ys => putT ys j y
theorem putL_T {e : α → PyData} {xs : List α} {i : Int} {x : α} {f : List PyData → Tr β} : (match putL (xs.map e) (.int i) (e x) with
    | some ys => f ys
    | none => .fail) = (putT xs i x).bind fun ys => f (ys.map e) := by
  rw [putL_map]
  unfold putT
  cases place xs.length i <;> rfl
theorem s_swap {i : Nat} {kx lx a : E} {k : S} {em : α → PyData} {xs : List α} {tx : Tr Int} {ty : Tr Int} {ta : Tr (α × α)} {g : τ → Out} {tk : List α → Tr τ} (hx : getE i env = .o (eL em xs)) (ha : ev F a env = mapT (eP em em) ta) (hi : ev F kx env = mapT PyData.int tx) (hj : ∀ ys, ev F lx (setE i (.o (eL em ys)) env) = mapT PyData.int ty) (hk : ∀ z, ex F fuel k (setE i (.o (eL em z)) env) = mapT g (tk z)) :
    ex F fuel (.seq (.swap i kx lx a) k) env = mapT g (ta.bind fun v => tx.bind fun p => (putT xs p v.1).bind fun ys => ty.bind fun q => (putT ys q v.2).bind tk) := by
  rw [ex_seq]
  show ((ev F a env).bind fun d => match d with
    | .tuple [x, y] => (match getE i env with
      | .o (.list xs) => (ev F kx env).bind fun k => (match putL xs k x with
        | some ys => (ev F lx (setE i (.o (.list ys)) env)).bind fun l => (match putL ys l y with
          | some zs => Tr.ret (Out.nx (setE i (.o (.list zs)) env))
          | none => .fail)
        | none => .fail)
      | _ => .fail)
    | _ => .fail).bind _ = _
  rw [ha, mapT_bind, Tr.bind_assoc, mapT_of]
  refine bind_congr fun v => ?_
  rw [hx]
  show ((ev F kx env).bind fun k => (match putL (xs.map em) k (em v.1) with
        | some ys => (ev F lx (setE i (.o (.list ys)) env)).bind fun l => (match putL ys l (em v.2) with
          | some zs => Tr.ret (Out.nx (setE i (.o (.list zs)) env))
          | none => .fail)
        | none => .fail)).bind _ = _
  rw [hi, mapT_bind, Tr.bind_assoc, mapT_of]
  refine bind_congr fun p => ?_
  have e1 := putL_T (e := em) (xs := xs) (i := p) (x := v.1) (f := fun ys => (ev F lx (setE i (.o (.list ys)) env)).bind fun l => (match putL ys l (em v.2) with
          | some zs => Tr.ret (Out.nx (setE i (.o (.list zs)) env))
          | none => .fail))
  refine (congrArg (fun t => Tr.bind t (thenO (ex F fuel k))) e1).trans ?_
  show ((putT xs p v.1).bind _).bind _ = _
  rw [Tr.bind_assoc, mapT_of]
  refine bind_congr fun ys => ?_
  show ((ev F lx (setE i (.o (eL em ys)) env)).bind _).bind _ = _
  rw [hj, mapT_bind, Tr.bind_assoc, mapT_of]
  refine bind_congr fun q => ?_
  have e2 := putL_T (e := em) (xs := ys) (i := q) (x := v.2) (f := fun zs => Tr.ret (Out.nx (setE i (.o (.list zs)) env)))
  refine (congrArg (fun t => Tr.bind t (thenO (ex F fuel k))) e2).trans ?_
  show ((putT ys q v.2).bind _).bind _ = _
  rw [Tr.bind_assoc, mapT_of]
  exact bind_congr hk
end
end Ev
namespace Ev
open PySem L2
noncomputable section
variable {F : Nat → Bool → List PyData → Tr PyData} {env : Env}
/-- tuple(sorted([x, y])) -/
def srt2 (x y : Int) : Int × Int := cond (iltB y x) (y, x) (x, y)
theorem srt2_aux (x y : Int) : (biD .sorted [.list [.int x, .int y]]).bind (fun d => biD .tuple [d]) = some (eP PyData.int PyData.int (srt2 x y)) := by
  have c : canSort [PyData.int x, .int y] = true := by
    have := srt_int [x, y]
    exact this
  show ((cond (canSort [PyData.int x, .int y]) (some (PyData.list (sortD [.int x, .int y]))) none).bind fun d => biD .tuple [d]) = _
  rw [c]
  show some (PyData.tuple (cond (iltB y x) (PyData.int y :: [PyData.int x]) (PyData.int x :: PyData.int y :: []))) = some (eP PyData.int PyData.int (cond (iltB y x) (y, x) (x, y)))
  cases iltB y x <;> rfl
theorem t_srt2lst {a b : E} {ta tb : Tr Int} (ha : ev F a env = mapT PyData.int ta) (hb : ev F b env = mapT PyData.int tb) : ev F (.bi .tuple (.cons (.bi .sorted (.cons (.lst (.cons a (.cons b .nil))) .nil)) .nil)) env = mapT (eP PyData.int PyData.int) (ta.bind fun x => tb.bind fun y => .ret (srt2 x y)) := by
  have h1 := t_lst2 (F := F) (env := env) (ec := eD) (fun x y => PyData.list [.int x, .int y]) (fun _ _ => rfl) ha hb
  have h2 := t_bi1 (f := .sorted) (ec := eD) (g := fun d => Tr.ofO (biD .sorted [d])) (fun d => (mapT_eD _).symm) h1
  have h3 := t_bi1 (f := .tuple) (ec := eD) (g := fun d => Tr.ofO (biD .tuple [d])) (fun d => (mapT_eD _).symm) h2
  rw [h3, mapT_eD, mapT_of, Tr.bind_assoc, Tr.bind_assoc]
  refine bind_congr fun x => ?_
  try rw [Tr.bind_assoc]
  rw [mapT_of]
  refine bind_congr fun y => ?_
  have := srt2_aux x y
  show (Tr.ofO (biD .sorted [.list [.int x, .int y]])).bind (fun d => Tr.ofO (biD .tuple [d])) = Tr.ret (eP PyData.int PyData.int (srt2 x y))
  have e : ∀ (o : Option PyData) (k : PyData → Option PyData), (Tr.ofO o).bind (fun d => Tr.ofO (k d)) = Tr.ofO (o.bind k) := fun o k => by cases o <;> rfl
  rw [e, this]; rfl
theorem t_srt2tup {a b : E} {ta tb : Tr Int} (ha : ev F a env = mapT PyData.int ta) (hb : ev F b env = mapT PyData.int tb) : ev F (.bi .tuple (.cons (.bi .sorted (.cons (.tup (.cons a (.cons b .nil))) .nil)) .nil)) env = mapT (eP PyData.int PyData.int) (ta.bind fun x => tb.bind fun y => .ret (srt2 x y)) := by
  have h1 := t_tup2 (F := F) (env := env) (ec := eD) (fun x y => PyData.tuple [.int x, .int y]) (fun _ _ => rfl) ha hb
  have h2 := t_bi1 (f := .sorted) (ec := eD) (g := fun d => Tr.ofO (biD .sorted [d])) (fun d => (mapT_eD _).symm) h1
  have h3 := t_bi1 (f := .tuple) (ec := eD) (g := fun d => Tr.ofO (biD .tuple [d])) (fun d => (mapT_eD _).symm) h2
  rw [h3, mapT_eD, mapT_of, Tr.bind_assoc, Tr.bind_assoc]
  refine bind_congr fun x => ?_
  try rw [Tr.bind_assoc]
  rw [mapT_of]
  refine bind_congr fun y => ?_
  have := srt2_aux x y
  show (Tr.ofO (biD .sorted [.list [.int x, .int y]])).bind (fun d => Tr.ofO (biD .tuple [d])) = Tr.ret (eP PyData.int PyData.int (srt2 x y))
  have e : ∀ (o : Option PyData) (k : PyData → Option PyData), (Tr.ofO o).bind (fun d => Tr.ofO (k d)) = Tr.ofO (o.bind k) := fun o k => by cases o <;> rfl
  rw [e, this]; rfl
end
end Ev
namespace Ev
open PySem L2
noncomputable section
def ltP (x y : Int × Int) : Bool := cond (ieqB x.1 y.1) (iltB x.2 y.2) (iltB x.1 y.1)
theorem ieq_self (a : Int) : ieqB a a = true := by rw [ieqB_iff, decide_eq_true_eq]
theorem ilt_self (a : Int) : iltB a a = false := by rw [iltB_iff, decide_eq_false_iff_not]; omega
theorem lt_P : LtOk (eP PyData.int PyData.int) ltP := fun x y => by
  obtain ⟨a, b⟩ := x
  obtain ⟨c, d⟩ := y
  show ltToks [.inl 1, .inl a, .inl 1, .inl b, .inl 0] [.inl 1, .inl c, .inl 1, .inl d, .inl 0] = cond (ieqB a c) (iltB b d) (iltB a c)
  show (match (cond (ieqB a c) none (some (iltB a c)) : Option Bool) with
    | some r => r
    | none => match (cond (ieqB b d) none (some (iltB b d)) : Option Bool) with
      | some r => r
      | none => false) = _
  cases e : ieqB a c with
  | false => rfl
  | true =>
    cases e2 : ieqB b d with
    | false => rfl
    | true =>
      rw [ieqB_iff, decide_eq_true_eq] at e2
      subst e2
      exact (ilt_self b).symm
def ltT : List Int → List Int → Bool
  | [], [] => false
  | [], _ :: _ => true
  | _ :: _, [] => false
  | a :: as, b :: bs => cond (ieqB a b) (ltT as bs) (iltB a b)
theorem ltT_aux : ∀ x y : List Int, ltToks (PySem.W.keyToksAll (x.map .int)) (PySem.W.keyToksAll (y.map .int)) = ltT x y
  | [], [] => rfl
  | [], _ :: _ => rfl
  | _ :: _, [] => rfl
  | a :: as, b :: bs => by
    show (match (cond (ieqB a b) none (some (iltB a b)) : Option Bool) with
      | some r => r
      | none => ltToks (PySem.W.keyToksAll (as.map .int)) (PySem.W.keyToksAll (bs.map .int))) = cond (ieqB a b) (ltT as bs) (iltB a b)
    cases ieqB a b with
    | false => rfl
    | true => exact ltT_aux as bs
theorem lt_T : LtOk (eT PyData.int) ltT := fun x y => ltT_aux x y
theorem alikeB_of {α : Type} {e : α → PyData} (h : ∀ x y, PySem.W.alike (e x) (e y) = true) : ∀ xs : List α, alikeB (xs.map e) = true
  | [] => rfl
  | x :: xs => by
    show (alikeTo (e x) ((x :: xs).map e) && alikeB (xs.map e)) = true
    rw [alikeB_of h xs, Bool.and_true]
    unfold alikeTo
    rw [List.all_eq_true]
    intro z hz
    obtain ⟨w, _, rfl⟩ := List.mem_map.mp hz
    exact h x w
theorem srt_P : SrtOk (eP PyData.int PyData.int) lenOk := fun xs => by
  have s : sortable (xs.map (eP PyData.int PyData.int)) = true := by
    unfold sortable
    rw [Bool.or_eq_true]
    refine .inl ?_
    rw [List.all_eq_true]
    intro z hz
    obtain ⟨w, _, rfl⟩ := List.mem_map.mp hz
    rfl
  unfold canSort
  rw [alikeB_of (fun _ _ => rfl), s, flatAll_map (fl_P fl_int fl_int) _ (by decide), lenOk_map]; rfl
theorem alike_ints : ∀ x y : List Int, PySem.W.alikeAll (x.map .int) (y.map .int) = true
  | [], _ => by cases ‹List Int› <;> rfl
  | _ :: _, [] => rfl
  | a :: as, b :: bs => by
    show (PySem.W.alike (.int a) (.int b) && PySem.W.alikeAll (as.map .int) (bs.map .int)) = true
    rw [alike_ints as bs]; rfl
def srtT (xs : List (List Int)) : Bool := xs.all (fun x => !x.isEmpty) && lenOk xs
theorem srt_T : SrtOk (eT PyData.int) srtT := fun xs => by
  have s : sortable (xs.map (eT PyData.int)) = xs.all (fun x => !x.isEmpty) := by
    unfold sortable
    have h1 : ((xs.map (eT PyData.int)).all fun x => match x with | .tuple (_ :: _) => true | _ => false) = xs.all (fun x => !x.isEmpty) := by
      rw [List.all_map]
      congr 1
      funext x
      cases x <;> rfl
    refine (congrArg (fun b => b || _) h1).trans ?_
    cases xs with
    | nil => rfl
    | cons x xs => exact Bool.or_false _
  unfold canSort srtT
  rw [alikeB_of (e := eT PyData.int) (fun x y => alike_ints x y), s, flatAll_map (fl_T fl_int) _ (by decide), lenOk_map, Bool.true_and, Bool.and_true]
end
end Ev

/-! EvTh -/
set_option maxHeartbeats 2000000
namespace Ev
open PySem L2
noncomputable section
variable {α β γ σ ρ τ : Type}
theorem AL_mapT {e : α → β} {t : Tr α} {P : β → Prop} (h : AL t fun a => P (e a)) : AL (mapT e t) P := AL_bind (AL_mono h fun _ q => AL_pure q)
theorem law_of {T : List Fn} {D : Nat} {fuel : Nat} {f : Fn} {t : Tr Bool} (h : lawRun T fuel D f = mapT (outR PyData.bool) t) (a : AL t fun b => b = true) : AL (lawRun T fuel D f) YS := by
  rw [h]
  exact AL_mapT (AL_mono a fun b hb => by subst hb; rfl)
theorem AL_eq {t u : Tr α} {P : α → Prop} (e : t = u) (h : AL u P) : AL t P := by rw [e]; exact h
theorem AL_then {t : Tr α} {f : α → Tr β} {P : α → Prop} {Q : β → Prop} (h : AL t P) (k : ∀ a, P a → AL (f a) Q) : AL (t.bind f) Q := AL_bind (AL_mono h k)
theorem AL_drawT {n : Nat} {P : Int → Prop} (h0 : 0 < n) (h1 : n ≤ 1000) (h : ∀ r : Nat, r < n → P (Int.ofNat r)) : AL (drawT (Int.ofNat n)) P := by
  show AL (cond (Nat.blt 0 n && Nat.blt n 1073741824) (Tr.draw n fun r => Tr.ret (Int.ofNat r)) Tr.fail) P
  rw [(Nat.blt_eq).mpr h0, (Nat.blt_eq).mpr (show n < 1073741824 by omega)]
  exact AL_draw fun r hr => AL_pure (h r hr)
theorem bind_ret' {t : Tr α} {f : α → Tr β} {a : α} (h : t = .ret a) : t.bind f = f a := by rw [h]; rfl
theorem bind_id (t : Tr α) : (t.bind fun a => .ret a) = t := by
  induction t with
  | ret a => rfl
  | draw n k ih =>
    show Tr.draw n (fun r => (k r).bind _) = _
    congr 1
    funext r
    exact ih r
  | fail => rfl
theorem ieqB_i {a b : Int} : ieqB a b = decide (a = b) := ieqB_iff
theorem mul_ok {a b : Int} (h : fitsB a = true ∨ fitsB b = true) : mulT a b = .ret (a * b) := by
  unfold mulT
  refine grd_t _ ?_
  rcases h with h | h <;> rw [h] <;> simp
theorem fits_nat {n : Nat} (h : n ≤ 1000000000) : fitsB (Int.ofNat n) = true := by
  unfold fitsB
  rw [iltB_iff, iltB_iff, decide_eq_true (by show _ < (n : Int); omega), decide_eq_true (by show (n : Int) < _; omega)]; rfl
theorem fdiv_ok {a b : Int} (h0 : 0 < b) (h1 : b < 1073741824) : fdivT a b = .ret (a.fdiv b) := by
  unfold fdivT
  refine grd_t _ ?_
  rw [ieqB_i, iltB_iff, iltB_iff, decide_eq_false (by omega), decide_eq_true (by omega), decide_eq_true h1]; rfl
theorem mod_ok {a b : Int} (h : b ≠ 0) : modT a b = .ret (a.fmod b) := by
  unfold modT
  rw [ieqB_i, decide_eq_false h]; rfl
/-- a, a + 1, .., n of them -/
def ups (a n : Nat) : List Int := (List.range' a n).map Int.ofNat
theorem upN_nat : ∀ (n a : Nat), upN 1 n (Int.ofNat a) = ups a n
  | 0, _ => rfl
  | n + 1, a => by
    show Int.ofNat a :: upN 1 n (Int.ofNat (a + 1)) = _
    rw [upN_nat n (a + 1)]
    unfold ups
    rw [List.range'_succ, List.map_cons]
theorem ups_len (a n : Nat) : (ups a n).length = n := by unfold ups; rw [List.length_map, List.length_range']
theorem mem_ups {a n : Nat} {x : Int} : x ∈ ups a n ↔ (a : Int) ≤ x ∧ x < a + n := by
  unfold ups
  rw [List.mem_map]
  constructor
  · rintro ⟨k, hk, rfl⟩
    rw [List.mem_range'_1] at hk
    show (a : Int) ≤ (k : Int) ∧ (k : Int) < a + n
    omega
  · rintro ⟨h1, h2⟩
    exact ⟨x.toNat, by rw [List.mem_range'_1]; omega, by show (x.toNat : Int) = x; omega⟩
theorem ups_nodup (a n : Nat) : (ups a n).Nodup := by
  unfold ups
  exact List.Pairwise.map _ (fun x y h e => h (Int.ofNat.inj e)) List.nodup_range'
theorem ups_get {a n k : Nat} (h : k < n) : (ups a n)[k]? = some (Int.ofNat (a + k)) := by
  unfold ups
  rw [List.getElem?_map, List.getElem?_range' h, Nat.one_mul]; rfl
theorem ups_nil (a : Nat) : ups a 0 = [] := rfl
theorem ups_cons (a n : Nat) : ups a (n + 1) = Int.ofNat a :: ups (a + 1) n := by
  unfold ups
  rw [List.range'_succ, List.map_cons]
theorem ups_succ (a n : Nat) : ups a (n + 1) = ups a n ++ [Int.ofNat (a + n)] := by
  unfold ups
  rw [List.range'_concat, List.map_append, Nat.one_mul]; rfl
theorem rng1_ok {n : Nat} (h : n ≤ 1000) : rng1T (Int.ofNat n) = .ret (ups 0 n) := by
  have e : upN 1 n 0 = ups 0 n := upN_nat n 0
  show grd (small62 (.ofNat n) && Nat.ble n lim) (.ret (upN 1 n 0)) = _
  rw [small_nat h, lim_nat h, e]; rfl
theorem rng1_eq {x : Int} {n : Nat} (hx : x = Int.ofNat n) (h : n ≤ 1000) : rng1T x = .ret (ups 0 n) := by subst hx; exact rng1_ok h
theorem rng2_ok {a b : Nat} (ha : a ≤ 1000) (hb : b ≤ 1000) : rng2T (Int.ofNat a) (Int.ofNat b) = .ret (ups a (b - a)) := by
  have e : ((Int.ofNat b) - (.ofNat a)).toNat = b - a := by show ((b : Int) - (a : Int)).toNat = _; omega
  show grd (small62 (.ofNat a) && small62 (.ofNat b) && Nat.ble ((Int.ofNat b) - (.ofNat a)).toNat lim) (.ret (upN 1 ((Int.ofNat b) - (.ofNat a)).toNat (.ofNat a))) = _
  rw [e, small_nat ha, small_nat hb, lim_nat (by omega), upN_nat]; rfl
theorem rng2_eq {x y : Int} {a b : Nat} (hx : x = Int.ofNat a) (hy : y = Int.ofNat b) (ha : a ≤ 1000) (hb : b ≤ 1000) : rng2T x y = .ret (ups a (b - a)) := by subst hx; subst hy; exact rng2_ok ha hb
theorem lenOk_ok {xs : List α} (h : xs.length ≤ 1000) : lenOk xs = true := lenOk_le h
theorem app_ok {xs ys : List α} (h : xs.length + ys.length ≤ 1000) : appT xs ys = .ret (xs ++ ys) := grd_t _ (lenOk_le (by rw [List.length_append]; exact h))
theorem push_ok {xs : List α} {x : α} (h : xs.length ≤ 1000) : pushT xs x = .ret (xs ++ [x]) := grd_t _ (blt_lim h)
theorem ix_ok {xs : List α} {i : Int} {k : Nat} {v : α} (hi : i = Int.ofNat k) (h : xs[k]? = some v) : ixT xs i = .ret v := by
  subst hi
  unfold ixT
  obtain ⟨hk, _⟩ := List.getElem?_eq_some_iff.mp h
  rw [place_nat hk]
  show Tr.ofO xs[k]? = _
  rw [h]; rfl
theorem ix_last {xs : List α} {v : α} (h : xs.getLast? = some v) : ixT xs (-1) = .ret v := by
  unfold ixT
  have ne : xs ≠ [] := fun e => by subst e; exact nomatch h
  have hl : 0 < xs.length := List.length_pos_iff.mpr ne
  have : place xs.length (-1) = some (xs.length - 1) := by
    show cond (Nat.blt 0 xs.length) (some (xs.length - (0 + 1))) none = _
    rw [(Nat.blt_eq).mpr hl]; rfl
  rw [this]
  show Tr.ofO xs[xs.length - 1]? = _
  rw [← List.getLast?_eq_getElem?, h]; rfl
theorem put_ok {xs : List α} {i : Int} {k : Nat} {v : α} (hi : i = Int.ofNat k) (h : k < xs.length) : putT xs i v = .ret (xs.set k v) := by
  subst hi
  unfold putT
  rw [place_nat h]; rfl
theorem compT_ok {f : α → β} {st : α → Tr (Option β)} : ∀ {xs : List α}, (∀ x ∈ xs, st x = .ret (some (f x))) → compT st xs = .ret (xs.map f)
  | [], _ => rfl
  | x :: xs, h => by
    show (st x).bind (fun r => (compT st xs).bind fun ys => Tr.ret (match r with | some y => y :: ys | none => ys)) = _
    rw [h x List.mem_cons_self, compT_ok fun y hy => h y (List.mem_cons_of_mem _ hy)]; rfl
theorem compT_some {f : α → Option β} {st : α → Tr (Option β)} : ∀ {xs : List α}, (∀ x ∈ xs, st x = .ret (f x)) → compT st xs = .ret (xs.filterMap f)
  | [], _ => rfl
  | x :: xs, h => by
    show (st x).bind (fun r => (compT st xs).bind fun ys => Tr.ret (match r with | some y => y :: ys | none => ys)) = _
    rw [h x List.mem_cons_self, compT_some fun y hy => h y (List.mem_cons_of_mem _ hy), List.filterMap_cons]
    cases f x <;> rfl
theorem foldT_nil {st : σ → α → Tr σ} {s : σ} : foldT st [] s = .ret s := rfl
theorem foldT_cons {st : σ → α → Tr σ} {x : α} {xs : List α} {s : σ} : foldT st (x :: xs) s = (st s x).bind fun s => foldT st xs s := rfl
theorem foldT_ok {st : σ → α → Tr σ} (I : List α → List α → σ → Prop) (step : ∀ done x rest s, I done (x :: rest) s → ∃ s', st s x = .ret s' ∧ I (done ++ [x]) rest s') : ∀ (rest done : List α) (s : σ), I done rest s → ∃ s', foldT st rest s = .ret s' ∧ I (done ++ rest) [] s'
  | [], done, s, h => ⟨s, rfl, by rw [List.append_nil]; exact h⟩
  | x :: rest, done, s, h => by
    obtain ⟨s1, h1, h2⟩ := step done x rest s h
    obtain ⟨s2, h3, h4⟩ := foldT_ok I step rest (done ++ [x]) s1 h2
    refine ⟨s2, ?_, by rw [List.append_assoc] at h4; exact h4⟩
    rw [foldT_cons, h1]
    exact h3
/-- the fold, told by a function of what is done -/
theorem foldT_fn {st : σ → α → Tr σ} (f : List α → σ) : ∀ (rest done : List α), (∀ d x, ∀ r, done ++ rest = d ++ x :: r → st (f d) x = .ret (f (d ++ [x]))) → foldT st rest (f done) = .ret (f (done ++ rest))
  | [], done, _ => by rw [List.append_nil]; rfl
  | x :: rest, done, h => by
    rw [foldT_cons, h done x rest rfl]
    show foldT st rest (f (done ++ [x])) = _
    rw [foldT_fn f rest (done ++ [x]) fun d y r e => h d y r (by rw [← e, List.append_assoc]; rfl), List.append_assoc]; rfl
theorem foldT_map {st : σ → α → Tr σ} {f : σ → α → σ} : ∀ {xs : List α} {s : σ}, (∀ s, ∀ x ∈ xs, st s x = .ret (f s x)) → foldT st xs s = .ret (xs.foldl f s)
  | [], _, _ => rfl
  | x :: xs, s, h => by
    rw [foldT_cons, h s x List.mem_cons_self]
    exact foldT_map fun s y hy => h s y (List.mem_cons_of_mem _ hy)
theorem foldM_nx {st : σ → α → Tr (Fl σ ρ)} {s : σ} : ∀ {xs : List α}, (∀ x ∈ xs, st s x = .ret (.nx s)) → foldM st xs s = .ret (.nx s)
  | [], _ => rfl
  | x :: xs, h => by
    show (st s x).bind (fun o => match o with | .nx s => foldM st xs s | .rt r => .ret (.rt r)) = _
    rw [h x List.mem_cons_self]
    exact foldM_nx fun y hy => h y (List.mem_cons_of_mem _ hy)
theorem foldM_AL {st : σ → α → Tr (Fl σ ρ)} {s : σ} {P : Fl σ ρ → Prop} (hP : P (.nx s)) : ∀ {xs : List α}, (∀ x ∈ xs, AL (st s x) fun o => o = .nx s) → AL (foldM st xs s) P
  | [], _ => AL_pure hP
  | x :: xs, h => by
    refine AL_then (t := st s x) (f := fun o => match o with | .nx s => foldM st xs s | .rt r => .ret (.rt r)) (h x List.mem_cons_self) fun o ho => ?_
    subst ho
    exact foldM_AL hP fun y hy => h y (List.mem_cons_of_mem _ hy)
/-- the first that returns -/
theorem foldM_find {st : σ → α → Tr (Fl σ ρ)} {s : σ} {p : α → Option ρ} : ∀ {xs : List α}, (∀ x ∈ xs, st s x = .ret (match p x with | some r => .rt r | none => .nx s)) → foldM st xs s = .ret (match xs.findSome? p with | some r => .rt r | none => .nx s)
  | [], _ => rfl
  | x :: xs, h => by
    show (st s x).bind (fun o => match o with | .nx s => foldM st xs s | .rt r => .ret (.rt r)) = _
    rw [h x List.mem_cons_self, List.findSome?_cons]
    cases p x with
    | none => exact foldM_find fun y hy => h y (List.mem_cons_of_mem _ hy)
    | some r => rfl
theorem while_go {c : σ → Tr Bool} {b : σ → Tr σ} {n : Nat} {s s' : σ} (h1 : c s = .ret true) (h2 : b s = .ret s') : whileT c b (n + 1) s = whileT c b n s' := by
  show (c s).bind _ = _
  rw [h1]
  show (b s).bind _ = _
  rw [h2]; rfl
theorem while_end {c : σ → Tr Bool} {b : σ → Tr σ} {n : Nat} {s : σ} (h1 : c s = .ret false) : whileT c b (n + 1) s = .ret s := by
  show (c s).bind _ = _
  rw [h1]; rfl
theorem mem_int {x : Int} : ∀ {xs : List Int}, memY ieqB x xs = decide (x ∈ xs)
  | [] => rfl
  | y :: ys => by
    show cond (ieqB y x) true (memY ieqB x ys) = _
    rw [ieqB_i, mem_int]
    by_cases h : y = x
    · subst h; rw [decide_eq_true rfl, decide_eq_true List.mem_cons_self]; rfl
    · rw [decide_eq_false h]
      show decide (x ∈ ys) = _
      have : (x ∈ y :: ys) ↔ x ∈ ys := by rw [List.mem_cons]; exact ⟨fun z => z.resolve_left fun e => h e.symm, .inr⟩
      simp only [this]
/-- a test of equality that tells it -/
def Tells (q : α → α → Bool) : Prop := ∀ x y, q x y = true ↔ x = y
theorem tells_int : Tells ieqB := fun x y => by rw [ieqB_i, decide_eq_true_eq]
theorem tells_L {q : α → α → Bool} (h : Tells q) : Tells (eqL q) := fun xs => by
  induction xs with
  | nil => intro ys; cases ys <;> simp [eqL]
  | cons x xs ih =>
    intro ys
    cases ys with
    | nil => simp [eqL]
    | cons y ys =>
      show cond (q x y) (eqL q xs ys) false = true ↔ _
      cases e : q x y with
      | true => rw [(h x y).mp e]; simp [ih]
      | false =>
        have : x ≠ y := fun z => by rw [(h x y).mpr z] at e; exact nomatch e
        simp [this]
theorem tells_P {q : α → α → Bool} {r : β → β → Bool} (h : Tells q) (h' : Tells r) : Tells (eqPr q r) := fun x y => by
  show cond (q x.1 y.1) (r x.2 y.2) false = true ↔ _
  cases e : q x.1 y.1 with
  | true =>
    have e := (h _ _).mp e
    show r x.2 y.2 = true ↔ _
    rw [h']
    exact ⟨fun z => Prod.ext e z, fun z => congrArg Prod.snd z⟩
  | false =>
    have : x.1 ≠ y.1 := fun z => by rw [(h _ _).mpr z] at e; exact nomatch e
    exact ⟨fun z => (nomatch z), fun z => absurd (congrArg Prod.fst z) this⟩
theorem tells_self {q : α → α → Bool} (h : Tells q) (x : α) : q x x = true := (h x x).mpr rfl
theorem tells_mem {q : α → α → Bool} (h : Tells q) {x : α} : ∀ {xs : List α}, memY q x xs = true ↔ x ∈ xs
  | [] => ⟨fun z => (nomatch z), fun z => nomatch z⟩
  | y :: ys => by
    show cond (q y x) true (memY q x ys) = true ↔ _
    rw [List.mem_cons]
    cases e : q y x with
    | true => exact ⟨fun _ => .inl ((h y x).mp e).symm, fun _ => rfl⟩
    | false =>
      have : x ≠ y := fun z => by rw [(h _ _).mpr z.symm] at e; exact nomatch e
      show memY q x ys = true ↔ _
      rw [tells_mem h]
      exact ⟨.inr, fun z => z.resolve_left this⟩
theorem count_int {x : Int} : ∀ {xs : List Int}, countY ieqB x xs = xs.count x
  | [] => rfl
  | y :: ys => by
    show cond (ieqB y x) (countY ieqB x ys + 1) (countY ieqB x ys) = _
    rw [ieqB_i, count_int, List.count_cons]
    by_cases h : y = x
    · subst h; simp
    · rw [decide_eq_false h]; simp [h]
theorem tells_count [BEq α] [LawfulBEq α] {q : α → α → Bool} (h : Tells q) {x : α} : ∀ {xs : List α}, countY q x xs = xs.count x
  | [] => rfl
  | y :: ys => by
    show cond (q y x) (countY q x ys + 1) (countY q x ys) = _
    rw [tells_count h, List.count_cons]
    cases e : q y x with
    | true => rw [(h y x).mp e]; simp
    | false =>
      have : y ≠ x := fun z => by rw [(h _ _).mpr z] at e; exact nomatch e
      simp [this]
theorem index_ok {q : α → α → Bool} (h : Tells q) {x : α} : ∀ {xs : List α} {j k : Nat}, xs[j]? = some x → (∀ i, i < j → xs[i]? ≠ some x) → indexY q x xs k = some (k + j)
  | [], _, _, h1, _ => nomatch h1
  | y :: ys, 0, k, h1, _ => by
    cases h1
    show cond (q x x) (some k) _ = _
    rw [tells_self h]; rfl
  | y :: ys, j + 1, k, h1, h2 => by
    have n : q y x = false := by
      cases e : q y x with
      | false => rfl
      | true => exact absurd (by rw [(h _ _).mp e]; rfl) (h2 0 (by omega))
    show cond (q y x) (some k) (indexY q x ys (k + 1)) = _
    rw [n]
    show indexY q x ys (k + 1) = _
    rw [index_ok h (xs := ys) (j := j) h1 fun i hi => h2 (i + 1) (by omega)]
    congr 1; omega
end
end Ev

/-! EvPerm -/
set_option maxHeartbeats 2000000
namespace Ev
open PySem L2
noncomputable section
variable {α β : Type}
structure Lin (lt : α → α → Bool) : Prop where
  asy : ∀ a b, lt a b = true → lt b a = false
  eq : ∀ a b, lt a b = false → lt b a = false → a = b
  tr : ∀ a b c, lt b a = false → lt c b = false → lt c a = false
abbrev Le (lt : α → α → Bool) (a b : α) : Prop := lt b a = false
theorem lin_int : Lin iltB where
  asy := fun a b h => by rw [iltB_iff, decide_eq_true_eq] at h; rw [iltB_iff, decide_eq_false_iff_not]; omega
  eq := fun a b h h' => by rw [iltB_iff, decide_eq_false_iff_not] at h h'; omega
  tr := fun a b c h h' => by rw [iltB_iff, decide_eq_false_iff_not] at h h' ⊢; omega
theorem ltP_iff {x y : Int × Int} : ltP x y = decide (x.1 < y.1 ∨ (x.1 = y.1 ∧ x.2 < y.2)) := by
  unfold ltP
  rw [ieqB_i, iltB_iff, iltB_iff]
  by_cases h : x.1 = y.1
  · rw [decide_eq_true h]
    show decide (x.2 < y.2) = _
    rw [decide_eq_decide]; omega
  · rw [decide_eq_false h]
    show decide (x.1 < y.1) = _
    rw [decide_eq_decide]; omega
theorem lin_P : Lin ltP where
  asy := fun a b h => by rw [ltP_iff, decide_eq_true_eq] at h; rw [ltP_iff, decide_eq_false_iff_not]; omega
  eq := fun a b h h' => by rw [ltP_iff, decide_eq_false_iff_not] at h h'; exact Prod.ext (by omega) (by omega)
  tr := fun a b c h h' => by rw [ltP_iff, decide_eq_false_iff_not] at h h' ⊢; omega
theorem lin_flip {lt : α → α → Bool} (l : Lin lt) : Lin (fun a b => lt b a) where
  asy := fun a b h => l.asy b a h
  eq := fun a b h h' => l.eq a b h' h
  tr := fun a b c h h' => l.tr c b a h' h
variable {lt : α → α → Bool}
theorem ins_perm (x : α) : ∀ ys : List α, (insY lt x ys).Perm (x :: ys)
  | [] => .refl _
  | y :: ys => by
    show (cond (lt y x) (y :: insY lt x ys) (x :: y :: ys)).Perm _
    cases lt y x with
    | false => exact .refl _
    | true => exact (List.Perm.cons y (ins_perm x ys)).trans (.swap x y ys)
theorem sort_perm : ∀ xs : List α, (sortY lt xs).Perm xs
  | [] => .refl _
  | x :: xs => (ins_perm x _).trans (List.Perm.cons x (sort_perm xs))
theorem ins_sorted (l : Lin lt) (x : α) : ∀ {ys : List α}, ys.Pairwise (Le lt) → (insY lt x ys).Pairwise (Le lt)
  | [], _ => List.pairwise_singleton _ _
  | y :: ys, h => by
    show (cond (lt y x) (y :: insY lt x ys) (x :: y :: ys)).Pairwise _
    have h' := List.pairwise_cons.mp h
    cases e : lt y x with
    | false =>
      refine List.pairwise_cons.mpr ⟨fun z hz => ?_, h⟩
      rcases List.mem_cons.mp hz with rfl | hz
      · exact e
      · exact l.tr x y z e (h'.1 z hz)
    | true =>
      refine List.pairwise_cons.mpr ⟨fun z hz => ?_, ins_sorted l x h'.2⟩
      rcases List.mem_cons.mp ((ins_perm x ys).subset hz) with rfl | hz
      · exact l.asy y z e
      · exact h'.1 z hz
theorem sort_sorted (l : Lin lt) : ∀ xs : List α, (sortY lt xs).Pairwise (Le lt)
  | [] => .nil
  | x :: xs => ins_sorted l x (sort_sorted l xs)
theorem sort_eq (l : Lin lt) {xs ys : List α} (h : xs.Perm ys) : sortY lt xs = sortY lt ys :=
  List.Perm.eq_of_pairwise (fun a b _ _ h1 h2 => l.eq a b h2 h1) (sort_sorted l xs) (sort_sorted l ys) ((sort_perm xs).trans (h.trans (sort_perm ys).symm))
theorem sort_is (l : Lin lt) {xs ys : List α} (h : xs.Perm ys) (s : ys.Pairwise (Le lt)) : sortY lt xs = ys :=
  List.Perm.eq_of_pairwise (fun a b _ _ h1 h2 => l.eq a b h2 h1) (sort_sorted l xs) s ((sort_perm xs).trans h)
theorem insR_flip (x : α) : ∀ ys : List α, insRY lt x ys = insY (fun a b => lt b a) x ys
  | [] => rfl
  | y :: ys => by
    show cond (lt x y) (y :: insRY lt x ys) (x :: y :: ys) = cond (lt x y) (y :: insY (fun a b => lt b a) x ys) (x :: y :: ys)
    rw [insR_flip x ys]
theorem sortR_flip : ∀ xs : List α, sortRY lt xs = sortY (fun a b => lt b a) xs
  | [] => rfl
  | x :: xs => by
    show insRY lt x (sortRY lt xs) = _
    rw [insR_flip, sortR_flip xs]; rfl
theorem sortRY_eq (l : Lin lt) {xs ys : List α} (h : xs.Perm ys) : sortRY lt xs = sortRY lt ys := by
  rw [sortR_flip, sortR_flip]; exact sort_eq (lin_flip l) h
theorem sortRY_perm (xs : List α) : (sortRY lt xs).Perm xs := by rw [sortR_flip]; exact sort_perm xs
theorem ups_sorted (n : Nat) : ∀ a, (ups a n).Pairwise (Le iltB) := by
  induction n with
  | zero => intro a; exact .nil
  | succ n ih =>
    intro a
    rw [ups_cons]
    refine List.pairwise_cons.mpr ⟨fun z hz => ?_, ih _⟩
    rw [mem_ups] at hz
    show iltB z (Int.ofNat a) = false
    rw [iltB_iff, decide_eq_false_iff_not]
    show ¬ z < (a : Int)
    omega
theorem perm_of_sub [BEq α] [LawfulBEq α] {xs ys : List α} (hx : xs.Nodup) (hy : ys.Nodup) (sub : xs ⊆ ys) (hl : ys.length ≤ xs.length) : xs.Perm ys := by
  refine (List.perm_ext_iff_of_nodup hx hy).mpr fun a => ⟨fun h => sub h, fun h => ?_⟩
  refine Classical.byContradiction fun z => ?_
  have := List.Nodup.length_le_of_subset (List.nodup_cons.mpr ⟨z, hx⟩) (l₂ := ys) fun b hb => by
    rcases List.mem_cons.mp hb with rfl | hb
    · exact h
    · exact sub hb
  rw [List.length_cons] at this
  omega
def IsP (n : Nat) (xs : List Int) : Prop := xs.Perm (ups 1 n)
/-- the number at a place -/
def at_ (xs : List Int) (x : Int) : Int := xs.getD (x - 1).toNat 0
section
variable {n : Nat} {xs ys : List Int}
theorem IsP.len (h : IsP n xs) : xs.length = n := by rw [List.Perm.length_eq h, ups_len]
theorem IsP.mem (h : IsP n xs) {x : Int} : x ∈ xs ↔ 1 ≤ x ∧ x ≤ n := by
  rw [List.Perm.mem_iff h, mem_ups]
  constructor <;> intro z <;> omega
theorem IsP.nodup (h : IsP n xs) : xs.Nodup := (List.Perm.nodup_iff h).mpr (ups_nodup 1 n)
theorem IsP.get (h : IsP n xs) {x : Int} (h1 : 1 ≤ x) (h2 : x ≤ n) : xs[(x - 1).toNat]? = some (at_ xs x) := by
  have hl : (x - 1).toNat < xs.length := by rw [h.len]; omega
  unfold at_
  rw [List.getD_eq_getElem?_getD, List.getElem?_eq_getElem hl]; rfl
theorem IsP.ix (h : IsP n xs) {x i : Int} (h1 : 1 ≤ x) (h2 : x ≤ n) (e : i = x - 1) : ixT xs i = .ret (at_ xs x) :=
  ix_ok (k := (x - 1).toNat) (by show i = (((x - 1).toNat : Nat) : Int); omega) (h.get h1 h2)
theorem IsP.at_mem (h : IsP n xs) {x : Int} (h1 : 1 ≤ x) (h2 : x ≤ n) : 1 ≤ at_ xs x ∧ at_ xs x ≤ n := h.mem.mp (List.mem_of_getElem? (h.get h1 h2))
theorem IsP.inj (h : IsP n xs) {x y : Int} (h1 : 1 ≤ x) (h2 : x ≤ n) (h3 : 1 ≤ y) (h4 : y ≤ n) (e : at_ xs x = at_ xs y) : x = y := by
  have gx := h.get h1 h2
  have gy := h.get h3 h4
  rw [e, ← gy] at gx
  have hl : (x - 1).toNat < xs.length := by rw [h.len]; omega
  have := (List.getElem?_inj hl h.nodup).mp gx
  omega
theorem IsP.surj (h : IsP n xs) {y : Int} (h1 : 1 ≤ y) (h2 : y ≤ n) : ∃ x : Int, 1 ≤ x ∧ x ≤ n ∧ at_ xs x = y := by
  obtain ⟨k, hk⟩ := List.mem_iff_getElem?.mp (h.mem.mpr ⟨h1, h2⟩)
  obtain ⟨hl, _⟩ := List.getElem?_eq_some_iff.mp hk
  rw [h.len] at hl
  refine ⟨(k : Int) + 1, by omega, by omega, ?_⟩
  have g := h.get (x := (k : Int) + 1) (by omega) (by omega)
  rw [show ((k : Int) + 1 - 1).toNat = k by omega, hk] at g
  exact (Option.some.inj g).symm
/-- the list of what a function gives -/
theorem map_at (h : xs.length = n) : (ups 1 n).map (at_ xs) = xs := by
  refine List.ext_getElem? fun k => ?_
  rw [List.getElem?_map]
  by_cases hk : k < n
  · rw [ups_get hk]
    show some (at_ xs (Int.ofNat (1 + k))) = _
    unfold at_
    rw [show (Int.ofNat (1 + k) - 1).toNat = k by show ((((1 + k : Nat)) : Int) - 1).toNat = k; omega, List.getD_eq_getElem?_getD, List.getElem?_eq_getElem (by omega)]; rfl
  · rw [List.getElem?_eq_none (by rw [ups_len]; omega), List.getElem?_eq_none (by omega)]; rfl
theorem at_ext (hx : xs.length = n) (hy : ys.length = n) (h : ∀ x : Int, 1 ≤ x → x ≤ n → at_ xs x = at_ ys x) : xs = ys := by
  rw [← map_at hx, ← map_at hy]
  exact List.map_congr_left fun x hm => by rw [mem_ups] at hm; exact h x (by omega) (by omega)
theorem at_map {f : Int → Int} {x : Int} (h1 : 1 ≤ x) (h2 : x ≤ n) : at_ ((ups 1 n).map f) x = f x := by
  unfold at_
  have hl : (x - 1).toNat < n := by omega
  rw [List.getD_eq_getElem?_getD, List.getElem?_map, ups_get hl]
  show f (Int.ofNat (1 + (x - 1).toNat)) = f x
  congr 1
  show (((1 + (x - 1).toNat : Nat)) : Int) = x
  omega
/-- a list of the numbers from 1 to n, each once -/
theorem isP_of (hl : xs.length = n) (hd : xs.Nodup) (hm : ∀ x ∈ xs, 1 ≤ x ∧ x ≤ (n : Int)) : IsP n xs := by
  have sub : xs ⊆ ups 1 n := fun x hx => by rw [mem_ups]; have := hm x hx; omega
  exact perm_of_sub hd (ups_nodup 1 n) sub (by rw [ups_len, hl]; exact Nat.le_refl _)
theorem isP_map {f : Int → Int} (hm : ∀ x : Int, 1 ≤ x → x ≤ n → 1 ≤ f x ∧ f x ≤ n) (hi : ∀ x y : Int, 1 ≤ x → x ≤ n → 1 ≤ y → y ≤ n → f x = f y → x = y) : IsP n ((ups 1 n).map f) := by
  refine isP_of (by rw [List.length_map, ups_len]) ?_ fun y hy => ?_
  · refine List.pairwise_map.mpr ((List.Pairwise.and_mem.mp (ups_nodup 1 n)).imp fun {a b} ⟨ha, hb, hab⟩ e => hab ?_)
    rw [mem_ups] at ha hb
    exact hi a b (by omega) (by omega) (by omega) (by omega) e
  · obtain ⟨x, hx, rfl⟩ := List.mem_map.mp hy
    rw [mem_ups] at hx
    exact hm x (by omega) (by omega)
end
end
end Ev

/-! EvOrb -/
set_option maxHeartbeats 2000000
namespace Ev
open PySem L2
noncomputable section
def it (f : Int → Int) : Nat → Int → Int
  | 0, x => x
  | k + 1, x => f (it f k x)
theorem it_add (f : Int → Int) (j : Nat) : ∀ (k : Nat) (x : Int), it f (k + j) x = it f k (it f j x)
  | 0, x => by rw [Nat.zero_add]; rfl
  | k + 1, x => by
    rw [Nat.add_right_comm]
    show f (it f (k + j) x) = f (it f k (it f j x))
    rw [it_add f j k x]
def orb (f : Int → Int) (m : Nat) (a : Int) : List Int := (List.range m).map fun k => it f k a
theorem orb_len (f : Int → Int) (m : Nat) (a : Int) : (orb f m a).length = m := by unfold orb; rw [List.length_map, List.length_range]
theorem orb_succ (f : Int → Int) (m : Nat) (a : Int) : orb f (m + 1) a = orb f m a ++ [it f m a] := by
  unfold orb
  rw [List.range_succ, List.map_append]; rfl
theorem mem_orb {f : Int → Int} {m : Nat} {a x : Int} : x ∈ orb f m a ↔ ∃ k, k < m ∧ it f k a = x := by
  unfold orb
  rw [List.mem_map]
  constructor
  · rintro ⟨k, h1, h2⟩; exact ⟨k, List.mem_range.mp h1, h2⟩
  · rintro ⟨k, h1, h2⟩; exact ⟨k, List.mem_range.mpr h1, h2⟩
theorem orb_inj {f : Int → Int} {m : Nat} {a : Int} (h : (orb f m a).Nodup) {i j : Nat} (hi : i < m) (hj : j < m) (e : it f i a = it f j a) : i = j := by
  have g : ∀ k, k < m → (orb f m a)[k]? = some (it f k a) := fun k hk => by
    unfold orb
    rw [List.getElem?_map, List.getElem?_range hk]; rfl
  have := g i hi
  rw [e, ← g j hj] at this
  exact (List.getElem?_inj (by rw [orb_len]; exact hi) h).mp this
/-- a ring: an orbit that closes -/
def Ring (f : Int → Int) (r : List Int) : Prop := ∃ a m, 0 < m ∧ r = orb f m a ∧ it f m a = a ∧ r.Nodup
structure Rings (n : Nat) (f : Int → Int) (rs : List (List Int)) : Prop where
  perm : rs.flatten.Perm (ups 1 n)
  ring : ∀ r ∈ rs, Ring f r
/-- the least number of steps after which x comes back -/
def per (f : Int → Int) (n : Nat) (x : Int) : Nat := (((List.range n).find? fun k => decide (it f (k + 1) x = x)).map (· + 1)).getD 0
theorem per_of {f : Int → Int} {n m : Nat} {x : Int} (h0 : 0 < m) (hn : m ≤ n) (h : it f m x = x) (h' : ∀ k, 0 < k → k < m → it f k x ≠ x) : per f n x = m := by
  unfold per
  have e : ((List.range n).find? fun k => decide (it f (k + 1) x = x)) = some (m - 1) := by
    rw [List.find?_eq_some_iff_getElem]
    refine ⟨?_, m - 1, by rw [List.length_range]; omega, by rw [List.getElem_range], fun j hj => ?_⟩
    · rw [Nat.sub_add_cancel h0, decide_eq_true h]
    · rw [List.getElem_range]
      rw [decide_eq_false (h' (j + 1) (by omega) (by omega))]; rfl
  rw [e]
  show m - 1 + 1 = m
  omega
theorem ring_per {f : Int → Int} {n : Nat} {r : List Int} (h : Ring f r) (hn : r.length ≤ n) {x : Int} (hx : x ∈ r) : per f n x = r.length := by
  obtain ⟨a, m, h0, rfl, hm, nd⟩ := h
  obtain ⟨j, hj, rfl⟩ := mem_orb.mp hx
  rw [orb_len] at hn ⊢
  have per_ : ∀ k, it f (k + m) a = it f k a := fun k => by rw [it_add, hm]
  refine per_of h0 hn ?_ fun k k0 km e => ?_
  · rw [← it_add, Nat.add_comm]; exact per_ j
  · rw [← it_add] at e
    by_cases z : k + j < m
    · have := orb_inj nd z hj e; omega
    · have e2 : it f (k + j - m) a = it f j a := by rw [← per_ (k + j - m), Nat.sub_add_cancel (by omega)]; exact e
      have := orb_inj nd (by omega) hj e2
      omega
def reps (ls : List Nat) : List Nat := ls.flatMap fun l => List.replicate l l
theorem flatten_per {f : Int → Int} {n : Nat} : ∀ {rs : List (List Int)}, (∀ r ∈ rs, Ring f r ∧ r.length ≤ n) → rs.flatten.map (per f n) = reps (rs.map List.length)
  | [], _ => rfl
  | r :: rs, h => by
    have h1 := h r List.mem_cons_self
    have e : r.map (per f n) = List.replicate r.length r.length := by
      rw [List.eq_replicate_iff]
      refine ⟨List.length_map .., fun b hb => ?_⟩
      obtain ⟨x, hx, rfl⟩ := List.mem_map.mp hb
      exact ring_per h1.1 h1.2 hx
    show (r ++ rs.flatten).map (per f n) = List.replicate r.length r.length ++ reps (rs.map List.length)
    rw [List.map_append, e, flatten_per fun s hs => h s (List.mem_cons_of_mem _ hs)]
theorem Rings.le {n : Nat} {f : Int → Int} {rs : List (List Int)} (h : Rings n f rs) {r : List Int} (hr : r ∈ rs) : r.length ≤ n := by
  have := List.Perm.length_eq h.perm
  rw [ups_len] at this
  rw [← this]
  exact (List.sublist_flatten_of_mem hr).length_le
theorem Rings.pers {n : Nat} {f : Int → Int} {rs : List (List Int)} (h : Rings n f rs) : ((ups 1 n).map (per f n)).Perm (reps (rs.map List.length)) := by
  rw [← flatten_per fun r hr => ⟨h.ring r hr, h.le hr⟩]
  exact (h.perm.map _).symm
theorem Ring.pos {f : Int → Int} {r : List Int} (h : Ring f r) : 0 < r.length := by
  obtain ⟨a, m, h0, rfl, _⟩ := h
  rw [orb_len]; exact h0
theorem count_reps (l : Nat) : ∀ ls : List Nat, (reps ls).count l = l * ls.count l
  | [] => rfl
  | k :: ls => by
    show (List.replicate k k ++ reps ls).count l = _
    rw [List.count_append, count_reps l ls, List.count_replicate, List.count_cons]
    by_cases h : k = l
    · subst h; simp [Nat.mul_add]; omega
    · simp [h]
theorem reps_inj {ls ms : List Nat} (hl : ∀ l ∈ ls, 0 < l) (hm : ∀ l ∈ ms, 0 < l) (h : (reps ls).Perm (reps ms)) : ls.Perm ms := by
  refine List.perm_iff_count.mpr fun l => ?_
  have e := List.perm_iff_count.mp h l
  rw [count_reps, count_reps] at e
  rcases Nat.eq_zero_or_pos l with z | z
  · subst z
    rw [List.count_eq_zero.mpr fun q => absurd (hl 0 q) (by omega), List.count_eq_zero.mpr fun q => absurd (hm 0 q) (by omega)]
  · exact Nat.eq_of_mul_eq_mul_left z e
/-- orders that are alike by another one have rings of the same lengths -/
theorem lens_conj {n : Nat} {p q g : Int → Int} {rs ss : List (List Int)} (hp : Rings n p rs) (hq : Rings n q ss) (hg : IsP n ((ups 1 n).map g)) (qm : ∀ x : Int, 1 ≤ x → x ≤ n → 1 ≤ q x ∧ q x ≤ n) (hc : ∀ x : Int, 1 ≤ x → x ≤ n → p (g x) = g (q x)) :
    (rs.map List.length).Perm (ss.map List.length) := by
  have gi : ∀ x y : Int, 1 ≤ x → x ≤ n → 1 ≤ y → y ≤ n → g x = g y → x = y := fun x y h1 h2 h3 h4 e => by
    have ax := at_map (f := g) h1 h2
    have ay := at_map (f := g) h3 h4
    exact hg.inj h1 h2 h3 h4 (by rw [ax, ay]; exact e)
  have qi : ∀ (k : Nat) (x : Int), 1 ≤ x → x ≤ n → 1 ≤ it q k x ∧ it q k x ≤ n := fun k => by
    induction k with
    | zero => intro x h1 h2; exact ⟨h1, h2⟩
    | succ k ih => intro x h1 h2; have := ih x h1 h2; exact qm _ this.1 this.2
  have ic : ∀ (k : Nat) (x : Int), 1 ≤ x → x ≤ n → it p k (g x) = g (it q k x) := fun k => by
    induction k with
    | zero => intro x _ _; rfl
    | succ k ih =>
      intro x h1 h2
      show p (it p k (g x)) = g (q (it q k x))
      have := qi k x h1 h2
      rw [ih x h1 h2, hc _ this.1 this.2]
  have pe : ∀ x : Int, 1 ≤ x → x ≤ n → per p n (g x) = per q n x := fun x h1 h2 => by
    unfold per
    have : (fun k => decide (it p (k + 1) (g x) = g x)) = fun k => decide (it q (k + 1) x = x) := by
      funext k
      rw [ic (k + 1) x h1 h2, decide_eq_decide]
      have := qi (k + 1) x h1 h2
      exact ⟨fun e => gi _ _ this.1 this.2 h1 h2 e, fun e => by rw [e]⟩
    rw [this]
  have e1 : ((ups 1 n).map (per p n)).Perm ((ups 1 n).map (per q n)) := by
    refine (hg.symm.map (per p n)).trans ?_
    rw [List.map_map]
    refine List.Perm.of_eq (List.map_congr_left fun x hx => ?_)
    rw [mem_ups] at hx
    exact pe x (by omega) (by omega)
  refine reps_inj (fun l hl => ?_) (fun l hl => ?_) ((hp.pers.symm.trans e1).trans hq.pers)
  · obtain ⟨r, hr, rfl⟩ := List.mem_map.mp hl; exact (hp.ring r hr).pos
  · obtain ⟨r, hr, rfl⟩ := List.mem_map.mp hl; exact (hq.ring r hr).pos
theorem Rings.few {n : Nat} {f : Int → Int} {rs : List (List Int)} (R : Rings n f rs) : rs.length ≤ n := by
  have e1 := List.Perm.length_eq R.perm
  rw [ups_len] at e1
  have : ∀ l : List (List Int), (∀ r ∈ l, Ring f r) → l.length ≤ l.flatten.length := fun l hl => by
    induction l with
    | nil => exact Nat.le_refl _
    | cons r l ihl =>
      have := (hl r List.mem_cons_self).pos
      have := ihl fun r hr => hl r (List.mem_cons_of_mem _ hr)
      show l.length + 1 ≤ (r ++ l.flatten).length
      rw [List.length_append]; omega
  have := this rs R.ring
  omega
end
end Ev

/-! T97 -/
set_option maxHeartbeats 4000000
namespace Ev
open PySem
def f_is_whole : Fn := ⟨false, 1, 1,
.seq (.ret (.and (.bi .isInt (.cons (.var 0) .nil)) (.one (.not (.bi .isBool (.cons (.var 0) .nil)))))) .nop⟩
def f_is_from : Fn := ⟨false, 3, 3,
.seq (.ret (.and (.call 0 (.cons (.var 0) .nil)) (.one (.chn .le .le (.var 1) (.var 0) (.var 2))))) .nop⟩
def f_is_game : Fn := ⟨false, 2, 2,
.seq (.ife (.or (.not (.bi .isTup (.cons (.var 1) .nil))) (.one (.cm .ne (.bi .len (.cons (.var 1) .nil)) (.lit (.int 2))))) (.seq (.ret (.lit (.bool false))) .nop) .nop) (.seq (.ret (.and (.call 1 (.cons (.ix (.var 1) (.lit (.int 0))) (.cons (.lit (.int 1)) (.cons (.var 0) .nil)))) (.one (.call 1 (.cons (.ix (.var 1) (.lit (.int 1))) (.cons (.op .add (.ix (.var 1) (.lit (.int 0))) (.lit (.int 1))) (.cons (.var 0) .nil))))))) .nop)⟩
def f_all_games : Fn := ⟨false, 1, 4,
.seq (.own 1 (.lst .nil)) (.seq (.fr (.nm 2) (.rng (.cons (.lit (.int 1)) (.cons (.op .add (.var 0) (.lit (.int 1))) .nil))) (.seq (.ext 1 (.comp (.tup (.cons (.var 2) (.cons (.var 3) .nil))) (.nm 3) (.rng (.cons (.op .add (.var 2) (.lit (.int 1))) (.cons (.op .add (.var 0) (.lit (.int 1))) .nil))) .yes)) (.wipe [2] .nop))) (.seq (.retO 1) .nop))⟩
def f_is_plan : Fn := ⟨false, 2, 4,
.seq (.ife (.or (.not (.bi .isTup (.cons (.var 1) .nil))) (.or (.cm .ne (.bi .len (.cons (.var 1) .nil)) (.op .sub (.var 0) (.lit (.int 1)))) (.one (.not (.bi .all (.cons (.comp (.bi .isTup (.cons (.var 2) .nil)) (.nm 2) (.var 1) .yes) .nil)))))) (.seq (.ret (.lit (.bool false))) .nop) .nop) (.seq (.fr (.nm 2) (.var 1) (.seq (.ife (.or (.not (.bi .all (.cons (.comp (.call 2 (.cons (.var 0) (.cons (.var 3) .nil))) (.nm 3) (.var 2) .yes) .nil))) (.one (.cm .ne (.bi .list (.cons (.var 2) .nil)) (.bi .sorted (.cons (.var 2) .nil))))) (.seq (.ret (.lit (.bool false))) .nop) (.wipe [2] .nop)) .nop)) (.seq (.ret (.cm .is (.call 8 (.cons (.var 0) (.cons (.var 1) .nil))) (.lit .none))) .nop))⟩
def f_ring_plan : Fn := ⟨false, 1, 6,
.seq (.own 1 (.lst .nil)) (.seq (.fr (.nm 2) (.rng (.cons (.op .sub (.var 0) (.lit (.int 1))) .nil)) (.seq (.own 3 (.lst (.cons (.tup (.cons (.op .add (.lit (.int 1)) (.var 2)) (.cons (.var 0) .nil))) .nil))) (.seq (.fr (.nm 4) (.rng (.cons (.lit (.int 1)) (.cons (.var 0) .nil))) (.seq (.ext 3 (.comp (.tup (.cons (.var 4) (.cons (.var 5) .nil))) (.nm 5) (.rng (.cons (.op .add (.var 4) (.lit (.int 1))) (.cons (.var 0) .nil))) (.cm .eq (.op .mod (.op .sub (.op .sub (.op .add (.op .sub (.var 4) (.lit (.int 1))) (.var 5)) (.lit (.int 1))) (.op .mul (.lit (.int 2)) (.var 2))) (.op .sub (.var 0) (.lit (.int 1)))) (.lit (.int 0))))) (.wipe [4] .nop))) (.seq (.app 1 (.bi .tuple (.cons (.bi .sorted (.cons (.rd 3) .nil)) .nil))) (.wipe [2, 3] .nop))))) (.seq (.ret (.bi .tuple (.cons (.rd 1) .nil))) .nop))⟩
def f_round_of_pair : Fn := ⟨false, 3, 5,
.seq (.set 3 (.tup (.cons (.bi .min2 (.cons (.var 1) (.cons (.var 2) .nil))) (.cons (.bi .max2 (.cons (.var 1) (.cons (.var 2) .nil))) .nil)))) (.seq (.ret (.ix (.comp (.var 4) (.nm 4) (.rng (.cons (.bi .len (.cons (.var 0) .nil)) .nil)) (.cm .mem (.var 3) (.ix (.var 0) (.var 4)))) (.lit (.int 0)))) .nop)⟩
def f_first_player_clash : Fn := ⟨false, 2, 5,
.seq (.own 2 (.lst .nil)) (.seq (.fr (.nm 3) (.var 1) (.seq (.ext 2 (.var 3)) (.wipe [3] .nop))) (.wipe [1] (.seq (.fr (.nm 4) (.rng (.cons (.lit (.int 1)) (.cons (.op .add (.var 0) (.lit (.int 1))) .nil))) (.seq (.ife (.cm .ne (.me .count (.rd 2) (.cons (.var 4) .nil)) (.lit (.int 1))) (.seq (.ret (.var 4)) .nop) (.wipe [4] .nop)) .nop)) (.seq (.ret (.lit .none)) .nop))))⟩
def f_first_clash_of_plan : Fn := ⟨false, 2, 9,
.seq (.fr (.nm 2) (.rng (.cons (.bi .len (.cons (.var 1) .nil)) .nil)) (.seq (.set 3 (.call 7 (.cons (.var 0) (.cons (.ix (.var 1) (.var 2)) .nil)))) (.seq (.ife (.cm .isn (.var 3) (.lit .none)) (.seq (.ret (.tup (.cons (.lit (.str ⟨#[112, 108, 97, 121, 101, 114]⟩)) (.cons (.var 2) (.cons (.var 3) .nil))))) .nop) (.wipe [2, 3] .nop)) .nop))) (.seq (.own 4 (.lst .nil)) (.seq (.fr (.nm 5) (.var 1) (.seq (.ext 4 (.var 5)) (.wipe [5] .nop))) (.seq (.set 6 (.comp (.var 8) (.nm 8) (.call 3 (.cons (.var 0) .nil)) (.cm .gt (.me .count (.rd 4) (.cons (.var 8) .nil)) (.lit (.int 1))))) (.seq (.ife (.cm .gt (.bi .len (.cons (.var 6) .nil)) (.lit (.int 0))) (.seq (.ret (.op .add (.tup (.cons (.lit (.str ⟨#[112, 97, 105, 114]⟩)) .nil)) (.ix (.var 6) (.lit (.int 0))))) .nop) .nop) (.seq (.set 7 (.comp (.var 8) (.nm 8) (.call 3 (.cons (.var 0) .nil)) (.cm .nmem (.var 8) (.rd 4)))) (.seq (.ret (.ite (.cm .gt (.bi .len (.cons (.var 7) .nil)) (.lit (.int 0))) (.op .add (.tup (.cons (.lit (.str ⟨#[109, 105, 115, 115, 105, 110, 103]⟩)) .nil)) (.ix (.var 7) (.lit (.int 0)))) (.lit .none))) .nop))))))⟩
def f_swapped_rounds : Fn := ⟨false, 2, 3,
.seq (.ret (.bi .tuple (.cons (.comp (.ix (.var 0) (.op .sub (.var 2) (.lit (.int 1)))) (.nm 2) (.var 1) .yes) .nil))) .nop⟩
def f_renamed_plan : Fn := ⟨false, 3, 8,
.seq (.own 3 (.lst .nil)) (.wipe [0] (.seq (.fr (.nm 4) (.var 1) (.seq (.set 5 (.comp (.bi .tuple (.cons (.bi .sorted (.cons (.lst (.cons (.ix (.var 2) (.op .sub (.var 6) (.lit (.int 1)))) (.cons (.ix (.var 2) (.op .sub (.var 7) (.lit (.int 1)))) .nil))) .nil)) .nil)) (.tp (.cons (.nm 6) (.cons (.nm 7) .nil))) (.var 4) .yes)) (.seq (.app 3 (.bi .tuple (.cons (.bi .sorted (.cons (.var 5) .nil)) .nil))) (.wipe [4, 5] .nop)))) (.seq (.ret (.bi .tuple (.cons (.rd 3) .nil))) .nop)))⟩
def f_is_order : Fn := ⟨false, 1, 2,
.seq (.ife (.or (.not (.bi .isTup (.cons (.var 0) .nil))) (.or (.not (.chn .le .le (.lit (.int 1)) (.bi .len (.cons (.var 0) .nil)) (.glb 0 (.int 9)))) (.one (.not (.bi .all (.cons (.comp (.call 0 (.cons (.var 1) .nil)) (.nm 1) (.var 0) .yes) .nil)))))) (.seq (.ret (.lit (.bool false))) .nop) .nop) (.seq (.ret (.cm .eq (.bi .sorted (.cons (.var 0) .nil)) (.rngl (.cons (.lit (.int 1)) (.cons (.op .add (.bi .len (.cons (.var 0) .nil)) (.lit (.int 1))) .nil))))) .nop)⟩
def f_one_then : Fn := ⟨false, 2, 3,
.seq (.ret (.bi .tuple (.cons (.comp (.ix (.var 1) (.op .sub (.var 2) (.lit (.int 1)))) (.nm 2) (.var 0) .yes) .nil))) .nop⟩
def f_turned_back : Fn := ⟨false, 1, 2,
.seq (.ret (.bi .tuple (.cons (.comp (.op .add (.me .index (.var 0) (.cons (.var 1) .nil)) (.lit (.int 1))) (.nm 1) (.rng (.cons (.lit (.int 1)) (.cons (.op .add (.bi .len (.cons (.var 0) .nil)) (.lit (.int 1))) .nil))) .yes) .nil))) .nop⟩
def f_cycles_of : Fn := ⟨false, 1, 6,
.seq (.own 1 (.lst .nil)) (.seq (.dnew 2 false) (.seq (.fr (.nm 3) (.rng (.cons (.lit (.int 1)) (.cons (.op .add (.bi .len (.cons (.var 0) .nil)) (.lit (.int 1))) .nil))) (.seq (.set 4 (.tup .nil)) (.seq (.set 5 (.var 3)) (.wipe [3] (.seq (.whl (.cm .nmem (.var 5) (.rd 2)) (.seq (.seti 2 (.var 5) (.lit (.bool true))) (.seq (.aug 4 .add (.tup (.cons (.var 5) .nil))) (.seq (.set 5 (.ix (.var 0) (.op .sub (.var 5) (.lit (.int 1))))) .nop)))) (.seq (.ife (.cm .gt (.bi .len (.cons (.var 4) .nil)) (.lit (.int 0))) (.seq (.app 1 (.var 4)) (.wipe [4, 5] .nop)) (.wipe [4, 5] .nop)) .nop)))))) (.seq (.retO 1) .nop)))⟩
def f_type_of : Fn := ⟨false, 1, 2,
.seq (.ret (.bi .tuple (.cons (.bi .sortedR (.cons (.comp (.bi .len (.cons (.var 1) .nil)) (.nm 1) (.call 14 (.cons (.var 0) .nil)) .yes) .nil)) .nil))) .nop⟩
def f_round_length : Fn := ⟨false, 1, 5,
.seq (.set 1 (.lit (.int 1))) (.seq (.fr (.nm 2) (.call 14 (.cons (.var 0) .nil)) (.seq (.par 3 4 (.var 1) (.bi .len (.cons (.var 2) .nil))) (.seq (.whl (.cm .gt (.var 4) (.lit (.int 0))) (.seq (.par 3 4 (.var 4) (.op .mod (.var 3) (.var 4))) .nop)) (.seq (.set 1 (.op .fdiv (.op .mul (.var 1) (.bi .len (.cons (.var 2) .nil))) (.var 3))) (.wipe [2, 3, 4] .nop))))) (.seq (.ret (.var 1)) .nop))⟩
def f__law_same : Fn := ⟨false, 2, 3,
.seq (.ife (.or (.bi .isTup (.cons (.var 1) .nil)) (.one (.bi .isList (.cons (.var 1) .nil)))) (.seq (.ife (.or (.cm .ne (.bi .isTup (.cons (.var 1) .nil)) (.bi .isTup (.cons (.var 0) .nil))) (.or (.cm .ne (.bi .isList (.cons (.var 1) .nil)) (.bi .isList (.cons (.var 0) .nil))) (.one (.cm .ne (.bi .len (.cons (.var 0) .nil)) (.bi .len (.cons (.var 1) .nil)))))) (.seq (.ret (.lit (.bool false))) .nop) .nop) (.seq (.ret (.cm .eq (.bi .len (.cons (.comp (.var 2) (.nm 2) (.rng (.cons (.bi .len (.cons (.var 1) .nil)) .nil)) (.not (.call 17 (.cons (.ix (.var 0) (.var 2)) (.cons (.ix (.var 1) (.var 2)) .nil))))) .nil)) (.lit (.int 0)))) .nop)) .nop) (.seq (.ife (.cm .is (.var 1) (.lit .none)) (.seq (.ret (.cm .is (.var 0) (.lit .none))) .nop) .nop) (.seq (.ife (.or (.bi .isBool (.cons (.var 1) .nil)) (.one (.bi .isBool (.cons (.var 0) .nil)))) (.seq (.ret (.and (.bi .isBool (.cons (.var 1) .nil)) (.and (.bi .isBool (.cons (.var 0) .nil)) (.one (.cm .eq (.var 0) (.var 1)))))) .nop) .nop) (.seq (.ife (.bi .isInt (.cons (.var 1) .nil)) (.seq (.ret (.and (.bi .isInt (.cons (.var 0) .nil)) (.one (.cm .eq (.var 0) (.var 1))))) .nop) .nop) (.seq (.ret (.and (.bi .isStr (.cons (.var 0) .nil)) (.one (.cm .eq (.var 0) (.var 1))))) .nop))))⟩
def f__law_shuffled : Fn := ⟨true, 1, 5,
.seq (.set 2 (.bi .list (.cons (.var 1) .nil))) (.seq (.own 3 (.lst .nil)) (.wipe [1] (.seq (.whl (.cm .gt (.bi .len (.cons (.var 2) .nil)) (.lit (.int 0))) (.seq (.set 4 (.draw 0 (.bi .len (.cons (.var 2) .nil)))) (.seq (.app 3 (.ix (.var 2) (.var 4))) (.seq (.set 2 (.op .add (.sl (.var 2) .no (.var 4)) (.sl (.var 2) (.op .add (.var 4) (.lit (.int 1))) .no))) (.wipe [4] .nop))))) (.seq (.ret (.bi .tuple (.cons (.rd 3) .nil))) .nop))))⟩
def f__law_perm : Fn := ⟨true, 1, 2,
.seq (.ret (.callp 18 0 (.cons (.rngt (.cons (.lit (.int 1)) (.cons (.op .add (.var 1) (.lit (.int 1))) .nil))) .nil))) .nop⟩
def f__law_pairs_of : Fn := ⟨false, 1, 4,
.seq (.set 1 (.lst .nil)) (.seq (.fr (.nm 2) (.rng (.cons (.var 0) .nil)) (.seq (.set 1 (.op .add (.var 1) (.comp (.tup (.cons (.var 2) (.cons (.var 3) .nil))) (.nm 3) (.rng (.cons (.op .add (.var 2) (.lit (.int 1))) (.cons (.var 0) .nil))) .yes))) (.wipe [2] .nop))) (.seq (.ret (.var 1)) .nop))⟩
def f_law : Fn := ⟨false, 1, 15,
.seq (.set 2 (.op .mul (.lit (.int 2)) (.op .add (.lit (.int 1)) (.draw 1 (.lit (.int 4)))))) (.seq (.set 3 (.callp 19 1 (.cons (.var 2) .nil))) (.seq (.set 4 (.callp 19 1 (.cons (.op .sub (.var 2) (.lit (.int 1))) .nil))) (.seq (.set 5 (.call 9 (.cons (.call 10 (.cons (.var 2) (.cons (.call 5 (.cons (.var 2) .nil)) (.cons (.var 3) .nil)))) (.cons (.var 4) .nil)))) (.seq (.ife (.not (.call 17 (.cons (.call 4 (.cons (.var 2) (.cons (.var 5) .nil))) (.cons (.lit (.bool true)) .nil)))) (.seq (.ret (.lit (.bool false))) .nop) .nop) (.seq (.ife (.not (.call 17 (.cons (.call 10 (.cons (.var 2) (.cons (.call 9 (.cons (.var 5) (.cons (.call 13 (.cons (.var 4) .nil)) .nil))) (.cons (.call 13 (.cons (.var 3) .nil)) .nil)))) (.cons (.call 5 (.cons (.var 2) .nil)) .nil)))) (.seq (.ret (.lit (.bool false))) .nop) .nop) (.seq (.own 6 (.lst .nil)) (.wipe [3, 4] (.seq (.fr (.nm 7) (.var 5) (.seq (.own 8 (.op .mul (.lst (.cons (.lit (.int 0)) .nil)) (.var 2))) (.seq (.fr (.tp (.cons (.nm 9) (.cons (.nm 10) .nil))) (.var 7) (.seq (.seti 8 (.op .sub (.var 9) (.lit (.int 1))) (.var 10)) (.seq (.seti 8 (.op .sub (.var 10) (.lit (.int 1))) (.var 9)) (.wipe [9, 10] .nop)))) (.seq (.app 6 (.bi .tuple (.cons (.rd 8) .nil))) (.wipe [7, 8] .nop))))) (.seq (.frz 6 (.fr (.nm 11) (.var 6) (.seq (.ife (.or (.not (.call 11 (.cons (.var 11) .nil))) (.or (.cm .ne (.call 13 (.cons (.var 11) .nil)) (.var 11)) (.one (.cm .ne (.call 15 (.cons (.var 11) .nil)) (.op .mul (.tup (.cons (.lit (.int 2)) .nil)) (.op .fdiv (.var 2) (.lit (.int 2)))))))) (.seq (.ret (.lit (.bool false))) .nop) (.wipe [11] .nop)) .nop))) (.seq (.fr (.tp (.cons (.nm 9) (.cons (.nm 10) .nil))) (.call 20 (.cons (.bi .len (.cons (.rd 6) .nil)) .nil)) (.seq (.set 12 (.call 15 (.cons (.call 12 (.cons (.ix (.rd 6) (.var 9)) (.cons (.ix (.rd 6) (.var 10)) .nil))) .nil))) (.seq (.ife (.or (.cm .gt (.bi .len (.cons (.comp (.var 14) (.nm 14) (.var 12) (.cm .eq (.op .mod (.bi .int (.cons (.me .count (.var 12) (.cons (.var 14) .nil)) .nil)) (.lit (.int 2))) (.lit (.int 1)))) .nil)) (.lit (.int 0))) (.one (.cm .mem (.lit (.int 1)) (.var 12)))) (.seq (.ret (.lit (.bool false))) .nop) .nop) (.seq (.ife (.cm .gt (.call 16 (.cons (.call 12 (.cons (.ix (.rd 6) (.var 9)) (.cons (.ix (.rd 6) (.var 10)) .nil))) .nil)) (.op .fdiv (.var 2) (.lit (.int 2)))) (.seq (.ret (.lit (.bool false))) .nop) (.wipe [9, 10, 12] .nop)) .nop)))) (.seq (.fr (.tp (.cons (.nm 9) (.cons (.nm 10) .nil))) (.call 20 (.cons (.var 2) .nil)) (.seq (.set 13 (.call 6 (.cons (.var 5) (.cons (.op .add (.var 9) (.lit (.int 1))) (.cons (.op .add (.var 10) (.lit (.int 1))) .nil))))) (.seq (.ife (.cm .ne (.ix (.ix (.rd 6) (.var 13)) (.var 9)) (.op .add (.var 10) (.lit (.int 1)))) (.seq (.ret (.lit (.bool false))) .nop) (.wipe [9, 10, 13] .nop)) .nop))) (.seq (.ret (.lit (.bool true))) .nop))))))))))))⟩
def tabT : List Fn := [f_is_whole, f_is_from, f_is_game, f_all_games, f_is_plan, f_ring_plan, f_round_of_pair, f_first_player_clash, f_first_clash_of_plan, f_swapped_rounds, f_renamed_plan, f_is_order, f_one_then, f_turned_back, f_cycles_of, f_type_of, f_round_length, f__law_same, f__law_shuffled, f__law_perm, f__law_pairs_of]
def tabG : List (Str × PyData) := [("MOST", (.int 9))]
end Ev

/-! P97 -/
set_option maxHeartbeats 4000000
namespace Ev
open PySem PySem.Spec PyProof.Rows L2
def topS (i : Nat) : Stmt := PySem.Challenge.pw_changeworlds_k97_whole_rounds_are_orders.main.body.getD i (.Pass ⟨0, 0, 0, 0⟩)
abbrev sPool : Stmt := topS 24
abbrev sSpread : Stmt := topS 25
abbrev sDraw : Stmt := topS 26
def spSpread : Sp := fun vs H Q _ => ∃ n : Int, vs = [.int n] ∧ ∀ z : Int, Q (.int z) H
theorem scSp : FnScope ["cell", "mixed", "total", "k"] ["cell"] (defScope sSpread) := ⟨rfl, rfl, rfl, by decide +kernel, rfl, by decide +kernel, by decide +kernel⟩
section
variable {P : Program} {w : World} {K : PySem.W.Frag} {mg : Str → Option Value} {base : Heap} {f g : Addr} {fd gd : FuncData}
theorem ok_spread (F : Fun K "_law_spread" "_law_spread" sSpread f fd) (mi : mg "int" = none) (mr : mg "range" = none) : FnOk P w K mg base CX0 1 f fd ["cell"] spSpread := by
  refine F.ok scSp (fun vs H Q E h => ?_) (fun cdv A outer s H vs Q E hr h => ?_)
  · obtain ⟨n, rfl, _⟩ := h
    rfl
  · obtain ⟨n, rfl, q⟩ := h
    refine ⟨_, pss_cons (ps_set (i := 1) scSp.nd rfl (Or.inl rfl) (pe_op op_mod (pe_callTy call_int1 (by rfl) mi PyProof.Rows.boot_int (pa_cons (pv 0) pa_nil)) pe_int))
      (pss_cons (ps_set (i := 2) scSp.nd rfl (Or.inl rfl) pe_int)
      (pss_cons (ps_for PassesOwn.never rfl (pi_range1 (by rfl) mr (pa_cons pe_int pa_nil)) (pg_name (i := 3) scSp.nd rfl (Or.inl rfl))
        (pss_cons (ps_set (i := 1) scSp.nd rfl (Or.inl rfl) (pe_op op_mod (pe_callTy call_int1 (by rfl) mi PyProof.Rows.boot_int (pa_cons (pe_op op_add (pe_op op_add (pe_op op_mul (pv 1) pe_int) pe_int) (pv 3)) pa_nil)) pe_int))
        (pss_one (ps_set (i := 2) scSp.nd rfl (Or.inl rfl) (pe_op op_add (pe_op op_mul (pv 2) pe_int) (pv 1))))))
      (pss_one (ps_ret (pv 2))))), ?_⟩
    refine ⟨_, rfl, .inl ⟨n, rfl, n, 2147483647, rfl, rfl, (by show (0 : Int) < 2147483647; decide), ?_⟩⟩
    refine ⟨4, rfl, by decide, by decide, for_range (fun i σ H' => ∃ (m t : Int) (k : Option V), σ = [some (.int n), some (.int m), some (.int t), k] ∧ 0 ≤ m ∧ m < 2147483647 ∧ H' = H) ⟨_, 1, none, rfl, Int.emod_nonneg _ (by decide), Int.emod_lt_of_pos _ (by decide), rfl⟩ ?_ ?_⟩
    · rintro i σ H' hi ⟨m, t, k, rfl, h0, h1, rfl⟩
      refine ⟨_, rfl, m, 48271, rfl, rfl, .inl (by omega), _, 12345, rfl, rfl, _, rfl, _, _, rfl, rfl, .inl ⟨_, rfl, _, 2147483647, rfl, rfl, (by show (0 : Int) < 2147483647; decide), ?_⟩⟩
      refine ⟨_, rfl, t, 2147483647, rfl, rfl, .inr (by decide), _, rfl, _, _, rfl, rfl, ?_⟩
      exact ⟨_, _, _, rfl, Int.emod_nonneg _ (by decide), Int.emod_lt_of_pos _ (by decide), rfl⟩
    · rintro σ H' ⟨m, t, k, rfl, _, _, rfl⟩
      exact ⟨_, rfl, q t⟩
theorem scDr : FnScope ["pool", "many", "cell", "mixed", "value"] ["pool", "many"] (defScope sDraw) := ⟨rfl, rfl, rfl, by decide +kernel, rfl, by decide +kernel, by decide +kernel⟩
/-- the pool's list -/
abbrev PL (l : Addr) (i r c s : Int) : HO := .lst [.ref l, .int i, .int r, .int c, .int s]
theorem pool_ext {pa l : Addr} {G H : Hp} {ns : List Int} {i r c s : Int} (g : GH K pa G H) (hl : SqL K G l (ns.map V.int)) (h0 : 0 ≤ i) (hs : 0 ≤ s) (hs2 : s < 1000003) : Ext K pa G H G (upd H pa (PL l i r c s)) where
  gg := fun _ _ h => h
  gh := fun b u h => by rw [upd_ne (by intro z; subst z; rw [g.ng] at h; cases h)]; exact g.sub _ _ h
  hh := fun b u n h => by rw [upd_ne n]; exact h
  nw := fun b h h' => absurd h h'
  pool := ⟨l, ns, i, r, c, s, upd_same, hl, h0, hs, hs2⟩
theorem upd_id {H : Hp} {a : Addr} {o : HO} (h : H a = some o) : upd H a o = H := by
  funext b
  unfold upd
  split
  · rename_i e; subst e; exact h.symm
  · rfl
theorem ok_draw (F : Fun K "_law_draw" "_law_draw" sDraw f fd) (GS : FnOk P w K mg base CX0 1 g gd ["cell"] spSpread) (bS : Binds K gd ["cell"] []) (kS : PySem.W.keepIn K (.ref g) = true) (mS : mg "_law_spread" = some (.ref g))
    (mi : mg "int" = none) (ml : mg "len" = none) : FnOk P w K mg base CX0 2 f fd ["pool", "many"] (spDraw K) := by
  refine F.ok scDr (fun vs H Q E h => ?_) (fun cdv A outer s H vs Q E hr h => ?_)
  · obtain ⟨pa, G, n, rfl, _⟩ := h
    rfl
  · obtain ⟨pa, G, n, rfl, gh, n0, n1, q⟩ := h
    obtain ⟨l, ns, i, r, c, st, hp, hl, hi, hs0, hs1⟩ := id gh.pool
    have B : ∃ u, PSs (cxOf CX0 P w K mg base ["pool", "many", "cell", "mixed", "value"] "_law_draw" (defScope sDraw) f cdv A outer s H E).nox ((defBody sDraw).drop 1) u ∧ ∀ (cl : Option V) (i r : Int), 0 ≤ i →
        u { nx := fun _ H' => Q .non H', rt := Q } [some (.ref pa), some (.int n), cl, none, none] (upd H pa (PL l i r c st)) := by
      refine ⟨_, (pss_cons (ps_asg (pe_op op_add (pe_ix ix_list (pv 0) pe_int (fun _ _ => rfl)) pe_int) (pg_sub (pv 0) pe_int set_list))
      (pss_cons (ps_if (pt_cmpR op_le (pe_ix ix_list (pv 0) pe_int (fun _ _ => rfl)) pe_int (nomark _))
        (pss_cons (ps_set (i := 3) scDr.nd rfl (Or.inl rfl) (pe_op op_mod (pe_callTy call_int1 (by rfl) mi PyProof.Rows.boot_int (pa_cons (pe_op op_add (pe_op op_add (pe_op op_mul (pe_ix ix_list (pv 0) pe_int (fun _ _ => rfl)) pe_int) (pe_op op_mul (pe_ix ix_list (pv 0) pe_int (fun _ _ => rfl)) pe_int)) pe_int) pa_nil)) pe_int))
        (pss_cons (ps_set (i := 3) scDr.nd rfl (Or.inl rfl) (pe_op op_mod (pe_callTy call_int1 (by rfl) mi PyProof.Rows.boot_int (pa_cons (pe_op op_add (pe_op op_mul (pv 3) pe_int) (pe_ix ix_list (pv 0) pe_int (fun _ _ => rfl))) pa_nil)) pe_int))
        (pss_one (ps_ret (pe_op op_mod (pe_op op_fdiv (pv 3) pe_int) (pv 1)))))) pss_nil)
      (pss_cons (ps_set (i := 4) scDr.nd rfl (Or.inl rfl) (pe_op op_mod (pe_callTy call_int1 (by rfl) mi PyProof.Rows.boot_int (pa_cons (pe_ix ix_list (pv 0) pe_int (fun _ _ => rfl)) pa_nil)) (pv 1)))
      (pss_cons (ps_asg (pe_op op_fdiv (pe_ix ix_list (pv 0) pe_int (fun _ _ => rfl)) (pv 1)) (pg_sub (pv 0) pe_int set_list))
      (pss_one (ps_ret (pv 4))))))), fun cl i r hi => ?_⟩
      have fin : ∀ (z : Int) (i r c : Int), 0 ≤ i → Q (.int (z % (n : Int))) (upd H pa (PL l i r c st)) := fun z i r c hi => by
        have hn : (0 : Int) < n := by omega
        have e1 := Int.emod_nonneg z (by omega : (n : Int) ≠ 0)
        have e2 := Int.emod_lt_of_pos z hn
        have := q (z % (n : Int)).toNat (by omega) _ (pool_ext (i := i) (r := r) (c := c) gh hl hi hs0 hs1)
        rw [Int.toNat_of_nonneg e1] at this
        exact this
      refine ⟨_, rfl, pa, _, 3, _, rfl, rfl, SqL.of upd_same, rfl, _, _, rfl, rfl, _, rfl, pa, _, 3, 3, rfl, rfl, upd_same, rfl, ?_⟩
      show _
      rw [upd_upd]
      refine ⟨_, rfl, pa, _, 2, _, rfl, rfl, SqL.of upd_same, rfl, _, _, rfl, rfl, _, rfl, ?_⟩
      refine ite2 (fun hc => ?_) (fun hc => ?_)
      · refine ⟨_, rfl, pa, _, 4, _, rfl, rfl, SqL.of upd_same, rfl, st, 48271, rfl, rfl, .inl (by omega), _, rfl, pa, _, 3, _, rfl, rfl, SqL.of upd_same, rfl, _, 69621, rfl, rfl, .inr (by decide), _, _, rfl, rfl, _, 1, rfl, rfl, .inl ⟨_, rfl, _, 2147483647, rfl, rfl, (by show (0 : Int) < 2147483647; decide), ?_⟩⟩
        have e1 := Int.emod_nonneg (st * 48271 + (c + 1) * 69621 + 1) (by decide : (2147483647 : Int) ≠ 0)
        have e2 := Int.emod_lt_of_pos (st * 48271 + (c + 1) * 69621 + 1) (by decide : (0 : Int) < 2147483647)
        refine ⟨_, rfl, _, 16807, rfl, rfl, .inl (by omega), _, rfl, pa, _, 3, _, rfl, rfl, SqL.of upd_same, rfl, _, _, rfl, rfl, .inl ⟨_, rfl, _, 2147483629, rfl, rfl, (by show (0 : Int) < 2147483629; decide), ?_⟩⟩
        exact ⟨_, rfl, _, 5, rfl, rfl, ⟨(by show (0 : Int) < 5; decide), (by show (5 : Int) < 1073741824; decide)⟩, _, rfl, _, (n : Int), rfl, rfl, (by show (0 : Int) < (n : Int); omega), fin _ _ _ _ hi⟩
      · refine ⟨_, rfl, pa, _, 2, _, rfl, rfl, SqL.of upd_same, rfl, .inl ⟨_, rfl, _, rfl, r, (n : Int), rfl, rfl, (by show (0 : Int) < (n : Int); omega), ?_⟩⟩
        refine ⟨_, rfl, pa, _, 2, _, rfl, rfl, SqL.of upd_same, rfl, _, rfl, r, (n : Int), rfl, rfl, ⟨(by show (0 : Int) < (n : Int); omega), (by show (n : Int) < 1073741824; omega)⟩, _, rfl, pa, _, 2, 2, rfl, rfl, upd_same, rfl, ?_⟩
        refine ⟨_, rfl, ?_⟩
        rw [upd_upd]
        exact fin _ _ _ _ hi
    obtain ⟨u, PB, tail⟩ := B
    have h0 : upd H pa (PL l i r c st) = H := upd_id hp
    refine ⟨_, pss_cons (ps_if (PW.pt (pw_and (pt_cmpR op_le (pe_ix ix_list (pv 0) pe_int (fun _ _ => rfl)) pe_int (nomark _)) (pw_and1 (pt_cmpR op_lt (pe_ix ix_list (pv 0) pe_int (fun _ _ => rfl)) (pe_callB call_len_seq (by rfl) ml PySem.boot_len (pa_cons (pe_ix ix_list (pv 0) pe_int (fun _ _ => rfl)) pa_nil)) (nomark _)))))
        (pss_cons (ps_set (i := 2) scDr.nd rfl (Or.inl rfl) (pe_ix ix_list (pe_ix ix_list (pv 0) pe_int (fun _ _ => rfl)) (pe_ix ix_list (pv 0) pe_int (fun _ _ => rfl)) (fun _ _ => rfl)))
        (pss_cons (ps_asg (pe_op op_add (pe_ix ix_list (pv 0) pe_int (fun _ _ => rfl)) pe_int) (pg_sub (pv 0) pe_int set_list))
        (pss_cons (ps_asg (pv 2) (pg_sub (pv 0) pe_int set_list))
        (pss_one (ps_if (pt_cmpR op_lt (pv 2) pe_int (nomark _)) (pss_one (ps_asg (pe_call GS hr (by rfl) mS kS bS .nil pass0 (pa_cons (pv 2) pa_nil)) (pg_sub (pv 0) pe_int set_list))) pss_nil))))) pss_nil) PB, ?_⟩
    refine ⟨_, rfl, pa, _, 2, _, rfl, rfl, SqL.of hp, rfl, _, _, rfl, rfl, _, rfl, ?_⟩
    refine ite2 (fun hc => ?_) (fun hc => ?_)
    · refine ⟨_, rfl, pa, _, 1, _, rfl, rfl, SqL.of hp, rfl, _, rfl, pa, _, 0, _, rfl, rfl, SqL.of hp, rfl, l, _, rfl, .inl (SqL.sub gh.sub hl), _, _, rfl, rfl, _, rfl, ?_⟩
      refine ite2 (fun hd => ?_) (fun hd => ?_)
      · have hd : decide (i < (((ns.map V.int).length : Nat) : Int)) = true := hd
        rw [decide_eq_true_eq, List.length_map] at hd
        obtain ⟨x, hx⟩ : ∃ x : Int, atI (ns.map V.int) i = some (.int x) := by
          have hk : i.toNat < ns.length := by omega
          have ek : i = ((i.toNat : Nat) : Int) := by omega
          refine ⟨ns[i.toNat], ?_⟩
          have := atI_nat (xs := ns.map V.int) (j := i.toNat) (v := .int ns[i.toNat]) (by rw [List.getElem?_map, List.getElem?_eq_getElem hk] <;> rfl)
          rw [← ek] at this
          exact this
        refine ⟨_, rfl, pa, _, 0, _, rfl, rfl, SqL.of hp, rfl, _, rfl, pa, _, 1, _, rfl, rfl, SqL.of hp, rfl, l, _, i, _, rfl, rfl, SqL.sub gh.sub hl, hx, ?_⟩
        refine ⟨_, rfl, pa, _, 1, _, rfl, rfl, SqL.of hp, rfl, _, 1, rfl, rfl, _, rfl, pa, _, 1, 1, rfl, rfl, hp, rfl, ?_⟩
        refine ⟨_, rfl, _, rfl, pa, _, 2, 2, rfl, rfl, upd_same, rfl, ?_⟩
        rw [upd_upd]
        refine ⟨_, rfl, _, _, rfl, rfl, _, rfl, ?_⟩
        refine ite2 (fun he => ?_) (fun he => ?_)
        · refine ⟨_, rfl, x, rfl, fun z => ⟨_, rfl, pa, _, 2, 2, rfl, rfl, upd_same, rfl, ?_⟩⟩
          rw [upd_upd]
          exact tail (some (.int x)) (i + 1) z (by omega)
        · exact tail (some (.int x)) (i + 1) x (by omega)
      · have := tail none i r hi
        rw [h0] at this
        exact this
    · have := tail none i r hi
      rw [h0] at this
      exact this
theorem scPo : FnScope ["script", "salt", "cell"] ["script"] (defScope sPool) := ⟨rfl, rfl, rfl, by decide +kernel, rfl, by decide +kernel, by decide +kernel⟩
theorem cut_mem {xs : List V} {lo hi : Option Int} {i : Nat} {x : V} (h : (cutV xs lo hi)[i]? = some x) : x ∈ xs := by
  have := List.mem_of_getElem? h
  unfold cutV at this
  exact List.mem_of_mem_drop (List.mem_of_mem_take this)
theorem gh_new {K : PySem.W.Frag} {H : Hp} {l q : Addr} {ns : List Int} {s : Int} (nl : H l = none) (nq : upd H l (.lst (ns.map V.int)) q = none) (h0 : 0 ≤ s) (h1 : s < 1000003) :
    GH K q (fun b => if b = l then some (.lst (ns.map V.int)) else none) (upd (upd H l (.lst (ns.map V.int))) q (PL l 0 0 0 s)) := by
  have hql : q ≠ l := fun z => by subst z; rw [upd_same] at nq; cases nq
  refine ⟨fun b o h => ?_, ⟨l, ns, 0, 0, 0, s, upd_same, SqL.of (if_pos rfl), by decide, h0, h1⟩, if_neg hql⟩
  by_cases z : b = l
  · subst z
    have h := (if_pos rfl).symm.trans h
    cases h
    rw [upd_ne (Ne.symm hql), upd_same]
  · have h := (if_neg z).symm.trans h
    cases h
theorem ok_pool (F : Fun K "_law_pool" "_law_pool" sPool f fd) (mi : mg "int" = none) (ml : mg "list" = none) : FnOk P w K mg base CX0 1 f fd ["script"] (spPool K) := by
  refine F.ok scPo (fun vs H Q E h => ?_) (fun cdv A outer s H vs Q E hr h => ?_)
  · obtain ⟨a, ns, rfl, _⟩ := h
    rfl
  · obtain ⟨a, ns, rfl, hS, hlen, q⟩ := h
    refine ⟨_, pss_cons (ps_set (i := 1) scPo.nd rfl (Or.inl rfl) pe_int)
      (pss_cons (ps_for PassesOwn.never rfl (pi_list (pe_slice sl_list (pv 0) po_none (po_some pe_int))) (pg_name (i := 2) scPo.nd rfl (Or.inl rfl))
        (pss_one (ps_set (i := 1) scPo.nd rfl (Or.inl rfl) (pe_op op_mod (pe_callTy call_int1 (by rfl) mi PyProof.Rows.boot_int (pa_cons (pe_op op_add (pe_op op_mul (pv 1) pe_int) (pv 2)) pa_nil)) pe_int))))
      (pss_one (ps_ret (pe_lst (pa_cons (pe_callTy call_list_of (by rfl) ml PyProof.Rows.boot_list (pa_cons (pv 0) pa_nil)) (pa_cons pe_int (pa_cons pe_int (pa_cons pe_int (pa_cons (pv 1) pa_nil))))))))), ?_⟩
    refine ⟨_, rfl, _, rfl, a, _, rfl, hS, fun p np => ?_⟩
    have sm : Sub H (upd H p (.lst (cutV (ns.map V.int) none (some 63)))) := sub_upd np
    refine ⟨p, rfl, ⟨_, SqL.of upd_same⟩, for_list (xs := cutV (ns.map V.int) none (some 63)) (fun i σ H' => ∃ (s : Int) (c : Option V), σ = [some (.ref a), some (.int s), c] ∧ 0 ≤ s ∧ s < 1000003 ∧ H' = upd H p (.lst (cutV (ns.map V.int) none (some 63)))) ⟨7, none, rfl, by decide, by decide, rfl⟩ ?_ ?_ ?_⟩
    · rintro i σ H' hi ⟨s, c, rfl, h0, h1, rfl⟩
      exact SqL.of upd_same
    · rintro i x σ H' hx ⟨s, c, rfl, h0, h1, rfl⟩
      obtain ⟨n, hn, rfl⟩ := List.mem_map.mp (cut_mem hx)
      refine ⟨_, rfl, s, 31, rfl, rfl, .inl (by omega), _, rfl, _, n, rfl, rfl, .inl ⟨_, rfl, _, 1000003, rfl, rfl, (by show (0 : Int) < 1000003; decide), ?_⟩⟩
      exact ⟨_, _, rfl, Int.emod_nonneg _ (by decide), Int.emod_lt_of_pos _ (by decide), rfl⟩
    · rintro σ H' ⟨s, c, rfl, h0, h1, rfl⟩
      refine ⟨_, rfl, a, _, rfl, .inl (SqL.sub sm hS), fun l nl => ?_⟩
      refine ⟨_, rfl, (by show 5 ≤ sizeLine; decide), fun r nr => ?_⟩
      exact q r _ _ (gh_new nl nr h0 h1)
end
end Ev

/-! C97 -/
set_option maxHeartbeats 4000000
namespace Ev
open PySem PySem.Spec PyProof.Rows L2
def d_is_whole : Df := ⟨"is_whole", topS 1, ["value"]⟩
theorem ok_is_whole : DfOk f_is_whole d_is_whole := ⟨⟨rfl, rfl, rfl, by decide +kernel, rfl, by decide +kernel, by decide +kernel⟩, fun _ _ _ _ _ _ us hl => match us, hl with | [_], _ => rfl⟩
def d_is_from : Df := ⟨"is_from", topS 2, ["value", "low", "high"]⟩
theorem ok_is_from : DfOk f_is_from d_is_from := ⟨⟨rfl, rfl, rfl, by decide +kernel, rfl, by decide +kernel, by decide +kernel⟩, fun _ _ _ _ _ _ us hl => match us, hl with | [_, _, _], _ => rfl⟩
def d_is_game : Df := ⟨"is_game", topS 4, ["n", "value"]⟩
theorem ok_is_game : DfOk f_is_game d_is_game := ⟨⟨rfl, rfl, rfl, by decide +kernel, rfl, by decide +kernel, by decide +kernel⟩, fun _ _ _ _ _ _ us hl => match us, hl with | [_, _], _ => rfl⟩
def d_all_games : Df := ⟨"all_games", topS 5, ["n", "found", "i", "j"]⟩
theorem ok_all_games : DfOk f_all_games d_all_games := ⟨⟨rfl, rfl, rfl, by decide +kernel, rfl, by decide +kernel, by decide +kernel⟩, fun _ _ _ _ _ _ us hl => match us, hl with | [_], _ => rfl⟩
def d_is_plan : Df := ⟨"is_plan", topS 6, ["n", "value", "games", "game"]⟩
theorem ok_is_plan : DfOk f_is_plan d_is_plan := ⟨⟨rfl, rfl, rfl, by decide +kernel, rfl, by decide +kernel, by decide +kernel⟩, fun _ _ _ _ _ _ us hl => match us, hl with | [_, _], _ => rfl⟩
def d_ring_plan : Df := ⟨"ring_plan", topS 7, ["n", "found", "r", "games", "i", "j"]⟩
theorem ok_ring_plan : DfOk f_ring_plan d_ring_plan := ⟨⟨rfl, rfl, rfl, by decide +kernel, rfl, by decide +kernel, by decide +kernel⟩, fun _ _ _ _ _ _ us hl => match us, hl with | [_], _ => rfl⟩
def d_round_of_pair : Df := ⟨"round_of_pair", topS 8, ["plan", "i", "j", "game", "r"]⟩
theorem ok_round_of_pair : DfOk f_round_of_pair d_round_of_pair := ⟨⟨rfl, rfl, rfl, by decide +kernel, rfl, by decide +kernel, by decide +kernel⟩, fun _ _ _ _ _ _ us hl => match us, hl with | [_, _, _], _ => rfl⟩
def d_first_player_clash : Df := ⟨"first_player_clash", topS 9, ["n", "games", "players", "game", "i"]⟩
theorem ok_first_player_clash : DfOk f_first_player_clash d_first_player_clash := ⟨⟨rfl, rfl, rfl, by decide +kernel, rfl, by decide +kernel, by decide +kernel⟩, fun _ _ _ _ _ _ us hl => match us, hl with | [_, _], _ => rfl⟩
def d_first_clash_of_plan : Df := ⟨"first_clash_of_plan", topS 10, ["n", "rounds", "r", "i", "games", "row", "twice", "missing", "game"]⟩
theorem ok_first_clash_of_plan : DfOk f_first_clash_of_plan d_first_clash_of_plan := ⟨⟨rfl, rfl, rfl, by decide +kernel, rfl, by decide +kernel, by decide +kernel⟩, fun _ _ _ _ _ _ us hl => match us, hl with | [_, _], _ => rfl⟩
def d_swapped_rounds : Df := ⟨"swapped_rounds", topS 11, ["plan", "order", "r"]⟩
theorem ok_swapped_rounds : DfOk f_swapped_rounds d_swapped_rounds := ⟨⟨rfl, rfl, rfl, by decide +kernel, rfl, by decide +kernel, by decide +kernel⟩, fun _ _ _ _ _ _ us hl => match us, hl with | [_, _], _ => rfl⟩
def d_renamed_plan : Df := ⟨"renamed_plan", topS 12, ["n", "plan", "order", "found", "games", "named", "i", "j"]⟩
theorem ok_renamed_plan : DfOk f_renamed_plan d_renamed_plan := ⟨⟨rfl, rfl, rfl, by decide +kernel, rfl, by decide +kernel, by decide +kernel⟩, fun _ _ _ _ _ _ us hl => match us, hl with | [_, _, _], _ => rfl⟩
def d_is_order : Df := ⟨"is_order", topS 15, ["value", "item"]⟩
theorem ok_is_order : DfOk f_is_order d_is_order := ⟨⟨rfl, rfl, rfl, by decide +kernel, rfl, by decide +kernel, by decide +kernel⟩, fun _ _ _ _ _ _ us hl => match us, hl with | [_], _ => rfl⟩
def d_one_then : Df := ⟨"one_then", topS 16, ["first", "second", "place"]⟩
theorem ok_one_then : DfOk f_one_then d_one_then := ⟨⟨rfl, rfl, rfl, by decide +kernel, rfl, by decide +kernel, by decide +kernel⟩, fun _ _ _ _ _ _ us hl => match us, hl with | [_, _], _ => rfl⟩
def d_turned_back : Df := ⟨"turned_back", topS 17, ["order", "number"]⟩
theorem ok_turned_back : DfOk f_turned_back d_turned_back := ⟨⟨rfl, rfl, rfl, by decide +kernel, rfl, by decide +kernel, by decide +kernel⟩, fun _ _ _ _ _ _ us hl => match us, hl with | [_], _ => rfl⟩
def d_cycles_of : Df := ⟨"cycles_of", topS 19, ["order", "found", "known", "first", "ring", "number"]⟩
theorem ok_cycles_of : DfOk f_cycles_of d_cycles_of := ⟨⟨rfl, rfl, rfl, by decide +kernel, rfl, by decide +kernel, by decide +kernel⟩, fun _ _ _ _ _ _ us hl => match us, hl with | [_], _ => rfl⟩
def d_type_of : Df := ⟨"type_of", topS 20, ["order", "ring"]⟩
theorem ok_type_of : DfOk f_type_of d_type_of := ⟨⟨rfl, rfl, rfl, by decide +kernel, rfl, by decide +kernel, by decide +kernel⟩, fun _ _ _ _ _ _ us hl => match us, hl with | [_], _ => rfl⟩
def d_round_length : Df := ⟨"round_length", topS 21, ["order", "found", "ring", "one", "two"]⟩
theorem ok_round_length : DfOk f_round_length d_round_length := ⟨⟨rfl, rfl, rfl, by decide +kernel, rfl, by decide +kernel, by decide +kernel⟩, fun _ _ _ _ _ _ us hl => match us, hl with | [_], _ => rfl⟩
def d__law_same : Df := ⟨"_law_same", topS 23, ["actual", "due", "k"]⟩
theorem ok__law_same : DfOk f__law_same d__law_same := ⟨⟨rfl, rfl, rfl, by decide +kernel, rfl, by decide +kernel, by decide +kernel⟩, fun _ _ _ _ _ _ us hl => match us, hl with | [_, _], _ => rfl⟩
def d__law_shuffled : Df := ⟨"_law_shuffled", topS 27, ["pool", "items", "left", "found", "at"]⟩
theorem ok__law_shuffled : DfOk f__law_shuffled d__law_shuffled := ⟨⟨rfl, rfl, rfl, by decide +kernel, rfl, by decide +kernel, by decide +kernel⟩, fun _ _ _ _ _ _ us hl => match us, hl with | [_, _], _ => rfl⟩
def d__law_perm : Df := ⟨"_law_perm", topS 28, ["pool", "n"]⟩
theorem ok__law_perm : DfOk f__law_perm d__law_perm := ⟨⟨rfl, rfl, rfl, by decide +kernel, rfl, by decide +kernel, by decide +kernel⟩, fun _ _ _ _ _ _ us hl => match us, hl with | [_, _], _ => rfl⟩
def d__law_pairs_of : Df := ⟨"_law_pairs_of", topS 29, ["n", "found", "i", "j"]⟩
theorem ok__law_pairs_of : DfOk f__law_pairs_of d__law_pairs_of := ⟨⟨rfl, rfl, rfl, by decide +kernel, rfl, by decide +kernel, by decide +kernel⟩, fun _ _ _ _ _ _ us hl => match us, hl with | [_], _ => rfl⟩
def d_law : Df := ⟨"law", topS 30, ["script", "pool", "n", "names", "order", "plan", "rows", "games", "meets", "i", "j", "row", "kind", "r", "length"]⟩
def tabD : List Df := [d_is_whole, d_is_from, d_is_game, d_all_games, d_is_plan, d_ring_plan, d_round_of_pair, d_first_player_clash, d_first_clash_of_plan, d_swapped_rounds, d_renamed_plan, d_is_order, d_one_then, d_turned_back, d_cycles_of, d_type_of, d_round_length, d__law_same, d__law_shuffled, d__law_perm, d__law_pairs_of]
theorem tab_ok : AllOk tabT tabD := .cons ok_is_whole (.cons ok_is_from (.cons ok_is_game (.cons ok_all_games (.cons ok_is_plan (.cons ok_ring_plan (.cons ok_round_of_pair (.cons ok_first_player_clash (.cons ok_first_clash_of_plan (.cons ok_swapped_rounds (.cons ok_renamed_plan (.cons ok_is_order (.cons ok_one_then (.cons ok_turned_back (.cons ok_cycles_of (.cons ok_type_of (.cons ok_round_length (.cons ok__law_same (.cons ok__law_shuffled (.cons ok__law_perm (.cons ok__law_pairs_of (.nil)))))))))))))))))))))
theorem tab_chk : chkAll (tabT.zip tabD |>.map fun p => (p.2.name, p.1.pool)) tabG "_law_draw" tabT tabD = true := by decide +kernel
abbrev lawRest : List Stmt := (defBody (topS 30)).drop 1
theorem law_chk : chkLaw (tabT.zip tabD |>.map fun p => (p.2.name, p.1.pool)) tabG "_law_draw" f_law d_law lawRest = true := by decide +kernel
def d__law_pool : Df := ⟨"_law_pool", sPool, []⟩
def d__law_spread : Df := ⟨"_law_spread", sSpread, []⟩
def d__law_draw : Df := ⟨"_law_draw", sDraw, []⟩
def allD : List Df := tabD ++ [d__law_pool, d__law_spread, d__law_draw, d_law]
theorem facts {P : Program} {w : World} {K : PySem.W.Frag} {h : Heap} {mg : Str → Option Value} {f : Addr} (X : K.In h) (G : h.Ns mainGlobals mg) (hfa : mg ("law" : Str) = some (.ref f)) (c : He.SaysE (factsL allD tabG) (defsL allD) K) {fuel depth : Nat} (all : AL (lawRun tabT fuel depth f_law) YS) :
    ∃ fd : FuncData, (∀ (s : Shared) (v : Value), BindsTo s fd ⟨[v], []⟩ [("script", v)]) ∧ ∀ base : Heap, K.In base → base.Ns mainGlobals mg → FnOk P w K mg base CX0 (depth + 3) f fd ["script"] (spLaw K) := by
  have inT : ∀ d ∈ tabD, d ∈ allD := fun d hd => List.mem_append_left _ hd
  have inX : ∀ d ∈ [d__law_pool, d__law_spread, d__law_draw, d_law], d ∈ allD := fun d hd => List.mem_append_right _ hd
  obtain ⟨fp, Fp, gp⟩ := def_in X G c (inX d__law_pool (.head _))
  obtain ⟨fs, Fs, gs⟩ := def_in X G c (inX d__law_spread (.tail _ (.head _)))
  obtain ⟨fdr, Fd, gd⟩ := def_in X G c (inX d__law_draw (.tail _ (.tail _ (.head _))))
  obtain ⟨fl, Fl, gl⟩ := def_in X G c (inX d_law (.tail _ (.tail _ (.tail _ (.head _)))))
  have e := hfa.symm.trans gl
  cases e
  have fr := free_in X G c
  have mi := fr "int" (by decide +kernel)
  have bP : Binds K fp ["script"] [] := Fp.binds fun _ _ _ _ _ _ us hl => match us, hl with | [_], _ => rfl
  have bS : Binds K fs ["cell"] [] := Fs.binds fun _ _ _ _ _ _ us hl => match us, hl with | [_], _ => rfl
  have bD : Binds K fdr ["pool", "many"] [] := Fd.binds fun _ _ _ _ _ _ us hl => match us, hl with | [_, _], _ => rfl
  refine ⟨fl, fun s v => fun_to Fl (ps := ["script"]) (fun _ _ _ _ _ _ us hl => match us, hl with | [_], _ => rfl) s [v] rfl, fun base _ _ => ?_⟩
  have hd : ∃ a fd ps, FnOk P w K mg base CX0 2 a fd ps (spDraw K) ∧ mg "_law_draw" = some (.ref a) ∧ PySem.W.keepIn K (.ref a) = true ∧ Binds K fd ps [] :=
    ⟨_, fdr, _, ok_draw Fd (ok_spread Fs mi (fr "range" (by decide +kernel))) bS Fs.kp gs mi (fr "len" (by decide +kernel)), gd, Fd.kp, bD⟩
  have W := tab_at (P := P) (w := w) (base := base) X G c inT tab_ok tab_chk hd
  exact ok_law W Fl ⟨rfl, rfl, rfl, by decide +kernel, rfl, by decide +kernel, by decide +kernel⟩ (ok_pool Fp mi (fr "list" (by decide +kernel))) gp Fp.kp bP (p1 := _) (rest := lawRest) rfl law_chk all
end Ev

/-! H97 -/
set_option maxHeartbeats 4000000
namespace Ev
open PySem PySem.Spec PyProof.Rows L2
abbrev R : PySem.W.OpenRow := PySem.W.OpenLaw.row PySem.Challenge.rw_changeworlds_k97_whole_rounds_are_orders
abbrev hk : PySem.W.Hook := He.hookE 4 (factsL allD tabG) (defsL allD)
def ob (s : PySem.W.SharedT) : He.Al := He.obsG 4 (factsL allD tabG) (defsL allD) (HandSHeadRun.getT s)
theorem ob_eq (s : PySem.W.SharedT) : ob s = hk.obs s.abs := He.obsG_eq (HandSHeadRun.getT_eq s)
def loose : List Str := (["is_whole", "is_from", "is_game", "all_games", "is_plan", "ring_plan", "round_of_pair", "first_player_clash", "first_clash_of_plan", "swapped_rounds", "renamed_plan", "MOST", "is_order", "one_then", "turned_back", "cycles_of", "type_of", "round_length", "_law_same", "_law_pool", "_law_spread", "_law_draw", "_law_shuffled", "_law_perm", "_law_pairs_of"] : List Str)
theorem run_ (w : World) : HandSHeadRun.RunEq R (PySem.W.view R.prog [30]) hk ob 3000 loose w := by
  intro os
  kernel_rfl
end Ev

/-! G97 -/
set_option maxHeartbeats 4000000
namespace Ev
open PySem
noncomputable section
def g_is_whole (value_0 : PyData) : Tr Bool :=
  Tr.ret ((bI (eD value_0)) && (!(bB (eD value_0))))
theorem w_is_whole {fuel D : Nat} (h : 1 ≤ D) (value_0 : PyData) : run tabT fuel D 0 false [eD value_0] = mapT PyData.bool (g_is_whole value_0) :=
  match D, h with
  | D + 1, h => by_ (fn_E (em := PyData.bool) (env := [.v (eD value_0)]) (f := f_is_whole) rfl rfl rfl rfl (s_ret (em := PyData.bool) (t_andP (t_bi1 (h_isInt (e := eD)) (t_var (em := eD) (x := value_0) rfl)) (t_one (t_not (t_bi1 (h_isBool (e := eD)) (t_var (em := eD) (x := value_0) rfl))))))) rfl
def g_is_from (value_0 : PyData) (low_0 : PyData) (high_0 : Int) : Tr Bool :=
  (g_is_whole value_0).bind fun z_2 => cond z_2 ((cmX .le (eD low_0) (eD value_0)).bind fun r_1 => cond r_1 (cmX .le (eD value_0) (PyData.int high_0)) (Tr.ret false)) (Tr.ret false)
theorem w_is_from {fuel D : Nat} (h : 2 ≤ D) (value_0 : PyData) (low_0 : PyData) (high_0 : Int) : run tabT fuel D 1 false [eD value_0, eD low_0, PyData.int high_0] = mapT PyData.bool (g_is_from value_0 low_0 high_0) :=
  match D, h with
  | D + 1, h => by_ (fn_E (em := PyData.bool) (env := [.v (eD value_0), .v (eD low_0), .v (PyData.int high_0)]) (f := f_is_from) rfl rfl rfl rfl (s_ret (em := PyData.bool) (t_and (t_call1 (w_is_whole (fuel := fuel) (D := D) (by omega)) (t_var (em := eD) (x := value_0) rfl)) (t_one (t_chnX (t_var (em := eD) (x := low_0) rfl) (t_var (em := eD) (x := value_0) rfl) (t_var (em := PyData.int) (x := high_0) rfl)))))) rfl
def g_is_game (n_0 : Int) (value_0 : PyData) : Tr Bool :=
  (cond (!(bT (eD value_0))) (Tr.ret true) ((lenX value_0).bind fun z_1 => Tr.ret (!ieqB z_1 (2 : Int)))).bind fun z_7 => cond z_7 (Tr.ret false) (((ixX (eD value_0) (PyData.int (0 : Int))).bind fun z_2 => g_is_from z_2 (PyData.int (1 : Int)) n_0).bind fun z_6 => cond z_6 ((ixX (eD value_0) (PyData.int (1 : Int))).bind fun z_4 => ((ixX (eD value_0) (PyData.int (0 : Int))).bind fun z_3 => opX .add (eD z_3) (PyData.int (1 : Int))).bind fun z_5 => g_is_from z_4 z_5 n_0) (Tr.ret false))
theorem w_is_game {fuel D : Nat} (h : 3 ≤ D) (n_0 : Int) (value_0 : PyData) : run tabT fuel D 2 false [PyData.int n_0, eD value_0] = mapT PyData.bool (g_is_game n_0 value_0) :=
  match D, h with
  | D + 1, h => by_ (fn_E (em := PyData.bool) (env := [.v (PyData.int n_0), .v (eD value_0)]) (f := f_is_game) rfl rfl rfl rfl (s_ifRet (t_or (t_not (t_bi1 (h_isTup (e := eD)) (t_var (em := eD) (x := value_0) rfl))) (t_one (t_cm (h_ne fl_int fl_int (by decide) (by decide) eq_int) (t_bi1 h_lenD (t_var (em := eD) (x := value_0) rfl)) (t_lit (em := PyData.int) (x := (2 : Int)) rfl)))) (s_ret (em := PyData.bool) (t_lit (em := PyData.bool) (x := false) rfl)) ((seq_nop _).trans (s_ret (em := PyData.bool) (t_and (t_call3 (w_is_from (fuel := fuel) (D := D) (by omega)) (t_ix (h_ixD (ea := eD) (eb := PyData.int)) (t_var (em := eD) (x := value_0) rfl) (t_lit (em := PyData.int) (x := (0 : Int)) rfl)) (t_as (em' := eD) PyData.int (fun _ => rfl) (t_lit (em := PyData.int) (x := (1 : Int)) rfl)) (t_var (em := PyData.int) (x := n_0) rfl)) (t_one (t_call3 (w_is_from (fuel := fuel) (D := D) (by omega)) (t_ix (h_ixD (ea := eD) (eb := PyData.int)) (t_var (em := eD) (x := value_0) rfl) (t_lit (em := PyData.int) (x := (1 : Int)) rfl)) (t_op (h_opD (o := .add) (ea := eD) (eb := PyData.int)) (t_ix (h_ixD (ea := eD) (eb := PyData.int)) (t_var (em := eD) (x := value_0) rfl) (t_lit (em := PyData.int) (x := (0 : Int)) rfl)) (t_lit (em := PyData.int) (x := (1 : Int)) rfl)) (t_var (em := PyData.int) (x := n_0) rfl)))))))) rfl
def g_all_games_1 (n_0 : Int) (s_2 : (List ((Int) × (Int)))) (i_3 : Int) : Tr (List ((Int) × (Int))) :=
  ((rng2T (i_3 + (1 : Int)) (n_0 + (1 : Int))).bind fun z_5 => grd (lenOk z_5) (.ret (z_5.map fun j_4 => (i_3, j_4)))).bind fun z_7 => (appT s_2 z_7).bind fun found_6 => Tr.ret found_6
def g_all_games (n_0 : Int) : Tr (List ((Int) × (Int))) :=
  (Tr.ret ([] : List ((Int) × (Int)))).bind fun found_1 => ((rng2T (1 : Int) (n_0 + (1 : Int))).bind fun z_9 => foldT (g_all_games_1 n_0) z_9 found_1).bind fun s_8 => Tr.ret s_8
theorem w_all_games {fuel D : Nat} (h : 1 ≤ D) (n_0 : Int) : run tabT fuel D 3 false [PyData.int n_0] = mapT (eL (eP PyData.int PyData.int)) (g_all_games n_0) :=
  match D, h with
  | D + 1, h => by_ (fn_E (em := (eL (eP PyData.int PyData.int))) (env := [.v (PyData.int n_0), .no, .no, .no]) (f := f_all_games) rfl rfl rfl rfl (s_own (t_lst0 (ec := (eL (eP PyData.int PyData.int))) ([] : List ((Int) × (Int))) (rfl) ) fun found_1 => (s_forN (E := (fun (s_2 : (List ((Int) × (Int)))) => [.v (PyData.int n_0), .o ((eL (eP PyData.int PyData.int)) s_2), .no, .no])) (s0 := found_1) (wk_L (e := PyData.int)) (t_rng2 (t_lit (em := PyData.int) (x := (1 : Int)) rfl) (t_op h_addI (t_var (em := PyData.int) (x := n_0) rfl) (t_lit (em := PyData.int) (x := (1 : Int)) rfl))) rfl (fun s_2 i_3 => ⟨_, rfl, (s_ext (em := (eP PyData.int PyData.int)) (xs := s_2) rfl (t_compM (ec := (eP PyData.int PyData.int)) (f := fun j_4 => (i_3, j_4)) (wk_L (e := PyData.int)) (t_rng2 (t_op h_addI (t_var (em := PyData.int) (x := i_3) rfl) (t_lit (em := PyData.int) (x := (1 : Int)) rfl)) (t_op h_addI (t_var (em := PyData.int) (x := n_0) rfl) (t_lit (em := PyData.int) (x := (1 : Int)) rfl))) (fun j_4 => k_step rfl t_yes (t_tup2 (ec := (eP PyData.int PyData.int)) (fun a0 a1 => (a0, a1)) (fun _ _ => rfl) (t_var (em := PyData.int) (x := i_3) rfl) (t_var (em := PyData.int) (x := j_4) rfl)))) fun found_6 => (s_wipe (s_nop (E := (fun (s_2 : (List ((Int) × (Int)))) => [.v (PyData.int n_0), .o ((eL (eP PyData.int PyData.int)) s_2), .no, .no])) (s := found_6) rfl)))⟩) fun s_8 => (s_retO (em := (eP PyData.int PyData.int)) (xs := s_8) rfl)))) rfl
def g_first_player_clash_1 (s_2 : (List (Int))) (game_3 : (Int) × (Int)) : Tr (List (Int)) :=
  (appT s_2 [game_3.1, game_3.2]).bind fun players_4 => Tr.ret players_4
def g_first_player_clash_2 (s_5 : (List (Int))) (s_6 : Unit) (i_7 : Int) : Tr (Fl Unit (Option (Int))) :=
  cond (!ieqB (Int.ofNat (countY ieqB i_7 s_5)) (1 : Int)) (Tr.ret (.rt (some i_7))) (Tr.ret (.nx ()))
def g_first_player_clash (n_0 : Int) (games_0 : List ((Int) × (Int))) : Tr (Option (Int)) :=
  (Tr.ret ([] : List (Int))).bind fun players_1 => (foldT g_first_player_clash_1 games_0 players_1).bind fun s_5 => ((rng2T (1 : Int) (n_0 + (1 : Int))).bind fun z_10 => foldM (g_first_player_clash_2 s_5) z_10 ()).bind (flT fun s_9 => Tr.ret (none : Option Int))
theorem w_first_player_clash {fuel D : Nat} (h : 1 ≤ D) (n_0 : Int) (games_0 : List ((Int) × (Int))) : run tabT fuel D 7 false [PyData.int n_0, (eT (eP PyData.int PyData.int)) games_0] = mapT (eO PyData.int) (g_first_player_clash n_0 games_0) :=
  match D, h with
  | D + 1, h => by_ (fn_E (em := (eO PyData.int)) (env := [.v (PyData.int n_0), .v ((eT (eP PyData.int PyData.int)) games_0), .no, .no, .no]) (f := f_first_player_clash) rfl rfl rfl rfl (s_own (t_lst0 (ec := (eL PyData.int)) ([] : List (Int)) (rfl) ) fun players_1 => (s_forN (E := (fun (s_2 : (List (Int))) => [.v (PyData.int n_0), .v ((eT (eP PyData.int PyData.int)) games_0), .o ((eL PyData.int) s_2), .no, .no])) (s0 := players_1) (wk_T (e := (eP PyData.int PyData.int))) (t_var (em := (eT (eP PyData.int PyData.int))) (x := games_0) rfl) rfl (fun s_2 game_3 => ⟨_, rfl, (s_extT (em := PyData.int) (xs := s_2) rfl (t_as (em' := (eT PyData.int)) (fun (x : (Int) × (Int)) => [x.1, x.2]) (fun _ => rfl) (t_var (em := (eP PyData.int PyData.int)) (x := game_3) rfl)) fun players_4 => (s_wipe (s_nop (E := (fun (s_2 : (List (Int))) => [.v (PyData.int n_0), .v ((eT (eP PyData.int PyData.int)) games_0), .o ((eL PyData.int) s_2), .no, .no])) (s := players_4) rfl)))⟩) fun s_5 => (s_wipe (s_forR (E := (fun (s_6 : Unit) => [.v (PyData.int n_0), .no, .o ((eL PyData.int) s_5), .no, .no])) (s0 := ()) (em := (eO PyData.int)) (wk_L (e := PyData.int)) (t_rng2 (t_lit (em := PyData.int) (x := (1 : Int)) rfl) (t_op h_addI (t_var (em := PyData.int) (x := n_0) rfl) (t_lit (em := PyData.int) (x := (1 : Int)) rfl))) rfl (fun s_6 i_7 => ⟨_, rfl, (s_ifLast (t_cm (h_ne fl_int fl_int (by decide) (by decide) eq_int) (t_me1 (fun _ => rfl) (h_countL fl_int fl_int (by decide) (by decide) eq_int) (t_rdO (em := (eL PyData.int)) (x := s_5) rfl) (t_var (em := PyData.int) (x := i_7) rfl)) (t_lit (em := PyData.int) (x := (1 : Int)) rfl)) (s_toM (s_ret (em := (eO PyData.int)) (t_as (em' := (eO PyData.int)) some (fun _ => rfl) (t_var (em := PyData.int) (x := i_7) rfl)))) (s_wipe (s_nopM (E := (fun (s_6 : Unit) => [.v (PyData.int n_0), .no, .o ((eL PyData.int) s_5), .no, .no])) (e := (eO PyData.int)) (s := ()) rfl)))⟩) fun s_9 => (s_ret (em := (eO PyData.int)) (t_lit (em := (eO PyData.int)) (x := (none : Option Int)) rfl))))))) rfl
def g_first_clash_of_plan_1 (n_0 : Int) (rounds_0 : List (List ((Int) × (Int)))) (s_1 : Unit) (r_2 : Int) : Tr (Fl Unit PyData) :=
  ((ixT rounds_0 r_2).bind fun z_3 => g_first_player_clash n_0 z_3).bind fun i_4 => cond (!isNoneD ((eO PyData.int) i_4)) (Tr.ret (.rt ((eQ eS PyData.int (eO PyData.int)) ([112, 108, 97, 121, 101, 114], r_2, i_4)))) (Tr.ret (.nx ()))
def g_first_clash_of_plan_2 (s_8 : (List ((Int) × (Int)))) (row_9 : List ((Int) × (Int))) : Tr (List ((Int) × (Int))) :=
  (appT s_8 row_9).bind fun games_10 => Tr.ret games_10
def g_first_clash_of_plan (n_0 : Int) (rounds_0 : List (List ((Int) × (Int)))) : Tr PyData :=
  ((rng1T (Int.ofNat (rounds_0).length)).bind fun z_20 => foldM (g_first_clash_of_plan_1 n_0 rounds_0) z_20 ()).bind (flT fun s_6 => (Tr.ret ([] : List ((Int) × (Int)))).bind fun games_7 => (foldT g_first_clash_of_plan_2 rounds_0 games_7).bind fun s_11 => ((g_all_games n_0).bind fun z_13 => grd (lenOk z_13) (.ret ((z_13.filter fun game_12 => (iltB (1 : Int) (Int.ofNat (countY (eqPr ieqB ieqB) game_12 s_11)))).map fun game_12 => game_12))).bind fun twice_14 => cond (iltB (0 : Int) (Int.ofNat (twice_14).length)) ((ixT twice_14 (0 : Int)).bind fun z_15 => opX .add ((eT eS) [[112, 97, 105, 114]]) ((eP PyData.int PyData.int) z_15)) (((g_all_games n_0).bind fun z_17 => grd (lenOk z_17) (.ret ((z_17.filter fun game_16 => (!memY (eqPr ieqB ieqB) game_16 s_11)).map fun game_16 => game_16))).bind fun missing_18 => cond (iltB (0 : Int) (Int.ofNat (missing_18).length)) ((ixT missing_18 (0 : Int)).bind fun z_19 => opX .add ((eT eS) [[109, 105, 115, 115, 105, 110, 103]]) ((eP PyData.int PyData.int) z_19)) (Tr.ret PyData.none)))
theorem w_first_clash_of_plan {fuel D : Nat} (h : 2 ≤ D) (n_0 : Int) (rounds_0 : List (List ((Int) × (Int)))) : run tabT fuel D 8 false [PyData.int n_0, (eT (eT (eP PyData.int PyData.int))) rounds_0] = mapT eD (g_first_clash_of_plan n_0 rounds_0) :=
  match D, h with
  | D + 1, h => by_ (fn_E (em := eD) (env := [.v (PyData.int n_0), .v ((eT (eT (eP PyData.int PyData.int))) rounds_0), .no, .no, .no, .no, .no, .no, .no]) (f := f_first_clash_of_plan) rfl rfl rfl rfl (s_forR (E := (fun (s_1 : Unit) => [.v (PyData.int n_0), .v ((eT (eT (eP PyData.int PyData.int))) rounds_0), .no, .no, .no, .no, .no, .no, .no])) (s0 := ()) (em := eD) (wk_L (e := PyData.int)) (t_rng1 (t_bi1 (h_lenT (e := (eT (eP PyData.int PyData.int)))) (t_var (em := (eT (eT (eP PyData.int PyData.int)))) (x := rounds_0) rfl))) rfl (fun s_1 r_2 => ⟨_, rfl, (s_set (t_call2 (w_first_player_clash (fuel := fuel) (D := D) (by omega)) (t_var (em := PyData.int) (x := n_0) rfl) (t_ix (h_ixT (e := (eT (eP PyData.int PyData.int)))) (t_var (em := (eT (eT (eP PyData.int PyData.int)))) (x := rounds_0) rfl) (t_var (em := PyData.int) (x := r_2) rfl))) fun i_4 => (s_ifLast (t_isnN (t_var (em := (eO PyData.int)) (x := i_4) rfl)) (s_toM (s_ret (em := eD) (t_as (em' := eD) (eQ eS PyData.int (eO PyData.int)) (fun _ => rfl) (t_tup3 (ec := (eQ eS PyData.int (eO PyData.int))) (fun a0 a1 a2 => (a0, a1, a2)) (fun _ _ _ => rfl) (t_lit (em := eS) (x := [112, 108, 97, 121, 101, 114]) rfl) (t_var (em := PyData.int) (x := r_2) rfl) (t_var (em := (eO PyData.int)) (x := i_4) rfl))))) (s_wipe (s_nopM (E := (fun (s_1 : Unit) => [.v (PyData.int n_0), .v ((eT (eT (eP PyData.int PyData.int))) rounds_0), .no, .no, .no, .no, .no, .no, .no])) (e := eD) (s := ()) rfl))))⟩) fun s_6 => (s_own (t_lst0 (ec := (eL (eP PyData.int PyData.int))) ([] : List ((Int) × (Int))) (rfl) ) fun games_7 => (s_forN (E := (fun (s_8 : (List ((Int) × (Int)))) => [.v (PyData.int n_0), .v ((eT (eT (eP PyData.int PyData.int))) rounds_0), .no, .no, .o ((eL (eP PyData.int PyData.int)) s_8), .no, .no, .no, .no])) (s0 := games_7) (wk_T (e := (eT (eP PyData.int PyData.int)))) (t_var (em := (eT (eT (eP PyData.int PyData.int)))) (x := rounds_0) rfl) rfl (fun s_8 row_9 => ⟨_, rfl, (s_extT (em := (eP PyData.int PyData.int)) (xs := s_8) rfl (t_var (em := (eT (eP PyData.int PyData.int))) (x := row_9) rfl) fun games_10 => (s_wipe (s_nop (E := (fun (s_8 : (List ((Int) × (Int)))) => [.v (PyData.int n_0), .v ((eT (eT (eP PyData.int PyData.int))) rounds_0), .no, .no, .o ((eL (eP PyData.int PyData.int)) s_8), .no, .no, .no, .no])) (s := games_10) rfl)))⟩) fun s_11 => (s_set (t_compF (ec := (eP PyData.int PyData.int)) (c := fun game_12 => (iltB (1 : Int) (Int.ofNat (countY (eqPr ieqB ieqB) game_12 s_11)))) (f := fun game_12 => game_12) (wk_L (e := (eP PyData.int PyData.int))) (t_call1 (w_all_games (fuel := fuel) (D := D) (by omega)) (t_var (em := PyData.int) (x := n_0) rfl)) (fun game_12 => k_step rfl (t_cm h_gt (t_me1 (fun _ => rfl) (h_countL (fl_P fl_int fl_int) (fl_P fl_int fl_int) (by decide) (by decide) (eq_P eq_int eq_int)) (t_rdO (em := (eL (eP PyData.int PyData.int))) (x := s_11) rfl) (t_var (em := (eP PyData.int PyData.int)) (x := game_12) rfl)) (t_lit (em := PyData.int) (x := (1 : Int)) rfl)) (t_var (em := (eP PyData.int PyData.int)) (x := game_12) rfl))) fun twice_14 => (s_ifRet (t_cm h_gt (t_bi1 (h_lenL (e := (eP PyData.int PyData.int))) (t_var (em := (eL (eP PyData.int PyData.int))) (x := twice_14) rfl)) (t_lit (em := PyData.int) (x := (0 : Int)) rfl)) (s_ret (em := eD) (t_op (h_opD (o := .add) (ea := (eT eS)) (eb := (eP PyData.int PyData.int))) (t_tup1 (ec := (eT eS)) (fun a0 => [a0]) (fun _ => rfl) (t_lit (em := eS) (x := [112, 97, 105, 114]) rfl)) (t_ix (h_ixL (e := (eP PyData.int PyData.int))) (t_var (em := (eL (eP PyData.int PyData.int))) (x := twice_14) rfl) (t_lit (em := PyData.int) (x := (0 : Int)) rfl)))) ((seq_nop _).trans (s_set (t_compF (ec := (eP PyData.int PyData.int)) (c := fun game_16 => (!memY (eqPr ieqB ieqB) game_16 s_11)) (f := fun game_16 => game_16) (wk_L (e := (eP PyData.int PyData.int))) (t_call1 (w_all_games (fuel := fuel) (D := D) (by omega)) (t_var (em := PyData.int) (x := n_0) rfl)) (fun game_16 => k_step rfl (t_cm (h_nmemL (fl_P fl_int fl_int) (fl_P fl_int fl_int) (by decide) (by decide) (eq_P eq_int eq_int)) (t_var (em := (eP PyData.int PyData.int)) (x := game_16) rfl) (t_rdO (em := (eL (eP PyData.int PyData.int))) (x := s_11) rfl)) (t_var (em := (eP PyData.int PyData.int)) (x := game_16) rfl))) fun missing_18 => (s_ret (em := eD) (t_ite (t_cm h_gt (t_bi1 (h_lenL (e := (eP PyData.int PyData.int))) (t_var (em := (eL (eP PyData.int PyData.int))) (x := missing_18) rfl)) (t_lit (em := PyData.int) (x := (0 : Int)) rfl)) (t_op (h_opD (o := .add) (ea := (eT eS)) (eb := (eP PyData.int PyData.int))) (t_tup1 (ec := (eT eS)) (fun a0 => [a0]) (fun _ => rfl) (t_lit (em := eS) (x := [109, 105, 115, 115, 105, 110, 103]) rfl)) (t_ix (h_ixL (e := (eP PyData.int PyData.int))) (t_var (em := (eL (eP PyData.int PyData.int))) (x := missing_18) rfl) (t_lit (em := PyData.int) (x := (0 : Int)) rfl))) (t_lit (em := eD) (x := PyData.none) rfl))))))))))) rfl
def g_is_plan_1 (n_0 : Int) (s_4 : Unit) (games_5 : List ((Int) × (Int))) : Tr (Fl Unit Bool) :=
  ((((grd (lenOk games_5) (compT (fun game_6 => (g_is_game n_0 ((eP PyData.int PyData.int) game_6)).bind fun d_7 => .ret (some d_7)) games_5)).bind fun z_8 => Tr.ret (List.all z_8 id)).bind fun z_9 => Tr.ret (!z_9)).bind fun z_11 => cond z_11 (Tr.ret true) ((grd (lenOk games_5) (.ret (sortY ltP games_5))).bind fun z_10 => Tr.ret (!(eqL (eqPr ieqB ieqB)) games_5 z_10))).bind fun z_13 => cond z_13 (Tr.ret (.rt false)) (Tr.ret (.nx ()))
def g_is_plan (n_0 : Int) (value_0 : List (List ((Int) × (Int)))) : Tr Bool :=
  (cond (!(bT ((eT (eT (eP PyData.int PyData.int))) value_0))) (Tr.ret true) (cond (!ieqB (Int.ofNat (value_0).length) (n_0 - (1 : Int))) (Tr.ret true) (((grd (lenOk value_0) (.ret (value_0.map fun games_1 => (bT ((eT (eP PyData.int PyData.int)) games_1))))).bind fun z_2 => Tr.ret (List.all z_2 id)).bind fun z_3 => Tr.ret (!z_3)))).bind fun z_16 => cond z_16 (Tr.ret false) ((foldM (g_is_plan_1 n_0) value_0 ()).bind (flT fun s_14 => (g_first_clash_of_plan n_0 value_0).bind fun z_15 => Tr.ret (isNoneD (eD z_15))))
theorem w_is_plan {fuel D : Nat} (h : 4 ≤ D) (n_0 : Int) (value_0 : List (List ((Int) × (Int)))) : run tabT fuel D 4 false [PyData.int n_0, (eT (eT (eP PyData.int PyData.int))) value_0] = mapT PyData.bool (g_is_plan n_0 value_0) :=
  match D, h with
  | D + 1, h => by_ (fn_E (em := PyData.bool) (env := [.v (PyData.int n_0), .v ((eT (eT (eP PyData.int PyData.int))) value_0), .no, .no]) (f := f_is_plan) rfl rfl rfl rfl (s_ifRet (t_or (t_not (t_bi1 (h_isTup (e := (eT (eT (eP PyData.int PyData.int))))) (t_var (em := (eT (eT (eP PyData.int PyData.int)))) (x := value_0) rfl))) (t_or (t_cm (h_ne fl_int fl_int (by decide) (by decide) eq_int) (t_bi1 (h_lenT (e := (eT (eP PyData.int PyData.int)))) (t_var (em := (eT (eT (eP PyData.int PyData.int)))) (x := value_0) rfl)) (t_op h_subI (t_var (em := PyData.int) (x := n_0) rfl) (t_lit (em := PyData.int) (x := (1 : Int)) rfl))) (t_one (t_not (t_bi1 h_all (t_compM (ec := PyData.bool) (f := fun games_1 => (bT ((eT (eP PyData.int PyData.int)) games_1))) (wk_T (e := (eT (eP PyData.int PyData.int)))) (t_var (em := (eT (eT (eP PyData.int PyData.int)))) (x := value_0) rfl) (fun games_1 => k_step rfl t_yes (t_bi1 (h_isTup (e := (eT (eP PyData.int PyData.int)))) (t_var (em := (eT (eP PyData.int PyData.int))) (x := games_1) rfl))))))))) (s_ret (em := PyData.bool) (t_lit (em := PyData.bool) (x := false) rfl)) ((seq_nop _).trans (s_forR (E := (fun (s_4 : Unit) => [.v (PyData.int n_0), .v ((eT (eT (eP PyData.int PyData.int))) value_0), .no, .no])) (s0 := ()) (em := PyData.bool) (wk_T (e := (eT (eP PyData.int PyData.int)))) (t_var (em := (eT (eT (eP PyData.int PyData.int)))) (x := value_0) rfl) rfl (fun s_4 games_5 => ⟨_, rfl, (s_ifLast (t_or (t_not (t_bi1 h_all (t_comp (ec := PyData.bool) (st := fun game_6 => (g_is_game n_0 ((eP PyData.int PyData.int) game_6)).bind fun d_7 => .ret (some d_7)) (wk_T (e := (eP PyData.int PyData.int))) (t_var (em := (eT (eP PyData.int PyData.int))) (x := games_5) rfl) (fun game_6 => k_step rfl t_yes (t_call2 (w_is_game (fuel := fuel) (D := D) (by omega)) (t_var (em := PyData.int) (x := n_0) rfl) (t_as (em' := eD) (eP PyData.int PyData.int) (fun _ => rfl) (t_var (em := (eP PyData.int PyData.int)) (x := game_6) rfl))))))) (t_one (t_cm (h_ne (fl_L (fl_P fl_int fl_int)) (fl_L (fl_P fl_int fl_int)) (by decide) (by decide) (eq_L (eq_P eq_int eq_int))) (t_bi1 (h_listT (e := (eP PyData.int PyData.int))) (t_var (em := (eT (eP PyData.int PyData.int))) (x := games_5) rfl)) (t_bi1 (h_sortedT (e := (eP PyData.int PyData.int)) lt_P srt_P) (t_var (em := (eT (eP PyData.int PyData.int))) (x := games_5) rfl))))) (s_toM (s_ret (em := PyData.bool) (t_lit (em := PyData.bool) (x := false) rfl))) (s_wipe (s_nopM (E := (fun (s_4 : Unit) => [.v (PyData.int n_0), .v ((eT (eT (eP PyData.int PyData.int))) value_0), .no, .no])) (e := PyData.bool) (s := ()) rfl)))⟩) fun s_14 => (s_ret (em := PyData.bool) (t_isN (t_call2 (w_first_clash_of_plan (fuel := fuel) (D := D) (by omega)) (t_var (em := PyData.int) (x := n_0) rfl) (t_var (em := (eT (eT (eP PyData.int PyData.int)))) (x := value_0) rfl)))))))) rfl
def g_ring_plan_1 (n_0 : Int) (r_3 : Int) (s_5 : (List ((Int) × (Int)))) (i_6 : Int) : Tr (List ((Int) × (Int))) :=
  ((rng2T (i_6 + (1 : Int)) n_0).bind fun z_13 => grd (lenOk z_13) (compT (fun j_7 => ((((mulT (2 : Int) r_3).bind fun z_8 => Tr.ret ((((i_6 - (1 : Int)) + j_7) - (1 : Int)) - z_8)).bind fun z_9 => modT z_9 (n_0 - (1 : Int))).bind fun z_10 => Tr.ret (ieqB z_10 (0 : Int))).bind fun z_12 => cond z_12 (Tr.ret (some (i_6, j_7))) (Tr.ret none)) z_13)).bind fun z_15 => (appT s_5 z_15).bind fun games_14 => Tr.ret games_14
def g_ring_plan_2 (n_0 : Int) (s_2 : (List (List ((Int) × (Int))))) (r_3 : Int) : Tr (List (List ((Int) × (Int)))) :=
  (Tr.ret [(((1 : Int) + r_3), n_0)]).bind fun games_4 => ((rng2T (1 : Int) n_0).bind fun z_20 => foldT (g_ring_plan_1 n_0 r_3) z_20 games_4).bind fun s_16 => ((grd (lenOk s_16) (.ret (sortY ltP s_16))).bind fun z_17 => Tr.ret z_17).bind fun z_19 => (pushT s_2 z_19).bind fun found_18 => Tr.ret found_18
def g_ring_plan (n_0 : Int) : Tr (List (List ((Int) × (Int)))) :=
  (Tr.ret ([] : List (List ((Int) × (Int))))).bind fun found_1 => ((rng1T (n_0 - (1 : Int))).bind fun z_22 => foldT (g_ring_plan_2 n_0) z_22 found_1).bind fun s_21 => Tr.ret s_21
theorem w_ring_plan {fuel D : Nat} (h : 1 ≤ D) (n_0 : Int) : run tabT fuel D 5 false [PyData.int n_0] = mapT (eT (eT (eP PyData.int PyData.int))) (g_ring_plan n_0) :=
  match D, h with
  | D + 1, h => by_ (fn_E (em := (eT (eT (eP PyData.int PyData.int)))) (env := [.v (PyData.int n_0), .no, .no, .no, .no, .no]) (f := f_ring_plan) rfl rfl rfl rfl (s_own (t_lst0 (ec := (eL (eT (eP PyData.int PyData.int)))) ([] : List (List ((Int) × (Int)))) (rfl) ) fun found_1 => (s_forN (E := (fun (s_2 : (List (List ((Int) × (Int))))) => [.v (PyData.int n_0), .o ((eL (eT (eP PyData.int PyData.int))) s_2), .no, .no, .no, .no])) (s0 := found_1) (wk_L (e := PyData.int)) (t_rng1 (t_op h_subI (t_var (em := PyData.int) (x := n_0) rfl) (t_lit (em := PyData.int) (x := (1 : Int)) rfl))) rfl (fun s_2 r_3 => ⟨_, rfl, (s_own (t_lst1 (ec := (eL (eP PyData.int PyData.int))) (fun a0 => [a0]) (fun _ => rfl) (t_tup2 (ec := (eP PyData.int PyData.int)) (fun a0 a1 => (a0, a1)) (fun _ _ => rfl) (t_op h_addI (t_lit (em := PyData.int) (x := (1 : Int)) rfl) (t_var (em := PyData.int) (x := r_3) rfl)) (t_var (em := PyData.int) (x := n_0) rfl))) fun games_4 => (s_forN (E := (fun (s_5 : (List ((Int) × (Int)))) => [.v (PyData.int n_0), .o ((eL (eT (eP PyData.int PyData.int))) s_2), .v (PyData.int r_3), .o ((eL (eP PyData.int PyData.int)) s_5), .no, .no])) (s0 := games_4) (wk_L (e := PyData.int)) (t_rng2 (t_lit (em := PyData.int) (x := (1 : Int)) rfl) (t_var (em := PyData.int) (x := n_0) rfl)) rfl (fun s_5 i_6 => ⟨_, rfl, (s_ext (em := (eP PyData.int PyData.int)) (xs := s_5) rfl (t_comp (ec := (eP PyData.int PyData.int)) (st := fun j_7 => ((((mulT (2 : Int) r_3).bind fun z_8 => Tr.ret ((((i_6 - (1 : Int)) + j_7) - (1 : Int)) - z_8)).bind fun z_9 => modT z_9 (n_0 - (1 : Int))).bind fun z_10 => Tr.ret (ieqB z_10 (0 : Int))).bind fun z_12 => cond z_12 (Tr.ret (some (i_6, j_7))) (Tr.ret none)) (wk_L (e := PyData.int)) (t_rng2 (t_op h_addI (t_var (em := PyData.int) (x := i_6) rfl) (t_lit (em := PyData.int) (x := (1 : Int)) rfl)) (t_var (em := PyData.int) (x := n_0) rfl)) (fun j_7 => k_step rfl (t_cm (h_eq fl_int fl_int (by decide) (by decide) eq_int) (t_op h_modI (t_op h_subI (t_op h_subI (t_op h_addI (t_op h_subI (t_var (em := PyData.int) (x := i_6) rfl) (t_lit (em := PyData.int) (x := (1 : Int)) rfl)) (t_var (em := PyData.int) (x := j_7) rfl)) (t_lit (em := PyData.int) (x := (1 : Int)) rfl)) (t_op h_mulI (t_lit (em := PyData.int) (x := (2 : Int)) rfl) (t_var (em := PyData.int) (x := r_3) rfl))) (t_op h_subI (t_var (em := PyData.int) (x := n_0) rfl) (t_lit (em := PyData.int) (x := (1 : Int)) rfl))) (t_lit (em := PyData.int) (x := (0 : Int)) rfl)) (t_tup2 (ec := (eP PyData.int PyData.int)) (fun a0 a1 => (a0, a1)) (fun _ _ => rfl) (t_var (em := PyData.int) (x := i_6) rfl) (t_var (em := PyData.int) (x := j_7) rfl)))) fun games_14 => (s_wipe (s_nop (E := (fun (s_5 : (List ((Int) × (Int)))) => [.v (PyData.int n_0), .o ((eL (eT (eP PyData.int PyData.int))) s_2), .v (PyData.int r_3), .o ((eL (eP PyData.int PyData.int)) s_5), .no, .no])) (s := games_14) rfl)))⟩) fun s_16 => (s_app (em := (eT (eP PyData.int PyData.int))) (xs := s_2) rfl (t_bi1 (h_tupleL (e := (eP PyData.int PyData.int))) (t_bi1 (h_sortedL (e := (eP PyData.int PyData.int)) lt_P srt_P) (t_rdO (em := (eL (eP PyData.int PyData.int))) (x := s_16) rfl))) fun found_18 => (s_wipe (s_nop (E := (fun (s_2 : (List (List ((Int) × (Int))))) => [.v (PyData.int n_0), .o ((eL (eT (eP PyData.int PyData.int))) s_2), .no, .no, .no, .no])) (s := found_18) rfl)))))⟩) fun s_21 => (s_ret (em := (eT (eT (eP PyData.int PyData.int)))) (t_bi1 (h_tupleL (e := (eT (eP PyData.int PyData.int)))) (t_rdO (em := (eL (eT (eP PyData.int PyData.int)))) (x := s_21) rfl)))))) rfl
def g_round_of_pair (plan_0 : List (List ((Int) × (Int)))) (i_0 : Int) (j_0 : Int) : Tr Int :=
  (Tr.ret ((minI i_0 j_0), (maxI i_0 j_0))).bind fun game_1 => ((rng1T (Int.ofNat (plan_0).length)).bind fun z_6 => grd (lenOk z_6) (compT (fun r_2 => ((ixT plan_0 r_2).bind fun z_3 => Tr.ret (memY (eqPr ieqB ieqB) game_1 z_3)).bind fun z_5 => cond z_5 (Tr.ret (some r_2)) (Tr.ret none)) z_6)).bind fun z_7 => ixT z_7 (0 : Int)
theorem w_round_of_pair {fuel D : Nat} (h : 1 ≤ D) (plan_0 : List (List ((Int) × (Int)))) (i_0 : Int) (j_0 : Int) : run tabT fuel D 6 false [(eT (eT (eP PyData.int PyData.int))) plan_0, PyData.int i_0, PyData.int j_0] = mapT PyData.int (g_round_of_pair plan_0 i_0 j_0) :=
  match D, h with
  | D + 1, h => by_ (fn_E (em := PyData.int) (env := [.v ((eT (eT (eP PyData.int PyData.int))) plan_0), .v (PyData.int i_0), .v (PyData.int j_0), .no, .no]) (f := f_round_of_pair) rfl rfl rfl rfl (s_set (t_tup2 (ec := (eP PyData.int PyData.int)) (fun a0 a1 => (a0, a1)) (fun _ _ => rfl) (t_bi2 h_min2 (t_var (em := PyData.int) (x := i_0) rfl) (t_var (em := PyData.int) (x := j_0) rfl)) (t_bi2 h_max2 (t_var (em := PyData.int) (x := i_0) rfl) (t_var (em := PyData.int) (x := j_0) rfl))) fun game_1 => (s_ret (em := PyData.int) (t_ix (h_ixL (e := PyData.int)) (t_comp (ec := PyData.int) (st := fun r_2 => ((ixT plan_0 r_2).bind fun z_3 => Tr.ret (memY (eqPr ieqB ieqB) game_1 z_3)).bind fun z_5 => cond z_5 (Tr.ret (some r_2)) (Tr.ret none)) (wk_L (e := PyData.int)) (t_rng1 (t_bi1 (h_lenT (e := (eT (eP PyData.int PyData.int)))) (t_var (em := (eT (eT (eP PyData.int PyData.int)))) (x := plan_0) rfl))) (fun r_2 => k_step rfl (t_cm (h_memT (fl_P fl_int fl_int) (fl_P fl_int fl_int) (by decide) (by decide) (eq_P eq_int eq_int)) (t_var (em := (eP PyData.int PyData.int)) (x := game_1) rfl) (t_ix (h_ixT (e := (eT (eP PyData.int PyData.int)))) (t_var (em := (eT (eT (eP PyData.int PyData.int)))) (x := plan_0) rfl) (t_var (em := PyData.int) (x := r_2) rfl))) (t_var (em := PyData.int) (x := r_2) rfl))) (t_lit (em := PyData.int) (x := (0 : Int)) rfl))))) rfl
def g_swapped_rounds (plan_0 : List (List ((Int) × (Int)))) (order_0 : List (Int)) : Tr (List (List ((Int) × (Int)))) :=
  (grd (lenOk order_0) (compT (fun r_1 => (ixT plan_0 (r_1 - (1 : Int))).bind fun d_2 => .ret (some d_2)) order_0)).bind fun z_3 => Tr.ret z_3
theorem w_swapped_rounds {fuel D : Nat} (h : 1 ≤ D) (plan_0 : List (List ((Int) × (Int)))) (order_0 : List (Int)) : run tabT fuel D 9 false [(eT (eT (eP PyData.int PyData.int))) plan_0, (eT PyData.int) order_0] = mapT (eT (eT (eP PyData.int PyData.int))) (g_swapped_rounds plan_0 order_0) :=
  match D, h with
  | D + 1, h => by_ (fn_E (em := (eT (eT (eP PyData.int PyData.int)))) (env := [.v ((eT (eT (eP PyData.int PyData.int))) plan_0), .v ((eT PyData.int) order_0), .no]) (f := f_swapped_rounds) rfl rfl rfl rfl (s_ret (em := (eT (eT (eP PyData.int PyData.int)))) (t_bi1 (h_tupleL (e := (eT (eP PyData.int PyData.int)))) (t_comp (ec := (eT (eP PyData.int PyData.int))) (st := fun r_1 => (ixT plan_0 (r_1 - (1 : Int))).bind fun d_2 => .ret (some d_2)) (wk_T (e := PyData.int)) (t_var (em := (eT PyData.int)) (x := order_0) rfl) (fun r_1 => k_step rfl t_yes (t_ix (h_ixT (e := (eT (eP PyData.int PyData.int)))) (t_var (em := (eT (eT (eP PyData.int PyData.int)))) (x := plan_0) rfl) (t_op h_subI (t_var (em := PyData.int) (x := r_1) rfl) (t_lit (em := PyData.int) (x := (1 : Int)) rfl)))))))) rfl
def g_renamed_plan_1 (order_0 : List (Int)) (s_2 : (List (List ((Int) × (Int))))) (games_3 : List ((Int) × (Int))) : Tr (List (List ((Int) × (Int)))) :=
  (grd (lenOk games_3) (compT (fun p_4 => ((ixT order_0 (p_4.1 - (1 : Int))).bind fun z_5 => (ixT order_0 (p_4.2 - (1 : Int))).bind fun z_6 => Tr.ret (srt2 z_5 z_6)).bind fun d_7 => .ret (some d_7)) games_3)).bind fun named_8 => ((grd (lenOk named_8) (.ret (sortY ltP named_8))).bind fun z_9 => Tr.ret z_9).bind fun z_11 => (pushT s_2 z_11).bind fun found_10 => Tr.ret found_10
def g_renamed_plan (n_0 : Int) (plan_0 : List (List ((Int) × (Int)))) (order_0 : List (Int)) : Tr (List (List ((Int) × (Int)))) :=
  (Tr.ret ([] : List (List ((Int) × (Int))))).bind fun found_1 => (foldT (g_renamed_plan_1 order_0) plan_0 found_1).bind fun s_12 => Tr.ret s_12
theorem w_renamed_plan {fuel D : Nat} (h : 1 ≤ D) (n_0 : Int) (plan_0 : List (List ((Int) × (Int)))) (order_0 : List (Int)) : run tabT fuel D 10 false [PyData.int n_0, (eT (eT (eP PyData.int PyData.int))) plan_0, (eT PyData.int) order_0] = mapT (eT (eT (eP PyData.int PyData.int))) (g_renamed_plan n_0 plan_0 order_0) :=
  match D, h with
  | D + 1, h => by_ (fn_E (em := (eT (eT (eP PyData.int PyData.int)))) (env := [.v (PyData.int n_0), .v ((eT (eT (eP PyData.int PyData.int))) plan_0), .v ((eT PyData.int) order_0), .no, .no, .no, .no, .no]) (f := f_renamed_plan) rfl rfl rfl rfl (s_own (t_lst0 (ec := (eL (eT (eP PyData.int PyData.int)))) ([] : List (List ((Int) × (Int)))) (rfl) ) fun found_1 => (s_wipe (s_forN (E := (fun (s_2 : (List (List ((Int) × (Int))))) => [.no, .v ((eT (eT (eP PyData.int PyData.int))) plan_0), .v ((eT PyData.int) order_0), .o ((eL (eT (eP PyData.int PyData.int))) s_2), .no, .no, .no, .no])) (s0 := found_1) (wk_T (e := (eT (eP PyData.int PyData.int)))) (t_var (em := (eT (eT (eP PyData.int PyData.int)))) (x := plan_0) rfl) rfl (fun s_2 games_3 => ⟨_, rfl, (s_set (t_comp (ec := (eP PyData.int PyData.int)) (st := fun p_4 => ((ixT order_0 (p_4.1 - (1 : Int))).bind fun z_5 => (ixT order_0 (p_4.2 - (1 : Int))).bind fun z_6 => Tr.ret (srt2 z_5 z_6)).bind fun d_7 => .ret (some d_7)) (wk_T (e := (eP PyData.int PyData.int))) (t_var (em := (eT (eP PyData.int PyData.int))) (x := games_3) rfl) (fun p_4 => k_step rfl t_yes (t_srt2lst (t_ix (h_ixT (e := PyData.int)) (t_var (em := (eT PyData.int)) (x := order_0) rfl) (t_op h_subI (t_var (em := PyData.int) (x := p_4.1) rfl) (t_lit (em := PyData.int) (x := (1 : Int)) rfl))) (t_ix (h_ixT (e := PyData.int)) (t_var (em := (eT PyData.int)) (x := order_0) rfl) (t_op h_subI (t_var (em := PyData.int) (x := p_4.2) rfl) (t_lit (em := PyData.int) (x := (1 : Int)) rfl)))))) fun named_8 => (s_app (em := (eT (eP PyData.int PyData.int))) (xs := s_2) rfl (t_bi1 (h_tupleL (e := (eP PyData.int PyData.int))) (t_bi1 (h_sortedL (e := (eP PyData.int PyData.int)) lt_P srt_P) (t_var (em := (eL (eP PyData.int PyData.int))) (x := named_8) rfl))) fun found_10 => (s_wipe (s_nop (E := (fun (s_2 : (List (List ((Int) × (Int))))) => [.no, .v ((eT (eT (eP PyData.int PyData.int))) plan_0), .v ((eT PyData.int) order_0), .o ((eL (eT (eP PyData.int PyData.int))) s_2), .no, .no, .no, .no])) (s := found_10) rfl))))⟩) fun s_12 => (s_ret (em := (eT (eT (eP PyData.int PyData.int)))) (t_bi1 (h_tupleL (e := (eT (eP PyData.int PyData.int)))) (t_rdO (em := (eL (eT (eP PyData.int PyData.int)))) (x := s_12) rfl))))))) rfl
def g_is_order (value_0 : List (Int)) : Tr Bool :=
  (cond (!(bT ((eT PyData.int) value_0))) (Tr.ret true) (cond (!(ileB (1 : Int) (Int.ofNat (value_0).length) && ileB (Int.ofNat (value_0).length) (9 : Int))) (Tr.ret true) (((grd (lenOk value_0) (compT (fun item_1 => (g_is_whole (PyData.int item_1)).bind fun d_2 => .ret (some d_2)) value_0)).bind fun z_3 => Tr.ret (List.all z_3 id)).bind fun z_4 => Tr.ret (!z_4)))).bind fun z_7 => cond z_7 (Tr.ret false) ((grd (lenOk value_0) (.ret (sortY iltB value_0))).bind fun z_5 => (rng2T (1 : Int) ((Int.ofNat (value_0).length) + (1 : Int))).bind fun z_6 => Tr.ret ((eqL ieqB) z_5 z_6))
theorem w_is_order {fuel D : Nat} (h : 2 ≤ D) (value_0 : List (Int)) : run tabT fuel D 11 false [(eT PyData.int) value_0] = mapT PyData.bool (g_is_order value_0) :=
  match D, h with
  | D + 1, h => by_ (fn_E (em := PyData.bool) (env := [.v ((eT PyData.int) value_0), .no]) (f := f_is_order) rfl rfl rfl rfl (s_ifRet (t_or (t_not (t_bi1 (h_isTup (e := (eT PyData.int))) (t_var (em := (eT PyData.int)) (x := value_0) rfl))) (t_or (t_not (t_chnP (p := ileB) (q := ileB) (fun _ _ => rfl) (fun _ _ => rfl) (t_lit (em := PyData.int) (x := (1 : Int)) rfl) (t_bi1 (h_lenT (e := PyData.int)) (t_var (em := (eT PyData.int)) (x := value_0) rfl)) (t_glb (em := PyData.int) (x := (9 : Int)) rfl))) (t_one (t_not (t_bi1 h_all (t_comp (ec := PyData.bool) (st := fun item_1 => (g_is_whole (PyData.int item_1)).bind fun d_2 => .ret (some d_2)) (wk_T (e := PyData.int)) (t_var (em := (eT PyData.int)) (x := value_0) rfl) (fun item_1 => k_step rfl t_yes (t_call1 (w_is_whole (fuel := fuel) (D := D) (by omega)) (t_as (em' := eD) PyData.int (fun _ => rfl) (t_var (em := PyData.int) (x := item_1) rfl)))))))))) (s_ret (em := PyData.bool) (t_lit (em := PyData.bool) (x := false) rfl)) ((seq_nop _).trans (s_ret (em := PyData.bool) (t_cm (h_eq (fl_L fl_int) (fl_L fl_int) (by decide) (by decide) (eq_L eq_int)) (t_bi1 (h_sortedT (e := PyData.int) lt_int srt_int) (t_var (em := (eT PyData.int)) (x := value_0) rfl)) (t_rngl2 (t_lit (em := PyData.int) (x := (1 : Int)) rfl) (t_op h_addI (t_bi1 (h_lenT (e := PyData.int)) (t_var (em := (eT PyData.int)) (x := value_0) rfl)) (t_lit (em := PyData.int) (x := (1 : Int)) rfl)))))))) rfl
def g_one_then (first_0 : List (Int)) (second_0 : List (Int)) : Tr (List (Int)) :=
  (grd (lenOk first_0) (compT (fun place_1 => (ixT second_0 (place_1 - (1 : Int))).bind fun d_2 => .ret (some d_2)) first_0)).bind fun z_3 => Tr.ret z_3
theorem w_one_then {fuel D : Nat} (h : 1 ≤ D) (first_0 : List (Int)) (second_0 : List (Int)) : run tabT fuel D 12 false [(eT PyData.int) first_0, (eT PyData.int) second_0] = mapT (eT PyData.int) (g_one_then first_0 second_0) :=
  match D, h with
  | D + 1, h => by_ (fn_E (em := (eT PyData.int)) (env := [.v ((eT PyData.int) first_0), .v ((eT PyData.int) second_0), .no]) (f := f_one_then) rfl rfl rfl rfl (s_ret (em := (eT PyData.int)) (t_bi1 (h_tupleL (e := PyData.int)) (t_comp (ec := PyData.int) (st := fun place_1 => (ixT second_0 (place_1 - (1 : Int))).bind fun d_2 => .ret (some d_2)) (wk_T (e := PyData.int)) (t_var (em := (eT PyData.int)) (x := first_0) rfl) (fun place_1 => k_step rfl t_yes (t_ix (h_ixT (e := PyData.int)) (t_var (em := (eT PyData.int)) (x := second_0) rfl) (t_op h_subI (t_var (em := PyData.int) (x := place_1) rfl) (t_lit (em := PyData.int) (x := (1 : Int)) rfl)))))))) rfl
def g_turned_back (order_0 : List (Int)) : Tr (List (Int)) :=
  ((rng2T (1 : Int) ((Int.ofNat (order_0).length) + (1 : Int))).bind fun z_4 => grd (lenOk z_4) (compT (fun number_1 => ((Tr.ofO ((indexY ieqB number_1 order_0 0).map Int.ofNat)).bind fun z_2 => Tr.ret (z_2 + (1 : Int))).bind fun d_3 => .ret (some d_3)) z_4)).bind fun z_5 => Tr.ret z_5
theorem w_turned_back {fuel D : Nat} (h : 1 ≤ D) (order_0 : List (Int)) : run tabT fuel D 13 false [(eT PyData.int) order_0] = mapT (eT PyData.int) (g_turned_back order_0) :=
  match D, h with
  | D + 1, h => by_ (fn_E (em := (eT PyData.int)) (env := [.v ((eT PyData.int) order_0), .no]) (f := f_turned_back) rfl rfl rfl rfl (s_ret (em := (eT PyData.int)) (t_bi1 (h_tupleL (e := PyData.int)) (t_comp (ec := PyData.int) (st := fun number_1 => ((Tr.ofO ((indexY ieqB number_1 order_0 0).map Int.ofNat)).bind fun z_2 => Tr.ret (z_2 + (1 : Int))).bind fun d_3 => .ret (some d_3)) (wk_L (e := PyData.int)) (t_rng2 (t_lit (em := PyData.int) (x := (1 : Int)) rfl) (t_op h_addI (t_bi1 (h_lenT (e := PyData.int)) (t_var (em := (eT PyData.int)) (x := order_0) rfl)) (t_lit (em := PyData.int) (x := (1 : Int)) rfl))) (fun number_1 => k_step rfl t_yes (t_op h_addI (t_me1 (fun _ => rfl) (h_indexT fl_int fl_int (by decide) (by decide) eq_int) (t_var (em := (eT PyData.int)) (x := order_0) rfl) (t_var (em := PyData.int) (x := number_1) rfl)) (t_lit (em := PyData.int) (x := (1 : Int)) rfl))))))) rfl
def g_cycles_of_1 (order_0 : List (Int)) (s_6 : (List ((Int) × (Bool))) × (List (Int)) × Int) : Tr ((List ((Int) × (Bool))) × (List (Int)) × Int) :=
  (dputT ieqB s_6.2.2 true s_6.1).bind fun known_7 => (appT s_6.2.1 [s_6.2.2]).bind fun ring_8 => (ixT order_0 (s_6.2.2 - (1 : Int))).bind fun number_9 => Tr.ret (known_7, ring_8, number_9)
def g_cycles_of_2 (fuel : Nat) (order_0 : List (Int)) (s_2 : (List (List (Int))) × (List ((Int) × (Bool)))) (first_3 : Int) : Tr ((List (List (Int))) × (List ((Int) × (Bool)))) :=
  (Tr.ret ([] : List (Int))).bind fun ring_4 => (Tr.ret first_3).bind fun number_5 => (whileT (fun (s_6 : (List ((Int) × (Bool))) × (List (Int)) × Int) => Tr.ret (!(lookY ieqB s_6.2.2 s_6.1).isSome)) (g_cycles_of_1 order_0) fuel (s_2.2, ring_4, number_5)).bind fun s_10 => cond (iltB (0 : Int) (Int.ofNat (s_10.2.1).length)) ((pushT s_2.1 s_10.2.1).bind fun found_11 => Tr.ret (found_11, s_10.1)) (Tr.ret (s_2.1, s_10.1))
def g_cycles_of (fuel : Nat) (order_0 : List (Int)) : Tr (List (List (Int))) :=
  (Tr.ret ([] : List (List (Int)))).bind fun found_1 => ((rng2T (1 : Int) ((Int.ofNat (order_0).length) + (1 : Int))).bind fun z_13 => foldT (g_cycles_of_2 fuel order_0) z_13 (found_1, ([] : List ((Int) × (Bool))))).bind fun s_12 => Tr.ret s_12.1
theorem w_cycles_of {fuel D : Nat} (h : 1 ≤ D) (order_0 : List (Int)) : run tabT fuel D 14 false [(eT PyData.int) order_0] = mapT (eL (eT PyData.int)) (g_cycles_of fuel order_0) :=
  match D, h with
  | D + 1, h => by_ (fn_E (em := (eL (eT PyData.int))) (env := [.v ((eT PyData.int) order_0), .no, .no, .no, .no, .no]) (f := f_cycles_of) rfl rfl rfl rfl (s_own (t_lst0 (ec := (eL (eT PyData.int))) ([] : List (List (Int))) (rfl) ) fun found_1 => (s_dnew (ea := PyData.int) (eb := PyData.bool) (s_forN (E := (fun (s_2 : (List (List (Int))) × (List ((Int) × (Bool)))) => [.v ((eT PyData.int) order_0), .o ((eL (eT PyData.int)) s_2.1), .o ((eM PyData.int PyData.bool) s_2.2), .no, .no, .no])) (s0 := (found_1, ([] : List ((Int) × (Bool))))) (wk_L (e := PyData.int)) (t_rng2 (t_lit (em := PyData.int) (x := (1 : Int)) rfl) (t_op h_addI (t_bi1 (h_lenT (e := PyData.int)) (t_var (em := (eT PyData.int)) (x := order_0) rfl)) (t_lit (em := PyData.int) (x := (1 : Int)) rfl))) rfl (fun s_2 first_3 => ⟨_, rfl, (s_set (t_tup0 (ec := (eT PyData.int)) ([] : List (Int)) (rfl) ) fun ring_4 => (s_set (t_var (em := PyData.int) (x := first_3) rfl) fun number_5 => (s_wipe (s_whlN (E := (fun (s_6 : (List ((Int) × (Bool))) × (List (Int)) × Int) => [.v ((eT PyData.int) order_0), .o ((eL (eT PyData.int)) s_2.1), .o ((eM PyData.int PyData.bool) s_6.1), .no, .v ((eT PyData.int) s_6.2.1), .v (PyData.int s_6.2.2)])) (s0 := (s_2.2, ring_4, number_5)) rfl (fun s_6 => (t_cm (h_nmemM (eb := PyData.bool) key_int eq_int) (t_var (em := PyData.int) (x := s_6.2.2) rfl) (t_rdO (em := (eM PyData.int PyData.bool)) (x := s_6.1) rfl))) (fun s_6 => (s_setiM (eb := PyData.bool) (xs := s_6.1) key_int eq_int rfl (t_var (em := PyData.int) (x := s_6.2.2) rfl) (t_lit (em := PyData.bool) (x := true) rfl) fun known_7 => (s_aug (ei := (eT PyData.int)) (x := s_6.2.1) rfl (a_addT (e := PyData.int)) (t_tup1 (ec := (eT PyData.int)) (fun a0 => [a0]) (fun _ => rfl) (t_var (em := PyData.int) (x := s_6.2.2) rfl)) fun ring_8 => (s_set (t_ix (h_ixT (e := PyData.int)) (t_var (em := (eT PyData.int)) (x := order_0) rfl) (t_op h_subI (t_var (em := PyData.int) (x := s_6.2.2) rfl) (t_lit (em := PyData.int) (x := (1 : Int)) rfl))) fun number_9 => (s_nop (E := (fun (s_6 : (List ((Int) × (Bool))) × (List (Int)) × Int) => [.v ((eT PyData.int) order_0), .o ((eL (eT PyData.int)) s_2.1), .o ((eM PyData.int PyData.bool) s_6.1), .no, .v ((eT PyData.int) s_6.2.1), .v (PyData.int s_6.2.2)])) (s := (known_7, ring_8, number_9)) rfl))))) fun s_10 => (s_ifLast (t_cm h_gt (t_bi1 (h_lenT (e := PyData.int)) (t_var (em := (eT PyData.int)) (x := s_10.2.1) rfl)) (t_lit (em := PyData.int) (x := (0 : Int)) rfl)) (s_app (em := (eT PyData.int)) (xs := s_2.1) rfl (t_var (em := (eT PyData.int)) (x := s_10.2.1) rfl) fun found_11 => (s_wipe (s_nop (E := (fun (s_2 : (List (List (Int))) × (List ((Int) × (Bool)))) => [.v ((eT PyData.int) order_0), .o ((eL (eT PyData.int)) s_2.1), .o ((eM PyData.int PyData.bool) s_2.2), .no, .no, .no])) (s := (found_11, s_10.1)) rfl))) (s_wipe (s_nop (E := (fun (s_2 : (List (List (Int))) × (List ((Int) × (Bool)))) => [.v ((eT PyData.int) order_0), .o ((eL (eT PyData.int)) s_2.1), .o ((eM PyData.int PyData.bool) s_2.2), .no, .no, .no])) (s := (s_2.1, s_10.1)) rfl)))))))⟩) fun s_12 => (s_retO (em := (eT PyData.int)) (xs := s_12.1) rfl))))) rfl
def g_type_of (fuel : Nat) (order_0 : List (Int)) : Tr (List (Int)) :=
  (((g_cycles_of fuel order_0).bind fun z_2 => grd (lenOk z_2) (.ret (z_2.map fun ring_1 => (Int.ofNat (ring_1).length)))).bind fun z_3 => grd (lenOk z_3) (.ret (sortRY iltB z_3))).bind fun z_4 => Tr.ret z_4
theorem w_type_of {fuel D : Nat} (h : 2 ≤ D) (order_0 : List (Int)) : run tabT fuel D 15 false [(eT PyData.int) order_0] = mapT (eT PyData.int) (g_type_of fuel order_0) :=
  match D, h with
  | D + 1, h => by_ (fn_E (em := (eT PyData.int)) (env := [.v ((eT PyData.int) order_0), .no]) (f := f_type_of) rfl rfl rfl rfl (s_ret (em := (eT PyData.int)) (t_bi1 (h_tupleL (e := PyData.int)) (t_bi1 (h_sortedRL (e := PyData.int) lt_int srt_int) (t_compM (ec := PyData.int) (f := fun ring_1 => (Int.ofNat (ring_1).length)) (wk_L (e := (eT PyData.int))) (t_call1 (w_cycles_of (fuel := fuel) (D := D) (by omega)) (t_var (em := (eT PyData.int)) (x := order_0) rfl)) (fun ring_1 => k_step rfl t_yes (t_bi1 (h_lenT (e := PyData.int)) (t_var (em := (eT PyData.int)) (x := ring_1) rfl)))))))) rfl
def g_round_length_1 (s_6 : Int × Int) : Tr (Int × Int) :=
  (Tr.ret s_6.2).bind fun one_7 => (modT s_6.1 s_6.2).bind fun two_8 => Tr.ret (one_7, two_8)
def g_round_length_2 (fuel : Nat) (s_2 : Int) (ring_3 : List (Int)) : Tr Int :=
  (Tr.ret s_2).bind fun one_4 => (Tr.ret (Int.ofNat (ring_3).length)).bind fun two_5 => (whileT (fun (s_6 : Int × Int) => Tr.ret (iltB (0 : Int) s_6.2)) g_round_length_1 fuel (one_4, two_5)).bind fun s_9 => ((mulT s_2 (Int.ofNat (ring_3).length)).bind fun z_10 => fdivT z_10 s_9.1).bind fun found_11 => Tr.ret found_11
def g_round_length (fuel : Nat) (order_0 : List (Int)) : Tr Int :=
  (Tr.ret (1 : Int)).bind fun found_1 => ((g_cycles_of fuel order_0).bind fun z_13 => foldT (g_round_length_2 fuel) z_13 found_1).bind fun s_12 => Tr.ret s_12
theorem w_round_length {fuel D : Nat} (h : 2 ≤ D) (order_0 : List (Int)) : run tabT fuel D 16 false [(eT PyData.int) order_0] = mapT PyData.int (g_round_length fuel order_0) :=
  match D, h with
  | D + 1, h => by_ (fn_E (em := PyData.int) (env := [.v ((eT PyData.int) order_0), .no, .no, .no, .no]) (f := f_round_length) rfl rfl rfl rfl (s_set (t_lit (em := PyData.int) (x := (1 : Int)) rfl) fun found_1 => (s_forN (E := (fun (s_2 : Int) => [.v ((eT PyData.int) order_0), .v (PyData.int s_2), .no, .no, .no])) (s0 := found_1) (wk_L (e := (eT PyData.int))) (t_call1 (w_cycles_of (fuel := fuel) (D := D) (by omega)) (t_var (em := (eT PyData.int)) (x := order_0) rfl)) rfl (fun s_2 ring_3 => ⟨_, rfl, (s_par (t_var (em := PyData.int) (x := s_2) rfl) (t_bi1 (h_lenT (e := PyData.int)) (t_var (em := (eT PyData.int)) (x := ring_3) rfl)) fun one_4 two_5 => (s_whlN (E := (fun (s_6 : Int × Int) => [.v ((eT PyData.int) order_0), .v (PyData.int s_2), .v ((eT PyData.int) ring_3), .v (PyData.int s_6.1), .v (PyData.int s_6.2)])) (s0 := (one_4, two_5)) rfl (fun s_6 => (t_cm h_gt (t_var (em := PyData.int) (x := s_6.2) rfl) (t_lit (em := PyData.int) (x := (0 : Int)) rfl))) (fun s_6 => (s_par (t_var (em := PyData.int) (x := s_6.2) rfl) (t_op h_modI (t_var (em := PyData.int) (x := s_6.1) rfl) (t_var (em := PyData.int) (x := s_6.2) rfl)) fun one_7 two_8 => (s_nop (E := (fun (s_6 : Int × Int) => [.v ((eT PyData.int) order_0), .v (PyData.int s_2), .v ((eT PyData.int) ring_3), .v (PyData.int s_6.1), .v (PyData.int s_6.2)])) (s := (one_7, two_8)) rfl))) fun s_9 => (s_set (t_op h_fdivI (t_op h_mulI (t_var (em := PyData.int) (x := s_2) rfl) (t_bi1 (h_lenT (e := PyData.int)) (t_var (em := (eT PyData.int)) (x := ring_3) rfl))) (t_var (em := PyData.int) (x := s_9.1) rfl)) fun found_11 => (s_wipe (s_nop (E := (fun (s_2 : Int) => [.v ((eT PyData.int) order_0), .v (PyData.int s_2), .no, .no, .no])) (s := found_11) rfl)))))⟩) fun s_12 => (s_ret (em := PyData.int) (t_var (em := PyData.int) (x := s_12) rfl))))) rfl
def g__law_same : Nat → PyData → PyData → Tr Bool
  | 0, _, _ => .fail
  | D + 1, actual_0, due_0 =>
  cond ((bT (eD due_0)) || (bL (eD due_0))) ((cond (!(fun a b => cond a b (!b)) (bT (eD due_0)) (bT (eD actual_0))) (Tr.ret true) (cond (!(fun a b => cond a b (!b)) (bL (eD due_0)) (bL (eD actual_0))) (Tr.ret true) ((lenX actual_0).bind fun z_1 => (lenX due_0).bind fun z_2 => Tr.ret (!ieqB z_1 z_2)))).bind fun z_13 => cond z_13 (Tr.ret false) (((((lenX due_0).bind fun z_3 => rng1T z_3).bind fun z_10 => grd (lenOk z_10) (compT (fun k_4 => (((ixX (eD actual_0) (PyData.int k_4)).bind fun z_5 => (ixX (eD due_0) (PyData.int k_4)).bind fun z_6 => (g__law_same D) z_5 z_6).bind fun z_7 => Tr.ret (!z_7)).bind fun z_9 => cond z_9 (Tr.ret (some k_4)) (Tr.ret none)) z_10)).bind fun z_11 => Tr.ret (Int.ofNat (z_11).length)).bind fun z_12 => Tr.ret (ieqB z_12 (0 : Int)))) (cond (isNoneD (eD due_0)) (Tr.ret (isNoneD (eD actual_0))) (cond ((bB (eD due_0)) || (bB (eD actual_0))) (cond (bB (eD due_0)) (cond (bB (eD actual_0)) (cmX .eq (eD actual_0) (eD due_0)) (Tr.ret false)) (Tr.ret false)) (cond (bI (eD due_0)) (cond (bI (eD actual_0)) (cmX .eq (eD actual_0) (eD due_0)) (Tr.ret false)) (cond (bS (eD actual_0)) (cmX .eq (eD actual_0) (eD due_0)) (Tr.ret false)))))
theorem w__law_same {fuel : Nat} : ∀ (D : Nat) (actual_0 : PyData) (due_0 : PyData), run tabT fuel D 17 false [eD actual_0, eD due_0] = mapT PyData.bool (g__law_same D actual_0 due_0)
  | 0, _, _ => rfl
  | D + 1, actual_0, due_0 => by_ (fn_E (em := PyData.bool) (env := [.v (eD actual_0), .v (eD due_0), .no]) (f := f__law_same) rfl rfl rfl rfl (s_ifRet (t_orP (t_bi1 (h_isTup (e := eD)) (t_var (em := eD) (x := due_0) rfl)) (t_one (t_bi1 (h_isList (e := eD)) (t_var (em := eD) (x := due_0) rfl)))) (s_ifRet (t_or (t_cm (h_ne fl_bool fl_bool (by decide) (by decide) eq_bool) (t_bi1 (h_isTup (e := eD)) (t_var (em := eD) (x := due_0) rfl)) (t_bi1 (h_isTup (e := eD)) (t_var (em := eD) (x := actual_0) rfl))) (t_or (t_cm (h_ne fl_bool fl_bool (by decide) (by decide) eq_bool) (t_bi1 (h_isList (e := eD)) (t_var (em := eD) (x := due_0) rfl)) (t_bi1 (h_isList (e := eD)) (t_var (em := eD) (x := actual_0) rfl))) (t_one (t_cm (h_ne fl_int fl_int (by decide) (by decide) eq_int) (t_bi1 h_lenD (t_var (em := eD) (x := actual_0) rfl)) (t_bi1 h_lenD (t_var (em := eD) (x := due_0) rfl)))))) (s_ret (em := PyData.bool) (t_lit (em := PyData.bool) (x := false) rfl)) ((seq_nop _).trans (s_ret (em := PyData.bool) (t_cm (h_eq fl_int fl_int (by decide) (by decide) eq_int) (t_bi1 (h_lenL (e := PyData.int)) (t_comp (ec := PyData.int) (st := fun k_4 => (((ixX (eD actual_0) (PyData.int k_4)).bind fun z_5 => (ixX (eD due_0) (PyData.int k_4)).bind fun z_6 => (g__law_same D) z_5 z_6).bind fun z_7 => Tr.ret (!z_7)).bind fun z_9 => cond z_9 (Tr.ret (some k_4)) (Tr.ret none)) (wk_L (e := PyData.int)) (t_rng1 (t_bi1 h_lenD (t_var (em := eD) (x := due_0) rfl))) (fun k_4 => k_step rfl (t_not (t_call2 (w__law_same (fuel := fuel) D) (t_ix (h_ixD (ea := eD) (eb := PyData.int)) (t_var (em := eD) (x := actual_0) rfl) (t_var (em := PyData.int) (x := k_4) rfl)) (t_ix (h_ixD (ea := eD) (eb := PyData.int)) (t_var (em := eD) (x := due_0) rfl) (t_var (em := PyData.int) (x := k_4) rfl)))) (t_var (em := PyData.int) (x := k_4) rfl)))) (t_lit (em := PyData.int) (x := (0 : Int)) rfl))))) ((seq_nop _).trans (s_ifRet (t_isN (t_var (em := eD) (x := due_0) rfl)) (s_ret (em := PyData.bool) (t_isN (t_var (em := eD) (x := actual_0) rfl))) ((seq_nop _).trans (s_ifRet (t_orP (t_bi1 (h_isBool (e := eD)) (t_var (em := eD) (x := due_0) rfl)) (t_one (t_bi1 (h_isBool (e := eD)) (t_var (em := eD) (x := actual_0) rfl)))) (s_ret (em := PyData.bool) (t_and (t_bi1 (h_isBool (e := eD)) (t_var (em := eD) (x := due_0) rfl)) (t_and (t_bi1 (h_isBool (e := eD)) (t_var (em := eD) (x := actual_0) rfl)) (t_one (t_cm (h_cmD (c := .eq) (ea := eD) (eb := eD)) (t_var (em := eD) (x := actual_0) rfl) (t_var (em := eD) (x := due_0) rfl)))))) ((seq_nop _).trans (s_ifRet (t_bi1 (h_isInt (e := eD)) (t_var (em := eD) (x := due_0) rfl)) (s_ret (em := PyData.bool) (t_and (t_bi1 (h_isInt (e := eD)) (t_var (em := eD) (x := actual_0) rfl)) (t_one (t_cm (h_cmD (c := .eq) (ea := eD) (eb := eD)) (t_var (em := eD) (x := actual_0) rfl) (t_var (em := eD) (x := due_0) rfl))))) ((seq_nop _).trans (s_ret (em := PyData.bool) (t_and (t_bi1 (h_isStr (e := eD)) (t_var (em := eD) (x := actual_0) rfl)) (t_one (t_cm (h_cmD (c := .eq) (ea := eD) (eb := eD)) (t_var (em := eD) (x := actual_0) rfl) (t_var (em := eD) (x := due_0) rfl)))))))))))))) rfl
def g__law_shuffled_1 (s_3 : (List (Int)) × (List (Int))) : Tr ((List (Int)) × (List (Int))) :=
  (drawT (Int.ofNat (s_3.1).length)).bind fun at_4 => (ixT s_3.1 at_4).bind fun z_7 => (pushT s_3.2 z_7).bind fun found_5 => (appT (cut s_3.1 none (some at_4)) (cut s_3.1 (some (at_4 + (1 : Int))) none)).bind fun left_6 => Tr.ret (left_6, found_5)
def g__law_shuffled (fuel : Nat) (items_0 : List (Int)) : Tr (List (Int)) :=
  (Tr.ret items_0).bind fun left_1 => (Tr.ret ([] : List (Int))).bind fun found_2 => (whileT (fun (s_3 : (List (Int)) × (List (Int))) => Tr.ret (iltB (0 : Int) (Int.ofNat (s_3.1).length))) g__law_shuffled_1 fuel (left_1, found_2)).bind fun s_8 => Tr.ret s_8.2
theorem w__law_shuffled {fuel D : Nat} (h : 1 ≤ D) (items_0 : List (Int)) : run tabT fuel D 18 true [(eT PyData.int) items_0] = mapT (eT PyData.int) (g__law_shuffled fuel items_0) :=
  match D, h with
  | D + 1, h => by_ (fn_E (em := (eT PyData.int)) (env := [.pool, .v ((eT PyData.int) items_0), .no, .no, .no]) (f := f__law_shuffled) rfl rfl rfl rfl (s_set (t_bi1 (h_listT (e := PyData.int)) (t_var (em := (eT PyData.int)) (x := items_0) rfl)) fun left_1 => (s_own (t_lst0 (ec := (eL PyData.int)) ([] : List (Int)) (rfl) ) fun found_2 => (s_wipe (s_whlN (E := (fun (s_3 : (List (Int)) × (List (Int))) => [.pool, .no, .v ((eL PyData.int) s_3.1), .o ((eL PyData.int) s_3.2), .no])) (s0 := (left_1, found_2)) rfl (fun s_3 => (t_cm h_gt (t_bi1 (h_lenL (e := PyData.int)) (t_var (em := (eL PyData.int)) (x := s_3.1) rfl)) (t_lit (em := PyData.int) (x := (0 : Int)) rfl))) (fun s_3 => (s_set (t_draw rfl (t_bi1 (h_lenL (e := PyData.int)) (t_var (em := (eL PyData.int)) (x := s_3.1) rfl))) fun at_4 => (s_app (em := PyData.int) (xs := s_3.2) rfl (t_ix (h_ixL (e := PyData.int)) (t_var (em := (eL PyData.int)) (x := s_3.1) rfl) (t_var (em := PyData.int) (x := at_4) rfl)) fun found_5 => (s_set (t_op (h_addL (e := PyData.int)) (t_sl (h_slL (e := PyData.int)) (t_var (em := (eL PyData.int)) (x := s_3.1) rfl) t_no (t_some (t_var (em := PyData.int) (x := at_4) rfl))) (t_sl (h_slL (e := PyData.int)) (t_var (em := (eL PyData.int)) (x := s_3.1) rfl) (t_some (t_op h_addI (t_var (em := PyData.int) (x := at_4) rfl) (t_lit (em := PyData.int) (x := (1 : Int)) rfl))) t_no)) fun left_6 => (s_wipe (s_nop (E := (fun (s_3 : (List (Int)) × (List (Int))) => [.pool, .no, .v ((eL PyData.int) s_3.1), .o ((eL PyData.int) s_3.2), .no])) (s := (left_6, found_5)) rfl)))))) fun s_8 => (s_ret (em := (eT PyData.int)) (t_bi1 (h_tupleL (e := PyData.int)) (t_rdO (em := (eL PyData.int)) (x := s_8.2) rfl)))))))) rfl
def g__law_perm (fuel : Nat) (n_0 : Int) : Tr (List (Int)) :=
  (rng2T (1 : Int) (n_0 + (1 : Int))).bind fun z_1 => g__law_shuffled fuel z_1
theorem w__law_perm {fuel D : Nat} (h : 2 ≤ D) (n_0 : Int) : run tabT fuel D 19 true [PyData.int n_0] = mapT (eT PyData.int) (g__law_perm fuel n_0) :=
  match D, h with
  | D + 1, h => by_ (fn_E (em := (eT PyData.int)) (env := [.pool, .v (PyData.int n_0)]) (f := f__law_perm) rfl rfl rfl rfl (s_ret (em := (eT PyData.int)) (t_callp1 rfl (w__law_shuffled (fuel := fuel) (D := D) (by omega)) (t_rngt2 (t_lit (em := PyData.int) (x := (1 : Int)) rfl) (t_op h_addI (t_var (em := PyData.int) (x := n_0) rfl) (t_lit (em := PyData.int) (x := (1 : Int)) rfl)))))) rfl
def g__law_pairs_of_1 (n_0 : Int) (s_2 : (List ((Int) × (Int)))) (i_3 : Int) : Tr (List ((Int) × (Int))) :=
  (((rng2T (i_3 + (1 : Int)) n_0).bind fun z_5 => grd (lenOk z_5) (.ret (z_5.map fun j_4 => (i_3, j_4)))).bind fun z_6 => appT s_2 z_6).bind fun found_7 => Tr.ret found_7
def g__law_pairs_of (n_0 : Int) : Tr (List ((Int) × (Int))) :=
  (Tr.ret ([] : List ((Int) × (Int)))).bind fun found_1 => ((rng1T n_0).bind fun z_9 => foldT (g__law_pairs_of_1 n_0) z_9 found_1).bind fun s_8 => Tr.ret s_8
theorem w__law_pairs_of {fuel D : Nat} (h : 1 ≤ D) (n_0 : Int) : run tabT fuel D 20 false [PyData.int n_0] = mapT (eL (eP PyData.int PyData.int)) (g__law_pairs_of n_0) :=
  match D, h with
  | D + 1, h => by_ (fn_E (em := (eL (eP PyData.int PyData.int))) (env := [.v (PyData.int n_0), .no, .no, .no]) (f := f__law_pairs_of) rfl rfl rfl rfl (s_set (t_lst0 (ec := (eL (eP PyData.int PyData.int))) ([] : List ((Int) × (Int))) (rfl) ) fun found_1 => (s_forN (E := (fun (s_2 : (List ((Int) × (Int)))) => [.v (PyData.int n_0), .v ((eL (eP PyData.int PyData.int)) s_2), .no, .no])) (s0 := found_1) (wk_L (e := PyData.int)) (t_rng1 (t_var (em := PyData.int) (x := n_0) rfl)) rfl (fun s_2 i_3 => ⟨_, rfl, (s_set (t_op (h_addL (e := (eP PyData.int PyData.int))) (t_var (em := (eL (eP PyData.int PyData.int))) (x := s_2) rfl) (t_compM (ec := (eP PyData.int PyData.int)) (f := fun j_4 => (i_3, j_4)) (wk_L (e := PyData.int)) (t_rng2 (t_op h_addI (t_var (em := PyData.int) (x := i_3) rfl) (t_lit (em := PyData.int) (x := (1 : Int)) rfl)) (t_var (em := PyData.int) (x := n_0) rfl)) (fun j_4 => k_step rfl t_yes (t_tup2 (ec := (eP PyData.int PyData.int)) (fun a0 a1 => (a0, a1)) (fun _ _ => rfl) (t_var (em := PyData.int) (x := i_3) rfl) (t_var (em := PyData.int) (x := j_4) rfl))))) fun found_7 => (s_wipe (s_nop (E := (fun (s_2 : (List ((Int) × (Int)))) => [.v (PyData.int n_0), .v ((eL (eP PyData.int PyData.int)) s_2), .no, .no])) (s := found_7) rfl)))⟩) fun s_8 => (s_ret (em := (eL (eP PyData.int PyData.int))) (t_var (em := (eL (eP PyData.int PyData.int))) (x := s_8) rfl))))) rfl
def g_law_1 (s_24 : (List (Int))) (p_25 : (Int) × (Int)) : Tr (List (Int)) :=
  (putT s_24 (p_25.1 - (1 : Int)) p_25.2).bind fun meets_26 => (putT meets_26 (p_25.2 - (1 : Int)) p_25.1).bind fun meets_27 => Tr.ret meets_27
def g_law_2 (n_3 : Int) (s_21 : (List (List (Int)))) (games_22 : List ((Int) × (Int))) : Tr (List (List (Int))) :=
  (repLT [(0 : Int)] n_3).bind fun meets_23 => (foldT g_law_1 games_22 meets_23).bind fun s_28 => (pushT s_21 s_28).bind fun rows_29 => Tr.ret rows_29
def g_law_3 (fuel : Nat) (n_3 : Int) (s_31 : Unit) (row_32 : List (Int)) : Tr (Fl Unit Bool) :=
  (((g_is_order row_32).bind fun z_33 => Tr.ret (!z_33)).bind fun z_39 => cond z_39 (Tr.ret true) (((g_turned_back row_32).bind fun z_34 => Tr.ret (!(eqL ieqB) z_34 row_32)).bind fun z_38 => cond z_38 (Tr.ret true) ((g_type_of fuel row_32).bind fun z_36 => ((fdivT n_3 (2 : Int)).bind fun z_35 => repTT [(2 : Int)] z_35).bind fun z_37 => Tr.ret (!(eqL ieqB) z_36 z_37)))).bind fun z_41 => cond z_41 (Tr.ret (.rt false)) (Tr.ret (.nx ()))
def g_law_4 (fuel : Nat) (n_3 : Int) (s_30 : (List (List (Int)))) (s_43 : Unit) (p_44 : (Int) × (Int)) : Tr (Fl Unit Bool) :=
  (((ixT s_30 p_44.1).bind fun z_45 => (ixT s_30 p_44.2).bind fun z_46 => g_one_then z_45 z_46).bind fun z_47 => g_type_of fuel z_47).bind fun kind_48 => ((((grd (lenOk kind_48) (compT (fun length_49 => ((modT (Int.ofNat (countY ieqB length_49 kind_48)) (2 : Int)).bind fun z_50 => Tr.ret (ieqB z_50 (1 : Int))).bind fun z_52 => cond z_52 (Tr.ret (some length_49)) (Tr.ret none)) kind_48)).bind fun z_53 => Tr.ret (Int.ofNat (z_53).length)).bind fun z_54 => Tr.ret (iltB (0 : Int) z_54)).bind fun z_55 => cond z_55 (Tr.ret true) (Tr.ret (memY ieqB (1 : Int) kind_48))).bind fun z_64 => cond z_64 (Tr.ret (.rt false)) (((((ixT s_30 p_44.1).bind fun z_56 => (ixT s_30 p_44.2).bind fun z_57 => g_one_then z_56 z_57).bind fun z_58 => g_round_length fuel z_58).bind fun z_59 => (fdivT n_3 (2 : Int)).bind fun z_60 => Tr.ret (iltB z_60 z_59)).bind fun z_62 => cond z_62 (Tr.ret (.rt false)) (Tr.ret (.nx ())))
def g_law_5 (plan_8 : List (List ((Int) × (Int)))) (s_30 : (List (List (Int)))) (s_66 : Unit) (p_67 : (Int) × (Int)) : Tr (Fl Unit Bool) :=
  (g_round_of_pair plan_8 (p_67.1 + (1 : Int)) (p_67.2 + (1 : Int))).bind fun r_68 => (((ixT s_30 r_68).bind fun z_69 => ixT z_69 p_67.1).bind fun z_70 => Tr.ret (!ieqB z_70 (p_67.2 + (1 : Int)))).bind fun z_72 => cond z_72 (Tr.ret (.rt false)) (Tr.ret (.nx ()))
def g_law (fuel : Nat) (D : Nat) : Tr Bool :=
  (((drawT (4 : Int)).bind fun z_1 => Tr.ret ((1 : Int) + z_1)).bind fun z_2 => mulT (2 : Int) z_2).bind fun n_3 => (g__law_perm fuel n_3).bind fun names_4 => (g__law_perm fuel (n_3 - (1 : Int))).bind fun order_5 => (((g_ring_plan n_3).bind fun z_6 => g_renamed_plan n_3 z_6 names_4).bind fun z_7 => g_swapped_rounds z_7 order_5).bind fun plan_8 => ((((g_is_plan n_3 plan_8).bind fun z_9 => Tr.ret (PyData.bool z_9)).bind fun z_10 => (g__law_same D) z_10 (PyData.bool true)).bind fun z_11 => Tr.ret (!z_11)).bind fun z_77 => cond z_77 (Tr.ret false) (((((((g_turned_back order_5).bind fun z_12 => g_swapped_rounds plan_8 z_12).bind fun z_13 => (g_turned_back names_4).bind fun z_14 => g_renamed_plan n_3 z_13 z_14).bind fun z_15 => Tr.ret ((eT (eT (eP PyData.int PyData.int))) z_15)).bind fun z_17 => ((g_ring_plan n_3).bind fun z_16 => Tr.ret ((eT (eT (eP PyData.int PyData.int))) z_16)).bind fun z_18 => (g__law_same D) z_17 z_18).bind fun z_19 => Tr.ret (!z_19)).bind fun z_76 => cond z_76 (Tr.ret false) ((Tr.ret ([] : List (List (Int)))).bind fun rows_20 => (foldT (g_law_2 n_3) plan_8 rows_20).bind fun s_30 => (foldM (g_law_3 fuel n_3) s_30 ()).bind (flT fun s_42 => ((g__law_pairs_of (Int.ofNat (s_30).length)).bind fun z_75 => foldM (g_law_4 fuel n_3 s_30) z_75 ()).bind (flT fun s_65 => ((g__law_pairs_of n_3).bind fun z_74 => foldM (g_law_5 plan_8 s_30) z_74 ()).bind (flT fun s_73 => Tr.ret true)))))
theorem w_law {fuel D : Nat} (h : 4 ≤ D) : lawRun tabT fuel D f_law = mapT (outR PyData.bool) (g_law fuel D) :=
  by_ (law_E (em := PyData.bool) (env := [.no, .pool, .no, .no, .no, .no, .no, .no, .no, .no, .no, .no, .no, .no, .no]) rfl rfl (s_set (t_op h_mulI (t_lit (em := PyData.int) (x := (2 : Int)) rfl) (t_op h_addI (t_lit (em := PyData.int) (x := (1 : Int)) rfl) (t_draw rfl (t_lit (em := PyData.int) (x := (4 : Int)) rfl)))) fun n_3 => (s_set (t_callp1 rfl (w__law_perm (fuel := fuel) (D := D) (by omega)) (t_var (em := PyData.int) (x := n_3) rfl)) fun names_4 => (s_set (t_callp1 rfl (w__law_perm (fuel := fuel) (D := D) (by omega)) (t_op h_subI (t_var (em := PyData.int) (x := n_3) rfl) (t_lit (em := PyData.int) (x := (1 : Int)) rfl))) fun order_5 => (s_set (t_call2 (w_swapped_rounds (fuel := fuel) (D := D) (by omega)) (t_call3 (w_renamed_plan (fuel := fuel) (D := D) (by omega)) (t_var (em := PyData.int) (x := n_3) rfl) (t_call1 (w_ring_plan (fuel := fuel) (D := D) (by omega)) (t_var (em := PyData.int) (x := n_3) rfl)) (t_var (em := (eT PyData.int)) (x := names_4) rfl)) (t_var (em := (eT PyData.int)) (x := order_5) rfl)) fun plan_8 => (s_ifRet (t_not (t_call2 (w__law_same (fuel := fuel) D) (t_as (em' := eD) PyData.bool (fun _ => rfl) (t_call2 (w_is_plan (fuel := fuel) (D := D) (by omega)) (t_var (em := PyData.int) (x := n_3) rfl) (t_var (em := (eT (eT (eP PyData.int PyData.int)))) (x := plan_8) rfl))) (t_as (em' := eD) PyData.bool (fun _ => rfl) (t_lit (em := PyData.bool) (x := true) rfl)))) (s_ret (em := PyData.bool) (t_lit (em := PyData.bool) (x := false) rfl)) ((seq_nop _).trans (s_ifRet (t_not (t_call2 (w__law_same (fuel := fuel) D) (t_as (em' := eD) (eT (eT (eP PyData.int PyData.int))) (fun _ => rfl) (t_call3 (w_renamed_plan (fuel := fuel) (D := D) (by omega)) (t_var (em := PyData.int) (x := n_3) rfl) (t_call2 (w_swapped_rounds (fuel := fuel) (D := D) (by omega)) (t_var (em := (eT (eT (eP PyData.int PyData.int)))) (x := plan_8) rfl) (t_call1 (w_turned_back (fuel := fuel) (D := D) (by omega)) (t_var (em := (eT PyData.int)) (x := order_5) rfl))) (t_call1 (w_turned_back (fuel := fuel) (D := D) (by omega)) (t_var (em := (eT PyData.int)) (x := names_4) rfl)))) (t_as (em' := eD) (eT (eT (eP PyData.int PyData.int))) (fun _ => rfl) (t_call1 (w_ring_plan (fuel := fuel) (D := D) (by omega)) (t_var (em := PyData.int) (x := n_3) rfl))))) (s_ret (em := PyData.bool) (t_lit (em := PyData.bool) (x := false) rfl)) ((seq_nop _).trans (s_own (t_lst0 (ec := (eL (eT PyData.int))) ([] : List (List (Int))) (rfl) ) fun rows_20 => (s_wipe (s_forN (E := (fun (s_21 : (List (List (Int)))) => [.no, .pool, .v (PyData.int n_3), .no, .no, .v ((eT (eT (eP PyData.int PyData.int))) plan_8), .o ((eL (eT PyData.int)) s_21), .no, .no, .no, .no, .no, .no, .no, .no])) (s0 := rows_20) (wk_T (e := (eT (eP PyData.int PyData.int)))) (t_var (em := (eT (eT (eP PyData.int PyData.int)))) (x := plan_8) rfl) rfl (fun s_21 games_22 => ⟨_, rfl, (s_own (t_op (h_mulL (e := PyData.int)) (t_lst1 (ec := (eL PyData.int)) (fun a0 => [a0]) (fun _ => rfl) (t_lit (em := PyData.int) (x := (0 : Int)) rfl)) (t_var (em := PyData.int) (x := n_3) rfl)) fun meets_23 => (s_forN (E := (fun (s_24 : (List (Int))) => [.no, .pool, .v (PyData.int n_3), .no, .no, .v ((eT (eT (eP PyData.int PyData.int))) plan_8), .o ((eL (eT PyData.int)) s_21), .v ((eT (eP PyData.int PyData.int)) games_22), .o ((eL PyData.int) s_24), .no, .no, .no, .no, .no, .no])) (s0 := meets_23) (wk_T (e := (eP PyData.int PyData.int))) (t_var (em := (eT (eP PyData.int PyData.int))) (x := games_22) rfl) rfl (fun s_24 p_25 => ⟨_, rfl, (s_setiL (em := PyData.int) (xs := s_24) rfl (t_op h_subI (t_var (em := PyData.int) (x := p_25.1) rfl) (t_lit (em := PyData.int) (x := (1 : Int)) rfl)) (t_var (em := PyData.int) (x := p_25.2) rfl) fun meets_26 => (s_setiL (em := PyData.int) (xs := meets_26) rfl (t_op h_subI (t_var (em := PyData.int) (x := p_25.2) rfl) (t_lit (em := PyData.int) (x := (1 : Int)) rfl)) (t_var (em := PyData.int) (x := p_25.1) rfl) fun meets_27 => (s_wipe (s_nop (E := (fun (s_24 : (List (Int))) => [.no, .pool, .v (PyData.int n_3), .no, .no, .v ((eT (eT (eP PyData.int PyData.int))) plan_8), .o ((eL (eT PyData.int)) s_21), .v ((eT (eP PyData.int PyData.int)) games_22), .o ((eL PyData.int) s_24), .no, .no, .no, .no, .no, .no])) (s := meets_27) rfl))))⟩) fun s_28 => (s_app (em := (eT PyData.int)) (xs := s_21) rfl (t_bi1 (h_tupleL (e := PyData.int)) (t_rdO (em := (eL PyData.int)) (x := s_28) rfl)) fun rows_29 => (s_wipe (s_nop (E := (fun (s_21 : (List (List (Int)))) => [.no, .pool, .v (PyData.int n_3), .no, .no, .v ((eT (eT (eP PyData.int PyData.int))) plan_8), .o ((eL (eT PyData.int)) s_21), .no, .no, .no, .no, .no, .no, .no, .no])) (s := rows_29) rfl)))))⟩) fun s_30 => (s_fr1O (em := (eT PyData.int)) (xs := s_30) rfl (s_forR (E := (fun (s_31 : Unit) => [.no, .pool, .v (PyData.int n_3), .no, .no, .v ((eT (eT (eP PyData.int PyData.int))) plan_8), .v ((eL (eT PyData.int)) s_30), .no, .no, .no, .no, .no, .no, .no, .no])) (s0 := ()) (em := PyData.bool) (wk_L (e := (eT PyData.int))) (t_var (em := (eL (eT PyData.int))) (x := s_30) rfl) rfl (fun s_31 row_32 => ⟨_, rfl, (s_ifLast (t_or (t_not (t_call1 (w_is_order (fuel := fuel) (D := D) (by omega)) (t_var (em := (eT PyData.int)) (x := row_32) rfl))) (t_or (t_cm (h_ne (fl_T fl_int) (fl_T fl_int) (by decide) (by decide) (eq_T eq_int)) (t_call1 (w_turned_back (fuel := fuel) (D := D) (by omega)) (t_var (em := (eT PyData.int)) (x := row_32) rfl)) (t_var (em := (eT PyData.int)) (x := row_32) rfl)) (t_one (t_cm (h_ne (fl_T fl_int) (fl_T fl_int) (by decide) (by decide) (eq_T eq_int)) (t_call1 (w_type_of (fuel := fuel) (D := D) (by omega)) (t_var (em := (eT PyData.int)) (x := row_32) rfl)) (t_op (h_mulT (e := PyData.int)) (t_tup1 (ec := (eT PyData.int)) (fun a0 => [a0]) (fun _ => rfl) (t_lit (em := PyData.int) (x := (2 : Int)) rfl)) (t_op h_fdivI (t_var (em := PyData.int) (x := n_3) rfl) (t_lit (em := PyData.int) (x := (2 : Int)) rfl))))))) (s_toM (s_ret (em := PyData.bool) (t_lit (em := PyData.bool) (x := false) rfl))) (s_wipe (s_nopM (E := (fun (s_31 : Unit) => [.no, .pool, .v (PyData.int n_3), .no, .no, .v ((eT (eT (eP PyData.int PyData.int))) plan_8), .v ((eL (eT PyData.int)) s_30), .no, .no, .no, .no, .no, .no, .no, .no])) (e := PyData.bool) (s := ()) rfl)))⟩) fun s_42 => (s_forR (E := (fun (s_43 : Unit) => [.no, .pool, .v (PyData.int n_3), .no, .no, .v ((eT (eT (eP PyData.int PyData.int))) plan_8), .v ((eL (eT PyData.int)) s_30), .no, .no, .no, .no, .no, .no, .no, .no])) (s0 := ()) (em := PyData.bool) (wk_L (e := (eP PyData.int PyData.int))) (t_call1 (w__law_pairs_of (fuel := fuel) (D := D) (by omega)) (t_bi1 (h_lenL (e := (eT PyData.int))) (t_rdV (em := (eL (eT PyData.int))) (x := s_30) rfl))) rfl (fun s_43 p_44 => ⟨_, rfl, (s_set (t_call1 (w_type_of (fuel := fuel) (D := D) (by omega)) (t_call2 (w_one_then (fuel := fuel) (D := D) (by omega)) (t_ix (h_ixL (e := (eT PyData.int))) (t_rdV (em := (eL (eT PyData.int))) (x := s_30) rfl) (t_var (em := PyData.int) (x := p_44.1) rfl)) (t_ix (h_ixL (e := (eT PyData.int))) (t_rdV (em := (eL (eT PyData.int))) (x := s_30) rfl) (t_var (em := PyData.int) (x := p_44.2) rfl)))) fun kind_48 => (s_ifRetM (t_or (t_cm h_gt (t_bi1 (h_lenL (e := PyData.int)) (t_comp (ec := PyData.int) (st := fun length_49 => ((modT (Int.ofNat (countY ieqB length_49 kind_48)) (2 : Int)).bind fun z_50 => Tr.ret (ieqB z_50 (1 : Int))).bind fun z_52 => cond z_52 (Tr.ret (some length_49)) (Tr.ret none)) (wk_T (e := PyData.int)) (t_var (em := (eT PyData.int)) (x := kind_48) rfl) (fun length_49 => k_step rfl (t_cm (h_eq fl_int fl_int (by decide) (by decide) eq_int) (t_op h_modI (t_bi1 h_intI (t_me1 (fun _ => rfl) (h_countT fl_int fl_int (by decide) (by decide) eq_int) (t_var (em := (eT PyData.int)) (x := kind_48) rfl) (t_var (em := PyData.int) (x := length_49) rfl))) (t_lit (em := PyData.int) (x := (2 : Int)) rfl)) (t_lit (em := PyData.int) (x := (1 : Int)) rfl)) (t_var (em := PyData.int) (x := length_49) rfl)))) (t_lit (em := PyData.int) (x := (0 : Int)) rfl)) (t_one (t_cm (h_memT fl_int fl_int (by decide) (by decide) eq_int) (t_lit (em := PyData.int) (x := (1 : Int)) rfl) (t_var (em := (eT PyData.int)) (x := kind_48) rfl)))) (s_ret (em := PyData.bool) (t_lit (em := PyData.bool) (x := false) rfl)) ((seq_nop _).trans (s_ifLast (t_cm h_gt (t_call1 (w_round_length (fuel := fuel) (D := D) (by omega)) (t_call2 (w_one_then (fuel := fuel) (D := D) (by omega)) (t_ix (h_ixL (e := (eT PyData.int))) (t_rdV (em := (eL (eT PyData.int))) (x := s_30) rfl) (t_var (em := PyData.int) (x := p_44.1) rfl)) (t_ix (h_ixL (e := (eT PyData.int))) (t_rdV (em := (eL (eT PyData.int))) (x := s_30) rfl) (t_var (em := PyData.int) (x := p_44.2) rfl)))) (t_op h_fdivI (t_var (em := PyData.int) (x := n_3) rfl) (t_lit (em := PyData.int) (x := (2 : Int)) rfl))) (s_toM (s_ret (em := PyData.bool) (t_lit (em := PyData.bool) (x := false) rfl))) (s_wipe (s_nopM (E := (fun (s_43 : Unit) => [.no, .pool, .v (PyData.int n_3), .no, .no, .v ((eT (eT (eP PyData.int PyData.int))) plan_8), .v ((eL (eT PyData.int)) s_30), .no, .no, .no, .no, .no, .no, .no, .no])) (e := PyData.bool) (s := ()) rfl))))))⟩) fun s_65 => (s_forR (E := (fun (s_66 : Unit) => [.no, .pool, .v (PyData.int n_3), .no, .no, .v ((eT (eT (eP PyData.int PyData.int))) plan_8), .v ((eL (eT PyData.int)) s_30), .no, .no, .no, .no, .no, .no, .no, .no])) (s0 := ()) (em := PyData.bool) (wk_L (e := (eP PyData.int PyData.int))) (t_call1 (w__law_pairs_of (fuel := fuel) (D := D) (by omega)) (t_var (em := PyData.int) (x := n_3) rfl)) rfl (fun s_66 p_67 => ⟨_, rfl, (s_set (t_call3 (w_round_of_pair (fuel := fuel) (D := D) (by omega)) (t_var (em := (eT (eT (eP PyData.int PyData.int)))) (x := plan_8) rfl) (t_op h_addI (t_var (em := PyData.int) (x := p_67.1) rfl) (t_lit (em := PyData.int) (x := (1 : Int)) rfl)) (t_op h_addI (t_var (em := PyData.int) (x := p_67.2) rfl) (t_lit (em := PyData.int) (x := (1 : Int)) rfl))) fun r_68 => (s_ifLast (t_cm (h_ne fl_int fl_int (by decide) (by decide) eq_int) (t_ix (h_ixT (e := PyData.int)) (t_ix (h_ixL (e := (eT PyData.int))) (t_rdV (em := (eL (eT PyData.int))) (x := s_30) rfl) (t_var (em := PyData.int) (x := r_68) rfl)) (t_var (em := PyData.int) (x := p_67.1) rfl)) (t_op h_addI (t_var (em := PyData.int) (x := p_67.2) rfl) (t_lit (em := PyData.int) (x := (1 : Int)) rfl))) (s_toM (s_ret (em := PyData.bool) (t_lit (em := PyData.bool) (x := false) rfl))) (s_wipe (s_nopM (E := (fun (s_66 : Unit) => [.no, .pool, .v (PyData.int n_3), .no, .no, .v ((eT (eT (eP PyData.int PyData.int))) plan_8), .v ((eL (eT PyData.int)) s_30), .no, .no, .no, .no, .no, .no, .no, .no])) (e := PyData.bool) (s := ()) rfl))))⟩) fun s_73 => (s_ret (em := PyData.bool) (t_lit (em := PyData.bool) (x := true) rfl)))))))))))))))))) rfl
end
end Ev

/-! ThCyc97 -/
set_option maxHeartbeats 2000000
namespace Ev
open PySem L2
noncomputable section
def kn (ks : List Int) : List (Int × Bool) := ks.map fun k => (k, true)
theorem look_kn (k : Int) : ∀ ks : List Int, (lookY ieqB k (kn ks)).isSome = decide (k ∈ ks)
  | [] => rfl
  | a :: ks => by
    show (cond (ieqB a k) (some true) (lookY ieqB k (kn ks))).isSome = _
    rw [ieqB_iff]
    by_cases h : a = k
    · subst h
      rw [decide_eq_true rfl, decide_eq_true List.mem_cons_self]; rfl
    · rw [decide_eq_false h]
      show (lookY ieqB k (kn ks)).isSome = _
      rw [look_kn k ks]
      have : (k ∈ a :: ks) ↔ k ∈ ks := by
        rw [List.mem_cons]
        exact ⟨fun z => z.resolve_left fun e => h e.symm, .inr⟩
      simp only [this]
theorem put_kn {k : Int} : ∀ {ks : List Int}, k ∉ ks → putY ieqB k true (kn ks) = kn (ks ++ [k])
  | [], _ => rfl
  | a :: ks, h => by
    show cond (ieqB a k) ((a, true) :: kn ks) ((a, true) :: putY ieqB k true (kn ks)) = _
    rw [ieqB_iff, decide_eq_false (fun e => h (by rw [e]; exact List.mem_cons_self)), put_kn fun z => h (List.mem_cons_of_mem _ z)]
    rfl
theorem dput_kn {k : Int} {ks : List Int} (h : k ∉ ks) (hl : ks.length ≤ 1000) : dputT ieqB k true (kn ks) = .ret (kn (ks ++ [k])) := by
  unfold dputT
  rw [put_kn h, grd_t _ (blt_lim (by unfold kn; rw [List.length_map]; exact hl))]
section
variable {n fuel : Nat} {xs : List Int} (h : IsP n xs) (hn : n ≤ 500) (hf : n + 1 < fuel)
include h hn
theorem ring_loop {K0 : List Int} {a : Int} (ka : a ∉ K0) (k0 : ∀ y ∈ K0, 1 ≤ y ∧ y ≤ (n : Int)) (kc : ∀ y : Int, 1 ≤ y → y ≤ n → at_ xs y ∈ K0 → y ∈ K0) (a1 : 1 ≤ a) (a2 : a ≤ n) :
    ∀ (d m F : Nat), (K0 ++ orb (at_ xs) m a).Nodup → n + 1 ≤ K0.length + m + d → d < F → ∃ m', 0 < m' ∧ whileT (fun (s_6 : (List ((Int) × (Bool))) × (List (Int)) × Int) => Tr.ret (!(lookY ieqB s_6.2.2 s_6.1).isSome)) (g_cycles_of_1 xs) F (kn (K0 ++ orb (at_ xs) m a), orb (at_ xs) m a, it (at_ xs) m a) = .ret (kn (K0 ++ orb (at_ xs) m' a), orb (at_ xs) m' a, it (at_ xs) m' a) ∧ it (at_ xs) m' a = a ∧ (K0 ++ orb (at_ xs) m' a).Nodup := by
  have rng : ∀ k, 1 ≤ it (at_ xs) k a ∧ it (at_ xs) k a ≤ n := fun k => by
    induction k with
    | zero => exact ⟨a1, a2⟩
    | succ k ih => exact h.at_mem ih.1 ih.2
  intro d
  induction d with
  | zero =>
    intro m F nd hl _
    have := List.Nodup.length_le_of_subset nd (l₂ := ups 1 n) fun y hy => by
      rw [mem_ups]
      rcases List.mem_append.mp hy with z | z
      · have := k0 y z; omega
      · obtain ⟨k, _, rfl⟩ := mem_orb.mp z; have := rng k; omega
    rw [List.length_append, orb_len, ups_len] at this
    omega
  | succ d ih =>
    intro m F nd hl hF
    obtain ⟨F, rfl⟩ : ∃ G, F = G + 1 := ⟨F - 1, by omega⟩
    have hb : (K0 ++ orb (at_ xs) m a).length ≤ n := by
      have := List.Nodup.length_le_of_subset nd (l₂ := ups 1 n) fun y hy => by
        rw [mem_ups]
        rcases List.mem_append.mp hy with z | z
        · have := k0 y z; omega
        · obtain ⟨k, _, rfl⟩ := mem_orb.mp z; have := rng k; omega
      rw [ups_len] at this
      exact this
    by_cases hm : it (at_ xs) m a ∈ K0 ++ orb (at_ xs) m a
    · -- it closes
      have nd' := List.nodup_append.mp nd
      have m0 : 0 < m := by
        rcases Nat.eq_zero_or_pos m with z | z
        · subst z
          rcases List.mem_append.mp hm with q | q
          · exact absurd q ka
          · exact nomatch q
        · exact z
      have cl : it (at_ xs) m a = a := by
        obtain ⟨m, rfl⟩ : ∃ j, m = j + 1 := ⟨m - 1, by omega⟩
        have r1 := rng m
        rcases List.mem_append.mp hm with q | q
        · have := kc _ r1.1 r1.2 q
          exact absurd rfl (nd'.2.2 _ this _ (mem_orb.mpr ⟨m, by omega, rfl⟩))
        · obtain ⟨j, hj, e⟩ := mem_orb.mp q
          rcases Nat.eq_zero_or_pos j with z | z
          · subst z; exact e.symm
          · obtain ⟨j, rfl⟩ : ∃ i, j = i + 1 := ⟨j - 1, by omega⟩
            have r2 := rng j
            have := h.inj r2.1 r2.2 r1.1 r1.2 e
            have := orb_inj nd'.2.1 (by omega) (by omega) this
            omega
      refine ⟨m, m0, while_end ?_, cl, nd⟩
      show Tr.ret (!(lookY ieqB (it (at_ xs) m a) (kn (K0 ++ orb (at_ xs) m a))).isSome) = _
      rw [look_kn, decide_eq_true hm]; rfl
    · have r1 := rng m
      have nd2 : (K0 ++ orb (at_ xs) (m + 1) a).Nodup := by
        rw [orb_succ, ← List.append_assoc, List.nodup_append]
        refine ⟨nd, List.nodup_cons.mpr ⟨List.not_mem_nil, List.nodup_nil⟩, fun x hx y hy e => hm ?_⟩
        rw [← List.mem_singleton.mp hy, ← e]; exact hx
      obtain ⟨m', q1, q2, q3, q4⟩ := ih (m + 1) F nd2 (by omega) (by omega)
      refine ⟨m', q1, (while_go ?_ ?_).trans q2, q3, q4⟩
      · show Tr.ret (!(lookY ieqB (it (at_ xs) m a) (kn (K0 ++ orb (at_ xs) m a))).isSome) = _
        rw [look_kn, decide_eq_false hm]; rfl
      · unfold g_cycles_of_1
        show (dputT ieqB (it (at_ xs) m a) true (kn (K0 ++ orb (at_ xs) m a))).bind _ = _
        rw [dput_kn hm (by omega)]
        show (appT (orb (at_ xs) m a) [it (at_ xs) m a]).bind _ = _
        rw [List.length_append, orb_len] at hb
        rw [app_ok (by rw [orb_len, List.length_singleton]; omega)]
        show (ixT xs (it (at_ xs) m a - 1)).bind _ = _
        rw [h.ix r1.1 r1.2 rfl, List.append_assoc, ← orb_succ]; rfl
include hf
/-- what the outer loop keeps -/
theorem cycles_ok : ∃ rs, g_cycles_of fuel xs = .ret rs ∧ Rings n (at_ xs) rs := by
  have key := foldT_ok (st := g_cycles_of_2 fuel xs) (I := fun done rest s => s.2 = kn s.1.flatten ∧ s.1.flatten.Nodup ∧ (∀ y ∈ s.1.flatten, 1 ≤ y ∧ y ≤ (n : Int)) ∧ (∀ y : Int, 1 ≤ y → y ≤ n → at_ xs y ∈ s.1.flatten → y ∈ s.1.flatten) ∧ (∀ r ∈ s.1, Ring (at_ xs) r) ∧ (∀ x ∈ done, x ∈ s.1.flatten) ∧ ∀ x ∈ rest, 1 ≤ x ∧ x ≤ (n : Int)) (fun done x rest s ⟨i1, i2, i3, i4, i5, i6, i7⟩ => by
    obtain ⟨rs, ks⟩ := s
    have i1 : ks = kn rs.flatten := i1
    subst i1
    have x1 := i7 x List.mem_cons_self
    have rl : rs.flatten.length ≤ n := by
      have := List.Nodup.length_le_of_subset i2 (l₂ := ups 1 n) fun y hy => by rw [mem_ups]; have := i3 y hy; omega
      rw [ups_len] at this; exact this
    have rsl : rs.length ≤ rs.flatten.length := by
      have : ∀ l : List (List Int), (∀ r ∈ l, Ring (at_ xs) r) → l.length ≤ l.flatten.length := fun l hl => by
        induction l with
        | nil => exact Nat.le_refl _
        | cons r l ihl =>
          have := (hl r List.mem_cons_self).pos
          have := ihl fun r hr => hl r (List.mem_cons_of_mem _ hr)
          show l.length + 1 ≤ (r ++ l.flatten).length
          rw [List.length_append]; omega
      exact this rs i5
    by_cases hx : x ∈ rs.flatten
    · refine ⟨(rs, kn rs.flatten), ?_, rfl, i2, i3, i4, i5, fun y hy => ?_, fun y hy => i7 y (List.mem_cons_of_mem _ hy)⟩
      · show (whileT _ (g_cycles_of_1 xs) fuel (kn rs.flatten, ([] : List Int), x)).bind _ = _
        obtain ⟨F, rfl⟩ : ∃ F, fuel = F + 1 := ⟨fuel - 1, by omega⟩
        rw [while_end (by show Tr.ret (!(lookY ieqB x (kn rs.flatten)).isSome) = _; rw [look_kn, decide_eq_true hx]; rfl)]
        rfl
      · rcases List.mem_append.mp hy with z | z
        · exact i6 y z
        · rw [List.mem_singleton.mp z]; exact hx
    · obtain ⟨m, m0, q1, q2, q3⟩ := ring_loop h hn hx i3 i4 x1.1 x1.2 (n + 1 - rs.flatten.length) 0 fuel (by rw [show orb (at_ xs) 0 x = [] from rfl, List.append_nil]; exact i2) (by omega) (by omega)
      rw [show orb (at_ xs) 0 x = [] from rfl, List.append_nil] at q1
      have rng : ∀ k, 1 ≤ it (at_ xs) k x ∧ it (at_ xs) k x ≤ n := fun k => by
        induction k with
        | zero => exact x1
        | succ k ih => exact h.at_mem ih.1 ih.2
      have fl : (rs ++ [orb (at_ xs) m x]).flatten = rs.flatten ++ orb (at_ xs) m x := by
        rw [List.flatten_append]; simp
      have gt : iltB (0 : Int) (Int.ofNat (orb (at_ xs) m x).length) = true := by
        rw [iltB_iff, orb_len, decide_eq_true_eq]
        show (0 : Int) < (m : Int)
        omega
      refine ⟨(rs ++ [orb (at_ xs) m x], kn (rs.flatten ++ orb (at_ xs) m x)), ?_, ?_, ?_, ?_, ?_, ?_, ?_, fun y hy => i7 y (List.mem_cons_of_mem _ hy)⟩
      · show (whileT _ (g_cycles_of_1 xs) fuel (kn rs.flatten, ([] : List Int), x)).bind _ = _
        refine (bind_ret' q1).trans ?_
        show cond (iltB (0 : Int) (Int.ofNat (orb (at_ xs) m x).length)) _ _ = _
        rw [gt]
        show (pushT rs (orb (at_ xs) m x)).bind _ = _
        rw [push_ok (by omega)]; rfl
      · show kn _ = kn _
        rw [fl]
      · show (rs ++ [orb (at_ xs) m x]).flatten.Nodup
        rw [fl]; exact q3
      · intro y hy
        have hy : y ∈ (rs ++ [orb (at_ xs) m x]).flatten := hy
        rw [fl] at hy
        rcases List.mem_append.mp hy with z | z
        · exact i3 y z
        · obtain ⟨k, _, rfl⟩ := mem_orb.mp z; exact rng k
      · intro y y1 y2 hy
        have hy : at_ xs y ∈ (rs ++ [orb (at_ xs) m x]).flatten := hy
        show y ∈ (rs ++ [orb (at_ xs) m x]).flatten
        rw [fl] at hy ⊢
        rcases List.mem_append.mp hy with z | z
        · exact List.mem_append_left _ (i4 y y1 y2 z)
        · refine List.mem_append_right _ ?_
          obtain ⟨k, hk, e⟩ := mem_orb.mp z
          rcases Nat.eq_zero_or_pos k with z2 | z2
          · subst z2
            refine mem_orb.mpr ⟨m - 1, by omega, ?_⟩
            have r1 := rng (m - 1)
            refine h.inj r1.1 r1.2 y1 y2 (Eq.trans ?_ e)
            show it (at_ xs) (m - 1 + 1) x = x
            rw [Nat.sub_add_cancel m0]; exact q2
          · obtain ⟨k, rfl⟩ : ∃ j, k = j + 1 := ⟨k - 1, by omega⟩
            have r1 := rng k
            exact mem_orb.mpr ⟨k, by omega, h.inj r1.1 r1.2 y1 y2 e⟩
      · intro r hr
        rcases List.mem_append.mp hr with z | z
        · exact i5 r z
        · rw [List.mem_singleton.mp z]
          exact ⟨x, m, m0, rfl, q2, (List.nodup_append.mp q3).2.1⟩
      · intro y hy
        show y ∈ (rs ++ [orb (at_ xs) m x]).flatten
        rw [fl]
        rcases List.mem_append.mp hy with z | z
        · exact List.mem_append_left _ (i6 y z)
        · rw [List.mem_singleton.mp z]
          exact List.mem_append_right _ (mem_orb.mpr ⟨0, m0, rfl⟩)
      ) (ups 1 n) [] ([], []) ⟨rfl, List.nodup_nil, (fun _ z => nomatch z), (fun _ _ _ z => nomatch z), (fun _ z => nomatch z), (fun _ z => nomatch z), fun x hx => by rw [mem_ups] at hx; omega⟩
  obtain ⟨s, k1, i1, i2, i3, i4, i5, i6, i7⟩ := key
  refine ⟨s.1, ?_, perm_of_sub i2 (ups_nodup 1 n) (fun y hy => by rw [mem_ups]; have := i3 y hy; omega) ?_, i5⟩
  · unfold g_cycles_of
    show ((rng2T 1 (Int.ofNat xs.length + 1)).bind _).bind _ = _
    have e1 : rng2T 1 (Int.ofNat xs.length + 1) = .ret (ups 1 (n + 1 - 1)) := rng2_eq (a := 1) (b := n + 1) rfl (by rw [h.len]; rfl) (by omega) (by omega)
    rw [e1]
    show (foldT (g_cycles_of_2 fuel xs) (ups 1 (n + 1 - 1)) ([], [])).bind _ = _
    rw [Nat.add_sub_cancel, k1]; rfl
  · exact List.Nodup.length_le_of_subset (ups_nodup 1 n) (l₂ := s.1.flatten) fun y hy => i6 y hy
/-- the lengths of the rings -/
theorem type_ok {rs : List (List Int)} (e : g_cycles_of fuel xs = .ret rs) (R : Rings n (at_ xs) rs) : g_type_of fuel xs = .ret (sortRY iltB (rs.map fun r => Int.ofNat r.length)) := by
  have rl : rs.length ≤ n := R.few
  unfold g_type_of
  rw [e]
  show ((grd (lenOk rs) (Tr.ret (rs.map fun r => Int.ofNat r.length))).bind fun z => grd (lenOk z) (Tr.ret (sortRY iltB z))).bind _ = _
  rw [grd_t _ (lenOk_ok (by omega))]
  show (grd (lenOk (rs.map fun r => Int.ofNat r.length)) (Tr.ret (sortRY iltB (rs.map fun r => Int.ofNat r.length)))).bind _ = _
  rw [grd_t _ (lenOk_ok (by rw [List.length_map]; omega))]; rfl
end
theorem gcd_loop : ∀ (F a b : Nat), b < F → whileT (fun (s_6 : Int × Int) => Tr.ret (iltB (0 : Int) s_6.2)) g_round_length_1 F (Int.ofNat a, Int.ofNat b) = .ret (Int.ofNat (Nat.gcd a b), 0)
  | 0, _, _, h => by omega
  | F + 1, a, b, h => by
    rcases Nat.eq_zero_or_pos b with z | z
    · subst z
      rw [Nat.gcd_zero_right]
      exact while_end rfl
    · have g : iltB (0 : Int) (Int.ofNat b) = true := by
        rw [iltB_iff, decide_eq_true_eq]
        show (0 : Int) < (b : Int)
        omega
      refine (while_go (s' := (Int.ofNat b, Int.ofNat (a % b))) (congrArg Tr.ret g) ?_).trans ?_
      · show (modT (Int.ofNat a) (Int.ofNat b)).bind _ = _
        rw [mod_ok (by show (b : Int) ≠ 0; omega)]
        show Tr.ret (Int.ofNat b, (Int.ofNat a).fmod (Int.ofNat b)) = _
        have : (Int.ofNat a).fmod (Int.ofNat b) = Int.ofNat (a % b) := (Int.ofNat_fmod a b).symm
        rw [this]
      · rw [gcd_loop F b (a % b) (by have := Nat.mod_lt a z; omega), Nat.gcd_comm a b, Nat.gcd_rec b a, Nat.gcd_comm]
section
variable {n fuel : Nat} {xs : List Int} (hn : n ≤ 500) (hf : n + 1 < fuel)
include hn hf
theorem lcm_fold : ∀ (rs : List (List Int)) (k : Nat), (∀ r ∈ rs, 0 < r.length ∧ r.length ≤ n) → foldT (g_round_length_2 fuel) rs (Int.ofNat k) = .ret (Int.ofNat ((rs.map List.length).foldl Nat.lcm k))
  | [], _, _ => rfl
  | r :: rs, k, h => by
    obtain ⟨h1, h2⟩ := h r List.mem_cons_self
    have st : g_round_length_2 fuel (Int.ofNat k) r = .ret (Int.ofNat (Nat.lcm k r.length)) := by
      unfold g_round_length_2
      show (whileT _ g_round_length_1 fuel (Int.ofNat k, Int.ofNat r.length)).bind _ = _
      rw [gcd_loop fuel k r.length (by omega)]
      show ((mulT (Int.ofNat k) (Int.ofNat r.length)).bind fun z => fdivT z (Int.ofNat (Nat.gcd k r.length))).bind _ = _
      have gp : 0 < Nat.gcd k r.length := Nat.gcd_pos_of_pos_right k h1
      have gl : Nat.gcd k r.length ≤ r.length := Nat.gcd_le_right k h1
      rw [mul_ok (.inr (fits_nat (by omega)))]
      show (fdivT (Int.ofNat k * Int.ofNat r.length) (Int.ofNat (Nat.gcd k r.length))).bind _ = _
      rw [fdiv_ok (by show (0 : Int) < ((Nat.gcd k r.length : Nat) : Int); omega) (by show ((Nat.gcd k r.length : Nat) : Int) < _; omega)]
      show Tr.ret ((Int.ofNat k * Int.ofNat r.length).fdiv (Int.ofNat (Nat.gcd k r.length))) = _
      have : (Int.ofNat k * Int.ofNat r.length).fdiv (Int.ofNat (Nat.gcd k r.length)) = Int.ofNat (k * r.length / Nat.gcd k r.length) := (Int.ofNat_fdiv (k * r.length) (Nat.gcd k r.length)).symm
      rw [this]; rfl
    rw [foldT_cons, st]
    exact lcm_fold rs _ fun s hs => h s (List.mem_cons_of_mem _ hs)
theorem round_ok {rs : List (List Int)} (e : g_cycles_of fuel xs = .ret rs) (R : Rings n (at_ xs) rs) : g_round_length fuel xs = .ret (Int.ofNat ((rs.map List.length).foldl Nat.lcm 1)) := by
  unfold g_round_length
  show ((g_cycles_of fuel xs).bind fun z => foldT (g_round_length_2 fuel) z (Int.ofNat 1)).bind _ = _
  rw [e]
  show (foldT (g_round_length_2 fuel) rs (Int.ofNat 1)).bind _ = _
  rw [lcm_fold hn hf rs 1 fun r hr => ⟨(R.ring r hr).pos, R.le hr⟩]; rfl
end
theorem lcm_perm {ls ms : List Nat} (h : ls.Perm ms) : ∀ k, ls.foldl Nat.lcm k = ms.foldl Nat.lcm k := fun k =>
  h.foldl_eq' (fun x _ y _ z => by rw [Nat.lcm_assoc, Nat.lcm_assoc, Nat.lcm_comm x y]) k
/-- orders that are alike have one kind and one length of rounds -/
theorem alike_ok {n fuel : Nat} {xs ys gs : List Int} (hx : IsP n xs) (hy : IsP n ys) (hg : IsP n gs) (hn : n ≤ 500) (hf : n + 1 < fuel) (hc : ∀ x : Int, 1 ≤ x → x ≤ n → at_ xs (at_ gs x) = at_ gs (at_ ys x)) :
    g_type_of fuel xs = g_type_of fuel ys ∧ g_round_length fuel xs = g_round_length fuel ys := by
  obtain ⟨rs, e1, R1⟩ := cycles_ok hx hn hf
  obtain ⟨ss, e2, R2⟩ := cycles_ok hy hn hf
  have p := lens_conj R1 R2 (g := at_ gs) (by rw [map_at hg.len]; exact hg) (fun x h1 h2 => hy.at_mem h1 h2) hc
  refine ⟨?_, ?_⟩
  · rw [type_ok hx hn hf e1 R1, type_ok hy hn hf e2 R2]
    have : (rs.map fun r => Int.ofNat r.length).Perm (ss.map fun r => Int.ofNat r.length) := by
      have := p.map Int.ofNat
      rw [List.map_map, List.map_map] at this
      exact this
    rw [sortRY_eq lin_int this]
  · rw [round_ok hn hf e1 R1, round_ok hn hf e2 R2, lcm_perm p]
end
end Ev

/-! ThDraw97 -/
set_option maxHeartbeats 2000000
namespace Ev
open PySem L2
noncomputable section
theorem take_drop_perm {xs : List Int} {r : Nat} {v : Int} (h : xs[r]? = some v) : (v :: (xs.take r ++ xs.drop (r + 1))).Perm xs := by
  obtain ⟨hl, hv⟩ := List.getElem?_eq_some_iff.mp h
  have e : xs = xs.take r ++ v :: xs.drop (r + 1) := by
    conv => lhs; rw [← List.take_append_drop r xs]
    rw [List.drop_eq_getElem_cons hl, hv]
  have p := List.perm_middle (l₁ := xs.take r) (a := v) (l₂ := xs.drop (r + 1))
  rw [← e] at p
  exact p.symm
theorem shuf_AL : ∀ (F : Nat) (left found : List Int), left.length < F → found.length + left.length ≤ 900 → AL (whileT (fun (s_3 : (List (Int)) × (List (Int))) => Tr.ret (iltB (0 : Int) (Int.ofNat (s_3.1).length))) g__law_shuffled_1 F (left, found)) fun s => s.2.Perm (found ++ left)
  | 0, _, _, h, _ => by omega
  | F + 1, left, found, h, hl => by
    cases left with
    | nil => exact AL_ret (while_end rfl) (by rw [List.append_nil])
    | cons y ys =>
      have g : iltB (0 : Int) (Int.ofNat (y :: ys).length) = true := by
        rw [iltB_iff, decide_eq_true_eq]
        show (0 : Int) < ((ys.length + 1 : Nat) : Int)
        omega
      show AL ((Tr.ret (iltB (0 : Int) (Int.ofNat (y :: ys).length))).bind _) _
      rw [g]
      rw [List.length_cons] at h hl
      refine AL_then (t := g__law_shuffled_1 (y :: ys, found)) (P := fun s => ∃ (r : Nat) (v : Int), (y :: ys)[r]? = some v ∧ s = ((y :: ys).take r ++ (y :: ys).drop (r + 1), found ++ [v])) ?_ fun s ⟨r, v, hv, e⟩ => ?_
      · unfold g__law_shuffled_1
        refine AL_then (AL_drawT (P := fun i => ∃ r : Nat, i = Int.ofNat r ∧ r < ys.length + 1) (by show 0 < ys.length + 1; omega) (by show ys.length + 1 ≤ 1000; omega) fun r hr => ⟨r, rfl, hr⟩) fun i ⟨r, e, hr⟩ => ?_
        subst e
        have hv : (y :: ys)[r]? = some (y :: ys)[r] := List.getElem?_eq_getElem hr
        show AL ((ixT (y :: ys) (Int.ofNat r)).bind _) _
        rw [ix_ok rfl hv]
        show AL ((pushT found (y :: ys)[r]).bind _) _
        rw [push_ok (by omega)]
        show AL ((appT (cut (y :: ys) none (some (Int.ofNat r))) (cut (y :: ys) (some (Int.ofNat (r + 1))) none)).bind _) _
        rw [cut_to (by rw [List.length_cons]; omega), cut_from (by rw [List.length_cons]; omega), app_ok (by rw [List.length_take, List.length_drop, List.length_cons]; omega)]
        exact AL_pure ⟨r, _, hv, rfl⟩
      · subst e
        obtain ⟨hr, _⟩ := List.getElem?_eq_some_iff.mp hv
        rw [List.length_cons] at hr
        have ll : ((y :: ys).take r ++ (y :: ys).drop (r + 1)).length = ys.length := by rw [List.length_append, List.length_take, List.length_drop, List.length_cons]; omega
        refine AL_mono (shuf_AL F _ _ (by rw [ll]; omega) (by rw [ll, List.length_append, List.length_singleton]; omega)) fun s hs => hs.trans ?_
        rw [List.append_assoc]
        exact (take_drop_perm hv).append_left found
theorem shuffled_AL {fuel : Nat} {xs : List Int} (h : xs.length < fuel) (hl : xs.length ≤ 900) : AL (g__law_shuffled fuel xs) fun ys => ys.Perm xs := by
  unfold g__law_shuffled
  show AL ((whileT _ g__law_shuffled_1 fuel (xs, [])).bind _) _
  exact AL_then (shuf_AL fuel xs [] h (by show 0 + xs.length ≤ 900; omega)) fun s hs => AL_pure hs
theorem perm_AL {fuel n : Nat} (h : n < fuel) (hl : n ≤ 900) : AL (g__law_perm fuel (Int.ofNat n)) (IsP n) := by
  unfold g__law_perm
  have e : rng2T (1 : Int) (Int.ofNat n + 1) = .ret (ups 1 (n + 1 - 1)) := rng2_eq (a := 1) (b := n + 1) rfl rfl (by omega) (by omega)
  rw [e, Nat.add_sub_cancel]
  exact AL_mono (shuffled_AL (by rw [ups_len]; exact h) (by rw [ups_len]; exact hl)) fun ys hy => hy
mutual
/-- at most n deep, no dict, lists of at most 1000 -/
def small : Nat → PyData → Bool
  | _, .none => true
  | _, .bool _ => true
  | _, .int _ => true
  | _, .str _ => true
  | 0, .list _ => false
  | 0, .tuple _ => false
  | n + 1, .list xs => Nat.ble xs.length 1000 && smalls n xs
  | n + 1, .tuple xs => Nat.ble xs.length 1000 && smalls n xs
  | _, .dict _ => false
def smalls : Nat → List PyData → Bool
  | _, [] => true
  | n, x :: xs => small n x && smalls n xs
end
theorem smalls_at {n : Nat} : ∀ {xs : List PyData} {k : Nat} {x : PyData}, smalls n xs = true → xs[k]? = some x → small n x = true
  | [], _, _, _, h => nomatch h
  | y :: ys, 0, x, h, e => by cases e; exact (Bool.and_eq_true_iff.mp h).1
  | y :: ys, k + 1, x, h, e => smalls_at (Bool.and_eq_true_iff.mp h).2 e
theorem nats_self : ∀ xs : List Nat, natsEq xs xs = true
  | [] => rfl
  | x :: xs => by
    show (Nat.beq x x && natsEq xs xs) = true
    rw [nats_self xs, Bool.and_true]
    exact Nat.beq_refl x
theorem flat_small : ∀ (n : Nat) (d : PyData), n ≤ dep → small n d = true → (∀ xs, d ≠ .list xs) → (∀ xs, d ≠ .tuple xs) → cmX .eq (eD d) (eD d) = .ret true := fun n d _ h h1 h2 => by
  cases d with
  | none => rfl
  | bool b => cases b <;> rfl
  | int i => show Tr.ofO (some (ieqB i i)) = _; rw [ieq_self]; rfl
  | str s =>
    show Tr.ofO (some (strEq s s)) = _
    rw [show strEq s s = true from nats_self _]; rfl
  | list xs => exact absurd rfl (h1 xs)
  | tuple xs => exact absurd rfl (h2 xs)
  | dict kvs => cases n <;> exact nomatch h
theorem same_items {D n : Nat} {xs : List PyData} {mk : List PyData → PyData} (hl : xs.length ≤ 1000) (hs : smalls n xs = true) (hx : ∀ (k : Nat) v, xs[k]? = some v → ixX (eD (mk xs)) (PyData.int (Int.ofNat k)) = .ret v) (ih : ∀ d, small n d = true → g__law_same D d d = .ret true) (hn : lenX (mk xs) = .ret (Int.ofNat xs.length)) :
    (((((lenX (mk xs)).bind fun z_3 => rng1T z_3).bind fun z_10 => grd (lenOk z_10) (compT (fun k_4 => (((ixX (eD (mk xs)) (PyData.int k_4)).bind fun z_5 => (ixX (eD (mk xs)) (PyData.int k_4)).bind fun z_6 => (g__law_same D) z_5 z_6).bind fun z_7 => Tr.ret (!z_7)).bind fun z_9 => cond z_9 (Tr.ret (some k_4)) (Tr.ret none)) z_10)).bind fun z_11 => Tr.ret (Int.ofNat (z_11).length)).bind fun z_12 => Tr.ret (ieqB z_12 (0 : Int))) = .ret true := by
  rw [hn]
  show ((((rng1T (Int.ofNat xs.length))).bind _).bind _).bind _ = _
  rw [rng1_ok hl]
  show ((grd (lenOk (ups 0 xs.length)) _).bind _).bind _ = _
  rw [grd_t _ (lenOk_ok (by rw [ups_len]; exact hl))]
  rw [compT_some (f := fun _ => (none : Option Int)) fun k hk => ?_]
  · have : (ups 0 xs.length).filterMap (fun _ => (none : Option Int)) = [] := by
      induction ups 0 xs.length with
      | nil => rfl
      | cons a l ih => rw [List.filterMap_cons]; exact ih
    rw [this]; rfl
  · rw [mem_ups] at hk
    obtain ⟨j, rfl⟩ : ∃ j : Nat, k = Int.ofNat j := ⟨k.toNat, by show k = ((k.toNat : Nat) : Int); omega⟩
    have hj : j < xs.length := by
      have : (j : Int) < (0 : Nat) + xs.length := hk.2
      omega
    have g := List.getElem?_eq_getElem hj
    rw [hx j _ g]
    show ((g__law_same D xs[j] xs[j]).bind _).bind _ = _
    rw [ih _ (smalls_at hs g)]; rfl
theorem same_self : ∀ (D n : Nat) (d : PyData), n < D → n ≤ dep → small n d = true → g__law_same D d d = .ret true
  | 0, _, _, h, _, _ => by omega
  | D + 1, n, d, h, hd, hs => by
    have at0 := flat_small n d hd hs
    cases d with
    | list xs =>
      cases n with
      | zero => exact nomatch hs
      | succ n =>
        have hs := Bool.and_eq_true_iff.mp (show (Nat.ble xs.length 1000 && smalls n xs) = true from hs)
        have hl := Nat.ble_eq.mp hs.1
        have e : ieqB (Int.ofNat xs.length) (Int.ofNat xs.length) = true := ieq_self _
        have := same_items (D := D) (mk := PyData.list) hl hs.2 (fun k v hv => by
          show Tr.ofO ((place xs.length (Int.ofNat k)).bind fun j => xs[j]?) = _
          rw [place_nat (List.getElem?_eq_some_iff.mp hv).1]
          show Tr.ofO xs[k]? = _
          rw [hv]; rfl) (fun d hd' => same_self D n d (by omega) (by omega) hd') rfl
        unfold g__law_same
        show (cond (!ieqB (Int.ofNat xs.length) (Int.ofNat xs.length)) (Tr.ret false) _ : Tr Bool) = _
        rw [e]
        exact this
    | tuple xs =>
      cases n with
      | zero => exact nomatch hs
      | succ n =>
        have hs := Bool.and_eq_true_iff.mp (show (Nat.ble xs.length 1000 && smalls n xs) = true from hs)
        have hl := Nat.ble_eq.mp hs.1
        have e : ieqB (Int.ofNat xs.length) (Int.ofNat xs.length) = true := ieq_self _
        have := same_items (D := D) (mk := PyData.tuple) hl hs.2 (fun k v hv => by
          show Tr.ofO ((place xs.length (Int.ofNat k)).bind fun j => xs[j]?) = _
          rw [place_nat (List.getElem?_eq_some_iff.mp hv).1]
          show Tr.ofO xs[k]? = _
          rw [hv]; rfl) (fun d hd' => same_self D n d (by omega) (by omega) hd') rfl
        unfold g__law_same
        show (cond (!ieqB (Int.ofNat xs.length) (Int.ofNat xs.length)) (Tr.ret false) _ : Tr Bool) = _
        rw [e]
        exact this
    | dict kvs => cases n <;> exact nomatch hs
    | none => rfl
    | bool b =>
      have := at0 (fun _ z => nomatch z) (fun _ z => nomatch z)
      unfold g__law_same
      exact this
    | int i =>
      have := at0 (fun _ z => nomatch z) (fun _ z => nomatch z)
      unfold g__law_same
      exact this
    | str s =>
      have := at0 (fun _ z => nomatch z) (fun _ z => nomatch z)
      unfold g__law_same
      exact this
end
end Ev

/-! L97a -/
set_option maxHeartbeats 2000000
namespace Ev
open PySem L2
noncomputable section
namespace K97
abbrev Game := Int × Int
abbrev Rnd := List (Int × Int)
def R : Nat → List (List (Int × Int))
  | 2 => [[(1, 2)]]
  | 4 => [[(1, 4), (2, 3)], [(1, 3), (2, 4)], [(1, 2), (3, 4)]]
  | 6 => [[(1, 6), (2, 5), (3, 4)], [(1, 3), (2, 6), (4, 5)], [(1, 5), (2, 4), (3, 6)], [(1, 2), (3, 5), (4, 6)], [(1, 4), (2, 3), (5, 6)]]
  | 8 => [[(1, 8), (2, 7), (3, 6), (4, 5)], [(1, 3), (2, 8), (4, 7), (5, 6)], [(1, 5), (2, 4), (3, 8), (6, 7)], [(1, 7), (2, 6), (3, 5), (4, 8)], [(1, 2), (3, 7), (4, 6), (5, 8)], [(1, 4), (2, 3), (5, 7), (6, 8)], [(1, 6), (2, 5), (3, 4), (7, 8)]]
  | _ => []
def ag : Nat → Rnd := fun n => (ups 1 n).flatMap fun i => ((ups 1 n).filter fun j => iltB i j).map fun j => (i, j)
inductive Ok : Nat → Prop
  | a : Ok 2 | b : Ok 4 | c : Ok 6 | d : Ok 8
theorem ring_ok {n : Nat} (h : Ok n) : g_ring_plan (Int.ofNat n) = .ret (R n) := by cases h <;> kernel_rfl
theorem games_ok {n : Nat} (h : Ok n) : g_all_games (Int.ofNat n) = .ret (ag n) := by cases h <;> kernel_rfl
def flat_ (g : Rnd) : List Int := g.flatMap fun p => [p.1, p.2]
/-- what is reckoned of the first plan -/
def chkR (n : Nat) : Bool := Nat.beq (R n).length (n - 1) && (R n).all (fun g => g.all (fun p => ileB 1 p.1 && iltB p.1 p.2 && ileB p.2 n) && eqL ieqB (sortY iltB (flat_ g)) (ups 1 n) && eqL (eqPr ieqB ieqB) (sortY ltP g) g) && eqL (eqPr ieqB ieqB) (sortY ltP (R n).flatten) (ag n)
theorem chkR_ok {n : Nat} (h : Ok n) : chkR n = true := by cases h <;> decide +kernel
structure Rd (n : Nat) (g : Rnd) : Prop where
  val : ∀ p ∈ g, 1 ≤ p.1 ∧ p.1 < p.2 ∧ p.2 ≤ (n : Int)
  fl : (flat_ g).Perm (ups 1 n)
  srt : sortY ltP g = g
theorem tells_PI : Tells (eqPr ieqB ieqB) := tells_P tells_int tells_int
theorem base_ok {n : Nat} (h : Ok n) : (R n).length = n - 1 ∧ (∀ g ∈ R n, Rd n g) ∧ (R n).flatten.Perm (ag n) := by
  have c := chkR_ok h
  unfold chkR at c
  rw [Bool.and_eq_true, Bool.and_eq_true] at c
  obtain ⟨⟨c1, c2⟩, c3⟩ := c
  refine ⟨Nat.eq_of_beq_eq_true c1, fun g hg => ?_, ?_⟩
  · have := List.all_eq_true.mp c2 g hg
    rw [Bool.and_eq_true, Bool.and_eq_true] at this
    obtain ⟨⟨h1, h2⟩, h3⟩ := this
    refine ⟨fun p hp => ?_, ?_, (tells_L tells_PI _ _).mp h3⟩
    · have := List.all_eq_true.mp h1 p hp
      rw [Bool.and_eq_true, Bool.and_eq_true, ileB_iff, iltB_iff, ileB_iff, decide_eq_true_eq, decide_eq_true_eq, decide_eq_true_eq] at this
      exact ⟨this.1.1, this.1.2, this.2⟩
    · have := (tells_L tells_int _ _).mp h2
      rw [← this]
      exact (sort_perm _).symm
  · rw [← (tells_L tells_PI _ _).mp c3]
    exact (sort_perm _).symm
theorem Ok.le {n : Nat} (h : Ok n) : 2 ≤ n ∧ n ≤ 8 := by cases h <;> omega
def g2 (f : Int → Int) (p : Game) : Game := srt2 (f p.1) (f p.2)
def ren (f : Int → Int) (g : Rnd) : Rnd := sortY ltP (g.map (g2 f))
theorem srt2_cases (x y : Int) : (srt2 x y = (x, y) ∧ x ≤ y) ∨ (srt2 x y = (y, x) ∧ y < x) := by
  unfold srt2
  rw [iltB_iff]
  by_cases h : y < x
  · rw [decide_eq_true h]; exact .inr ⟨rfl, h⟩
  · rw [decide_eq_false h]; exact .inl ⟨rfl, by omega⟩
theorem flat_len (g : Rnd) : (flat_ g).length = 2 * g.length := by
  induction g with
  | nil => rfl
  | cons p g ih =>
    show ([p.1, p.2] ++ flat_ g).length = _
    rw [List.length_append, ih]
    show 2 + 2 * g.length = 2 * (g.length + 1)
    omega
theorem Rd.len {n : Nat} {g : Rnd} (h : Rd n g) : 2 * g.length = n := by
  have := List.Perm.length_eq h.fl
  rw [flat_len, ups_len] at this
  exact this
section
variable {n : Nat} {names order : List Int} (hn : n ≤ 20) (hp : IsP n names)
include hn hp
theorem ren1_ok {s : List Rnd} {g : Rnd} (hg : Rd n g) (hs : s.length ≤ 100) : g_renamed_plan_1 names s g = .ret (s ++ [ren (at_ names) g]) := by
  have gl := hg.len
  unfold g_renamed_plan_1
  rw [grd_t _ (lenOk_ok (by omega)), compT_ok (f := g2 (at_ names)) fun p h => ?_]
  · show ((grd (lenOk (g.map (g2 (at_ names)))) (Tr.ret (sortY ltP (g.map (g2 (at_ names)))))).bind fun z => Tr.ret z).bind _ = _
    rw [grd_t _ (lenOk_ok (by rw [List.length_map]; omega))]
    show (pushT s (ren (at_ names) g)).bind _ = _
    rw [push_ok (by omega)]; rfl
  · obtain ⟨v1, v2, v3⟩ := hg.val p h
    rw [hp.ix (x := p.1) v1 (by omega) rfl]
    show ((ixT names (p.2 - 1)).bind _).bind _ = _
    rw [hp.ix (x := p.2) (by omega) v3 rfl]; rfl
theorem ren_ok {N : Int} {plan : List Rnd} (hg : ∀ g ∈ plan, Rd n g) (hl : plan.length ≤ 50) : g_renamed_plan N plan names = .ret (plan.map (ren (at_ names))) := by
  unfold g_renamed_plan
  show (foldT (g_renamed_plan_1 names) plan []).bind _ = _
  have := foldT_fn (st := g_renamed_plan_1 names) (fun d => d.map (ren (at_ names))) plan [] fun d x r e => by
    have e : plan = d ++ x :: r := e
    have hx : x ∈ plan := by rw [e]; exact List.mem_append_right _ List.mem_cons_self
    have : d.length ≤ plan.length := by rw [e, List.length_append]; omega
    rw [ren1_ok hn hp (hg x hx) (by rw [List.length_map]; omega), List.map_append]; rfl
  rw [show (([] : List Rnd).map (ren (at_ names))) = [] from rfl] at this
  rw [this]; rfl
theorem ren_Rd {g : Rnd} (hg : Rd n g) : Rd n (ren (at_ names) g) := by
  have p1 : (ren (at_ names) g).Perm (g.map (g2 (at_ names))) := sort_perm _
  refine ⟨fun p h => ?_, ?_, sort_is lin_P (.refl _) (sort_sorted lin_P _)⟩
  · obtain ⟨q, hq, rfl⟩ := List.mem_map.mp (p1.subset h)
    obtain ⟨v1, v2, v3⟩ := hg.val q hq
    have a1 := hp.at_mem (x := q.1) v1 (by omega)
    have a2 := hp.at_mem (x := q.2) (by omega) v3
    have ne : at_ names q.1 ≠ at_ names q.2 := fun e => by have := hp.inj v1 (by omega) (by omega) v3 e; omega
    unfold g2
    rcases srt2_cases (at_ names q.1) (at_ names q.2) with ⟨e, c⟩ | ⟨e, c⟩ <;> rw [e] <;> dsimp only <;> omega
  · have e : (flat_ (ren (at_ names) g)).Perm (flat_ (g.map (g2 (at_ names)))) := p1.flatMap_right _
    have e2 : ∀ l : Rnd, (flat_ (l.map (g2 (at_ names)))).Perm ((flat_ l).map (at_ names)) := fun l => by
      induction l with
      | nil => exact .refl _
      | cons q l ih =>
        show ([(g2 (at_ names) q).1, (g2 (at_ names) q).2] ++ flat_ (l.map (g2 (at_ names)))).Perm ([at_ names q.1, at_ names q.2] ++ (flat_ l).map (at_ names))
        refine List.Perm.append ?_ ih
        unfold g2
        rcases srt2_cases (at_ names q.1) (at_ names q.2) with ⟨e, c⟩ | ⟨e, c⟩ <;> rw [e]
        exact List.Perm.swap _ _ _
    refine (e.trans (e2 g)).trans ((hg.fl.map _).trans ?_)
    rw [map_at hp.len]
    exact hp
end
def rnd (plan : List Rnd) (r : Int) : Rnd := plan.getD (r - 1).toNat []
theorem rnd_get {plan : List Rnd} {m : Nat} (hl : plan.length = m) {r : Int} (h1 : 1 ≤ r) (h2 : r ≤ m) : plan[(r - 1).toNat]? = some (rnd plan r) := by
  have h : (r - 1).toNat < plan.length := by omega
  unfold rnd
  rw [List.getD_eq_getElem?_getD, List.getElem?_eq_getElem h]; rfl
theorem swap_ok {plan : List Rnd} {m : Nat} {order : List Int} (hl : plan.length = m) (hm : m ≤ 50) (ho : IsP m order) : g_swapped_rounds plan order = .ret (order.map (rnd plan)) := by
  unfold g_swapped_rounds
  rw [grd_t _ (lenOk_ok (by rw [ho.len]; omega)), compT_ok (f := rnd plan) fun r h => ?_]
  · rfl
  · have := ho.mem.mp h
    rw [ix_ok (k := (r - 1).toNat) (by show r - 1 = (((r - 1).toNat : Nat) : Int); omega) (rnd_get hl this.1 this.2)]; rfl
theorem rnd_map {plan : List Rnd} {m : Nat} (hl : plan.length = m) : (ups 1 m).map (rnd plan) = plan := by
  refine List.ext_getElem? fun k => ?_
  rw [List.getElem?_map]
  by_cases hk : k < m
  · rw [ups_get hk]
    show some (rnd plan (Int.ofNat (1 + k))) = _
    have := rnd_get hl (r := Int.ofNat (1 + k)) (by show (1 : Int) ≤ ((1 + k : Nat) : Int); omega) (by show ((1 + k : Nat) : Int) ≤ m; omega)
    rw [← this]
    congr 1
    show ((((1 + k : Nat)) : Int) - 1).toNat = k
    omega
  · rw [List.getElem?_eq_none (by rw [ups_len]; omega), List.getElem?_eq_none (by omega)]; rfl
theorem rnd_of_map {f : Int → Rnd} {order : List Int} {m : Nat} (ho : IsP m order) {r : Int} (h1 : 1 ≤ r) (h2 : r ≤ m) : rnd (order.map f) r = f (at_ order r) := by
  have := ho.get h1 h2
  unfold rnd
  rw [List.getD_eq_getElem?_getD, List.getElem?_map, this]; rfl
def inv (xs : List Int) : List Int := (ups 1 xs.length).map fun y => Int.ofNat (xs.idxOf y) + 1
section
variable {n : Nat} {xs : List Int} (h : IsP n xs)
include h
theorem idx_at {x : Int} (h1 : 1 ≤ x) (h2 : x ≤ n) : xs.idxOf (at_ xs x) = (x - 1).toNat := by
  have g := h.get h1 h2
  obtain ⟨hl, e⟩ := List.getElem?_eq_some_iff.mp g
  rw [← e]
  exact List.Nodup.idxOf_getElem h.nodup _ _
theorem inv_at {x : Int} (h1 : 1 ≤ x) (h2 : x ≤ n) : at_ (inv xs) (at_ xs x) = x := by
  have a := h.at_mem h1 h2
  unfold inv
  rw [h.len, at_map a.1 a.2, idx_at h h1 h2]
  show ((((x - 1).toNat : Nat)) : Int) + 1 = x
  omega
theorem at_inv {y : Int} (h1 : 1 ≤ y) (h2 : y ≤ n) : at_ xs (at_ (inv xs) y) = y := by
  obtain ⟨x, x1, x2, rfl⟩ := h.surj h1 h2
  rw [inv_at h x1 x2]
theorem inv_P : IsP n (inv xs) := by
  unfold inv
  rw [h.len]
  refine isP_map (fun y h1 h2 => ?_) fun y z h1 h2 h3 h4 e => ?_
  · obtain ⟨x, x1, x2, rfl⟩ := h.surj h1 h2
    rw [idx_at h x1 x2]
    show (1 : Int) ≤ ((((x - 1).toNat : Nat)) : Int) + 1 ∧ ((((x - 1).toNat : Nat)) : Int) + 1 ≤ n
    omega
  · obtain ⟨x, x1, x2, rfl⟩ := h.surj h1 h2
    obtain ⟨w, w1, w2, rfl⟩ := h.surj h3 h4
    rw [idx_at h x1 x2, idx_at h w1 w2] at e
    have e : ((((x - 1).toNat : Nat)) : Int) + 1 = ((((w - 1).toNat : Nat)) : Int) + 1 := e
    have : x = w := by omega
    rw [this]
theorem back_ok (hn : n ≤ 500) : g_turned_back xs = .ret (inv xs) := by
  unfold g_turned_back
  have e1 : rng2T (1 : Int) (Int.ofNat xs.length + 1) = .ret (ups 1 (n + 1 - 1)) := rng2_eq (a := 1) (b := n + 1) rfl (by rw [h.len]; rfl) (by omega) (by omega)
  rw [e1, Nat.add_sub_cancel]
  show (grd (lenOk (ups 1 n)) _).bind _ = _
  rw [grd_t _ (lenOk_ok (by rw [ups_len]; omega)), compT_ok (f := fun y => Int.ofNat (xs.idxOf y) + 1) fun y hy => ?_]
  · unfold inv
    rw [h.len]; rfl
  · rw [mem_ups] at hy
    obtain ⟨x, x1, x2, rfl⟩ := h.surj (y := y) (by omega) (by omega)
    have ix : indexY ieqB (at_ xs x) xs 0 = some (0 + (x - 1).toNat) := index_ok tells_int (h.get x1 x2) fun i hi e => by
      have := (List.getElem?_inj (by rw [h.len]; omega) h.nodup).mp (e.trans (h.get x1 x2).symm)
      omega
    rw [ix, idx_at h x1 x2, Nat.zero_add]; rfl
end
end K97
end
end Ev

/-! L97b -/
set_option maxHeartbeats 2000000
namespace Ev
open PySem L2
noncomputable section
namespace K97
theorem mem_ag {n : Nat} {p : Game} : p ∈ ag n ↔ 1 ≤ p.1 ∧ p.1 < p.2 ∧ p.2 ≤ (n : Int) := by
  unfold ag
  rw [List.mem_flatMap]
  constructor
  · rintro ⟨i, hi, h⟩
    obtain ⟨j, hj, rfl⟩ := List.mem_map.mp h
    rw [List.mem_filter, iltB_iff, decide_eq_true_eq, mem_ups] at hj
    rw [mem_ups] at hi
    dsimp only
    omega
  · rintro ⟨h1, h2, h3⟩
    refine ⟨p.1, by rw [mem_ups]; omega, List.mem_map.mpr ⟨p.2, ?_, rfl⟩⟩
    rw [List.mem_filter, iltB_iff, decide_eq_true_eq, mem_ups]
    omega
theorem ag_nodup (n : Nat) : (ag n).Nodup := by
  unfold ag
  refine List.nodup_iff_pairwise_ne.mpr ?_
  refine List.pairwise_flatMap.mpr ⟨fun i hi => ?_, ?_⟩
  · refine List.pairwise_map.mpr (((ups_nodup 1 n).filter _).imp fun {a b} hab e => hab ?_)
    exact congrArg Prod.snd e
  · refine (ups_nodup 1 n).imp fun {a b} hab x hx y hy e => hab ?_
    obtain ⟨_, _, rfl⟩ := List.mem_map.mp hx
    obtain ⟨_, _, rfl⟩ := List.mem_map.mp hy
    exact congrArg Prod.fst e
section
variable {n : Nat} {names order : List Int} (ok : Ok n) (hp : IsP n names) (ho : IsP (n - 1) order)
/-- the plan of the law -/
def plan (n : Nat) (names order : List Int) : List Rnd := order.map fun r => ren (at_ names) (rnd (R n) r)
include ok hp ho
theorem rnd_base {r : Int} (h : r ∈ order) : Rd n (rnd (R n) r) := by
  have h := ho.mem.mp h
  have b := base_ok ok
  exact b.2.1 _ (List.mem_of_getElem? (rnd_get b.1 h.1 h.2))
theorem plan_ok : (g_renamed_plan (Int.ofNat n) (R n) names).bind (fun z => g_swapped_rounds z order) = .ret (plan n names order) := by
  have b := base_ok ok
  have le := ok.le
  rw [ren_ok (by omega) hp b.2.1 (by omega)]
  show g_swapped_rounds ((R n).map (ren (at_ names))) order = _
  rw [swap_ok (m := n - 1) (by rw [List.length_map]; exact b.1) (by omega) ho]
  unfold plan
  congr 1
  refine List.map_congr_left fun r hr => ?_
  have h := ho.mem.mp hr
  unfold rnd
  rw [List.getD_eq_getElem?_getD, List.getElem?_map, rnd_get b.1 h.1 h.2]; rfl
theorem plan_Rd : ∀ g ∈ plan n names order, Rd n g := fun g hg => by
  obtain ⟨r, hr, rfl⟩ := List.mem_map.mp hg
  have le := ok.le
  exact ren_Rd (by omega) hp (rnd_base ok hp ho hr)
theorem plan_len : (plan n names order).length = n - 1 := by unfold plan; rw [List.length_map, ho.len]
theorem g2_inj {p q : Game} (h1 : p ∈ ag n) (h2 : q ∈ ag n) (e : g2 (at_ names) p = g2 (at_ names) q) : p = q := by
  rw [mem_ag] at h1 h2
  unfold g2 at e
  have i11 := hp.inj (x := p.1) (y := q.1) h1.1 (by omega) h2.1 (by omega)
  have i22 := hp.inj (x := p.2) (y := q.2) (by omega) h1.2.2 (by omega) h2.2.2
  have i12 := hp.inj (x := p.1) (y := q.2) h1.1 (by omega) (by omega) h2.2.2
  have i21 := hp.inj (x := p.2) (y := q.1) (by omega) h1.2.2 h2.1 (by omega)
  rcases srt2_cases (at_ names p.1) (at_ names p.2) with ⟨e1, c1⟩ | ⟨e1, c1⟩ <;> rcases srt2_cases (at_ names q.1) (at_ names q.2) with ⟨e2, c2⟩ | ⟨e2, c2⟩ <;> rw [e1, e2] at e <;> have ea := congrArg Prod.fst e <;> have eb := congrArg Prod.snd e <;> dsimp only at ea eb
  · exact Prod.ext (i11 ea) (i22 eb)
  · have := i12 ea; have := i21 eb; omega
  · have := i21 ea; have := i12 eb; omega
  · exact Prod.ext (i11 eb) (i22 ea)
theorem ag_map : ((ag n).map (g2 (at_ names))).Perm (ag n) := by
  refine perm_of_sub ?_ (ag_nodup n) (fun p h => ?_) (by rw [List.length_map]; exact Nat.le_refl _)
  · refine List.pairwise_map.mpr ((List.Pairwise.and_mem.mp (ag_nodup n)).imp fun {a b} ⟨ha, hb, hab⟩ e => hab (g2_inj ok hp ho ha hb e))
  · obtain ⟨q, hq, rfl⟩ := List.mem_map.mp h
    rw [mem_ag] at hq ⊢
    have a1 := hp.at_mem (x := q.1) hq.1 (by omega)
    have a2 := hp.at_mem (x := q.2) (by omega) hq.2.2
    have ne : at_ names q.1 ≠ at_ names q.2 := fun e => by have := hp.inj hq.1 (by omega) (by omega) hq.2.2 e; omega
    unfold g2
    rcases srt2_cases (at_ names q.1) (at_ names q.2) with ⟨e, c⟩ | ⟨e, c⟩ <;> rw [e] <;> dsimp only <;> omega
theorem plan_flat : (plan n names order).flatten.Perm (ag n) := by
  have b := base_ok ok
  have e1 : (plan n names order).Perm ((R n).map (ren (at_ names))) := by
    unfold plan
    have := List.Perm.map (fun r => ren (at_ names) (rnd (R n) r)) ho
    refine this.trans (List.Perm.of_eq ?_)
    rw [show (fun r => ren (at_ names) (rnd (R n) r)) = ren (at_ names) ∘ rnd (R n) from rfl, ← List.map_map, rnd_map b.1]
  have e2 : ∀ l : List Rnd, (l.map (ren (at_ names))).flatten.Perm (l.flatten.map (g2 (at_ names))) := fun l => by
    induction l with
    | nil => exact .refl _
    | cons g l ih =>
      show (ren (at_ names) g ++ (l.map (ren (at_ names))).flatten).Perm ((g ++ l.flatten).map _)
      rw [List.map_append]
      exact (sort_perm _).append ih
  exact ((e1.flatten).trans (e2 _)).trans ((b.2.2.map _).trans (ag_map ok hp ho))
theorem clash1_ok {g : Rnd} (hg : Rd n g) : g_first_player_clash (Int.ofNat n) g = .ret none := by
  have le := ok.le
  have gl := hg.len
  unfold g_first_player_clash
  show (foldT g_first_player_clash_1 g []).bind _ = _
  have := foldT_fn (st := g_first_player_clash_1) flat_ g [] fun d x r e => by
    have e : g = d ++ x :: r := e
    have : d.length ≤ g.length := by rw [e, List.length_append]; omega
    unfold g_first_player_clash_1
    rw [app_ok (by rw [flat_len]; show 2 * d.length + 2 ≤ 1000; omega)]
    show Tr.ret (flat_ d ++ [x.1, x.2]) = Tr.ret (flat_ (d ++ [x]))
    congr 1
    unfold flat_
    rw [List.flatMap_append]; rfl
  rw [show flat_ [] = [] from rfl] at this
  rw [this]
  have e1 : rng2T (1 : Int) (Int.ofNat n + 1) = .ret (ups 1 (n + 1 - 1)) := rng2_eq (a := 1) (b := n + 1) rfl rfl (by omega) (by omega)
  show (((rng2T (1 : Int) (Int.ofNat n + 1)).bind fun z => foldM (g_first_player_clash_2 (flat_ ([] ++ g))) z ()).bind _) = _
  rw [e1]
  show (foldM (g_first_player_clash_2 (flat_ g)) (ups 1 (n + 1 - 1)) ()).bind _ = _
  rw [foldM_nx fun i hi => ?_]
  · rfl
  · rw [Nat.add_sub_cancel] at hi
    unfold g_first_player_clash_2
    rw [count_int, List.perm_iff_count.mp hg.fl i, List.Nodup.count (ups_nodup 1 n), if_pos hi]; rfl
theorem lenPlan : (plan n names order).flatten.length ≤ 100 := by
  have e := List.Perm.length_eq ((base_ok ok).2.2)
  have e2 := List.Perm.length_eq (plan_flat ok hp ho)
  rw [e2]
  cases ok <;> decide
theorem clash_ok : g_first_clash_of_plan (Int.ofNat n) (plan n names order) = .ret .none := by
  have le := ok.le
  have pl := plan_len ok hp ho
  have lp := lenPlan ok hp ho
  unfold g_first_clash_of_plan
  rw [rng1_eq (n := n - 1) (by rw [pl]) (by omega)]
  show (foldM (g_first_clash_of_plan_1 (Int.ofNat n) (plan n names order)) (ups 0 (n - 1)) ()).bind _ = _
  rw [foldM_nx fun r hr => ?_]
  · show (foldT g_first_clash_of_plan_2 (plan n names order) []).bind _ = _
    have := foldT_fn (st := g_first_clash_of_plan_2) List.flatten (plan n names order) [] fun d x r e => by
      have e : plan n names order = d ++ x :: r := e
      have l2 : (plan n names order).flatten.length = d.flatten.length + (x.length + r.flatten.length) := by
        rw [e, List.flatten_append, List.length_append, List.flatten_cons, List.length_append]
      unfold g_first_clash_of_plan_2
      rw [app_ok (by omega)]
      show Tr.ret (d.flatten ++ x) = Tr.ret (d ++ [x]).flatten
      rw [List.flatten_append]; simp
    rw [show ([] : List Rnd).flatten = [] from rfl, List.nil_append] at this
    rw [this]
    show ((g_all_games (Int.ofNat n)).bind _).bind _ = _
    rw [games_ok ok]
    have al : (ag n).length ≤ 1000 := by cases ok <;> decide
    show (grd (lenOk (ag n)) _).bind _ = _
    rw [grd_t _ (lenOk_ok al)]
    have f1 : (ag n).filter (fun g => iltB (1 : Int) (Int.ofNat (countY (eqPr ieqB ieqB) g (plan n names order).flatten))) = [] := by
      refine List.filter_eq_nil_iff.mpr fun g hg => ?_
      rw [tells_count tells_PI, List.perm_iff_count.mp (plan_flat ok hp ho) g, List.Nodup.count (ag_nodup n), if_pos hg]
      decide
    show (Tr.ret (((ag n).filter (fun g => iltB (1 : Int) (Int.ofNat (countY (eqPr ieqB ieqB) g (plan n names order).flatten)))).map fun g => g)).bind _ = _
    rw [f1]
    show (grd (lenOk (ag n)) _).bind _ = _
    rw [grd_t _ (lenOk_ok al)]
    have f2 : (ag n).filter (fun g => !memY (eqPr ieqB ieqB) g (plan n names order).flatten) = [] := by
      refine List.filter_eq_nil_iff.mpr fun g hg => ?_
      rw [(tells_mem tells_PI).mpr ((List.Perm.mem_iff (plan_flat ok hp ho)).mpr hg)]
      decide
    show (Tr.ret (((ag n).filter (fun g => !memY (eqPr ieqB ieqB) g (plan n names order).flatten)).map fun g => g)).bind _ = _
    rw [f2]; rfl
  · rw [mem_ups] at hr
    have hk : r.toNat < (plan n names order).length := by omega
    unfold g_first_clash_of_plan_1
    rw [ix_ok (k := r.toNat) (by show r = ((r.toNat : Nat) : Int); omega) (List.getElem?_eq_getElem hk)]
    show (g_first_player_clash (Int.ofNat n) _).bind _ = _
    rw [clash1_ok ok hp ho (plan_Rd ok hp ho _ (List.getElem_mem hk))]; rfl
theorem game_ok {p : Game} (h1 : 1 ≤ p.1) (h2 : p.1 < p.2) (h3 : p.2 ≤ (n : Int)) : g_is_game (Int.ofNat n) (eP PyData.int PyData.int p) = .ret true := by
  have l1 : ileB 1 p.1 = true := by rw [ileB_iff, decide_eq_true h1]
  have l2 : ileB p.1 (Int.ofNat n) = true := by rw [ileB_iff]; exact decide_eq_true (by show p.1 ≤ (n : Int); omega)
  have l3 : ileB (p.1 + 1) p.2 = true := by rw [ileB_iff]; exact decide_eq_true (by omega)
  have l4 : ileB p.2 (Int.ofNat n) = true := by rw [ileB_iff]; exact decide_eq_true (by show p.2 ≤ (n : Int); omega)
  have f1 : g_is_from (PyData.int p.1) (PyData.int 1) (Int.ofNat n) = .ret true := by
    show (Tr.ret (ileB 1 p.1)).bind (fun r => cond r (Tr.ret (ileB p.1 (Int.ofNat n))) (Tr.ret false)) = _
    rw [l1, l2]; rfl
  have f2 : g_is_from (PyData.int p.2) (PyData.int (p.1 + 1)) (Int.ofNat n) = .ret true := by
    show (Tr.ret (ileB (p.1 + 1) p.2)).bind (fun r => cond r (Tr.ret (ileB p.2 (Int.ofNat n))) (Tr.ret false)) = _
    rw [l3, l4]; rfl
  show (g_is_from (PyData.int p.1) (PyData.int 1) (Int.ofNat n)).bind (fun z => cond z (g_is_from (PyData.int p.2) (PyData.int (p.1 + 1)) (Int.ofNat n)) (Tr.ret false)) = _
  rw [f1, f2]; rfl
theorem isplan_ok : g_is_plan (Int.ofNat n) (plan n names order) = .ret true := by
  have le := ok.le
  have pl := plan_len ok hp ho
  have e1 : ieqB (Int.ofNat (plan n names order).length) (Int.ofNat n - 1) = true := by
    rw [ieqB_i, pl, decide_eq_true_eq]
    show ((n - 1 : Nat) : Int) = (n : Int) - 1
    omega
  have e2 : List.all ((plan n names order).map fun games_1 => bT ((eT (eP PyData.int PyData.int)) games_1)) id = true := by
    rw [List.all_eq_true]
    intro b hb
    obtain ⟨g, _, rfl⟩ := List.mem_map.mp hb
    rfl
  unfold g_is_plan
  show (cond (!ieqB (Int.ofNat (plan n names order).length) (Int.ofNat n - 1)) (Tr.ret true) _ : Tr Bool).bind _ = _
  rw [e1]
  show (((grd (lenOk (plan n names order)) (Tr.ret ((plan n names order).map fun games_1 => bT ((eT (eP PyData.int PyData.int)) games_1)))).bind fun z => Tr.ret (List.all z id)).bind _).bind _ = _
  rw [grd_t _ (lenOk_ok (by omega))]
  show (Tr.ret (!List.all ((plan n names order).map fun games_1 => bT ((eT (eP PyData.int PyData.int)) games_1)) id)).bind _ = _
  rw [e2]
  show (foldM (g_is_plan_1 (Int.ofNat n)) (plan n names order) ()).bind _ = _
  rw [foldM_nx fun g hg => ?_]
  · show (g_first_clash_of_plan (Int.ofNat n) (plan n names order)).bind _ = _
    rw [clash_ok ok hp ho]; rfl
  · have rd := plan_Rd ok hp ho g hg
    have gl := rd.len
    unfold g_is_plan_1
    rw [grd_t _ (lenOk_ok (xs := g) (by omega)), compT_ok (f := fun _ => true) fun p h => ?_]
    · have e3 : List.all (g.map fun _ => true) id = true := by
        rw [List.all_eq_true]
        intro b hb
        obtain ⟨g, _, rfl⟩ := List.mem_map.mp hb
        rfl
      show ((Tr.ret (!List.all (g.map fun _ => true) id)).bind (fun z_11 => cond z_11 (Tr.ret true) ((grd (lenOk g) (Tr.ret (sortY ltP g))).bind fun z_10 => Tr.ret (!(eqL (eqPr ieqB ieqB)) g z_10)))).bind _ = _
      rw [e3]
      show ((grd (lenOk g) (Tr.ret (sortY ltP g))).bind fun z_10 => Tr.ret (!(eqL (eqPr ieqB ieqB)) g z_10)).bind _ = _
      rw [grd_t _ (lenOk_ok (xs := g) (by omega)), rd.srt]
      show (Tr.ret (!(eqL (eqPr ieqB ieqB)) g g)).bind _ = _
      rw [tells_self (tells_L tells_PI)]; rfl
    · obtain ⟨v1, v2, v3⟩ := rd.val p h
      rw [game_ok ok hp ho v1 v2 v3]; rfl
theorem ren_back {g : Rnd} (hg : Rd n g) : ren (at_ (inv names)) (ren (at_ names) g) = g := by
  have e : (ren (at_ names) g).map (g2 (at_ (inv names))) |>.Perm g := by
    refine ((sort_perm (lt := ltP) (g.map (g2 (at_ names)))).map (g2 (at_ (inv names)))).trans ?_
    rw [List.map_map]
    refine List.Perm.of_eq ((List.map_congr_left fun p hp' => ?_).trans (List.map_id g))
    obtain ⟨v1, v2, v3⟩ := hg.val p hp'
    show g2 (at_ (inv names)) (g2 (at_ names) p) = p
    have i1 := inv_at hp (x := p.1) v1 (by omega)
    have i2 := inv_at hp (x := p.2) (by omega) v3
    have s : srt2 p.1 p.2 = p := by
      rcases srt2_cases p.1 p.2 with ⟨e, _⟩ | ⟨e, c⟩
      · exact e
      · omega
    have s2 : srt2 p.2 p.1 = p := by
      rcases srt2_cases p.2 p.1 with ⟨e, c⟩ | ⟨e, c⟩
      · omega
      · exact e
    unfold g2
    rcases srt2_cases (at_ names p.1) (at_ names p.2) with ⟨e1, _⟩ | ⟨e1, _⟩ <;> rw [e1] <;> dsimp only <;> rw [i1, i2] <;> assumption
  unfold ren at e ⊢
  rw [sort_eq lin_P e, hg.srt]
theorem back2_ok : (g_swapped_rounds (plan n names order) (inv order)).bind (fun z => g_renamed_plan (Int.ofNat n) z (inv names)) = .ret (R n) := by
  have b := base_ok ok
  have le := ok.le
  have pl := plan_len ok hp ho
  rw [swap_ok (m := n - 1) pl (by omega) (inv_P ho)]
  have e : (inv order).map (rnd (plan n names order)) = (R n).map (ren (at_ names)) := by
    rw [← rnd_map b.1, List.map_map]
    have : inv order = (ups 1 (n - 1)).map (at_ (inv order)) := (map_at (inv_P ho).len).symm
    rw [this, List.map_map]
    refine List.map_congr_left fun r hr => ?_
    rw [mem_ups] at hr
    have h1 : 1 ≤ r := by omega
    have h2 : r ≤ ((n - 1 : Nat) : Int) := by omega
    have ai := (inv_P ho).at_mem h1 h2
    show rnd (plan n names order) (at_ (inv order) r) = ren (at_ names) (rnd (R n) r)
    unfold plan
    rw [rnd_of_map ho ai.1 ai.2, at_inv ho h1 h2]
  show g_renamed_plan (Int.ofNat n) ((inv order).map (rnd (plan n names order))) (inv names) = _
  rw [e, ren_ok (by omega) (inv_P hp) (fun g hg => ?_) (by rw [List.length_map]; omega)]
  · rw [List.map_map]
    congr 1
    refine (List.map_congr_left fun g hg => ?_).trans (List.map_id _)
    exact ren_back ok hp ho (b.2.1 g hg)
  · obtain ⟨q, hq, rfl⟩ := List.mem_map.mp hg
    exact ren_Rd (by omega) hp (b.2.1 q hq)
end
theorem small_R {n : Nat} (ok : Ok n) : small 4 (eT (eT (eP PyData.int PyData.int)) (R n)) = true := by cases ok <;> decide +kernel
end K97
end
end Ev

/-! L97c -/
set_option maxHeartbeats 2000000
namespace Ev
open PySem L2
noncomputable section
namespace K97
def put2 (s : List Int) (p : Game) : List Int := (s.set (p.1 - 1).toNat p.2).set (p.2 - 1).toNat p.1
def row (n : Nat) (g : Rnd) : List Int := g.foldl put2 (List.replicate n 0)
theorem put2_len (s : List Int) (p : Game) : (put2 s p).length = s.length := by unfold put2; rw [List.length_set, List.length_set]
theorem at_set {s : List Int} {k : Nat} {v x : Int} (hk : k < s.length) : at_ (s.set k v) x = if (x - 1).toNat = k then v else at_ s x := by
  unfold at_
  rw [List.getD_eq_getElem?_getD, List.getElem?_set]
  by_cases h : k = (x - 1).toNat
  · rw [if_pos h, if_pos hk, if_pos h.symm]; rfl
  · rw [if_neg h, if_neg (fun e => h e.symm), List.getD_eq_getElem?_getD]
theorem at_put2 {s : List Int} {p : Game} {n : Nat} (hl : s.length = n) (h1 : 1 ≤ p.1) (h2 : p.1 < p.2) (h3 : p.2 ≤ (n : Int)) {x : Int} (hx : 1 ≤ x) : at_ (put2 s p) x = if x = p.2 then p.1 else if x = p.1 then p.2 else at_ s x := by
  unfold put2
  rw [at_set (by rw [List.length_set]; omega), at_set (by omega)]
  by_cases e : x = p.2
  · rw [if_pos e, if_pos (by omega)]
  · rw [if_neg e, if_neg (by omega)]
    by_cases e2 : x = p.1
    · rw [if_pos e2, if_pos (by omega)]
    · rw [if_neg e2, if_neg (by omega)]
theorem rep0 : ∀ n : Nat, repY [(0 : Int)] n = List.replicate n 0
  | 0 => rfl
  | n + 1 => by
    show [0] ++ repY [0] n = _
    rw [rep0 n]; rfl
theorem flat_append (a b : Rnd) : flat_ (a ++ b) = flat_ a ++ flat_ b := by unfold flat_; rw [List.flatMap_append]
theorem mem_flat {g : Rnd} {x : Int} : x ∈ flat_ g ↔ ∃ p ∈ g, x = p.1 ∨ x = p.2 := by
  unfold flat_
  rw [List.mem_flatMap]
  constructor
  · rintro ⟨p, hp, h⟩
    refine ⟨p, hp, ?_⟩
    rcases List.mem_cons.mp h with h | h
    · exact .inl h
    · exact .inr (List.mem_singleton.mp h)
  · rintro ⟨p, hp, h⟩
    refine ⟨p, hp, ?_⟩
    rcases h with h | h <;> rw [h] <;> simp
/-- what the row of a round tells -/
structure RowOf (n : Nat) (g : Rnd) (r : List Int) : Prop where
  len : r.length = n
  at1 : ∀ p ∈ g, at_ r p.1 = p.2 ∧ at_ r p.2 = p.1
theorem row_spec {n : Nat} {g : Rnd} (hg : Rd n g) : foldT g_law_1 g (List.replicate n 0) = .ret (row n g) ∧ RowOf n g (row n g) := by
  have nd : (flat_ g).Nodup := (List.Perm.nodup_iff hg.fl).mpr (ups_nodup 1 n)
  obtain ⟨s, e, i1, i2, i3⟩ := foldT_ok (st := g_law_1) (I := fun done rest s => done ++ rest = g ∧ s = done.foldl put2 (List.replicate n 0) ∧ RowOf n done s) (fun done p rest s ⟨i1, i2, i3⟩ => by
    have hp : p ∈ g := by rw [← i1]; exact List.mem_append_right _ List.mem_cons_self
    obtain ⟨v1, v2, v3⟩ := hg.val p hp
    have nd2 := nd
    rw [← i1, flat_append] at nd2
    have nd3 := (List.nodup_append.mp nd2).2.2
    refine ⟨put2 s p, ?_, by rw [List.append_assoc]; exact i1, by rw [List.foldl_append, ← i2]; rfl, by rw [put2_len]; exact i3.len, fun q hq => ?_⟩
    · have l := i3.len
      unfold g_law_1
      rw [put_ok (k := (p.1 - 1).toNat) (by show p.1 - 1 = (((p.1 - 1).toNat : Nat) : Int); omega) (by omega)]
      show (putT (s.set (p.1 - 1).toNat p.2) (p.2 - 1) p.1).bind _ = _
      rw [put_ok (k := (p.2 - 1).toNat) (by show p.2 - 1 = (((p.2 - 1).toNat : Nat) : Int); omega) (by rw [List.length_set]; omega)]; rfl
    · rcases List.mem_append.mp hq with hq | hq
      · have q1 := nd3 q.1 (mem_flat.mpr ⟨q, hq, .inl rfl⟩)
        have q2 := nd3 q.2 (mem_flat.mpr ⟨q, hq, .inr rfl⟩)
        have m1 : p.1 ∈ flat_ (p :: rest) := mem_flat.mpr ⟨p, List.mem_cons_self, .inl rfl⟩
        have m2 : p.2 ∈ flat_ (p :: rest) := mem_flat.mpr ⟨p, List.mem_cons_self, .inr rfl⟩
        have qg : q ∈ g := by rw [← i1]; exact List.mem_append_left _ hq
        obtain ⟨w1, w2, w3⟩ := hg.val q qg
        rw [at_put2 i3.len v1 v2 v3 w1, at_put2 i3.len v1 v2 v3 (by omega), if_neg (q1 _ m2), if_neg (q1 _ m1), if_neg (q2 _ m2), if_neg (q2 _ m1)]
        exact i3.at1 q hq
      · rw [List.mem_singleton.mp hq, at_put2 i3.len v1 v2 v3 v1, at_put2 i3.len v1 v2 v3 (by omega), if_neg (by omega), if_pos rfl, if_pos rfl]
        exact ⟨rfl, rfl⟩) g [] (List.replicate n 0) ⟨rfl, rfl, List.length_replicate, fun _ z => nomatch z⟩
  refine ⟨?_, ?_⟩
  · rw [e, i2, List.nil_append]; rfl
  · rw [List.nil_append] at i3
    have : s = row n g := by rw [i2, List.nil_append]; rfl
    rw [← this]; exact i3
section
variable {n : Nat} {g : Rnd} (hg : Rd n g)
include hg
theorem partner {x : Int} (h1 : 1 ≤ x) (h2 : x ≤ n) : ∃ p ∈ g, x = p.1 ∨ x = p.2 := mem_flat.mp ((List.Perm.mem_iff hg.fl).mpr (by rw [mem_ups]; omega))
theorem row_at {x : Int} (h1 : 1 ≤ x) (h2 : x ≤ n) : 1 ≤ at_ (row n g) x ∧ at_ (row n g) x ≤ n ∧ at_ (row n g) x ≠ x ∧ at_ (row n g) (at_ (row n g) x) = x := by
  obtain ⟨p, hp, e⟩ := partner hg h1 h2
  obtain ⟨v1, v2, v3⟩ := hg.val p hp
  obtain ⟨a1, a2⟩ := (row_spec hg).2.at1 p hp
  rcases e with rfl | rfl
  · rw [a1, a2]; refine ⟨by omega, v3, by omega, rfl⟩
  · rw [a2, a1]; refine ⟨v1, by omega, by omega, rfl⟩
theorem row_P : IsP n (row n g) := by
  have l := (row_spec hg).2.len
  rw [← map_at l]
  refine isP_map (fun x h1 h2 => ?_) fun x y h1 h2 h3 h4 e => ?_
  · have := row_at hg h1 h2; exact ⟨this.1, this.2.1⟩
  · have a := (row_at hg h1 h2).2.2.2
    have b := (row_at hg h3 h4).2.2.2
    rw [e, b] at a
    exact a.symm
theorem row_inv : inv (row n g) = row n g := by
  have p := row_P hg
  refine at_ext (inv_P p).len p.len fun x h1 h2 => ?_
  have a := row_at hg h1 h2
  have := inv_at p (x := at_ (row n g) x) a.1 a.2.1
  rw [a.2.2.2] at this
  exact this
theorem row_conj {names : List Int} (hn : n ≤ 20) (hp : IsP n names) {x : Int} (h1 : 1 ≤ x) (h2 : x ≤ n) : at_ (row n (ren (at_ names) g)) (at_ names x) = at_ names (at_ (row n g) x) := by
  obtain ⟨p, hp', e⟩ := partner hg h1 h2
  obtain ⟨a1, a2⟩ := (row_spec hg).2.at1 p hp'
  have m : g2 (at_ names) p ∈ ren (at_ names) g := (List.Perm.mem_iff (sort_perm _)).mpr (List.mem_map.mpr ⟨p, hp', rfl⟩)
  obtain ⟨b1, b2⟩ := (row_spec (ren_Rd hn hp hg)).2.at1 _ m
  unfold g2 at b1 b2
  rcases e with rfl | rfl
  · rw [a1]
    rcases srt2_cases (at_ names p.1) (at_ names p.2) with ⟨c, _⟩ | ⟨c, _⟩ <;> rw [c] at b1 b2
    · exact b1
    · exact b2
  · rw [a2]
    rcases srt2_cases (at_ names p.1) (at_ names p.2) with ⟨c, _⟩ | ⟨c, _⟩ <;> rw [c] at b1 b2
    · exact b2
    · exact b1
end
theorem onethen_ok {n : Nat} {a b : List Int} (ha : IsP n a) (hb : IsP n b) (hn : n ≤ 500) : g_one_then a b = .ret (a.map (at_ b)) := by
  unfold g_one_then
  rw [grd_t _ (lenOk_ok (by rw [ha.len]; omega)), compT_ok (f := at_ b) fun x hx => ?_]
  · rfl
  · have := ha.mem.mp hx
    rw [hb.ix this.1 this.2 rfl]; rfl
theorem onethen_P {n : Nat} {a b : List Int} (ha : IsP n a) (hb : IsP n b) : IsP n (a.map (at_ b)) := by
  have : (a.map (at_ b)).Perm ((ups 1 n).map (at_ b)) := ha.map _
  rw [map_at hb.len] at this
  exact this.trans hb
theorem at_onethen {n : Nat} {a b : List Int} (ha : IsP n a) {x : Int} (h1 : 1 ≤ x) (h2 : x ≤ n) : at_ (a.map (at_ b)) x = at_ b (at_ a x) := by
  have g := ha.get h1 h2
  have : at_ (a.map (at_ b)) x = (a.map (at_ b)).getD (x - 1).toNat 0 := rfl
  rw [this, List.getD_eq_getElem?_getD, List.getElem?_map, g]; rfl
def chk3 (fuel n : Nat) (q : List Int) : Bool := match g_type_of fuel q with
  | .ret k => eqL ieqB k (List.replicate (n / 2) 2)
  | _ => false
def law4 (fuel : Nat) (n : Int) (q : List Int) : Tr (Fl Unit Bool) := (g_type_of fuel q).bind fun kind_48 => ((((grd (lenOk kind_48) (compT (fun length_49 => ((modT (Int.ofNat (countY ieqB length_49 kind_48)) (2 : Int)).bind fun z_50 => Tr.ret (ieqB z_50 (1 : Int))).bind fun z_52 => cond z_52 (Tr.ret (some length_49)) (Tr.ret none)) kind_48)).bind fun z_53 => Tr.ret (Int.ofNat (z_53).length)).bind fun z_54 => Tr.ret (iltB (0 : Int) z_54)).bind fun z_55 => cond z_55 (Tr.ret true) (Tr.ret (memY ieqB (1 : Int) kind_48))).bind fun z_64 => cond z_64 (Tr.ret (.rt false)) (((g_round_length fuel q).bind fun z_59 => (fdivT n (2 : Int)).bind fun z_60 => Tr.ret (iltB z_60 z_59)).bind fun z_62 => cond z_62 (Tr.ret (.rt false)) (Tr.ret (.nx ())))
def isNx : Tr (Fl Unit Bool) → Bool
  | .ret (.nx ()) => true
  | _ => false
theorem isNx_eq {t : Tr (Fl Unit Bool)} (h : isNx t = true) : t = .ret (.nx ()) := by
  cases t with
  | ret o => cases o with
    | nx s => rfl
    | rt r => exact nomatch h
  | _ => exact nomatch h
def rowB (n : Nat) (r : Int) : List Int := row n (rnd (R n) r)
def chk34 (n : Nat) : Bool := (ups 1 (n - 1)).all fun r => chk3 1000 n (rowB n r) && (ups 1 (n - 1)).all fun s => ieqB r s || isNx (law4 1000 n ((rowB n r).map (at_ (rowB n s))))
theorem chk34_2 : chk34 2 = true := by decide +kernel
theorem chk34_4 : chk34 4 = true := by decide +kernel
theorem chk34_6 : chk34 6 = true := by decide +kernel
theorem chk34_8 : chk34 8 = true := by decide +kernel
theorem chk34_ok {n : Nat} (h : Ok n) : chk34 n = true := by
  cases h
  · exact chk34_2
  · exact chk34_4
  · exact chk34_6
  · exact chk34_8
end K97
end
end Ev

/-! L97d -/
set_option maxHeartbeats 2000000
namespace Ev
open PySem L2
noncomputable section
namespace K97
section
variable {n : Nat} {names order : List Int} (ok : Ok n) (hp : IsP n names) (ho : IsP (n - 1) order)
include ok hp ho
abbrev rws (n : Nat) (names order : List Int) : List (List Int) := (plan n names order).map (row n)
theorem rows_ok : foldT (g_law_2 (Int.ofNat n)) (plan n names order) [] = .ret (rws n names order) := by
  have le := ok.le
  have pl := plan_len ok hp ho
  have := foldT_fn (st := g_law_2 (Int.ofNat n)) (fun d => d.map (row n)) (plan n names order) [] fun d x r e => by
    have e : plan n names order = d ++ x :: r := e
    have hx : x ∈ plan n names order := by rw [e]; exact List.mem_append_right _ List.mem_cons_self
    have dl : d.length ≤ (plan n names order).length := by rw [e, List.length_append]; omega
    have rd := plan_Rd ok hp ho x hx
    have rp : repLT [(0 : Int)] (Int.ofNat n) = .ret (List.replicate n 0) := by
      unfold repLT
      have h1 : iltB (Int.ofNat n) 1000000 = true := by rw [iltB_iff]; exact decide_eq_true (by show (n : Int) < _; omega)
      have h2 : iltB (-1000000) (Int.ofNat n) = true := by rw [iltB_iff]; exact decide_eq_true (by show _ < (n : Int); omega)
      have h3 : Nat.ble ([(0 : Int)].length * (Int.ofNat n).toNat) lim = true := by
        rw [Nat.ble_eq]
        show 1 * n ≤ 16777216
        omega
      rw [h1, h2, h3]
      show Tr.ret (repY [(0 : Int)] n) = _
      rw [rep0]
    unfold g_law_2
    rw [rp]
    show (foldT g_law_1 x (List.replicate n 0)).bind _ = _
    rw [(row_spec rd).1]
    show (pushT (d.map (row n)) (row n x)).bind _ = _
    rw [push_ok (by rw [List.length_map]; omega), List.map_append]; rfl
  exact this
/-- the i-th row, and the round of the first plan that it comes of -/
theorem row_ix {i : Int} (h0 : 0 ≤ i) (h1 : i < ((n - 1 : Nat) : Int)) : ixT (rws n names order) i = .ret (row n (ren (at_ names) (rnd (R n) (at_ order (i + 1))))) := by
  have g := ho.get (x := i + 1) (by omega) (by omega)
  refine ix_ok (k := i.toNat) (by show i = ((i.toNat : Nat) : Int); omega) ?_
  unfold rws plan
  rw [List.map_map, List.getElem?_map]
  rw [show (i + 1 - 1).toNat = i.toNat by omega] at g
  rw [g]; rfl
theorem chk_at {r : Int} (h1 : 1 ≤ r) (h2 : r ≤ ((n - 1 : Nat) : Int)) : chk3 1000 n (rowB n r) = true ∧ ∀ s : Int, 1 ≤ s → s ≤ ((n - 1 : Nat) : Int) → r ≠ s → law4 1000 (Int.ofNat n) ((rowB n r).map (at_ (rowB n s))) = .ret (.nx ()) := by
  have c := chk34_ok ok
  unfold chk34 at c
  have := List.all_eq_true.mp c r (by rw [mem_ups]; omega)
  obtain ⟨c1, c2⟩ := Bool.and_eq_true_iff.mp this
  refine ⟨c1, fun s s1 s2 ne => isNx_eq ?_⟩
  have := List.all_eq_true.mp c2 s (by rw [mem_ups]; omega)
  rw [ieqB_i, decide_eq_false ne, Bool.false_or] at this
  exact this
theorem chk3_row {r : Int} (hr : r ∈ order) : g_law_3 1000 (Int.ofNat n) () (row n (ren (at_ names) (rnd (R n) r))) = .ret (.nx ()) := by
  have le := ok.le
  have rb := rnd_base ok hp ho hr
  have rd := ren_Rd (by omega) hp rb
  have p := row_P rd
  have pb := row_P rb
  have hr' := ho.mem.mp hr
  have isord : g_is_order (row n (ren (at_ names) (rnd (R n) r))) = .ret true := by
    have l1 : ileB (1 : Int) (Int.ofNat (row n (ren (at_ names) (rnd (R n) r))).length) = true := by rw [ileB_iff, p.len]; exact decide_eq_true (by show (1 : Int) ≤ (n : Int); omega)
    have l2 : ileB (Int.ofNat (row n (ren (at_ names) (rnd (R n) r))).length) (9 : Int) = true := by rw [ileB_iff, p.len]; exact decide_eq_true (by show (n : Int) ≤ 9; omega)
    unfold g_is_order
    rw [l1, l2]
    show (((grd (lenOk _) (compT (fun item_1 => (g_is_whole (PyData.int item_1)).bind fun d_2 => .ret (some d_2)) _)).bind _).bind _).bind _ = _
    rw [grd_t _ (lenOk_ok (by rw [p.len]; omega)), compT_ok (f := fun _ => true) (fun _ _ => rfl : ∀ x ∈ row n (ren (at_ names) (rnd (R n) r)), (g_is_whole (PyData.int x)).bind (fun d_2 => Tr.ret (some d_2)) = Tr.ret (some true))]
    have e3 : List.all ((row n (ren (at_ names) (rnd (R n) r))).map fun _ => true) id = true := by
      rw [List.all_eq_true]
      intro b hb
      obtain ⟨g, _, rfl⟩ := List.mem_map.mp hb
      rfl
    show (Tr.ret (!List.all ((row n (ren (at_ names) (rnd (R n) r))).map fun _ => true) id)).bind _ = _
    rw [e3]
    show (grd (lenOk _) (Tr.ret (sortY iltB (row n (ren (at_ names) (rnd (R n) r)))))).bind _ = _
    rw [grd_t _ (lenOk_ok (by rw [p.len]; omega))]
    have e1 : rng2T (1 : Int) (Int.ofNat (row n (ren (at_ names) (rnd (R n) r))).length + 1) = .ret (ups 1 (n + 1 - 1)) := rng2_eq (a := 1) (b := n + 1) rfl (by rw [p.len]; rfl) (by omega) (by omega)
    show (rng2T (1 : Int) (Int.ofNat (row n (ren (at_ names) (rnd (R n) r))).length + 1)).bind _ = _
    rw [e1, Nat.add_sub_cancel, sort_is lin_int p (ups_sorted n 1)]
    show Tr.ret (eqL ieqB (ups 1 n) (ups 1 n)) = _
    rw [tells_self (tells_L tells_int)]
  have al := (alike_ok p pb hp (by omega) (fuel := 1000) (by omega) fun x h1 h2 => row_conj rb (by omega) hp h1 h2).1
  have c3 := (chk_at ok hp ho hr'.1 hr'.2).1
  unfold chk3 at c3
  have ty : g_type_of 1000 (row n (ren (at_ names) (rnd (R n) r))) = .ret (List.replicate (n / 2) 2) := by
    rw [al]
    cases e : g_type_of 1000 (row n (rnd (R n) r)) with
    | ret k =>
      have c3 : (match g_type_of 1000 (row n (rnd (R n) r)) with | .ret k => eqL ieqB k (List.replicate (n / 2) 2) | _ => false) = true := c3
      rw [e] at c3
      rw [(tells_L tells_int _ _).mp c3]
    | draw m k =>
      have c3 : (match g_type_of 1000 (row n (rnd (R n) r)) with | .ret k => eqL ieqB k (List.replicate (n / 2) 2) | _ => false) = true := c3
      rw [e] at c3; exact nomatch c3
    | fail =>
      have c3 : (match g_type_of 1000 (row n (rnd (R n) r)) with | .ret k => eqL ieqB k (List.replicate (n / 2) 2) | _ => false) = true := c3
      rw [e] at c3; exact nomatch c3
  have tw : (fdivT (Int.ofNat n) (2 : Int)).bind (fun z_35 => repTT [(2 : Int)] z_35) = .ret (List.replicate (n / 2) 2) := by cases ok <;> kernel_rfl
  unfold g_law_3
  rw [isord]
  show ((((g_turned_back _).bind _).bind _).bind _) = _
  rw [back_ok p (by omega), row_inv rd]
  show ((Tr.ret (!(eqL ieqB) (row n (ren (at_ names) (rnd (R n) r))) (row n (ren (at_ names) (rnd (R n) r))))).bind _ |>.bind _) = _
  rw [tells_self (tells_L tells_int)]
  show ((g_type_of 1000 _).bind fun z_36 => ((fdivT (Int.ofNat n) (2 : Int)).bind fun z_35 => repTT [(2 : Int)] z_35).bind fun z_37 => Tr.ret (!(eqL ieqB) z_36 z_37)).bind _ = _
  rw [ty]
  show (((fdivT (Int.ofNat n) (2 : Int)).bind fun z_35 => repTT [(2 : Int)] z_35).bind fun z_37 => Tr.ret (!(eqL ieqB) (List.replicate (n / 2) 2) z_37)).bind _ = _
  rw [tw]
  show (Tr.ret (!(eqL ieqB) (List.replicate (n / 2) (2 : Int)) (List.replicate (n / 2) 2))).bind _ = _
  rw [tells_self (tells_L tells_int)]; rfl
theorem chk4_row {p : Game} (h0 : 0 ≤ p.1) (h1 : p.1 < p.2) (h2 : p.2 < ((n - 1 : Nat) : Int)) : g_law_4 1000 (Int.ofNat n) (rws n names order) () p = .ret (.nx ()) := by
  have le := ok.le
  have o1 := ho.at_mem (x := p.1 + 1) (by omega) (by omega)
  have o2 := ho.at_mem (x := p.2 + 1) (by omega) (by omega)
  have ne : at_ order (p.1 + 1) ≠ at_ order (p.2 + 1) := fun e => by
    have := ho.inj (x := p.1 + 1) (y := p.2 + 1) (by omega) (by omega) (by omega) (by omega) e
    omega
  have rb1 := rnd_base ok hp ho (ho.mem.mpr o1)
  have rb2 := rnd_base ok hp ho (ho.mem.mpr o2)
  have rd1 := ren_Rd (by omega) hp rb1
  have rd2 := ren_Rd (by omega) hp rb2
  have e1 := row_ix ok hp ho (i := p.1) h0 (by omega)
  have e2 := row_ix ok hp ho (i := p.2) (by omega) h2
  have e3 := onethen_ok (row_P rd1) (row_P rd2) (by omega)
  have P := onethen_P (row_P rd1) (row_P rd2)
  have PB := onethen_P (row_P rb1) (row_P rb2)
  have al := alike_ok P PB hp (by omega) (fuel := 1000) (by omega) fun x x1 x2 => by
    have a := hp.at_mem x1 x2
    have b := row_at rb1 x1 x2
    rw [at_onethen (row_P rd1) a.1 a.2, at_onethen (row_P rb1) x1 x2, row_conj rb1 (by omega) hp x1 x2, row_conj rb2 (by omega) hp b.1 b.2.1]
  have l4 : g_law_4 1000 (Int.ofNat n) (rws n names order) () p = law4 1000 (Int.ofNat n) ((row n (ren (at_ names) (rnd (R n) (at_ order (p.1 + 1))))).map (at_ (row n (ren (at_ names) (rnd (R n) (at_ order (p.2 + 1))))))) := by
    unfold g_law_4
    simp only [e1, e2, bind_r, e3]
    rfl
  rw [l4]
  have := (chk_at ok hp ho o1.1 o1.2).2 _ o2.1 o2.2 ne
  unfold law4 at this ⊢
  rw [al.1, al.2]
  exact this
theorem chk5_row {p : Game} (h0 : 0 ≤ p.1) (h1 : p.1 < p.2) (h2 : p.2 < (n : Int)) : g_law_5 (plan n names order) (rws n names order) () p = .ret (.nx ()) := by
  have le := ok.le
  have pl := plan_len ok hp ho
  have mn : minI (p.1 + 1) (p.2 + 1) = p.1 + 1 := by
    unfold minI
    rw [iltB_iff, decide_eq_false (by omega)]; rfl
  have mx : maxI (p.1 + 1) (p.2 + 1) = p.2 + 1 := by
    unfold maxI
    rw [iltB_iff, decide_eq_true (by omega)]; rfl
  have inpl : (p.1 + 1, p.2 + 1) ∈ (plan n names order).flatten := (List.Perm.mem_iff (plan_flat ok hp ho)).mpr (mem_ag.mpr ⟨by dsimp only; omega, by dsimp only; omega, by dsimp only; omega⟩)
  obtain ⟨g, hg, gm⟩ := List.mem_flatten.mp inpl
  obtain ⟨k, hk⟩ := List.mem_iff_getElem?.mp hg
  obtain ⟨kl, _⟩ := List.getElem?_eq_some_iff.mp hk
  let f : Int → Option Int := fun r => if memY (eqPr ieqB ieqB) (p.1 + 1, p.2 + 1) ((plan n names order).getD r.toNat []) then some r else none
  have rp : ∃ r, ixT ((ups 0 (n - 1)).filterMap f) 0 = .ret r ∧ r ∈ (ups 0 (n - 1)).filterMap f := by
    have m : Int.ofNat k ∈ (ups 0 (n - 1)).filterMap f := by
      refine List.mem_filterMap.mpr ⟨Int.ofNat k, by rw [mem_ups]; show (0 : Int) ≤ (k : Int) ∧ (k : Int) < (0 : Nat) + (n - 1 : Nat); omega, ?_⟩
      show (if memY (eqPr ieqB ieqB) (p.1 + 1, p.2 + 1) ((plan n names order).getD k []) then some (Int.ofNat k) else none) = _
      rw [List.getD_eq_getElem?_getD, hk]
      exact if_pos ((tells_mem tells_PI).mpr gm)
    cases e : (ups 0 (n - 1)).filterMap f with
    | nil => rw [e] at m; exact nomatch m
    | cons a l => exact ⟨a, ix_ok (k := 0) rfl rfl, List.mem_cons_self⟩
  obtain ⟨r, r1, r2⟩ := rp
  obtain ⟨r', m1, m2⟩ := List.mem_filterMap.mp r2
  have m2 : (if memY (eqPr ieqB ieqB) (p.1 + 1, p.2 + 1) ((plan n names order).getD r'.toNat []) then some r' else none) = some r := m2
  by_cases c : memY (eqPr ieqB ieqB) (p.1 + 1, p.2 + 1) ((plan n names order).getD r'.toNat []) = true
  · rw [if_pos c] at m2
    cases m2
    rw [mem_ups] at m1
    have rk : r.toNat < (plan n names order).length := by omega
    have gr : (plan n names order)[r.toNat]? = some ((plan n names order).getD r.toNat []) := by
      rw [List.getD_eq_getElem?_getD, List.getElem?_eq_getElem rk]; rfl
    have gm2 := (tells_mem tells_PI).mp c
    have rd := plan_Rd ok hp ho _ (List.mem_of_getElem? gr)
    have at1 := ((row_spec rd).2.at1 _ gm2).1
    have rp : g_round_of_pair (plan n names order) (p.1 + 1) (p.2 + 1) = .ret r := by
      unfold g_round_of_pair
      rw [mn, mx]
      show ((rng1T (Int.ofNat (plan n names order).length)).bind _).bind _ = _
      rw [pl, rng1_ok (by omega)]
      show (grd (lenOk (ups 0 (n - 1))) _).bind _ = _
      rw [grd_t _ (lenOk_ok (by rw [ups_len]; omega)), compT_some (f := f) fun x hx => ?_]
      · exact r1
      · rw [mem_ups] at hx
        have xk : x.toNat < (plan n names order).length := by omega
        rw [ix_ok (k := x.toNat) (by show x = ((x.toNat : Nat) : Int); omega) (List.getElem?_eq_getElem xk)]
        show cond (memY (eqPr ieqB ieqB) (p.1 + 1, p.2 + 1) (plan n names order)[x.toNat]) (Tr.ret (some x)) (Tr.ret none) = Tr.ret (if memY (eqPr ieqB ieqB) (p.1 + 1, p.2 + 1) ((plan n names order).getD x.toNat []) then some x else none)
        rw [List.getD_eq_getElem?_getD, List.getElem?_eq_getElem xk]
        show _ = Tr.ret (if memY (eqPr ieqB ieqB) (p.1 + 1, p.2 + 1) (plan n names order)[x.toNat] then some x else none)
        cases memY (eqPr ieqB ieqB) (p.1 + 1, p.2 + 1) (plan n names order)[x.toNat] <;> rfl
    unfold g_law_5
    rw [rp]
    show ((ixT (rws n names order) r).bind _ |>.bind _).bind _ = _
    rw [ix_ok (k := r.toNat) (v := row n ((plan n names order).getD r.toNat [])) (by show r = ((r.toNat : Nat) : Int); omega) (by unfold rws; rw [List.getElem?_map, gr]; rfl)]
    show ((ixT (row n ((plan n names order).getD r.toNat [])) p.1).bind _).bind _ = _
    rw [(row_P rd).ix (x := p.1 + 1) (by omega) (by omega) (by omega)]
    show cond (!ieqB (at_ (row n ((plan n names order).getD r.toNat [])) (p.1 + 1)) (p.2 + 1)) _ _ = _
    rw [at1, ieq_self]; rfl
  · rw [if_neg c] at m2; exact nomatch m2
end
def prs (m : Nat) : Rnd := (ups 0 m).flatMap fun i => ((ups 0 m).filter fun j => iltB i j).map fun j => (i, j)
theorem mem_prs {m : Nat} {p : Game} (h : p ∈ prs m) : 0 ≤ p.1 ∧ p.1 < p.2 ∧ p.2 < (m : Int) := by
  unfold prs at h
  obtain ⟨i, hi, h⟩ := List.mem_flatMap.mp h
  obtain ⟨j, hj, rfl⟩ := List.mem_map.mp h
  rw [List.mem_filter, iltB_iff, decide_eq_true_eq, mem_ups] at hj
  rw [mem_ups] at hi
  dsimp only
  omega
theorem pairs_ok {n : Nat} (ok : Ok n) : g__law_pairs_of (Int.ofNat n) = .ret (prs n) ∧ g__law_pairs_of (Int.ofNat (n - 1)) = .ret (prs (n - 1)) := by
  cases ok <;> exact ⟨by kernel_rfl, by kernel_rfl⟩
theorem rest_ok {n : Nat} {names order : List Int} (ok : Ok n) (hp : IsP n names) (ho : IsP (n - 1) order) {X : Tr Bool}
    (hX : X = (((g_ring_plan (Int.ofNat n)).bind fun z_6 => g_renamed_plan (Int.ofNat n) z_6 names).bind fun z_7 => g_swapped_rounds z_7 order).bind fun plan_8 => ((((g_is_plan (Int.ofNat n) plan_8).bind fun z_9 => Tr.ret (PyData.bool z_9)).bind fun z_10 => (g__law_same 12) z_10 (PyData.bool true)).bind fun z_11 => Tr.ret (!z_11)).bind fun z_77 => cond z_77 (Tr.ret false) (((((((g_turned_back order).bind fun z_12 => g_swapped_rounds plan_8 z_12).bind fun z_13 => (g_turned_back names).bind fun z_14 => g_renamed_plan (Int.ofNat n) z_13 z_14).bind fun z_15 => Tr.ret ((eT (eT (eP PyData.int PyData.int))) z_15)).bind fun z_17 => ((g_ring_plan (Int.ofNat n)).bind fun z_16 => Tr.ret ((eT (eT (eP PyData.int PyData.int))) z_16)).bind fun z_18 => (g__law_same 12) z_17 z_18).bind fun z_19 => Tr.ret (!z_19)).bind fun z_76 => cond z_76 (Tr.ret false) ((Tr.ret ([] : List (List (Int)))).bind fun rows_20 => (foldT (g_law_2 (Int.ofNat n)) plan_8 rows_20).bind fun s_30 => (foldM (g_law_3 1000 (Int.ofNat n)) s_30 ()).bind (flT fun s_42 => ((g__law_pairs_of (Int.ofNat (s_30).length)).bind fun z_75 => foldM (g_law_4 1000 (Int.ofNat n) s_30) z_75 ()).bind (flT fun s_65 => ((g__law_pairs_of (Int.ofNat n)).bind fun z_74 => foldM (g_law_5 plan_8 s_30) z_74 ()).bind (flT fun s_73 => Tr.ret true)))))) : X = .ret true := by
  have le := ok.le
  subst hX
  rw [ring_ok ok]
  show ((g_renamed_plan (Int.ofNat n) (R n) names).bind fun z_7 => g_swapped_rounds z_7 order).bind _ = _
  rw [plan_ok ok hp ho]
  show ((((g_is_plan (Int.ofNat n) (plan n names order)).bind _).bind _).bind _).bind _ = _
  rw [isplan_ok ok hp ho]
  show ((g__law_same 12 (PyData.bool true) (PyData.bool true)).bind _).bind _ = _
  rw [same_self 12 0 (PyData.bool true) (by omega) (by decide) rfl, back_ok ho (by omega), back_ok hp (by omega)]
  show ((((g_swapped_rounds (plan n names order) (inv order)).bind fun z_13 => g_renamed_plan (Int.ofNat n) z_13 (inv names)).bind _).bind _ |>.bind _).bind _ = _
  rw [back2_ok ok hp ho]
  show ((g__law_same 12 (eT (eT (eP PyData.int PyData.int)) (R n)) (eT (eT (eP PyData.int PyData.int)) (R n))).bind _).bind _ = _
  rw [same_self 12 4 _ (by omega) (by decide) (small_R ok)]
  show (foldT (g_law_2 (Int.ofNat n)) (plan n names order) []).bind _ = _
  rw [rows_ok ok hp ho]
  show (foldM (g_law_3 1000 (Int.ofNat n)) (rws n names order) ()).bind _ = _
  rw [foldM_nx fun x hx => ?_]
  · show ((g__law_pairs_of (Int.ofNat (rws n names order).length)).bind _).bind _ = _
    have l : (rws n names order).length = n - 1 := by unfold rws; rw [List.length_map]; exact plan_len ok hp ho
    rw [l, (pairs_ok ok).2]
    show (foldM (g_law_4 1000 (Int.ofNat n) (rws n names order)) (prs (n - 1)) ()).bind _ = _
    rw [foldM_nx fun p hp' => ?_]
    · show ((g__law_pairs_of (Int.ofNat n)).bind _).bind _ = _
      rw [(pairs_ok ok).1]
      show (foldM (g_law_5 (plan n names order) (rws n names order)) (prs n) ()).bind _ = _
      rw [foldM_nx fun p hp' => ?_]
      · rfl
      · have m := mem_prs hp'
        exact chk5_row ok hp ho m.1 m.2.1 m.2.2
    · have m := mem_prs hp'
      exact chk4_row ok hp ho m.1 m.2.1 m.2.2
  · unfold rws plan at hx
    rw [List.map_map] at hx
    obtain ⟨r, hr, rfl⟩ := List.mem_map.mp hx
    exact chk3_row ok hp ho hr
theorem law_AL : AL (g_law 1000 12) fun b => b = true := by
  unfold g_law
  refine AL_then (P := fun N => ∃ n, Ok n ∧ N = Int.ofNat n) ?_ fun N ⟨n, ok, e⟩ => ?_
  · refine AL_then (P := fun z => ∃ r : Nat, z = 1 + Int.ofNat r ∧ r < 4) (AL_then (AL_drawT (n := 4) (P := fun i => ∃ r : Nat, i = Int.ofNat r ∧ r < 4) (by omega) (by omega) fun r hr => ⟨r, rfl, hr⟩) fun i ⟨r, e, hr⟩ => AL_pure ⟨r, by rw [e], hr⟩) fun z ⟨r, e, hr⟩ => ?_
    subst e
    match r, hr with
    | 0, _ => exact AL_ret (a := 2) (by rfl) ⟨2, .a, rfl⟩
    | 1, _ => exact AL_ret (a := 4) (by rfl) ⟨4, .b, rfl⟩
    | 2, _ => exact AL_ret (a := 6) (by rfl) ⟨6, .c, rfl⟩
    | 3, _ => exact AL_ret (a := 8) (by rfl) ⟨8, .d, rfl⟩
    | r + 4, hr => omega
  · subst e
    have le := ok.le
    refine AL_then (perm_AL (fuel := 1000) (n := n) (by omega) (by omega)) fun names hp => ?_
    have e : Int.ofNat n - 1 = Int.ofNat (n - 1) := by show (n : Int) - 1 = ((n - 1 : Nat) : Int); omega
    rw [e]
    refine AL_then (perm_AL (fuel := 1000) (n := n - 1) (by omega) (by omega)) fun order ho => ?_
    exact AL_ret (rest_ok ok hp ho rfl) rfl
end K97
def lawDepth : Nat := 12
def lawFuel : Nat := 1000
theorem law_all : AL (lawRun tabT lawFuel lawDepth f_law) YS := law_of (w_law (fuel := 1000) (D := 12) (by decide)) K97.law_AL
end
end Ev

/-! Z97 -/
open PySem PySem.W PySem.Calls PyProof.Rows
set_option Elab.async false
set_option maxRecDepth 100000 in
set_option maxHeartbeats 0 in
theorem PySem.Challenge.cw_changeworlds_k97_whole_rounds_are_orders_holds : PySem.Challenge.rw_changeworlds_k97_whole_rounds_are_orders.Holds := by
  w_on; o_law
  refine HandSHeadRun.head_any (r := Ev.R) (q := view Ev.R.prog [30]) (H := Ev.hk) (ob := Ev.ob) (M := 3000) (loose := Ev.loose) (d := HandSHeadRun.topDef Ev.R.prog 30) (kwd := []) Ev.ob_eq
    (by kernel_rfl) (fun s => by kernel_rfl) Ev.run_ (by kernel_rfl) (by kernel_rfl) (by kernel_rfl) (by rfl) (by first | assumption | decide +kernel) (by decide +kernel) ⟨rfl, rfl, rfl, rfl, rfl, by decide +kernel⟩ ?hw ?hc
  case hw => w_witness2
  case hc =>
    refine L2.walk_ofE (l := PySem.Challenge.rw_changeworlds_k97_whole_rounds_are_orders) (n := 63) (k := Ev.lawDepth + 3) (x := "script") (CX := L2.CX0) rfl (by decide) (by kernel_rfl) ⟨rfl, by decide, by decide⟩ ?F (fun _ _ _ _ z => z)
    intro w mg fa h Y G hmg0
    obtain ⟨K, KX, c⟩ := Y
    have hmg : mg ("law" : PySem.Str) = some (.ref fa) := by
      have e : (HandSHeadRun.topDef Ev.R.prog 30).name = ("law" : PySem.Str) := by kernel_rfl
      rw [← e]
      exact hmg0
    obtain ⟨fd, hb, hF⟩ := Ev.facts (P := (PySem.Challenge.rw_changeworlds_k97_whole_rounds_are_orders).prog) (w := w) KX G hmg c (fuel := Ev.lawFuel) (depth := Ev.lawDepth) Ev.law_all
    exact ⟨K, fd, Ev.spLaw K, KX, hb, fun H a ns hl _ hS => ⟨a, ns, rfl, hS, hl, fun _ => rfl⟩, hF⟩
