import PyProof.Rows.All
import Wide.All
import OpenK.AllK
import Wide.FinOn
import PyProof.P3Statements
import HandS.ForMost
import HandS.Defaults
import HandS.Wide
import HandS.Style
import HandS.Gcd
import HandS.TupAny
import HandS.Conv
import HandS.SortKw
import KE.SortData
import KE.KDictKeyed
import KE.KDictSum
import KE.KDictCopyH
import HandS.DictComp
import HandS.HeadHook2
import KE.KStateDown
import HandS.Ends
import HandS.More
import HandS.Words
import HandS.Head0
import HandS.Head1
import HandS.Head2
import HandS.Head3
import HandS.HeadEnd
import PySem.Challenge.RW_skypasses_k93_whole_failing_and_promises
set_option Elab.async false
set_option linter.all false
/-! Dat: values as plain data (PyData), a def's slots as a list of data, and what the program's constructs do to them. Plain Lean, no heap. -/
namespace Da
open PySem

abbrev Rho := List (Option PyData)
abbrev Dn := Rho → Option PyData
abbrev Dts := Rho → Option Bool
abbrev Dl := Rho → Option (List PyData)
/-- how a block ends -/
inductive Out where
  | nx (r : Rho) | rt (d : PyData) | bk (r : Rho) | ct (r : Rho)
abbrev Dst := Rho → Option Out

def big : Nat := 16777216

/-! ### expressions -/
def dVar (i : Nat) : Dn := fun r => match r[i]? with
  | some o => o
  | none => none
def dC (d : PyData) : Dn := fun _ => some d
def dU (g : PyData → Option PyData) (f : Dn) : Dn := fun r => (f r).bind g
def dB (g : PyData → PyData → Option PyData) (f h : Dn) : Dn := fun r => (f r).bind fun x => (h r).bind fun y => g x y
def aNil : Dl := fun _ => some []
def aCons (f : Dn) (t : Dl) : Dl := fun r => (f r).bind fun x => (t r).bind fun xs => some (x :: xs)
def dTup (a : Dl) : Dn := fun r => (a r).bind fun xs => some (.tuple xs)
def dLst (a : Dl) : Dn := fun r => (a r).bind fun xs => some (.list xs)
def dCall (g : List PyData → Option PyData) (a : Dl) : Dn := fun r => (a r).bind g
/-- a def's arguments put in the order of its parameters: k positional ones, keywords placed by js, defaults ds -/
def dArr (h : List PyData → List PyData) (a : Dl) : Dl := fun r => (a r).map h

/-! ### operators by values -/
def sm (i : Int) : Bool := decide (-18446744073709551616 < i) && decide (i < 18446744073709551616)
def gAdd : PyData → PyData → Option PyData
  | .int a, .int b => some (.int (a + b))
  | _, _ => none
def gSub : PyData → PyData → Option PyData
  | .int a, .int b => some (.int (a - b))
  | _, _ => none
def gMul : PyData → PyData → Option PyData
  | .int a, .int b => if (sm a || sm b) = true then some (.int (a * b)) else none
  | _, _ => none
/-- // by a positive number below 2^64 -/
def gDiv : PyData → PyData → Option PyData
  | .int a, .int b => if 0 < b ∧ b < 18446744073709551616 then some (.int (a / b)) else none
  | _, _ => none
def gMod : PyData → PyData → Option PyData
  | .int a, .int b => if 0 < b then some (.int (a % b)) else none
  | _, _ => none
def gPow : PyData → PyData → Option PyData
  | .int a, .int b => if 0 ≤ b ∧ b ≤ 100 ∧ sm a = true then some (.int (a ^ b.toNat)) else none
  | _, _ => none
def gNeg : PyData → Option PyData
  | .int a => some (.int (-a))
  | _ => none
def gCatT : PyData → PyData → Option PyData
  | .tuple a, .tuple b => if a.length + b.length ≤ big then some (.tuple (a ++ b)) else none
  | _, _ => none
def gCatL : PyData → PyData → Option PyData
  | .list a, .list b => if a.length + b.length ≤ big then some (.list (a ++ b)) else none
  | _, _ => none

/-! ### comparisons -/
def gLt : PyData → PyData → Option PyData
  | .int a, .int b => some (.bool (decide (a < b)))
  | _, _ => none
def gLe : PyData → PyData → Option PyData
  | .int a, .int b => some (.bool (decide (a ≤ b)))
  | _, _ => none
def gGt : PyData → PyData → Option PyData
  | .int a, .int b => some (.bool (decide (b < a)))
  | _, _ => none
def gGe : PyData → PyData → Option PyData
  | .int a, .int b => some (.bool (decide (b ≤ a)))
  | _, _ => none
mutual
/-- no dict in it, and how deep it may be -/
def okD : Nat → PyData → Bool
  | _, .none => true
  | _, .bool _ => true
  | _, .int _ => true
  | _, .str s => PyData.strOk s
  | 0, .list _ => false
  | 0, .tuple _ => false
  | n + 1, .list xs => okDs n xs
  | n + 1, .tuple xs => okDs n xs
  | _, .dict _ => false
def okDs : Nat → List PyData → Bool
  | _, [] => true
  | n, x :: xs => okD n x && okDs n xs
end
def gEq (a b : PyData) : Option PyData := if (okD 8 a && okD 8 b) = true then some (.bool (PyData.eqv a b)) else none
def gNe (a b : PyData) : Option PyData := if (okD 8 a && okD 8 b) = true then some (.bool (!PyData.eqv a b)) else none
def isNon : PyData → Bool
  | .none => true
  | _ => false
def gIsN (a : PyData) : Option PyData := some (.bool (isNon a))
def gNotN (a : PyData) : Option PyData := some (.bool (!isNon a))
def gIsB : PyData → PyData → Option PyData
  | .bool a, .bool b => some (.bool (decide (a = b)))
  | _, _ => none
def gNotB : PyData → PyData → Option PyData
  | .bool a, .bool b => some (.bool (!decide (a = b)))
  | _, _ => none
/-- the ints of a list of ints -/
def ints? : List PyData → Option (List Int)
  | [] => some []
  | .int i :: xs => (ints? xs).map (i :: ·)
  | _ :: _ => none
def seq? : PyData → Option (List PyData)
  | .list xs => some xs
  | .tuple xs => some xs
  | _ => none
/-- an int in a list or tuple of ints -/
def gIn : PyData → PyData → Option PyData
  | .int i, d => (seq? d).bind fun xs => (ints? xs).map fun is => .bool (decide (i ∈ is))
  | _, _ => none
def gNotIn : PyData → PyData → Option PyData
  | .int i, d => (seq? d).bind fun xs => (ints? xs).map fun is => .bool (!decide (i ∈ is))
  | _, _ => none

/-! ### tests -/
def asB : PyData → Option Bool
  | .bool b => some b
  | _ => none
def tV (f : Dn) : Dts := fun r => (f r).bind asB
/-- by truth: ints, lists -/
def truth : PyData → Option Bool
  | .bool b => some b
  | .int i => some (i != 0)
  | .list xs => some (!xs.isEmpty)
  | .tuple xs => some (!xs.isEmpty)
  | _ => none
def tTr (f : Dn) : Dts := fun r => (f r).bind truth
def tAnd (a b : Dts) : Dts := fun r => (a r).bind fun c => if c = true then b r else some false
def tOr (a b : Dts) : Dts := fun r => (a r).bind fun c => if c = true then some true else b r
def tNot (a : Dts) : Dts := fun r => (a r).map fun c => !c
def dAnd (a b : Dn) : Dn := fun r => (a r).bind fun x => (asB x).bind fun c => if c = true then b r else some (.bool false)
def dOr (a b : Dn) : Dn := fun r => (a r).bind fun x => (asB x).bind fun c => if c = true then some (.bool true) else b r
def dNot (a : Dn) : Dn := fun r => (a r).bind fun x => (asB x).bind fun c => some (.bool (!c))
/-- a op b op' c -/
def dChain (g h : PyData → PyData → Option PyData) (a b c : Dn) : Dn := fun r => (a r).bind fun x => (b r).bind fun y => (g x y).bind fun z => (asB z).bind fun k =>
  if k = true then (c r).bind fun w => h y w else some (.bool false)

/-! ### items -/
/-- the place in a row of n items that the index i names -/
def ixN (n : Nat) : Int → Option Nat
  | .ofNat k => if k < n then some k else none
  | .negSucc k => if k < n then some (n - (k + 1)) else none
def gIx : PyData → PyData → Option PyData
  | .list xs, .int i => (ixN xs.length i).bind fun j => xs[j]?
  | .tuple xs, .int i => (ixN xs.length i).bind fun j => xs[j]?
  | _, _ => none
def asI : PyData → Option Int
  | .int i => some i
  | _ => none
/-- xs[lo:hi] of a list, lo and hi not negative -/
def gSl (lo : Nat) (hi : Option Nat) : PyData → Option PyData
  | .list xs => some (.list ((xs.take (hi.getD xs.length)).drop lo))
  | _ => none
def asN : PyData → Option Nat
  | .int i => if 0 ≤ i then some i.toNat else none
  | _ => none
/-- a part of a slice: left out, or a number -/
def pNo : Rho → Option (Option Nat) := fun _ => some none
def pSome (f : Dn) : Rho → Option (Option Nat) := fun r => (f r).bind fun x => (asN x).map some
def dSl (f : Dn) (lo hi : Rho → Option (Option Nat)) : Dn := fun r => (f r).bind fun x => (lo r).bind fun l => (hi r).bind fun h => gSl (l.getD 0) h x

/-! ### built-ins -/
def gLen : List PyData → Option PyData
  | [.list xs] => some (.int xs.length)
  | [.tuple xs] => some (.int xs.length)
  | _ => none
def gAbs : List PyData → Option PyData
  | [.int i] => some (.int (if i < 0 then -i else i))
  | _ => none
def gMax2 : List PyData → Option PyData
  | [.int i, .int j] => some (.int (if j > i then j else i))
  | _ => none
def gMin2 : List PyData → Option PyData
  | [.int i, .int j] => some (.int (if j < i then j else i))
  | _ => none
def gInt : List PyData → Option PyData
  | [.int i] => some (.int i)
  | _ => none
def gGcd : List PyData → Option PyData
  | [.int a, .int b] => some (.int (Nat.gcd a.natAbs b.natAbs : Nat))
  | _ => none
def gSum : List PyData → Option PyData
  | [.list xs] => (ints? xs).map fun is => .int is.sum
  | _ => none
def maxL : Int → List Int → Int
  | m, [] => m
  | m, x :: xs => maxL (if x > m then x else m) xs
def minL : Int → List Int → Int
  | m, [] => m
  | m, x :: xs => minL (if x < m then x else m) xs
def gMax : List PyData → Option PyData
  | [.list xs] => (ints? xs).bind fun is => match is with
    | [] => none
    | x :: r => some (.int (maxL x r))
  | _ => none
/-- min(xs, default=0) -/
def gMin0 : List PyData → Option PyData
  | [.list xs] => (ints? xs).bind fun is => match is with
    | [] => some (.int 0)
    | x :: r => some (.int (minL x r))
  | _ => none
def bools? : List PyData → Option (List Bool)
  | [] => some []
  | .bool i :: xs => (bools? xs).map (i :: ·)
  | _ :: _ => none
def gAll : List PyData → Option PyData
  | [.list xs] => (bools? xs).map fun is => .bool (is.all id)
  | _ => none
def gToL : List PyData → Option PyData
  | [.list xs] => some (.list xs)
  | [.tuple xs] => some (.list xs)
  | _ => none
def gToT : List PyData → Option PyData
  | [.list xs] => some (.tuple xs)
  | [.tuple xs] => some (.tuple xs)
  | _ => none

/-! ### order, sorting -/
mutual
def pLt : PyData → PyData → Bool
  | .int a, .int b => decide (a < b)
  | .list xs, .list ys => pLts xs ys
  | .tuple xs, .tuple ys => pLts xs ys
  | _, _ => false
def pLts : List PyData → List PyData → Bool
  | [], [] => false
  | [], _ :: _ => true
  | _ :: _, [] => false
  | x :: xs, y :: ys => if PyData.eqv x y = true then pLts xs ys else pLt x y
end
mutual
/-- can be compared, place by place: ints, tuples, lists of these -/
def pal : PyData → PyData → Bool
  | .int _, .int _ => true
  | .list xs, .list ys => pals xs ys
  | .tuple xs, .tuple ys => pals xs ys
  | _, _ => false
def pals : List PyData → List PyData → Bool
  | [], _ => true
  | _ :: _, [] => true
  | x :: xs, y :: ys => pal x y && pals xs ys
end
def canSort (xs : List PyData) : Bool := (xs.all fun x => xs.all fun y => pal x y) && xs.all fun x => okD 8 x
def sortL (rev : Bool) (xs : List PyData) : List PyData := xs.mergeSort fun a b => if rev = true then !pLt a b else !pLt b a
def srcL : PyData → Option (List PyData)
  | .list xs => some xs
  | .tuple xs => some xs
  | .dict kvs => some (kvs.map (·.1))
  | _ => none
def gSorted (rev : Bool) : List PyData → Option PyData
  | [d] => (srcL d).bind fun xs => if canSort xs = true then some (.list (sortL rev xs)) else none
  | _ => none

/-! ### dicts -/
mutual
/-- the very same datum (no dicts) -/
def peq : PyData → PyData → Bool
  | .none, .none => true
  | .bool a, .bool b => a == b
  | .int a, .int b => decide (a = b)
  | .str a, .str b => decide (a = b)
  | .list a, .list b => peqs a b
  | .tuple a, .tuple b => peqs a b
  | _, _ => false
def peqs : List PyData → List PyData → Bool
  | [], [] => true
  | a :: as, b :: bs => peq a b && peqs as bs
  | _, _ => false
end
mutual
/-- may be a part of a key: ints and tuples of such -/
def keyD : Nat → PyData → Bool
  | _, .int _ => true
  | n + 1, .tuple xs => keyDs n xs
  | _, _ => false
def keyDs : Nat → List PyData → Bool
  | _, [] => true
  | n, x :: xs => keyD n x && keyDs n xs
end
/-- may be a key: a tuple -/
def isKey : PyData → Bool
  | .tuple xs => keyDs 7 xs
  | _ => false
def getK : List (PyData × PyData) → PyData → Option PyData
  | [], _ => none
  | (k, v) :: r, x => if peq k x = true then some v else getK r x
def putK : List (PyData × PyData) → PyData → PyData → List (PyData × PyData)
  | [], x, v => [(x, v)]
  | (k, u) :: r, x, v => if peq k x = true then (k, v) :: r else (k, u) :: putK r x v
def gDGet : PyData → PyData → Option PyData
  | .dict kvs, k => if isKey k = true then getK kvs k else none
  | _, _ => none
def gDIn : PyData → PyData → Option PyData
  | k, .dict kvs => if isKey k = true then some (.bool (getK kvs k).isSome) else none
  | _, _ => none
def gDNotIn : PyData → PyData → Option PyData
  | k, .dict kvs => if isKey k = true then some (.bool (!(getK kvs k).isSome)) else none
  | _, _ => none
/-- d.get(k) -/
def gDGetN : PyData → PyData → Option PyData
  | .dict kvs, k => if isKey k = true then some ((getK kvs k).getD .none) else none
  | _, _ => none

/-! ### statements -/
def sNext : Dst := fun r => some (.nx r)
def sSeq (a b : Dst) : Dst := fun r => (a r).bind fun o => match o with
  | .nx r' => b r'
  | o => some o
def sRet (f : Dn) : Dst := fun r => (f r).map .rt
def sIf (c : Dts) (a b : Dst) : Dst := fun r => (c r).bind fun k => if k = true then a r else b r
def sBreak : Dst := fun r => some (.bk r)
/-- targets: one slot, or a tuple's items to slots -/
inductive Tg where
  | one (i : Nat) | many (js : List Nat)
def setMany : List Nat → List PyData → Rho → Rho
  | i :: is, d :: ds, r => setMany is ds (r.set i (some d))
  | _, _, r => r
def toTg (t : Tg) (d : PyData) (r : Rho) : Option Rho := match t with
  | .one i => some (r.set i (some d))
  | .many js => match d with
    | .tuple xs => if xs.length = js.length then some (setMany js xs r) else none
    | _ => none
def sAsg (f : Dn) (t : Tg) : Dst := fun r => (f r).bind fun d => (toTg t d r).map .nx
/-- i, j = f, h -/
def sPar (i j : Nat) (f h : Dn) : Dst := fun r => (f r).bind fun x => (h r).bind fun y => some (.nx ((r.set i (some x)).set j (some y)))
def sDrop (f : Dn) : Dst := fun r => (f r).map fun _ => .nx r
/-- the slots js forgotten -/
def wipe (js : List Nat) (r : Rho) : Rho := js.foldl (fun r j => r.set j none) r
def forL (t : Tg) (js : List Nat) (body : Dst) : List PyData → Dst
  | [], r => some (.nx r)
  | d :: ds, r => (toTg t d r).bind fun r1 => (body r1).bind fun o => match o with
    | .nx r2 => forL t js body ds (wipe js r2)
    | .ct r2 => forL t js body ds (wipe js r2)
    | .bk r2 => some (.nx (wipe js r2))
    | .rt d => some (.rt d)
/-- for t in it: body; behind each turn and behind the loop the slots js are forgotten -/
def sFor (t : Tg) (js : List Nat) (it : Dl) (body : Dst) : Dst := fun r => (it r).bind fun ds => forL t js body ds r
def whileN (c : Dts) (js : List Nat) (body : Dst) : Nat → Dst
  | 0, _ => none
  | n + 1, r => (c r).bind fun k => if k = true then (body r).bind fun o => match o with
      | .nx r2 => whileN c js body n (wipe js r2)
      | .ct r2 => whileN c js body n (wipe js r2)
      | .bk r2 => some (.nx (wipe js r2))
      | .rt d => some (.rt d)
    else some (.nx r)
def fuel : Nat := 18446744073709551616
def sWhile (c : Dts) (js : List Nat) (body : Dst) : Dst := fun r => whileN c js body fuel r
/-- changes of the list or dict in slot i -/
def sApp (i : Nat) (f : Dn) : Dst := fun r => match dVar i r with
  | some (.list xs) => (f r).bind fun d => if xs.length < big then some (.nx (r.set i (some (.list (xs ++ [d]))))) else none
  | _ => none
/-- j = i.pop() -/
def sPop (i j : Nat) : Dst := fun r => match dVar i r with
  | some (.list xs) => (xs[xs.length - 1]?).map fun d => .nx ((r.set i (some (.list xs.dropLast))).set j (some d))
  | _ => none
/-- i[h] = f, a list -/
def sSetL (i : Nat) (h f : Dn) : Dst := fun r => (f r).bind fun d => match dVar i r with
  | some (.list xs) => (h r).bind fun x => (asI x).bind fun k => (ixN xs.length k).map fun j => .nx (r.set i (some (.list (xs.set j d))))
  | _ => none
/-- i[h] = f, a dict -/
def sSetD (i : Nat) (h f : Dn) : Dst := fun r => (f r).bind fun d => match dVar i r with
  | some (.dict kvs) => (h r).bind fun k => if isKey k = true ∧ kvs.length < big then some (.nx (r.set i (some (.dict (putK kvs k d))))) else none
  | _ => none
/-- i.setdefault(h, f) -/
def sSetDef (i : Nat) (h f : Dn) : Dst := fun r => match dVar i r with
  | some (.dict kvs) => (h r).bind fun k => (f r).bind fun d => if isKey k = true ∧ kvs.length < big then
      some (.nx (if (getK kvs k).isSome = true then r else r.set i (some (.dict (putK kvs k d))))) else none
  | _ => none
/-- i += f -/
def sAug (i : Nat) (f : Dn) : Dst := fun r => (dVar i r).bind fun x => (f r).bind fun y => (gAdd x y).map fun z => .nx (r.set i (some z))

/-! ### what is walked -/
def itS (f : Dn) : Dl := fun r => (f r).bind seq?
def itR (a b : Int) : List PyData := (List.range (b - a).toNat).map fun k => .int (a + (k : Nat))
def rgOk (i : Int) : Bool := decide (-1000000 ≤ i) && decide (i ≤ 1000000)
def itRng1 (f : Dn) : Dl := fun r => (f r).bind fun x => (asI x).bind fun j => if rgOk j = true then some (itR 0 j) else none
def itRng2 (f h : Dn) : Dl := fun r => (f r).bind fun x => (h r).bind fun y => (asI x).bind fun i => (asI y).bind fun j => if (rgOk i && rgOk j) = true then some (itR i j) else none
def itRev (f : Dn) : Dl := fun r => (f r).bind fun d => match d with
  | .list xs => some xs.reverse
  | _ => none
def enumL : Nat → List PyData → List PyData
  | _, [] => []
  | n, x :: xs => .tuple [.int n, x] :: enumL (n + 1) xs
def itEnum (f : Dn) : Dl := fun r => (f r).bind fun d => match d with
  | .list xs => some (enumL 0 xs)
  | _ => none

/-! ### comprehensions -/
def yes : Dts := fun _ => some true
def compL (t : Tg) (c : Dts) (e : Dn) (r : Rho) : List PyData → Option (List PyData)
  | [] => some []
  | d :: ds => (toTg t d r).bind fun r1 => (c r1).bind fun k =>
    if k = true then (e r1).bind fun x => (compL t c e r ds).map (x :: ·) else compL t c e r ds
/-- [e for t in it if c], own slots js -/
def dComp (t : Tg) (js : List Nat) (it : Dl) (c : Dts) (e : Dn) : Dn := fun r => (it r).bind fun ds => (compL t c e (wipe js r) ds).map .list
/-- {t: v for t in it}, one own slot i -/
def dictL (v : PyData) : List PyData → List (PyData × PyData) → Option (List (PyData × PyData))
  | [], acc => some acc
  | d :: ds, acc => if isKey d = true then dictL v ds (putK acc d v) else none
def dDict (it : Dl) (v : PyData) : Dn := fun r => (it r).bind fun ds => (dictL v ds []).map .dict

/-! ### a def -/
def start (n : Nat) (ds : List PyData) : Rho := ds.map some ++ List.replicate (n - ds.length) none
/-- k parameters, n slots -/
def runD (k n : Nat) (b : Dst) (ds : List PyData) : Option PyData := if ds.length = k then (b (start n ds)).bind fun o => match o with
    | .rt d => some d
    | _ => none
  else none
/-- a block that ends in a return, ahead of which some lists are closed -/
def sFrz (b : Dst) : Dst := fun r => (b r).bind fun o => match o with
  | .rt d => some (.rt d)
  | _ => none
end Da
set_option linter.all false
set_option maxRecDepth 100000
/-! Lay1: how data stand in the heap. -/
namespace Sk
open PySem PySem.Spec PyProof.Rows L2
open Da (Rho Dn Dts Dl Dst Out)

theorem big_eq : Da.big = sizeLine := by rw [sizeLine_eq]; rfl

/-- heaps grow: tuples and frozen things stay -/
structure Gr (H H' : Hp) : Prop where
  tup : ∀ b xs, H b = some (.tup xs) → H' b = some (.tup xs)
  frz : ∀ b o u, H b = some (.frz o u) → H' b = some (.frz o u)
theorem Gr.refl (H : Hp) : Gr H H := ⟨fun _ _ h => h, fun _ _ _ h => h⟩
theorem Gr.trans {H H1 H2 : Hp} (a : Gr H H1) (b : Gr H1 H2) : Gr H H2 := ⟨fun c xs h => b.tup c xs (a.tup c xs h), fun c o u h => b.frz c o u (a.frz c o u h)⟩
theorem Gr.of_same {H H' : Hp} (s : Same H H') : Gr H H' := ⟨fun b _ h => s b _ h, fun b _ _ h => s b _ h⟩
/-- what may be changed: a list, an own dict -/
def Mu (o : Option HO) : Prop := (∃ xs, o = some (.lst xs)) ∨ ∃ φ, o = some (.ext φ)
theorem Mu.mut {o : Option HO} (m : Mu o) : Mut o := by
  rcases m with ⟨xs, rfl⟩ | ⟨φ, rfl⟩ <;> exact True.intro
theorem Gr.upd {H : Hp} {a : Addr} {o : HO} (m : Mu (H a)) : Gr H (L2.upd H a o) := by
  refine ⟨fun b xs h => ?_, fun b ob u h => ?_⟩
  · rw [upd_ne]
    · exact h
    · rintro rfl
      rcases m with ⟨ys, e⟩ | ⟨φ, e⟩ <;> (rw [h] at e; cases e)
  · rw [upd_ne]
    · exact h
    · rintro rfl
      rcases m with ⟨ys, e⟩ | ⟨φ, e⟩ <;> (rw [h] at e; cases e)
theorem Gr.new {H : Hp} {a : Addr} {o : HO} (n : H a = none) : Gr H (L2.upd H a o) :=
  ⟨fun b xs h => by rw [upd_ne (ne_of_none h n)]; exact h, fun b ob u h => by rw [upd_ne (ne_of_none h n)]; exact h⟩
theorem same_new {H : Hp} {a : Addr} {o : HO} (n : H a = none) : Same H (upd H a o) := fun b u h => by rw [upd_ne (ne_of_none h n)]; exact h
/-- a place that was free, written again -/
theorem same_again {H H' : Hp} {a : Addr} {o : HO} (n : H a = none) (s : Same H H') : Same H (upd H' a o) := fun b u h => by rw [upd_ne (ne_of_none h n)]; exact s b u h

theorem sqT_gr {K : PySem.W.Frag} {H H' : Hp} {a : Addr} {xs : List V} (g : Gr H H') (h : SqT K H a xs) : SqT K H' a xs := by
  rcases h with (h | ⟨o, h⟩) | h
  · exact .inl (.inl (g.tup _ _ h))
  · exact .inl (.inr ⟨o, g.frz _ _ _ h⟩)
  · exact .inr h
/-- a list that no one changes any more -/
def FzL (H : Hp) (a : Addr) (xs : List V) : Prop := ∃ o, H a = some (.frz o (.lst xs))
theorem FzL.sq {K : PySem.W.Frag} {H : Hp} {a : Addr} {xs : List V} (h : FzL H a xs) : SqL K H a xs := .inl (.inr h)
theorem FzL.gr {H H' : Hp} {a : Addr} {xs : List V} (g : Gr H H') (h : FzL H a xs) : FzL H' a xs := let ⟨o, e⟩ := h; ⟨o, g.frz _ _ _ e⟩

mutual
/-- the value v is the datum d, and stays it -/
inductive Rp (K : PySem.W.Frag) (H : Hp) : V → PyData → Prop
  | none : Rp K H .non .none
  | bool (b : Bool) : Rp K H (.bl b) (.bool b)
  | num (i : Int) : Rp K H (.int i) (.int i)
  | text (x : Str) : Rp K H (.str x) (.str x)
  | list {a : Addr} {xs : List V} {ds : List PyData} : FzL H a xs → xs.length ≤ sizeLine → Rps K H xs ds → Rp K H (.ref a) (.list ds)
  | tuple {a : Addr} {xs : List V} {ds : List PyData} : SqT K H a xs → xs.length ≤ sizeLine → Rps K H xs ds → Rp K H (.ref a) (.tuple ds)
inductive Rps (K : PySem.W.Frag) (H : Hp) : List V → List PyData → Prop
  | nil : Rps K H [] []
  | cons {v : V} {vs : List V} {d : PyData} {ds : List PyData} : Rp K H v d → Rps K H vs ds → Rps K H (v :: vs) (d :: ds)
end
mutual
theorem Rp.gr {K : PySem.W.Frag} {H H' : Hp} (g : Gr H H') : ∀ (d : PyData) (v : V), Rp K H v d → Rp K H' v d
  | .none, _, h => by cases h; exact .none
  | .bool _, _, h => by cases h; exact .bool _
  | .int _, _, h => by cases h; exact .num _
  | .str _, _, h => by cases h; exact .text _
  | .list ds, _, h => by
    cases h with
    | list h1 h2 h3 => exact .list (h1.gr g) h2 (Rps.gr g ds _ h3)
  | .tuple ds, _, h => by
    cases h with
    | tuple h1 h2 h3 => exact .tuple (sqT_gr g h1) h2 (Rps.gr g ds _ h3)
  | .dict _, _, h => nomatch h
theorem Rps.gr {K : PySem.W.Frag} {H H' : Hp} (g : Gr H H') : ∀ (ds : List PyData) (vs : List V), Rps K H vs ds → Rps K H' vs ds
  | [], _, h => by cases h; exact .nil
  | d :: ds, _, h => by
    cases h with
    | cons h1 h2 => exact .cons (Rp.gr g d _ h1) (Rps.gr g ds _ h2)
end
section
variable {K : PySem.W.Frag} {H : Hp}
theorem Rps.length : ∀ {ds : List PyData} {vs : List V}, Rps K H vs ds → vs.length = ds.length
  | [], _, h => by cases h; rfl
  | d :: ds, _, h => by
    cases h with
    | cons h1 h2 => rw [List.length_cons, List.length_cons, Rps.length h2]
theorem Rps.get : ∀ {ds : List PyData} {vs : List V} {i : Nat} {d : PyData}, Rps K H vs ds → ds[i]? = some d → ∃ v, vs[i]? = some v ∧ Rp K H v d
  | [], _, _, _, _, e => by simp at e
  | d :: ds, _, 0, _, h, e => by
    cases h with
    | cons h1 h2 =>
      simp at e
      subst e
      exact ⟨_, rfl, h1⟩
  | d :: ds, _, i + 1, d', h, e => by
    cases h with
    | cons h1 h2 =>
      obtain ⟨v, e1, e2⟩ := Rps.get (i := i) (d := d') h2 (by simpa using e)
      exact ⟨v, by simpa using e1, e2⟩
theorem Rps.getV : ∀ {ds : List PyData} {vs : List V} {i : Nat} {v : V}, Rps K H vs ds → vs[i]? = some v → ∃ d, ds[i]? = some d ∧ Rp K H v d
  | [], _, _, _, h, e => by cases h; simp at e
  | d :: ds, _, 0, _, h, e => by
    cases h with
    | cons h1 h2 =>
      simp at e
      subst e
      exact ⟨_, rfl, h1⟩
  | d :: ds, _, i + 1, v', h, e => by
    cases h with
    | cons h1 h2 =>
      obtain ⟨v, e1, e2⟩ := Rps.getV (i := i) (v := v') h2 (by simpa using e)
      exact ⟨v, by simpa using e1, e2⟩
theorem Rps.append : ∀ {ds es : List PyData} {vs us : List V}, Rps K H vs ds → Rps K H us es → Rps K H (vs ++ us) (ds ++ es)
  | [], _, _, _, h, k => by cases h; exact k
  | d :: ds, _, _, _, h, k => by
    cases h with
    | cons h1 h2 => exact .cons h1 (h2.append k)
theorem Rps.set : ∀ {ds : List PyData} {vs : List V} {d : PyData} {v : V} (i : Nat), Rps K H vs ds → Rp K H v d → Rps K H (vs.set i v) (ds.set i d)
  | [], _, _, _, _, h, _ => by cases h; exact .nil
  | d :: ds, _, _, _, 0, h, k => by
    cases h with
    | cons h1 h2 => exact .cons k h2
  | d :: ds, _, _, _, i + 1, h, k => by
    cases h with
    | cons h1 h2 => exact .cons h1 (h2.set i k)
theorem Rps.drop : ∀ {ds : List PyData} {vs : List V} (n : Nat), Rps K H vs ds → Rps K H (vs.drop n) (ds.drop n)
  | _, _, 0, h => h
  | [], _, n + 1, h => by cases h; exact .nil
  | d :: ds, _, n + 1, h => by
    cases h with
    | cons h1 h2 => exact h2.drop n
theorem Rps.take : ∀ {ds : List PyData} {vs : List V} (n : Nat), Rps K H vs ds → Rps K H (vs.take n) (ds.take n)
  | _, _, 0, h => .nil
  | [], _, n + 1, h => by cases h; exact .nil
  | d :: ds, _, n + 1, h => by
    cases h with
    | cons h1 h2 => exact .cons h1 (h2.take n)
theorem Rps.dropLast {ds : List PyData} {vs : List V} (h : Rps K H vs ds) : Rps K H vs.dropLast ds.dropLast := by
  rw [List.dropLast_eq_take, List.dropLast_eq_take, h.length]
  exact h.take _
theorem Rps.reverse : ∀ {ds : List PyData} {vs : List V}, Rps K H vs ds → Rps K H vs.reverse ds.reverse
  | [], _, h => by cases h; exact .nil
  | d :: ds, _, h => by
    cases h with
    | cons h1 h2 =>
      rw [List.reverse_cons, List.reverse_cons]
      exact h2.reverse.append (.cons h1 .nil)
theorem Rps.ints : ∀ {ds : List PyData} {vs : List V} {is : List Int}, Rps K H vs ds → Da.ints? ds = some is → vs = is.map V.int
  | [], _, _, h, e => by
    cases h
    simp [Da.ints?] at e
    subst e
    rfl
  | .int i :: ds, _, _, h, e => by
    cases h with
    | cons h1 h2 =>
      cases h1
      simp only [Da.ints?, Option.map_eq_some_iff] at e
      obtain ⟨js, e1, rfl⟩ := e
      rw [List.map_cons, h2.ints e1]
  | .none :: _, _, _, _, e => by simp [Da.ints?] at e
  | .bool _ :: _, _, _, _, e => by simp [Da.ints?] at e
  | .str _ :: _, _, _, _, e => by simp [Da.ints?] at e
  | .list _ :: _, _, _, _, e => by simp [Da.ints?] at e
  | .tuple _ :: _, _, _, _, e => by simp [Da.ints?] at e
  | .dict _ :: _, _, _, _, e => by simp [Da.ints?] at e
theorem Rps.bools : ∀ {ds : List PyData} {vs : List V} {is : List Bool}, Rps K H vs ds → Da.bools? ds = some is → vs = is.map V.bl
  | [], _, _, h, e => by
    cases h
    simp [Da.bools?] at e
    subst e
    rfl
  | .bool i :: ds, _, _, h, e => by
    cases h with
    | cons h1 h2 =>
      cases h1
      simp only [Da.bools?, Option.map_eq_some_iff] at e
      obtain ⟨js, e1, rfl⟩ := e
      rw [List.map_cons, h2.bools e1]
  | .none :: _, _, _, _, e => by simp [Da.bools?] at e
  | .int _ :: _, _, _, _, e => by simp [Da.bools?] at e
  | .str _ :: _, _, _, _, e => by simp [Da.bools?] at e
  | .list _ :: _, _, _, _, e => by simp [Da.bools?] at e
  | .tuple _ :: _, _, _, _, e => by simp [Da.bools?] at e
  | .dict _ :: _, _, _, _, e => by simp [Da.bools?] at e
end
mutual
theorem Rp.dp {K : PySem.W.Frag} {H : Hp} : ∀ (d : PyData) (v : V), Rp K H v d → Dp K H v d
  | .none, _, h => by cases h; exact .non
  | .bool _, _, h => by cases h; exact .bl _
  | .int _, _, h => by cases h; exact .int _
  | .str _, _, h => by cases h; exact .str _
  | .list ds, _, h => by
    cases h with
    | list h1 h2 h3 => exact .lst h1.sq (Rps.dp ds _ h3)
  | .tuple ds, _, h => by
    cases h with
    | tuple h1 h2 h3 => exact .tup h1 (Rps.dp ds _ h3)
  | .dict _, _, h => nomatch h
theorem Rps.dp {K : PySem.W.Frag} {H : Hp} : ∀ (ds : List PyData) (vs : List V), Rps K H vs ds → DpAll K H vs ds
  | [], _, h => by cases h; exact .nil
  | d :: ds, _, h => by
    cases h with
    | cons h1 h2 => exact .cons (Rp.dp d _ h1) (Rps.dp ds _ h2)
end

/-! ### dicts -/
mutual
/-- a datum as a key of the library -/
def keyN : PyData → NestedKey
  | .int i => .num i
  | .tuple xs => .tup (keyNs xs)
  | _ => .none
def keyNs : List PyData → List NestedKey
  | [] => []
  | x :: xs => keyN x :: keyNs xs
end
mutual
theorem keyN_inj : ∀ (n : Nat) (a b : PyData), Da.keyD n a = true → Da.keyD n b = true → keyN a = keyN b → a = b
  | n, .int i, b, ha, hb, e => by
    cases b <;> simp [Da.keyD, keyN] at hb e ⊢
    exact e
  | 0, .tuple xs, b, ha, hb, e => by simp [Da.keyD] at ha
  | n + 1, .tuple xs, b, ha, hb, e => by
    cases b <;> simp [Da.keyD, keyN] at ha hb e ⊢
    exact keyNs_inj n _ _ ha hb e
  | n, .none, b, ha, hb, e => by cases n <;> simp [Da.keyD] at ha
  | n, .bool _, b, ha, hb, e => by cases n <;> simp [Da.keyD] at ha
  | n, .str _, b, ha, hb, e => by cases n <;> simp [Da.keyD] at ha
  | n, .list _, b, ha, hb, e => by cases n <;> simp [Da.keyD] at ha
  | n, .dict _, b, ha, hb, e => by cases n <;> simp [Da.keyD] at ha
theorem keyNs_inj : ∀ (n : Nat) (as bs : List PyData), Da.keyDs n as = true → Da.keyDs n bs = true → keyNs as = keyNs bs → as = bs
  | n, [], [], _, _, _ => rfl
  | n, [], _ :: _, _, _, e => by simp [keyNs] at e
  | n, _ :: _, [], _, _, e => by simp [keyNs] at e
  | n, a :: as, b :: bs, ha, hb, e => by
    simp only [Da.keyDs, Bool.and_eq_true] at ha hb
    simp only [keyNs, List.cons.injEq] at e
    rw [keyN_inj n a b ha.1 hb.1 e.1, keyNs_inj n as bs ha.2 hb.2 e.2]
end
mutual
theorem peq_iff : ∀ (n : Nat) (a b : PyData), Da.keyD n a = true → (Da.peq a b = true ↔ a = b)
  | n, .int i, b, ha => by cases b <;> simp [Da.peq]
  | 0, .tuple xs, b, ha => by simp [Da.keyD] at ha
  | n + 1, .tuple xs, b, ha => by
    cases b with
    | tuple ys =>
      simp only [Da.keyD] at ha
      simp only [Da.peq, PyData.tuple.injEq]
      exact peqs_iff n xs ys ha
    | _ => simp [Da.peq]
  | n, .none, b, ha => by cases n <;> simp [Da.keyD] at ha
  | n, .bool _, b, ha => by cases n <;> simp [Da.keyD] at ha
  | n, .str _, b, ha => by cases n <;> simp [Da.keyD] at ha
  | n, .list _, b, ha => by cases n <;> simp [Da.keyD] at ha
  | n, .dict _, b, ha => by cases n <;> simp [Da.keyD] at ha
theorem peqs_iff : ∀ (n : Nat) (as bs : List PyData), Da.keyDs n as = true → (Da.peqs as bs = true ↔ as = bs)
  | n, [], [], _ => by simp [Da.peqs]
  | n, [], _ :: _, _ => by simp [Da.peqs]
  | n, _ :: _, [], _ => by simp [Da.peqs]
  | n, a :: as, b :: bs, ha => by
    simp only [Da.keyDs, Bool.and_eq_true] at ha
    simp only [Da.peqs, Bool.and_eq_true, List.cons.injEq, peq_iff n a b ha.1, peqs_iff n as bs ha.2]
end
theorem isKey_d {k : PyData} (h : Da.isKey k = true) : Da.keyD 8 k = true := by
  cases k <;> simp [Da.isKey, Da.keyD] at h ⊢
  exact h
theorem key_peq {a b : PyData} (ha : Da.isKey a = true) : Da.peq a b = true ↔ a = b := peq_iff 8 a b (isKey_d ha)
theorem key_inj {a b : PyData} (ha : Da.isKey a = true) (hb : Da.isKey b = true) (e : keyN a = keyN b) : a = b := keyN_inj 8 a b (isKey_d ha) (isKey_d hb) e
mutual
theorem keyN_depth : ∀ (n : Nat) (a : PyData), Da.keyD n a = true → (keyN a).depth ≤ n
  | n, .int i, ha => by simp [keyN, NestedKey.depth]
  | 0, .tuple xs, ha => by simp [Da.keyD] at ha
  | n + 1, .tuple xs, ha => by
    simp only [Da.keyD] at ha
    simp only [keyN, NestedKey.depth]
    exact Nat.succ_le_succ (keyNs_depth n xs ha)
  | n, .none, ha => by cases n <;> simp [Da.keyD] at ha
  | n, .bool _, ha => by cases n <;> simp [Da.keyD] at ha
  | n, .str _, ha => by cases n <;> simp [Da.keyD] at ha
  | n, .list _, ha => by cases n <;> simp [Da.keyD] at ha
  | n, .dict _, ha => by cases n <;> simp [Da.keyD] at ha
theorem keyNs_depth : ∀ (n : Nat) (as : List PyData), Da.keyDs n as = true → NestedKey.depthAll (keyNs as) ≤ n
  | n, [], _ => by simp [keyNs, NestedKey.depthAll]
  | n, a :: as, ha => by
    simp only [Da.keyDs, Bool.and_eq_true] at ha
    simp only [keyNs, NestedKey.depthAll]
    exact Nat.max_le.mpr ⟨keyN_depth n a ha.1, keyNs_depth n as ha.2⟩
end

/-- an entry: the library's key, where the key's tuple stands, the value -/
abbrev Ent := NestedKey × Addr × V
abbrev EntV : List Ent → List (NestedKey × Addr × Value) → Prop := Paired fun e x => e.1 = x.1 ∧ e.2.1 = x.2.1 ∧ RelV e.2.2 x.2.2
/-- an own dict: what its object says -/
def dctφ (P : Program) (w : World) (a : Addr) (es : List Ent) (h : Heap) : Prop :=
  (a == sysModules) = false ∧ ∃ xs, EntV es xs ∧ (xs.map (·.1)).Nodup ∧ ∃ ents ep, h.DictRaw a ents ep ∧ ents.toList = xs.map (entryOfKey (nestedKind P w))
def DctO (P : Program) (w : World) (a : Addr) (es : List Ent) : HO := .ext (dctφ P w a es)
/-- an entry's datum -/
def EntOk (K : PySem.W.Frag) (H : Hp) (e : Ent) (kv : PyData × PyData) : Prop := Da.isKey kv.1 = true ∧ e.1 = keyN kv.1 ∧ Rp K H (.ref e.2.1) kv.1 ∧ Rp K H e.2.2 kv.2
abbrev EntsOk (K : PySem.W.Frag) (H : Hp) : List Ent → List (PyData × PyData) → Prop := Paired (EntOk K H)

/-- a list, a dict that may still be changed -/
def UnL (K : PySem.W.Frag) (H : Hp) (a : Addr) (ds : List PyData) : Prop := ∃ xs, H a = some (.lst xs) ∧ xs.length ≤ sizeLine ∧ Rps K H xs ds
def UnD (P : Program) (w : World) (K : PySem.W.Frag) (H : Hp) (a : Addr) (kvs : List (PyData × PyData)) : Prop := ∃ es, H a = some (DctO P w a es) ∧ es.length ≤ sizeLine ∧ EntsOk K H es kvs
theorem UnL.mu {K : PySem.W.Frag} {H : Hp} {a : Addr} {ds : List PyData} (u : UnL K H a ds) : Mu (H a) := let ⟨xs, e, _⟩ := u; .inl ⟨xs, e⟩
theorem UnD.mu {P : Program} {w : World} {K : PySem.W.Frag} {H : Hp} {a : Addr} {kvs : List (PyData × PyData)} (u : UnD P w K H a kvs) : Mu (H a) := let ⟨_, e, _⟩ := u; .inr ⟨_, e⟩
theorem EntsOk.gr {K : PySem.W.Frag} {H H' : Hp} (g : Gr H H') {es : List Ent} {kvs : List (PyData × PyData)} (h : EntsOk K H es kvs) : EntsOk K H' es kvs :=
  Paired.mapP h fun _ _ z => ⟨z.1, z.2.1, Rp.gr g _ _ z.2.2.1, Rp.gr g _ _ z.2.2.2⟩
theorem UnL.gr {K : PySem.W.Frag} {H H' : Hp} {a : Addr} {ds : List PyData} (g : Gr H H') (e : ∀ o, H a = some o → H' a = some o) (u : UnL K H a ds) : UnL K H' a ds :=
  let ⟨xs, h1, h2, h3⟩ := u; ⟨xs, e _ h1, h2, Rps.gr g _ _ h3⟩
theorem UnD.gr {P : Program} {w : World} {K : PySem.W.Frag} {H H' : Hp} {a : Addr} {kvs : List (PyData × PyData)} (g : Gr H H') (e : ∀ o, H a = some o → H' a = some o) (u : UnD P w K H a kvs) : UnD P w K H' a kvs :=
  let ⟨es, h1, h2, h3⟩ := u; ⟨es, e _ h1, h2, EntsOk.gr g h3⟩

/-- a list of the module itself -/
def KLs (K : PySem.W.Frag) (H : Hp) (a : Addr) (ds : List PyData) : Prop := ∃ xs, (∀ H' : Hp, SqL K H' a xs) ∧ xs.length ≤ sizeLine ∧ Rps K H xs ds

/-- the place: program, world, written part, the heap at the def's entry, the kinds of its slots -/
inductive Kd where
  | val | bor | ownL | ownD
  deriving DecidableEq
structure Ct where
  P : Program
  w : World
  K : PySem.W.Frag
  H0 : Hp
  kd : Nat → Kd
section
variable (C : Ct)
/-- as the datum d now -/
def Tp (H : Hp) (v : V) (d : PyData) : Prop := Rp C.K H v d ∨ (∃ a ds, v = .ref a ∧ d = .list ds ∧ (UnL C.K H a ds ∨ KLs C.K H a ds)) ∨ ∃ a kvs, v = .ref a ∧ d = .dict kvs ∧ UnD C.P C.w C.K H a kvs
end
theorem Tp.same {C : Ct} {H H' : Hp} {v : V} {d : PyData} (s : Same H H') (t : Tp C H v d) : Tp C H' v d := by
  rcases t with t | ⟨a, ds, e1, e2, u⟩ | ⟨a, kvs, e1, e2, u⟩
  · exact .inl (Rp.gr (.of_same s) _ _ t)
  · rcases u with u | ⟨xs, h1, h2, h3⟩
    · exact .inr (.inl ⟨a, ds, e1, e2, .inl (u.gr (.of_same s) (s a))⟩)
    · exact .inr (.inl ⟨a, ds, e1, e2, .inr ⟨xs, h1, h2, Rps.gr (.of_same s) _ _ h3⟩⟩)
  · exact .inr (.inr ⟨a, kvs, e1, e2, u.gr (.of_same s) (s a)⟩)
theorem Tp.list {C : Ct} {H : Hp} {v : V} {ds : List PyData} (t : Tp C H v (.list ds)) : ∃ a xs, v = .ref a ∧ SqL C.K H a xs ∧ xs.length ≤ sizeLine ∧ Rps C.K H xs ds := by
  rcases t with t | ⟨a, es, e1, e2, u⟩ | ⟨a, kvs, e1, e2, u⟩
  · cases t with
    | list h1 h2 h3 => exact ⟨_, _, rfl, h1.sq, h2, h3⟩
  · cases e2
    rcases u with ⟨xs, h1, h2, h3⟩ | ⟨xs, h1, h2, h3⟩
    · exact ⟨a, xs, e1, .of h1, h2, h3⟩
    · exact ⟨a, xs, e1, h1 H, h2, h3⟩
  · cases e2
theorem Tp.tuple {C : Ct} {H : Hp} {v : V} {ds : List PyData} (t : Tp C H v (.tuple ds)) : ∃ a xs, v = .ref a ∧ SqT C.K H a xs ∧ xs.length ≤ sizeLine ∧ Rps C.K H xs ds := by
  rcases t with t | ⟨a, es, e1, e2, u⟩ | ⟨a, kvs, e1, e2, u⟩
  · cases t with
    | tuple h1 h2 h3 => exact ⟨_, _, rfl, h1, h2, h3⟩
  · cases e2
  · cases e2
theorem Tp.int {C : Ct} {H : Hp} {v : V} {i : Int} (t : Tp C H v (.int i)) : v = .int i := by
  rcases t with t | ⟨a, es, e1, e2, u⟩ | ⟨a, kvs, e1, e2, u⟩
  · cases t; rfl
  · cases e2
  · cases e2
theorem Tp.bool {C : Ct} {H : Hp} {v : V} {i : Bool} (t : Tp C H v (.bool i)) : v = .bl i := by
  rcases t with t | ⟨a, es, e1, e2, u⟩ | ⟨a, kvs, e1, e2, u⟩
  · cases t; rfl
  · cases e2
  · cases e2
theorem Tp.dict {C : Ct} {H : Hp} {v : V} {kvs : List (PyData × PyData)} (t : Tp C H v (.dict kvs)) : ∃ a, v = .ref a ∧ UnD C.P C.w C.K H a kvs := by
  rcases t with t | ⟨a, es, e1, e2, u⟩ | ⟨a, k, e1, e2, u⟩
  · exact nomatch t
  · cases e2
  · cases e2; exact ⟨a, e1, u⟩
/-- what is no dict reads as data -/
theorem Tp.dp {C : Ct} {H : Hp} {v : V} {d : PyData} (n : Nat) (h : Da.okD n d = true) (t : Tp C H v d) : Dp C.K H v d := by
  cases d with
  | list ds =>
    obtain ⟨a, xs, rfl, h1, h2, h3⟩ := t.list
    exact .lst h1 (Rps.dp _ _ h3)
  | dict kvs => cases n <;> simp [Da.okD] at h
  | _ =>
    rcases t with t | ⟨a, es, e1, e2, u⟩ | ⟨a, k, e1, e2, u⟩
    · exact Rp.dp _ _ t
    · cases e2
    · cases e2

/-- how a value comes: to stay; a new list; a new dict; stable (as at the def's entry); any -/
inductive Md where
  | val | fre | frd | sta | any
  deriving DecidableEq
def Res (C : Ct) (m : Md) (H H' : Hp) (v : V) (d : PyData) : Prop := match m with
  | .val => Rp C.K H' v d
  | .fre => ∃ a ds, v = .ref a ∧ d = .list ds ∧ H a = none ∧ UnL C.K H' a ds
  | .frd => ∃ a kvs, v = .ref a ∧ d = .dict kvs ∧ H a = none ∧ UnD C.P C.w C.K H' a kvs
  | .sta => Rp C.K H' v d ∨ Tp C C.H0 v d
  | .any => Tp C H' v d

/-! ### the slots -/
structure Env (C : Ct) (H : Hp) (σ : L2.St) (r : Rho) : Prop where
  ext : Same C.H0 H
  len : σ.length = r.length
  val : ∀ i d, r[i]? = some (some d) → C.kd i = .val → ∃ v, σ[i]? = some (some v) ∧ Rp C.K H v d
  bor : ∀ i d, r[i]? = some (some d) → C.kd i = .bor → ∃ v, σ[i]? = some (some v) ∧ Tp C C.H0 v d
  ownL : ∀ i d, r[i]? = some (some d) → C.kd i = .ownL → ∃ a ds, d = .list ds ∧ σ[i]? = some (some (.ref a)) ∧ C.H0 a = none ∧ UnL C.K H a ds
  ownD : ∀ i d, r[i]? = some (some d) → C.kd i = .ownD → ∃ a kvs, d = .dict kvs ∧ σ[i]? = some (some (.ref a)) ∧ C.H0 a = none ∧ UnD C.P C.w C.K H a kvs
  sep : ∀ i j a d e, r[i]? = some (some d) → r[j]? = some (some e) → (C.kd i = .ownL ∨ C.kd i = .ownD) → (C.kd j = .ownL ∨ C.kd j = .ownD) →
    σ[i]? = some (some (.ref a)) → σ[j]? = some (some (.ref a)) → i = j
theorem dVar_eq {i : Nat} {r : Rho} {d : PyData} : Da.dVar i r = some d ↔ r[i]? = some (some d) := by
  unfold Da.dVar
  cases e : r[i]? with
  | none => simp
  | some o => cases o <;> simp
section
variable {C : Ct} {H H' : Hp} {σ : L2.St} {r : Rho}
theorem Env.same (e : Env C H σ r) (s : Same H H') : Env C H' σ r where
  ext := e.ext.trans s
  len := e.len
  val := fun i d h k => let ⟨v, h1, h2⟩ := e.val i d h k; ⟨v, h1, Rp.gr (.of_same s) _ _ h2⟩
  bor := e.bor
  ownL := fun i d h k => let ⟨a, ds, h1, h2, h3, h4⟩ := e.ownL i d h k; ⟨a, ds, h1, h2, h3, h4.gr (.of_same s) (s a)⟩
  ownD := fun i d h k => let ⟨a, ds, h1, h2, h3, h4⟩ := e.ownD i d h k; ⟨a, ds, h1, h2, h3, h4.gr (.of_same s) (s a)⟩
  sep := e.sep
/-- fewer things known, slots that are not known may be anything -/
theorem Env.less {σ' : L2.St} {r' : Rho} (e : Env C H σ r) (hl : σ'.length = r'.length) (h : ∀ (i : Nat) (d : PyData), r'[i]? = some (some d) → r[i]? = some (some d) ∧ σ'[i]? = σ[i]?) : Env C H σ' r' where
  ext := e.ext
  len := hl
  val := fun i d q k => by rw [(h i d q).2]; exact e.val i d (h i d q).1 k
  bor := fun i d q k => by rw [(h i d q).2]; exact e.bor i d (h i d q).1 k
  ownL := fun i d q k => by rw [(h i d q).2]; exact e.ownL i d (h i d q).1 k
  ownD := fun i d q k => by rw [(h i d q).2]; exact e.ownD i d (h i d q).1 k
  sep := fun i j a d d' q q' k k' s s' => e.sep i j a d d' (h i d q).1 (h j d' q').1 k k' (by rw [← (h i d q).2]; exact s) (by rw [← (h j d' q').2]; exact s')
theorem set_some {r : Rho} {i j : Nat} {o : Option PyData} {d : PyData} (h : (r.set i o)[j]? = some (some d)) : (j = i ∧ o = some d ∧ i < r.length) ∨ (j ≠ i ∧ r[j]? = some (some d)) := by
  by_cases e : j = i
  · subst e
    by_cases hl : j < r.length
    · rw [List.getElem?_set_self hl] at h
      exact .inl ⟨rfl, Option.some.inj h, hl⟩
    · rw [List.getElem?_eq_none (by simpa using hl)] at h
      cases h
  · rw [List.getElem?_set_ne (fun q => e q.symm)] at h
    exact .inr ⟨e, h⟩
theorem Env.set (e : Env C H σ r) {i : Nat} {v : V} {d : PyData} (k : C.kd i = .val) (p : Rp C.K H v d) : Env C H (σ.set i (some v)) (r.set i (some d)) where
  ext := e.ext
  len := by rw [List.length_set, List.length_set]; exact e.len
  val := fun j d' q kj => by
    rcases set_some q with ⟨rfl, h1, h2⟩ | ⟨h1, h2⟩
    · cases h1
      exact ⟨v, List.getElem?_set_self (by rw [e.len]; exact h2), p⟩
    · rw [List.getElem?_set_ne (fun z => h1 z.symm)]
      exact e.val j d' h2 kj
  bor := fun j d' q kj => by
    rcases set_some q with ⟨rfl, h1, h2⟩ | ⟨h1, h2⟩
    · rw [k] at kj; cases kj
    · rw [List.getElem?_set_ne (fun z => h1 z.symm)]
      exact e.bor j d' h2 kj
  ownL := fun j d' q kj => by
    rcases set_some q with ⟨rfl, h1, h2⟩ | ⟨h1, h2⟩
    · rw [k] at kj; cases kj
    · rw [List.getElem?_set_ne (fun z => h1 z.symm)]
      exact e.ownL j d' h2 kj
  ownD := fun j d' q kj => by
    rcases set_some q with ⟨rfl, h1, h2⟩ | ⟨h1, h2⟩
    · rw [k] at kj; cases kj
    · rw [List.getElem?_set_ne (fun z => h1 z.symm)]
      exact e.ownD j d' h2 kj
  sep := fun j l a d1 d2 q1 q2 k1 k2 s1 s2 => by
    rcases set_some q1 with ⟨rfl, h1, h2⟩ | ⟨h1, h2⟩
    · rw [k] at k1; rcases k1 with z | z <;> cases z
    · rcases set_some q2 with ⟨rfl, h3, h4⟩ | ⟨h3, h4⟩
      · rw [k] at k2; rcases k2 with z | z <;> cases z
      · rw [List.getElem?_set_ne (fun z => h1 z.symm)] at s1
        rw [List.getElem?_set_ne (fun z => h3 z.symm)] at s2
        exact e.sep j l a d1 d2 h2 h4 k1 k2 s1 s2
/-- is not the address of an owned slot but i -/
def Free (C : Ct) (σ : L2.St) (r : Rho) (i : Nat) (a : Addr) : Prop := ∀ j d, j ≠ i → r[j]? = some (some d) → (C.kd j = .ownL ∨ C.kd j = .ownD) → σ[j]? ≠ some (some (.ref a))
theorem Env.free (e : Env C H σ r) {i : Nat} {a : Addr} (n : H a = none) : Free C σ r i a := fun j d _ q k s => by
  rcases k with k | k
  · obtain ⟨b, ds, _, h2, _, xs, h3, _⟩ := e.ownL j d q k
    rw [s] at h2; cases h2
    rw [n] at h3; cases h3
  · obtain ⟨b, ds, _, h2, _, xs, h3, _⟩ := e.ownD j d q k
    rw [s] at h2; cases h2
    rw [n] at h3; cases h3
theorem Env.setL (e : Env C H σ r) {i : Nat} {a : Addr} {ds : List PyData} (k : C.kd i = .ownL) (h0 : C.H0 a = none) (u : UnL C.K H a ds) (f : Free C σ r i a) :
    Env C H (σ.set i (some (.ref a))) (r.set i (some (.list ds))) where
  ext := e.ext
  len := by rw [List.length_set, List.length_set]; exact e.len
  val := fun j d' q kj => by
    rcases set_some q with ⟨rfl, h1, h2⟩ | ⟨h1, h2⟩
    · rw [k] at kj; cases kj
    · rw [List.getElem?_set_ne (fun z => h1 z.symm)]
      exact e.val j d' h2 kj
  bor := fun j d' q kj => by
    rcases set_some q with ⟨rfl, h1, h2⟩ | ⟨h1, h2⟩
    · rw [k] at kj; cases kj
    · rw [List.getElem?_set_ne (fun z => h1 z.symm)]
      exact e.bor j d' h2 kj
  ownL := fun j d' q kj => by
    rcases set_some q with ⟨rfl, h1, h2⟩ | ⟨h1, h2⟩
    · cases h1
      exact ⟨a, ds, rfl, List.getElem?_set_self (by rw [e.len]; exact h2), h0, u⟩
    · rw [List.getElem?_set_ne (fun z => h1 z.symm)]
      exact e.ownL j d' h2 kj
  ownD := fun j d' q kj => by
    rcases set_some q with ⟨rfl, h1, h2⟩ | ⟨h1, h2⟩
    · rw [k] at kj; cases kj
    · rw [List.getElem?_set_ne (fun z => h1 z.symm)]
      exact e.ownD j d' h2 kj
  sep := fun j l b d1 d2 q1 q2 k1 k2 s1 s2 => by
    rcases set_some q1 with ⟨rfl, h1, h2⟩ | ⟨h1, h2⟩
    · rcases set_some q2 with ⟨rfl, h3, h4⟩ | ⟨h3, h4⟩
      · rfl
      · rw [List.getElem?_set_self (by rw [e.len]; exact h2)] at s1
        cases s1
        rw [List.getElem?_set_ne (fun z => h3 z.symm)] at s2
        exact absurd s2 (f l d2 h3 h4 k2)
    · rw [List.getElem?_set_ne (fun z => h1 z.symm)] at s1
      rcases set_some q2 with ⟨rfl, h3, h4⟩ | ⟨h3, h4⟩
      · rw [List.getElem?_set_self (by rw [e.len]; exact h4)] at s2
        cases s2
        exact absurd s1 (f j d1 h1 h2 k1)
      · rw [List.getElem?_set_ne (fun z => h3 z.symm)] at s2
        exact e.sep j l b d1 d2 h2 h4 k1 k2 s1 s2
theorem Env.setD (e : Env C H σ r) {i : Nat} {a : Addr} {ds : List (PyData × PyData)} (k : C.kd i = .ownD) (h0 : C.H0 a = none) (u : UnD C.P C.w C.K H a ds) (f : Free C σ r i a) :
    Env C H (σ.set i (some (.ref a))) (r.set i (some (.dict ds))) where
  ext := e.ext
  len := by rw [List.length_set, List.length_set]; exact e.len
  val := fun j d' q kj => by
    rcases set_some q with ⟨rfl, h1, h2⟩ | ⟨h1, h2⟩
    · rw [k] at kj; cases kj
    · rw [List.getElem?_set_ne (fun z => h1 z.symm)]
      exact e.val j d' h2 kj
  bor := fun j d' q kj => by
    rcases set_some q with ⟨rfl, h1, h2⟩ | ⟨h1, h2⟩
    · rw [k] at kj; cases kj
    · rw [List.getElem?_set_ne (fun z => h1 z.symm)]
      exact e.bor j d' h2 kj
  ownL := fun j d' q kj => by
    rcases set_some q with ⟨rfl, h1, h2⟩ | ⟨h1, h2⟩
    · rw [k] at kj; cases kj
    · rw [List.getElem?_set_ne (fun z => h1 z.symm)]
      exact e.ownL j d' h2 kj
  ownD := fun j d' q kj => by
    rcases set_some q with ⟨rfl, h1, h2⟩ | ⟨h1, h2⟩
    · cases h1
      exact ⟨a, ds, rfl, List.getElem?_set_self (by rw [e.len]; exact h2), h0, u⟩
    · rw [List.getElem?_set_ne (fun z => h1 z.symm)]
      exact e.ownD j d' h2 kj
  sep := fun j l b d1 d2 q1 q2 k1 k2 s1 s2 => by
    rcases set_some q1 with ⟨rfl, h1, h2⟩ | ⟨h1, h2⟩
    · rcases set_some q2 with ⟨rfl, h3, h4⟩ | ⟨h3, h4⟩
      · rfl
      · rw [List.getElem?_set_self (by rw [e.len]; exact h2)] at s1
        cases s1
        rw [List.getElem?_set_ne (fun z => h3 z.symm)] at s2
        exact absurd s2 (f l d2 h3 h4 k2)
    · rw [List.getElem?_set_ne (fun z => h1 z.symm)] at s1
      rcases set_some q2 with ⟨rfl, h3, h4⟩ | ⟨h3, h4⟩
      · rw [List.getElem?_set_self (by rw [e.len]; exact h4)] at s2
        cases s2
        exact absurd s1 (f j d1 h1 h2 k1)
      · rw [List.getElem?_set_ne (fun z => h3 z.symm)] at s2
        exact e.sep j l b d1 d2 h2 h4 k1 k2 s1 s2
/-- a slot's data forgotten -/
theorem Env.drop1 (e : Env C H σ r) (i : Nat) : Env C H σ (r.set i none) := e.less (by rw [List.length_set]; exact e.len) fun j d q => by
  rcases set_some q with ⟨_, h, _⟩ | ⟨_, h⟩
  · cases h
  · exact ⟨h, rfl⟩
theorem Env.wipe (e : Env C H σ r) : ∀ js : List Nat, Env C H σ (Da.wipe js r) := fun js => by
  unfold Da.wipe
  induction js generalizing r with
  | nil => exact e
  | cons j js ih => exact ih (e.drop1 j)
/-- a changed thing of slot i, its data forgotten meanwhile -/
theorem Env.upd {i : Nat} {a : Addr} {o : HO} (e : Env C H σ r) (h0 : C.H0 a = none) (m : Mu (H a)) (f : Free C σ r i a) : Env C (L2.upd H a o) σ (r.set i none) where
  ext := fun b u h => by rw [upd_ne (ne_of_none h h0)]; exact e.ext b u h
  len := by rw [List.length_set]; exact e.len
  val := fun j d q k => by
    rcases set_some q with ⟨_, h, _⟩ | ⟨_, h⟩
    · cases h
    · obtain ⟨v, h1, h2⟩ := e.val j d h k
      exact ⟨v, h1, Rp.gr (.upd m) _ _ h2⟩
  bor := fun j d q k => by
    rcases set_some q with ⟨_, h, _⟩ | ⟨_, h⟩
    · cases h
    · exact e.bor j d h k
  ownL := fun j d q k => by
    rcases set_some q with ⟨_, h, _⟩ | ⟨hn, h⟩
    · cases h
    · obtain ⟨b, ds, h1, h2, h3, h4⟩ := e.ownL j d h k
      refine ⟨b, ds, h1, h2, h3, h4.gr (.upd m) fun o q => ?_⟩
      rw [upd_ne]
      · exact q
      · rintro rfl
        exact f j d hn h (.inl k) h2
  ownD := fun j d q k => by
    rcases set_some q with ⟨_, h, _⟩ | ⟨hn, h⟩
    · cases h
    · obtain ⟨b, ds, h1, h2, h3, h4⟩ := e.ownD j d h k
      refine ⟨b, ds, h1, h2, h3, h4.gr (.upd m) fun o q => ?_⟩
      rw [upd_ne]
      · exact q
      · rintro rfl
        exact f j d hn h (.inr k) h2
  sep := (e.drop1 i).sep
theorem Env.free_own (e : Env C H σ r) {i : Nat} {a : Addr} {d : PyData} (q : r[i]? = some (some d)) (k : C.kd i = .ownL ∨ C.kd i = .ownD) (s : σ[i]? = some (some (.ref a))) : Free C σ r i a :=
  fun j d' hn q' k' s' => hn (e.sep j i a d' d q' q k' k s' s)
end

/-- the script, at the law's entry -/
theorem Tp.script {C : Ct} {H : Hp} {a : Addr} {ns : List Int} (o : Only H) (l : ns.length ≤ sizeLine) (h : SqL C.K H a (ns.map V.int)) : Tp C H (.ref a) (.list (ns.map .int)) := by
  have rs : Rps C.K H (ns.map V.int) (ns.map .int) := by
    induction ns with
    | nil => exact .nil
    | cons n ns ih => exact .cons (.num n) (by
        clear h
        have : ∀ l : List Int, Rps C.K H (l.map V.int) (l.map .int) := fun l => by
          induction l with
          | nil => exact .nil
          | cons m l ih => exact .cons (.num m) ih
        exact this ns)
  have z : (ns.map V.int).length ≤ sizeLine := by rw [List.length_map]; exact l
  rcases h with (h | ⟨ob, h⟩) | h
  · rcases o a with q | ⟨ob, ys, q⟩
    · rw [h] at q; cases q
    · rw [h] at q; cases q
  · exact .inl (.list ⟨ob, h⟩ z rs)
  · exact .inr (.inl ⟨a, _, rfl, rfl, .inr ⟨_, fun _ => .inr h, z, rs⟩⟩)
end Sk
set_option linter.all false
set_option maxRecDepth 100000
/-! Lay2: expressions. -/
namespace Sk
open PySem PySem.Spec PyProof.Rows L2
open Da (Rho Dn Dts Dl Dst Out)

/-! ### readings -/
def tD (C : Ct) (m : Md) (f : Dn) : TE := fun σ H Q => ∃ r d, Env C H σ r ∧ f r = some d ∧ ∀ v H', Same H H' → Res C m H H' v d → Q v H'
def tQ (C : Ct) (f : Dts) : TT := fun σ H Q => ∃ r b, Env C H σ r ∧ f r = some b ∧ ∀ H', Same H H' → Q b H'
/-- values of arguments: true where the value is to stay -/
inductive Args (C : Ct) (H : Hp) : List Bool → List V → List PyData → Prop
  | nil : Args C H [] [] []
  | val {v : V} {d : PyData} {ms : List Bool} {vs : List V} {ds : List PyData} : Rp C.K H v d → Args C H ms vs ds → Args C H (true :: ms) (v :: vs) (d :: ds)
  | any {v : V} {d : PyData} {ms : List Bool} {vs : List V} {ds : List PyData} : Tp C H v d → Args C H ms vs ds → Args C H (false :: ms) (v :: vs) (d :: ds)
def tA (C : Ct) (ms : List Bool) (f : Dl) : TA := fun σ H Q => ∃ r ds, Env C H σ r ∧ f r = some ds ∧ ∀ vs H', Same H H' → Args C H' ms vs ds → Q vs H'
abbrev cx (X : Cx) (H0 : Hp) (kd : Nat → Kd) : Ct := ⟨X.prog, X.w, X.K, H0, kd⟩
/-- the expression e: its data f, coming as m -/
abbrev DE (X : Cx) (H0 : Hp) (kd : Nat → Kd) (m : Md) (e : Expr) (f : Dn) : Prop := PE X e (tD (cx X H0 kd) m f)
abbrev DT (X : Cx) (H0 : Hp) (kd : Nat → Kd) (e : Expr) (f : Dts) : Prop := PT X e (tQ (cx X H0 kd) f)
abbrev DW (X : Cx) (H0 : Hp) (kd : Nat → Kd) (e : Expr) (f : Dts) : Prop := PW X e (tQ (cx X H0 kd) f)
abbrev DA (X : Cx) (H0 : Hp) (kd : Nat → Kd) (ms : List Bool) (es : List Expr) (f : Dl) : Prop := PA X es (tA (cx X H0 kd) ms f)
abbrev DK (X : Cx) (H0 : Hp) (kd : Nat → Kd) (ms : List Bool) (ks : List Keyword) (f : Dl) : Prop := PK X ks (tA (cx X H0 kd) ms f)

theorem PE.imp {X : Cx} {e : Expr} {t t' : TE} (h : PE X e t) (i : ∀ σ H Q, t' σ H Q → t σ H Q) : PE X e t' := ⟨fun pins s σ H Q I q => h.run pins s σ H Q I (i σ H Q q)⟩
theorem PT.imp {X : Cx} {e : Expr} {t t' : TT} (h : PT X e t) (i : ∀ σ H Q, t' σ H Q → t σ H Q) : PT X e t' := ⟨fun pins s σ H Q I q => h.run pins s σ H Q I (i σ H Q q)⟩
theorem PW.imp {X : Cx} {e : Expr} {t t' : TT} (h : PW X e t) (i : ∀ σ H Q, t' σ H Q → t σ H Q) : PW X e t' := ⟨fun w pins s σ H Q I q => h.run w pins s σ H Q I (i σ H Q q)⟩
theorem PA.imp {X : Cx} {es : List Expr} {t t' : TA} (h : PA X es t) (i : ∀ σ H Q, t' σ H Q → t σ H Q) : PA X es t' := ⟨fun p pins s σ H Q I q => h.run p pins s σ H Q I (i σ H Q q)⟩
theorem PK.imp {X : Cx} {es : List Keyword} {t t' : TA} (h : PK X es t) (i : ∀ σ H Q, t' σ H Q → t σ H Q) : PK X es t' := ⟨fun p pins s σ H Q I q => h.run p pins s σ H Q I (i σ H Q q)⟩
theorem PS.imp {X : Cx} {e : Stmt} {t t' : TS} (h : PS X e t) (i : ∀ D σ H, t' D σ H → t D σ H) : PS X e t' := ⟨fun pins s σ H D I q => h.run pins s σ H D I (i D σ H q)⟩
theorem PSs.imp {X : Cx} {e : List Stmt} {t t' : TS} (h : PSs X e t) (i : ∀ D σ H, t' D σ H → t D σ H) : PSs X e t' := ⟨fun pins s σ H D I q => h.run pins s σ H D I (i D σ H q)⟩
theorem PI.imp {X : Cx} {tg e : Expr} {t t' : TI} (h : PI X tg e t) (i : ∀ σ H Q, t' σ H Q → t σ H Q) : PI X tg e t' := ⟨fun pins s σ H Q I q => h.run pins s σ H Q I (i σ H Q q)⟩
theorem PG.imp {X : Cx} {tg : Expr} {t t' : TG} (h : PG X tg t) (i : ∀ v σ H Q, t' v σ H Q → t v σ H Q) : PG X tg t' := ⟨fun pins s σ H v u Q I r q => h.run pins s σ H v u Q I r (i v σ H Q q)⟩

section
variable {C : Ct} {H H' : Hp}
theorem Res.any {m : Md} {v : V} {d : PyData} (s : Same H H') (s0 : Same C.H0 H) (h : Res C m H H' v d) : Tp C H' v d := by
  cases m with
  | val => exact .inl h
  | fre => obtain ⟨a, ds, e1, e2, n, u⟩ := h; exact .inr (.inl ⟨a, ds, e1, e2, .inl u⟩)
  | frd => obtain ⟨a, ds, e1, e2, n, u⟩ := h; exact .inr (.inr ⟨a, ds, e1, e2, u⟩)
  | sta =>
    rcases h with h | h
    · exact .inl h
    · exact h.same (s0.trans s)
  | any => exact h
end

section
variable {X : Cx} {H0 : Hp} {kd : Nat → Kd} {e a b c : Expr} {pos : Pos} {m : Md} {f g h : Dn}
/-! ### modes -/
theorem de_any (p : DE X H0 kd m e f) : DE X H0 kd .any e f := PE.imp p fun σ H Q ⟨r, d, env, ef, k⟩ => ⟨r, d, env, ef, fun v H' s q => k v H' s (q.any s env.ext)⟩
theorem de_sta (p : DE X H0 kd .val e f) : DE X H0 kd .sta e f := PE.imp p fun σ H Q ⟨r, d, env, ef, k⟩ => ⟨r, d, env, ef, fun v H' s q => k v H' s (.inl q)⟩
/-- a new list is closed: it stays as it is from now on -/
theorem de_frz (p : DE X H0 kd .fre e f) : DE X H0 kd .val e f := by
  refine ⟨fun pins s σ H Q I ⟨r, d, env, ef, k⟩ => ?_⟩
  refine thn (p.run pins s σ H (fun v H' => Same H H' ∧ ∃ a ds, v = .ref a ∧ d = .list ds ∧ H a = none ∧ UnL X.K H' a ds) I ⟨r, d, env, ef, fun v H' sm q => ⟨sm, q⟩⟩) fun u s' ⟨v, H', I', rv, sm, a, ds, e1, e2, n, xs, h1, h2, h3⟩ => ?_
  obtain ⟨od, I2⟩ := I'.lock h1 True.intro
  refine ⟨v, _, I2, rv, k v _ (same_again n sm) ?_⟩
  subst e1 e2
  exact .list ⟨od, upd_same⟩ h2 (Rps.gr (.upd (.inl ⟨_, h1⟩)) _ _ h3)

/-! ### names, constants -/
theorem de_v {i : Nat} (p : PE X e (tVar i)) (k : kd i = .val) : DE X H0 kd .val e (Da.dVar i) := PE.imp p fun σ H Q ⟨r, d, env, ef, q⟩ => by
  obtain ⟨v, h1, h2⟩ := env.val i d (dVar_eq.mp ef) k
  exact ⟨v, h1, q v H (Same.refl H) h2⟩
theorem de_b {i : Nat} (p : PE X e (tVar i)) (k : kd i = .bor) : DE X H0 kd .sta e (Da.dVar i) := PE.imp p fun σ H Q ⟨r, d, env, ef, q⟩ => by
  obtain ⟨v, h1, h2⟩ := env.bor i d (dVar_eq.mp ef) k
  exact ⟨v, h1, q v H (Same.refl H) (.inr h2)⟩
theorem de_o {i : Nat} (p : PE X e (tVar i)) (k : kd i = .ownL) : DE X H0 kd .any e (Da.dVar i) := PE.imp p fun σ H Q ⟨r, d, env, ef, q⟩ => by
  obtain ⟨a, ds, h1, h2, h3, h4⟩ := env.ownL i d (dVar_eq.mp ef) k
  exact ⟨_, h2, q _ H (Same.refl H) (.inr (.inl ⟨a, ds, rfl, h1, .inl h4⟩))⟩
theorem de_od {i : Nat} (p : PE X e (tVar i)) (k : kd i = .ownD) : DE X H0 kd .any e (Da.dVar i) := PE.imp p fun σ H Q ⟨r, d, env, ef, q⟩ => by
  obtain ⟨a, ds, h1, h2, h3, h4⟩ := env.ownD i d (dVar_eq.mp ef) k
  exact ⟨_, h2, q _ H (Same.refl H) (.inr (.inr ⟨a, ds, rfl, h1, h4⟩))⟩
/-- a borrowed thing that is no list and no dict -/
theorem de_c {v : V} {d : PyData} (p : PE X e (tC v)) (q : ∀ H, Rp X.K H v d) : DE X H0 kd .val e (Da.dC d) := PE.imp p fun σ H Q ⟨r, d', env, ef, k⟩ => by
  cases ef
  exact k _ H (Same.refl H) (q H)
theorem de_int {i : Int} {j : Nat} : DE X H0 kd .val (.Constant (.int i) j pos) (Da.dC (.int i)) := de_c pe_int fun _ => .num i
theorem de_bool {i : Bool} {j : Nat} : DE X H0 kd .val (.Constant (.bool i) j pos) (Da.dC (.bool i)) := de_c pe_bl fun _ => .bool i
theorem de_none {j : Nat} : DE X H0 kd .val (.Constant .none j pos) (Da.dC .none) := de_c pe_non fun _ => .none
theorem de_str {i : Str} {j : Nat} : DE X H0 kd .val (.Constant (.str i) j pos) (Da.dC (.str i)) := de_c pe_str fun _ => .text i

/-! ### arguments, displays -/
theorem da_nil : DA X H0 kd [] [] Da.aNil := PA.imp pa_nil fun σ H Q ⟨r, ds, env, ef, k⟩ => by
  cases ef
  exact k [] H (Same.refl H) .nil
theorem bind_some {α β : Type} {o : Option α} {f : α → Option β} {y : β} (h : o.bind f = some y) : ∃ x, o = some x ∧ f x = some y := Option.bind_eq_some_iff.mp h
theorem da_val {es : List Expr} {ms : List Bool} {t : Dl} (p : DE X H0 kd .val e f) (q : DA X H0 kd ms es t) (hs : starEach (e :: es) X.env = (false, eval e X.env) :: starEach es X.env := by rfl) : DA X H0 kd (true :: ms) (e :: es) (Da.aCons f t) :=
  PA.imp (pa_cons p q hs) fun σ H Q ⟨r, ds, env, ef, k⟩ => by
    obtain ⟨x, e1, e2⟩ := bind_some ef
    obtain ⟨xs, e3, e4⟩ := bind_some e2
    cases e4
    exact ⟨r, x, env, e1, fun v H1 s1 q1 => ⟨r, xs, env.same s1, e3, fun vs H2 s2 q2 => k _ H2 (s1.trans s2) (.val (Rp.gr (.of_same s2) _ _ q1) q2)⟩⟩
theorem da_any {es : List Expr} {ms : List Bool} {t : Dl} (p : DE X H0 kd .any e f) (q : DA X H0 kd ms es t) (hs : starEach (e :: es) X.env = (false, eval e X.env) :: starEach es X.env := by rfl) : DA X H0 kd (false :: ms) (e :: es) (Da.aCons f t) :=
  PA.imp (pa_cons p q hs) fun σ H Q ⟨r, ds, env, ef, k⟩ => by
    obtain ⟨x, e1, e2⟩ := bind_some ef
    obtain ⟨xs, e3, e4⟩ := bind_some e2
    cases e4
    exact ⟨r, x, env, e1, fun v H1 s1 q1 => ⟨r, xs, env.same s1, e3, fun vs H2 s2 q2 => k _ H2 (s1.trans s2) (.any (q1.same s2) q2)⟩⟩
theorem dk_nil : DK X H0 kd [] [] Da.aNil := PK.imp pk_nil fun σ H Q ⟨r, ds, env, ef, k⟩ => by
  cases ef
  exact k [] H (Same.refl H) .nil
theorem dk_val {nm : Option Str} {kpos : Pos} {es : List Keyword} {ms : List Bool} {t : Dl} (p : DE X H0 kd .val e f) (q : DK X H0 kd ms es t) : DK X H0 kd (true :: ms) (⟨nm, e, kpos⟩ :: es) (Da.aCons f t) :=
  PK.imp (pk_cons p q) fun σ H Q ⟨r, ds, env, ef, k⟩ => by
    obtain ⟨x, e1, e2⟩ := bind_some ef
    obtain ⟨xs, e3, e4⟩ := bind_some e2
    cases e4
    exact ⟨r, x, env, e1, fun v H1 s1 q1 => ⟨r, xs, env.same s1, e3, fun vs H2 s2 q2 => k _ H2 (s1.trans s2) (.val (Rp.gr (.of_same s2) _ _ q1) q2)⟩⟩
theorem dk_any {nm : Option Str} {kpos : Pos} {es : List Keyword} {ms : List Bool} {t : Dl} (p : DE X H0 kd .any e f) (q : DK X H0 kd ms es t) : DK X H0 kd (false :: ms) (⟨nm, e, kpos⟩ :: es) (Da.aCons f t) :=
  PK.imp (pk_cons p q) fun σ H Q ⟨r, ds, env, ef, k⟩ => by
    obtain ⟨x, e1, e2⟩ := bind_some ef
    obtain ⟨xs, e3, e4⟩ := bind_some e2
    cases e4
    exact ⟨r, x, env, e1, fun v H1 s1 q1 => ⟨r, xs, env.same s1, e3, fun vs H2 s2 q2 => k _ H2 (s1.trans s2) (.any (q1.same s2) q2)⟩⟩
theorem Args.rps {C : Ct} {H : Hp} : ∀ {ms : List Bool} {vs : List V} {ds : List PyData}, Args C H ms vs ds → (∀ b ∈ ms, b = true) → Rps C.K H vs ds ∧ vs.length = ms.length
  | _, _, _, .nil, _ => ⟨.nil, rfl⟩
  | _, _, _, .val p q, h => by
    obtain ⟨r, l⟩ := q.rps fun b hb => h b (List.mem_cons_of_mem _ hb)
    exact ⟨.cons p r, by rw [List.length_cons, List.length_cons, l]⟩
  | _, _, _, .any p q, h => by
    have := h false (List.mem_cons_self ..)
    cases this
theorem de_tup {es : List Expr} {ms : List Bool} {t : Dl} {j : Nat} (p : DA X H0 kd ms es t) (hm : ∀ b ∈ ms, b = true := by decide) (hl : ms.length ≤ 1000 := by decide) : DE X H0 kd .val (.Tuple es j pos) (Da.dTup t) :=
  PE.imp (pe_tup p) fun σ H Q ⟨r, d, env, ef, k⟩ => by
    obtain ⟨xs, e1, e2⟩ := bind_some ef
    cases e2
    refine ⟨r, xs, env, e1, fun vs H1 s1 q1 => ?_⟩
    obtain ⟨rs, l⟩ := q1.rps hm
    have z : vs.length ≤ sizeLine := Nat.le_of_lt (small1000 (by rw [l]; exact hl))
    exact ⟨z, fun p np => k _ _ (s1.trans (same_new np)) (.tuple (.of upd_same) z (Rps.gr (.new np) _ _ rs))⟩
theorem de_lst {es : List Expr} {ms : List Bool} {t : Dl} (p : DA X H0 kd ms es t) (hm : ∀ b ∈ ms, b = true := by decide) (hl : ms.length ≤ 1000 := by decide) : DE X H0 kd .fre (.List es pos) (Da.dLst t) :=
  PE.imp (pe_lst p) fun σ H Q ⟨r, d, env, ef, k⟩ => by
    obtain ⟨xs, e1, e2⟩ := bind_some ef
    cases e2
    refine ⟨r, xs, env, e1, fun vs H1 s1 q1 => ?_⟩
    obtain ⟨rs, l⟩ := q1.rps hm
    have z : vs.length ≤ sizeLine := Nat.le_of_lt (small1000 (by rw [l]; exact hl))
    exact ⟨z, fun p np => k _ _ (s1.trans (same_new np)) ⟨p, xs, rfl, rfl, s1.free np, vs, upd_same, z, Rps.gr (.new np) _ _ rs⟩⟩

/-! ### operators -/
/-- what an operator gives on data -/
def Op2 (X : Cx) (m : Md) (r : R2) (g : PyData → PyData → Option PyData) : Prop := ∀ (H0 : Hp) (kd : Nat → Kd) (H : Hp) (x y : V) (d e z : PyData) (Q : VK), Tp (cx X H0 kd) H x d → Tp (cx X H0 kd) H y e → g d e = some z →
  (∀ v H', Same H H' → Res (cx X H0 kd) m H H' v z → Q v H') → r x y H Q
theorem Res.pre {C : Ct} {m : Md} {H H1 H2 : Hp} {v : V} {d : PyData} (s : Same H H1) (q : Res C m H1 H2 v d) : Res C m H H2 v d := by
  cases m with
  | val => exact q
  | fre => obtain ⟨a, ds, h1, h2, h3, h4⟩ := q; exact ⟨a, ds, h1, h2, s.free h3, h4⟩
  | frd => obtain ⟨a, ds, h1, h2, h3, h4⟩ := q; exact ⟨a, ds, h1, h2, s.free h3, h4⟩
  | sta => exact q
  | any => exact q
theorem op2_run {r : R2} {g : PyData → PyData → Option PyData} {f h : Dn} (o : Op2 X m r g) {σ : L2.St} {H : Hp} {Q : VK} (q : tD (cx X H0 kd) m (Da.dB g f h) σ H Q) :
    tD (cx X H0 kd) .any f σ H fun x H1 => tD (cx X H0 kd) .any h σ H1 fun y H2 => r x y H2 Q := by
  obtain ⟨rr, d, env, ef, k⟩ := q
  obtain ⟨x, e1, e2⟩ := bind_some ef
  obtain ⟨y, e3, e4⟩ := bind_some e2
  exact ⟨rr, x, env, e1, fun v H1 s1 q1 => ⟨rr, y, env.same s1, e3, fun u H2 s2 q2 => o H0 kd H2 v u x y d Q (q1.same s2) q2 e4 fun w H3 s3 q3 => k w H3 ((s1.trans s2).trans s3) (q3.pre (s1.trans s2))⟩⟩
theorem de_op {op : Operator} {r : R2} {gg : PyData → PyData → Option PyData} (ho : OpR X (binaryOp op) r) (o : Op2 X m r gg) (p : DE X H0 kd .any a f) (q : DE X H0 kd .any b h) : DE X H0 kd m (.BinOp a op b pos) (Da.dB gg f h) :=
  PE.imp (pe_op ho p q) fun _ _ _ z => op2_run o z
theorem de_cmp {op : CmpOp} {r : R2} {gg : PyData → PyData → Option PyData} (ho : OpR X (compareOp op) r) (o : Op2 X m r gg) (p : DE X H0 kd .any a f) (q : DE X H0 kd .any b h) (hm : behindInMarks op b = false) : DE X H0 kd m (.Compare a [op] [b] pos) (Da.dB gg f h) :=
  PE.imp (pe_cmpR ho p q hm) fun _ _ _ z => op2_run o z
theorem asB_some {d : PyData} {k : Bool} (h : Da.asB d = some k) : d = .bool k := by
  cases d <;> simp [Da.asB] at h
  rw [h]
theorem dt_cmp {op : CmpOp} {r : R2} {gg : PyData → PyData → Option PyData} (ho : OpR X (compareOp op) r) (o : Op2 X .val r gg) (p : DE X H0 kd .any a f) (q : DE X H0 kd .any b h) (hm : behindInMarks op b = false) : DT X H0 kd (.Compare a [op] [b] pos) (Da.tV (Da.dB gg f h)) :=
  PT.imp (pt_cmpR ho p q hm) fun σ H Q ⟨r, k, env, ef, z⟩ => by
    obtain ⟨d, e1, e2⟩ := bind_some ef
    have := asB_some e2
    subst this
    refine op2_run o ⟨r, _, env, e1, fun v H' s q => ⟨k, ?_, z H' s⟩⟩
    cases (show Rp X.K H' v (.bool k) from q)
    rfl
/-- a test by a value that is True or False -/
theorem dt_val (p : DE X H0 kd m e f) (he : ∀ whole, isTrue e X.env whole = (do let v ← whole; standAt e.pos; holding [v] (truthy v)) := by intro _; rfl) : DT X H0 kd e (Da.tV f) :=
  PT.imp (pt_val p he) fun σ H Q ⟨r, k, env, ef, z⟩ => by
    obtain ⟨d, e1, e2⟩ := bind_some ef
    have := asB_some e2
    subst this
    exact ⟨r, _, env, e1, fun v H' s q => ⟨k, (q.any s env.ext).bool, z H' s⟩⟩
theorem emp_len {α β : Type} {xs : List α} {ys : List β} (h : xs.length = ys.length) : xs.isEmpty = ys.isEmpty := by
  cases xs <;> cases ys <;> simp at h ⊢
/-- a test by truth -/
theorem dt_tr (p : DE X H0 kd m e f) (he : ∀ whole, isTrue e X.env whole = (do let v ← whole; standAt e.pos; holding [v] (truthy v)) := by intro _; rfl) : DT X H0 kd e (Da.tTr f) :=
  PT.imp (pt_truth p he) fun σ H Q ⟨r, k, env, ef, z⟩ => by
    obtain ⟨d, e1, e2⟩ := bind_some ef
    refine ⟨r, d, env, e1, fun v H' s q => ⟨k, ?_, z H' s⟩⟩
    have t := q.any s env.ext
    cases d with
    | bool b => rw [t.bool]; simp [Da.truth] at e2; subst e2; rfl
    | int i => rw [t.int]; simp [Da.truth] at e2; subst e2; rfl
    | list ds =>
      obtain ⟨a, xs, h1, h2, h3, h4⟩ := t.list
      subst h1
      simp only [Da.truth, Option.some.injEq] at e2
      exact .inl ⟨xs, h2, by rw [← e2, emp_len h4.length]⟩
    | tuple ds =>
      obtain ⟨a, xs, h1, h2, h3, h4⟩ := t.tuple
      subst h1
      simp only [Da.truth, Option.some.injEq] at e2
      exact .inr (.inl ⟨xs, h2, by rw [← e2, emp_len h4.length]⟩)
    | _ => simp [Da.truth] at e2

/-! ### and, or, not -/
variable {t u : Dts} {rest : List Expr}
theorem dw_and1 (p : DT X H0 kd a t) : DW X H0 kd (.BoolOp .And [a] pos) t := pw_and1 p
theorem dw_or1 (p : DT X H0 kd a t) : DW X H0 kd (.BoolOp .Or [a] pos) t := pw_or1 p
theorem dw_and (p : DT X H0 kd a t) (q : DW X H0 kd (.BoolOp .And (b :: rest) pos) u) : DW X H0 kd (.BoolOp .And (a :: b :: rest) pos) (Da.tAnd t u) :=
  PW.imp (pw_and p q) fun σ H Q ⟨r, k, env, ef, z⟩ => by
    obtain ⟨c, e1, e2⟩ := bind_some ef
    refine ⟨r, c, env, e1, fun H1 s1 => ?_⟩
    cases c with
    | true => exact ⟨r, k, env.same s1, by simpa using e2, fun H2 s2 => z H2 (s1.trans s2)⟩
    | false =>
      simp at e2
      subst e2
      exact z H1 s1
theorem dw_or (p : DT X H0 kd a t) (q : DW X H0 kd (.BoolOp .Or (b :: rest) pos) u) : DW X H0 kd (.BoolOp .Or (a :: b :: rest) pos) (Da.tOr t u) :=
  PW.imp (pw_or p q) fun σ H Q ⟨r, k, env, ef, z⟩ => by
    obtain ⟨c, e1, e2⟩ := bind_some ef
    refine ⟨r, c, env, e1, fun H1 s1 => ?_⟩
    cases c with
    | false => exact ⟨r, k, env.same s1, by simpa using e2, fun H2 s2 => z H2 (s1.trans s2)⟩
    | true =>
      simp at e2
      subst e2
      exact z H1 s1
theorem dt_w (p : DW X H0 kd e t) : DT X H0 kd e t := p.pt
theorem dt_not (p : DT X H0 kd a t) : DT X H0 kd (.UnaryOp .Not a pos) (Da.tNot t) :=
  PT.imp (pt_not p) fun σ H Q ⟨r, k, env, ef, z⟩ => by
    obtain ⟨c, e1, e2⟩ := Option.map_eq_some_iff.mp ef
    subst e2
    exact ⟨r, c, env, e1, z⟩
theorem de_and (p : DE X H0 kd .val a f) (q : DE X H0 kd .val b g) : DE X H0 kd .val (.BoolOp .And [a, b] pos) (Da.dAnd f g) :=
  PE.imp (pe_and p (pe_one q)) fun σ H Q ⟨r, k, env, ef, z⟩ => by
    obtain ⟨d, e1, e2⟩ := bind_some ef
    obtain ⟨c, e3, e4⟩ := bind_some e2
    have := asB_some e3
    subst this
    refine ⟨r, _, env, e1, fun v H1 s1 q1 => ?_⟩
    cases (show Rp X.K H1 v (.bool c) from q1)
    refine ⟨c, rfl, ?_⟩
    cases c with
    | true => exact ⟨r, k, env.same s1, by simpa using e4, fun w H2 s2 q2 => z w H2 (s1.trans s2) q2⟩
    | false =>
      simp at e4
      subst e4
      exact z _ H1 s1 (.bool _)
theorem de_or (p : DE X H0 kd .val a f) (q : DE X H0 kd .val b g) : DE X H0 kd .val (.BoolOp .Or [a, b] pos) (Da.dOr f g) :=
  PE.imp (pe_or p (pe_one q)) fun σ H Q ⟨r, k, env, ef, z⟩ => by
    obtain ⟨d, e1, e2⟩ := bind_some ef
    obtain ⟨c, e3, e4⟩ := bind_some e2
    have := asB_some e3
    subst this
    refine ⟨r, _, env, e1, fun v H1 s1 q1 => ?_⟩
    cases (show Rp X.K H1 v (.bool c) from q1)
    refine ⟨c, rfl, ?_⟩
    cases c with
    | false => exact ⟨r, k, env.same s1, by simpa using e4, fun w H2 s2 q2 => z w H2 (s1.trans s2) q2⟩
    | true =>
      simp at e4
      subst e4
      exact z _ H1 s1 (.bool _)

/-! ### the operators of ints, tuples, lists -/
theorem fin_val {C : Ct} {H : Hp} {v : V} {z : PyData} {Q : VK} (k : ∀ v H', Same H H' → Res C .val H H' v z → Q v H') (p : Rp C.K H v z) : Q v H := k v H (Same.refl H) p
theorem o2_add : Op2 X .val (rI0 fun i j => .int (i + j)) Da.gAdd := fun H0 kd H x y d e z Q p q h k => by
  cases d <;> cases e <;> simp [Da.gAdd] at h
  subst h
  exact ⟨_, _, p.int, q.int, fin_val k (.num _)⟩
theorem o2_sub : Op2 X .val (rI0 fun i j => .int (i - j)) Da.gSub := fun H0 kd H x y d e z Q p q h k => by
  cases d <;> cases e <;> simp [Da.gSub] at h
  subst h
  exact ⟨_, _, p.int, q.int, fin_val k (.num _)⟩
theorem sm_of {i : Int} (h : Da.sm i = true) : -(2 ^ 64) < i ∧ i < 2 ^ 64 := by
  simp only [Da.sm, Bool.and_eq_true, decide_eq_true_eq] at h
  omega
theorem o2_mul : Op2 X .val (rI CMul fun i j => .int (i * j)) Da.gMul := fun H0 kd H x y d e z Q p q h k => by
  cases d <;> cases e <;> simp only [Da.gMul] at h <;> try cases h
  split at h
  · rename_i hs
    cases h
    refine ⟨_, _, p.int, q.int, ?_, fin_val k (.num _)⟩
    rcases Bool.or_eq_true_iff.mp hs with z | z
    · exact .inl (sm_of z)
    · exact .inr (sm_of z)
  · cases h
theorem o2_div : Op2 X .val (rI CDivW fun i j => .int (i / j)) Da.gDiv := fun H0 kd H x y d e z Q p q h k => by
  cases d <;> cases e <;> simp only [Da.gDiv] at h <;> try cases h
  split at h
  · rename_i i j hs
    cases h
    exact ⟨_, _, p.int, q.int, wide_div (b := 64) hs.1 (by omega) (by decide) (by decide), fin_val k (.num _)⟩
  · cases h
theorem o2_mod : Op2 X .val (rI (fun _ j => 0 < j) fun i j => .int (i % j)) Da.gMod := fun H0 kd H x y d e z Q p q h k => by
  cases d <;> cases e <;> simp only [Da.gMod] at h <;> try cases h
  split at h
  · rename_i hs
    cases h
    exact ⟨_, _, p.int, q.int, hs, fin_val k (.num _)⟩
  · cases h
theorem o2_pow : Op2 X .val (rI CPow fun i j => .int (i ^ j.toNat)) Da.gPow := fun H0 kd H x y d e z Q p q h k => by
  cases d <;> cases e <;> simp only [Da.gPow] at h <;> try cases h
  split at h
  · rename_i hs
    cases h
    refine ⟨_, _, p.int, q.int, ⟨hs.1, by omega, ?_⟩, fin_val k (.num _)⟩
    have := sm_of hs.2.2
    omega
  · cases h
theorem o2_catT : Op2 X .val (rCatA X.K) Da.gCatT := fun H0 kd H x y d e z Q p q h k => by
  cases d <;> cases e <;> simp only [Da.gCatT] at h <;> try cases h
  split at h
  · rename_i hs
    cases h
    obtain ⟨a1, xs, e1, h1, h2, h3⟩ := p.tuple
    obtain ⟨a2, ys, e2, k1, k2, k3⟩ := q.tuple
    have hz : xs.length + ys.length ≤ sizeLine := by rw [h3.length, k3.length, ← big_eq]; exact hs
    have hz' : (xs ++ ys).length ≤ sizeLine := by rw [List.length_append]; exact hz
    have rr := h3.append k3
    refine ⟨a1, a2, xs, ys, e1, e2, h1, k1, hz, fun q => ?_, fun _ q => ?_, fun _ _ p np => ?_⟩
    · subst q
      exact fin_val k (.tuple k1 k2 rr)
    · subst q
      rw [List.append_nil] at rr
      exact fin_val k (.tuple h1 h2 rr)
    · exact k _ _ (same_new np) (.tuple (.of upd_same) hz' (Rps.gr (.new np) _ _ rr))
  · cases h
/-- two lists, by their objects -/
theorem op_catL : OpR X (binaryOp .Add) (fun x y H Q => ∃ l b xs zs, x = .ref l ∧ y = .ref b ∧ FzL H l xs ∧ FzL H b zs ∧ xs.length + zs.length ≤ sizeLine ∧ ∀ p, H p = none → Q (.ref p) (upd H p (.lst (xs ++ zs)))) := by
  intro pins s σ H x y v u Q I rx ry h
  obtain ⟨l, b, xs, zs, rfl, rfl, ⟨o1, hH⟩, ⟨o2, hB⟩, hz, q⟩ := h
  cases rx
  cases ry
  obtain ⟨_, z, its, n, r, e⟩ := I.hok l _ hH
  obtain ⟨_, z2, its2, n2, r2, e2⟩ := I.hok b _ hB
  refine PySem.P.add_list e e2 ?_ (by rw [List.size_toArray, List.size_toArray, ← r.length, ← r2.length]; omega)
  rw [show its.toArray ++ its2.toArray = (its ++ its2).toArray by simp]
  exact ⟨.ref _, _, I.lnew (t' := s.toks) (r.append r2) (by rw [List.length_append]; omega), rfl, q _ I.fresh⟩
theorem de_catL (p : DE X H0 kd .val a f) (q : DE X H0 kd .val b h) : DE X H0 kd .fre (.BinOp a .Add b pos) (Da.dB Da.gCatL f h) :=
  PE.imp (pe_op op_catL p q) fun σ H Q ⟨r, d, env, ef, k⟩ => by
    obtain ⟨x, e1, e2⟩ := bind_some ef
    obtain ⟨y, e3, e4⟩ := bind_some e2
    refine ⟨r, x, env, e1, fun v H1 s1 q1 => ⟨r, y, env.same s1, e3, fun u H2 s2 q2 => ?_⟩⟩
    cases x <;> cases y <;> simp only [Da.gCatL] at e4 <;> try cases e4
    split at e4
    · rename_i hs
      cases e4
      cases (show Rp X.K H1 v _ from q1) with
      | list h1 h2 h3 =>
        cases (show Rp X.K H2 u _ from q2) with
        | list k1 k2 k3 =>
          have hz := hs
          rw [← h3.length, ← k3.length, big_eq] at hz
          refine ⟨_, _, _, _, rfl, rfl, h1.gr (.of_same s2), k1, hz, fun p np => k _ _ ((s1.trans s2).trans (same_new np)) ⟨p, _, rfl, rfl, (s1.trans s2).free np, _, upd_same, ?_, ?_⟩⟩
          · rw [List.length_append]; exact hz
          · exact Rps.gr (.new np) _ _ ((Rps.gr (.of_same s2) _ _ h3).append k3)
    · cases e4

/-! ### comparisons -/
theorem o2_lt : Op2 X .val (rI0 fun i j => .bl (decide (i < j))) Da.gLt := fun H0 kd H x y d e z Q p q h k => by
  cases d <;> cases e <;> simp only [Da.gLt, Option.some.injEq] at h <;> try cases h
  exact ⟨_, _, p.int, q.int, fin_val k (.bool _)⟩
theorem o2_le : Op2 X .val (rI0 fun i j => .bl (decide (i ≤ j))) Da.gLe := fun H0 kd H x y d e z Q p q h k => by
  cases d <;> cases e <;> simp only [Da.gLe, Option.some.injEq] at h <;> try cases h
  exact ⟨_, _, p.int, q.int, fin_val k (.bool _)⟩
theorem o2_gt : Op2 X .val (rI0 fun i j => .bl (decide (j < i))) Da.gGt := fun H0 kd H x y d e z Q p q h k => by
  cases d <;> cases e <;> simp only [Da.gGt, Option.some.injEq] at h <;> try cases h
  exact ⟨_, _, p.int, q.int, fin_val k (.bool _)⟩
theorem o2_ge : Op2 X .val (rI0 fun i j => .bl (decide (j ≤ i))) Da.gGe := fun H0 kd H x y d e z Q p q h k => by
  cases d <;> cases e <;> simp only [Da.gGe, Option.some.injEq] at h <;> try cases h
  exact ⟨_, _, p.int, q.int, fin_val k (.bool _)⟩
mutual
theorem okD_shaped : ∀ (n : Nat) (d : PyData), Da.okD n d = true → d.canLay0 = true ∧ d.depth ≤ n
  | n, .none, _ => by simp [PyData.canLay0, PyData.depth]
  | n, .bool _, _ => by simp [PyData.canLay0, PyData.depth]
  | n, .int _, _ => by simp [PyData.canLay0, PyData.depth]
  | n, .str s, h => by
    cases n <;> simpa [Da.okD, PyData.canLay0, PyData.depth] using h
  | 0, .list xs, h => by simp [Da.okD] at h
  | 0, .tuple xs, h => by simp [Da.okD] at h
  | n + 1, .list xs, h => by
    simp only [Da.okD] at h
    have := okDs_shaped n xs h
    simp only [PyData.canLay0, PyData.depth]
    exact ⟨this.1, Nat.succ_le_succ this.2⟩
  | n + 1, .tuple xs, h => by
    simp only [Da.okD] at h
    have := okDs_shaped n xs h
    simp only [PyData.canLay0, PyData.depth]
    exact ⟨this.1, Nat.succ_le_succ this.2⟩
  | n, .dict _, h => by cases n <;> simp [Da.okD] at h
theorem okDs_shaped : ∀ (n : Nat) (ds : List PyData), Da.okDs n ds = true → PyData.canLayAll0 ds = true ∧ PyData.depthAll ds ≤ n
  | n, [], _ => by simp [PyData.canLayAll0, PyData.depthAll]
  | n, d :: ds, h => by
    simp only [Da.okDs, Bool.and_eq_true] at h
    have h1 := okD_shaped n d h.1
    have h2 := okDs_shaped n ds h.2
    simp only [PyData.canLayAll0, PyData.depthAll, Bool.and_eq_true]
    exact ⟨⟨h1.1, h2.1⟩, Nat.max_le.mpr ⟨h1.2, h2.2⟩⟩
end
theorem okD_sh {d : PyData} (h : Da.okD 8 d = true) : SeqAt.shaped d = true := by
  obtain ⟨h1, h2⟩ := okD_shaped 8 d h
  unfold SeqAt.shaped
  rw [h1, decide_eq_true (by omega)]
  rfl
theorem o2_eq : Op2 X .val (rEqD X.K) Da.gEq := fun H0 kd H x y d e z Q p q h k => by
  unfold Da.gEq at h
  split at h
  · rename_i hs
    cases h
    obtain ⟨h1, h2⟩ := Bool.and_eq_true_iff.mp hs
    exact ⟨d, e, p.dp 8 h1, q.dp 8 h2, okD_sh h1, okD_sh h2, fin_val k (.bool _)⟩
  · cases h
theorem o2_ne : Op2 X .val (rNeD X.K) Da.gNe := fun H0 kd H x y d e z Q p q h k => by
  unfold Da.gNe at h
  split at h
  · rename_i hs
    cases h
    obtain ⟨h1, h2⟩ := Bool.and_eq_true_iff.mp hs
    exact ⟨d, e, p.dp 8 h1, q.dp 8 h2, okD_sh h1, okD_sh h2, fin_val k (.bool _)⟩
  · cases h
theorem non_iff {C : Ct} {H : Hp} {v : V} {d : PyData} (t : Tp C H v d) : decide (v = V.non) = Da.isNon d := by
  rcases t with t | ⟨a, es, rfl, rfl, u⟩ | ⟨a, k, rfl, rfl, u⟩
  · cases t <;> simp [Da.isNon]
  · simp [Da.isNon]
  · simp [Da.isNon]
theorem de_isN {j : Nat} {pos' : Pos} (p : DE X H0 kd .any a f) : DE X H0 kd .val (.Compare a [.Is] [.Constant .none j pos'] pos) (Da.dU Da.gIsN f) :=
  PE.imp (pe_cmp (pc_isN p) rfl) fun σ H Q ⟨r, d, env, ef, k⟩ => by
    obtain ⟨x, e1, e2⟩ := bind_some ef
    cases e2
    exact ⟨r, x, env, e1, fun v H1 s1 q1 => by show Q (.bl (decide (v = .non))) H1; rw [non_iff q1]; exact k _ H1 s1 (.bool _)⟩
theorem de_notN {j : Nat} {pos' : Pos} (p : DE X H0 kd .any a f) : DE X H0 kd .val (.Compare a [.IsNot] [.Constant .none j pos'] pos) (Da.dU Da.gNotN f) :=
  PE.imp (pe_cmp (pc_notN p) rfl) fun σ H Q ⟨r, d, env, ef, k⟩ => by
    obtain ⟨x, e1, e2⟩ := bind_some ef
    cases e2
    exact ⟨r, x, env, e1, fun v H1 s1 q1 => by show Q (.bl (!decide (v = .non))) H1; rw [non_iff q1]; exact k _ H1 s1 (.bool _)⟩
theorem dt_isN {j : Nat} {pos' : Pos} (p : DE X H0 kd .any a f) : DT X H0 kd (.Compare a [.Is] [.Constant .none j pos'] pos) (Da.tV (Da.dU Da.gIsN f)) :=
  PT.imp (pt_cmp (pc_isN p) rfl) fun σ H Q ⟨r, k, env, ef, z⟩ => by
    obtain ⟨d, e1, e2⟩ := bind_some ef
    obtain ⟨x, e3, e4⟩ := bind_some e1
    cases e4
    cases e2
    exact ⟨r, x, env, e3, fun v H1 s1 q1 => ⟨_, rfl, by rw [non_iff q1]; exact z H1 s1⟩⟩
theorem dt_notN {j : Nat} {pos' : Pos} (p : DE X H0 kd .any a f) : DT X H0 kd (.Compare a [.IsNot] [.Constant .none j pos'] pos) (Da.tV (Da.dU Da.gNotN f)) :=
  PT.imp (pt_cmp (pc_notN p) rfl) fun σ H Q ⟨r, k, env, ef, z⟩ => by
    obtain ⟨d, e1, e2⟩ := bind_some ef
    obtain ⟨x, e3, e4⟩ := bind_some e1
    cases e4
    cases e2
    exact ⟨r, x, env, e3, fun v H1 s1 q1 => ⟨_, rfl, by rw [non_iff q1]; exact z H1 s1⟩⟩
theorem o2_isB : Op2 X .val rIsB Da.gIsB := fun H0 kd H x y d e z Q p q h k => by
  cases d <;> cases e <;> simp only [Da.gIsB, Option.some.injEq] at h <;> try cases h
  exact ⟨_, _, p.bool, q.bool, fin_val k (.bool _)⟩
theorem o2_notB : Op2 X .val rNotB Da.gNotB := fun H0 kd H x y d e z Q p q h k => by
  cases d <;> cases e <;> simp only [Da.gNotB, Option.some.injEq] at h <;> try cases h
  exact ⟨_, _, p.bool, q.bool, fin_val k (.bool _)⟩
theorem inV_ints (i : Int) : ∀ is : List Int, inV (.int i) (is.map V.int) = decide (i ∈ is)
  | [] => by simp [inV]
  | j :: is => by
    have ih := inV_ints i is
    unfold inV at ih ⊢
    rw [List.map_cons, List.any_cons, ih]
    by_cases e : j = i
    · subst e; simp [eqV]
    · have e' : ¬ i = j := fun z => e z.symm
      simp [eqV, e, e']
theorem flat_ints : ∀ is : List Int, (is.map V.int).all flatV = true
  | [] => rfl
  | j :: is => by rw [List.map_cons, List.all_cons, flat_ints is]; rfl
theorem Tp.seq {C : Ct} {H : Hp} {v : V} {d : PyData} {xs : List PyData} (t : Tp C H v d) (h : Da.seq? d = some xs) : ∃ a vs, v = .ref a ∧ (SqL C.K H a vs ∨ SqT C.K H a vs) ∧ vs.length ≤ sizeLine ∧ Rps C.K H vs xs := by
  cases d <;> simp [Da.seq?] at h
  · subst h
    obtain ⟨a, vs, h1, h2, h3, h4⟩ := t.list
    exact ⟨a, vs, h1, .inl h2, h3, h4⟩
  · subst h
    obtain ⟨a, vs, h1, h2, h3, h4⟩ := t.tuple
    exact ⟨a, vs, h1, .inr h2, h3, h4⟩
theorem o2_in : Op2 X .val (rIn X.K false) Da.gIn := fun H0 kd H x y d e z Q p q h k => by
  cases d <;> simp only [Da.gIn] at h <;> try cases h
  obtain ⟨xs, e1, e2⟩ := bind_some h
  obtain ⟨is, e3, e4⟩ := Option.map_eq_some_iff.mp e2
  subst e4
  obtain ⟨a, vs, h1, h2, h3, h4⟩ := q.seq e1
  have := h4.ints e3
  subst this
  refine ⟨a, _, h1, h2, by rw [p.int]; rfl, flat_ints is, ?_⟩
  rw [p.int, inV_ints]
  exact fin_val k (.bool _)
theorem o2_notIn : Op2 X .val (rIn X.K true) Da.gNotIn := fun H0 kd H x y d e z Q p q h k => by
  cases d <;> simp only [Da.gNotIn] at h <;> try cases h
  obtain ⟨xs, e1, e2⟩ := bind_some h
  obtain ⟨is, e3, e4⟩ := Option.map_eq_some_iff.mp e2
  subst e4
  obtain ⟨a, vs, h1, h2, h3, h4⟩ := q.seq e1
  have := h4.ints e3
  subst this
  refine ⟨a, _, h1, h2, by rw [p.int]; rfl, flat_ints is, ?_⟩
  rw [p.int, inV_ints]
  exact fin_val k (.bool _)
/-- a op b op' c, as a test -/
theorem dt_chain {op op' : CmpOp} {r r' : R2} {g1 g2 : PyData → PyData → Option PyData} {hh : Dn} (ho : OpR X (compareOp op) r) (ho' : OpR X (compareOp op') r') (o : Op2 X .val r g1) (o' : Op2 X .val r' g2)
    (p : DE X H0 kd .any a f) (q : DE X H0 kd .any b h) (w : DE X H0 kd .any c hh) (hm : lastMarks [op, op'] [b, c] = false := by with_unfolding_all rfl) : DT X H0 kd (.Compare a [op, op'] [b, c] pos) (Da.tV (Da.dChain g1 g2 f h hh)) :=
  PT.imp (pt_chain ho ho' p q w hm) fun σ H Q ⟨rr, d, env, ef, k⟩ => by
    obtain ⟨dd, e0, e00⟩ := bind_some ef
    have := asB_some e00
    subst this
    obtain ⟨x, e1, e2⟩ := bind_some e0
    obtain ⟨y, e3, e4⟩ := bind_some e2
    obtain ⟨z, e5, e6⟩ := bind_some e4
    obtain ⟨c, e7, e8⟩ := bind_some e6
    have := asB_some e7
    subst this
    refine ⟨rr, x, env, e1, fun v H1 s1 q1 => ⟨rr, y, env.same s1, e3, fun u H2 s2 q2 => o H0 kd H2 v u x y _ _ (q1.same s2) q2 e5 fun w H3 s3 q3 => ?_⟩⟩
    cases (show Rp X.K H3 w (.bool c) from q3)
    refine ⟨c, rfl, ?_⟩
    have s03 := (s1.trans s2).trans s3
    cases c with
    | false =>
      simp at e8
      subst e8
      exact ⟨false, rfl, k H3 s03⟩
    | true =>
      simp only [if_true] at e8 ⊢
      obtain ⟨w2, e9, e10⟩ := bind_some e8
      refine ⟨rr, w2, env.same s03, e9, fun w' H4 s4 q4 => o' H0 kd H4 u w' y w2 _ _ (q2.same (s3.trans s4)) q4 e10 fun w3 H5 s5 q5 => ?_⟩
      cases (show Rp X.K H5 w3 (.bool d) from q5)
      exact ⟨d, rfl, k H5 ((s03.trans s4).trans s5)⟩
end
end Sk
set_option linter.all false
set_option maxRecDepth 100000
/-! LaySort: sorting rows of tuples some of which are empty; the order in words of Dat. -/
namespace Sk
open PySem PySem.Spec PyProof.Rows PySem.W PySem.SeqAt

section
variable {prog : Program} {w : World} {A : Around} {s : Shared}

theorem first_tuple {E : Value → Shared → Prop} {xs : List PyData} {v : Value} {as : List Addr} (r : Reads s.heap v (.tuple xs) as) {Q : Option Value → Shared → Prop} (h : ∀ o : Option Value, o.isSome = !xs.isEmpty → Q o s) :
    wpAny (model prog w) A (firstOfTuple' v) Q E s := by
  cases r with
  | @tuple a o vs n _ _ h1 h2 h3 h4 =>
    rw [kas_first_eq]
    refine wpAny_bind (Looks.here (show Looks (model prog w) s.heap (typeOf (.ref a)) o.cls from (Looks.ld h1).andThen .now) ?_)
    rw [h2, if_neg (by first | decide | simp)]
    refine wpAny_bind (listItems_at h1 h3 (wpAny_pure (h _ ?_)))
    have hl : vs.size = xs.length := by simpa using ReadsAll.length _ _ _ h4
    cases xs with
    | nil =>
      have h0 : vs.size = 0 := hl
      rw [Array.getElem?_eq_none (by omega)]
      rfl
    | cons x xs =>
      have h0 : 0 < vs.size := by rw [hl]; exact Nat.succ_pos _
      rw [Array.getElem?_eq_getElem h0]
      rfl
theorem firsts_tuples {E : Value → Shared → Prop} : ∀ {vs : List Value} {ds : List PyData} {Q : List (Option Value) → Shared → Prop}, EachIs (fun v d => ∃ as, Reads s.heap v d as) vs ds → (∀ d ∈ ds, ∃ xs, d = .tuple xs) →
    (∀ os : List (Option Value), os.map (·.isSome) = ds.map (fun d => match d with | .tuple xs => !xs.isEmpty | _ => false) → Q os s) → wpAny (model prog w) A (vs.mapM firstOfTuple') Q E s
  | _, _, _, .nil, _, h => by rw [List.mapM_nil]; exact wpAny_pure (h [] rfl)
  | v :: vs, d :: ds, Q, .cons ⟨as, r⟩ t, ht, h => by
    rw [List.mapM_cons]
    obtain ⟨xs, rfl⟩ := ht d (List.mem_cons_self ..)
    refine wpAny_bind (first_tuple r fun o ho => wpAny_bind (firsts_tuples t (fun d hd => ht d (List.mem_cons_of_mem _ hd)) fun os hos => wpAny_pure (h (o :: os) ?_)))
    rw [List.map_cons, List.map_cons, hos, ho]
theorem oneLt_tuples {E : Value → Shared → Prop} {xs ys : List PyData} {a b : Value} {as bs : List Addr} {Q : Bool → Shared → Prop} (ra : Reads s.heap a (.tuple xs) as) (rb : Reads s.heap b (.tuple ys) bs) (h : alike (.tuple xs) (.tuple ys) = true)
    (hu : A.units + min (PyData.depth (.tuple xs)) (PyData.depth (.tuple ys)) < cLine) (hq : Q (dataLt (.tuple xs) (.tuple ys)) s) : wpAny (model prog w) A (oneLt' true a b) Q E s := by
  have hal : alikeAll xs ys = true := by simpa [alike] using h
  cases ra with
  | @tuple l o vs n _ as1 h1 h2 h3 h4 =>
    cases rb with
    | @tuple l' o' vs' n' _ bs1 k1 k2 k3 k4 =>
      have n1 : vs.size = xs.length := by simpa using ReadsAll.length _ _ _ h4
      have n2 : vs'.size = ys.length := by simpa using ReadsAll.length _ _ _ k4
      rw [dataLt_tuple, ← firstLt_toks xs ys hal, ← n1, ← n2] at hq
      rw [oneLt'_eq]
      simp only [if_true]
      refine wpAny_bind (wpAny_cRoomFor (room_here hu) ?_)
      obtain ⟨cls, dd, data, sl⟩ := o
      obtain ⟨cls2, dd2, data2, sl2⟩ := o'
      simp only at h2 h3 k2 k3
      subst h2 h3 k2 k3
      refine wpAny_bind (wpAny_callSpecialIfBound?_slot (T := "tuple") ⟨_, h1, rfl⟩ F.slot_tuple_lt
        (call_meets F.slot_tuple_lt ⟨_, h1, rfl⟩ F.entry_tuple_lt (F.args_tuple_lt_2 _ _) (tuple_ltAt l l' vs vs' n n' dd dd2 sl sl2 (pairEq xs ys) (fun j => dataLt (xs.getD j .none) (ys.getD j .none))) ⟨h1, k1, fun j j1 j2 => ?_, fun j j1 j2 hj => ?_, ?_⟩))
      · have := eqAt_alikeAll xs ys A.in1 s vs.toList vs'.toList _ _ h4 k4 hal (room_in hu) j (by simpa using j1) (by simpa using j2)
        simpa using this
      · have := rcLt_alikeAll xs ys A.in1 s vs.toList vs'.toList _ _ h4 k4 hal (room_in hu) j (by simpa using j1) (by simpa using j2) hj
        simpa using this
      · exact wpAny_truthy_bool hq
/-- rows of tuples one of which, at least, is empty -/
theorem sortsAt_tuples {vs : List Value} {ds : List PyData} (e : EachIs (fun v d => ∃ as, Reads s.heap v d as) vs ds) (hal : AllAlike ds) (ht : ∀ d ∈ ds, ∃ xs, d = .tuple xs) (hemp : PyData.tuple [] ∈ ds) (hu : ∀ d, d ∈ ds → A.units + d.depth < cLine) :
    SortsAt prog w A s (dataKind s.heap ds) vs := by
  have room : ∀ {d d' : PyData}, d ∈ ds → A.units + min d.depth d'.depth < cLine := fun {d d'} hd => Nat.lt_of_le_of_lt (Nat.add_le_add_left (Nat.min_le_left _ _) _) (hu d hd)
  refine ⟨fun v hv => ?_, ?_⟩
  · obtain ⟨d, hd, as, r⟩ := e.left v hv
    exact ⟨_, dataKind_some hal hd r⟩
  have len := e.length
  have key : ∀ (kd : SortKind), (∀ (E : Value → Shared → Prop) {Q : SortKind → Shared → Prop}, Q kd s → wpAny (model prog w) A (keyKind' vs.toArray) Q E s) → H.LtAt prog w A s (dataKind s.heap ds) kd →
      ∃ kd : SortKind, H.LtAt prog w A s (dataKind s.heap ds) kd ∧ (2 ≤ vs.length → ∀ (E : Value → Shared → Prop) {Q : SortKind → Shared → Prop}, Q kd s → wpAny (model prog w) A (keyKind' vs.toArray) Q E s) := fun kd h1 h2 => ⟨kd, h2, fun _ => h1⟩
  cases ds with
  | nil => exact absurd hemp (by simp)
  | cons d0 ds0 =>
    obtain ⟨x0, rfl⟩ := ht d0 (List.mem_cons_self ..)
    have notall : ∀ os : List (Option Value), os.map (·.isSome) = (PyData.tuple x0 :: ds0).map (fun d => match d with | .tuple xs => !xs.isEmpty | _ => false) → (os.toArray.all fun x => x.isSome) = false := by
      intro os hos
      rw [List.all_toArray, ← Bool.not_eq_true, List.all_eq_true]
      intro hall
      have : ∀ b ∈ os.map (·.isSome), b = true := by
        intro b hb
        obtain ⟨o, ho, rfl⟩ := List.mem_map.mp hb
        exact hall o ho
      rw [hos] at this
      have h2 := this false (List.mem_map.mpr ⟨_, hemp, rfl⟩)
      cases h2
    have tyAll : ∀ (E : Value → Shared → Prop) {Q : Option Value → Shared → Prop}, Q (some (.type "tuple")) s → wpAny (model prog w) A (oneTypeOnly' vs.toArray) Q E s := by
      intro E Q hq
      have hT : ∀ v ∈ vs, Looks (model prog w) s.heap (typeOf v) (.type "tuple") := by
        intro v hv
        obtain ⟨d, hd, as, r⟩ := e.left v hv
        obtain ⟨xs, rfl⟩ := ht d hd
        exact looks_reads r
      rw [oneTypeOnly'_eq, List.mapM_toArray, map_eq_pure_bind]
      refine wpAny_bind (wpAny_bind (kas_mapM (r := .type "tuple") _ (fun v hv Q' hq => (hT v hv).here hq) (wpAny_pure ?_)))
      have hall : ((List.map (fun _ => Value.type "tuple") vs).toArray.all fun x => x == Value.type "tuple") = true := by
        simp only [List.all_toArray, List.all_map, List.all_eq_true]
        intro _ _
        exact beq_self_eq_true _
      have hv0 : 0 < vs.length := by rw [len]; exact Nat.succ_pos _
      have h0 : (List.map (fun _ => Value.type "tuple") vs).toArray[0]? = some (Value.type "tuple") := by
        rw [List.getElem?_toArray, List.getElem?_map, List.getElem?_eq_getElem hv0]
        rfl
      rw [h0]
      simp only [hall, if_true]
      exact wpAny_pure hq
    cases x0 with
    | cons y ys =>
      refine key general' (fun E Q hq => ?_) fun E x y a b Q ha hb hq => ?_
      · rw [keyKind'_eq, List.mapM_toArray, map_eq_pure_bind]
        refine wpAny_bind (wpAny_bind (firsts_tuples e ht fun os hos => wpAny_pure ?_))
        rw [notall os hos, if_neg Bool.false_ne_true]
        cases os with
        | nil => simp at hos
        | cons o os =>
          have ho : o.isSome = true := by
            rw [List.map_cons, List.map_cons] at hos
            have := List.cons.inj hos
            simpa using this.1
          rw [if_pos]
          · exact wpAny_pure hq
          · simpa using ho
      · obtain ⟨d, as, hd, ra, rfl⟩ := dataKind_inv ha
        obtain ⟨d', as', hd', rb, rfl⟩ := dataKind_inv hb
        obtain ⟨xs, rfl⟩ := ht d hd
        exact oneLt_alike (f := false) (fun z => nomatch z) ra rb (hal _ hd _ hd') (fun z => nomatch z) (room hd) hq
    | nil =>
      refine key oneType' (fun E Q hq => ?_) fun E x y a b Q ha hb hq => ?_
      · rw [keyKind'_eq, List.mapM_toArray, map_eq_pure_bind]
        refine wpAny_bind (wpAny_bind (firsts_tuples e ht fun os hos => wpAny_pure ?_))
        rw [notall os hos, if_neg Bool.false_ne_true]
        cases os with
        | nil => simp at hos
        | cons o os =>
          have ho : o.isSome = false := by
            rw [List.map_cons, List.map_cons] at hos
            have := List.cons.inj hos
            simpa using this.1
          rw [if_neg]
          · refine wpAny_bind (tyAll E ?_)
            exact wpAny_pure hq
          · simpa using ho
      · obtain ⟨d, as, hd, ra, rfl⟩ := dataKind_inv ha
        obtain ⟨d', as', hd', rb, rfl⟩ := dataKind_inv hb
        obtain ⟨xs, rfl⟩ := ht d hd
        obtain ⟨ys, rfl⟩ := ht d' hd'
        rw [keyLt'_oneType]
        exact oneLt_tuples ra rb (hal _ hd _ hd') (room hd) hq
end

/-! ### the order -/
mutual
theorem pal_alike : ∀ (a b : PyData), Da.pal a b = true → alike a b = true
  | .int _, b, h => by cases b <;> simp [Da.pal, alike] at h ⊢
  | .list xs, b, h => by
    cases b <;> simp [Da.pal, alike] at h ⊢
    exact pals_alike xs _ h
  | .tuple xs, b, h => by
    cases b <;> simp [Da.pal, alike] at h ⊢
    exact pals_alike xs _ h
  | .none, b, h => by cases b <;> simp [Da.pal] at h
  | .bool _, b, h => by cases b <;> simp [Da.pal] at h
  | .str _, b, h => by cases b <;> simp [Da.pal] at h
  | .dict _, b, h => by cases b <;> simp [Da.pal] at h
theorem pals_alike : ∀ (as bs : List PyData), Da.pals as bs = true → alikeAll as bs = true
  | [], _, _ => by simp [alikeAll]
  | _ :: _, [], _ => by simp [alikeAll]
  | a :: as, b :: bs, h => by
    simp only [Da.pals, Bool.and_eq_true] at h
    simp only [alikeAll, Bool.and_eq_true]
    exact ⟨pal_alike a b h.1, pals_alike as bs h.2⟩
end
theorem dataLt_nil_cons (y : PyData) (ys : List PyData) : PyProof.Rows.lexLt itemOrd (keyToksAll []) (keyToksAll (y :: ys)) = true := by
  rw [← firstLt_toks [] (y :: ys) (by simp [alikeAll])]
  rfl
theorem dataLt_cons_nil (y : PyData) (ys : List PyData) : PyProof.Rows.lexLt itemOrd (keyToksAll (y :: ys)) (keyToksAll []) = false := by
  rw [← firstLt_toks (y :: ys) [] (by simp [alikeAll])]
  rfl
theorem dataLt_nil_nil : PyProof.Rows.lexLt itemOrd (keyToksAll []) (keyToksAll []) = false := by
  rw [← firstLt_toks [] [] (by simp [alikeAll])]
  rfl
mutual
theorem pLt_eq : ∀ (a b : PyData), Da.pal a b = true → dataLt a b = Da.pLt a b
  | .int i, b, h => by
    cases b with
    | int j => rw [dataLt_int]; rfl
    | _ => simp [Da.pal] at h
  | .list xs, b, h => by
    cases b with
    | list ys =>
      rw [dataLt_list]
      simp only [Da.pal] at h
      simp only [Da.pLt]
      exact pLts_eq xs ys h
    | _ => simp [Da.pal] at h
  | .tuple xs, b, h => by
    cases b with
    | tuple ys =>
      rw [dataLt_tuple]
      simp only [Da.pal] at h
      simp only [Da.pLt]
      exact pLts_eq xs ys h
    | _ => simp [Da.pal] at h
  | .none, b, h => by cases b <;> simp [Da.pal] at h
  | .bool _, b, h => by cases b <;> simp [Da.pal] at h
  | .str _, b, h => by cases b <;> simp [Da.pal] at h
  | .dict _, b, h => by cases b <;> simp [Da.pal] at h
theorem pLts_eq : ∀ (as bs : List PyData), Da.pals as bs = true → PyProof.Rows.lexLt itemOrd (keyToksAll as) (keyToksAll bs) = Da.pLts as bs
  | [], [], _ => by rw [dataLt_nil_nil]; rfl
  | [], _ :: _, _ => by rw [dataLt_nil_cons]; rfl
  | _ :: _, [], _ => by rw [dataLt_cons_nil]; rfl
  | a :: as, b :: bs, h => by
    simp only [Da.pals, Bool.and_eq_true] at h
    simp only [Da.pLts]
    cases e : PyData.eqv a b with
    | true => rw [dataLt_all_yes (pal_alike a b h.1) e, if_pos rfl]; exact pLts_eq as bs h.2
    | false => rw [dataLt_all_no (pal_alike a b h.1) e, if_neg Bool.false_ne_true]; exact pLt_eq a b h.1
end
theorem sortL_eq (rev : Bool) (ds : List PyData) (h : ∀ a ∈ ds, ∀ b ∈ ds, Da.pal a b = true) : ds.mergeSort (dataLe rev id) = Da.sortL rev ds := by
  unfold Da.sortL
  refine sort_congr fun a ha b hb => ?_
  cases rev with
  | true =>
    show (!dataLt a b) = (if true = true then !Da.pLt a b else !Da.pLt b a)
    rw [if_pos rfl, pLt_eq a b (h a ha b hb)]
  | false =>
    show (!dataLt b a) = (if false = true then !Da.pLt a b else !Da.pLt b a)
    rw [if_neg Bool.false_ne_true, pLt_eq b a (h b hb a ha)]
theorem canSort_pal {ds : List PyData} (h : Da.canSort ds = true) : (∀ a ∈ ds, ∀ b ∈ ds, Da.pal a b = true) ∧ ∀ a ∈ ds, Da.okD 8 a = true := by
  unfold Da.canSort at h
  rw [Bool.and_eq_true, List.all_eq_true, List.all_eq_true] at h
  exact ⟨fun a ha b hb => List.all_eq_true.mp (h.1 a ha) b hb, h.2⟩
/-- what can be sorted is so by the library's rules -/
theorem sortsAt_of {prog : Program} {w : World} {A : Around} {s : Shared} {vs : List Value} {ds : List PyData} (e : EachIs (fun v d => ∃ as, Reads s.heap v d as) vs ds) (h : Da.canSort ds = true) (hu : A.units + 20 < cLine) :
    SortsAt prog w A s (dataKind s.heap ds) vs := by
  obtain ⟨h1, h2⟩ := canSort_pal h
  have hal : AllAlike ds := fun d hd d' hd' => pal_alike _ _ (h1 d hd d' hd')
  have hd : ∀ d, d ∈ ds → A.units + d.depth < cLine := fun d hd => by
    have := (okD_shaped 8 d (h2 d hd)).2
    omega
  cases ds with
  | nil => exact SortsAt.data e hal (.inl fun d hd => absurd hd (by simp)) hd
  | cons d0 ds0 =>
    have p0 : ∀ d ∈ d0 :: ds0, Da.pal d0 d = true := fun d hd => h1 d0 (List.mem_cons_self ..) d hd
    cases d0 with
    | tuple x0 =>
      have ht : ∀ d ∈ PyData.tuple x0 :: ds0, ∃ xs, d = .tuple xs := fun d hd => by
        have := p0 d hd
        cases d <;> simp [Da.pal] at this ⊢
      by_cases hemp : PyData.tuple [] ∈ PyData.tuple x0 :: ds0
      · exact sortsAt_tuples e hal ht hemp hd
      · refine SortsAt.data e hal (.inl fun d hdd => ?_) hd
        obtain ⟨xs, rfl⟩ := ht d hdd
        cases xs with
        | nil => exact absurd hdd hemp
        | cons x r => exact ⟨x, r, rfl⟩
    | int i =>
      refine SortsAt.data e hal (.inr fun d hdd => ?_) hd
      have := p0 d hdd
      cases d <;> simp [Da.pal] at this ⊢
    | list xs =>
      refine SortsAt.data e hal (.inr fun d hdd => ?_) hd
      have := p0 d hdd
      cases d <;> simp [Da.pal] at this ⊢
    | _ =>
      have := p0 _ (List.mem_cons_self ..)
      simp [Da.pal] at this
end Sk
set_option linter.all false
set_option maxRecDepth 100000
/-! Lay3: sorted, dicts. -/
namespace Sk
open PySem PySem.Spec PyProof.Rows L2
open Da (Rho Dn Dts Dl Dst Out)

section
open PySem.W
variable {prog : Program} {w : World} {A : Around} {E : Value → Shared → Prop} {s : Shared}
theorem collect_tuple {l : Addr} {vs : List Value} {Q : List Value → Shared → Prop} (hl : IsTup s.heap l vs.toArray) (hsz : vs.length ≤ sizeLine)
    (h : ∀ h' tk, (∀ b o, s.heap.get? b = some o → h'.get? b = some o) → Q vs { s with heap := h', toks := tk }) : wpAny (model prog w) A (collect (.ref l)) Q E s := by
  obtain ⟨o, ho, hc, n, hd⟩ := hl
  unfold collect
  refine wpAny_bind (wpAny_runValue (codeAny_builtin entry_proto_collect' ?_))
  show wpAny _ _ (do again (.builtin "list.__iadd__" ⟨[← newList [], .ref l], []⟩)) _ _ s
  refine wpAny_bind (wpAny_newList (wpAny_pure ⟨Code.quiet_builtin _ (by decide +kernel), codeAny_builtin entry_list_iadd' ?_⟩))
  show wpAny _ _ (Builtin.List.listExtendWith (.ref s.heap.objs.size) (.ref l) (.ref s.heap.objs.size)) _ _ { s with heap := s.heap.push (seqObj "list" #[] 0) }
  unfold Builtin.List.listExtendWith
  have ho' : (s.heap.push (seqObj "list" #[] 0)).get? l = some o := Heap.get?_push_of_some _ ho
  have hne : l ≠ s.heap.objs.size := Nat.ne_of_lt (Heap.lt_size ho)
  refine wpAny_bind (wpAny_typeOf (T := "tuple") ⟨o, ho', hc⟩ ?_)
  rw [if_pos (by rw [show (Value.type "tuple" == Value.type "tuple") = true from rfl]; simp)]
  refine wpAny_bind (listItems_at ho' hd ?_)
  refine wpAny_bind (listItems_at (xs := #[]) (n := 0) (Heap.get?_push_size _ rfl) rfl ?_)
  rw [if_neg (by simp)]
  refine wpAny_bind (listUpdate_at (xs := #[]) (n := 0) (Heap.get?_push_size _ rfl) rfl ?_ (Nat.zero_le _) (by show (#[] ++ vs.toArray).size ≤ sizeLine + 1; simp only [Array.size_append, List.size_toArray, List.length_nil]; omega))
  refine wpAny_pure ?_
  show wpAny (model prog w) A (do
      let o ← load s.heap.objs.size
      match o.data with
      | .seq xs _ => pure xs.toList
      | _ => unsupported "internal:collect") Q E { s with heap := (s.heap.push (seqObj "list" #[] 0)).update s.heap.objs.size (Obj.mapSeq (· ++ vs.toArray)) }
  refine wpAny_bind (wpAny_load (get?_update_seq (Heap.get?_push_size _ rfl) _) ?_)
  show wpAny _ _ (pure ((#[] : Array Value) ++ vs.toArray).toList) Q E _
  rw [show ((#[] : Array Value) ++ vs.toArray).toList = vs by simp]
  refine wpAny_pure (h _ s.toks fun b o e => ?_)
  rw [Heap.get?_update_ne _ _ _ _ (Nat.ne_of_lt (Heap.lt_size e))]
  exact Heap.get?_push_of_some _ e
theorem readsAll_kept {h h' : Heap} (k : ∀ b o, h.get? b = some o → h'.get? b = some o) {vs : List Value} {ds : List PyData} (e : EachIs (fun v d => ∃ as, Reads h v d as) vs ds) : EachIs (fun v d => ∃ as, Reads h' v d as) vs ds :=
  e.mono fun _ _ ⟨as, r⟩ => ⟨as, PyProof.Rows.Reads.keeps (fun b o q => k b o q) r⟩
/-- sorted(src), sorted(src, reverse=b): by what its items are -/
theorem sorted_src {src : Value} {vs : List Value} {ds : List PyData} {b : Bool} {kw : List (Str × Value)} {R : Value → PyData → Prop} {Q : Value → Shared → Prop}
    (hkw : (kw = [] ∧ b = false) ∨ kw = [(Str.ofString "reverse", .bool b)])
    (hcol : ∀ (Q' : List Value → Shared → Prop) (E' : Value → Shared → Prop), (∀ h' tk, (∀ a o, s.heap.get? a = some o → h'.get? a = some o) → Q' vs { s with heap := h', toks := tk }) → wpAny (model prog w) A.in1 (collect src) Q' E' s)
    (e : EachIs R vs ds) (er : EachIs (fun v d => ∃ as, Reads s.heap v d as) vs ds) (hs : Da.canSort ds = true) (hL : vs.length ≤ sizeLine) (hu : A.units + 40 < cLine)
    (h : ∀ (h1 h' : Heap) (tk : Nat) (p : Addr) (out : List Value) (c : Nat), (∀ a o, s.heap.get? a = some o → h1.get? a = some o) → h1.objs.size ≤ p → (∀ a o, h1.get? a = some o → h'.get? a = some o) → h'.get? p = some (seqObj "list" (List.toArray out) c) → EachIs R out (Da.sortL b ds) → Q (.ref p) { s with heap := h', toks := tk }) :
    wpAny (model prog w) A (call (.builtin "sorted") [src] kw) Q E s := by
  have ha1 : argsOk "sorted" ⟨[src], kw⟩ := by
    rcases hkw with ⟨rfl, _⟩ | rfl
    · exact args_sorted1 _
    · exact args_sorted_rev _ _
  have ha2 : ∀ x, argsOk "list.sort" ⟨[.ref x], kw⟩ := by
    rcases hkw with ⟨rfl, _⟩ | rfl
    · exact fun _ => args_list_sort _
    · exact fun _ => args_list_sort_rev _ _
  refine call_function_entry_kw kind_sorted plain_sorted entry_sorted ha1 ?_
  unfold Builtin.«sorted»
  refine wpAny_bind (m := checkCount "sorted" 1 1 _) (wpAny_pure ?_)
  refine wpAny_bind (hcol _ _ fun h1 tk k1 => ?_)
  refine wpAny_bind (wpAny_newList ?_ hL)
  have ho : (h1.push (seqObj "list" vs.toArray 0)).get? h1.objs.size = some (seqObj "list" vs.toArray 0) := Heap.get?_push_size _ rfl
  show wpAny _ _ _ _ _ { s with heap := h1.push (seqObj "list" vs.toArray 0), toks := tk }
  refine wpAny_bind (wpAny_holding (wpAny_call_entry_kw slot_list_sort ⟨_, ho, rfl⟩ entry_list_sort ?body (ha2 _)))
  case body =>
    have k2 : ∀ a o, s.heap.get? a = some o → (sortingHeap (h1.push (seqObj "list" vs.toArray 0)) h1.objs.size vs).get? a = some o := fun a o q => by
      have hlt : a < h1.objs.size := Heap.lt_size (k1 _ _ q)
      exact sortingHeap_old (Nat.ne_of_lt hlt) (Heap.get?_push_of_some _ (k1 _ _ q))
    have er2 := readsAll_kept k2 er
    have S : SortsAt prog w A.in1.in1 { s with heap := sortingHeap (h1.push (seqObj "list" vs.toArray 0)) h1.objs.size vs, toks := tk } (dataKind (sortingHeap (h1.push (seqObj "list" vs.toArray 0)) h1.objs.size vs) ds) vs :=
      sortsAt_of (s := { s with heap := sortingHeap (h1.push (seqObj "list" vs.toArray 0)) h1.objs.size vs, toks := tk }) er2 hs (by show A.units + 1 + 1 + 20 < cLine; omega)
    have hal : AllAlike ds := fun d hd d' hd' => pal_alike _ _ ((canSort_pal hs).1 d hd d' hd')
    have out : EachIs R (sortVals (dataKind (sortingHeap (h1.push (seqObj "list" vs.toArray 0)) h1.objs.size vs) ds) b vs vs) (Da.sortL b ds) := by
      have z := sortVals_data (R := R) (enc := id) (bs := ds) b e er2 (by rw [List.map_id]; exact hal)
      rw [sortL_eq b ds (canSort_pal hs).1, List.map_id] at z
      exact z
    have fin : wpAny (model prog w) A.in1.in1 (Builtin.«list.sort» ⟨[.ref h1.objs.size], [(Str.ofString "reverse", .bool b)]⟩) (fun f s' => f = .done (.ret .none) ∧ Q (.ref h1.objs.size) s') E { s with heap := h1.push (seqObj "list" vs.toArray 0), toks := tk } := by
      refine list_sort_rev_vals (s := { s with heap := h1.push (seqObj "list" vs.toArray 0), toks := tk }) ho S hL ⟨rfl, ?_⟩
      obtain ⟨c, hc⟩ := PyProof.Rows.sortedHeap_at (vs := vs) (out := (sortVals (dataKind (sortingHeap (h1.push (seqObj "list" vs.toArray 0)) h1.objs.size vs) ds) b vs vs).toArray) ho
      refine h h1 _ tk h1.objs.size _ c k1 (Nat.le_refl _) (fun a o q => ?_) hc out
      have hlt : a < h1.objs.size := Heap.lt_size q
      rw [PyProof.Rows.sortedHeap_old (Nat.ne_of_lt hlt) (by rw [size_push']; exact Nat.lt_succ_of_lt hlt)]
      exact Heap.get?_push_of_some _ q
    show wpAny (model prog w) A.in1.in1 (Builtin.«list.sort» ⟨[.ref h1.objs.size], kw⟩) _ _ _
    have fin' : wpAny (model prog w) A.in1.in1 (Builtin.«list.sort» ⟨[.ref h1.objs.size], kw⟩) (fun f s' => f = .done (.ret .none) ∧ Q (.ref h1.objs.size) s') E { s with heap := h1.push (seqObj "list" vs.toArray 0), toks := tk } := by
      rcases hkw with ⟨rfl, rfl⟩ | rfl
      · rw [plain_is_rev]; exact fin
      · exact fin
    refine wpAny_mono fin' (fun f s' hf => ?_) fun _ _ e => e
    obtain ⟨rfl, hq⟩ := hf
    exact ⟨_, rfl, wpAny_pure ⟨_, rfl, hq⟩⟩
end

/-! ### what an own dict is in the heap -/
theorem dct_ok {P : Program} {w : World} {H : Hp} {h : Heap} {a : Addr} {es : List Ent} (q : dctφ P w a es h) : ObjOk P w H h a (DctO P w a es) := by
  obtain ⟨q1, xs, q2, q3, ents, ep, ⟨o, ho, q4⟩, q5⟩ := q
  exact ⟨⟨q1, xs, q2, q3, ents, ep, ⟨o, ho, q4⟩, q5⟩, ⟨o, ho⟩, fun h1 h2 p k => by
    obtain ⟨q1, xs, q2, q3, ents, ep, ⟨o, ho, q4⟩, q5⟩ := p
    exact ⟨q1, xs, q2, q3, ents, ep, ⟨o, k o ho, q4⟩, q5⟩⟩
section
variable {X : Cx} {pins : List (Addr × Obj)} {σ : L2.St} {H : Hp} {s : Shared}
mutual
theorem nested_is (I : Inv X pins σ H s) : ∀ (n : Nat) (d : PyData) (v : V) (u : Value), Da.keyD n d = true → Rp X.K H v d → RelV v u → NestedIs s.heap (keyN d) u
  | n, .int i, _, _, _, h, r => by
    cases h
    obtain ⟨t, rfl⟩ := r
    exact .int i t
  | 0, .tuple ds, _, _, hk, _, _ => by simp [Da.keyD] at hk
  | n + 1, .tuple ds, _, _, hk, h, r => by
    simp only [Da.keyD] at hk
    cases h with
    | tuple h1 h2 h3 =>
      cases r
      obtain ⟨its, rv, ⟨o, ho, hc, m, hd⟩, _⟩ := I.tuple h1
      exact .tup ho hc hd (by simpa using nested_all I n ds _ its hk h3 rv)
  | n, .none, _, _, hk, _, _ => by cases n <;> simp [Da.keyD] at hk
  | n, .bool _, _, _, hk, _, _ => by cases n <;> simp [Da.keyD] at hk
  | n, .str _, _, _, hk, _, _ => by cases n <;> simp [Da.keyD] at hk
  | n, .list _, _, _, hk, _, _ => by cases n <;> simp [Da.keyD] at hk
  | n, .dict _, _, _, hk, _, _ => by cases n <;> simp [Da.keyD] at hk
theorem nested_all (I : Inv X pins σ H s) : ∀ (n : Nat) (ds : List PyData) (vs : List V) (us : List Value), Da.keyDs n ds = true → Rps X.K H vs ds → Vals vs us → NestedAll s.heap (keyNs ds) us
  | n, [], _, _, _, h, r => by
    cases h
    cases r
    exact .nil
  | n, d :: ds, _, _, hk, h, r => by
    simp only [Da.keyDs, Bool.and_eq_true] at hk
    cases h with
    | cons h1 h2 =>
      cases r with
      | cons r1 r2 => exact .cons (nested_is I n d _ _ hk.1 h1 r1) (nested_all I n ds _ _ hk.2 h2 r2)
end
theorem key_is (I : Inv X pins σ H s) {k : PyData} {b : Addr} (hk : Da.isKey k = true) (h : Rp X.K H (.ref b) k) : (nestedKind X.prog X.w).is s.heap (keyN k) b :=
  ⟨nested_is I 8 k _ _ (isKey_d hk) h rfl, keyN_depth 8 k (isKey_d hk)⟩
theorem key_ref {K : PySem.W.Frag} {k : PyData} {v : V} (hk : Da.isKey k = true) (h : Rp K H v k) : ∃ b, v = .ref b := by
  cases k <;> simp [Da.isKey] at hk
  cases h
  exact ⟨_, rfl⟩
/-- the library's word of the dict at a -/
theorem dct_of (I : Inv X pins σ H s) {a : Addr} {es : List Ent} {kvs : List (PyData × PyData)} (e : H a = some (DctO X.prog X.w a es)) (q : EntsOk X.K H es kvs) :
    (a == sysModules) = false ∧ ∃ xs, EntV es xs ∧ s.heap.DictOfH (nestedKind X.prog X.w) a xs := by
  obtain ⟨⟨q1, xs, q2, q3, ents, ep, ⟨o, ho, q4⟩, q5⟩, _⟩ := I.hok a _ e
  refine ⟨q1, xs, q2, o, ents, ep, ho, q4.1, q4.2, q5, fun x hx => ?_, q3⟩
  have all : ∀ {es : List Ent} {kvs : List (PyData × PyData)} {xs : List (NestedKey × Addr × Value)}, EntsOk X.K H es kvs → EntV es xs → ∀ x ∈ xs, (nestedKind X.prog X.w).is s.heap x.1 x.2.1 := by
    intro es kvs xs h1
    induction h1 generalizing xs with
    | nil => intro h2 x hx; cases h2; exact absurd hx (by simp)
    | @cons e kv es kvs h t ih =>
      intro h2 x hx
      cases h2 with
      | @cons _ y _ ys r1 r2 =>
        rcases List.mem_cons.mp hx with rfl | hx
        · obtain ⟨g1, g2, g3, g4⟩ := h
          obtain ⟨e1, e2, e3⟩ := r1
          rw [← e1, ← e2, g2]
          exact key_is I g1 g3
        · exact ih r2 x hx
  exact all q q2 x hx
/-- looking up: data and library alike -/
theorem look_up {K : PySem.W.Frag} {k : PyData} (hk : Da.isKey k = true) : ∀ {es : List Ent} {kvs : List (PyData × PyData)} {xs : List (NestedKey × Addr × Value)}, EntsOk K H es kvs → EntV es xs →
    (Da.getK kvs k = none ∧ atKey xs (keyN k) = none) ∨ ∃ d v u a, Da.getK kvs k = some d ∧ atKey xs (keyN k) = some (a, u) ∧ RelV v u ∧ Rp K H v d := by
  intro es kvs xs h1
  induction h1 generalizing xs with
  | nil => intro h2; cases h2; exact .inl ⟨rfl, rfl⟩
  | @cons e kv es kvs h t ih =>
    intro h2
    cases h2 with
    | @cons _ y _ ys r1 r2 =>
      obtain ⟨g1, g2, g3, g4⟩ := h
      obtain ⟨e1, e2, e3⟩ := r1
      obtain ⟨kk, dd⟩ := kv
      unfold Da.getK
      by_cases q : kk = k
      · rw [if_pos ((key_peq g1).mpr q)]
        refine .inr ⟨dd, e.2.2, y.2.2, y.2.1, rfl, ?_, e3, g4⟩
        have : y.1 = keyN k := by rw [← e1, g2, ← q]
        simp [atKey, List.find?_cons, this]
      · rw [if_neg (fun z => q ((key_peq g1).mp z))]
        have : ¬ y.1 = keyN k := fun z => q (key_inj g1 hk (by rw [← z, ← e1, g2]))
        have e4 : atKey (y :: ys) (keyN k) = atKey ys (keyN k) := by simp [atKey, List.find?_cons, this]
        rw [e4]
        exact ih r2
theorem put_in {K : PySem.W.Frag} {k d : PyData} {b : Addr} {v : V} {u : Value} (hk : Da.isKey k = true) (hb : Rp K H (.ref b) k) (hv : Rp K H v d) (r : RelV v u) : ∀ {es : List Ent} {kvs : List (PyData × PyData)} {xs : List (NestedKey × Addr × Value)}, (xs.map (·.1)).Nodup → EntsOk K H es kvs → EntV es xs →
    ∃ es', EntsOk K H es' (Da.putK kvs k d) ∧ EntV es' (storedH xs (keyN k) b u) ∧ es'.length ≤ es.length + 1 := by
  intro es kvs xs hn h1 h2
  rcases look_up hk h1 h2 with ⟨q1, q2⟩ | ⟨d0, v0, u0, a0, q1, q2, _, _⟩
  · rw [storedH_new q2]
    have hp : Da.putK kvs k d = kvs ++ [(k, d)] := by
      clear h1 h2
      induction kvs with
      | nil => rfl
      | cons kv kvs ih =>
        obtain ⟨kk, dd⟩ := kv
        unfold Da.getK at q1
        unfold Da.putK
        by_cases z : Da.peq kk k = true
        · rw [if_pos z] at q1; cases q1
        · rw [if_neg z] at q1
          rw [if_neg z, ih q1]
          rfl
    rw [hp]
    exact ⟨es ++ [(keyN k, b, v)], Paired.snoc h1 ⟨hk, rfl, hb, hv⟩, Paired.snoc h2 ⟨rfl, rfl, r⟩, by simp⟩
  · rw [storedH_old q2]
    clear q2
    induction h1 generalizing xs with
    | nil => simp [Da.getK] at q1
    | @cons e kv es kvs h t ih =>
      cases h2 with
      | @cons _ y _ ys r1 r2 =>
        obtain ⟨g1, g2, g3, g4⟩ := h
        obtain ⟨e1, e2, e3⟩ := r1
        obtain ⟨kk, dd⟩ := kv
        rw [List.map_cons, List.nodup_cons] at hn
        unfold Da.getK at q1
        unfold Da.putK
        by_cases q : kk = k
        · rw [if_pos ((key_peq g1).mpr q)]
          have hy : y.1 = keyN k := by rw [← e1, g2, ← q]
          have same : ys.map (putAt (keyN k) u) = ys := by
            have : ∀ l : List (NestedKey × Addr × Value), (keyN k ∉ l.map (·.1)) → l.map (putAt (keyN k) u) = l := by
              intro l
              induction l with
              | nil => intro _; rfl
              | cons z l ih2 =>
                intro hz
                rw [List.map_cons, List.mem_cons, not_or] at hz
                rw [List.map_cons, ih2 hz.2]
                unfold putAt
                rw [if_neg (fun q => hz.1 q.symm)]
            exact this ys (by rw [← hy]; exact hn.1)
          rw [List.map_cons, same]
          refine ⟨(e.1, e.2.1, v) :: es, .cons ⟨g1, g2, g3, hv⟩ t, .cons ?_ r2, by simp⟩
          unfold putAt
          rw [if_pos hy]
          exact ⟨e1, e2, r⟩
        · rw [if_neg (fun z => q ((key_peq g1).mp z))] at q1 ⊢
          obtain ⟨es', k1, k2, k3⟩ := ih hn.2 r2 q1
          have hy : ¬ y.1 = keyN k := fun z => q (key_inj g1 hk (by rw [← z, ← e1, g2]))
          refine ⟨e :: es', .cons ⟨g1, g2, g3, g4⟩ k1, ?_, by simpa using k3⟩
          rw [List.map_cons]
          refine .cons ?_ k2
          unfold putAt
          rw [if_neg hy]
          exact ⟨e1, e2, e3⟩
theorem entsOk_len {K : PySem.W.Frag} {es : List Ent} {kvs : List (PyData × PyData)} (h : EntsOk K H es kvs) : es.length = kvs.length := Paired.length h

/-- d[k], there -/
theorem dct_get (hu : X.A.units + 40 < cLine) (I : Inv X pins σ H s) {a : Addr} {b : Addr} {kvs : List (PyData × PyData)} {k d : PyData} {Q : VK} (u : UnD X.prog X.w X.K H a kvs) (hk : Da.isKey k = true) (hb : Rp X.K H (.ref b) k) (g : Da.getK kvs k = some d)
    (q : ∀ v, Rp X.K H v d → Q v H) : wpAny (model X.prog X.w) X.A (getItem (.ref a) (.ref b)) (EP X pins σ Q) X.xe s := by
  obtain ⟨es, h1, h2, h3⟩ := u
  obtain ⟨lo, xs, r, hx⟩ := dct_of I h1 h3
  rcases look_up hk h3 r with ⟨q1, _⟩ | ⟨d0, v, w', a0, q1, q2, q3, q4⟩
  · rw [g] at q1; cases q1
  · rw [g] at q1
    cases q1
    exact wpAny_getItem_heap (knd := nestedKind X.prog X.w) (by show X.A.units + 1 + 8 < cLine; omega) (key_is I hk hb) hx q2 ⟨v, H, I.tok _, q3, q v q4⟩
/-- k in d, k not in d -/
theorem dct_in (hu : X.A.units + 40 < cLine) (I : Inv X pins σ H s) {a : Addr} {b : Addr} {kvs : List (PyData × PyData)} {k : PyData} {Q : VK} (u : UnD X.prog X.w X.K H a kvs) (hk : Da.isKey k = true) (hb : Rp X.K H (.ref b) k)
    (q : Q (.bl (Da.getK kvs k).isSome) H) : wpAny (model X.prog X.w) X.A (compareOp .In (.ref b) (.ref a)) (EP X pins σ Q) X.xe s := by
  obtain ⟨es, h1, h2, h3⟩ := u
  obtain ⟨lo, xs, r, hx⟩ := dct_of I h1 h3
  refine wpAny_in_heap (knd := nestedKind X.prog X.w) (by show X.A.units + 1 + 8 < cLine; omega) (key_is I hk hb) lo hx ?_
  rcases look_up hk h3 r with ⟨q1, q2⟩ | ⟨d0, v, w', a0, q1, q2, q3, q4⟩
  · rw [q1] at q
    rw [q2]
    exact ⟨.bl _, H, I.tok _, rfl, q⟩
  · rw [q1] at q
    rw [q2]
    exact ⟨.bl _, H, I.tok _, rfl, q⟩
theorem dct_notIn (hu : X.A.units + 40 < cLine) (I : Inv X pins σ H s) {a : Addr} {b : Addr} {kvs : List (PyData × PyData)} {k : PyData} {Q : VK} (u : UnD X.prog X.w X.K H a kvs) (hk : Da.isKey k = true) (hb : Rp X.K H (.ref b) k)
    (q : Q (.bl (!(Da.getK kvs k).isSome)) H) : wpAny (model X.prog X.w) X.A (compareOp .NotIn (.ref b) (.ref a)) (EP X pins σ Q) X.xe s := by
  obtain ⟨es, h1, h2, h3⟩ := u
  obtain ⟨lo, xs, r, hx⟩ := dct_of I h1 h3
  refine wpAny_notIn_heap (knd := nestedKind X.prog X.w) (by show X.A.units + 1 + 8 < cLine; omega) (key_is I hk hb) lo hx ?_
  rcases look_up hk h3 r with ⟨q1, q2⟩ | ⟨d0, v, w', a0, q1, q2, q3, q4⟩
  · rw [q1] at q
    rw [q2]
    exact ⟨.bl _, H, I.tok _, rfl, q⟩
  · rw [q1] at q
    rw [q2]
    exact ⟨.bl _, H, I.tok _, rfl, q⟩
/-- d.get(k) -/
theorem dct_getN (hu : X.A.units + 40 < cLine) (I : Inv X pins σ H s) {a : Addr} {b : Addr} {kvs : List (PyData × PyData)} {k : PyData} {Q : VK} (u : UnD X.prog X.w X.K H a kvs) (hk : Da.isKey k = true) (hb : Rp X.K H (.ref b) k)
    (q : ∀ v, Rp X.K H v ((Da.getK kvs k).getD .none) → Q v H) : wpAny (model X.prog X.w) X.A (call (.builtin "dict.get") [.ref a, .ref b]) (EP X pins σ Q) X.xe s := by
  obtain ⟨es, h1, h2, h3⟩ := u
  obtain ⟨lo, xs, r, hx⟩ := dct_of I h1 h3
  refine call_meetsIn F.slot_dict_get hx.typeIs F.entry_dict_get (F.args_dict_get_2 _ _) (meetsH_dict_get (nestedKind X.prog X.w) a b lo) ⟨(by show X.A.units + 1 + 8 < cLine; omega), keyN k, xs, key_is I hk hb, hx, ?_⟩
  rcases look_up hk h3 r with ⟨q1, q2⟩ | ⟨d0, v, w', a0, q1, q2, q3, q4⟩
  · rw [q1] at q
    rw [q2]
    exact ⟨.non, H, I.tok _, rfl, q _ .none⟩
  · rw [q1] at q
    rw [q2]
    exact ⟨v, H, I.tok _, q3, q v q4⟩
theorem dct_write (I : Inv X pins σ H s) {a : Addr} {es es' : List Ent} {xs' : List (NestedKey × Addr × Value)} {h' : Heap} {t' : Nat} (e : H a = some (DctO X.prog X.w a es)) (lo : (a == sysModules) = false) (hs : Heap.SameBut a s.heap h') (hx : h'.DictOfH (nestedKind X.prog X.w) a xs') (r : EntV es' xs') :
    Inv X pins σ (upd H a (DctO X.prog X.w a es')) { s with heap := h', toks := t' } := by
  obtain ⟨o, ents, ep, ho, q1, q2, q3, _, q4⟩ := hx
  exact I.write (x := a) (e := a) (by rw [e]; exact True.intro) (.inl rfl) (fun b q hb z => (hs.2 b hb).trans z) ⟨o, ho⟩ (dct_ok ⟨lo, xs', r, q4, ents, ep, ⟨o, ho, q1, q2⟩, q3⟩)
theorem mu_dct {P : Program} {w : World} {a : Addr} {es : List Ent} (e : H a = some (DctO P w a es)) : Mu (H a) := .inr ⟨_, e⟩
/-- d[k] = v -/
theorem dct_set (hu : X.A.units + 40 < cLine) (I : Inv X pins σ H s) {a : Addr} {b : Addr} {kvs : List (PyData × PyData)} {k d : PyData} {v : V} {vv : Value} {Q : Unit → Shared → Prop} {E : Value → Shared → Prop} (u : UnD X.prog X.w X.K H a kvs) (hk : Da.isKey k = true) (hb : Rp X.K H (.ref b) k) (hv : Rp X.K H v d) (rv : RelV v vv) (hz : kvs.length < sizeLine)
    (q : ∀ H' s', H' = upd H a (H' a |>.getD (.lst [])) → UnD X.prog X.w X.K H' a (Da.putK kvs k d) → Inv X pins σ H' s' → Q () s') : wpAny (model X.prog X.w) X.A (setItem (.ref a) (.ref b) vv) Q E s := by
  obtain ⟨es, h1, h2, h3⟩ := u
  obtain ⟨lo, xs, r, hx⟩ := dct_of I h1 h3
  have l1 : xs.length = kvs.length := by rw [← Paired.length r, Paired.length h3]
  have nd : (xs.map (·.1)).Nodup := by
    obtain ⟨_, _, _, _, _, _, _, _, z⟩ := id hx
    exact z
  obtain ⟨es', k1, k2, k3⟩ := put_in hk hb hv rv nd h3 r
  refine wpAny_setItem_heap (knd := nestedKind X.prog X.w) (hsz := by rw [l1]; exact Nat.le_of_lt hz) (by show X.A.units + 1 + 8 < cLine; omega) (key_is I hk hb) hx fun h' hm' hs => ?_
  have I2 := dct_write (t' := s.toks + (nestedKind X.prog X.w).draws (keyN k)) I h1 lo hs hm' k2
  have hl : es.length = kvs.length := Paired.length h3
  refine q _ _ ?_ ⟨es', upd_same, by omega, EntsOk.gr (.upd (mu_dct h1)) k1⟩ I2
  rw [upd_same]
  rfl
/-- d.setdefault(k, v) -/
theorem dct_setdef (hu : X.A.units + 40 < cLine) (I : Inv X pins σ H s) {a : Addr} {b : Addr} {kvs : List (PyData × PyData)} {k d : PyData} {v : V} {vv : Value} {Q : Value → Shared → Prop} {E : Value → Shared → Prop} (u : UnD X.prog X.w X.K H a kvs) (hk : Da.isKey k = true) (hb : Rp X.K H (.ref b) k) (hv : Rp X.K H v d) (rv : RelV v vv) (hz : kvs.length < sizeLine)
    (q1 : (Da.getK kvs k).isSome = true → ∀ v' u' s', RelV v' u' → Inv X pins σ H s' → Q u' s')
    (q2 : (Da.getK kvs k).isSome = false → ∀ H' v' u' s', H' = upd H a (H' a |>.getD (.lst [])) → UnD X.prog X.w X.K H' a (Da.putK kvs k d) → RelV v' u' → Inv X pins σ H' s' → Q u' s') : wpAny (model X.prog X.w) X.A (call (.builtin "dict.setdefault") [.ref a, .ref b, vv]) Q E s := by
  obtain ⟨es, h1, h2, h3⟩ := u
  obtain ⟨lo, xs, r, hx⟩ := dct_of I h1 h3
  have l1 : xs.length = kvs.length := by rw [← Paired.length r, Paired.length h3]
  have nd : (xs.map (·.1)).Nodup := by
    obtain ⟨_, _, _, _, _, _, _, _, z⟩ := id hx
    exact z
  obtain ⟨es', k1, k2, k3⟩ := put_in hk hb hv rv nd h3 r
  refine call_setdefault_heap (knd := nestedKind X.prog X.w) (hsz := by rw [l1]; exact Nat.le_of_lt hz) (by show X.A.units + 1 + 8 < cLine; omega) (key_is I hk hb) lo hx (fun p hp => ?_) fun hn h' hm' hs => ?_
  · rcases look_up hk h3 r with ⟨e1, e2⟩ | ⟨d0, v0, w', a0, e1, e2, e3, e4⟩
    · rw [hp] at e2; cases e2
    · rw [hp] at e2
      cases e2
      exact q1 (by rw [e1]; rfl) v0 w' _ e3 (I.tok _)
  · have I2 := dct_write (t' := s.toks + (nestedKind X.prog X.w).draws (keyN k)) I h1 lo hs hm' k2
    have hl : es.length = kvs.length := Paired.length h3
    have hg : (Da.getK kvs k).isSome = false := by
      rcases look_up hk h3 r with ⟨e1, e2⟩ | ⟨d0, v0, w', a0, e1, e2, e3, e4⟩
      · rw [e1]; rfl
      · rw [hn] at e2; cases e2
    refine q2 hg _ v vv _ ?_ ⟨es', upd_same, by omega, EntsOk.gr (.upd (mu_dct h1)) k1⟩ rv I2
    rw [upd_same]
    rfl
theorem dct_type (I : Inv X pins σ H s) {a : Addr} {kvs : List (PyData × PyData)} (u : UnD X.prog X.w X.K H a kvs) : s.TypeIs (.ref a) "dict" ∧ ∀ b, Value.ref a = .ref b → ∃ ob, s.heap.get? b = some ob ∧ ob.dict = none := by
  obtain ⟨es, h1, h2, h3⟩ := u
  obtain ⟨lo, xs, r, hx⟩ := dct_of I h1 h3
  refine ⟨hx.typeIs, fun b q => ?_⟩
  cases q
  obtain ⟨o, _, _, ho, hc, _⟩ := hx
  exact ⟨o, ho, hc.2.1⟩
end
end Sk
set_option linter.all false
set_option maxRecDepth 100000
/-! LayMin: min(xs, default=d) of a list of ints; max of a list as a fold. -/
namespace Sk
open PySem PySem.Spec PyProof.Rows L2

section
variable {prog : Program} {w : World} {A : Around} {R : Result → Shared → Prop} {I l : Addr} {items : Array Value} {ns : List Int}
def minO (d : Int) : Option Int → List Int → Int
  | none, [] => d
  | some m, [] => m
  | none, x :: xs => minO d (some x) xs
  | some m, x :: xs => minO d (some (if x < m then x else m)) xs
theorem minO_some (d : Int) : ∀ (xs : List Int) (m : Int), minO d (some m) xs = Da.minL m xs
  | [], _ => rfl
  | x :: xs, m => by
    unfold minO Da.minL
    exact minO_some d xs _
/-- the running best, as min keeps it -/
def bestIs (h : Heap) (S : Addr) : Option Int → Prop
  | none => ∃ c, h.get? S = some { cls := .type "list", dict := none, data := .seq #[] c, slots := #[] }
  | some m => ∃ c t, h.get? S = some { cls := .type "list", dict := none, data := .seq #[.int m t, .int m t] c, slots := #[] }
theorem min_turns (hh : A.handled = none) (hne : l ≠ I) (S : Addr) (hSI : S ≠ I) (hSl : S ≠ l) (d : Int) (td : Tok) (hitems : items.size = ns.length) (hit : ∀ (i : Nat) (v : Value), items[i]? = some v → ∃ n t, ns[i]? = some n ∧ v = .int n t) :
    ∀ (k i : Nat) (s : Shared) (cur : Option Int), ns.length - i = k → i ≤ ns.length → s.heap.IsListIter I l i → s.heap.IsList l items → bestIs s.heap S cur →
    (∀ h' tk t, (∀ b o, b ≠ I → b ≠ S → s.heap.get? b = some o → h'.get? b = some o) → R (.ok (.ret (.int (minO d cur (ns.drop i)) t))) { s with heap := h', toks := tk }) →
    codeAny (model prog w) A (.builtin "min.loop" ⟨[.ref I, .none, .ref S], [(Str.ofString "default", .int d td)]⟩) R s := by
  have hname : (toString "min" ++ toString ".loop" : String) = "min.loop" := by decide
  have W := Walks.list (prog := prog) (w := w) (A := A.in1) hh I l hne items
  intro k
  induction k with
  | zero =>
    intro i s cur hk hi st1 st2 hb hR
    have hin : i = ns.length := by omega
    refine codeAny_builtin F.entry_min_loop ?_
    rw [Around.under_plainId F.plain_min_loop _]
    show wpAny _ A.in1 (seqItems? (.ref S) >>= _) _ _ s
    have fin : ns.drop i = [] := by rw [hin]; exact List.drop_length
    cases cur with
    | none =>
      obtain ⟨c, hS⟩ := hb
      refine wpAny_bind (wpAny_seqItems hS rfl ?_)
      show wpAny _ A.in1 (tryCatch (pyNext (.ref I)) _ >>= _) _ _ s
      refine wpAny_bind (wpAny_tryCatch (W.done s _ _ ⟨by rw [hitems, ← hin]; exact st1, st2⟩ fun h' tk hk' => ?_))
      refine wpAny_bind (wpAny_rule (wpAny_pure ?_))
      have := hR h' tk td fun b o hbI _ e => hk' b o (by simpa using hbI) e
      rw [fin] at this
      exact this
    | some m =>
      obtain ⟨c, t, hS⟩ := hb
      refine wpAny_bind (wpAny_seqItems hS rfl ?_)
      show wpAny _ A.in1 (tryCatch (pyNext (.ref I)) _ >>= _) _ _ s
      refine wpAny_bind (wpAny_tryCatch (W.done s _ _ ⟨by rw [hitems, ← hin]; exact st1, st2⟩ fun h' tk hk' => ?_))
      have hS' := hk' S _ (by simpa using hSI) hS
      show wpAny _ A.in1 (updateSeq S (fun _ => #[]) >>= _) _ _ _
      refine wpAny_bind ?_
      refine wpAny_updateSeq hS' rfl (wpAny_bind (wpAny_letGo (wpAny_pure ?_)))
      have := hR (h'.update S (Obj.mapSeq fun _ => #[])) tk t fun b o hbI hbS e => (Heap.get?_update_other _ _ (Ne.symm hbS)).trans (hk' b o (by simpa using hbI) e)
      rw [fin] at this
      exact this
  | succ k ih =>
    intro i s cur hk hi st1 st2 hb hR
    have hlt : i < ns.length := by omega
    have hcut : ns.drop i = ns[i] :: ns.drop (i + 1) := List.drop_eq_getElem_cons hlt
    refine codeAny_builtin F.entry_min_loop ?_
    rw [Around.under_plainId F.plain_min_loop _]
    show wpAny _ A.in1 (seqItems? (.ref S) >>= _) _ _ s
    cases cur with
    | none =>
      obtain ⟨c, hS⟩ := hb
      refine wpAny_bind (wpAny_seqItems hS rfl ?_)
      show wpAny _ A.in1 (tryCatch (pyNext (.ref I)) _ >>= _) _ _ s
      refine wpAny_bind (wpAny_tryCatch (W.item i s _ _ (by rw [hitems]; exact hlt) ⟨st1, st2⟩ fun v h' tk hP hst' hk' => ?_))
      obtain ⟨n, t, en, rfl⟩ := hit i v hP
      have en' : ns[i] = n := by rw [List.getElem?_eq_getElem hlt] at en; exact Option.some.inj en
      have hS' := hk' S _ (by simpa using hSI) hS
      show wpAny _ A.in1 (updateSeq S (fun _ => #[.int n t, .int n t]) >>= _) _ _ _
      refine wpAny_bind ?_
      refine wpAny_updateSeq hS' rfl ?_
      rw [hname]
      have oth : ∀ b o, b ≠ S → h'.get? b = some o → (h'.update S (Obj.mapSeq fun _ => #[.int n t, .int n t])).get? b = some o := fun b o hbS e => (Heap.get?_update_other _ _ (Ne.symm hbS)).trans e
      refine wpAny_pure ⟨plainId_quiet F.plain_min_loop _, ih (i + 1) _ (some n) (by omega) hlt (hst'.1.at fun o e => oth I o (Ne.symm hSI) e) (hst'.2.at fun o e => oth l o (Ne.symm hSl) e) ⟨_, t, Heap.get?_update_self _ hS' rfl⟩
        fun h'' tk'' t'' hk'' => ?_⟩
      have := hR h'' tk'' t'' fun b o hbI hbS e => hk'' b o hbI hbS (oth b o hbS (hk' b o (by simpa using hbI) e))
      rw [hcut, en'] at this
      exact this
    | some m =>
      obtain ⟨c, tm, hS⟩ := hb
      refine wpAny_bind (wpAny_seqItems hS rfl ?_)
      show wpAny _ A.in1 (tryCatch (pyNext (.ref I)) _ >>= _) _ _ s
      refine wpAny_bind (wpAny_tryCatch (W.item i s _ _ (by rw [hitems]; exact hlt) ⟨st1, st2⟩ fun v h' tk hP hst' hk' => ?_))
      obtain ⟨n, t, en, rfl⟩ := hit i v hP
      have en' : ns[i] = n := by rw [List.getElem?_eq_getElem hlt] at en; exact Option.some.inj en
      have hS' := hk' S _ (by simpa using hSI) hS
      show wpAny _ A.in1 (tryCatch (holding [Value.int n t, Value.int n t] (richCompare .Lt (Value.int n t) (Value.int m tm) >>= _)) _ >>= _) _ _ _
      refine wpAny_bind (wpAny_tryCatch (wpAny_holding (wpAny_bind ?_)))
      refine (show ∀ {Q : Value → Shared → Prop} {E : Value → Shared → Prop} {s : Shared}, Q (.bool (decide (n < m))) s → wpAny (model prog w) A.in1 (richCompare .Lt (Value.int n t) (Value.int m tm)) Q E s from fun q => PySem.P.lt_int q) ?_
      refine wpAny_bind (wpAny_holding (wpAny_truthy_bool ?_))
      refine wpAny_bind (wpAny_letGo (wpAny_pure ?_))
      cases hc : decide (n < m) with
      | true =>
        have hc' := of_decide_eq_true hc
        simp only [if_true]
        refine wpAny_bind ?_
        refine wpAny_updateSeq hS' rfl (wpAny_bind (wpAny_letGo ?_))
        rw [hname]
        have oth : ∀ b o, b ≠ S → h'.get? b = some o → (h'.update S (Obj.mapSeq fun _ => #[.int n t, .int n t])).get? b = some o := fun b o hbS e => (Heap.get?_update_other _ _ (Ne.symm hbS)).trans e
        refine wpAny_pure ⟨plainId_quiet F.plain_min_loop _, ih (i + 1) _ (some n) (by omega) hlt (hst'.1.at fun o e => oth I o (Ne.symm hSI) e) (hst'.2.at fun o e => oth l o (Ne.symm hSl) e) ⟨_, t, Heap.get?_update_self _ hS' rfl⟩
          fun h'' tk'' t'' hk'' => ?_⟩
        have := hR h'' tk'' t'' fun b o hbI hbS e => hk'' b o hbI hbS (oth b o hbS (hk' b o (by simpa using hbI) e))
        rw [hcut, en'] at this
        unfold minO at this
        rw [if_pos hc'] at this
        exact this
      | false =>
        have hc' := of_decide_eq_false hc
        simp only [Bool.false_eq_true, if_false]
        refine wpAny_bind (wpAny_letGo ?_)
        rw [hname]
        refine wpAny_pure ⟨plainId_quiet F.plain_min_loop _, ih (i + 1) _ (some m) (by omega) hlt hst'.1 hst'.2 ⟨c, tm, hS'⟩ fun h'' tk'' t'' hk'' => ?_⟩
        have := hR h'' tk'' t'' fun b o hbI hbS e => hk'' b o hbI hbS (hk' b o (by simpa using hbI) e)
        rw [hcut, en'] at this
        unfold minO at this
        rw [if_neg hc'] at this
        exact this
end
theorem ints_items {its : List Value} {ns : List Int} (h : IntsAre its ns) : its.toArray.size = ns.length ∧ ∀ (i : Nat) (v : Value), its.toArray[i]? = some v → ∃ n t, ns[i]? = some n ∧ v = .int n t := by
  refine ⟨by simpa using h.length, fun i v e => ?_⟩
  have e' : its[i]? = some v := by simpa using e
  clear e
  induction h generalizing i with
  | nil => simp at e'
  | cons n t h ih =>
    cases i with
    | zero => simp at e'; exact ⟨n, t, rfl, e'.symm⟩
    | succ i =>
      obtain ⟨m, u, h1, h2⟩ := ih i (by simpa using e')
      exact ⟨m, u, by simpa using h1, h2⟩
section
variable {prog : Program} {w : World} {A : Around} {E : Value → Shared → Prop} {s : Shared}
theorem args_min_def (a d : Value) : argsOk "min" ⟨[a], [(Str.ofString "default", d)]⟩ := by unfold argsOk; kernel_rfl
theorem call_min_def {l : Addr} {its : List Value} {ns : List Int} {d : Int} {td : Tok} {Q : Value → Shared → Prop} (hh : A.handled = none) (hl : s.heap.IsList l its.toArray) (hi : IntsAre its ns)
    (h : ∀ h' tk t, (∀ b o, s.heap.get? b = some o → h'.get? b = some o) → Q (.int (minO d none ns) t) { s with heap := h', toks := tk }) :
    wpAny (model prog w) A (call (.builtin "min") [.ref l] [(Str.ofString "default", .int d td)]) Q E s := by
  have hname : (toString "min" ++ toString ".loop" : String) = "min.loop" := by decide
  refine wpAny_call (codeAny_call_builtin F.plain_min F.entry_min ?_)
  simp only [checkBuiltinCall, F.kind_min]
  have hc : wpAny (model prog w) A.in1 (Builtin.«min» ⟨[.ref l], [(Str.ofString "default", .int d td)]⟩) (fun fin s' => match fin with
      | .done f => (match (Except.ok f : Result) with | .ok (.ret v) => Q v s' | .ok _ => False | .error e => E e s')
      | .again c' => c'.quiet = true ∧ codeAny (model prog w) A c' (fun r s' => match r with | .ok (.ret v) => Q v s' | .ok _ => False | .error e => E e s') s') E s := by
    show wpAny _ A.in1 (Builtin.Builtins.bindParams "min" ["key", "default"] 0 ⟨[], [(Str.ofString "default", .int d td)]⟩ >>= _) _ _ s
    refine wpAny_bind (wpAny_of_eq (show Builtin.Builtins.bindParams "min" ["key", "default"] 0 ⟨[], [(Str.ofString "default", .int d td)]⟩ = pure [none, some (.int d td)] from rfl) ?_)
    refine wpAny_bind (wpAny_pure ?_)
    refine wpAny_bind (wpAny_pyIter_list hl ?_)
    refine wpAny_bind (wpAny_newObj_type ?_)
    rw [hname]
    have hlt : l < s.heap.objs.size := by obtain ⟨_, e, _⟩ := id hl; exact Heap.lt_size e
    obtain ⟨e1, e2⟩ := ints_items hi
    have sz : ∀ o, (s.heap.push o).objs.size = s.heap.objs.size + 1 := fun o => Heap.size_push _ _
    refine wpAny_pure ⟨plainId_quiet F.plain_min_loop _, ?_⟩
    refine min_turns (I := s.heap.objs.size) (items := its.toArray) (ns := ns) hh (Nat.ne_of_lt hlt) _ (by rw [sz]; exact Nat.succ_ne_self _) (by rw [sz]; exact Nat.ne_of_gt (Nat.lt_succ_of_lt hlt)) d td e1 e2 _ 0 _ none rfl (Nat.zero_le _)
      ⟨_, Heap.get?_push_of_some _ (Heap.get?_push_size _ rfl), rfl, rfl⟩ ((hl.push _).push _) ⟨0, Heap.get?_push_size _ rfl⟩ fun h' tk t hk => ?_
    rw [List.drop_zero]
    refine h h' tk t fun b o e => ?_
    have hb := Heap.lt_size e
    exact hk b o (Nat.ne_of_lt hb) (by rw [sz]; exact Nat.ne_of_lt (Nat.lt_succ_of_lt hb)) (Heap.get?_push_of_some _ (Heap.get?_push_of_some _ e))
  cases hsig : Manifest.signature? "min" with
  | none => exact wpAny_pure hc
  | some sig =>
    have ha' : Bind.checkArgs "min" sig ⟨[.ref l], [(Str.ofString "default", .int d td)]⟩ = pure () := by
      have := args_min_def (.ref l) (.int d td)
      simpa only [argsOk, hsig] using this
    simp only [ha']
    exact wpAny_pure hc
end
/-- min(xs, default=0) -/
theorem cr_minD {X : Cx} (hc : X.calm = true) : CallRK X (.builtin "min") [Str.ofString "default"] (fun vs zs H Q => ∃ (a : Addr) (ns : List Int) (d : Int), vs = [V.ref a] ∧ zs = [.int d] ∧ SqL X.K H a (ns.map V.int) ∧ Q (.int (minO d none ns)) H) := by
  intro pins s σ H vs zs us ws Q I r rz h
  obtain ⟨a, ns, d, rfl, rfl, hs, q⟩ := h
  obtain ⟨its, rv, hl, _⟩ := I.list hs
  obtain ⟨w1, rfl, td, rfl⟩ := vals1 rz
  rw [Vals.ref1 r]
  exact call_min_def (I.ok.hd hc) hl.isList rv.ints fun h' tk t hk => ⟨.int _, H, I.kept hk, ⟨_, rfl⟩, q⟩

/-! ### greatest, least as folds -/
theorem maxL_ge : ∀ (xs : List Int) (m : Int), m ≤ Da.maxL m xs ∧ (∀ x ∈ xs, x ≤ Da.maxL m xs) ∧ (Da.maxL m xs = m ∨ Da.maxL m xs ∈ xs)
  | [], m => ⟨Int.le_refl _, fun x h => absurd h (by simp), .inl rfl⟩
  | x :: xs, m => by
    unfold Da.maxL
    obtain ⟨h1, h2, h3⟩ := maxL_ge xs (if x > m then x else m)
    have c1 : m ≤ (if x > m then x else m) := by split <;> omega
    have c2 : x ≤ (if x > m then x else m) := by split <;> omega
    refine ⟨by omega, fun y hy => ?_, ?_⟩
    · rcases List.mem_cons.mp hy with rfl | hy
      · omega
      · exact h2 y hy
    · rcases h3 with h3 | h3
      · rw [h3]
        split
        · exact .inr (List.mem_cons_self ..)
        · exact .inl rfl
      · exact .inr (List.mem_cons_of_mem _ h3)
theorem maxL_is {x : Int} {r : List Int} {m : Int} (h1 : m ∈ x :: r) (h2 : ∀ y ∈ x :: r, y ≤ m) : m = Da.maxL x r := by
  obtain ⟨a, b, c⟩ := maxL_ge r x
  have u : Da.maxL x r ≤ m := by
    rcases c with c | c
    · rw [c]; exact h2 x (List.mem_cons_self ..)
    · exact h2 _ (List.mem_cons_of_mem _ c)
  have v : m ≤ Da.maxL x r := by
    rcases List.mem_cons.mp h1 with e | e
    · rw [e]; exact a
    · exact b m e
  omega
end Sk
set_option linter.all false
set_option maxRecDepth 100000
/-! Lay4: subscripts, slices, dicts, calls of built-ins. -/
namespace Sk
open PySem PySem.Spec PyProof.Rows L2
open Da (Rho Dn Dts Dl Dst Out)

theorem ixN_eq (n : Nat) (i : Int) : Da.ixN n i = L2.ixN n i := by
  cases i with
  | ofNat k =>
    unfold L2.ixN
    have h0 : (0 : Int) ≤ Int.ofNat k := Int.natCast_nonneg k
    rw [if_pos h0]
    show (if k < n then some k else none) = _
    by_cases h : k < n
    · rw [if_pos h, if_pos (by show (k : Int) < n; omega)]; rfl
    · rw [if_neg h, if_neg (by show ¬ (k : Int) < n; omega)]
  | negSucc k =>
    unfold L2.ixN
    have h0 : ¬ (0 : Int) ≤ Int.negSucc k := by have := Int.negSucc_lt_zero k; omega
    rw [if_neg h0]
    show (if k < n then some (n - (k + 1)) else none) = _
    have e : Int.negSucc k = -((k : Int) + 1) := by rw [Int.negSucc_eq]
    by_cases h : k < n
    · rw [if_pos h, if_pos (by rw [e]; omega)]
      congr 1
      rw [e]
      omega
    · rw [if_neg h, if_neg (by rw [e]; omega)]

section
variable {X : Cx} {H0 : Hp} {kd : Nat → Kd} {e a b c : Expr} {pos : Pos} {m : Md} {f g h : Dn}
theorem ix_tl : IxR X (fun x y H Q => rIxL X.K x y H Q ∨ rIxT X.K x y H Q) := ix_list.or ix_tup
theorem o2_ix : Op2 X .val (fun x y H Q => rIxL X.K x y H Q ∨ rIxT X.K x y H Q) Da.gIx := fun H0 kd H x y d e z Q p q h k => by
  cases d <;> cases e <;> simp only [Da.gIx] at h <;> try cases h
  · obtain ⟨j, e1, e2⟩ := bind_some h
    obtain ⟨r, xs, h1, h2, h3, h4⟩ := p.list
    obtain ⟨v, e3, e4⟩ := h4.get e2
    refine .inl ⟨r, xs, _, v, h1, q.int, h2, ?_, fin_val k e4⟩
    unfold atI
    rw [← ixN_eq, h4.length, e1]
    exact e3
  · obtain ⟨j, e1, e2⟩ := bind_some h
    obtain ⟨r, xs, h1, h2, h3, h4⟩ := p.tuple
    obtain ⟨v, e3, e4⟩ := h4.get e2
    refine .inr ⟨r, xs, _, v, h1, q.int, h2, ?_, fin_val k e4⟩
    unfold atI
    rw [← ixN_eq, h4.length, e1]
    exact e3
theorem de_ix (p : DE X H0 kd .any a f) (q : DE X H0 kd .any b h) (hs : PlainIx b) : DE X H0 kd .val (.Subscript a b pos) (Da.dB Da.gIx f h) :=
  PE.imp (pe_ix ix_tl p q hs) fun _ _ _ z => op2_run o2_ix z

/-! ### slices -/
abbrev tPo (C : Ct) (f : Rho → Option (Option Nat)) : TO := fun σ H Q => ∃ r o, Env C H σ r ∧ f r = some o ∧ ∀ H', Same H H' → Q (o.map fun n : Nat => (n : Int)) H'
abbrev DO (X : Cx) (H0 : Hp) (kd : Nat → Kd) (e : Option Expr) (f : Rho → Option (Option Nat)) : Prop := PO X e (tPo (cx X H0 kd) f)
theorem PO.imp {X : Cx} {e : Option Expr} {t t' : TO} (h : PO X e t) (i : ∀ σ H Q, t' σ H Q → t σ H Q) : PO X e t' := ⟨fun pins s σ H Q I q => h.run pins s σ H Q I (i σ H Q q)⟩
theorem do_no : DO X H0 kd none Da.pNo := PO.imp po_none fun σ H Q ⟨r, o, env, ef, k⟩ => by
  cases ef
  exact k H (Same.refl H)
theorem do_some (p : DE X H0 kd .any e f) : DO X H0 kd (some e) (Da.pSome f) := PO.imp (po_some p) fun σ H Q ⟨r, o, env, ef, k⟩ => by
  obtain ⟨d, e1, e2⟩ := bind_some ef
  obtain ⟨n, e3, e4⟩ := Option.map_eq_some_iff.mp e2
  subst e4
  refine ⟨r, d, env, e1, fun v H' s q => ?_⟩
  cases d <;> simp only [Da.asN] at e3 <;> try cases e3
  split at e3
  · rename_i hn
    cases e3
    refine ⟨_, (show Tp (cx X H0 kd) H' v _ from q).int, ?_⟩
    have := k H' s
    rw [Option.map_some, Int.toNat_of_nonneg hn] at this
    exact this
  · cases e3
theorem cut_eq (xs : List V) (lo hi : Option Nat) : cutV xs (lo.map fun n : Nat => (n : Int)) (hi.map fun n : Nat => (n : Int)) = (xs.take (hi.getD xs.length)).drop (lo.getD 0) := by
  unfold cutV
  have key : ∀ l h : Nat, (xs.drop (min l xs.length)).take (min h xs.length - min l xs.length) = (xs.take h).drop l := fun l h => by
    rw [List.drop_take]
    by_cases q : l ≤ xs.length
    · rw [Nat.min_eq_left q]
      by_cases z : h ≤ xs.length
      · rw [Nat.min_eq_left z]
      · rw [Nat.min_eq_right (by omega), List.take_of_length_le (by rw [List.length_drop]; omega), List.take_of_length_le (by rw [List.length_drop]; omega)]
    · have e1 : xs.drop (min l xs.length) = [] := List.drop_eq_nil_of_le (by omega)
      have e2 : xs.drop l = [] := List.drop_eq_nil_of_le (by omega)
      rw [e1, e2, List.take_nil, List.take_nil]
  have e1 : HT.sIx xs.length 0 (lo.map fun n : Nat => (n : Int)) = min (lo.getD 0) xs.length := by
    cases lo with
    | none => simp [HT.sIx_none]
    | some n => exact HT.sIx_nat _ _ n
  have e2 : HT.sIx xs.length xs.length (hi.map fun n : Nat => (n : Int)) = min (hi.getD xs.length) xs.length := by
    cases hi with
    | none => simp [HT.sIx_none]
    | some n => exact HT.sIx_nat _ _ n
  rw [e1, e2]
  exact key _ _
theorem de_slice {lo hi : Option Expr} {p2 : Pos} {l u : Rho → Option (Option Nat)} (p : DE X H0 kd .any a f) (q : DO X H0 kd lo l) (w : DO X H0 kd hi u) : DE X H0 kd .fre (.Subscript a (.Slice lo hi none p2) pos) (Da.dSl f l u) :=
  PE.imp (pe_slice sl_list p q w) fun σ H Q ⟨r, d, env, ef, k⟩ => by
    obtain ⟨x, e1, e2⟩ := bind_some ef
    obtain ⟨ol, e3, e4⟩ := bind_some e2
    obtain ⟨oh, e5, e6⟩ := bind_some e4
    refine ⟨r, x, env, e1, fun v H1 s1 q1 => ⟨r, ol, env.same s1, e3, fun H2 s2 => ⟨r, oh, env.same (s1.trans s2), e5, fun H3 s3 => ?_⟩⟩⟩
    cases x <;> simp only [Da.gSl] at e6 <;> try cases e6
    obtain ⟨ad, xs, h1, h2, h3, h4⟩ := (Tp.same (s2.trans s3) (show Tp (cx X H0 kd) H1 v _ from q1)).list
    refine ⟨ad, xs, h1, h2, fun p np => ?_⟩
    rw [cut_eq]
    have s := (s1.trans s2).trans s3
    refine k _ _ (s.trans (same_new np)) ⟨p, _, rfl, rfl, s.free np, _, upd_same, ?_, ?_⟩
    · rw [List.length_drop, List.length_take]; omega
    · rw [h4.length]
      exact Rps.gr (.new np) _ _ ((h4.take _).drop _)

/-! ### dicts -/
theorem de_dget (hu : X.A.units + 40 < cLine) (p : DE X H0 kd .any a f) (q : DE X H0 kd .val b h) (hs : NoSl b) : DE X H0 kd .val (.Subscript a b pos) (Da.dB Da.gDGet f h) := by
  refine ⟨fun pins s σ H Q I ⟨r, d, env, ef, k⟩ => ?_⟩
  obtain ⟨x, e1, e2⟩ := bind_some ef
  obtain ⟨y, e3, e4⟩ := bind_some e2
  refine subD_of PySem.F.slot_dict_getitem.lookup hs (thn (p.run pins s σ H (fun v H' => Same H H' ∧ Tp (cx X H0 kd) H' v x) I ⟨r, x, env, e1, fun v H' sm q => ⟨sm, q⟩⟩) fun u s1 ⟨v, H1, I1, rv, s01, t1⟩ =>
    thn (q.run pins s1 σ H1 (fun v H' => Same H1 H' ∧ Rp X.K H' v y) I1 ⟨r, y, env.same s01, e3, fun v H' sm q => ⟨sm, q⟩⟩) fun u2 s2 ⟨v2, H2, I2, rv2, s12, t2⟩ => ?_)
  cases x <;> simp only [Da.gDGet] at e4 <;> try cases e4
  split at e4
  · rename_i kvs hk
    obtain ⟨ad, hv, hun⟩ := (Tp.same s12 t1).dict
    subst hv
    obtain rfl : u = Value.ref ad := rv
    obtain ⟨bd, hb⟩ := key_ref hk t2
    subst hb
    obtain rfl : u2 = Value.ref bd := rv2
    exact ⟨(dct_type I2 hun).1, dct_get hu I2 hun hk t2 e4 fun w hw => k w H2 (s01.trans s12) hw⟩
  · cases e4
def rDIn (X : Cx) (neg : Bool) : R2 := fun x y H Q => ∃ a b kvs k, y = .ref a ∧ x = .ref b ∧ UnD X.prog X.w X.K H a kvs ∧ Da.isKey k = true ∧ Rp X.K H (.ref b) k ∧ Q (.bl (if neg = true then !(Da.getK kvs k).isSome else (Da.getK kvs k).isSome)) H
theorem op_dIn (hu : X.A.units + 40 < cLine) : OpR X (compareOp .In) (rDIn X false) := by
  intro pins s σ H x y v u Q I rx ry h
  obtain ⟨a, b, kvs, k, rfl, rfl, hun, hk, hb, q⟩ := h
  cases rx
  cases ry
  exact dct_in hu I hun hk hb q
theorem op_dNotIn (hu : X.A.units + 40 < cLine) : OpR X (compareOp .NotIn) (rDIn X true) := by
  intro pins s σ H x y v u Q I rx ry h
  obtain ⟨a, b, kvs, k, rfl, rfl, hun, hk, hb, q⟩ := h
  cases rx
  cases ry
  exact dct_notIn hu I hun hk hb q
theorem dt_dNotIn (hu : X.A.units + 40 < cLine) (p : DE X H0 kd .val a f) (q : DE X H0 kd .any b h) (hm : behindInMarks .NotIn b = false) : DT X H0 kd (.Compare a [.NotIn] [b] pos) (Da.tV (Da.dB Da.gDNotIn f h)) :=
  PT.imp (pt_cmpR (op_dNotIn hu) p q hm) fun σ H Q ⟨r, k, env, ef, z⟩ => by
    obtain ⟨d, e1, e2⟩ := bind_some ef
    have := asB_some e2
    subst this
    obtain ⟨x, e3, e4⟩ := bind_some e1
    obtain ⟨y, e5, e6⟩ := bind_some e4
    refine ⟨r, x, env, e3, fun v H1 s1 q1 => ⟨r, y, env.same s1, e5, fun u H2 s2 q2 => ?_⟩⟩
    cases y <;> simp only [Da.gDNotIn] at e6 <;> try cases e6
    split at e6
    · rename_i kvs hk
      obtain ⟨ad, hv, hun⟩ := (show Tp (cx X H0 kd) H2 u _ from q2).dict
      have t1 : Rp X.K H2 v x := Rp.gr (.of_same s2) _ _ q1
      obtain ⟨bd, hb⟩ := key_ref hk t1
      subst hb
      refine ⟨ad, bd, kvs, x, hv, rfl, hun, hk, t1, ?_⟩
      cases e6
      exact ⟨_, rfl, z H2 (s1.trans s2)⟩
    · cases e6
theorem de_dgetN (hu : X.A.units + 40 < cLine) {apos : Pos} (p : DE X H0 kd .any a f) (q : DE X H0 kd .val b h) (m : M1 X a "get" apos b pos) : DE X H0 kd .val (.Call (.Attribute a "get" apos) [b] [] pos) (Da.dB Da.gDGetN f h) := by
  refine ⟨fun pins s σ H Q I ⟨r, d, env, ef, k⟩ => ?_⟩
  obtain ⟨x, e1, e2⟩ := bind_some ef
  obtain ⟨y, e3, e4⟩ := bind_some e2
  refine wpAny_Call_method m.base m.few m.line PySem.F.plainAttrs_dict PySem.F.slot_dict_get PySem.F.type_dict_get (thn (p.run pins s σ H (fun v H' => Same H H' ∧ Tp (cx X H0 kd) H' v x) I ⟨r, x, env, e1, fun v H' sm q => ⟨sm, q⟩⟩) fun u s1 ⟨v, H1, I1, rv, s01, t1⟩ => ?_)
  cases x <;> simp only [Da.gDGetN] at e4 <;> try cases e4
  split at e4
  · rename_i kvs hk
    cases e4
    obtain ⟨ad, hv, hun⟩ := t1.dict
    subst hv
    obtain rfl : u = Value.ref ad := rv
    refine ⟨(dct_type I1 hun).1, (dct_type I1 hun).2, ?_⟩
    rw [m.trees]
    refine Calls.callWith_builtin rfl (Calls.evalArgs_plain (Calls.spliced_cons (thn (q.run pins s1 σ H1 (fun v H' => Same H1 H' ∧ Rp X.K H' v y) I1 ⟨r, y, env.same s01, e3, fun v H' sm q => ⟨sm, q⟩⟩) fun iv s2 ⟨v2, H2, I2, rv2, s12, t2⟩ => Calls.spliced_nil ?_)))
    obtain ⟨bd, hb⟩ := key_ref hk t2
    subst hb
    obtain rfl : iv = Value.ref bd := rv2
    exact dct_getN hu I2 (hun.gr (.of_same s12) (s12 ad)) hk t2 fun w hw => k w H2 (s01.trans s12) hw
  · cases e4
/-- {} -/
theorem de_dnew {kvs : List (PyData × PyData)} (hk : kvs = []) : DE X H0 kd .frd (.Dict [] [] pos) (Da.dC (.dict kvs)) := by
  subst hk
  refine ⟨fun pins s σ H Q I ⟨r, d, env, ef, k⟩ => ?_⟩
  cases ef
  refine wpAny_Dict_empty ⟨.ref s.heap.objs.size, _, I.laid (a := s.heap.objs.size) (o := DctO X.prog X.w s.heap.objs.size []) (t' := s.toks) (fun _ _ q => Heap.get?_push_of_some _ q) (Nat.le_refl _) ?_, rfl, ?_⟩
  · exact dct_ok ⟨beq_eq_false_iff_ne.mpr (Ne.symm (Nat.ne_of_lt I.big)), [], .nil, List.nodup_nil, #[], 0, ⟨_, Heap.get?_push_size _ rfl, ⟨rfl, rfl, rfl⟩, rfl⟩, rfl⟩
  · have np := I.hok.fresh (Nat.le_refl s.heap.objs.size)
    exact k _ _ (same_new np) ⟨_, _, rfl, rfl, np, [], upd_same, Nat.zero_le _, .nil⟩

/-! ### calls of built-ins -/
/-- what a built-in gives on data -/
def OpL (X : Cx) (m : Md) (r : List V → Hp → VK → Prop) (g : List PyData → Option PyData) : Prop := ∀ (H0 : Hp) (kd : Nat → Kd) (ms : List Bool) (H : Hp) (vs : List V) (ds : List PyData) (z : PyData) (Q : VK), Args (cx X H0 kd) H ms vs ds → g ds = some z →
  (∀ v H', Same H H' → Res (cx X H0 kd) m H H' v z → Q v H') → r vs H Q
theorem Args.nil' {C : Ct} {H : Hp} {ms : List Bool} {vs : List V} (h : Args C H ms vs []) : vs = [] := by
  cases h; rfl
theorem Args.one {C : Ct} {H : Hp} {ms : List Bool} {vs : List V} {d : PyData} (h : Args C H ms vs [d]) : ∃ v, vs = [v] ∧ Tp C H v d := by
  cases h with
  | val p q => rw [q.nil']; exact ⟨_, rfl, .inl p⟩
  | any p q => rw [q.nil']; exact ⟨_, rfl, p⟩
theorem Args.two {C : Ct} {H : Hp} {ms : List Bool} {vs : List V} {d e : PyData} (h : Args C H ms vs [d, e]) : ∃ v u, vs = [v, u] ∧ Tp C H v d ∧ Tp C H u e := by
  cases h with
  | val p q => obtain ⟨u, e1, e2⟩ := q.one; rw [e1]; exact ⟨_, _, rfl, .inl p, e2⟩
  | any p q => obtain ⟨u, e1, e2⟩ := q.one; rw [e1]; exact ⟨_, _, rfl, p, e2⟩
theorem cb_run {r : List V → Hp → VK → Prop} {gg : List PyData → Option PyData} {t : Dl} {ms : List Bool} (o : OpL X m r gg) {σ : L2.St} {H : Hp} {Q : VK} (q : tD (cx X H0 kd) m (Da.dCall gg t) σ H Q) : tA (cx X H0 kd) ms t σ H fun vs H1 => r vs H1 Q := by
  obtain ⟨rr, d, env, ef, k⟩ := q
  obtain ⟨xs, e1, e2⟩ := bind_some ef
  exact ⟨rr, xs, env, e1, fun vs H1 s1 q1 => o H0 kd _ H1 vs xs d Q q1 e2 fun v H2 s2 q2 => k v H2 (s1.trans s2) (q2.pre s1)⟩
variable {x : Str} {pp : Pos} {es : List Expr} {ms : List Bool} {t : Dl} {id T : String} {r : List V → Hp → VK → Prop} {gg : List PyData → Option PyData}
theorem de_cb (hc : CallR X (.builtin id) r) (o : OpL X m r gg) (hg : Gl X x) (hm : X.mg x = none) (hv : bootBuiltins x = some (.builtin id)) (p : DA X H0 kd ms (e :: es) t) (hn : x ≠ "__name__" := by decide) (hdb : (x == ("__debug__" : Str)) = false := by decide)
    (he : starEach (e :: es) X.env = (false, eval e X.env) :: starEach es X.env := by rfl) (hpl : (backTo pos (starEach es X.env)).any (·.1) = false := by rfl) : DE X H0 kd m (.Call (.Name x pp) (e :: es) [] pos) (Da.dCall gg t) :=
  PE.imp (pe_callB hc hg hm hv p hn hdb he hpl) fun _ _ _ z => cb_run o z
theorem de_ct (hc : CallR X (.type T) r) (o : OpL X m r gg) (hg : Gl X x) (hm : X.mg x = none) (hv : bootBuiltins x = some (.type T)) (p : DA X H0 kd ms (e :: es) t) (hn : x ≠ "__name__" := by decide) (hdb : (x == ("__debug__" : Str)) = false := by decide)
    (he : starEach (e :: es) X.env = (false, eval e X.env) :: starEach es X.env := by rfl) (hpl : (backTo pos (starEach es X.env)).any (·.1) = false := by rfl) : DE X H0 kd m (.Call (.Name x pp) (e :: es) [] pos) (Da.dCall gg t) :=
  PE.imp (pe_callTy hc hg hm hv p hn hdb he hpl) fun _ _ _ z => cb_run o z
theorem de_cg (hc : CallR X (.builtin id) r) (o : OpL X m r gg) (hg : Gl X x) (hm : X.mg x = some (.builtin id)) (p : DA X H0 kd ms (e :: es) t) (hdb : (x == ("__debug__" : Str)) = false := by decide)
    (he : starEach (e :: es) X.env = (false, eval e X.env) :: starEach es X.env := by rfl) (hpl : (backTo pos (starEach es X.env)).any (·.1) = false := by rfl) : DE X H0 kd m (.Call (.Name x pp) (e :: es) [] pos) (Da.dCall gg t) :=
  PE.imp (pe_callBfun hc hg hm p hdb he hpl) fun _ _ _ z => cb_run o z
theorem ol_len : OpL X .val (fun xs H Q => ∃ p ys, xs = [.ref p] ∧ (SqL X.K H p ys ∨ SqT X.K H p ys) ∧ Q (.int ys.length) H) Da.gLen := fun H0 kd ms H vs ds z Q p h k => by
  unfold Da.gLen at h
  split at h <;> try cases h
  · obtain ⟨v, e1, t⟩ := p.one
    obtain ⟨a, xs, h1, h2, h3, h4⟩ := t.list
    subst h1
    refine ⟨a, xs, e1, .inl h2, ?_⟩
    rw [h4.length]
    exact fin_val k (.num _)
  · obtain ⟨v, e1, t⟩ := p.one
    obtain ⟨a, xs, h1, h2, h3, h4⟩ := t.tuple
    subst h1
    refine ⟨a, xs, e1, .inr h2, ?_⟩
    rw [h4.length]
    exact fin_val k (.num _)
theorem ol_abs : OpL X .val (fun xs H Q => ∃ i, xs = [.int i] ∧ Q (.int (if i < 0 then -i else i)) H) Da.gAbs := fun H0 kd ms H vs ds z Q p h k => by
  unfold Da.gAbs at h
  split at h <;> try cases h
  obtain ⟨v, e1, t⟩ := p.one
  have := t.int
  subst this
  exact ⟨_, e1, fin_val k (.num _)⟩
theorem ol_int : OpL X .val (fun xs H Q => (∃ i, xs = [.int i] ∧ Q (.int i) H) ∨ ∃ k, xs = [.bl k] ∧ Q (.int (if k then 1 else 0)) H) Da.gInt := fun H0 kd ms H vs ds z Q p h k => by
  unfold Da.gInt at h
  split at h <;> try cases h
  obtain ⟨v, e1, t⟩ := p.one
  have := t.int
  subst this
  exact .inl ⟨_, e1, fin_val k (.num _)⟩
theorem ol_max2 : OpL X .val (fun xs H Q => ∃ i j, xs = [.int i, .int j] ∧ Q (.int (if j > i then j else i)) H) Da.gMax2 := fun H0 kd ms H vs ds z Q p h k => by
  unfold Da.gMax2 at h
  split at h <;> try cases h
  obtain ⟨v, u, e1, t, t2⟩ := p.two
  have := t.int
  subst this
  have := t2.int
  subst this
  exact ⟨_, _, e1, fin_val k (.num _)⟩
theorem ol_min2 : OpL X .val (fun xs H Q => ∃ i j, xs = [.int i, .int j] ∧ Q (.int (if j < i then j else i)) H) Da.gMin2 := fun H0 kd ms H vs ds z Q p h k => by
  unfold Da.gMin2 at h
  split at h <;> try cases h
  obtain ⟨v, u, e1, t, t2⟩ := p.two
  have := t.int
  subst this
  have := t2.int
  subst this
  exact ⟨_, _, e1, fin_val k (.num _)⟩
theorem ol_gcd : OpL X .val rGcd Da.gGcd := fun H0 kd ms H vs ds z Q p h k => by
  unfold Da.gGcd at h
  split at h <;> try cases h
  obtain ⟨v, u, e1, t, t2⟩ := p.two
  have := t.int
  subst this
  have := t2.int
  subst this
  exact ⟨_, _, e1, fin_val k (.num _)⟩
theorem ol_sum : OpL X .val (rSum X.K) Da.gSum := fun H0 kd ms H vs ds z Q p h k => by
  unfold Da.gSum at h
  split at h <;> try cases h
  obtain ⟨is, h1, h2⟩ := Option.map_eq_some_iff.mp h
  cases h2
  obtain ⟨v, e1, t⟩ := p.one
  obtain ⟨a, xs, g1, g2, g3, g4⟩ := t.list
  subst g1
  have := g4.ints h1
  subst this
  exact ⟨a, is, e1, g2, fin_val k (.num _)⟩
theorem ol_max : OpL X .val (rMax X.K) Da.gMax := fun H0 kd ms H vs ds z Q p h k => by
  unfold Da.gMax at h
  split at h <;> try cases h
  obtain ⟨is, h1, h2⟩ := bind_some h
  obtain ⟨v, e1, t⟩ := p.one
  obtain ⟨a, xs, g1, g2, g3, g4⟩ := t.list
  subst g1
  have := g4.ints h1
  subst this
  cases is with
  | nil => cases h2
  | cons i is =>
    cases h2
    refine ⟨a, i :: is, e1, g2, Nat.succ_pos _, fun m hm hx => ?_⟩
    rw [maxL_is hm hx]
    exact fin_val k (.num _)
theorem ol_all : OpL X .val (rAll X.K) Da.gAll := fun H0 kd ms H vs ds z Q p h k => by
  unfold Da.gAll at h
  split at h <;> try cases h
  obtain ⟨is, h1, h2⟩ := Option.map_eq_some_iff.mp h
  cases h2
  obtain ⟨v, e1, t⟩ := p.one
  obtain ⟨a, xs, g1, g2, g3, g4⟩ := t.list
  subst g1
  have := g4.bools h1
  subst this
  exact ⟨a, is, e1, g2, fin_val k (.bool _)⟩
theorem ol_toL : OpL X .fre (fun xs H Q => ∃ p ys, xs = [.ref p] ∧ (SqL X.K H p ys ∨ SqT X.K H p ys) ∧ ∀ l, H l = none → Q (.ref l) (upd H l (.lst ys))) Da.gToL := fun H0 kd ms H vs ds z Q p h k => by
  unfold Da.gToL at h
  have fin : ∀ {a : Addr} {xs : List V} {es : List PyData}, (SqL X.K H a xs ∨ SqT X.K H a xs) → xs.length ≤ sizeLine → Rps X.K H xs es → z = .list es → vs = [.ref a] →
      ∃ p ys, vs = [.ref p] ∧ (SqL X.K H p ys ∨ SqT X.K H p ys) ∧ ∀ l, H l = none → Q (.ref l) (upd H l (.lst ys)) := fun {a xs es} h2 h3 h4 e1 e2 =>
    ⟨a, xs, e2, h2, fun l nl => k _ _ (same_new nl) ⟨l, es, rfl, e1, nl, xs, upd_same, h3, Rps.gr (.new nl) _ _ h4⟩⟩
  split at h <;> try cases h
  · obtain ⟨v, e1, t⟩ := p.one
    obtain ⟨a, xs, h1, h2, h3, h4⟩ := t.list
    subst h1
    exact fin (.inl h2) h3 h4 rfl e1
  · obtain ⟨v, e1, t⟩ := p.one
    obtain ⟨a, xs, h1, h2, h3, h4⟩ := t.tuple
    subst h1
    exact fin (.inr h2) h3 h4 rfl e1
theorem ol_toT : OpL X .val (fun xs H Q => ∃ p ys, xs = [.ref p] ∧ ((SqL X.K H p ys ∧ ∀ l, H l = none → Q (.ref l) (upd H l (.tup ys))) ∨ (SqT X.K H p ys ∧ Q (.ref p) H))) Da.gToT := fun H0 kd ms H vs ds z Q p h k => by
  unfold Da.gToT at h
  split at h <;> try cases h
  · obtain ⟨v, e1, t⟩ := p.one
    obtain ⟨a, xs, h1, h2, h3, h4⟩ := t.list
    subst h1
    exact ⟨a, xs, e1, .inl ⟨h2, fun l nl => k _ _ (same_new nl) (.tuple (.of upd_same) h3 (Rps.gr (.new nl) _ _ h4))⟩⟩
  · obtain ⟨v, e1, t⟩ := p.one
    obtain ⟨a, xs, h1, h2, h3, h4⟩ := t.tuple
    subst h1
    exact ⟨a, xs, e1, .inr ⟨h2, fin_val k (.tuple h2 h3 h4)⟩⟩
/-- min(xs, default=0) -/
theorem de_min0 {kpos : Pos} {j : Nat} {kp : Pos} (hcalm : X.calm = true) (hg : Gl X "min") (hm : X.mg "min" = none) (p : DA X H0 kd ms [e] t)
    (he : backTo pos (starEach [e] X.env) = (false, eval e X.env) :: backTo pos (starEach [] X.env) := by rfl) (hpl : (backTo pos (starEach [e] X.env)).any (·.1) = false := by rfl)
    (hall : (backToKw pos (keywordEach [⟨some "default", .Constant (.int 0) j kp, kpos⟩] X.env)).all (·.1.isSome) = true := by rfl) (hnone : (backToKw pos (keywordEach [⟨some "default", .Constant (.int 0) j kp, kpos⟩] X.env)).any (·.1.isNone) = false := by rfl)
    (hks : (backToKw pos (keywordEach [⟨some "default", .Constant (.int 0) j kp, kpos⟩] X.env)).filterMap (·.1) = [Str.ofString "default"] := by rfl) : DE X H0 kd .val (.Call (.Name "min" pp) [e] [⟨some "default", .Constant (.int 0) j kp, kpos⟩] pos) (Da.dCall Da.gMin0 t) :=
  PE.imp (pe_callBK (cr_minD hcalm) hg hm (by decide +kernel) p (pk_cons pe_int pk_nil) (by decide) (by decide) he hpl hall hnone hks) fun σ H Q ⟨r, d, env, ef, k⟩ => by
    obtain ⟨xs, e1, e2⟩ := bind_some ef
    refine ⟨r, xs, env, e1, fun vs H1 s1 q1 => ?_⟩
    unfold Da.gMin0 at e2
    split at e2 <;> try cases e2
    obtain ⟨is, h1, h2⟩ := bind_some e2
    obtain ⟨v, e1, tt⟩ := q1.one
    obtain ⟨a, xs, g1, g2, g3, g4⟩ := tt.list
    subst g1
    have := g4.ints h1
    subst this
    subst e1
    refine ⟨a, is, 0, rfl, rfl, g2, ?_⟩
    have fin : ∀ n : Int, d = .int n → Q (.int n) H1 := fun n en => k _ _ s1 (by rw [en]; exact .num n)
    cases is with
    | nil => cases h2; exact fin _ rfl
    | cons i is =>
      cases h2
      show Q (.int (minO 0 (some i) is)) H1
      rw [minO_some]
      exact fin _ rfl
end
end Sk
set_option linter.all false
set_option maxRecDepth 100000
/-! Lay5: sorted as a call. -/
namespace Sk
open PySem PySem.Spec PyProof.Rows L2
open Da (Rho Dn Dts Dl Dst Out)
open PySem.W (EachIs)

section
variable {X : Cx} {pins : List (Addr × Obj)} {σ : L2.St} {H : Hp} {s : Shared}
/-- a value that is the datum d -/
def Is (K : PySem.W.Frag) (H : Hp) (u : Value) (d : PyData) : Prop := ∃ v, RelV v u ∧ Rp K H v d
theorem is_each {K : PySem.W.Frag} : ∀ {ds : List PyData} {vs : List V} {us : List Value}, Rps K H vs ds → Vals vs us → EachIs (Is K H) us ds
  | [], _, _, h, r => by cases h; cases r; exact .nil
  | d :: ds, _, _, h, r => by
    cases h with
    | cons h1 h2 =>
      cases r with
      | cons r1 r2 => exact .cons ⟨_, r1, h1⟩ (is_each h2 r2)
theorem each_is {K : PySem.W.Frag} : ∀ {ds : List PyData} {us : List Value}, EachIs (Is K H) us ds → ∃ vs, Vals vs us ∧ Rps K H vs ds
  | [], _, h => by cases h; exact ⟨[], .nil, .nil⟩
  | d :: ds, _, h => by
    cases h with
    | cons h1 h2 =>
      obtain ⟨v, r, p⟩ := h1
      obtain ⟨vs, q1, q2⟩ := each_is h2
      exact ⟨v :: vs, .cons r q1, .cons p q2⟩
theorem each_reads (I : Inv X pins σ H s) {us : List Value} {ds : List PyData} (h : EachIs (Is X.K H) us ds) : EachIs (fun v d => ∃ as, Reads s.heap v d as) us ds :=
  h.mono fun u d ⟨v, r, p⟩ => Dp.reads I d v u (Rp.dp d v p) r
/-- what sorted takes: the values of what is walked -/
theorem src_items (hc : X.calm = true) {C : Ct} (hC : C.K = X.K ∧ C.P = X.prog ∧ C.w = X.w) (I : Inv X pins σ H s) {v : V} {u : Value} {d : PyData} {ds : List PyData} (t : Tp C H v d) (r : RelV v u) (h : Da.srcL d = some ds) :
    ∃ us, us.length ≤ sizeLine ∧ EachIs (Is X.K H) us ds ∧ ∀ (Q' : List Value → Shared → Prop) (E' : Value → Shared → Prop), (∀ h' tk, (∀ a o, s.heap.get? a = some o → h'.get? a = some o) → Q' us { s with heap := h', toks := tk }) → wpAny (model X.prog X.w) X.A.in1 (collect u) Q' E' s := by
  obtain ⟨hK, hP, hw⟩ := hC
  cases d <;> simp only [Da.srcL] at h <;> try cases h
  · obtain ⟨a, xs, rfl, h1, h2, h3⟩ := t.list
    cases r
    rw [hK] at h1 h3
    obtain ⟨its, rv, pl, hz⟩ := I.list h1
    refine ⟨its, by rw [← rv.length]; exact hz, is_each h3 rv, fun Q' E' hq => ?_⟩
    refine collect_list pl.isList (hq _ s.toks fun b o e => ?_) (by rw [← rv.length]; exact hz)
    rw [Heap.get?_update_ne _ _ _ _ (Nat.ne_of_lt (Heap.lt_size e))]
    exact Heap.get?_push_of_some _ e
  · obtain ⟨a, xs, rfl, h1, h2, h3⟩ := t.tuple
    cases r
    rw [hK] at h1 h3
    obtain ⟨its, rv, pl, hz⟩ := I.tuple h1
    exact ⟨its, by rw [← rv.length]; exact hz, is_each h3 rv, fun Q' E' hq => collect_tuple pl (by rw [← rv.length]; exact hz) hq⟩
  · rename_i kvs
    obtain ⟨a, rfl, es, h1, h2, h3⟩ := t.dict
    cases r
    rw [hP, hw] at h1
    rw [hK] at h3
    obtain ⟨lo, xs, rx, hx⟩ := dct_of I h1 h3
    obtain ⟨o, ents, ep, ho, q1, q2, q3, q4, q5⟩ := hx
    have hraw : s.heap.DictRaw a ents ep := ⟨o, ho, q1, q2⟩
    have hlen : ents.size = es.length := by
      rw [← Array.length_toList, q3, List.length_map, Paired.length rx]
    refine ⟨xs.map fun x => Value.ref x.2.1, by rw [List.length_map, ← Paired.length rx]; exact h2, ?_, fun Q' E' hq => ?_⟩
    · clear h1 h2 hlen q3 q4 q5 hraw ho q1 q2 t
      induction h3 generalizing xs with
      | nil => cases rx; exact .nil
      | @cons e kv es kvs hh tt ih =>
        cases rx with
        | @cons _ y _ ys r1 r2 =>
          refine .cons ⟨.ref y.2.1, rfl, ?_⟩ (ih ys r2)
          rw [← r1.2.1]
          exact hh.2.2.1
    · refine PySem.W.kdu_collect (PySem.KdlSrc.rawDict lo) (I.ok.hd hc) hraw (by rw [hlen]; exact h2) fun h' tk acc kk hit => ?_
      have e : acc.toList = xs.map fun x => Value.ref x.2.1 := by
        refine List.ext_getElem? fun i => ?_
        have hs : acc.size = ents.size := hit.1
        by_cases hi : i < ents.size
        · have hi' : i < acc.size := by omega
          obtain ⟨_, e1⟩ := hit.2 i acc[i] (by simp [hi'])
          have hx : i < xs.length := by
            have := congrArg List.length q3
            rw [List.length_map, Array.length_toList] at this
            omega
          have e2 : ents[i] = entryOfKey (nestedKind X.prog X.w) xs[i] := by
            have : ents.toList[i]? = (xs.map (entryOfKey (nestedKind X.prog X.w)))[i]? := by rw [q3]
            simp [hi, hx] at this
            exact this
          rw [Array.getElem?_toList, Array.getElem?_eq_getElem hi', List.getElem?_map, List.getElem?_eq_getElem hx, e1, e2]
          rfl
        · have hx : xs.length = ents.size := by
            have := congrArg List.length q3
            rw [List.length_map, Array.length_toList] at this
            omega
          rw [List.getElem?_eq_none (by rw [Array.length_toList]; omega), List.getElem?_eq_none (by rw [List.length_map]; omega)]
      rw [e]
      exact hq h' tk kk
/-- sorted, in either direction -/
def rSrt (X : Cx) (b : Bool) : List V → Hp → VK → Prop := fun vs H Q => ∃ (C : Ct) (v : V) (d : PyData) (ds : List PyData), (C.K = X.K ∧ C.P = X.prog ∧ C.w = X.w) ∧ vs = [v] ∧ Tp C H v d ∧ Da.srcL d = some ds ∧ Da.canSort ds = true ∧
  ∀ p xs, H p = none → xs.length ≤ sizeLine → Rps X.K H xs (Da.sortL b ds) → Q (.ref p) (upd H p (.lst xs))
theorem sort_len (b : Bool) (ds : List PyData) : (Da.sortL b ds).length = ds.length := by
  unfold Da.sortL
  rw [List.length_mergeSort]
theorem srt_any (hc : X.calm = true) (hu : X.A.units + 40 < cLine) {b : Bool} {kw : List (Str × Value)} (hkw : (kw = [] ∧ b = false) ∨ kw = [(Str.ofString "reverse", .bool b)]) {vs : List V} {us : List Value} {Q : VK} (I : Inv X pins σ H s) (r : Vals vs us) (h : rSrt X b vs H Q) :
    wpAny (model X.prog X.w) X.A (call (.builtin "sorted") us kw) (EP X pins σ Q) X.xe s := by
  obtain ⟨C, v, d, ds, hC, rfl, t, hs, hcan, q⟩ := h
  cases r with
  | @cons _ u _ us r1 r2 =>
    cases r2
    obtain ⟨ws, hz, he, hcol⟩ := src_items hc hC I t r1 hs
    refine sorted_src hkw hcol he (each_reads I he) hcan hz hu fun h1 h' tk p out c k1 hp k2 hob hout => ?_
    obtain ⟨xs, rx, px⟩ := each_is hout
    have hlen : xs.length ≤ sizeLine := by rw [px.length, sort_len, ← he.length]; exact hz
    have I1 : Inv X pins σ H { s with heap := h1, toks := s.toks } := I.kept k1
    have np : H p = none := I1.hok.fresh hp
    refine ⟨.ref p, _, I1.laid (a := p) (o := .lst xs) (t' := tk) k2 hp ?_, rfl, q p xs np hlen px⟩
    exact ⟨hlen, out, c, rx, hob⟩
theorem cr_sorted (hc : X.calm = true) (hu : X.A.units + 40 < cLine) : CallR X (.builtin "sorted") (rSrt X false) := by
  intro pins s σ H xs us Q I r h
  exact srt_any hc hu (.inl ⟨rfl, rfl⟩) I r h
theorem cr_sortedR (hc : X.calm = true) (hu : X.A.units + 40 < cLine) : CallRK X (.builtin "sorted") [Str.ofString "reverse"] (fun vs zs H Q => zs = [.bl true] ∧ rSrt X true vs H Q) := by
  intro pins s σ H xs zs us ws Q I r rz ⟨ez, h⟩
  subst ez
  cases rz with
  | cons r1 r2 =>
    cases r2
    cases r1
    exact srt_any hc hu (.inr rfl) I r h
theorem srt_run {b : Bool} {H0 : Hp} {kd : Nat → Kd} {ms : List Bool} {vs : List V} {ds : List PyData} {z : PyData} {Q : VK} (p : Args (cx X H0 kd) H ms vs ds) (h : Da.gSorted b ds = some z) (k : ∀ v H', Same H H' → Res (cx X H0 kd) .fre H H' v z → Q v H') : rSrt X b vs H Q := by
  unfold Da.gSorted at h
  split at h <;> try cases h
  obtain ⟨xs, h1, h2⟩ := bind_some h
  split at h2
  · rename_i hcan
    cases h2
    obtain ⟨v, e1, t⟩ := p.one
    exact ⟨cx X H0 kd, v, _, xs, ⟨rfl, rfl, rfl⟩, e1, t, h1, hcan, fun p ys np hz hr => k _ _ (same_new np) ⟨p, _, rfl, rfl, np, ys, upd_same, hz, Rps.gr (.new np) _ _ hr⟩⟩
  · cases h2
theorem ol_sorted : OpL X .fre (rSrt X false) (Da.gSorted false) := fun H0 kd ms H vs ds z Q p h k => srt_run p h k
theorem de_sortedR {H0 : Hp} {kd : Nat → Kd} {e : Expr} {pos pp kp kpos : Pos} {j : Nat} {ms : List Bool} {t : Dl} (hcalm : X.calm = true) (hu : X.A.units + 40 < cLine) (hg : Gl X "sorted") (hm : X.mg "sorted" = none) (p : DA X H0 kd ms [e] t)
    (he : backTo pos (starEach [e] X.env) = (false, eval e X.env) :: backTo pos (starEach [] X.env) := by rfl) (hpl : (backTo pos (starEach [e] X.env)).any (·.1) = false := by rfl)
    (hall : (backToKw pos (keywordEach [⟨some "reverse", .Constant (.bool true) j kp, kpos⟩] X.env)).all (·.1.isSome) = true := by rfl) (hnone : (backToKw pos (keywordEach [⟨some "reverse", .Constant (.bool true) j kp, kpos⟩] X.env)).any (·.1.isNone) = false := by rfl)
    (hks : (backToKw pos (keywordEach [⟨some "reverse", .Constant (.bool true) j kp, kpos⟩] X.env)).filterMap (·.1) = [Str.ofString "reverse"] := by rfl) : DE X H0 kd .fre (.Call (.Name "sorted" pp) [e] [⟨some "reverse", .Constant (.bool true) j kp, kpos⟩] pos) (Da.dCall (Da.gSorted true) t) :=
  PE.imp (pe_callBK (cr_sortedR hcalm hu) hg hm (by decide +kernel) p (pk_cons pe_bl pk_nil) (by decide) (by decide) he hpl hall hnone hks) fun σ H Q ⟨r, d, env, ef, k⟩ => by
    obtain ⟨xs, e1, e2⟩ := bind_some ef
    exact ⟨r, xs, env, e1, fun vs H1 s1 q1 => ⟨rfl, srt_run q1 e2 fun v H2 s2 q2 => k v H2 (s1.trans s2) (q2.pre s1)⟩⟩
end
end Sk
set_option linter.all false
set_option maxRecDepth 100000
/-! Lay6: calls of own defs, what is walked, targets, comprehensions. -/
namespace Da
/-- positional values, then the keywords' -/
def aCat (a b : Dl) : Dl := fun r => (a r).bind fun xs => (b r).bind fun ys => some (xs ++ ys)
/-- over a list -/
def itO (f : Dn) : Dl := fun r => (f r).bind fun d => match d with
  | .list xs => some xs
  | _ => none
def tgS : Tg → List Nat
  | .one i => [i]
  | .many js => js
end Da
namespace Sk
open PySem PySem.Spec PyProof.Rows L2
open Da (Rho Dn Dts Dl Dst Out)

/-! ### own defs -/
theorem Args.re {P : Program} {w : World} {K : PySem.W.Frag} {H0 H0' H : Hp} {kd kd' : Nat → Kd} {ms : List Bool} {vs : List V} {ds : List PyData} (h : Args ⟨P, w, K, H0, kd⟩ H ms vs ds) : Args ⟨P, w, K, H0', kd'⟩ H ms vs ds := by
  induction h with
  | nil => exact .nil
  | val p _ ih => exact .val p ih
  | any p _ ih => exact .any p ih
theorem Args.same {C : Ct} {H H' : Hp} (s : Same H H') {ms : List Bool} {vs : List V} {ds : List PyData} (h : Args C H ms vs ds) : Args C H' ms vs ds := by
  induction h with
  | nil => exact .nil
  | val p _ ih => exact .val (Rp.gr (.of_same s) _ _ p) ih
  | any p _ ih => exact .any (p.same s) ih
theorem Args.append {C : Ct} {H : Hp} {ms ns : List Bool} {vs us : List V} {ds es : List PyData} (h : Args C H ms vs ds) (k : Args C H ns us es) : Args C H (ms ++ ns) (vs ++ us) (ds ++ es) := by
  induction h with
  | nil => exact k
  | val p _ ih => exact .val p ih
  | any p _ ih => exact .any p ih
theorem Args.length {C : Ct} {H : Hp} {ms : List Bool} {vs : List V} {ds : List PyData} (h : Args C H ms vs ds) : vs.length = ms.length := by
  induction h with
  | nil => rfl
  | val p _ ih => rw [List.length_cons, List.length_cons, ih]
  | any p _ ih => rw [List.length_cons, List.length_cons, ih]
theorem Res.re {P : Program} {w : World} {K : PySem.W.Frag} {H0 H0' H H' : Hp} {kd kd' : Nat → Kd} {m : Md} {v : V} {d : PyData} (hm : m ≠ .sta) (h : Res ⟨P, w, K, H0, kd⟩ m H H' v d) : Res ⟨P, w, K, H0', kd'⟩ m H H' v d := by
  cases m with
  | sta => exact absurd rfl hm
  | _ => exact h
/-- a def's promise: on data g, the arguments as ms, its value as m -/
def spD (P : Program) (w : World) (K : PySem.W.Frag) (ms : List Bool) (m : Md) (g : List PyData → Option PyData) : Sp := fun vs H Q _ =>
  ∃ ds d, Args ⟨P, w, K, H, fun _ => .val⟩ H ms vs ds ∧ g ds = some d ∧ ∀ v H', Same H H' → Res ⟨P, w, K, H, fun _ => .val⟩ m H H' v d → Q v H'
abbrev FnD (P : Program) (w : World) (K : PySem.W.Frag) (mg : Str → Option Value) (base : Heap) (k : Nat) (f : Addr) (fd : FuncData) (ps : List Str) (ms : List Bool) (m : Md) (g : List PyData → Option PyData) : Prop :=
  FnOk P w K mg base CX0 k f fd ps (spD P w K ms m g)
section
variable {X : Cx} {H0 : Hp} {kd : Nat → Kd} {k n : Nat} {f : Addr} {fd : FuncData} {ps ks : List Str} {ms ns : List Bool} {m : Md} {gg : List PyData → Option PyData} {x : Str} {p pos : Pos} {e : Expr} {es : List Expr} {kws : List Keyword} {t tk : Dl} {E : XK}
theorem pass0 : Passes CX0 X E := fun _ _ _ _ _ _ _ z => z.elim
theorem call_run {σ : L2.St} {H : Hp} {Q : VK} {vs : List V} {ds : List PyData} {d : PyData} (hm : m ≠ .sta) (s : Same H0 H) (a : Args (cx X H0 kd) H ms vs ds) (e : gg ds = some d) (k : ∀ v H', Same H H' → Res (cx X H0 kd) m H H' v d → Q v H') : spD X.prog X.w X.K ms m gg vs H Q E :=
  ⟨ds, d, a.re, e, fun v H' s q => k v H' s (q.re hm)⟩
theorem de_call (F : FnD X.prog X.w X.K X.mg X.base k f fd ps ms m gg) (hr : Room k X.A) (hg : Gl X x) (hm : X.mg x = some (.ref f)) (hk : PySem.W.keepIn X.K (.ref f) = true) (hb : Binds X.K fd ps []) (pa : DA X H0 kd ms (e :: es) t) (hms : m ≠ .sta := by decide)
    (hdb : (x == ("__debug__" : Str)) = false := by decide) (he : starEach (e :: es) X.env = (false, eval e X.env) :: starEach es X.env := by rfl) (hpl : (backTo pos (starEach es X.env)).any (·.1) = false := by rfl) : DE X H0 kd m (.Call (.Name x p) (e :: es) [] pos) (Da.dCall gg t) :=
  PE.imp (pe_call (E := fun _ _ _ => False) F hr hg hm hk hb .nil pass0 pa hdb he hpl) fun σ H Q ⟨r, d, env, ef, q⟩ => by
    obtain ⟨xs, e1, e2⟩ := bind_some ef
    refine ⟨r, xs, env, e1, fun vs H1 s1 q1 => ?_⟩
    show spD X.prog X.w X.K ms m gg (vs ++ []) H1 Q _
    rw [List.append_nil]
    exact call_run (σ := σ) hms (env.ext.trans s1) q1 e2 fun v H' s2 q2 => q v H' (s1.trans s2) (q2.pre s1)
/-- with defaults -/
theorem de_callD {dvs : List V} {dds : List PyData} {dus : List Value} (F : FnD X.prog X.w X.K X.mg X.base k f fd ps (ms ++ ns) m gg) (hr : Room k X.A) (hg : Gl X x) (hm : X.mg x = some (.ref f)) (hk : PySem.W.keepIn X.K (.ref f) = true) (hb : Binds X.K fd ps dus) (hd : Vals dvs dus)
    (hda : ∀ H, Args (cx X H0 kd) H ns dvs dds) (pa : DA X H0 kd ms (e :: es) t) (hms : m ≠ .sta := by decide)
    (hdb : (x == ("__debug__" : Str)) = false := by decide) (he : starEach (e :: es) X.env = (false, eval e X.env) :: starEach es X.env := by rfl) (hpl : (backTo pos (starEach es X.env)).any (·.1) = false := by rfl) : DE X H0 kd m (.Call (.Name x p) (e :: es) [] pos) (Da.dCall (fun xs => gg (xs ++ dds)) t) :=
  PE.imp (pe_call (E := fun _ _ _ => False) F hr hg hm hk hb hd pass0 pa hdb he hpl) fun σ H Q ⟨r, d, env, ef, q⟩ => by
    obtain ⟨xs, e1, e2⟩ := bind_some ef
    refine ⟨r, xs, env, e1, fun vs H1 s1 q1 => ?_⟩
    exact call_run (σ := σ) hms (env.ext.trans s1) (q1.append (hda H1)) e2 fun v H' s2 q2 => q v H' (s1.trans s2) (q2.pre s1)
/-- with keywords, in the parameters' order -/
theorem de_callK {g : List Value → List Value → List Value} (F : FnD X.prog X.w X.K X.mg X.base k f fd ps (ms ++ ns) m gg) (hr : Room k X.A) (hg : Gl X x) (hm : X.mg x = some (.ref f)) (hk : PySem.W.keepIn X.K (.ref f) = true) (hb : KBn X.K fd ps n ks g (fun vs zs => vs ++ zs))
    (pa : DA X H0 kd ms (e :: es) t) (pk : DK X H0 kd ns kws tk) (hl1 : ms.length = n := by rfl) (hl2 : ns.length = ks.length := by rfl) (hms : m ≠ .sta := by decide)
    (hall : (backToKw pos (keywordEach kws X.env)).all (·.1.isSome) = true := by rfl) (hks : (backToKw pos (keywordEach kws X.env)).filterMap (·.1) = ks := by rfl)
    (hdb : (x == ("__debug__" : Str)) = false := by decide) (he : starEach (e :: es) X.env = (false, eval e X.env) :: starEach es X.env := by rfl)
    (hpl : ((backTo pos (starEach (e :: es) X.env)).any (·.1) || (backToKw pos (keywordEach kws X.env)).any (·.1.isNone)) = false := by rfl) : DE X H0 kd m (.Call (.Name x p) (e :: es) kws pos) (Da.dCall gg (Da.aCat t tk)) :=
  PE.imp (pe_callN (E := fun _ _ _ => False) F hr hg hm hk hb pass0 pa pk hall hks hdb he hpl) fun σ H Q ⟨r, d, env, ef, q⟩ => by
    obtain ⟨zs, e1, e2⟩ := bind_some ef
    obtain ⟨xs, e3, e4⟩ := bind_some e1
    obtain ⟨ys, e5, e6⟩ := bind_some e4
    cases e6
    refine ⟨r, xs, env, e3, fun vs H1 s1 q1 => ⟨r, ys, env.same s1, e5, fun us H2 s2 q2 => ⟨q1.length.trans hl1, q2.length.trans hl2, ?_⟩⟩⟩
    exact call_run (σ := σ) hms (env.ext.trans (s1.trans s2)) ((q1.same s2).append q2) e2 fun v H' s3 q3 => q v H' ((s1.trans s2).trans s3) (q3.pre (s1.trans s2))
end

/-! ### what is walked -/
def WalkAt (C : Ct) (J : It) (Hw : Hp → Prop) (ds : List PyData) : Prop :=
  ∀ (i : Nat) (H : Hp), Hw H → (ds.length ≤ i → J.stop i H) ∧ ∀ d, ds[i]? = some d → J.go i H ∧ ∀ x H', J.yld i H x H' → Same H H' ∧ Rp C.K H' x d
def tI (C : Ct) (f : Dl) : TI := fun σ H R => ∃ r ds, Env C H σ r ∧ f r = some ds ∧ ∀ J H1, Same H H1 → ds.length ≤ sizeLine → WalkAt C J (fun H2 => Gr H1 H2 ∧ Same C.H0 H2) ds → R J H1
abbrev DI (X : Cx) (H0 : Hp) (kd : Nat → Kd) (tg e : Expr) (f : Dl) : Prop := PI X tg e (tI (cx X H0 kd) f)
/-- the same for a comprehension, whose turns change nothing that was there -/
def tIc (C : Ct) (f : Dl) : TI := fun σ H R => ∃ r ds, Env C H σ r ∧ f r = some ds ∧ ∀ J H1, Same H H1 → ds.length ≤ sizeLine → WalkAt C J (fun H2 => Same H1 H2) ds → R J H1
abbrev DIc (X : Cx) (H0 : Hp) (kd : Nat → Kd) (tg e : Expr) (f : Dl) : Prop := PI X tg e (tIc (cx X H0 kd) f)
theorem walk_list {C : Ct} {a : Addr} {xs : List V} {ds : List PyData} {Hw : Hp → Prop} (h : ∀ H, Hw H → SqL C.K H a xs ∧ Rps C.K H xs ds) (inj : ∀ H xs ys, Hw H → SqL C.K H a xs → SqL C.K H a ys → xs = ys) : WalkAt C (Itl C.K a) Hw ds := fun i H hw => by
  obtain ⟨h1, h2⟩ := h H hw
  refine ⟨fun hi => ⟨xs, h1, by rw [h2.length]; exact hi⟩, fun d hd => ?_⟩
  obtain ⟨v, e1, e2⟩ := h2.get hd
  refine ⟨⟨xs, v, h1, e1⟩, fun x H' y => ?_⟩
  obtain ⟨rfl, y⟩ := y
  have := y xs h1
  rw [e1] at this
  cases this
  exact ⟨Same.refl _, e2⟩
theorem walk_tup {C : Ct} {a : Addr} {xs : List V} {ds : List PyData} {Hw : Hp → Prop} (h : ∀ H, Hw H → SqT C.K H a xs ∧ Rps C.K H xs ds) : WalkAt C (Itt C.K a) Hw ds := fun i H hw => by
  obtain ⟨h1, h2⟩ := h H hw
  refine ⟨fun hi => ⟨xs, h1, by rw [h2.length]; exact hi⟩, fun d hd => ?_⟩
  obtain ⟨v, e1, e2⟩ := h2.get hd
  refine ⟨⟨xs, v, h1, e1⟩, fun x H' y => ?_⟩
  obtain ⟨rfl, y⟩ := y
  have := y xs h1
  rw [e1] at this
  cases this
  exact ⟨Same.refl _, e2⟩
theorem walk_rng {C : Ct} {i j : Int} {Hw : Hp → Prop} : WalkAt C (Itr i (j - i).toNat) Hw (Da.itR i j) := fun n H hw => by
  unfold Da.itR
  refine ⟨fun hi => by rw [List.length_map, List.length_range] at hi; exact hi, fun d hd => ?_⟩
  rw [List.getElem?_map] at hd
  obtain ⟨k, e1, e2⟩ := Option.map_eq_some_iff.mp hd
  obtain ⟨h1, h2⟩ := List.getElem?_eq_some_iff.mp e1
  rw [List.length_range] at h1
  rw [List.getElem_range] at h2
  subst h2
  subst e2
  refine ⟨h1, fun x H' y => ?_⟩
  obtain ⟨rfl, rfl⟩ := y
  exact ⟨Same.refl _, .num _⟩
/-- the values of a stable thing stay readable -/
theorem sta_seq {C : Ct} {H1 : Hp} {v : V} {d : PyData} {ds : List PyData} (q : Res C .sta H1 H1 v d) (h : Da.seq? d = some ds) (g0 : Same C.H0 H1) :
    ∃ a xs, v = .ref a ∧ xs.length ≤ sizeLine ∧ ds.length = xs.length ∧ ((d = .list ds ∧ ∀ H, Gr H1 H → Same C.H0 H → SqL C.K H a xs ∧ Rps C.K H xs ds) ∨ (d = .tuple ds ∧ ∀ H, Gr H1 H → Same C.H0 H → SqT C.K H a xs ∧ Rps C.K H xs ds)) := by
  cases d <;> simp only [Da.seq?, Option.some.injEq] at h <;> try cases h
  · rcases q with q | q
    · cases q with
      | list h1 h2 h3 => exact ⟨_, _, rfl, h2, h3.length.symm, .inl ⟨rfl, fun H g _ => ⟨(h1.gr g).sq, Rps.gr g _ _ h3⟩⟩⟩
    · rcases q with q | ⟨a, es, e1, e2, u⟩ | ⟨a, kvs, e1, e2, u⟩
      · cases q with
        | list h1 h2 h3 => exact ⟨_, _, rfl, h2, h3.length.symm, .inl ⟨rfl, fun H _ s => ⟨(h1.gr (.of_same s)).sq, Rps.gr (.of_same s) _ _ h3⟩⟩⟩
      · cases e2
        rcases u with ⟨xs, h1, h2, h3⟩ | ⟨xs, h1, h2, h3⟩
        · exact ⟨a, xs, e1, h2, h3.length.symm, .inl ⟨rfl, fun H _ s => ⟨.of (s a _ h1), Rps.gr (.of_same s) _ _ h3⟩⟩⟩
        · exact ⟨a, xs, e1, h2, h3.length.symm, .inl ⟨rfl, fun H _ s => ⟨h1 H, Rps.gr (.of_same s) _ _ h3⟩⟩⟩
      · cases e2
  · rcases q with q | q
    · cases q with
      | tuple h1 h2 h3 => exact ⟨_, _, rfl, h2, h3.length.symm, .inr ⟨rfl, fun H g _ => ⟨sqT_gr g h1, Rps.gr g _ _ h3⟩⟩⟩
    · rcases q with q | ⟨a, es, e1, e2, u⟩ | ⟨a, kvs, e1, e2, u⟩
      · cases q with
        | tuple h1 h2 h3 => exact ⟨_, _, rfl, h2, h3.length.symm, .inr ⟨rfl, fun H _ s => ⟨sqT_gr (.of_same s) h1, Rps.gr (.of_same s) _ _ h3⟩⟩⟩
      · cases e2
      · cases e2
section
variable {X : Cx} {H0 : Hp} {kd : Nat → Kd} {tg e a b : Expr} {f g : Dn} {p pos : Pos}
theorem PI.imp' {X : Cx} {tg e : Expr} {t t' : TI} (h : PI X tg e t) (i : ∀ σ H Q, t' σ H Q → t σ H Q) : PI X tg e t' := ⟨fun pins s σ H Q I q => h.run pins s σ H Q I (i σ H Q q)⟩
/-- over a list or a tuple that stays -/
theorem di_seq (q : DE X H0 kd .sta e f) : DI X H0 kd tg e (Da.itS f) := by
  refine ⟨fun pins s σ H R I ⟨r, ds, env, ef, k⟩ => ?_⟩
  obtain ⟨d, e1, e2⟩ := bind_some ef
  refine thn (q.run pins s σ H (fun v H' => Same H H' ∧ Res (cx X H0 kd) .sta H' H' v d) I ⟨r, d, env, e1, fun v H' sm q => ⟨sm, q⟩⟩) fun u s1 ⟨v, H1, I1, rv, s01, t1⟩ => ?_
  obtain ⟨ad, xs, hv, hz, hl, hh⟩ := sta_seq t1 e2 (env.ext.trans s01)
  subst hv
  cases rv
  have hz' : ds.length ≤ sizeLine := by rw [hl]; exact hz
  have fp1 : ∀ {b : Addr}, b ∈ [s1.heap.objs.size] → FpOk X pins H1 b := fun {b} hb => by
    have e : b = s1.heap.objs.size := by simpa using hb
    subst e
    exact I1.fpOk (Nat.le_refl _) (I1.hok.fresh (Nat.le_refl _))
  rcases hh with ⟨rfl, hh⟩ | ⟨rfl, hh⟩
  · obtain ⟨its, rr, pl, _⟩ := I1.list (hh H1 (Gr.refl _) (env.ext.trans s01)).1
    refine wpAny_pyIter_list pl.isList ?_
    refine ⟨s1.heap.objs.size, [s1.heap.objs.size], _, _, H1, rfl, I1.kept (t' := s1.toks) fun b o e => Heap.get?_push_of_some _ e, turn_list ad _, ⟨_, Heap.get?_push_size _ rfl, rfl, rfl⟩, fun b hb => fp1 hb, ?_⟩
    refine k _ H1 s01 hz' fun i H2 hw => ?_
    obtain ⟨h1, h2⟩ := hh H2 hw.1 hw.2
    refine ⟨fun hi => ⟨xs, h1, by rw [h2.length]; exact hi⟩, fun d hd => ?_⟩
    obtain ⟨v, e1, e2⟩ := h2.get hd
    refine ⟨⟨xs, v, h1, e1⟩, fun x H' y => ?_⟩
    obtain ⟨rfl, y⟩ := y
    have := y xs h1
    rw [e1] at this
    cases this
    exact ⟨Same.refl _, e2⟩
  · obtain ⟨its, rr, pl, _⟩ := I1.tuple (hh H1 (Gr.refl _) (env.ext.trans s01)).1
    refine wpAny_pyIter_tuple (show s1.heap.IsTuple ad its.toArray from pl) ?_
    refine ⟨s1.heap.objs.size, [s1.heap.objs.size], _, _, H1, rfl, I1.kept (t' := s1.toks) fun b o e => Heap.get?_push_of_some _ e, turn_tuple ad _, ⟨_, Heap.get?_push_size _ rfl, rfl, rfl⟩, fun b hb => fp1 hb, ?_⟩
    refine k _ H1 s01 hz' fun i H2 hw => ?_
    obtain ⟨h1, h2⟩ := hh H2 hw.1 hw.2
    refine ⟨fun hi => ⟨xs, h1, by rw [h2.length]; exact hi⟩, fun d hd => ?_⟩
    obtain ⟨v, e1, e2⟩ := h2.get hd
    refine ⟨⟨xs, v, h1, e1⟩, fun x H' y => ?_⟩
    obtain ⟨rfl, y⟩ := y
    have := y xs h1
    rw [e1] at this
    cases this
    exact ⟨Same.refl _, e2⟩
theorem rng_ok {i : Int} (h : Da.rgOk i = true) : -1000000 ≤ i ∧ i ≤ 1000000 := by
  simp only [Da.rgOk, Bool.and_eq_true, decide_eq_true_eq] at h
  exact h
theorem rng_len (i j : Int) (h1 : Da.rgOk i = true) (h2 : Da.rgOk j = true) : (Da.itR i j).length ≤ sizeLine := by
  have a := rng_ok h1
  have b := rng_ok h2
  unfold Da.itR
  rw [List.length_map, List.length_range, ← big_eq]
  unfold Da.big
  omega
theorem asI_some {d : PyData} {i : Int} (h : Da.asI d = some i) : d = .int i := by
  cases d <;> simp [Da.asI] at h
  rw [h]
theorem di_rng1 (hg : Gl X "range") (hm : X.mg "range" = none) (q : DE X H0 kd .any a f) (hs : starEach [a] X.env = [(false, eval a X.env)] := by rfl) : DI X H0 kd tg (.Call (.Name "range" p) [a] [] pos) (Da.itRng1 f) :=
  PI.imp' (pi_range1 hg hm (da_any q da_nil hs) hs) fun σ H R ⟨r, ds, env, ef, k⟩ => by
    obtain ⟨x, e1, e2⟩ := bind_some ef
    obtain ⟨j, e3, e4⟩ := bind_some e2
    have := asI_some e3
    subst this
    split at e4
    · rename_i hj
      cases e4
      have b := rng_ok hj
      refine ⟨r, [.int j], env, by unfold Da.aCons Da.aNil; rw [e1]; rfl, fun vs H1 s1 q1 => ?_⟩
      obtain ⟨v, ev, t⟩ := q1.one
      subst ev
      rw [t.int]
      refine ⟨j, rfl, by omega, by omega, ?_⟩
      have := k (Itr 0 (j - 0).toNat) H1 s1 (rng_len 0 j (by decide) hj) walk_rng
      rw [Int.sub_zero] at this
      exact this
    · cases e4
theorem di_rng2 (hg : Gl X "range") (hm : X.mg "range" = none) (q : DE X H0 kd .any a f) (w : DE X H0 kd .any b g) (hs : starEach [a, b] X.env = [(false, eval a X.env), (false, eval b X.env)] := by rfl) (hs2 : starEach [b] X.env = [(false, eval b X.env)] := by rfl) : DI X H0 kd tg (.Call (.Name "range" p) [a, b] [] pos) (Da.itRng2 f g) :=
  PI.imp' (pi_range2 hg hm (da_any q (da_any w da_nil hs2) (by rw [hs, hs2])) hs hs2) fun σ H R ⟨r, ds, env, ef, k⟩ => by
    obtain ⟨x, e1, e2⟩ := bind_some ef
    obtain ⟨y, e3, e4⟩ := bind_some e2
    obtain ⟨i, e5, e6⟩ := bind_some e4
    obtain ⟨j, e7, e8⟩ := bind_some e6
    have := asI_some e5
    subst this
    have := asI_some e7
    subst this
    split at e8
    · rename_i hj
      cases e8
      obtain ⟨h1, h2⟩ := Bool.and_eq_true_iff.mp hj
      have b1 := rng_ok h1
      have b2 := rng_ok h2
      refine ⟨r, [.int i, .int j], env, by unfold Da.aCons Da.aNil; simp [e1, e3], fun vs H1 s1 q1 => ?_⟩
      obtain ⟨v, u, ev, t, t2⟩ := q1.two
      subst ev
      rw [t.int, t2.int]
      exact ⟨i, j, rfl, ⟨by omega, by omega, by omega, by omega⟩, k _ H1 s1 (rng_len i j h1 h2) walk_rng⟩
    · cases e8
/-- reversed of a list that stays -/
theorem di_rev (hg : Gl X "reversed") (hm : X.mg "reversed" = none) (q : DE X H0 kd .val e f) (hs : starEach [e] X.env = [(false, eval e X.env)] := by rfl) : DI X H0 kd tg (.Call (.Name "reversed" p) [e] [] pos) (Da.itRev f) :=
  PI.imp' (pi_reversed hg hm (da_val q da_nil hs) hs) fun σ H R ⟨r, ds, env, ef, k⟩ => by
    obtain ⟨x, e1, e2⟩ := bind_some ef
    cases x <;> try cases e2
    rename_i xs
    refine ⟨r, [.list xs], env, by unfold Da.aCons Da.aNil; rw [e1]; rfl, fun vs H1 s1 q1 => ?_⟩
    cases q1 with
    | val p1 q1 =>
      cases q1
      cases p1 with
      | @list ad ys _ h1 h2 h3 =>
        refine ⟨ad, ys, rfl, h1.sq, k _ H1 s1 ?_ fun i H2 hw => ?_⟩
        · rw [List.length_reverse, ← h3.length]; exact h2
        · have g1 := (h1.gr hw.1).sq (K := X.K)
          have g3 := Rps.gr hw.1 _ _ h3
          refine ⟨fun hi => ?_, fun d hd => ?_⟩
          · rw [List.length_reverse, ← h3.length] at hi
            exact hi
          · have hi : i < ys.length := by
              have := (List.getElem?_eq_some_iff.mp hd).1
              rw [List.length_reverse, ← h3.length] at this
              exact this
            rw [List.getElem?_reverse (by rw [← h3.length]; exact hi), ← h3.length] at hd
            obtain ⟨v, e3, e4⟩ := g3.get hd
            refine ⟨⟨hi, ys, v, g1, e3⟩, fun x H' y => ?_⟩
            obtain ⟨rfl, y⟩ := y
            have := y ys g1
            rw [e3] at this
            cases this
            exact ⟨Same.refl _, e4⟩
theorem enumL_get : ∀ (xs : List PyData) (n i : Nat), (Da.enumL n xs)[i]? = xs[i]?.map fun x => .tuple [.int ((n + i : Nat) : Int), x]
  | [], n, i => by simp [Da.enumL]
  | x :: xs, n, 0 => by simp [Da.enumL]
  | x :: xs, n, i + 1 => by
    unfold Da.enumL
    rw [List.getElem?_cons_succ, List.getElem?_cons_succ, enumL_get xs (n + 1) i, show n + 1 + i = n + (i + 1) by omega]
theorem enumL_len : ∀ (xs : List PyData) (n : Nat), (Da.enumL n xs).length = xs.length
  | [], n => rfl
  | x :: xs, n => by unfold Da.enumL; rw [List.length_cons, List.length_cons, enumL_len xs (n + 1)]
/-- enumerate of a stable list -/
theorem di_enum {elts : List Expr} {kk : Nat} {tpos : Pos} (hg : Gl X "enumerate") (hm : X.mg "enumerate" = none) (q : DE X H0 kd .sta e f) (hs : starEach [e] X.env = [(false, eval e X.env)] := by rfl) : DI X H0 kd (.Tuple elts kk tpos) (.Call (.Name "enumerate" p) [e] [] pos) (Da.itEnum f) :=
  PI.imp' (pi_enum hg hm (pa_cons q pa_nil hs) hs) fun σ H R ⟨r, ds, env, ef, k⟩ => by
    obtain ⟨x, e1, e2⟩ := bind_some ef
    cases x <;> try cases e2
    rename_i xs
    refine ⟨r, .list xs, env, e1, fun v H1 s1 q1 => ?_⟩
    obtain ⟨ad, ys, hv, hz, hl, hh⟩ := sta_seq (H1 := H1) q1 (ds := xs) rfl (env.ext.trans s1)
    subst hv
    rcases hh with ⟨_, hh⟩ | ⟨z, _⟩
    · refine ⟨ad, ys, rfl, (hh H1 (Gr.refl _) (env.ext.trans s1)).1, k _ H1 s1 (by rw [enumL_len, hl]; exact hz) fun i H2 hw => ?_⟩
      obtain ⟨h1, h2⟩ := hh H2 hw.1 hw.2
      refine ⟨fun hi => ⟨ys, h1, by rw [enumL_len] at hi; omega⟩, fun d hd => ?_⟩
      rw [enumL_get] at hd
      obtain ⟨dd, e3, e4⟩ := Option.map_eq_some_iff.mp hd
      subst e4
      obtain ⟨v, e5, e6⟩ := h2.get e3
      refine ⟨⟨ys, v, h1, e5⟩, fun x H' y => ?_⟩
      obtain ⟨T, x', rfl, hT, rfl, y⟩ := y
      have := y ys h1
      rw [e5] at this
      cases this
      refine ⟨same_new hT, .tuple (.of upd_same) (by show 2 ≤ sizeLine; decide) (.cons ?_ (.cons (Rp.gr (.new hT) _ _ e6) .nil))⟩
      rw [Nat.zero_add]
      exact .num _
    · cases z
theorem di_c {it : Dl} (q : DI X H0 kd tg e it) : DIc X H0 kd tg e it := PI.imp' q fun σ H R ⟨r, ds, env, ef, k⟩ =>
  ⟨r, ds, env, ef, fun J H1 s1 hz hw => k J H1 s1 hz fun i H2 hs => hw i H2 ⟨.of_same hs, (env.ext.trans s1).trans hs⟩⟩
/-- over a list that may be changed (not here) -/
theorem di_own (q : DE X H0 kd .any e f) : DIc X H0 kd tg e (Da.itO f) := by
  refine ⟨fun pins s σ H R I ⟨r, ds, env, ef, k⟩ => ?_⟩
  obtain ⟨d, e1, e2⟩ := bind_some ef
  cases d <;> try cases e2
  refine thn (q.run pins s σ H (fun v H' => Same H H' ∧ Tp (cx X H0 kd) H' v (.list ds)) I ⟨r, _, env, e1, fun v H' sm q => ⟨sm, q⟩⟩) fun u s1 ⟨v, H1, I1, rv, s01, t1⟩ => ?_
  obtain ⟨ad, xs, hv, h1, hz, h3⟩ := t1.list
  subst hv
  cases rv
  obtain ⟨its, rr, pl, _⟩ := I1.list h1
  refine wpAny_pyIter_list pl.isList ?_
  refine ⟨s1.heap.objs.size, [s1.heap.objs.size], _, _, H1, rfl, I1.kept (t' := s1.toks) fun b o e => Heap.get?_push_of_some _ e, turn_list ad _, ⟨_, Heap.get?_push_size _ rfl, rfl, rfl⟩, fun b hb => ?_, ?_⟩
  · have e : b = s1.heap.objs.size := by simpa using hb
    subst e
    exact I1.fpOk (Nat.le_refl _) (I1.hok.fresh (Nat.le_refl _))
  · refine k _ H1 s01 (by rw [← h3.length]; exact hz) fun i H2 hs => ?_
    have g1 : SqL X.K H2 ad xs := by
      rcases h1 with (z | ⟨o, z⟩) | z
      · exact .inl (.inl (hs _ _ z))
      · exact .inl (.inr ⟨o, hs _ _ z⟩)
      · exact .inr z
    have g3 := Rps.gr (.of_same hs) _ _ h3
    refine ⟨fun hi => ⟨xs, g1, by rw [g3.length]; exact hi⟩, fun d hd => ?_⟩
    obtain ⟨v, e1, e2⟩ := g3.get hd
    refine ⟨⟨xs, v, g1, e1⟩, fun x H' y => ?_⟩
    obtain ⟨rfl, y⟩ := y
    have := y xs g1
    rw [e1] at this
    cases this
    exact ⟨Same.refl _, e2⟩
end
end Sk
set_option linter.all false
set_option maxRecDepth 100000
/-! Lay7: targets, comprehensions. -/
namespace Sk
open PySem PySem.Spec PyProof.Rows L2
open Da (Rho Dn Dts Dl Dst Out)

/-! ### targets -/
theorem wipe_set {i : Nat} {o : Option V} : ∀ (σ : L2.St) (vs : List Nat), i ∈ vs → L2.wipe (σ.set i o) vs = L2.wipe σ vs
  | σ, [], h => absurd h (by simp)
  | σ, v :: vs, h => by
    unfold L2.wipe
    rcases List.mem_cons.mp h with rfl | h
    · by_cases hi : i ∈ vs
      · rw [wipe_set σ vs hi]
      · have key : ∀ (us : List Nat), i ∉ us → L2.wipe (σ.set i o) us = (L2.wipe σ us).set i o := by
          intro us
          induction us with
          | nil => intro _; rfl
          | cons u us ih =>
            intro hu
            rw [List.mem_cons, not_or] at hu
            unfold L2.wipe
            rw [ih hu.2, List.set_comm _ _ hu.1]
        rw [key vs hi, List.set_set]
    · rw [wipe_set σ vs h]
/-- a datum that stays goes to a target -/
def tGr (C : Ct) (t : Da.Tg) : TG := fun v σ H Q => ∃ r d r', Env C H σ r ∧ Rp C.K H v d ∧ Da.toTg t d r = some r' ∧ ∀ σ', Env C H σ' r' → (∀ vs : List Nat, (∀ i ∈ Da.tgS t, i ∈ vs) → L2.wipe σ' vs = L2.wipe σ vs) → Q σ' H
def tGs (C : Ct) (js : List Nat) : TGs := fun vs σ H Q => ∃ r ds, Env C H σ r ∧ Rps C.K H vs ds ∧ ds.length = js.length ∧ ∀ σ', Env C H σ' (Da.setMany js ds r) → (∀ us : List Nat, (∀ i ∈ js, i ∈ us) → L2.wipe σ' us = L2.wipe σ us) → Q σ' H
theorem PGs.imp {X : Cx} {ts : List Expr} {t t' : TGs} (h : PGs X ts t) (i : ∀ vs σ H Q, t' vs σ H Q → t vs σ H Q) : PGs X ts t' := ⟨fun pins s σ H v u Q I r q => h.run pins s σ H v u Q I r (i v σ H Q q)⟩
abbrev DG (X : Cx) (H0 : Hp) (kd : Nat → Kd) (tg : Expr) (t : Da.Tg) : Prop := PG X tg (tGr (cx X H0 kd) t)
abbrev DGs (X : Cx) (H0 : Hp) (kd : Nat → Kd) (ts : List Expr) (js : List Nat) : Prop := PGs X ts (tGs (cx X H0 kd) js)
section
variable {X : Cx} {H0 : Hp} {kd : Nat → Kd} {x : Str} {pos : Pos} {i : Nat} {e : Expr} {es : List Expr} {js : List Nat}
theorem dg_name (p : PG X (.Name x pos) (gName i)) (k : kd i = .val) : DG X H0 kd (.Name x pos) (.one i) := PG.imp p fun v σ H Q ⟨r, d, r', env, hv, ht, q⟩ => by
  cases ht
  exact q _ (env.set k hv) fun vs hvs => wipe_set σ vs (hvs i (List.mem_singleton.mpr rfl))
theorem dgs_nil : DGs X H0 kd [] [] := PGs.imp pgs_nil fun vs σ H Q ⟨r, ds, env, hv, hl, q⟩ => by
  cases ds with
  | nil => cases hv; exact ⟨rfl, q σ env fun _ _ => rfl⟩
  | cons d ds => cases hl
theorem dgs_cons (p : PG X (.Name x pos) (gName i)) (k : kd i = .val) (q : DGs X H0 kd es js) (hs : (assignEach (.Name x pos :: es) X.env).map (·.2) = assign (.Name x pos) X.env :: (assignEach es X.env).map (·.2) := by rfl) : DGs X H0 kd (.Name x pos :: es) (i :: js) :=
  PGs.imp (pgs_cons p q hs) fun vs σ H Q ⟨r, ds, env, hv, hl, z⟩ => by
    cases ds with
    | nil => cases hl
    | cons d ds =>
      cases hv with
      | cons h1 h2 => exact ⟨_, _, rfl, _, ds, env.set k h1, h2, by simpa using hl, fun σ' e' w => z σ' e' fun us hus => (w us fun j hj => hus j (List.mem_cons_of_mem _ hj)).trans (wipe_set σ us (hus i (List.mem_cons_self ..)))⟩
theorem dg_tup {kk : Nat} (hc : X.calm = true) (q : DGs X H0 kd es js) (hn : (assignEach es X.env).length = js.length := by rfl) (hst : (assignEach es X.env).findIdx? (·.1) = none := by rfl) : DG X H0 kd (.Tuple es kk pos) (.many js) :=
  PG.imp (pg_tup hc q hn hst) fun v σ H Q ⟨r, d, r', env, hv, ht, z⟩ => by
    cases d <;> simp only [Da.toTg] at ht <;> try cases ht
    split at ht
    · rename_i hl
      cases ht
      cases hv with
      | tuple h1 h2 h3 => exact ⟨_, _, rfl, h1, by rw [h3.length, hl], r, _, env, h3, hl, z⟩
    · cases ht
end

/-! ### comprehensions -/
theorem set_none_comm (r : Rho) : ∀ js : List Nat, Da.wipe js r = js.foldl (fun r j => r.set j none) r := fun js => rfl
theorem wipe_get : ∀ (js : List Nat) (r : Rho) (i : Nat) (d : PyData), (Da.wipe js r)[i]? = some (some d) → r[i]? = some (some d) ∧ i ∉ js
  | [], r, i, d, h => ⟨h, by simp⟩
  | j :: js, r, i, d, h => by
    have h' : (Da.wipe js (r.set j none))[i]? = some (some d) := h
    obtain ⟨h1, h2⟩ := wipe_get js _ i d h'
    rcases set_some h1 with ⟨_, z, _⟩ | ⟨n, z⟩
    · cases z
    · exact ⟨z, by simp only [List.mem_cons, not_or]; exact ⟨n, h2⟩⟩
theorem lwipe_keep : ∀ (js : List Nat) (σ : L2.St) (i : Nat), i ∉ js → (L2.wipe σ js)[i]? = σ[i]?
  | [], σ, i, _ => rfl
  | j :: js, σ, i, h => by
    rw [List.mem_cons, not_or] at h
    unfold L2.wipe
    rw [List.getElem?_set_ne (fun z => h.1 z.symm), lwipe_keep js σ i h.2]
theorem dwipe_len : ∀ (js : List Nat) (r : Rho), (Da.wipe js r).length = r.length
  | [], r => rfl
  | j :: js, r => by
    show (Da.wipe js (r.set j none)).length = _
    rw [dwipe_len js, List.length_set]
theorem Env.block {C : Ct} {H : Hp} {σ : L2.St} {r : Rho} (e : Env C H σ r) (js : List Nat) : Env C H (L2.wipe σ js) (Da.wipe js r) :=
  e.less (by rw [wipe_length, dwipe_len, e.len]) fun i d q => by
    obtain ⟨h1, h2⟩ := wipe_get js r i d q
    exact ⟨h1, lwipe_keep js σ i h2⟩
theorem lwipe_in : ∀ (js : List Nat) (σ : L2.St) (i : Nat), i ∈ js → i < σ.length → (L2.wipe σ js)[i]? = some none
  | [], σ, i, h, _ => absurd h (by simp)
  | j :: js, σ, i, h, hl => by
    unfold L2.wipe
    by_cases e : j = i
    · subst e
      exact List.getElem?_set_self (by rw [wipe_length]; exact hl)
    · rw [List.getElem?_set_ne e]
      exact lwipe_in js σ i ((List.mem_cons.mp h).resolve_left fun z => e z.symm) hl
theorem wipe_idem (σ : L2.St) (js : List Nat) : L2.wipe (L2.wipe σ js) js = L2.wipe σ js := by
  refine List.ext_getElem? fun i => ?_
  by_cases h : i ∈ js
  · by_cases hl : i < σ.length
    · rw [lwipe_in js _ i h (by rw [wipe_length]; exact hl), lwipe_in js σ i h hl]
    · rw [List.getElem?_eq_none (by rw [wipe_length, wipe_length]; omega), List.getElem?_eq_none (by rw [wipe_length]; omega)]
  · rw [lwipe_keep js _ i h]
section
variable {X : Cx} {H0 : Hp} {kd : Nat → Kd} {elt tg iter : Expr} {ifs : List Expr} {scope : Scope} {own : List (Str × Nat)} {pos : Pos} {t : Da.Tg} {c : Dts} {e : Dn} {it : Dl}
/-- the reading of the tests -/
abbrev DTs (X : Cx) (H0 : Hp) (kd : Nat → Kd) (es : List Expr) (f : Dts) : Prop := PTs X es (tQ (cx X H0 kd) f)
theorem dts_nil : DTs X H0 kd [] Da.yes := ⟨fun pins s σ H Q I ⟨r, b, env, ef, k⟩ => by
  cases ef
  exact (pts_nil (X := X)).run pins s σ H Q I (k H (Same.refl H))⟩
theorem dts_one {c : Expr} {f : Dts} (p : DT X H0 kd c f) : DTs X H0 kd [c] f := pts_one p
/-- the list that a comprehension makes -/
theorem comp_read {js : List Nat} (ht : ∀ i ∈ Da.tgS t, i ∈ js) {σ : L2.St} {H : Hp} {Q : VK} (q : tD (cx X H0 kd) .fre (Da.dComp t js it c e) σ H Q) :
    tLc (tIc (cx X H0 kd) it) (tGr (cx X H0 kd) t) (tQ (cx X H0 kd) c) (tD (cx X H0 kd) .val e) js σ H Q := by
  obtain ⟨r, d, env, ef, k⟩ := q
  obtain ⟨ds, e1, e2⟩ := bind_some ef
  obtain ⟨out, e3, e4⟩ := Option.map_eq_some_iff.mp e2
  subst e4
  refine ⟨r, ds, env, e1, fun J H1 s1 hz hw D nD => ?_⟩
  have nH : H D = none := s1.free nD
  have n0 : H0 D = none := env.ext.free nH
  -- behind i turns: what is made so far
  let Pv : Nat → Hp → Prop := fun i H2 => i ≤ ds.length ∧ ∃ acc vs rest, H2 D = some (.lst vs) ∧ vs.length ≤ i ∧ Rps X.K H2 vs acc ∧ Da.compL t c e (Da.wipe js r) (ds.drop i) = some rest ∧ out = acc ++ rest ∧ Same H1 H2
  refine ⟨fun i m H2 => m = ds.length - i ∧ Pv i H2, ⟨_, rfl, Nat.zero_le _, [], [], out, upd_same, Nat.le_refl _, .nil, by simpa using e3, rfl, same_new nD⟩, ?_⟩
  rintro i m H2 ⟨rfl, hi, acc, vs, rest, hD, hl, hr, hc, ho, s12⟩
  have s2 := s1.trans s12
  obtain ⟨w1, w2⟩ := hw i H2 s12
  by_cases hlt : i < ds.length
  · obtain ⟨hgo, hy⟩ := w2 ds[i] (List.getElem?_eq_getElem hlt)
    refine .inr ⟨hgo, Pv (i + 1), fun H' p => ⟨ds.length - (i + 1), by omega, rfl, p⟩, fun x H3 y => ?_⟩
    obtain ⟨s3, px⟩ := hy x H3 y
    rw [List.drop_eq_getElem_cons hlt] at hc
    unfold Da.compL at hc
    obtain ⟨r1, c1, c2⟩ := bind_some hc
    obtain ⟨kb, c3, c4⟩ := bind_some c2
    have s23 := s2.trans s3
    refine ⟨Da.wipe js r, ds[i], r1, (env.same s23).block js, px, c1, fun σ' env' hwp => ⟨by rw [hwp js ht]; exact wipe_idem σ js, r1, kb, env', c3, fun H4 s4 => ?_⟩⟩
    have s24 := s3.trans s4
    have hD4 : H4 D = some (.lst vs) := s24 D _ hD
    cases kb with
    | false =>
      simp only [Bool.false_eq_true, if_false] at c4 ⊢
      exact ⟨by omega, acc, vs, rest, hD4, by omega, Rps.gr (.of_same s24) _ _ hr, c4, ho, s12.trans s24⟩
    | true =>
      simp only [if_true] at c4 ⊢
      obtain ⟨y, c5, c6⟩ := bind_some c4
      obtain ⟨rest', c7, c8⟩ := Option.map_eq_some_iff.mp c6
      refine ⟨r1, y, env'.same s4, c5, fun v H5 s5 pv => ?_⟩
      have s25 := s24.trans s5
      have hD5 : H5 D = some (.lst vs) := s25 D _ hD
      have pv' : Rp X.K H5 v y := pv
      refine ⟨vs, hD5, by omega, by omega, acc ++ [y], vs ++ [v], rest', upd_same, by simp; omega, ?_, c7, ?_, ?_⟩
      · exact Rps.gr (.upd (.inl ⟨_, hD5⟩)) _ _ ((Rps.gr (.of_same s25) _ _ hr).append (.cons pv' .nil))
      · rw [ho, ← c8]; simp
      · exact same_again nD (s12.trans s25)
  · have hi' : i = ds.length := by omega
    refine .inl ⟨w1 (by omega), ?_⟩
    rw [List.drop_eq_nil_of_le (by omega)] at hc
    unfold Da.compL at hc
    cases hc
    rw [List.append_nil] at ho
    subst ho
    exact k _ _ s2 ⟨D, _, rfl, rfl, nH, vs, hD, by omega, hr⟩
/-- a list comprehension as a value -/
theorem de_comp (hc : X.calm = true) (hN : X.N.Nodup) (hi : DIc X H0 kd tg iter it) (ok : BlkOk X.N X.env.scope scope own)
    (hg : ∀ (s : Shared) (H : Hp) (C : Addr) (cl : List (Str × Addr)) (fp : List Addr), DG (X.blk s H scope (compEnvC scope cl C X.env) fp) H0 kd tg t)
    (ht : ∀ (s : Shared) (H : Hp) (C : Addr) (cl : List (Str × Addr)) (fp : List Addr), DTs (X.blk s H scope (compEnvC scope cl C X.env) fp) H0 kd ifs c)
    (he : ∀ (s : Shared) (H : Hp) (C : Addr) (cl : List (Str × Addr)) (fp : List Addr), DE (X.blk s H scope (compEnvC scope cl C X.env) fp) H0 kd .val elt e)
    (hj : ∀ i ∈ Da.tgS t, i ∈ own.map (·.2) := by decide) (hs : ∀ x, foldedSetIterable iter X.env x = pure x := by intro _; rfl) :
    DE X H0 kd .fre (.ListComp elt [⟨tg, iter, ifs, 0⟩] scope pos) (Da.dComp t (own.map (·.2)) it c e) :=
  PE.imp (pe_lc hc hN hi ok hg ht he hs) fun _ _ _ z => comp_read hj z
/-- name = [..], the name a local -/
theorem ps_comp {i : Nat} {y : Str} {py spos : Pos} (hc : X.calm = true) (hN : X.N.Nodup) (hy : X.N[i]? = some y) (hyl : X.env.scope.names.lookup y = some .local)
    (hsw : swapsWith (.ListComp elt [⟨tg, iter, ifs, 0⟩] scope pos) (some (.Name y py)) spos.line X.env = pure true) (hi : DIc X H0 kd tg iter it) (ok : BlkOk X.N X.env.scope scope own)
    (hg : ∀ (s : Shared) (H : Hp) (C : Addr) (cl : List (Str × Addr)) (fp : List Addr), DG (X.blk s H scope (compEnvC scope cl C X.env) fp) H0 kd tg t)
    (ht : ∀ (s : Shared) (H : Hp) (C : Addr) (cl : List (Str × Addr)) (fp : List Addr), DTs (X.blk s H scope (compEnvC scope cl C X.env) fp) H0 kd ifs c)
    (he : ∀ (s : Shared) (H : Hp) (C : Addr) (cl : List (Str × Addr)) (fp : List Addr), DE (X.blk s H scope (compEnvC scope cl C X.env) fp) H0 kd .val elt e)
    (hj : ∀ i ∈ Da.tgS t, i ∈ own.map (·.2) := by decide) (hs : ∀ x, foldedSetIterable iter X.env x = pure x := by intro _; rfl) :
    PS X (.Assign [.Name y py] (.ListComp elt [⟨tg, iter, ifs, 0⟩] scope pos) spos) (tAsg (tD (cx X H0 kd) .fre (Da.dComp t (own.map (·.2)) it c e)) (gName i)) :=
  PS.imp (ps_setLc hc hN hy hyl hsw hi ok hg ht he hs) fun _ _ _ z => comp_read hj z

/-! ### {x: True for x in ..} -/
/-- what a new own dict stores -/
theorem dct_store {X : Cx} {pins : List (Addr × Obj)} {σ : L2.St} {H : Hp} {s : Shared} (hu : X.A.units + 40 < cLine) (I : Inv X pins σ H s) {a b : Addr} {kvs : List (PyData × PyData)} {k d : PyData} {v : V} {vv : Value} {Q : Unit → Shared → Prop} {E : Value → Shared → Prop} (u : UnD X.prog X.w X.K H a kvs) (hk : Da.isKey k = true) (hb : Rp X.K H (.ref b) k) (hv : Rp X.K H v d) (rv : RelV v vv) (hz : kvs.length < sizeLine)
    (q : ∀ H' s', H' = upd H a (H' a |>.getD (.lst [])) → UnD X.prog X.w X.K H' a (Da.putK kvs k d) → Inv X pins σ H' s' → Q () s') : wpAny (model X.prog X.w) X.A (dictSet a (.ref b) vv) Q E s := by
  obtain ⟨es, h1, h2, h3⟩ := u
  obtain ⟨lo, xs, r, hx⟩ := dct_of I h1 h3
  have l1 : xs.length = kvs.length := by rw [← Paired.length r, Paired.length h3]
  have nd : (xs.map (·.1)).Nodup := by
    obtain ⟨_, _, _, _, _, _, _, _, z⟩ := id hx
    exact z
  obtain ⟨es', k1, k2, k3⟩ := put_in hk hb hv rv nd h3 r
  refine wpAny_dictSet_heap (knd := nestedKind X.prog X.w) (hsz := by rw [l1]; exact Nat.le_of_lt hz) (by show X.A.units + 8 < cLine; omega) (key_is I hk hb) hx fun h' hm' hs => ?_
  have I2 := dct_write (t' := s.toks + (nestedKind X.prog X.w).draws (keyN k)) I h1 lo hs hm' k2
  have hl : es.length = kvs.length := Paired.length h3
  refine q _ _ ?_ ⟨es', upd_same, by omega, EntsOk.gr (.upd (mu_dct h1)) k1⟩ I2
  rw [upd_same]
  rfl
end
end Sk
set_option linter.all false
set_option maxRecDepth 100000
/-! Lay7d: dict comprehensions over data. -/
namespace Sk
open PySem PySem.Spec PyProof.Rows L2
open Da (Rho Dn Dts Dl Dst Out)
section
variable {X : Cx} {H0 : Hp} {kd : Nat → Kd} {kx vx tg iter : Expr} {scope : Scope} {own : List (Str × Nat)} {pos : Pos} {i : Nat} {dv : PyData} {it : Dl}
theorem putK_len (kvs : List (PyData × PyData)) (k d : PyData) : (Da.putK kvs k d).length ≤ kvs.length + 1 := by
  induction kvs with
  | nil => simp [Da.putK]
  | cons kv kvs ih =>
    obtain ⟨a, b⟩ := kv
    unfold Da.putK
    split
    · simp
    · simp only [List.length_cons]; omega
/-- an own dict is laid, the place that was s's next -/
theorem dct_laid {pins : List (Addr × Obj)} {σ : L2.St} {H : Hp} {s : Shared} (I : Inv X pins σ H s) : Inv X pins σ (upd H s.heap.objs.size (DctO X.prog X.w s.heap.objs.size [])) { s with heap := s.heap.push { cls := .type "dict", data := .dict #[] } } :=
  I.laid (t' := s.toks) (fun _ _ q => Heap.get?_push_of_some _ q) (Nat.le_refl _)
    (dct_ok ⟨beq_eq_false_iff_ne.mpr (Ne.symm (Nat.ne_of_lt I.big)), [], .nil, List.nodup_nil, #[], 0, ⟨_, Heap.get?_push_size _ rfl, ⟨rfl, rfl, rfl⟩, rfl⟩, rfl⟩)
theorem dd_core {pins : List (Addr × Obj)} {s : Shared} {σ : L2.St} {H : Hp} {Q : VK} {pos' : Pos} {use : Option (Value → Sem Unit)} {Qf : Value → Shared → Prop} (hu : X.A.units + 40 < cLine)
    (hc : X.calm = true) (hN : X.N.Nodup) (I : Inv X pins σ H s) (hi : DIc X H0 kd tg iter it) (ok : BlkOk X.N X.env.scope scope own)
    (hg : ∀ (s : Shared) (H : Hp) (C : Addr) (cl : List (Str × Addr)) (fp : List Addr), DG (X.blk s H scope (compEnvC scope cl C X.env) fp) H0 kd tg (.one i))
    (hk : ∀ (s : Shared) (H : Hp) (C : Addr) (cl : List (Str × Addr)) (fp : List Addr), DE (X.blk s H scope (compEnvC scope cl C X.env) fp) H0 kd .val kx (Da.dVar i))
    (he : ∀ (s : Shared) (H : Hp) (C : Addr) (cl : List (Str × Addr)) (fp : List Addr), DE (X.blk s H scope (compEnvC scope cl C X.env) fp) H0 kd .val vx (Da.dC dv)) (hj : i ∈ own.map (·.2)) (hs : ∀ x, foldedSetIterable iter X.env x = pure x)
    (hiN : i < X.N.length) (q : tD (cx X H0 kd) .frd (Da.dDict it dv) σ H Q)
    (hRR : ∀ D C s' m H', Inv X pins σ H' s' → Q (.ref D) H' → s'.heap.Ns C m → FpOk X pins H' C → compPost (model X.prog X.w) X.A X.xe use Qf (.ref D) C (.ok .next) s') :
    wpAny (model X.prog X.w) X.A (comprehension (.DictComp kx vx [⟨tg, iter, [], 0⟩] scope pos) scope X.env pos' newDict false (eval iter X.env) use) Qf X.xe s := by
  obtain ⟨r, d, env, ef, kQ⟩ := q
  obtain ⟨ds, e1, e2⟩ := bind_some ef
  obtain ⟨out, e3, e4⟩ := Option.map_eq_some_iff.mp e2
  subst e4
  have hfree : ∀ y ∈ scope.names, y.2 = .free → ∃ c, X.env.cells.lookup y.1 = some c := fun y hy e => (ok.free y hy e).elim (fun z => I.ok.has _ (.inl z)) fun z => I.ok.has _ (.inr z)
  refine wpAny_comprehension_free (use := use) rfl hs (closure_ok hfree) ok.kind (fun y hy e => by rw [ok.uniq y hy, e]) (thn (hi.run pins s σ H (fun J H1 => Same H H1 ∧ ds.length ≤ sizeLine ∧ WalkAt (cx X H0 kd) J (fun H2 => Same H1 H2) ds) I ⟨r, ds, env, e1, fun J H1 s1 hz hw => ⟨s1, hz, hw⟩⟩) fun xv s1 hx => thn hx fun itv s2 h2 => ?_)
  obtain ⟨itA, fp, tn, J, H2, e, I2, T, st2, f2, s02, hz, hw⟩ := h2
  subst e
  refine wpAny_newObj_type (newEnv_comp ?_)
  have I3 := dct_laid I2
  have nD : H2 s2.heap.objs.size = none := I2.hok.fresh (Nat.le_refl _)
  have hD3 : ({ s2 with heap := s2.heap.push { cls := .type "dict", data := .dict #[] } } : Shared).heap.objs.size = s2.heap.objs.size + 1 := Heap.size_push _ _
  generalize hD : s2.heap.objs.size = D at I3 nD hD3 ⊢
  have sz : ∀ b ∈ fp, b < D := fun b hb => by
    obtain ⟨o, e, _⟩ := T.obj _ _ st2 b hb
    rw [← hD]
    exact Heap.lt_size e
  have st3 : tn 0 (s2.heap.push { cls := .type "dict", data := .dict #[] }) := T.keep _ _ _ st2 fun b _ o e => Heap.get?_push_of_some _ e
  generalize hs3 : ({ s2 with heap := s2.heap.push { cls := .type "dict", data := .dict #[] } } : Shared) = s3 at I3 hD3
  have h3 : s2.heap.push { cls := .type "dict", data := .dict #[] } = s3.heap := by rw [← hs3]
  rw [h3] at st3
  generalize hH3 : upd H2 D (DctO X.prog X.w D []) = H3 at I3
  have f3 : ∀ b ∈ fp, FpOk X pins H3 b ∧ b < s3.heap.objs.size := fun b hb => by
    refine ⟨⟨?_, (f2 b hb).2⟩, by rw [hD3]; exact Nat.lt_succ_of_lt (sz b hb)⟩
    rw [← hH3, upd_ne (Nat.ne_of_lt (sz b hb))]
    exact (f2 b hb).1
  have I4 := block_start I3 ok hN f3
  have pg := hg s3 H3 s3.heap.objs.size (cellsFrom (s3.heap.objs.size + 1) scope.names (cloFrom X.env.cells scope.names [])) fp
  have pk := hk s3 H3 s3.heap.objs.size (cellsFrom (s3.heap.objs.size + 1) scope.names (cloFrom X.env.cells scope.names [])) fp
  have pv := he s3 H3 s3.heap.objs.size (cellsFrom (s3.heap.objs.size + 1) scope.names (cloFrom X.env.cells scope.names [])) fp
  show codeAny _ _ (.compStart (.DictComp kx vx [⟨tg, iter, [], 0⟩] scope pos) 0 (.ref itA) (.ref D) (compEnvC scope (cellsFrom (s3.heap.objs.size + 1) scope.names (cloFrom X.env.cells scope.names [])) s3.heap.objs.size X.env)) (compPost (model X.prog X.w) X.A X.xe use Qf (.ref D) s3.heap.objs.size) { s3 with heap := pushCells (s3.heap.push { cls := .type "dict", data := .dict #[] }) scope.names }
  generalize hce : compEnvC scope (cellsFrom (s3.heap.objs.size + 1) scope.names (cloFrom X.env.cells scope.names [])) s3.heap.objs.size X.env = ce at I4 pg pk pv ⊢
  have cL : ce.locals = s3.heap.objs.size := by subst hce; rfl
  generalize hs4 : ({ s3 with heap := pushCells (s3.heap.push { cls := .type "dict", data := .dict #[] }) scope.names } : Shared) = s4 at I4 ⊢
  have st4 : tn 0 s4.heap := T.keep _ _ _ st3 fun b _ o e => by rw [← hs4]; exact pushCells_keeps _ _ _ _ (Heap.get?_push_of_some _ e)
  have stat : ∀ {σ' : L2.St} {H' : Hp} {s' : Shared}, Inv (X.blk s3 H3 scope ce fp) [] σ' H' s' → (∀ b ∈ fp, H' b = none) → ∀ b ∈ fp, FpOk (X.blk s3 H3 scope ce fp) [] H' b := fun {σ' H' s'} I' hn b hb =>
    ⟨hn b hb, (I'.ok.exf b hb).1, I'.ok.exfs b hb, .inl hb, (I'.ok.exf b hb).2, fun p hp => absurd (show p ∈ ([] : List (Addr × Obj)) ++ [] from hp) (by simp)⟩
  -- behind n turns
  let Pv : Nat → Hp → Prop := fun n H5 => n ≤ ds.length ∧ ∃ acc, UnD X.prog X.w X.K H5 D acc ∧ acc.length ≤ n ∧ Da.dictL dv (ds.drop n) acc = some out ∧ Same H2 H5
  have nH : H D = none := s02.free nD
  have p0 : Pv 0 H3 := by
    refine ⟨Nat.zero_le _, [], ?_, Nat.le_refl _, by simpa using e3, ?_⟩
    · rw [← hH3]; exact ⟨[], upd_same, Nat.zero_le _, .nil⟩
    · rw [← hH3]; exact same_new nD
  have loop : codeAny (model X.prog X.w) X.A (.compLoop (.DictComp kx vx [⟨tg, iter, [], 0⟩] scope pos) 0 (.ref itA) (.ref D) ce) (compPost (model X.prog X.w) X.A X.xe use Qf (.ref D) s3.heap.objs.size) s4 := by
    refine compLoop_anyD (fun m s' => ∃ n H', m = ds.length - n ∧ Inv (X.blk s3 H3 scope ce fp) [] (wipe σ (own.map (·.2))) H' s' ∧ tn n s'.heap ∧ (∀ b ∈ fp, H' b = none) ∧ Pv n H') ?_ ds.length ⟨0, H3, rfl, I4, st4, fun b hb => (f3 b hb).1.1, p0⟩
    rintro m s5 ⟨n, H5, rfl, I5, st5, n5, hn, acc, ha, hl, hd, s25⟩
    have s05 := s02.trans s25
    obtain ⟨w1, w2⟩ := hw n H5 s25
    by_cases hlt : n < ds.length
    · obtain ⟨hgo, hy⟩ := w2 ds[n] (List.getElem?_eq_getElem hlt)
      rw [List.drop_eq_getElem_cons hlt] at hd
      unfold Da.dictL at hd
      split at hd
      · rename_i hkey
        refine thnF (T.item (X.blk s3 H3 scope ce fp) rfl rfl rfl hc n [] s5 _ H5 (fun _ _ => False) I5 (stat I5 n5) st5 hgo) fun rr s6 ⟨u, hr, h6⟩ => ?_
        subst hr
        refine thnF h6 fun _ s7 ⟨x, H7, I7, r7, y7, st7, n7⟩ => ?_
        obtain ⟨s57, px⟩ := hy x H7 y7
        have I7' := I7.pinned (stat I7 n7) (T.obj _ _ st7)
        have s07 := s05.trans s57
        have env7 : Env (cx X H0 kd) H7 (wipe σ (own.map (·.2))) (Da.wipe (own.map (·.2)) r) := (env.same s07).block _
        refine thnF (pg.run _ s7 _ H7 x u (fun σ8 H8 => H8 = H7 ∧ wipe σ8 (own.map (·.2)) = wipe σ (own.map (·.2)) ∧ Env (cx X H0 kd) H7 σ8 ((Da.wipe (own.map (·.2)) r).set i (some ds[n]))) I7' r7 ⟨_, ds[n], _, env7, px, rfl, fun σ' e' hwp => ⟨rfl, by rw [hwp _ (fun j hj2 => by rw [List.mem_singleton.mp hj2]; exact hj)]; exact wipe_idem σ _, e'⟩⟩) fun _ s8 ⟨σ8, H8, I8, eH, hw8, env8⟩ => ?_
        subst eH
        refine thnF ((pts_nil (X := X.blk s3 H3 scope ce fp)).run _ s8 σ8 H8 (fun b H9 => b = true ∧ H9 = H8) I8 ⟨rfl, rfl⟩) fun b s9 ⟨H9, I9, eb, eH9⟩ => ?_
        subst eb eH9
        simp only [if_true]
        have hget : ((Da.wipe (own.map (·.2)) r).set i (some ds[n]))[i]? = some (some ds[n]) := List.getElem?_set_self (by rw [dwipe_len, ← env.len, I.len]; exact hiN)
        refine thnF (pk.run _ s9 σ8 H9 (fun v H' => Same H9 H' ∧ Rp X.K H' v ds[n]) I9 ⟨_, ds[n], env8, dVar_eq.mpr hget, fun v H' sm q => ⟨sm, q⟩⟩) fun z s10 ⟨yk, H10, I10, r10, s910, p10⟩ => ?_
        refine thnF (pv.run _ s10 σ8 H10 (fun v H' => Same H10 H' ∧ Rp X.K H' v dv) I10 ⟨_, dv, env8.same s910, rfl, fun v H' sm q => ⟨sm, q⟩⟩) fun z2 s11 ⟨yv, H11, I11, r11, s1011, p11⟩ => ?_
        obtain ⟨kb, ek⟩ := key_ref hkey p10
        subst ek
        obtain rfl : z = Value.ref kb := r10
        have s511 : Same H5 H11 := (s57.trans s910).trans s1011
        have ha11 : UnD X.prog X.w X.K H11 D acc := ha.gr (.of_same s511) (s511 D)
        refine dct_store (X := X.blk s3 H3 scope ce fp) hu I11 ha11 hkey (Rp.gr (.of_same s1011) _ _ p10) p11 r11 (by omega) fun H12 s12 eH12 ha12 I12 => ?_
        have pin' : ∀ b ∈ fp, ∀ o, s7.heap.get? b = some o → s12.heap.get? b = some o ∧ H12 b = none := fun b hb o e =>
          let z := I12.pin (b, o) (List.mem_append_right _ (List.mem_append_right _ (mem_pinsAt hb e)))
          ⟨z.1, z.2.1⟩
        have hlen : (wipe σ (own.map (·.2))).length = σ8.length := by rw [← hw8, wipe_length]
        refine ⟨ds.length - (n + 1), by omega, n + 1, H12, rfl, (I12.unpinned (pins := [])).weak hlen (fun j v e => ?_), T.keep _ _ _ st7 fun b hb o e => (pin' b hb o e).1, fun b hb => ?_, by omega, _, ha12, ?_, hd, ?_⟩
        · rw [← hw8] at e
          exact (wipe_some e).1
        · obtain ⟨o, e, _⟩ := T.obj _ _ st7 b hb
          exact (pin' b hb o e).2
        · have := putK_len acc ds[n] dv
          omega
        · rw [eH12]; exact same_again nD (s25.trans s511)
      · cases hd
    · have hn' : n = ds.length := by omega
      refine thnF (T.done (X.blk s3 H3 scope ce fp) rfl rfl rfl hc n [] s5 _ H5 (fun _ _ => False) I5 (stat I5 n5) st5 (w1 (by omega))) fun rr s6 ⟨hr, I6⟩ => ?_
      subst hr
      rw [List.drop_eq_nil_of_le (by omega)] at hd
      unfold Da.dictL at hd
      cases hd
      have I7 : Inv X pins σ H5 s6 := I3.call' (ch := fp) I6.os I6.base I6.hok I6.bare fun b hb => ⟨(f3 b hb).1.2.2.2.1, (f3 b hb).1.2.1, (f3 b hb).1.2.2.2.2.1, (f3 b hb).1.2.2.2.2.2⟩
      have nC : H5 s3.heap.objs.size = none := by
        have z : H5 ce.locals = none := I6.free
        rw [cL] at z
        exact z
      obtain ⟨m, hns, _⟩ := I6.loc
      have hns : s6.heap.Ns ce.locals m := hns
      rw [cL] at hns
      exact hRR D s3.heap.objs.size s6 m H5 I7 (kQ _ _ s05 ⟨D, _, rfl, rfl, nH, ha⟩) hns (I3.fpOk (Nat.le_refl _) nC)
  exact codeAny_compStart_dict loop (T.self X.A 0 _ _ _ st4 loop)
end
end Sk
set_option linter.all false
set_option maxRecDepth 100000
/-! Lay8: statements. -/
namespace Sk
open PySem PySem.Spec PyProof.Rows L2
open Da (Rho Dn Dts Dl Dst Out)

def Post (C : Ct) (rm : Md) (D : Ends) (H : Hp) : Out → Prop
  | .nx r => ∀ σ' H', Env C H' σ' r → Gr H H' → D.nx σ' H'
  | .rt d => ∀ v H', Same C.H0 H' → Gr H H' → Res C rm C.H0 H' v d → D.rt v H'
  | .bk r => ∀ σ' H', Env C H' σ' r → Gr H H' → D.bk σ' H'
  | .ct r => ∀ σ' H', Env C H' σ' r → Gr H H' → D.ct σ' H'
theorem Post.gr {C : Ct} {rm : Md} {D : Ends} {H H1 : Hp} (g : Gr H H1) {o : Out} (p : Post C rm D H o) : Post C rm D H1 o := by
  cases o with
  | nx r => exact fun σ' H' e g' => p σ' H' e (g.trans g')
  | rt d => exact fun v H' s g' q => p v H' s (g.trans g') q
  | bk r => exact fun σ' H' e g' => p σ' H' e (g.trans g')
  | ct r => exact fun σ' H' e g' => p σ' H' e (g.trans g')
def tS (C : Ct) (rm : Md) (g : Dst) : TS := fun D σ H => ∃ r o, Env C H σ r ∧ g r = some o ∧ Post C rm D H o
abbrev DS (X : Cx) (H0 : Hp) (kd : Nat → Kd) (rm : Md) (st : Stmt) (g : Dst) : Prop := PS X st (tS (cx X H0 kd) rm g)
abbrev DSs (X : Cx) (H0 : Hp) (kd : Nat → Kd) (rm : Md) (sts : List Stmt) (g : Dst) : Prop := PSs X sts (tS (cx X H0 kd) rm g)
section
variable {X : Cx} {H0 : Hp} {kd : Nat → Kd} {rm m m1 m2 : Md} {st : Stmt} {rest body els : List Stmt} {a b : Dst} {e e2 tg iter : Expr} {f f2 : Dn} {pos pos' : Pos} {c : Expr} {cc : Dts} {t : Da.Tg} {js : List Nat} {it : Dl} {i j : Nat} {x y : Str}
theorem dss_nil : DSs X H0 kd rm [] Da.sNext := PSs.imp pss_nil fun D σ H ⟨r, o, env, ef, p⟩ => by
  cases ef
  exact p σ H env (Gr.refl H)
theorem dss_cons (p : DS X H0 kd rm st a) (q : DSs X H0 kd rm rest b) : DSs X H0 kd rm (st :: rest) (Da.sSeq a b) := PSs.imp (pss_cons p q) fun D σ H ⟨r, o, env, ef, z⟩ => by
  obtain ⟨o1, e1, e2⟩ := bind_some ef
  refine ⟨r, o1, env, e1, ?_⟩
  cases o1 with
  | nx r1 => exact fun σ' H' env' g' => ⟨r1, o, env', e2, z.gr g'⟩
  | rt d => cases e2; exact z
  | bk r1 => cases e2; exact z
  | ct r1 => cases e2; exact z
theorem dss_one (p : DS X H0 kd rm st a) : DSs X H0 kd rm [st] a := pss_one p
theorem ds_break : DS X H0 kd rm (.Break pos) Da.sBreak := PS.imp ps_break fun D σ H ⟨r, o, env, ef, p⟩ => by
  cases ef
  exact p σ H env (Gr.refl H)
theorem ds_ret (p : DE X H0 kd rm e f) : DS X H0 kd rm (.Return (some e) pos) (Da.sRet f) := PS.imp (ps_ret p) fun D σ H ⟨r, o, env, ef, z⟩ => by
  obtain ⟨d, e1, e2⟩ := Option.map_eq_some_iff.mp ef
  subst e2
  exact ⟨r, d, env, e1, fun v H' s q => z v H' (env.ext.trans s) (.of_same s) (q.pre env.ext)⟩
theorem ds_retN : DS X H0 kd .val (.Return none pos) (Da.sRet (Da.dC .none)) := PS.imp ps_retN fun D σ H ⟨r, o, env, ef, z⟩ => by
  cases ef
  exact z _ H env.ext (Gr.refl H) .none
/-- an own list, an own dict is given back -/
theorem ds_retL (p : PE X e (tVar i)) (k : kd i = .ownL) : DS X H0 kd .fre (.Return (some e) pos) (Da.sRet (Da.dVar i)) := PS.imp (ps_ret p) fun D σ H ⟨r, o, env, ef, z⟩ => by
  obtain ⟨d, e1, e2⟩ := Option.map_eq_some_iff.mp ef
  subst e2
  obtain ⟨a, ds, h1, h2, h3, h4⟩ := env.ownL i d (dVar_eq.mp e1) k
  exact ⟨_, h2, z _ H env.ext (Gr.refl H) ⟨a, ds, rfl, h1, h3, h4⟩⟩
theorem ds_retD (p : PE X e (tVar i)) (k : kd i = .ownD) : DS X H0 kd .frd (.Return (some e) pos) (Da.sRet (Da.dVar i)) := PS.imp (ps_ret p) fun D σ H ⟨r, o, env, ef, z⟩ => by
  obtain ⟨d, e1, e2⟩ := Option.map_eq_some_iff.mp ef
  subst e2
  obtain ⟨a, ds, h1, h2, h3, h4⟩ := env.ownD i d (dVar_eq.mp e1) k
  exact ⟨_, h2, z _ H env.ext (Gr.refl H) ⟨a, ds, rfl, h1, h3, h4⟩⟩
theorem ds_if (p : DT X H0 kd c cc) (q : DSs X H0 kd rm body a) (w : DSs X H0 kd rm els b) : DS X H0 kd rm (.If c body els pos) (Da.sIf cc a b) := PS.imp (ps_if p q w) fun D σ H ⟨r, o, env, ef, z⟩ => by
  obtain ⟨k, e1, e2⟩ := bind_some ef
  refine ⟨r, k, env, e1, fun H1 s1 => ?_⟩
  cases k with
  | true => exact ⟨r, o, env.same s1, by simpa using e2, z.gr (.of_same s1)⟩
  | false => exact ⟨r, o, env.same s1, by simpa using e2, z.gr (.of_same s1)⟩
theorem Env.rekd {X : Cx} {H0 H : Hp} {kd kd' : Nat → Kd} {σ : L2.St} {r : Rho} {i : Nat} (env : Env (cx X H0 kd) H σ r) (h : ∀ j, j ≠ i → kd' j = kd j) (n : ∀ d, r[i]? ≠ some (some d)) : Env (cx X H0 kd') H σ r where
  ext := env.ext
  len := env.len
  val := fun j d hj hk => env.val j d hj ((h j (fun z => n d (z ▸ hj))).symm.trans hk)
  bor := fun j d hj hk => env.bor j d hj ((h j (fun z => n d (z ▸ hj))).symm.trans hk)
  ownL := fun j d hj hk => env.ownL j d hj ((h j (fun z => n d (z ▸ hj))).symm.trans hk)
  ownD := fun j d hj hk => env.ownD j d hj ((h j (fun z => n d (z ▸ hj))).symm.trans hk)
  sep := fun j l a d e hj hl kj kl => env.sep j l a d e hj hl (by have kj' : kd' j = .ownL ∨ kd' j = .ownD := kj; rw [h j (fun z => n d (z ▸ hj))] at kj'; exact kj') (by have kl' : kd' l = .ownL ∨ kd' l = .ownD := kl; rw [h l (fun z => n e (z ▸ hl))] at kl'; exact kl')
theorem set_back {α : Type} {l : List α} {i : Nat} {x : α} (h : l[i]? = some x) : l.set i x = l := by
  refine List.ext_getElem? fun j => ?_
  by_cases hj : i = j
  · subst hj
    rw [List.getElem?_set_self (List.getElem?_eq_some_iff.mp h).1, h]
  · rw [List.getElem?_set_ne hj]
/-- a list in slot i is closed ahead of a statement that ends the def -/
theorem ds_frz (k : kd i = .ownL) (p : DS X H0 (fun j => if j = i then .val else kd j) rm st a) : DS X H0 kd rm st (Da.sFrz a) := by
  refine ⟨fun pins s σ H D I ⟨r, o, env, ef, z⟩ => ?_⟩
  unfold Da.sFrz at ef
  obtain ⟨o1, e1, e2⟩ := bind_some ef
  have hk' : ∀ j, j ≠ i → (if j = i then Kd.val else kd j) = kd j := fun j hj => if_neg hj
  cases o1 with
  | rt d =>
    cases e2
    by_cases hr : ∃ dd, r[i]? = some (some dd)
    · obtain ⟨dd, hr⟩ := hr
      obtain ⟨ad, ds, h1, h2, h3, h4⟩ := env.ownL i dd hr k
      subst h1
      obtain ⟨xs, x1, x2, x3⟩ := id h4
      obtain ⟨od, I2⟩ := I.lock x1 True.intro
      have fr := env.free_own hr (.inl k) h2
      have g : Gr H (upd H ad (.frz od (.lst xs))) := .upd h4.mu
      have env2 : Env (cx X H0 fun j => if j = i then .val else kd j) (upd H ad (.frz od (.lst xs))) σ (r.set i none) := (env.upd h3 h4.mu fr).rekd (i := i) hk' fun d hd => by
        rcases set_some hd with ⟨_, z, _⟩ | ⟨z, _⟩
        · cases z
        · exact z rfl
      have env3 := env2.set (i := i) (v := .ref ad) (d := .list ds) (if_pos rfl) (.list ⟨od, upd_same⟩ x2 (Rps.gr g _ _ x3))
      rw [List.set_set, set_back hr, set_back h2] at env3
      exact p.run pins s σ _ D I2 ⟨r, .rt d, env3, e1, fun v H' s' g' q => z v H' s' (g.trans g') q⟩
    · exact p.run pins s σ H D I ⟨r, .rt d, env.rekd (i := i) hk' (fun dd hd => hr ⟨dd, hd⟩), e1, z⟩
  | nx r1 => cases e2
  | bk r1 => cases e2
  | ct r1 => cases e2

/-! ### assignments -/
/-- name = value -/
theorem ds_set (p : PS X st (tAsg (tD (cx X H0 kd) .val f) (gName i))) (k : kd i = .val) : DS X H0 kd rm st (Da.sAsg f (.one i)) := PS.imp p fun D σ H ⟨r, o, env, ef, z⟩ => by
  obtain ⟨d, e1, e2⟩ := bind_some ef
  cases e2
  exact ⟨r, d, env, e1, fun v H1 s1 q => z _ H1 ((env.same s1).set k q) (.of_same s1)⟩
/-- name = a new list, to be changed -/
theorem ds_setL (p : PS X st (tAsg (tD (cx X H0 kd) .fre f) (gName i))) (k : kd i = .ownL) : DS X H0 kd rm st (Da.sAsg f (.one i)) := PS.imp p fun D σ H ⟨r, o, env, ef, z⟩ => by
  obtain ⟨d, e1, e2⟩ := bind_some ef
  cases e2
  refine ⟨r, d, env, e1, fun v H1 s1 q => ?_⟩
  obtain ⟨ad, ds, rfl, rfl, n, u⟩ := q
  exact z _ H1 ((env.same s1).setL k (env.ext.free n) u fun j d' hn hj hk hs => env.free (i := i) n j d' hn hj hk hs) (.of_same s1)
theorem ds_setD (p : PS X st (tAsg (tD (cx X H0 kd) .frd f) (gName i))) (k : kd i = .ownD) : DS X H0 kd rm st (Da.sAsg f (.one i)) := PS.imp p fun D σ H ⟨r, o, env, ef, z⟩ => by
  obtain ⟨d, e1, e2⟩ := bind_some ef
  cases e2
  refine ⟨r, d, env, e1, fun v H1 s1 q => ?_⟩
  obtain ⟨ad, ds, rfl, rfl, n, u⟩ := q
  exact z _ H1 ((env.same s1).setD k (env.ext.free n) u fun j d' hn hj hk hs => env.free (i := i) n j d' hn hj hk hs) (.of_same s1)
/-- name = a new list, closed at once (a comprehension) -/
theorem ds_setF (p : PS X st (tAsg (tD (cx X H0 kd) .fre f) (gName i))) (k : kd i = .val) : DS X H0 kd rm st (Da.sAsg f (.one i)) := by
  refine ⟨fun pins s σ H D I ⟨r, o, env, ef, z⟩ => ?_⟩
  obtain ⟨d, e1, e2⟩ := bind_some ef
  cases e2
  refine thn (p.run pins s σ H ⟨fun σ' H' => ∃ ad ds, d = .list ds ∧ H ad = none ∧ Same H H' ∧ UnL X.K H' ad ds ∧ σ' = σ.set i (some (.ref ad)), fun _ _ => False, fun _ _ => False, fun _ _ => False⟩ I ⟨r, d, env, e1, fun v H1 s1 q => ?_⟩) fun fl s' hs => ?_
  · obtain ⟨ad, ds, rfl, rfl, n, u⟩ := q
    exact ⟨ad, ds, rfl, n, s1, u, rfl⟩
  · cases fl with
    | next =>
      obtain ⟨σ', H1, I1, ad, ds, rfl, n, s1, ⟨xs, h1, h2, h3⟩, rfl⟩ := hs
      obtain ⟨od, I2⟩ := I1.lock h1 True.intro
      have s2 : Same H (upd H1 ad (.frz od (.lst xs))) := same_again n s1
      exact ⟨_, _, I2, z _ _ ((env.same s2).set k (.list ⟨od, upd_same⟩ h2 (Rps.gr (.upd (.inl ⟨_, h1⟩)) _ _ h3))) (.of_same s2)⟩
    | ret u => obtain ⟨_, _, _, _, _, z⟩ := hs; exact z.elim
    | brk => obtain ⟨_, _, _, z⟩ := hs; exact z.elim
    | cont => obtain ⟨_, _, _, z⟩ := hs; exact z.elim
/-- (a, b, ..) = value -/
theorem ds_tup (p : PS X st (tAsg (tD (cx X H0 kd) .val f) (tGr (cx X H0 kd) t))) : DS X H0 kd rm st (Da.sAsg f t) := PS.imp p fun D σ H ⟨r, o, env, ef, z⟩ => by
  obtain ⟨d, e1, e2⟩ := bind_some ef
  obtain ⟨r', e3, e4⟩ := Option.map_eq_some_iff.mp e2
  subst e4
  exact ⟨r, d, env, e1, fun v H1 s1 q => ⟨r, d, r', env.same s1, q, e3, fun σ' env' _ => z σ' H1 env' (.of_same s1)⟩⟩
/-- i, j = e, e2 -/
theorem ds_par (p : PS X st (tPar i j (tCons (tD (cx X H0 kd) m e1') (tCons (tD (cx X H0 kd) .val f2) tNil)))) (hm : (m = .val ∧ kd i = .val) ∨ (m = .fre ∧ kd i = .ownL)) (kj : kd j = .val) : DS X H0 kd rm st (Da.sPar i j e1' f2) := PS.imp p fun D σ H ⟨r, o, env, ef, z⟩ => by
  obtain ⟨d, e1, e2⟩ := bind_some ef
  obtain ⟨d2, e3, e4⟩ := bind_some e2
  cases e4
  refine ⟨r, d, env, e1, fun v H1 s1 q1 => ⟨r, d2, env.same s1, e3, fun u H2 s2 q2 => ⟨v, u, rfl, z _ H2 ?_ (.of_same (s1.trans s2))⟩⟩⟩
  have env2 := env.same (s1.trans s2)
  rcases hm with ⟨rfl, ki⟩ | ⟨rfl, ki⟩
  · exact (env2.set ki (Rp.gr (.of_same s2) _ _ q1)).set kj q2
  · obtain ⟨ad, ds, rfl, rfl, n, un⟩ := q1
    exact (env2.setL ki (env.ext.free n) (un.gr (.of_same s2) (s2 ad)) fun j d' hn hj hk hs => env.free (i := i) n j d' hn hj hk hs).set kj q2
/-- i += e -/
theorem ip_add : PIp X .Add (fun x y H Q => ∃ a b, x = .int a ∧ y = .int b ∧ Q (.int (a + b)) H) := by
  rintro pins s σ H x y u v Q I rx ry ⟨i, j, rfl, rfl, q⟩
  obtain ⟨t, rfl⟩ := (show ∃ t, u = Value.int i t from rx)
  obtain ⟨t', rfl⟩ := (show ∃ t', v = Value.int j t' from ry)
  exact PyProof.Rows.iadd_int ⟨.int (i + j), H, I.tok _, ⟨_, rfl⟩, q⟩
theorem ds_aug (p : PS X st (tAug i (tD (cx X H0 kd) .any f) (fun x y H Q => ∃ a b, x = .int a ∧ y = .int b ∧ Q (.int (a + b)) H))) (k : kd i = .val) : DS X H0 kd rm st (Da.sAug i f) := PS.imp p fun D σ H ⟨r, o, env, ef, z⟩ => by
  obtain ⟨d, e1, e2⟩ := bind_some ef
  obtain ⟨d2, e3, e4⟩ := bind_some e2
  obtain ⟨d3, e5, e6⟩ := Option.map_eq_some_iff.mp e4
  subst e6
  obtain ⟨v, h1, h2⟩ := env.val i d (dVar_eq.mp e1) k
  cases d <;> cases d2 <;> simp only [Da.gAdd, Option.some.injEq] at e5 <;> try cases e5
  cases h2
  exact ⟨_, h1, r, _, env, e3, fun u H1 s1 q1 => ⟨_, _, rfl, (show Tp (cx X H0 kd) H1 u _ from q1).int, z _ H1 ((env.same s1).set k (.num _)) (.of_same s1)⟩⟩

/-! ### lists and dicts changed -/
theorem Env.back {C : Ct} {H : Hp} {σ : L2.St} {r : Rho} {i : Nat} {ad : Addr} {ds : List PyData} (env : Env C H σ (r.set i none)) (k : C.kd i = .ownL) (hs : σ[i]? = some (some (.ref ad))) (h0 : C.H0 ad = none) (u : UnL C.K H ad ds) (f : Free C σ (r.set i none) i ad) : Env C H σ (r.set i (some (.list ds))) := by
  have e := env.setL k h0 u f
  rw [List.set_set] at e
  have q : σ.set i (some (.ref ad)) = σ := by
    refine List.ext_getElem? fun j => ?_
    by_cases hj : i = j
    · subst hj
      rw [List.getElem?_set_self (List.getElem?_eq_some_iff.mp hs).1, hs]
    · rw [List.getElem?_set_ne hj]
  rw [q] at e
  exact e
theorem Env.backD {C : Ct} {H : Hp} {σ : L2.St} {r : Rho} {i : Nat} {ad : Addr} {ds : List (PyData × PyData)} (env : Env C H σ (r.set i none)) (k : C.kd i = .ownD) (hs : σ[i]? = some (some (.ref ad))) (h0 : C.H0 ad = none) (u : UnD C.P C.w C.K H ad ds) (f : Free C σ (r.set i none) i ad) : Env C H σ (r.set i (some (.dict ds))) := by
  have e := env.setD k h0 u f
  rw [List.set_set] at e
  have q : σ.set i (some (.ref ad)) = σ := by
    refine List.ext_getElem? fun j => ?_
    by_cases hj : i = j
    · subst hj
      rw [List.getElem?_set_self (List.getElem?_eq_some_iff.mp hs).1, hs]
    · rw [List.getElem?_set_ne hj]
  rw [q] at e
  exact e
theorem Free.drop {C : Ct} {σ : L2.St} {r : Rho} {i : Nat} {ad : Addr} (f : Free C σ r i ad) : Free C σ (r.set i none) i ad := fun j d hn hj hk hs => by
  rcases set_some hj with ⟨_, z, _⟩ | ⟨_, z⟩
  · cases z
  · exact f j d hn z hk hs
/-- the list of slot i gets new items -/
theorem Env.newL {C : Ct} {H : Hp} {σ : L2.St} {r : Rho} {i : Nat} {ad : Addr} {ds es : List PyData} {ys : List V} (env : Env C H σ r) (k : C.kd i = .ownL) (hr : r[i]? = some (some (.list ds))) (hs : σ[i]? = some (some (.ref ad))) (h0 : C.H0 ad = none) (u : UnL C.K H ad ds)
    (hz : ys.length ≤ sizeLine) (hy : Rps C.K H ys es) : Env C (L2.upd H ad (.lst ys)) σ (r.set i (some (.list es))) ∧ Gr H (L2.upd H ad (.lst ys)) := by
  have fr := env.free_own hr (.inl k) hs
  have g : Gr H (L2.upd H ad (.lst ys)) := .upd u.mu
  exact ⟨(env.upd h0 u.mu fr).back k hs h0 ⟨ys, upd_same, hz, Rps.gr g _ _ hy⟩ fr.drop, g⟩
/-- i.append(e) -/
theorem ds_app (k : kd i = .ownL) (hp : PS X st (tDrop (tBM X.K "list" rAppend (tVar i) (tCons (tD (cx X H0 kd) .val f) tNil)))) : DS X H0 kd rm st (Da.sApp i f) := PS.imp hp fun D σ H ⟨r, o, env, ef, z⟩ => by
  unfold Da.sApp at ef
  cases e0 : Da.dVar i r with
  | none => rw [e0] at ef; cases ef
  | some d0 =>
    rw [e0] at ef
    cases d0 <;> try cases ef
    rename_i xs
    obtain ⟨d, e1, e2⟩ := bind_some ef
    split at e2
    · rename_i hl
      cases e2
      obtain ⟨ad, ds, h1, h2, h3, h4⟩ := env.ownL i _ (dVar_eq.mp e0) k
      cases h1
      refine ⟨_, h2, .inl ⟨rfl, ?_⟩, r, d, env, e1, fun v H1 s1 q1 => ?_⟩
      · obtain ⟨ys, y1, y2, y3⟩ := h4
        exact ⟨ys, .of y1⟩
      · have u1 : UnL X.K H1 ad xs := h4.gr (.of_same s1) (s1 ad)
        obtain ⟨ys, y1, y2, y3⟩ := id u1
        have hl' : ys.length < sizeLine := by rw [y3.length, ← big_eq]; exact hl
        obtain ⟨env2, g2⟩ := (env.same s1).newL k (dVar_eq.mp e0) h2 h3 u1 (ys := ys ++ [v]) (es := xs ++ [d]) (by rw [List.length_append, List.length_singleton]; omega) (y3.append (.cons q1 .nil))
        exact ⟨ad, ys, v, rfl, rfl, y1, hl', z _ _ env2 ((Gr.of_same s1).trans g2)⟩
    · cases e2
/-- j = i.pop() -/
theorem ds_pop (k : kd i = .ownL) (kj : kd j = .val) (hp : PS X st (tAsg (tBM0 X.K "list" rPop (tVar i)) (gName j))) : DS X H0 kd rm st (Da.sPop i j) := PS.imp hp fun D σ H ⟨r, o, env, ef, z⟩ => by
  unfold Da.sPop at ef
  cases e0 : Da.dVar i r with
  | none => rw [e0] at ef; cases ef
  | some d0 =>
    rw [e0] at ef
    cases d0 <;> try cases ef
    rename_i xs
    obtain ⟨d, e1, e2⟩ := Option.map_eq_some_iff.mp ef
    subst e2
    obtain ⟨ad, ds, h1, h2, h3, h4⟩ := env.ownL i _ (dVar_eq.mp e0) k
    cases h1
    obtain ⟨ys, y1, y2, y3⟩ := id h4
    obtain ⟨v, e3, e4⟩ := y3.get e1
    rw [← y3.length] at e3
    obtain ⟨env2, g2⟩ := env.newL k (dVar_eq.mp e0) h2 h3 h4 (ys := ys.dropLast) (es := xs.dropLast) (by rw [List.length_dropLast]; omega) y3.dropLast
    exact ⟨_, h2, .inl ⟨rfl, ys, .of y1⟩, ad, ys, v, rfl, rfl, y1, e3, z _ _ (env2.set kj (Rp.gr g2 _ _ e4)) g2⟩
/-- i[h] = f, a list -/
theorem ds_setI (k : kd i = .ownL) (hp : PS X st (tAsg (tD (cx X H0 kd) .val f) (gSub (tVar i) (tD (cx X H0 kd) .any f2) rSetL))) : DS X H0 kd rm st (Da.sSetL i f2 f) := PS.imp hp fun D σ H ⟨r, o, env, ef, z⟩ => by
  unfold Da.sSetL at ef
  obtain ⟨d, e1, e2⟩ := bind_some ef
  cases e0 : Da.dVar i r with
  | none => rw [e0] at e2; cases e2
  | some d0 =>
    rw [e0] at e2
    cases d0 <;> try cases e2
    rename_i xs
    obtain ⟨dx, e3, e4⟩ := bind_some e2
    obtain ⟨n, e5, e6⟩ := bind_some e4
    obtain ⟨jj, e7, e8⟩ := Option.map_eq_some_iff.mp e6
    subst e8
    have := asI_some e5
    subst this
    obtain ⟨ad, ds, h1, h2, h3, h4⟩ := env.ownL i _ (dVar_eq.mp e0) k
    cases h1
    refine ⟨r, d, env, e1, fun v H1 s1 q1 => ⟨_, h2, r, _, env.same s1, e3, fun u H2 s2 q2 => ?_⟩⟩
    have s12 := s1.trans s2
    have u2 : UnL X.K H2 ad xs := h4.gr (.of_same s12) (s12 ad)
    obtain ⟨ys, y1, y2, y3⟩ := id u2
    have hu := (show Tp (cx X H0 kd) H2 u _ from q2).int
    obtain ⟨env2, g2⟩ := (env.same s12).newL k (dVar_eq.mp e0) h2 h3 u2 (ys := ys.set jj v) (es := xs.set jj d) (by rw [List.length_set]; exact y2) (y3.set jj (Rp.gr (.of_same s2) _ _ q1))
    exact ⟨ad, ys, n, jj, rfl, hu, y1, by rw [← ixN_eq, y3.length]; exact e7, z _ _ env2 ((Gr.of_same s12).trans g2)⟩
/-- the reading of d[k] = v for own dicts -/
def rSetD (X : Cx) : TSet := fun o k v H Q => ∃ a b kvs kk d, o = .ref a ∧ k = .ref b ∧ UnD X.prog X.w X.K H a kvs ∧ Da.isKey kk = true ∧ Rp X.K H (.ref b) kk ∧ Rp X.K H v d ∧ kvs.length < sizeLine ∧
  ∀ H', H' = upd H a (H' a |>.getD (.lst [])) → UnD X.prog X.w X.K H' a (Da.putK kvs kk d) → Q H'
theorem set_dct (hu : X.A.units + 40 < cLine) : PSet X (rSetD X) := by
  intro pins s σ H o k v ov kv u Q I ro rk rv h
  obtain ⟨a, b, kvs, kk, d, rfl, rfl, un, hk, hb, hv, hz, q⟩ := h
  cases ro
  cases rk
  exact dct_set hu I un hk hb hv rv hz fun H' s' e u' I' => ⟨H', I', q H' e u'⟩
theorem Env.newD {C : Ct} {H H' : Hp} {σ : L2.St} {r : Rho} {i : Nat} {ad : Addr} {kvs es : List (PyData × PyData)} (env : Env C H σ r) (k : C.kd i = .ownD) (hr : r[i]? = some (some (.dict kvs))) (hs : σ[i]? = some (some (.ref ad))) (h0 : C.H0 ad = none) (u : UnD C.P C.w C.K H ad kvs)
    (e : H' = L2.upd H ad (H' ad |>.getD (.lst []))) (u' : UnD C.P C.w C.K H' ad es) : Env C H' σ (r.set i (some (.dict es))) ∧ Gr H H' := by
  have fr := env.free_own hr (.inr k) hs
  have g : Gr H H' := by rw [e]; exact .upd u.mu
  have env2 : Env C H' σ (r.set i none) := by rw [e]; exact env.upd h0 u.mu fr
  exact ⟨env2.backD k hs h0 u' fr.drop, g⟩
/-- i[h] = f, a dict -/
theorem ds_setK (k : kd i = .ownD) (hp : PS X st (tAsg (tD (cx X H0 kd) .val f) (gSub (tVar i) (tD (cx X H0 kd) .val f2) (rSetD X)))) : DS X H0 kd rm st (Da.sSetD i f2 f) := PS.imp hp fun D σ H ⟨r, o, env, ef, z⟩ => by
  unfold Da.sSetD at ef
  obtain ⟨d, e1, e2⟩ := bind_some ef
  cases e0 : Da.dVar i r with
  | none => rw [e0] at e2; cases e2
  | some d0 =>
    rw [e0] at e2
    cases d0 <;> try cases e2
    rename_i kvs
    obtain ⟨dx, e3, e4⟩ := bind_some e2
    split at e4
    · rename_i hk
      cases e4
      obtain ⟨ad, ds, h1, h2, h3, h4⟩ := env.ownD i _ (dVar_eq.mp e0) k
      cases h1
      refine ⟨r, d, env, e1, fun v H1 s1 q1 => ⟨_, h2, r, _, env.same s1, e3, fun u H2 s2 q2 => ?_⟩⟩
      have s12 := s1.trans s2
      have u2 : UnD X.prog X.w X.K H2 ad kvs := h4.gr (.of_same s12) (s12 ad)
      obtain ⟨bd, hb⟩ := key_ref hk.1 q2
      subst hb
      refine ⟨ad, bd, kvs, dx, d, rfl, rfl, u2, hk.1, q2, Rp.gr (.of_same s2) _ _ q1, by rw [← big_eq]; exact hk.2, fun H' e u' => ?_⟩
      obtain ⟨env2, g2⟩ := (env.same s12).newD k (dVar_eq.mp e0) h2 h3 u2 e u'
      exact z _ _ env2 ((Gr.of_same s12).trans g2)
    · cases e4
end
end Sk
set_option linter.all false
set_option maxRecDepth 100000
/-! Lay9: loops, setdefault, dict comprehensions as statements, defs. -/
namespace Sk
open PySem PySem.Spec PyProof.Rows L2
open Da (Rho Dn Dts Dl Dst Out)
section
variable {X : Cx} {H0 : Hp} {kd : Nat → Kd} {rm m : Md} {st : Stmt} {body : List Stmt} {b : Dst} {e tg iter c : Expr} {f f2 : Dn} {pos : Pos} {cc : Dts} {t : Da.Tg} {js : List Nat} {it : Dl} {i j : Nat} {x y : Str}
theorem forL_drop {ds : List PyData} {n : Nat} (h : n < ds.length) : Da.forL t js b (ds.drop n) = fun r => (Da.toTg t ds[n] r).bind fun r1 => (b r1).bind fun o => match o with
    | .nx r2 => Da.forL t js b (ds.drop (n + 1)) (Da.wipe js r2)
    | .ct r2 => Da.forL t js b (ds.drop (n + 1)) (Da.wipe js r2)
    | .bk r2 => some (.nx (Da.wipe js r2))
    | .rt d => some (.rt d) := by
  rw [List.drop_eq_getElem_cons h]
  rfl
/-- for t in it: body -/
theorem ds_for (hp : PassesOwn (model X.prog X.w) X.A X.env X.xe) (hc : X.calm = true) (hi : DI X H0 kd tg iter it) (hg : DG X H0 kd tg t) (hb : DSs X H0 kd rm body b)
    (hs : ∀ x, foldedSetIterable iter X.env x = pure x := by intro _; rfl) : DS X H0 kd rm (.For tg iter body [] pos) (Da.sFor t js it b) := PS.imp (ps_for hp hc hi hg hb hs) fun D σ H ⟨r, o, env, ef, z⟩ => by
  obtain ⟨ds, e1, e2⟩ := bind_some ef
  refine ⟨r, ds, env, e1, fun J H1 s1 hz hw => ?_⟩
  let Wv : Nat → L2.St → Hp → Prop := fun n σ' H' => n ≤ ds.length ∧ ∃ r', Env (cx X H0 kd) H' σ' r' ∧ Gr H1 H' ∧ Da.forL t js b (ds.drop n) r' = some o
  refine ⟨fun n m σ' H' => m = ds.length - n ∧ Wv n σ' H', ⟨_, rfl, Nat.zero_le _, r, env.same s1, Gr.refl _, by simpa using e2⟩, ?_⟩
  rintro n m σ' H' ⟨rfl, hn, r', env', g', hf⟩
  obtain ⟨w1, w2⟩ := hw n H' ⟨g', env'.ext⟩
  have g0 : Gr H H' := (Gr.of_same s1).trans g'
  by_cases hlt : n < ds.length
  · obtain ⟨hgo, hy⟩ := w2 ds[n] (List.getElem?_eq_getElem hlt)
    rw [forL_drop hlt] at hf
    obtain ⟨r1, f1, f2⟩ := bind_some hf
    obtain ⟨o1, f3, f4⟩ := bind_some f2
    refine .inr ⟨hgo, fun σ2 H2 => Wv (n + 1) σ2 H2, fun σ2 H2 q => ⟨ds.length - (n + 1), by omega, rfl, q⟩, fun x H2 y => ?_⟩
    obtain ⟨s2, px⟩ := hy x H2 y
    have g2 : Gr H H2 := g0.trans (.of_same s2)
    refine ⟨r', ds[n], r1, env'.same s2, px, f1, fun σ3 env3 _ => ⟨r1, o1, env3, f3, ?_⟩⟩
    cases o1 with
    | nx r2 => exact fun σ4 H4 env4 g4 => ⟨by omega, _, env4.wipe js, (g'.trans (.of_same s2)).trans g4, f4⟩
    | ct r2 => exact fun σ4 H4 env4 g4 => ⟨by omega, _, env4.wipe js, (g'.trans (.of_same s2)).trans g4, f4⟩
    | bk r2 => cases f4; exact fun σ4 H4 env4 g4 => z σ4 H4 (env4.wipe js) (g2.trans g4)
    | rt d => cases f4; exact fun v H4 s4 g4 q => z v H4 s4 (g2.trans g4) q
  · rw [List.drop_eq_nil_of_le (by omega)] at hf
    cases hf
    exact .inl ⟨w1 (by omega), z σ' H' env' g0⟩
theorem ds_while (hp : PassesOwn (model X.prog X.w) X.A X.env X.xe) (hcnd : DT X H0 kd c cc) (hb : DSs X H0 kd rm body b) : DS X H0 kd rm (.While c body [] pos) (Da.sWhile cc js b) := PS.imp (ps_while hp hcnd hb) fun D σ H ⟨r, o, env, ef, z⟩ => by
  refine ⟨fun m σ' H' => ∃ r', Env (cx X H0 kd) H' σ' r' ∧ Gr H H' ∧ Da.whileN cc js b m r' = some o, ⟨Da.fuel, r, env, Gr.refl _, ef⟩, ?_⟩
  rintro m σ' H' ⟨r', env', g', hf⟩
  cases m with
  | zero => unfold Da.whileN at hf; cases hf
  | succ n =>
    unfold Da.whileN at hf
    obtain ⟨k, f1, f2⟩ := bind_some hf
    refine ⟨r', k, env', f1, fun H1 s1 => ?_⟩
    have g1 : Gr H H1 := g'.trans (.of_same s1)
    cases k with
    | false =>
      simp only [Bool.false_eq_true, if_false] at f2 ⊢
      cases f2
      exact z σ' H1 (env'.same s1) g1
    | true =>
      simp only [if_true] at f2 ⊢
      obtain ⟨o1, f3, f4⟩ := bind_some f2
      refine ⟨fun σ2 H2 => ∃ r', Env (cx X H0 kd) H2 σ2 r' ∧ Gr H H2 ∧ Da.whileN cc js b n r' = some o, fun σ2 H2 q => ⟨n, Nat.lt_succ_self _, q⟩, r', o1, env'.same s1, f3, ?_⟩
      cases o1 with
      | nx r2 => exact fun σ4 H4 env4 g4 => ⟨_, env4.wipe js, g1.trans g4, f4⟩
      | ct r2 => exact fun σ4 H4 env4 g4 => ⟨_, env4.wipe js, g1.trans g4, f4⟩
      | bk r2 => cases f4; exact fun σ4 H4 env4 g4 => z σ4 H4 (env4.wipe js) (g1.trans g4)
      | rt d => cases f4; exact fun v H4 s4 g4 q => z v H4 s4 (g1.trans g4) q

/-! ### setdefault -/
theorem ds_setdef {o k v : Expr} {apos cpos spos : Pos} (hu : X.A.units + 40 < cLine) (ko : kd i = .ownD) (po : PE X o (tVar i)) (pk : DE X H0 kd .val k f) (pv : DE X H0 kd .val v f2) (mm : M2 X o "setdefault" apos k v cpos)
    (hs : swapsWith (.Call (.Attribute o "setdefault" apos) [k, v] [] cpos) none spos.line X.env = pure false := by rfl) : DS X H0 kd rm (.Expr (.Call (.Attribute o "setdefault" apos) [k, v] [] cpos) spos) (Da.sSetDef i f f2) := by
  refine ⟨fun pins s σ H D I ⟨r, oo, env, ef, z⟩ => ?_⟩
  unfold Da.sSetDef at ef
  cases e0 : Da.dVar i r with
  | none => rw [e0] at ef; cases ef
  | some d0 =>
    rw [e0] at ef
    cases d0 <;> try cases ef
    rename_i kvs
    obtain ⟨dk, e1, e2⟩ := bind_some ef
    obtain ⟨dv, e3, e4⟩ := bind_some e2
    split at e4
    · rename_i hk
      cases e4
      obtain ⟨ad, ds, h1, h2, h3, h4⟩ := env.ownD i _ (dVar_eq.mp e0) ko
      cases h1
      refine wpAny_Expr_any ?_ I.quiet hs
      refine wpAny_Call_method mm.base mm.few mm.line PySem.F.plainAttrs_dict PySem.F.slot_dict_setdefault PySem.F.type_dict_setdefault (thn (po.run pins s σ H (fun v H' => v = .ref ad ∧ H' = H) I ⟨_, h2, rfl, rfl⟩) fun u s1 ⟨vv, H1, I1, rv, ev, eH⟩ => ?_)
      subst ev eH
      obtain rfl : u = Value.ref ad := rv
      refine ⟨(dct_type I1 h4).1, (dct_type I1 h4).2, ?_⟩
      rw [mm.trees]
      refine Calls.callWith_builtin rfl (Calls.evalArgs_plain (Calls.spliced_cons (thn (pk.run pins s1 σ H1 (fun v H' => Same H1 H' ∧ Rp X.K H' v dk) I1 ⟨r, dk, env, e1, fun v H' sm q => ⟨sm, q⟩⟩) fun iv s2 ⟨v2, H2, I2, rv2, s12, t2⟩ =>
        Calls.spliced_cons (thn (pv.run pins s2 σ H2 (fun v H' => Same H2 H' ∧ Rp X.K H' v dv) I2 ⟨r, dv, env.same s12, e3, fun v H' sm q => ⟨sm, q⟩⟩) fun jv s3 ⟨v3, H3, I3, rv3, s23, t3⟩ => Calls.spliced_nil ?_))))
      obtain ⟨bd, hb⟩ := key_ref hk.1 t2
      subst hb
      obtain rfl : iv = Value.ref bd := rv2
      have s13 := s12.trans s23
      have u3 : UnD X.prog X.w X.K H3 ad kvs := h4.gr (.of_same s13) (s13 ad)
      refine dct_setdef hu I3 u3 hk.1 (Rp.gr (.of_same s23) _ _ t2) t3 rv3 (by rw [← big_eq]; exact hk.2) (fun hg v' u' s' _ I' => ?_) fun hg H' v' u' s' eH u' _ I' => ?_
      · rw [if_pos hg] at z
        exact ⟨σ, H3, I', z σ H3 (env.same s13) (.of_same s13)⟩
      · rw [if_neg (by rw [hg]; decide)] at z
        obtain ⟨env2, g2⟩ := (env.same s13).newD ko (dVar_eq.mp e0) h2 h3 u3 eH u'
        exact ⟨σ, H', I', z σ H' env2 ((Gr.of_same s13).trans g2)⟩
    · cases e4

/-! ### name = {k: v for ..} -/
theorem swd_true {kx vx : Expr} {gs : List Comprehension} {scope : Scope} {pos py : Pos} {y : Str} {l : Nat} {env : PySem.Env} (hk : env.scope.kind = .function) (hy : env.scope.names.lookup y = some .local) (hl : (py.line == pos.line) = true)
    (ha : (scope.names.any fun (n, k) => n == y && (k == .local || k == .cell)) = false) : swapsWith (.DictComp kx vx gs scope pos) (some (.Name y py)) l env = pure true := by
  have ky : env.kindOf y = some .local := hy
  have hb : env.blockKind = .function := by unfold PySem.Env.blockKind; rw [hk]; rfl
  unfold swapsWith
  simp only [hb, ky, ha, Expr.pos, hl]
  rfl
theorem ps_dcomp {kx vx : Expr} {scope : Scope} {own : List (Str × Nat)} {dv : PyData} {py spos : Pos} (hu : X.A.units + 40 < cLine) (hc : X.calm = true) (hN : X.N.Nodup) (hy : X.N[j]? = some y) (hyl : X.env.scope.names.lookup y = some .local)
    (hsw : swapsWith (.DictComp kx vx [⟨tg, iter, [], 0⟩] scope pos) (some (.Name y py)) spos.line X.env = pure true) (hi : DIc X H0 kd tg iter it) (ok : BlkOk X.N X.env.scope scope own)
    (hg : ∀ (s : Shared) (H : Hp) (C : Addr) (cl : List (Str × Addr)) (fp : List Addr), DG (X.blk s H scope (compEnvC scope cl C X.env) fp) H0 kd tg (.one i))
    (hk : ∀ (s : Shared) (H : Hp) (C : Addr) (cl : List (Str × Addr)) (fp : List Addr), DE (X.blk s H scope (compEnvC scope cl C X.env) fp) H0 kd .val kx (Da.dVar i))
    (he : ∀ (s : Shared) (H : Hp) (C : Addr) (cl : List (Str × Addr)) (fp : List Addr), DE (X.blk s H scope (compEnvC scope cl C X.env) fp) H0 kd .val vx (Da.dC dv)) (hj : i ∈ own.map (·.2)) (hiN : i < X.N.length) (hs : ∀ x, foldedSetIterable iter X.env x = pure x := by intro _; rfl) :
    PS X (.Assign [.Name y py] (.DictComp kx vx [⟨tg, iter, [], 0⟩] scope pos) spos) (tAsg (tD (cx X H0 kd) .frd (Da.dDict it dv)) (gName j)) := by
  refine ⟨fun pins s σ H D I h => ?_⟩
  rw [exec_Assign_Name_used _ _ _ _ hsw]
  refine wpAny_bind (wpAny_standAt (wpAny_bind ?_))
  show wpAny _ X.A (do let _ ← comprehension (.DictComp kx vx [⟨tg, iter, [], 0⟩] scope pos) scope X.env (firstIterPos [⟨tg, iter, [], 0⟩] pos) newDict false (eval iter X.env) (some (assign (.Name y py) X.env))) _ _ s
  have h : tD (cx X H0 kd) .frd (Da.dDict it dv) σ H (fun x H1 => gName j x σ H1 D.nx) := h
  refine wpAny_bind (thn (dd_core (Qf := fun _ s' => SP X pins D .next s') hu hc hN I hi ok hg hk he hj hs hiN h fun L C s' m H' I' q hn f => ?_) fun _ s' hq => wpAny_pure (wpAny_pure hq))
  show wpAny _ _ (assign (.Name y py) X.env (.ref L)) _ _ _
  refine wpAny_assign_Name (store_ok2 (v := V.ref L) I' hN hy (.inl hyl) rfl (fun s2 I2 ⟨a, sb, ha⟩ => ?_) (.inr hyl))
  obtain ⟨f0, f1, f2, f3, f4, f5⟩ := f
  have haC : C ≠ a := by
    rcases ha with z | z
    · rw [z]; exact f1
    · exact fun e => f4 y a z e.symm
  exact ⟨m, hn.sameBut sb haC, fun h3 sb3 => ⟨_, H', I2.turned (t' := s2.toks) (fun b o hb e => (sb3.2 b hb).trans e) f0 f1 f3 f4 f5, q⟩⟩
end

/-! ### a def -/
theorem env_start {P : Program} {w : World} {K : PySem.W.Frag} {H : Hp} {kd : Nat → Kd} {N : List Str} : ∀ {ms : List Bool} {vs : List V} {ds : List PyData}, Args ⟨P, w, K, H, fun _ => .val⟩ H ms vs ds → (∀ (i : Nat) b, ms[i]? = some b → kd i = (if b = true then .val else .bor)) → ms.length ≤ N.length → Env ⟨P, w, K, H, kd⟩ H (L2.start N vs) (Da.start N.length ds) := fun {ms vs ds} ha hk hn => by
  have hl : vs.length = ms.length := ha.length
  have hd : ds.length = ms.length := by
    clear hk hn hl
    induction ha with
    | nil => rfl
    | val p _ ih => rw [List.length_cons, List.length_cons, ih]
    | any p _ ih => rw [List.length_cons, List.length_cons, ih]
  have get : ∀ (i : Nat) (d : PyData), (Da.start N.length ds)[i]? = some (some d) → ds[i]? = some d := fun i d h => by
    unfold Da.start at h
    by_cases hi : i < ds.length
    · rw [List.getElem?_append_left (by simpa using hi), List.getElem?_map] at h
      cases e : ds[i]? with
      | none => rw [e] at h; cases h
      | some a => rw [e] at h; cases h; rfl
    · rw [List.getElem?_append_right (by simpa using hi), List.getElem?_replicate] at h
      split at h <;> cases h
  have item : ∀ (i : Nat) (d : PyData), ds[i]? = some d → ∃ v b, vs[i]? = some v ∧ ms[i]? = some b ∧ (if b = true then Rp K H v d else Tp ⟨P, w, K, H, kd⟩ H v d) := by
    clear hk hn hl hd get
    induction ha with
    | nil => intro i d h; simp at h
    | val p _ ih =>
      intro i d h
      cases i with
      | zero => simp at h; subst h; exact ⟨_, true, rfl, rfl, by simpa using p⟩
      | succ i => simpa using ih i d (by simpa using h)
    | any p _ ih =>
      intro i d h
      cases i with
      | zero => simp at h; subst h; exact ⟨_, false, rfl, rfl, by rw [if_neg (by decide)]; exact p⟩
      | succ i => simpa using ih i d (by simpa using h)
  have put : ∀ (i : Nat) (v : V), vs[i]? = some v → (L2.start N vs)[i]? = some (some v) := fun i v h => by
    unfold L2.start
    have hi := (List.getElem?_eq_some_iff.mp h).1
    rw [List.getElem?_append_left (by simpa using hi), List.getElem?_map, h]
    rfl
  refine ⟨Same.refl H, ?_, fun i d h k => ?_, fun i d h k => ?_, fun i d h k => ?_, fun i d h k => ?_, fun i j a d e h h' k k' => ?_⟩
  · unfold L2.start Da.start
    simp only [List.length_append, List.length_map, List.length_replicate]
    omega
  all_goals
    obtain ⟨v, b, h1, h2, h3⟩ := item i d (get i d h)
    have hki := hk i b h2
  · cases b with
    | true => exact ⟨v, put i v h1, by simpa using h3⟩
    | false => rw [show kd i = .val from k] at hki; cases hki
  · cases b with
    | true => rw [show kd i = .bor from k] at hki; cases hki
    | false => exact ⟨v, put i v h1, by simpa using h3⟩
  · rw [show kd i = .ownL from k] at hki
    cases b <;> cases hki
  · rw [show kd i = .ownD from k] at hki
    cases b <;> cases hki
  · have k0 : kd i = .ownL ∨ kd i = .ownD := k
    rw [hki] at k0
    cases b <;> rcases k0 with z | z <;> cases z
def kdOk (kd : Nat → Kd) : List Bool → Nat → Bool
  | [], _ => true
  | b :: bs, i => decide (kd i = if b = true then .val else .bor) && kdOk kd bs (i + 1)
theorem kdOk_at {kd : Nat → Kd} : ∀ {ms : List Bool} {j : Nat}, kdOk kd ms j = true → ∀ (i : Nat) (b : Bool), ms[i]? = some b → kd (j + i) = (if b = true then .val else .bor)
  | [], _, _, i, b, e => by simp at e
  | c :: bs, j, h, i, b, e => by
    unfold kdOk at h
    obtain ⟨h1, h2⟩ := Bool.and_eq_true_iff.mp h
    cases i with
    | zero => simp at e; subst e; simpa using of_decide_eq_true h1
    | succ i =>
      have := kdOk_at h2 i b (by simpa using e)
      rw [show j + (i + 1) = j + 1 + i by omega]
      exact this
theorem fnD_of {P : Program} {w : World} {K : PySem.W.Frag} {mg : Str → Option Value} {base : Heap} {k : Nat} {f : Addr} {fd : FuncData} {x qual : Str} {params : Arguments} {body : List Stmt} {scope : Scope} {dvs : List V} {kws : List (Str × V)} {N ps : List Str} {ms : List Bool} {kd : Nat → Kd} {m : Md} {b : Dst}
    (F : FunD K x qual params body scope dvs kws f fd) (S : FnScope N ps scope) (hl : ms.length = ps.length) (hn : ms.length ≤ N.length) (hk' : kdOk kd ms 0 = true) (hm : m ≠ .sta)
    (hbody : ∀ (cdv : Value) (A : Around) (outer : List PySem.Env) (s : Shared) (H : Hp) (E : XK), Room k (A.deeper (envOfC qual scope s.heap.objs.size f cdv)) → DSs ((cxOf CX0 P w K mg base N qual scope f cdv A outer s H E).nox) H kd m body b) :
    FnD P w K mg base (k + 1) f fd ps ms m (Da.runD ps.length N.length b) := by
  have hk : ∀ (i : Nat) b, ms[i]? = some b → kd i = (if b = true then .val else .bor) := fun i b e => by
    have := kdOk_at hk' i b e
    rw [Nat.zero_add] at this
    exact this
  refine F.ok S (fun vs H Q E h => ?_) (fun cdv A outer s H vs Q E hr h => ?_)
  · obtain ⟨ds, d, ha, _⟩ := h
    rw [ha.length, hl]
  · refine ⟨tS ⟨P, w, K, H, kd⟩ m b, PSs.nox ?_, ?_⟩
    · exact hbody cdv A outer s H E hr
    · obtain ⟨ds, d, ha, hg, hq⟩ := h
      unfold Da.runD at hg
      split at hg
      · obtain ⟨o, e1, e2⟩ := bind_some hg
        refine ⟨_, o, env_start ha hk hn, e1, ?_⟩
        cases o with
        | rt d' => cases e2; exact fun v H' s' _ q => hq v H' s' (q.re hm)
        | nx r => cases e2
        | bk r => cases e2
        | ct r => cases e2
      · cases hg
end Sk
set_option linter.all false
set_option maxRecDepth 100000
/-! LayX: what the walks want besides. -/
namespace Sk
open PySem PySem.Spec PyProof.Rows L2
open Da (Rho Dn Dts Dl Dst Out)
section
variable {X : Cx} {H0 : Hp} {kd : Nat → Kd} {a : Expr} {f : Dn} {pos : Pos}
theorem de_neg (p : DE X H0 kd .any a f) : DE X H0 kd .val (.UnaryOp .USub a pos) (Da.dU Da.gNeg f) := PE.imp (pe_un un_neg p) fun σ H Q ⟨r, d, env, ef, k⟩ => by
  obtain ⟨x, e1, e2⟩ := Option.bind_eq_some_iff.mp ef
  cases x <;> simp only [Da.gNeg, Option.some.injEq] at e2 <;> try cases e2
  refine ⟨r, _, env, e1, fun v H' s q => ?_⟩
  exact ⟨_, (show Tp (cx X H0 kd) H' v _ from q).int, k _ H' s (.num _)⟩
end
theorem hu40 {k : Nat} {A : Around} (hr : Room k A) : A.units + 40 < cLine := by
  have := hr.units
  omega
/-- all parameters are written, the last ones by keyword -/
theorem kbN {K : PySem.W.Frag} {x qual : Str} {params : Arguments} {body : List Stmt} {scope : Scope} {kws : List (Str × V)} {f : Addr} {fd : FuncData} {ps : List Str} (F : FunD K x qual params body scope [] kws f fd) (n : Nat) (ks : List Str)
    (h : ∀ (kV doc pm : Value) (an : Option Addr) (cdv ct : Value) (us ws : List Value), us.length = n → ws.length = ks.length → bindArgs (PySem.W.fnOf x qual params body scope .none kV doc pm an cdv ct) ⟨us, ks.zip ws⟩ = pure (ps.zip (us ++ ws))) :
    KBn K fd ps n ks (fun us ws => us ++ ws) (fun vs zs => vs ++ zs) := by
  obtain ⟨oc, od, dV, kV, doc, pm, an, cdv, ct, osl, rfl, lk, hcd, hD, hK⟩ := F.ex
  rcases hD with ⟨_, rfl⟩ | ⟨e, _⟩
  · exact ⟨fun s us ws _ l1 l2 => BindsTo.of_eq (h kV doc pm an cdv ct us ws l1 l2), fun r1 r2 => r1.append r2⟩
  · exact absurd rfl e
/-- where a def's keyword default stands -/
def kwA (f x : Str) (K : PySem.W.Frag) : Addr := match K.lookup (He.ga K f) with
  | some ⟨_, _, .func fd, _⟩ => (match fd.kwdefaults with
    | .ref D => (match PySem.W.nsIn K D x with
      | some (some (.ref b)) => b
      | _ => 0)
    | _ => 0)
  | _ => 0
end Sk
set_option linter.all false
set_option maxRecDepth 100000
/-! Gd: what each def does to data (printed by gen.py). -/
namespace Da
open PySem
/-- end_of: 0 sky, 1 look, 2 wish, 3 start, 4 length, 5 angle, 6 size -/
def b_end_of : Dst := (sSeq (sAsg (dB gIx (dB gIx (dVar 0) (dC (.int 0))) (dVar 1)) (.many [2, 3, 4, 5, 6]))
  (sRet (dB gAdd (dVar 3) (dVar 4))))
def g_end_of : List PyData → Option PyData := runD 2 7 b_end_of
/-- turning: 0 sky, 1 first, 2 second -/
def b_turning : Dst := (sRet (dU gNeg (dB gDiv (dU gNeg (dCall gAbs (aCons (dB gSub (dB gIx (dB gIx (dB gIx (dVar 0) (dC (.int 0))) (dVar 2)) (dC (.int 3))) (dB gIx (dB gIx (dB gIx (dVar 0) (dC (.int 0))) (dVar 1)) (dC (.int 3)))) aNil))) (dB gIx (dVar 0) (dC (.int 4))))))
def g_turning : List PyData → Option PyData := runD 3 3 b_turning
/-- loss: 0 ears, 1 since, 2 until, 3 found, 4 first, 5 last, 6 rate -/
def b_loss_1 : Dst := (sAug 3 (dB gMul (dVar 6) (dCall gMax2 (aCons (dC (.int 0)) (aCons (dB gSub (dCall gMin2 (aCons (dVar 2) (aCons (dVar 5) aNil))) (dCall gMax2 (aCons (dVar 1) (aCons (dVar 4) aNil)))) aNil)))))
def b_loss : Dst := (sSeq (sAsg (dC (.int 0)) (.one 3))
  (sSeq (sFor (.many [4, 5, 6]) [4, 5, 6] (itS (dVar 0)) b_loss_1)
  (sRet (dVar 3))))
def g_loss : List PyData → Option PyData := runD 3 7 b_loss
/-- emptied: 0 sky, 1 amount, 2 since, 3 until -/
def b_emptied : Dst := (sRet (dCall gMax2 (aCons (dC (.int 0)) (aCons (dB gSub (dVar 1) (dCall g_loss (aCons (dB gIx (dVar 0) (dC (.int 2))) (aCons (dVar 2) (aCons (dVar 3) aNil))))) aNil))))
def g_emptied : List PyData → Option PyData := runD 4 4 b_emptied
/-- follows: 0 sky, 1 first, 2 second -/
def b_follows : Dst := (sRet (dB gGe (dB gIx (dB gIx (dB gIx (dVar 0) (dC (.int 0))) (dVar 2)) (dC (.int 1))) (dB gAdd (dCall g_end_of (aCons (dVar 0) (aCons (dVar 1) aNil))) (dCall g_turning (aCons (dVar 0) (aCons (dVar 1) (aCons (dVar 2) aNil)))))))
def g_follows : List PyData → Option PyData := runD 3 3 b_follows
/-- stored_at: 0 sky, 1 look, 2 amount, 3 time -/
def b_stored_at : Dst := (sSeq (sIf (tV (dU gIsN (dVar 1))) (sRet (dC (.int 0))) sNext)
  (sRet (dCall g_emptied (aCat (aCons (dVar 0) (aCons (dVar 2) aNil)) (aCons (dCall g_end_of (aCons (dVar 0) (aCons (dVar 1) aNil))) (aCons (dVar 3) aNil))))))
def g_stored_at : List PyData → Option PyData := runD 4 4 b_stored_at
/-- level_behind: 0 sky, 1 last, 2 amount, 3 look, 4 wish, 5 start, 6 length, 7 angle, 8 size -/
def b_level_behind : Dst := (sSeq (sAsg (dB gIx (dB gIx (dVar 0) (dC (.int 0))) (dVar 3)) (.many [4, 5, 6, 7, 8]))
  (sSeq (sIf (tV (dB gGt (dB gAdd (dCall g_stored_at (aCons (dVar 0) (aCons (dVar 1) (aCons (dVar 2) (aCons (dVar 5) aNil))))) (dVar 8)) (dB gIx (dVar 0) (dC (.int 3))))) (sRet (dC .none)) sNext)
  (sRet (dB gAdd (dCall g_stored_at (aCons (dVar 0) (aCons (dVar 1) (aCons (dVar 2) (aCons (dB gAdd (dVar 5) (dVar 6)) aNil))))) (dVar 8)))))
def g_level_behind : List PyData → Option PyData := runD 4 9 b_level_behind
/-- wrong_in: 0 sky, 1 names, 2 last, 3 amount, 4 seen, 5 place, 6 look -/
def b_wrong_in_1 : Dst := (sSeq (sIf (tAnd (tV (dU gNotN (dVar 2))) (tV (dB gLe (dVar 6) (dVar 2)))) (sRet (dTup (aCons (dC (.str (PySem.Str.ofString "order"))) (aCons (dVar 5) aNil)))) sNext)
  (sSeq (sIf (tV (dB gIn (dB gIx (dB gIx (dB gIx (dVar 0) (dC (.int 0))) (dVar 6)) (dC (.int 0))) (dVar 4))) (sRet (dTup (aCons (dC (.str (PySem.Str.ofString "wish"))) (aCons (dVar 5) aNil)))) sNext)
  (sSeq (sIf (tAnd (tV (dU gNotN (dVar 2))) (tNot (tV (dCall g_follows (aCons (dVar 0) (aCons (dVar 2) (aCons (dVar 6) aNil))))))) (sRet (dTup (aCons (dC (.str (PySem.Str.ofString "turning"))) (aCons (dVar 5) aNil)))) sNext)
  (sSeq (sAsg (dCall g_level_behind (aCons (dVar 0) (aCons (dVar 2) (aCons (dVar 3) (aCons (dVar 6) aNil))))) (.one 3))
  (sSeq (sIf (tV (dU gIsN (dVar 3))) (sRet (dTup (aCons (dC (.str (PySem.Str.ofString "room"))) (aCons (dVar 5) aNil)))) sNext)
  (sSeq (sApp 4 (dB gIx (dB gIx (dB gIx (dVar 0) (dC (.int 0))) (dVar 6)) (dC (.int 0))))
  (sAsg (dVar 6) (.one 2))))))))
def b_wrong_in : Dst := (sSeq (sAsg (dC .none) (.one 2))
  (sSeq (sAsg (dC (.int 0)) (.one 3))
  (sSeq (sAsg (dLst aNil) (.one 4))
  (sSeq (sFor (.many [5, 6]) [5, 6] (itEnum (dVar 1)) b_wrong_in_1)
  (sRet (dC .none))))))
def g_wrong_in : List PyData → Option PyData := runD 2 7 b_wrong_in
/-- is_plan: 0 sky, 1 names -/
def b_is_plan : Dst := (sRet (dU gIsN (dCall g_wrong_in (aCons (dVar 0) (aCons (dVar 1) aNil)))))
def g_is_plan : List PyData → Option PyData := runD 2 2 b_is_plan
/-- worth_of: 0 sky, 1 names, 2 wishes, 3 look, 4 wish -/
def b_worth_of_1 : Dst := (sIf (tV (dB gNotIn (dB gIx (dB gIx (dB gIx (dVar 0) (dC (.int 0))) (dVar 3)) (dC (.int 0))) (dVar 2))) (sApp 2 (dB gIx (dB gIx (dB gIx (dVar 0) (dC (.int 0))) (dVar 3)) (dC (.int 0)))) sNext)
def b_worth_of : Dst := (sSeq (sAsg (dLst aNil) (.one 2))
  (sSeq (sFor (.one 3) [3] (itS (dVar 1)) b_worth_of_1)
  (sRet (dCall gSum (aCons (dComp (.one 4) [4] (itO (dVar 2)) yes (dB gIx (dB gIx (dVar 0) (dC (.int 1))) (dVar 4))) aNil)))))
def g_worth_of : List PyData → Option PyData := runD 2 5 b_worth_of
/-- without_ears: 0 sky, 1 names, 2 looks, 3 worths, 4 ears, 5 capacity, 6 turn, 7 left, 8 name -/
def b_without_ears : Dst := (sSeq (sAsg (dVar 0) (.many [2, 3, 4, 5, 6]))
  (sSeq (sAsg (dComp (.one 8) [8] (itRng1 (dCall gLen (aCons (dVar 4) aNil))) (tV (dB gNotIn (dVar 8) (dVar 1))) (dB gIx (dVar 4) (dVar 8))) (.one 7))
  (sRet (dTup (aCons (dCall gToL (aCons (dVar 2) aNil)) (aCons (dCall gToL (aCons (dVar 3) aNil)) (aCons (dVar 7) (aCons (dVar 5) (aCons (dVar 6) aNil)))))))))
def g_without_ears : List PyData → Option PyData := runD 2 9 b_without_ears
/-- ways_of: 0 names, 1 failed, 2 most, 3 found, 4 name, 5 one -/
def b_ways_of_1 : Dst := (sAsg (dB gCatL (dVar 3) (dComp (.one 5) [5] (itS (dVar 3)) yes (dB gCatT (dVar 5) (dTup (aCons (dVar 4) aNil))))) (.one 3))
def b_ways_of : Dst := (sSeq (sAsg (dLst (aCons (dCall gToT (aCons (dVar 1) aNil)) aNil)) (.one 3))
  (sSeq (sFor (.one 4) [4] (itS (dVar 0)) b_ways_of_1)
  (sRet (dCall (gSorted false) (aCons (dComp (.one 5) [5] (itS (dVar 3)) (tV (dB gLe (dCall gLen (aCons (dVar 5) aNil)) (dVar 2))) (dVar 5)) aNil)))))
def g_ways_of : List PyData → Option PyData := runD 3 6 b_ways_of
/-- begun_between: 0 sky, 1 since, 2 until, 3 name -/
def b_begun_between : Dst := (sRet (dComp (.one 3) [3] (itRng1 (dCall gLen (aCons (dB gIx (dVar 0) (dC (.int 2))) aNil))) (tV (dChain gLt gLe (dVar 1) (dB gIx (dB gIx (dB gIx (dVar 0) (dC (.int 2))) (dVar 3)) (dC (.int 0))) (dVar 2))) (dVar 3)))
def g_begun_between : List PyData → Option PyData := runD 3 4 b_begun_between
/-- first_states: 0 sky, 1 most, 2 names, 3 failed -/
def b_first_states : Dst := (sSeq (sIf (tNot (tTr (dB gIx (dVar 0) (dC (.int 0))))) (sRet (dLst aNil)) sNext)
  (sSeq (sAsg (dCall g_begun_between (aCons (dVar 0) (aCons (dU gNeg (dC (.int 1))) (aCons (dB gIx (dB gIx (dB gIx (dVar 0) (dC (.int 0))) (dC (.int 0))) (dC (.int 1))) aNil)))) (.one 2))
  (sRet (dComp (.one 3) [3] (itS (dCall g_ways_of (aCons (dVar 2) (aCons (dTup aNil) (aCons (dVar 1) aNil))))) yes (dTup (aCons (dC (.int 0)) (aCons (dU gNeg (dC (.int 1))) (aCons (dC (.int 0)) (aCons (dTup aNil) (aCons (dVar 3) aNil))))))))))
def g_first_states : List PyData → Option PyData := runD 2 4 b_first_states
/-- may_take: 0 sky, 1 state, 2 look, 3 last, 4 amount, 5 wishes, 6 failed, 7 wish, 8 start, 9 length, 10 angle, 11 size -/
def b_may_take : Dst := (sSeq (sAsg (dVar 1) (.many [2, 3, 4, 5, 6]))
  (sSeq (sAsg (dB gIx (dB gIx (dVar 0) (dC (.int 0))) (dVar 2)) (.many [7, 8, 9, 10, 11]))
  (sSeq (sIf (tOr (tV (dB gIn (dVar 7) (dVar 5))) (tV (dB gGt (dB gAdd (dVar 4) (dVar 11)) (dB gIx (dVar 0) (dC (.int 3)))))) (sRet (dC (.bool false))) sNext)
  (sRet (dOr (dB gLt (dVar 3) (dC (.int 0))) (dB gLe (dB gAdd (dCall g_end_of (aCons (dVar 0) (aCons (dVar 3) aNil))) (dCall g_turning (aCons (dVar 0) (aCons (dVar 3) (aCons (dVar 2) aNil))))) (dVar 8)))))))
def g_may_take : List PyData → Option PyData := runD 2 12 b_may_take
/-- moves_of: 0 sky, 1 state -/
def b_moves_of : Dst := (sSeq (sIf (tV (dCall g_may_take (aCons (dVar 0) (aCons (dVar 1) aNil)))) (sRet (dLst (aCons (dC (.str (PySem.Str.ofString "leave"))) (aCons (dC (.str (PySem.Str.ofString "take"))) aNil)))) sNext)
  (sRet (dLst (aCons (dC (.str (PySem.Str.ofString "leave"))) aNil))))
def g_moves_of : List PyData → Option PyData := runD 2 2 b_moves_of
/-- gain_of: 0 sky, 1 state, 2 move -/
def b_gain_of : Dst := (sSeq (sIf (tV (dB gEq (dVar 2) (dC (.str (PySem.Str.ofString "take"))))) (sRet (dB gIx (dB gIx (dVar 0) (dC (.int 1))) (dB gIx (dB gIx (dB gIx (dVar 0) (dC (.int 0))) (dB gIx (dVar 1) (dC (.int 0)))) (dC (.int 0))))) sNext)
  (sRet (dC (.int 0))))
def g_gain_of : List PyData → Option PyData := runD 3 3 b_gain_of
/-- amount_behind: 0 sky, 1 amount, 2 last, 3 since, 4 until, 5 end -/
def b_amount_behind : Dst := (sSeq (sIf (tAnd (tV (dB gGe (dVar 2) (dC (.int 0)))) (tV (dChain gLt gLe (dVar 3) (dCall g_end_of (aCons (dVar 0) (aCons (dVar 2) aNil))) (dVar 4)))) (sSeq (sAsg (dCall g_end_of (aCons (dVar 0) (aCons (dVar 2) aNil))) (.one 5))
  (sSeq (sAsg (dB gAdd (dCall g_emptied (aCat (aCons (dVar 0) (aCons (dVar 1) aNil)) (aCons (dVar 3) (aCons (dVar 5) aNil)))) (dB gIx (dB gIx (dB gIx (dVar 0) (dC (.int 0))) (dVar 2)) (dC (.int 4)))) (.one 1))
  (sAsg (dVar 5) (.one 3)))) sNext)
  (sRet (dCall g_emptied (aCat (aCons (dVar 0) (aCons (dVar 1) aNil)) (aCons (dVar 3) (aCons (dVar 4) aNil))))))
def g_amount_behind : List PyData → Option PyData := runD 5 6 b_amount_behind
/-- states_behind: 0 sky, 1 state, 2 move, 3 most, 4 look, 5 last, 6 amount, 7 wishes, 8 failed, 9 since, 10 until, 11 found, 12 fates, 13 there -/
def b_states_behind_1 : Dst := (sSeq (sAsg (dCall g_amount_behind (aCons (dCall g_without_ears (aCons (dVar 0) (aCons (dVar 12) aNil))) (aCons (dVar 6) (aCons (dVar 5) (aCons (dVar 9) (aCons (dVar 10) aNil)))))) (.one 13))
  (sApp 11 (dTup (aCons (dB gAdd (dVar 4) (dC (.int 1))) (aCons (dVar 5) (aCons (dVar 13) (aCons (dVar 7) (aCons (dVar 12) aNil))))))))
def b_states_behind : Dst := (sSeq (sAsg (dVar 1) (.many [4, 5, 6, 7, 8]))
  (sSeq (sIf (tV (dB gEq (dB gAdd (dVar 4) (dC (.int 1))) (dCall gLen (aCons (dB gIx (dVar 0) (dC (.int 0))) aNil)))) (sRet (dLst aNil)) sNext)
  (sSeq (sIf (tV (dB gEq (dVar 2) (dC (.str (PySem.Str.ofString "take"))))) (sSeq (sAsg (dVar 4) (.one 5))
  (sAsg (dCall gToT (aCons (dCall (gSorted false) (aCons (dB gCatT (dVar 7) (dTup (aCons (dB gIx (dB gIx (dB gIx (dVar 0) (dC (.int 0))) (dVar 4)) (dC (.int 0))) aNil))) aNil)) aNil)) (.one 7))) sNext)
  (sSeq (sPar 9 10 (dB gIx (dB gIx (dB gIx (dVar 0) (dC (.int 0))) (dVar 4)) (dC (.int 1))) (dB gIx (dB gIx (dB gIx (dVar 0) (dC (.int 0))) (dB gAdd (dVar 4) (dC (.int 1)))) (dC (.int 1))))
  (sSeq (sAsg (dLst aNil) (.one 11))
  (sSeq (sFor (.one 12) [12, 13] (itS (dCall g_ways_of (aCons (dCall g_begun_between (aCons (dVar 0) (aCons (dVar 9) (aCons (dVar 10) aNil)))) (aCons (dVar 8) (aCons (dVar 3) aNil))))) b_states_behind_1)
  (sRet (dCall (gSorted false) (aCons (dVar 11) aNil)))))))))
def g_states_behind : List PyData → Option PyData := runD 4 14 b_states_behind
/-- reached: 0 sky, 1 most, 2 waiting, 3 found, 4 state, 5 move, 6 behind -/
def b_reached_1 : Dst := (sIf (tV (dB gDNotIn (dVar 6) (dVar 3))) (sSeq (sSetD 3 (dVar 6) (dC (.bool true)))
  (sApp 2 (dVar 6))) sNext)
def b_reached_2 : Dst := (sFor (.one 6) [6] (itS (dCall g_states_behind (aCat (aCons (dVar 0) (aCons (dVar 4) (aCons (dVar 5) aNil))) (aCons (dVar 1) aNil)))) b_reached_1)
def b_reached_3 : Dst := (sSeq (sPop 2 4)
  (sFor (.one 5) [5, 6] (itS (dCall g_moves_of (aCons (dVar 0) (aCons (dVar 4) aNil)))) b_reached_2))
def b_reached : Dst := (sSeq (sAsg (dCall g_first_states (aCat (aCons (dVar 0) aNil) (aCons (dVar 1) aNil))) (.one 2))
  (sSeq (sAsg (dDict (itO (dVar 2)) (.bool true)) (.one 3))
  (sSeq (sWhile (tTr (dVar 2)) [4, 5, 6] b_reached_3)
  (sRet (dCall (gSorted false) (aCons (dVar 3) aNil))))))
def g_reached : List PyData → Option PyData := runD 2 7 b_reached
/-- sure_by: 0 sky, 1 state, 2 move, 3 numbers, 4 most, 5 behind, 6 one -/
def b_sure_by : Dst := (sSeq (sAsg (dComp (.one 6) [6] (itS (dCall g_states_behind (aCat (aCons (dVar 0) (aCons (dVar 1) (aCons (dVar 2) aNil))) (aCons (dVar 4) aNil)))) yes (dB gDGet (dVar 3) (dVar 6))) (.one 5))
  (sRet (dB gAdd (dCall g_gain_of (aCons (dVar 0) (aCons (dVar 1) (aCons (dVar 2) aNil)))) (dCall gMin0 (aCons (dVar 5) aNil)))))
def g_sure_by : List PyData → Option PyData := runD 5 7 b_sure_by
/-- sure_numbers: 0 sky, 1 most, 2 numbers, 3 state, 4 move -/
def b_sure_numbers_1 : Dst := (sSetD 2 (dVar 3) (dCall gMax (aCons (dComp (.one 4) [4] (itS (dCall g_moves_of (aCons (dVar 0) (aCons (dVar 3) aNil)))) yes (dCall g_sure_by (aCons (dVar 0) (aCons (dVar 3) (aCons (dVar 4) (aCons (dVar 2) (aCons (dVar 1) aNil))))))) aNil)))
def b_sure_numbers : Dst := (sSeq (sAsg (dC (.dict [])) (.one 2))
  (sSeq (sFor (.one 3) [3] (itRev (dCall g_reached (aCons (dVar 0) (aCons (dVar 1) aNil)))) b_sure_numbers_1)
  (sRet (dVar 2))))
def g_sure_numbers : List PyData → Option PyData := runD 2 5 b_sure_numbers
/-- sure_worth: 0 sky, 1 most, 2 numbers, 3 state -/
def b_sure_worth : Dst := (sSeq (sAsg (dCall g_sure_numbers (aCons (dVar 0) (aCons (dVar 1) aNil))) (.one 2))
  (sRet (dCall gMin0 (aCons (dComp (.one 3) [3] (itS (dCall g_first_states (aCat (aCons (dVar 0) aNil) (aCons (dVar 1) aNil)))) yes (dB gDGet (dVar 2) (dVar 3))) aNil))))
def g_sure_worth : List PyData → Option PyData := runD 2 4 b_sure_worth
/-- sure_rule: 0 sky, 1 most, 2 numbers, 3 rule, 4 state, 5 move -/
def b_sure_rule_1 : Dst := (sSeq (sAsg (dC (.str (PySem.Str.ofString "leave"))) (.one 5))
  (sSeq (sIf (tAnd (tV (dCall g_may_take (aCons (dVar 0) (aCons (dVar 4) aNil)))) (tV (dB gEq (dCall g_sure_by (aCons (dVar 0) (aCons (dVar 4) (aCons (dC (.str (PySem.Str.ofString "take"))) (aCons (dVar 2) (aCons (dVar 1) aNil)))))) (dB gDGet (dVar 2) (dVar 4))))) (sAsg (dC (.str (PySem.Str.ofString "take"))) (.one 5)) sNext)
  (sApp 3 (dTup (aCons (dVar 4) (aCons (dVar 5) aNil))))))
def b_sure_rule : Dst := (sSeq (sAsg (dCall g_sure_numbers (aCons (dVar 0) (aCons (dVar 1) aNil))) (.one 2))
  (sSeq (sAsg (dLst aNil) (.one 3))
  (sSeq (sFor (.one 4) [4, 5] (itS (dCall (gSorted false) (aCons (dVar 2) aNil))) b_sure_rule_1)
  (sRet (dVar 3)))))
def g_sure_rule : List PyData → Option PyData := runD 2 6 b_sure_rule
/-- taken_by: 0 sky, 1 rule, 2 failing, 3 moves, 4 state, 5 move, 6 taken, 7 states, 8 now, 9 fates, 10 name, 11 one -/
def b_taken_by_1 : Dst := (sSetDef 3 (dVar 4) (dVar 5))
def b_taken_by_2 : Dst := (sSeq (sAsg (dB gIx (dB gIx (dB gIx (dVar 0) (dC (.int 0))) (dB gIx (dB gIx (dVar 7) (dC (.int 0))) (dC (.int 0)))) (dC (.int 1))) (.one 8))
  (sSeq (sAsg (dCall gToT (aCons (dComp (.one 10) [10] (itRng1 (dCall gLen (aCons (dB gIx (dVar 0) (dC (.int 2))) aNil))) (tAnd (tV (dB gIn (dVar 10) (dVar 2))) (tV (dB gLe (dB gIx (dB gIx (dB gIx (dVar 0) (dC (.int 2))) (dVar 10)) (dC (.int 0))) (dVar 8)))) (dVar 10)) aNil)) (.one 9))
  (sSeq (sAsg (dB gIx (dComp (.one 11) [11] (itS (dVar 7)) (tV (dB gEq (dB gIx (dVar 11) (dC (.int 4))) (dVar 9))) (dVar 11)) (dC (.int 0))) (.one 4))
  (sSeq (sAsg (dC (.str (PySem.Str.ofString "leave"))) (.one 5))
  (sSeq (sIf (tAnd (tV (dB gEq (dB gDGetN (dVar 3) (dVar 4)) (dC (.str (PySem.Str.ofString "take"))))) (tV (dCall g_may_take (aCons (dVar 0) (aCons (dVar 4) aNil))))) (sSeq (sAsg (dC (.str (PySem.Str.ofString "take"))) (.one 5))
  (sApp 6 (dB gIx (dVar 4) (dC (.int 0))))) sNext)
  (sAsg (dCall g_states_behind (aCat (aCons (dVar 0) (aCons (dVar 4) (aCons (dVar 5) aNil))) (aCons (dCall gLen (aCons (dB gIx (dVar 0) (dC (.int 2))) aNil)) aNil))) (.one 7)))))))
def b_taken_by : Dst := (sSeq (sAsg (dC (.dict [])) (.one 3))
  (sSeq (sFor (.many [4, 5]) [4, 5] (itS (dVar 1)) b_taken_by_1)
  (sSeq (sPar 6 7 (dLst aNil) (dCall g_first_states (aCat (aCons (dVar 0) aNil) (aCons (dCall gLen (aCons (dB gIx (dVar 0) (dC (.int 2))) aNil)) aNil))))
  (sSeq (sWhile (tTr (dVar 7)) [8, 9, 4, 5] b_taken_by_2)
  (sRet (dVar 6))))))
def g_taken_by : List PyData → Option PyData := runD 3 12 b_taken_by
/-- number: 0 n, 1 d, 2 common -/
def b_number : Dst := (sSeq (sAsg (dCall gGcd (aCons (dVar 0) (aCons (dVar 1) aNil))) (.one 2))
  (sRet (dTup (aCons (dB gDiv (dVar 0) (dVar 2)) (aCons (dB gDiv (dVar 1) (dVar 2)) aNil)))))
def g_number : List PyData → Option PyData := runD 2 3 b_number
/-- plus: 0 x, 1 y -/
def b_plus : Dst := (sRet (dCall g_number (aCons (dB gAdd (dB gMul (dB gIx (dVar 0) (dC (.int 0))) (dB gIx (dVar 1) (dC (.int 1)))) (dB gMul (dB gIx (dVar 1) (dC (.int 0))) (dB gIx (dVar 0) (dC (.int 1))))) (aCons (dB gMul (dB gIx (dVar 0) (dC (.int 1))) (dB gIx (dVar 1) (dC (.int 1)))) aNil))))
def g_plus : List PyData → Option PyData := runD 2 2 b_plus
/-- times: 0 x, 1 y -/
def b_times : Dst := (sRet (dCall g_number (aCons (dB gMul (dB gIx (dVar 0) (dC (.int 0))) (dB gIx (dVar 1) (dC (.int 0)))) (aCons (dB gMul (dB gIx (dVar 0) (dC (.int 1))) (dB gIx (dVar 1) (dC (.int 1)))) aNil))))
def g_times : List PyData → Option PyData := runD 2 2 b_times
/-- is_less: 0 x, 1 y -/
def b_is_less : Dst := (sRet (dB gLt (dB gMul (dB gIx (dVar 0) (dC (.int 0))) (dB gIx (dVar 1) (dC (.int 1)))) (dB gMul (dB gIx (dVar 1) (dC (.int 0))) (dB gIx (dVar 0) (dC (.int 1))))))
def g_is_less : List PyData → Option PyData := runD 2 2 b_is_less
/-- chance_among: 0 chances, 1 names, 2 failing, 3 found, 4 name, 5 n, 6 d -/
def b_chance_among_1 : Dst := (sSeq (sAsg (dB gIx (dVar 0) (dVar 4)) (.many [5, 6]))
  (sSeq (sIf (tV (dB gNotIn (dVar 4) (dVar 2))) (sAsg (dB gSub (dVar 6) (dVar 5)) (.one 5)) sNext)
  (sAsg (dCall g_times (aCons (dVar 3) (aCons (dTup (aCons (dVar 5) (aCons (dVar 6) aNil))) aNil))) (.one 3))))
def b_chance_among : Dst := (sSeq (sAsg (dC (.tuple [.int 1, .int 1])) (.one 3))
  (sSeq (sFor (.one 4) [4, 5, 6] (itS (dVar 1)) b_chance_among_1)
  (sRet (dVar 3))))
def g_chance_among : List PyData → Option PyData := runD 3 7 b_chance_among
/-- first_chances: 0 sky, 1 chances, 2 found, 3 state, 4 chance -/
def b_first_chances_1 : Dst := (sSeq (sAsg (dCall g_chance_among (aCons (dVar 1) (aCons (dCall g_begun_between (aCons (dVar 0) (aCons (dU gNeg (dC (.int 1))) (aCons (dB gIx (dB gIx (dB gIx (dVar 0) (dC (.int 0))) (dC (.int 0))) (dC (.int 1))) aNil)))) (aCons (dB gIx (dVar 3) (dC (.int 4))) aNil)))) (.one 4))
  (sIf (tV (dB gNe (dVar 4) (dC (.tuple [.int 0, .int 1])))) (sApp 2 (dTup (aCons (dVar 3) (aCons (dVar 4) aNil)))) sNext))
def b_first_chances : Dst := (sSeq (sAsg (dLst aNil) (.one 2))
  (sSeq (sFor (.one 3) [3, 4] (itS (dCall g_first_states (aCat (aCons (dVar 0) aNil) (aCons (dCall gLen (aCons (dVar 1) aNil)) aNil)))) b_first_chances_1)
  (sRet (dVar 2))))
def g_first_chances : List PyData → Option PyData := runD 2 5 b_first_chances
/-- chances_behind: 0 sky, 1 chances, 2 state, 3 move, 4 found, 5 behind, 6 names, 7 chance -/
def b_chances_behind_1 : Dst := (sSeq (sAsg (dCall g_begun_between (aCons (dVar 0) (aCons (dB gIx (dB gIx (dB gIx (dVar 0) (dC (.int 0))) (dB gIx (dVar 2) (dC (.int 0)))) (dC (.int 1))) (aCons (dB gIx (dB gIx (dB gIx (dVar 0) (dC (.int 0))) (dB gIx (dVar 5) (dC (.int 0)))) (dC (.int 1))) aNil)))) (.one 6))
  (sSeq (sAsg (dCall g_chance_among (aCons (dVar 1) (aCons (dVar 6) (aCons (dB gIx (dVar 5) (dC (.int 4))) aNil)))) (.one 7))
  (sIf (tV (dB gNe (dVar 7) (dC (.tuple [.int 0, .int 1])))) (sApp 4 (dTup (aCons (dVar 5) (aCons (dVar 7) aNil)))) sNext)))
def b_chances_behind : Dst := (sSeq (sAsg (dLst aNil) (.one 4))
  (sSeq (sFor (.one 5) [5, 6, 7] (itS (dCall g_states_behind (aCat (aCons (dVar 0) (aCons (dVar 2) (aCons (dVar 3) aNil))) (aCons (dCall gLen (aCons (dVar 1) aNil)) aNil)))) b_chances_behind_1)
  (sRet (dVar 4))))
def g_chances_behind : List PyData → Option PyData := runD 4 8 b_chances_behind
/-- mean_over: 0 rows, 1 numbers, 2 found, 3 state, 4 chance -/
def b_mean_over_1 : Dst := (sAsg (dCall g_plus (aCons (dVar 2) (aCons (dCall g_times (aCons (dVar 4) (aCons (dB gDGet (dVar 1) (dVar 3)) aNil))) aNil))) (.one 2))
def b_mean_over : Dst := (sSeq (sAsg (dC (.tuple [.int 0, .int 1])) (.one 2))
  (sSeq (sFor (.many [3, 4]) [3, 4] (itS (dVar 0)) b_mean_over_1)
  (sRet (dVar 2))))
def g_mean_over : List PyData → Option PyData := runD 2 5 b_mean_over
/-- mean_by: 0 sky, 1 chances, 2 state, 3 move, 4 numbers -/
def b_mean_by : Dst := (sRet (dCall g_plus (aCons (dTup (aCons (dCall g_gain_of (aCons (dVar 0) (aCons (dVar 2) (aCons (dVar 3) aNil)))) (aCons (dC (.int 1)) aNil))) (aCons (dCall g_mean_over (aCons (dCall g_chances_behind (aCons (dVar 0) (aCons (dVar 1) (aCons (dVar 2) (aCons (dVar 3) aNil))))) (aCons (dVar 4) aNil))) aNil))))
def g_mean_by : List PyData → Option PyData := runD 5 5 b_mean_by
/-- mean_numbers: 0 sky, 1 chances, 2 waiting, 3 found, 4 state, 5 move, 6 behind, 7 chance, 8 numbers, 9 best, 10 told -/
def b_mean_numbers_1 : Dst := (sIf (tV (dB gDNotIn (dVar 6) (dVar 3))) (sSeq (sSetD 3 (dVar 6) (dC (.bool true)))
  (sApp 2 (dVar 6))) sNext)
def b_mean_numbers_2 : Dst := (sFor (.many [6, 7]) [6, 7] (itS (dCall g_chances_behind (aCons (dVar 0) (aCons (dVar 1) (aCons (dVar 4) (aCons (dVar 5) aNil)))))) b_mean_numbers_1)
def b_mean_numbers_3 : Dst := (sSeq (sPop 2 4)
  (sFor (.one 5) [5, 6, 7] (itS (dCall g_moves_of (aCons (dVar 0) (aCons (dVar 4) aNil)))) b_mean_numbers_2))
def b_mean_numbers_4 : Dst := (sSeq (sAsg (dCall g_mean_by (aCons (dVar 0) (aCons (dVar 1) (aCons (dVar 4) (aCons (dVar 5) (aCons (dVar 8) aNil)))))) (.one 10))
  (sIf (tV (dCall g_is_less (aCons (dVar 9) (aCons (dVar 10) aNil)))) (sAsg (dVar 10) (.one 9)) sNext))
def b_mean_numbers_5 : Dst := (sSeq (sAsg (dC (.tuple [.int 0, .int 1])) (.one 9))
  (sSeq (sFor (.one 5) [5, 10] (itS (dCall g_moves_of (aCons (dVar 0) (aCons (dVar 4) aNil)))) b_mean_numbers_4)
  (sSetD 8 (dVar 4) (dVar 9))))
def b_mean_numbers : Dst := (sSeq (sAsg (dComp (.many [4, 7]) [4, 7] (itS (dCall g_first_chances (aCons (dVar 0) (aCons (dVar 1) aNil)))) yes (dVar 4)) (.one 2))
  (sSeq (sAsg (dDict (itO (dVar 2)) (.bool true)) (.one 3))
  (sSeq (sWhile (tTr (dVar 2)) [4, 5, 6, 7] b_mean_numbers_3)
  (sSeq (sAsg (dC (.dict [])) (.one 8))
  (sSeq (sFor (.one 4) [4, 9, 5, 10] (itS (dCall (gSorted true) (aCons (dVar 3) aNil))) b_mean_numbers_5)
  (sRet (dVar 8)))))))
def g_mean_numbers : List PyData → Option PyData := runD 2 11 b_mean_numbers
/-- mean_worth: 0 sky, 1 chances -/
def b_mean_worth : Dst := (sRet (dCall g_mean_over (aCons (dCall g_first_chances (aCons (dVar 0) (aCons (dVar 1) aNil))) (aCons (dCall g_mean_numbers (aCons (dVar 0) (aCons (dVar 1) aNil))) aNil))))
def g_mean_worth : List PyData → Option PyData := runD 2 2 b_mean_worth
/-- plans_on: 0 sky, 1 now, 2 begun, 3 found, 4 at, 5 plan, 6 first, 7 look -/
def b_plans_on_1 : Dst := (sIf (tAnd (tV (dB gGe (dB gIx (dB gIx (dB gIx (dVar 0) (dC (.int 0))) (dVar 7)) (dC (.int 1))) (dVar 1))) (tV (dCall g_is_plan (aCons (dVar 0) (aCons (dB gCatL (dVar 5) (dLst (aCons (dVar 7) aNil))) aNil))))) (sApp 3 (dB gCatL (dVar 5) (dLst (aCons (dVar 7) aNil)))) sNext)
def b_plans_on_2 : Dst := (sSeq (sPar 5 6 (dB gIx (dVar 3) (dVar 4)) (dC (.int 0)))
  (sSeq (sAug 4 (dC (.int 1)))
  (sSeq (sIf (tTr (dVar 5)) (sAsg (dB gAdd (dB gIx (dVar 5) (dU gNeg (dC (.int 1)))) (dC (.int 1))) (.one 6)) sNext)
  (sFor (.one 7) [7] (itRng2 (dVar 6) (dCall gLen (aCons (dB gIx (dVar 0) (dC (.int 0))) aNil))) b_plans_on_1))))
def b_plans_on : Dst := (sSeq (sPar 3 4 (dLst (aCons (dCall gToL (aCons (dVar 2) aNil)) aNil)) (dC (.int 0)))
  (sSeq (sWhile (tV (dB gLt (dVar 4) (dCall gLen (aCons (dVar 3) aNil)))) [5, 6, 7] b_plans_on_2)
  (sRet (dCall (gSorted false) (aCons (dVar 3) aNil)))))
def g_plans_on : List PyData → Option PyData := runD 3 8 b_plans_on
/-- keeps: 0 sky, 1 plan, 2 promises, 3 wishes, 4 look, 5 wish -/
def b_keeps : Dst := (sSeq (sAsg (dComp (.one 4) [4] (itS (dVar 1)) yes (dB gIx (dB gIx (dB gIx (dVar 0) (dC (.int 0))) (dVar 4)) (dC (.int 0)))) (.one 3))
  (sRet (dCall gAll (aCons (dComp (.one 5) [5] (itS (dVar 2)) yes (dB gIn (dVar 5) (dVar 3))) aNil))))
def g_keeps : List PyData → Option PyData := runD 3 6 b_keeps
/-- keeping: 0 sky, 1 promises, 2 now, 3 begun, 4 plan -/
def b_keeping : Dst := (sRet (dComp (.one 4) [4] (itS (dCall g_plans_on (aCat (aCons (dVar 0) aNil) (aCons (dVar 2) (aCons (dVar 3) aNil))))) (tV (dCall g_keeps (aCons (dVar 0) (aCons (dVar 4) (aCons (dVar 1) aNil))))) (dVar 4)))
def g_keeping : List PyData → Option PyData := runD 4 5 b_keeping
/-- can_keep: 0 sky, 1 promises, 2 now, 3 begun -/
def b_can_keep : Dst := (sRet (dB gGt (dCall gLen (aCons (dCall g_keeping (aCons (dVar 0) (aCons (dVar 1) (aCons (dVar 2) (aCons (dVar 3) aNil))))) aNil)) (dC (.int 0))))
def g_can_keep : List PyData → Option PyData := runD 4 4 b_can_keep
/-- best_keeping: 0 sky, 1 promises, 2 now, 3 begun, 4 best, 5 plan, 6 worth -/
def b_best_keeping_1 : Dst := (sSeq (sAsg (dCall g_worth_of (aCons (dVar 0) (aCons (dVar 5) aNil))) (.one 6))
  (sIf (tOr (tV (dU gIsN (dVar 4))) (tV (dB gGt (dVar 6) (dB gIx (dVar 4) (dC (.int 0)))))) (sAsg (dTup (aCons (dVar 6) (aCons (dVar 5) aNil))) (.one 4)) sNext))
def b_best_keeping : Dst := (sSeq (sAsg (dC .none) (.one 4))
  (sSeq (sFor (.one 5) [5, 6] (itS (dCall g_keeping (aCons (dVar 0) (aCons (dVar 1) (aCons (dVar 2) (aCons (dVar 3) aNil)))))) b_best_keeping_1)
  (sRet (dVar 4))))
def g_best_keeping : List PyData → Option PyData := runD 4 7 b_best_keeping
/-- _law_draws: 0 _law_script, 1 _law_count, 2 _law_rests, 3 _law_draws_here, 4 _law_k, 5 _law_value, 6 _law_at, 7 _law_mixed, 8 _law_cell -/
def b__law_draws_1 : Dst := (sSeq (sAsg (dC (.int 0)) (.one 5))
  (sSeq (sIf (tV (dB gGt (dCall gLen (aCons (dVar 2) aNil)) (dC (.int 0)))) (sSeq (sAsg (dB gMod (dCall gInt (aCons (dVar 4) aNil)) (dCall gLen (aCons (dVar 2) aNil))) (.one 6))
  (sIf (tV (dB gGe (dB gIx (dVar 2) (dVar 6)) (dB gPow (dC (.int 10)) (dC (.int 18))))) (sSeq (sAsg (dB gMod (dCall gInt (aCons (dB gIx (dVar 2) (dVar 6)) aNil)) (dC (.int 1000))) (.one 5))
  (sSetL 2 (dVar 6) (dB gDiv (dB gIx (dVar 2) (dVar 6)) (dC (.int 1000))))) (sSeq (sAsg (dB gMod (dCall gInt (aCons (dB gAdd (dB gAdd (dB gMul (dB gIx (dVar 2) (dVar 6)) (dC (.int 48271))) (dB gMul (dVar 4) (dC (.int 69621)))) (dC (.int 11))) aNil)) (dC (.int 2147483647))) (.one 7))
  (sSeq (sAsg (dB gMod (dCall gInt (aCons (dB gAdd (dB gMul (dVar 7) (dC (.int 16807))) (dVar 6)) aNil)) (dC (.int 2147483629))) (.one 7))
  (sAsg (dB gMod (dCall gInt (aCons (dB gDiv (dVar 7) (dC (.int 7))) aNil)) (dC (.int 1000))) (.one 5)))))) sNext)
  (sApp 3 (dVar 5))))
def b__law_draws : Dst := (sSeq (sAsg (dComp (.one 8) [8] (itS (dVar 0)) yes (dVar 8)) (.one 2))
  (sSeq (sAsg (dLst aNil) (.one 3))
  (sSeq (sFor (.one 4) [4, 5, 6, 7] (itRng1 (dVar 1)) b__law_draws_1)
  (sRet (dVar 3)))))
def g__law_draws : List PyData → Option PyData := runD 2 9 b__law_draws
/-- _law_sky: 0 _law_draws_here, 1 _law_most, 2 _law_wishes, 3 _law_worths, 4 _law_ears, 5 _law_since, 6 _law_k, 7 _law_first, 8 _law_looks, 9 _law_start, 10 _law_angle -/
def b__law_sky_1 : Dst := (sSeq (sAsg (dB gAdd (dVar 5) (dB gMod (dCall gInt (aCons (dB gIx (dVar 0) (dB gAdd (dC (.int 10)) (dB gMul (dC (.int 3)) (dVar 6)))) aNil)) (dC (.int 6)))) (.one 7))
  (sSeq (sAsg (dB gAdd (dB gAdd (dVar 7) (dC (.int 1))) (dB gMod (dCall gInt (aCons (dB gIx (dVar 0) (dB gAdd (dC (.int 11)) (dB gMul (dC (.int 3)) (dVar 6)))) aNil)) (dC (.int 5)))) (.one 5))
  (sApp 4 (dTup (aCons (dVar 7) (aCons (dVar 5) (aCons (dB gAdd (dC (.int 1)) (dB gMod (dCall gInt (aCons (dB gIx (dVar 0) (dB gAdd (dC (.int 12)) (dB gMul (dC (.int 3)) (dVar 6)))) aNil)) (dC (.int 3)))) aNil)))))))
def b__law_sky_2 : Dst := (sSeq (sAsg (dB gAdd (dVar 9) (dB gMod (dCall gInt (aCons (dB gIx (dVar 0) (dB gAdd (dC (.int 20)) (dB gMul (dC (.int 5)) (dVar 6)))) aNil)) (dC (.int 4)))) (.one 9))
  (sSeq (sAsg (dB gSub (dB gMod (dCall gInt (aCons (dB gIx (dVar 0) (dB gAdd (dC (.int 23)) (dB gMul (dC (.int 5)) (dVar 6)))) aNil)) (dC (.int 61))) (dC (.int 30))) (.one 10))
  (sApp 8 (dTup (aCons (dB gMod (dCall gInt (aCons (dB gIx (dVar 0) (dB gAdd (dC (.int 21)) (dB gMul (dC (.int 5)) (dVar 6)))) aNil)) (dVar 2)) (aCons (dVar 9) (aCons (dB gAdd (dC (.int 1)) (dB gMod (dCall gInt (aCons (dB gIx (dVar 0) (dB gAdd (dC (.int 22)) (dB gMul (dC (.int 5)) (dVar 6)))) aNil)) (dC (.int 3)))) (aCons (dVar 10) (aCons (dB gAdd (dC (.int 1)) (dB gMod (dCall gInt (aCons (dB gIx (dVar 0) (dB gAdd (dC (.int 24)) (dB gMul (dC (.int 5)) (dVar 6)))) aNil)) (dC (.int 4)))) aNil)))))))))
def b__law_sky : Dst := (sSeq (sAsg (dB gAdd (dC (.int 1)) (dB gMod (dCall gInt (aCons (dB gIx (dVar 0) (dC (.int 0))) aNil)) (dC (.int 4)))) (.one 2))
  (sSeq (sAsg (dComp (.one 6) [6] (itRng1 (dVar 2)) yes (dB gMod (dCall gInt (aCons (dB gIx (dVar 0) (dB gAdd (dC (.int 1)) (dVar 6))) aNil)) (dC (.int 10)))) (.one 3))
  (sSeq (sAsg (dLst aNil) (.one 4))
  (sSeq (sAsg (dC (.int 0)) (.one 5))
  (sSeq (sFor (.one 6) [6, 7] (itRng1 (dB gMod (dCall gInt (aCons (dB gIx (dVar 0) (dC (.int 9))) aNil)) (dC (.int 3)))) b__law_sky_1)
  (sSeq (sAsg (dLst aNil) (.one 8))
  (sSeq (sAsg (dC (.int 0)) (.one 9))
  (sSeq (sFor (.one 6) [6, 10] (itRng1 (dB gMod (dCall gInt (aCons (dB gIx (dVar 0) (dC (.int 16))) aNil)) (dB gAdd (dVar 1) (dC (.int 1))))) b__law_sky_2)
  (sFrz (sFrz (sRet (dTup (aCons (dVar 8) (aCons (dVar 3) (aCons (dVar 4) (aCons (dB gAdd (dC (.int 2)) (dB gMod (dCall gInt (aCons (dB gIx (dVar 0) (dC (.int 7))) aNil)) (dC (.int 7)))) (aCons (dB gAdd (dC (.int 1)) (dB gMod (dCall gInt (aCons (dB gIx (dVar 0) (dC (.int 8))) aNil)) (dC (.int 30)))) aNil)))))))))))))))))
def g__law_sky : List PyData → Option PyData := runD 2 11 b__law_sky
/-- _law_turn: 0 _law_sky_here, 1 _law_first, 2 _law_second, 3 _law_ticks, 4 _law_turn_here -/
def b__law_turn_1 : Dst := (sSeq (sIf (tV (dB gGe (dB gMul (dVar 3) (dB gIx (dVar 0) (dC (.int 4)))) (dCall gAbs (aCons (dB gSub (dB gIx (dB gIx (dB gIx (dVar 0) (dC (.int 0))) (dVar 2)) (dC (.int 3))) (dB gIx (dB gIx (dB gIx (dVar 0) (dC (.int 0))) (dVar 1)) (dC (.int 3)))) aNil)))) sBreak sNext)
  (sAsg (dB gAdd (dVar 3) (dC (.int 1))) (.one 3)))
def b__law_turn : Dst := (sSeq (sAsg (dC (.int 0)) (.one 3))
  (sSeq (sFor (.one 4) [4] (itRng1 (dC (.int 200))) b__law_turn_1)
  (sRet (dVar 3))))
def g__law_turn : List PyData → Option PyData := runD 3 5 b__law_turn
/-- _law_store: 0 _law_sky_here, 1 _law_names, 2 _law_time, 3 _law_store_here, 4 _law_now, 5 _law_first, 6 _law_last, 7 _law_rate, 8 _law_name, 9 _law_wish, 10 _law_start, 11 _law_length, 12 _law_angle, 13 _law_size -/
def b__law_store_1 : Dst := (sIf (tV (dChain gLe gLt (dVar 5) (dB gSub (dVar 4) (dC (.int 1))) (dVar 6))) (sAsg (dCall gMax2 (aCons (dC (.int 0)) (aCons (dB gSub (dVar 3) (dVar 7)) aNil))) (.one 3)) sNext)
def b__law_store_2 : Dst := (sSeq (sAsg (dB gIx (dB gIx (dVar 0) (dC (.int 0))) (dVar 8)) (.many [9, 10, 11, 12, 13]))
  (sIf (tV (dB gEq (dB gAdd (dVar 10) (dVar 11)) (dVar 4))) (sAsg (dB gAdd (dVar 3) (dVar 13)) (.one 3)) sNext))
def b__law_store_3 : Dst := (sSeq (sFor (.many [5, 6, 7]) [5, 6, 7] (itS (dB gIx (dVar 0) (dC (.int 2)))) b__law_store_1)
  (sFor (.one 8) [8, 9, 10, 11, 12, 13] (itS (dVar 1)) b__law_store_2))
def b__law_store : Dst := (sSeq (sAsg (dC (.int 0)) (.one 3))
  (sSeq (sFor (.one 4) [4, 5, 6, 7, 8, 9, 10, 11, 12, 13] (itRng1 (dB gAdd (dVar 2) (dC (.int 1)))) b__law_store_3)
  (sRet (dVar 3))))
def g__law_store : List PyData → Option PyData := runD 3 14 b__law_store
/-- _law_wrong: 0 _law_sky_here, 1 _law_names, 2 _law_place, 3 _law_look, 4 _law_before, 5 _law_name -/
def b__law_wrong_1 : Dst := (sSeq (sAsg (dB gIx (dB gIx (dVar 0) (dC (.int 0))) (dB gIx (dVar 1) (dVar 2))) (.one 3))
  (sSeq (sIf (tAnd (tV (dB gGt (dVar 2) (dC (.int 0)))) (tV (dB gLe (dB gIx (dVar 1) (dVar 2)) (dB gIx (dVar 1) (dB gSub (dVar 2) (dC (.int 1))))))) (sRet (dTup (aCons (dC (.str (PySem.Str.ofString "order"))) (aCons (dVar 2) aNil)))) sNext)
  (sSeq (sIf (tV (dB gIn (dB gIx (dVar 3) (dC (.int 0))) (dComp (.one 5) [5] (itS (dSl (dVar 1) pNo (pSome (dVar 2)))) yes (dB gIx (dB gIx (dB gIx (dVar 0) (dC (.int 0))) (dVar 5)) (dC (.int 0)))))) (sRet (dTup (aCons (dC (.str (PySem.Str.ofString "wish"))) (aCons (dVar 2) aNil)))) sNext)
  (sSeq (sIf (tV (dB gGt (dVar 2) (dC (.int 0)))) (sSeq (sAsg (dB gIx (dB gIx (dVar 0) (dC (.int 0))) (dB gIx (dVar 1) (dB gSub (dVar 2) (dC (.int 1))))) (.one 4))
  (sIf (tV (dB gLt (dB gIx (dVar 3) (dC (.int 1))) (dB gAdd (dB gAdd (dB gIx (dVar 4) (dC (.int 1))) (dB gIx (dVar 4) (dC (.int 2)))) (dCall g__law_turn (aCons (dVar 0) (aCons (dB gIx (dVar 1) (dB gSub (dVar 2) (dC (.int 1)))) (aCons (dB gIx (dVar 1) (dVar 2)) aNil))))))) (sRet (dTup (aCons (dC (.str (PySem.Str.ofString "turning"))) (aCons (dVar 2) aNil)))) sNext)) sNext)
  (sIf (tV (dB gGt (dB gAdd (dCall g__law_store (aCons (dVar 0) (aCons (dSl (dVar 1) pNo (pSome (dVar 2))) (aCons (dB gIx (dVar 3) (dC (.int 1))) aNil)))) (dB gIx (dVar 3) (dC (.int 4)))) (dB gIx (dVar 0) (dC (.int 3))))) (sRet (dTup (aCons (dC (.str (PySem.Str.ofString "room"))) (aCons (dVar 2) aNil)))) sNext)))))
def b__law_wrong : Dst := (sSeq (sFor (.one 2) [2, 3, 4] (itRng1 (dCall gLen (aCons (dVar 1) aNil))) b__law_wrong_1)
  (sRet (dC .none)))
def g__law_wrong : List PyData → Option PyData := runD 2 6 b__law_wrong
/-- _law_worth: 0 _law_sky_here, 1 _law_names, 2 _law_wishes, 3 _law_name, 4 _law_wish -/
def b__law_worth : Dst := (sSeq (sAsg (dComp (.one 3) [3] (itS (dVar 1)) yes (dB gIx (dB gIx (dB gIx (dVar 0) (dC (.int 0))) (dVar 3)) (dC (.int 0)))) (.one 2))
  (sRet (dCall gSum (aCons (dComp (.one 4) [4] (itRng1 (dCall gLen (aCons (dB gIx (dVar 0) (dC (.int 1))) aNil))) (tV (dB gIn (dVar 4) (dVar 2))) (dB gIx (dB gIx (dVar 0) (dC (.int 1))) (dVar 4))) aNil))))
def g__law_worth : List PyData → Option PyData := runD 2 5 b__law_worth
/-- _law_more_ears: 0 _law_sky_here, 1 _law_draws_here, 2 _law_since, 3 _law_ear -/
def b__law_more_ears : Dst := (sSeq (sIf (tV (dB gEq (dB gMod (dCall gInt (aCons (dB gIx (dVar 1) (dC (.int 0))) aNil)) (dC (.int 2))) (dC (.int 0)))) (sRet (dVar 0)) sNext)
  (sSeq (sAsg (dB gAdd (dCall gMax (aCons (dB gCatL (dLst (aCons (dC (.int 0)) aNil)) (dComp (.one 3) [3] (itS (dB gIx (dVar 0) (dC (.int 2)))) yes (dB gIx (dVar 3) (dC (.int 1))))) aNil)) (dB gMod (dCall gInt (aCons (dB gIx (dVar 1) (dC (.int 1))) aNil)) (dC (.int 5)))) (.one 2))
  (sRet (dTup (aCons (dB gIx (dVar 0) (dC (.int 0))) (aCons (dB gIx (dVar 0) (dC (.int 1))) (aCons (dB gCatL (dB gIx (dVar 0) (dC (.int 2))) (dLst (aCons (dTup (aCons (dVar 2) (aCons (dB gAdd (dB gAdd (dVar 2) (dC (.int 1))) (dB gMod (dCall gInt (aCons (dB gIx (dVar 1) (dC (.int 2))) aNil)) (dC (.int 4)))) (aCons (dB gAdd (dC (.int 1)) (dB gMod (dCall gInt (aCons (dB gIx (dVar 1) (dC (.int 3))) aNil)) (dC (.int 4)))) aNil)))) aNil))) (aCons (dB gIx (dVar 0) (dC (.int 3))) (aCons (dB gIx (dVar 0) (dC (.int 4))) aNil)))))))))
def g__law_more_ears : List PyData → Option PyData := runD 2 4 b__law_more_ears
/-- _law_gcd: 0 _law_a, 1 _law_b, 2 _law_turn_here -/
def b__law_gcd_1 : Dst := (sSeq (sIf (tV (dB gEq (dVar 1) (dC (.int 0)))) sBreak sNext)
  (sPar 0 1 (dVar 1) (dB gMod (dCall gInt (aCons (dVar 0) aNil)) (dVar 1))))
def b__law_gcd : Dst := (sSeq (sFor (.one 2) [2] (itRng1 (dC (.int 400))) b__law_gcd_1)
  (sRet (dVar 0)))
def g__law_gcd : List PyData → Option PyData := runD 2 3 b__law_gcd
/-- _law_number: 0 _law_n, 1 _law_d, 2 _law_common -/
def b__law_number : Dst := (sSeq (sAsg (dCall g__law_gcd (aCons (dVar 0) (aCons (dVar 1) aNil))) (.one 2))
  (sRet (dTup (aCons (dB gDiv (dVar 0) (dVar 2)) (aCons (dB gDiv (dVar 1) (dVar 2)) aNil)))))
def g__law_number : List PyData → Option PyData := runD 2 3 b__law_number
/-- _law_less: 0 _law_a, 1 _law_b -/
def b__law_less : Dst := (sRet (dB gLt (dB gMul (dB gIx (dVar 0) (dC (.int 0))) (dB gIx (dVar 1) (dC (.int 1)))) (dB gMul (dB gIx (dVar 1) (dC (.int 0))) (dB gIx (dVar 0) (dC (.int 1))))))
def g__law_less : List PyData → Option PyData := runD 2 2 b__law_less
/-- _law_chances: 0 _law_sky_here, 1 _law_draws_here, 2 _law_found, 3 _law_k, 4 _law_d -/
def b__law_chances_1 : Dst := (sSeq (sAsg (dB gAdd (dC (.int 1)) (dB gMod (dCall gInt (aCons (dB gIx (dVar 1) (dB gMul (dC (.int 2)) (dVar 3))) aNil)) (dB gIx (dLst (aCons (dC (.int 1)) (aCons (dC (.int 4)) (aCons (dC (.int 6)) (aCons (dC (.int 100)) aNil))))) (dB gMod (dCall gInt (aCons (dB gDiv (dB gIx (dVar 1) (dB gMul (dC (.int 2)) (dVar 3))) (dC (.int 100))) aNil)) (dC (.int 4)))))) (.one 4))
  (sApp 2 (dCall g__law_number (aCons (dB gMod (dCall gInt (aCons (dB gIx (dVar 1) (dB gAdd (dB gMul (dC (.int 2)) (dVar 3)) (dC (.int 1)))) aNil)) (dB gAdd (dVar 4) (dC (.int 1)))) (aCons (dVar 4) aNil)))))
def b__law_chances : Dst := (sSeq (sAsg (dLst aNil) (.one 2))
  (sSeq (sFor (.one 3) [3, 4] (itRng1 (dCall gLen (aCons (dB gIx (dVar 0) (dC (.int 2))) aNil))) b__law_chances_1)
  (sRet (dVar 2))))
def g__law_chances : List PyData → Option PyData := runD 2 5 b__law_chances
/-- _law_grown: 0 _law_sky_here, 1 _law_found, 2 _law_at, 3 _law_names, 4 _law_look -/
def b__law_grown_1 : Dst := (sIf (tAnd (tV (dB gNotIn (dVar 4) (dVar 3))) (tV (dU gIsN (dCall g__law_wrong (aCons (dVar 0) (aCons (dB gCatL (dVar 3) (dLst (aCons (dVar 4) aNil))) aNil)))))) (sApp 1 (dB gCatL (dVar 3) (dLst (aCons (dVar 4) aNil)))) sNext)
def b__law_grown_2 : Dst := (sSeq (sAsg (dB gIx (dVar 1) (dVar 2)) (.one 3))
  (sSeq (sFor (.one 4) [4] (itRng1 (dCall gLen (aCons (dB gIx (dVar 0) (dC (.int 0))) aNil))) b__law_grown_1)
  (sAsg (dB gAdd (dVar 2) (dC (.int 1))) (.one 2))))
def b__law_grown : Dst := (sSeq (sAsg (dLst (aCons (dLst aNil) aNil)) (.one 1))
  (sSeq (sAsg (dC (.int 0)) (.one 2))
  (sSeq (sWhile (tV (dB gLt (dVar 2) (dCall gLen (aCons (dVar 1) aNil)))) [3, 4] b__law_grown_2)
  (sRet (dCall (gSorted false) (aCons (dVar 1) aNil))))))
def g__law_grown : List PyData → Option PyData := runD 1 5 b__law_grown
/-- _law_best_worth: 0 _law_sky_here, 1 _law_names -/
def b__law_best_worth : Dst := (sRet (dCall gMax (aCons (dComp (.one 1) [1] (itS (dCall g__law_grown (aCons (dVar 0) aNil))) yes (dCall g__law_worth (aCons (dVar 0) (aCons (dVar 1) aNil)))) aNil)))
def g__law_best_worth : List PyData → Option PyData := runD 1 2 b__law_best_worth
/-- law: 0 _law_script, 1 _law_draws_here, 2 _law_sky_here, 3 _law_chances_here, 4 _law_best, 5 _law_mean, 6 _law_failing, 7 _law_most, 8 _law_names, 9 _law_left, 10 _law_now, 11 _law_begun, 12 _law_promises, 13 _law_worth_here, 14 _law_plan, 15 _law_ear, 16 _law_k, 17 _law_name -/
def b_law : Dst := (sSeq (sAsg (dCall g__law_draws (aCons (dVar 0) (aCons (dC (.int 80)) aNil))) (.one 1))
  (sSeq (sAsg (dCall g__law_more_ears (aCons (dCall g__law_sky (aCons (dVar 1) (aCons (dC (.int 5)) aNil))) (aCons (dSl (dVar 1) (pSome (dC (.int 50))) (pSome (dC (.int 54)))) aNil))) (.one 2))
  (sSeq (sAsg (dCall g__law_chances (aCons (dVar 2) (aCons (dSl (dVar 1) (pSome (dC (.int 54))) (pSome (dC (.int 60)))) aNil))) (.one 3))
  (sSeq (sAsg (dCall (fun xs => g_best_keeping (xs ++ [.int 0, .tuple []])) (aCons (dVar 2) (aCons (dLst aNil) aNil))) (.one 4))
  (sSeq (sIf (tOr (tV (dB gNe (dB gIx (dVar 4) (dC (.int 0))) (dCall g__law_best_worth (aCons (dVar 2) aNil)))) (tOr (tV (dB gNe (dCall g_sure_worth (aCat (aCons (dVar 2) aNil) (aCons (dC (.int 0)) aNil))) (dB gIx (dVar 4) (dC (.int 0))))) (tV (dB gNe (dCall g_worth_of (aCons (dVar 2) (aCons (dB gIx (dVar 4) (dC (.int 1))) aNil))) (dB gIx (dVar 4) (dC (.int 0))))))) (sRet (dC (.bool false))) sNext)
  (sSeq (sAsg (dCall g_mean_worth (aCons (dVar 2) (aCons (dVar 3) aNil))) (.one 5))
  (sSeq (sIf (tV (dB gNe (dCall g_mean_worth (aCons (dVar 2) (aCons (dComp (.one 15) [15] (itS (dB gIx (dVar 2) (dC (.int 2)))) yes (dTup (aCons (dC (.int 0)) (aCons (dC (.int 1)) aNil)))) aNil))) (dTup (aCons (dB gIx (dVar 4) (dC (.int 0))) (aCons (dC (.int 1)) aNil))))) (sRet (dC (.bool false))) sNext)
  (sSeq (sIf (tOr (tV (dCall g__law_less (aCons (dVar 5) (aCons (dTup (aCons (dCall g_sure_worth (aCat (aCons (dVar 2) aNil) (aCons (dC (.int 4)) aNil))) (aCons (dC (.int 1)) aNil))) aNil)))) (tV (dCall g__law_less (aCons (dTup (aCons (dB gIx (dVar 4) (dC (.int 0))) (aCons (dC (.int 1)) aNil))) (aCons (dVar 5) aNil))))) (sRet (dC (.bool false))) sNext)
  (sSeq (sAsg (dComp (.one 16) [16] (itRng1 (dCall gLen (aCons (dB gIx (dVar 2) (dC (.int 2))) aNil))) (tV (dB gEq (dB gMod (dCall gInt (aCons (dB gIx (dVar 1) (dB gAdd (dC (.int 60)) (dVar 16))) aNil)) (dC (.int 2))) (dC (.int 0)))) (dVar 16)) (.one 6))
  (sSeq (sAsg (dCall gMax2 (aCons (dCall gLen (aCons (dVar 6) aNil)) (aCons (dB gMod (dCall gInt (aCons (dB gIx (dVar 1) (dC (.int 64))) aNil)) (dC (.int 4))) aNil))) (.one 7))
  (sSeq (sAsg (dCall g_taken_by (aCons (dVar 2) (aCons (dCall g_sure_rule (aCat (aCons (dVar 2) aNil) (aCons (dVar 7) aNil))) (aCons (dVar 6) aNil)))) (.one 8))
  (sSeq (sAsg (dCall g_without_ears (aCons (dVar 2) (aCons (dVar 6) aNil))) (.one 9))
  (sSeq (sIf (tOr (tV (dB gNotB (dCall g_is_plan (aCons (dVar 9) (aCons (dVar 8) aNil))) (dC (.bool true)))) (tV (dB gLt (dCall g_worth_of (aCons (dVar 9) (aCons (dVar 8) aNil))) (dCall g_sure_worth (aCat (aCons (dVar 2) aNil) (aCons (dVar 7) aNil)))))) (sRet (dC (.bool false))) sNext)
  (sSeq (sAsg (dB gMod (dCall gInt (aCons (dB gIx (dVar 1) (dC (.int 65))) aNil)) (dC (.int 16))) (.one 10))
  (sSeq (sAsg (dComp (.one 17) [17] (itS (dVar 8)) (tV (dB gLt (dB gIx (dB gIx (dB gIx (dVar 2) (dC (.int 0))) (dVar 17)) (dC (.int 1))) (dVar 10))) (dVar 17)) (.one 11))
  (sSeq (sAsg (dCall (gSorted false) (aCons (dComp (.one 17) [17] (itS (dVar 8)) yes (dB gIx (dB gIx (dB gIx (dVar 2) (dC (.int 0))) (dVar 17)) (dC (.int 0)))) aNil)) (.one 12))
  (sSeq (sIf (tV (dB gNotB (dCall g_can_keep (aCat (aCons (dVar 9) (aCons (dVar 12) aNil)) (aCons (dVar 10) (aCons (dVar 11) aNil)))) (dC (.bool true)))) (sRet (dC (.bool false))) sNext)
  (sSeq (sAsg (dCall g_best_keeping (aCat (aCons (dVar 9) (aCons (dVar 12) aNil)) (aCons (dVar 10) (aCons (dVar 11) aNil)))) (.many [13, 14]))
  (sSeq (sIf (tOr (tV (dB gLt (dVar 13) (dCall g_worth_of (aCons (dVar 9) (aCons (dVar 8) aNil))))) (tOr (tV (dB gNe (dSl (dVar 14) pNo (pSome (dCall gLen (aCons (dVar 11) aNil)))) (dVar 11))) (tV (dB gNe (dCall g_worth_of (aCons (dVar 9) (aCons (dVar 14) aNil))) (dVar 13))))) (sRet (dC (.bool false))) sNext)
  (sRet (dAnd (dB gIsB (dCall g_is_plan (aCons (dVar 9) (aCons (dVar 14) aNil))) (dC (.bool true))) (dB gLe (dVar 13) (dCall g__law_best_worth (aCons (dVar 9) aNil))))))))))))))))))))))))
def g_law : List PyData → Option PyData := runD 1 18 b_law
end Da
set_option linter.all false
set_option maxRecDepth 100000
/-! Ev: running the data functions by simp. -/
namespace Pl
open PySem Da

structure Lk where
  w : Int
  s : Int
  l : Int
  a : Int
  z : Int
structure Er where
  f : Int
  l : Int
  r : Int
structure Sky where
  looks : List Lk
  worths : List Int
  ears : List Er
  cap : Int
  turn : Int
def eLk (k : Lk) : PyData := .tuple [.int k.w, .int k.s, .int k.l, .int k.a, .int k.z]
def eEr (k : Er) : PyData := .tuple [.int k.f, .int k.l, .int k.r]
def eSky (k : Sky) : PyData := .tuple [.list (k.looks.map eLk), .list (k.worths.map .int), .list (k.ears.map eEr), .int k.cap, .int k.turn]
abbrev eN (i : Nat) : PyData := .int (i : Int)
abbrev eNs (xs : List Nat) : PyData := .list (xs.map eN)

section
variable {α : Type} {e : α → PyData} {xs : List α} {i : Nat} {r : Rho} {f h : Dn} {a b : Dl}
@[simp] theorem ev_dVar : dVar i r = (r[i]?).getD none := by
  unfold dVar
  cases r[i]? with
  | none => rfl
  | some o => rfl
@[simp] theorem ev_dC {d : PyData} : dC d r = some d := (rfl)
@[simp] theorem ev_dU {g : PyData → Option PyData} : dU g f r = (f r).bind g := (rfl)
@[simp] theorem ev_dB {g : PyData → PyData → Option PyData} : dB g f h r = (f r).bind fun x => (h r).bind fun y => g x y := (rfl)
@[simp] theorem ev_aNil : aNil r = some [] := (rfl)
@[simp] theorem ev_aCons : aCons f a r = (f r).bind fun x => (a r).bind fun xs => some (x :: xs) := (rfl)
@[simp] theorem ev_aCat : aCat a b r = (a r).bind fun xs => (b r).bind fun ys => some (xs ++ ys) := (rfl)
@[simp] theorem ev_dTup : dTup a r = (a r).bind fun xs => some (.tuple xs) := (rfl)
@[simp] theorem ev_dLst : dLst a r = (a r).bind fun xs => some (.list xs) := (rfl)
@[simp] theorem ev_dCall {g : List PyData → Option PyData} : dCall g a r = (a r).bind g := (rfl)
@[simp] theorem ev_gAdd {a b : Int} : gAdd (.int a) (.int b) = some (.int (a + b)) := (rfl)
@[simp] theorem ev_gSub {a b : Int} : gSub (.int a) (.int b) = some (.int (a - b)) := (rfl)
@[simp] theorem ev_gNeg {a : Int} : gNeg (.int a) = some (.int (-a)) := (rfl)
theorem ev_gMul {a b : Int} (h : sm a = true ∨ sm b = true) : gMul (.int a) (.int b) = some (.int (a * b)) := by
  show (if (sm a || sm b) = true then some (PyData.int (a * b)) else none) = _
  rw [if_pos (by simpa using h)]
theorem ev_gDiv {a b : Int} (h : 0 < b) (h2 : b < 18446744073709551616) : gDiv (.int a) (.int b) = some (.int (a / b)) := by
  show (if 0 < b ∧ b < 18446744073709551616 then some (PyData.int (a / b)) else none) = _
  rw [if_pos ⟨h, h2⟩]
theorem ev_gMod {a b : Int} (h : 0 < b) : gMod (.int a) (.int b) = some (.int (a % b)) := by
  show (if 0 < b then some (PyData.int (a % b)) else none) = _
  rw [if_pos h]
@[simp] theorem ev_gLt {a b : Int} : gLt (.int a) (.int b) = some (.bool (decide (a < b))) := (rfl)
@[simp] theorem ev_gLe {a b : Int} : gLe (.int a) (.int b) = some (.bool (decide (a ≤ b))) := (rfl)
@[simp] theorem ev_gGt {a b : Int} : gGt (.int a) (.int b) = some (.bool (decide (b < a))) := (rfl)
@[simp] theorem ev_gGe {a b : Int} : gGe (.int a) (.int b) = some (.bool (decide (b ≤ a))) := (rfl)
@[simp] theorem ev_gIsN0 : gIsN .none = some (.bool true) := (rfl)
@[simp] theorem ev_gIsN1 {a : Int} : gIsN (.int a) = some (.bool false) := (rfl)
@[simp] theorem ev_gIsN2 {a : List PyData} : gIsN (.tuple a) = some (.bool false) := (rfl)
@[simp] theorem ev_gNotN0 : gNotN .none = some (.bool false) := (rfl)
@[simp] theorem ev_gNotN1 {a : Int} : gNotN (.int a) = some (.bool true) := (rfl)
@[simp] theorem ev_gNotN2 {a : List PyData} : gNotN (.tuple a) = some (.bool true) := (rfl)
@[simp] theorem ev_gIsB {a b : Bool} : gIsB (.bool a) (.bool b) = some (.bool (decide (a = b))) := (rfl)
@[simp] theorem ev_gNotB {a b : Bool} : gNotB (.bool a) (.bool b) = some (.bool (!decide (a = b))) := (rfl)
@[simp] theorem ev_asB {a : Bool} : asB (.bool a) = some a := (rfl)
@[simp] theorem ev_tV : tV f r = (f r).bind asB := (rfl)
@[simp] theorem ev_tTr : tTr f r = (f r).bind truth := (rfl)
@[simp] theorem ev_truthI {a : Int} : truth (.int a) = some (a != 0) := (rfl)
@[simp] theorem ev_truthL {a : List PyData} : truth (.list a) = some (!a.isEmpty) := (rfl)
@[simp] theorem ev_truthB {a : Bool} : truth (.bool a) = some a := (rfl)
@[simp] theorem ev_tAnd {a b : Dts} : tAnd a b r = (a r).bind fun c => if c = true then b r else some false := (rfl)
@[simp] theorem ev_tOr {a b : Dts} : tOr a b r = (a r).bind fun c => if c = true then some true else b r := (rfl)
@[simp] theorem ev_tNot {a : Dts} : tNot a r = (a r).map fun c => !c := (rfl)
@[simp] theorem ev_dAnd {a b : Dn} : dAnd a b r = (a r).bind fun x => (asB x).bind fun c => if c = true then b r else some (.bool false) := (rfl)
@[simp] theorem ev_dOr {a b : Dn} : dOr a b r = (a r).bind fun x => (asB x).bind fun c => if c = true then some (.bool true) else b r := (rfl)
@[simp] theorem ev_dChain {g g2 : PyData → PyData → Option PyData} {a b c : Dn} : dChain g g2 a b c r = (a r).bind fun x => (b r).bind fun y => (g x y).bind fun z => (asB z).bind fun k => if k = true then (c r).bind fun w => g2 y w else some (.bool false) := (rfl)
@[simp] theorem ev_gIx : gIx (.list (xs.map e)) (.int (i : Int)) = xs[i]?.map e := by
  show ((if i < (xs.map e).length then some i else none).bind fun j => (xs.map e)[j]?) = _
  rw [List.length_map]
  by_cases h : i < xs.length
  · rw [if_pos h]; simp
  · rw [if_neg h, List.getElem?_eq_none (by omega)]; rfl
@[simp] theorem ev_gIxT {ds : List PyData} {i : Nat} : gIx (.tuple ds) (.int (i : Int)) = ds[i]? := by
  show ((if i < ds.length then some i else none).bind fun j => ds[j]?) = _
  by_cases h : i < ds.length
  · rw [if_pos h]; rfl
  · rw [if_neg h, List.getElem?_eq_none (by omega)]; rfl
theorem ev_gIxL {ds : List PyData} {i : Nat} : gIx (.list ds) (.int (i : Int)) = ds[i]? := by
  show ((if i < ds.length then some i else none).bind fun j => ds[j]?) = _
  by_cases h : i < ds.length
  · rw [if_pos h]; rfl
  · rw [if_neg h, List.getElem?_eq_none (by omega)]; rfl
@[simp] theorem ev_gIx0 {ds : List PyData} : gIx (.tuple ds) (.int 0) = ds[0]? := ev_gIxT (i := 0)
@[simp] theorem ev_gIx1 {ds : List PyData} : gIx (.tuple ds) (.int 1) = ds[1]? := ev_gIxT (i := 1)
@[simp] theorem ev_gIx2 {ds : List PyData} : gIx (.tuple ds) (.int 2) = ds[2]? := ev_gIxT (i := 2)
@[simp] theorem ev_gIx3 {ds : List PyData} : gIx (.tuple ds) (.int 3) = ds[3]? := ev_gIxT (i := 3)
@[simp] theorem ev_gIx4 {ds : List PyData} : gIx (.tuple ds) (.int 4) = ds[4]? := ev_gIxT (i := 4)
@[simp] theorem ev_gLenL {ds : List PyData} : gLen [.list ds] = some (.int ds.length) := (rfl)
@[simp] theorem ev_gLenT {ds : List PyData} : gLen [.tuple ds] = some (.int ds.length) := (rfl)
@[simp] theorem ev_gAbs {a : Int} : gAbs [.int a] = some (.int (if a < 0 then -a else a)) := (rfl)
@[simp] theorem ev_gMax2 {a b : Int} : gMax2 [.int a, .int b] = some (.int (max a b)) := by
  show some (PyData.int (if b > a then b else a)) = _
  congr 2
  split <;> omega
@[simp] theorem ev_gMin2 {a b : Int} : gMin2 [.int a, .int b] = some (.int (min a b)) := by
  show some (PyData.int (if b < a then b else a)) = _
  congr 2
  split <;> omega
@[simp] theorem ev_gInt {a : Int} : gInt [.int a] = some (.int a) := (rfl)
@[simp] theorem ev_gToLL {ds : List PyData} : gToL [.list ds] = some (.list ds) := (rfl)
@[simp] theorem ev_gToLT {ds : List PyData} : gToL [.tuple ds] = some (.list ds) := (rfl)
@[simp] theorem ev_gToTL {ds : List PyData} : gToT [.list ds] = some (.tuple ds) := (rfl)
@[simp] theorem ev_gToTT {ds : List PyData} : gToT [.tuple ds] = some (.tuple ds) := (rfl)
@[simp] theorem ev_sNext : sNext r = some (.nx r) := (rfl)
@[simp] theorem ev_sBreak : sBreak r = some (.bk r) := (rfl)
@[simp] theorem ev_sRet : sRet f r = (f r).map .rt := (rfl)
@[simp] theorem ev_sIf {c : Dts} {a b : Dst} : sIf c a b r = (c r).bind fun k => if k = true then a r else b r := (rfl)
theorem ev_sSeq {a b : Dst} : sSeq a b r = (a r).bind fun o => match o with
  | .nx r' => b r'
  | o => some o := rfl
theorem sSeq_nx {a b : Dst} {r' : Rho} (h : a r = some (.nx r')) : sSeq a b r = b r' := by rw [ev_sSeq, h]; rfl
theorem sSeq_rt {a b : Dst} {d : PyData} (h : a r = some (.rt d)) : sSeq a b r = some (.rt d) := by rw [ev_sSeq, h]; rfl
@[simp] theorem ev_sAsg {t : Tg} : sAsg f t r = (f r).bind fun d => (toTg t d r).map .nx := (rfl)
@[simp] theorem ev_toTg1 {d : PyData} : toTg (.one i) d r = some (r.set i (some d)) := (rfl)
theorem ev_toTgM {js : List Nat} {ds : List PyData} : toTg (.many js) (.tuple ds) r = if ds.length = js.length then some (setMany js ds r) else none := (rfl)
@[simp] theorem ev_sPar {i j : Nat} : sPar i j f h r = (f r).bind fun x => (h r).bind fun y => some (.nx ((r.set i (some x)).set j (some y))) := (rfl)
@[simp] theorem ev_sAug : sAug i f r = (dVar i r).bind fun x => (f r).bind fun y => (gAdd x y).map fun z => .nx (r.set i (some z)) := (rfl)
@[simp] theorem ev_sFor {t : Tg} {js : List Nat} {it : Dl} {b : Dst} : sFor t js it b r = (it r).bind fun ds => forL t js b ds r := (rfl)
@[simp] theorem ev_itS : itS f r = (f r).bind seq? := (rfl)
@[simp] theorem ev_itO {ds : List PyData} (h : f r = some (.list ds)) : itO f r = some ds := by unfold itO; rw [h]; rfl
@[simp] theorem ev_seqL {ds : List PyData} : seq? (.list ds) = some ds := (rfl)
@[simp] theorem ev_seqT {ds : List PyData} : seq? (.tuple ds) = some ds := (rfl)
theorem ev_dComp {t : Tg} {js : List Nat} {it : Dl} {c : Dts} : dComp t js it c f r = (it r).bind fun ds => (compL t c f (wipe js r) ds).map .list := (rfl)
end
/-- a def's body run on its arguments -/
theorem run_eq {k n : Nat} {b : Dst} {ds : List PyData} {d : PyData} (hl : ds.length = k) (h : b (Da.start n ds) = some (.rt d)) : runD k n b ds = some d := by
  unfold runD
  rw [if_pos hl, h]
  rfl
@[simp] theorem sk0 {S : Sky} : gIx (eSky S) (.int 0) = some (.list (S.looks.map eLk)) := by unfold eSky; simp
@[simp] theorem sk1 {S : Sky} : gIx (eSky S) (.int 1) = some (.list (S.worths.map .int)) := by unfold eSky; simp
@[simp] theorem sk2 {S : Sky} : gIx (eSky S) (.int 2) = some (.list (S.ears.map eEr)) := by unfold eSky; simp
@[simp] theorem sk3 {S : Sky} : gIx (eSky S) (.int 3) = some (.int S.cap) := by unfold eSky; simp
@[simp] theorem sk4 {S : Sky} : gIx (eSky S) (.int 4) = some (.int S.turn) := by unfold eSky; simp
@[simp] theorem lk0 {k : Lk} : gIx (eLk k) (.int 0) = some (.int k.w) := by unfold eLk; simp
@[simp] theorem lk1 {k : Lk} : gIx (eLk k) (.int 1) = some (.int k.s) := by unfold eLk; simp
@[simp] theorem lk2 {k : Lk} : gIx (eLk k) (.int 2) = some (.int k.l) := by unfold eLk; simp
@[simp] theorem lk3 {k : Lk} : gIx (eLk k) (.int 3) = some (.int k.a) := by unfold eLk; simp
@[simp] theorem lk4 {k : Lk} : gIx (eLk k) (.int 4) = some (.int k.z) := by unfold eLk; simp
@[simp] theorem er0 {k : Er} : gIx (eEr k) (.int 0) = some (.int k.f) := by unfold eEr; simp
@[simp] theorem er1 {k : Er} : gIx (eEr k) (.int 1) = some (.int k.l) := by unfold eEr; simp
def Lk.e (k : Lk) : Int := k.s + k.l
theorem end_of {S : Sky} {i : Nat} {k : Lk} (h : S.looks[i]? = some k) : g_end_of [eSky S, eN i] = some (.int k.e) := by
  refine run_eq rfl ?_
  simp [b_end_of, Da.start, h, eLk, ev_sSeq, ev_toTgM, setMany, Lk.e]
/-- ticks to turn -/
def turnT (S : Sky) (a b : Lk) : Int := -(-(if b.a - a.a < 0 then -(b.a - a.a) else b.a - a.a) / S.turn)
theorem turning {S : Sky} {i j : Nat} {k m : Lk} (h : S.looks[i]? = some k) (h2 : S.looks[j]? = some m) (ht : 0 < S.turn) (ht2 : S.turn < 18446744073709551616) : g_turning [eSky S, eN i, eN j] = some (.int (turnT S k m)) := by
  refine run_eq rfl ?_
  simp [b_turning, Da.start, h, h2, ev_gDiv ht ht2, turnT]
end Pl
set_option linter.all false
set_option maxRecDepth 100000
/-! Ev2: what the defs of skies give. -/
namespace Pl
open PySem Da
def wOut (js : List Nat) : Out → Out
  | .nx r => .nx (wipe js r)
  | .ct r => .nx (wipe js r)
  | .bk r => .bk (wipe js r)
  | .rt d => .rt d
/-- one turn of a for -/
def one (t : Tg) (js : List Nat) (body : Dst) (d : PyData) (r : Rho) : Option Out := (toTg t d r).bind fun r1 => (body r1).map (wOut js)
theorem forL_cons {t : Tg} {js : List Nat} {body : Dst} {d : PyData} {ds : List PyData} {r : Rho} {o : Out} (h : one t js body d r = some o) : forL t js body (d :: ds) r = match o with
    | .nx r2 => forL t js body ds r2
    | .ct r2 => forL t js body ds r2
    | .bk r2 => some (.nx r2)
    | .rt d => some (.rt d) := by
  unfold one at h
  show (toTg t d r).bind _ = _
  cases e1 : toTg t d r with
  | none => rw [e1] at h; cases h
  | some r1 =>
    rw [e1] at h
    have h' : (body r1).map (wOut js) = some o := h
    show (body r1).bind _ = _
    cases e2 : body r1 with
    | none => rw [e2] at h'; cases h'
    | some o1 =>
      rw [e2] at h'
      cases o1 <;> (cases h'; rfl)
/-- a loop without a way out -/
theorem forL_nx {α β : Type} {enc : α → PyData} {t : Tg} {js : List Nat} {body : Dst} (R : β → Rho) (step : β → α → β) (I : β → Prop) : ∀ (xs : List α) (s : β), I s →
    (∀ s a, I s → a ∈ xs → one t js body (enc a) (R s) = some (.nx (R (step s a))) ∧ I (step s a)) → forL t js body (xs.map enc) (R s) = some (.nx (R (xs.foldl step s))) ∧ I (xs.foldl step s)
  | [], s, hI, _ => ⟨rfl, hI⟩
  | a :: xs, s, hI, h => by
    obtain ⟨h1, h4⟩ := h s a hI (List.mem_cons_self ..)
    have ih := forL_nx R step I xs (step s a) h4 fun s' a' i' m => h s' a' i' (List.mem_cons_of_mem _ m)
    refine ⟨?_, ih.2⟩
    rw [List.map_cons, forL_cons h1]
    exact ih.1
/-- the same, the word also of what is still to come -/
theorem forL_nxR {α β : Type} {enc : α → PyData} {t : Tg} {js : List Nat} {body : Dst} (R : β → Rho) (step : β → α → β) (I : List α → β → Prop) : ∀ (xs : List α) (s : β), I xs s →
    (∀ s a rest, I (a :: rest) s → one t js body (enc a) (R s) = some (.nx (R (step s a))) ∧ I rest (step s a)) → forL t js body (xs.map enc) (R s) = some (.nx (R (xs.foldl step s))) ∧ I [] (xs.foldl step s)
  | [], s, hI, _ => ⟨rfl, hI⟩
  | a :: xs, s, hI, h => by
    obtain ⟨h1, h4⟩ := h s a xs hI
    have ih := forL_nxR R step I xs (step s a) h4 h
    refine ⟨?_, ih.2⟩
    rw [List.map_cons, forL_cons h1]
    exact ih.1
/-- a loop that a turn may leave by a return -/
theorem forL_opt {α β : Type} {enc : α → PyData} {t : Tg} {js : List Nat} {body : Dst} (R : β → Rho) (step : β → α → Option β) (I : β → Prop) : ∀ (xs : List α) (s : β), I s →
    (∀ s a, I s → a ∈ xs → match step s a with
      | some s' => one t js body (enc a) (R s) = some (.nx (R s')) ∧ I s'
      | none => ∃ d, one t js body (enc a) (R s) = some (.rt d) ∧ isNon d = false) → match xs.foldlM step s with
      | some s' => forL t js body (xs.map enc) (R s) = some (.nx (R s')) ∧ I s'
      | none => ∃ d, forL t js body (xs.map enc) (R s) = some (.rt d) ∧ isNon d = false
  | [], s, hI, _ => ⟨rfl, hI⟩
  | a :: xs, s, hI, h => by
    have h3 := h s a hI (List.mem_cons_self ..)
    rw [List.foldlM_cons]
    cases e : step s a with
    | none =>
      rw [e] at h3
      obtain ⟨d, h1, hd⟩ := h3
      exact ⟨d, by rw [List.map_cons, forL_cons h1], hd⟩
    | some s' =>
      rw [e] at h3
      obtain ⟨h1, hI'⟩ := h3
      have ih := forL_opt R step I xs s' hI' fun s'' a' i' m => h s'' a' i' (List.mem_cons_of_mem _ m)
      rw [List.map_cons, forL_cons h1]
      exact ih

/-! ### ears -/
def lossT (E : List Er) (s u : Int) : Int := (E.map fun e => e.r * max 0 (min u e.l - max s e.f)).sum
def emT (E : List Er) (a s u : Int) : Int := max 0 (a - lossT E s u)
def OkE (E : List Er) : Prop := ∀ e ∈ E, 0 ≤ e.r ∧ e.r ≤ 1000 ∧ 0 ≤ e.f
theorem foldl_sum {α : Type} (g : α → Int) : ∀ (xs : List α) (s : Int), xs.foldl (fun s a => s + g a) s = s + (xs.map g).sum
  | [], s => by simp
  | x :: xs, s => by rw [List.foldl_cons, foldl_sum g xs, List.map_cons, List.sum_cons]; omega
theorem loss {E : List Er} {s u : Int} (h : OkE E) : g_loss [.list (E.map eEr), .int s, .int u] = some (.int (lossT E s u)) := by
  refine run_eq rfl ?_
  have key := forL_nx (enc := eEr) (t := .many [4, 5, 6]) (js := [4, 5, 6])
    (body := b_loss_1)
    (fun f : Int => [some (.list (E.map eEr)), some (.int s), some (.int u), some (.int f), none, none, none]) (fun f e => f + e.r * max 0 (min u e.l - max s e.f)) (fun _ => True) E 0 trivial fun f e _ he => by
      obtain ⟨h1, h2, h3⟩ := h e he
      have hm : sm e.r = true := by simp [sm]; omega
      exact ⟨by simp [one, b_loss_1, eEr, ev_toTgM, setMany, ev_gMul (.inl hm), wOut, wipe], trivial⟩
  simp [b_loss, Da.start, ev_sSeq, key.1, foldl_sum, lossT]
theorem emptied {S : Sky} {a s u : Int} (h : OkE S.ears) : g_emptied [eSky S, .int a, .int s, .int u] = some (.int (emT S.ears a s u)) := by
  refine run_eq rfl ?_
  simp [b_emptied, Da.start, loss h, emT]
structure OkS (S : Sky) : Prop where
  ears : OkE S.ears
  t0 : 0 < S.turn
  t1 : S.turn ≤ 1000
  len : S.looks.length ≤ 5
  elen : S.ears.length ≤ 3
def lk (S : Sky) (i : Nat) : Lk := S.looks[i]?.getD ⟨0, 0, 0, 0, 0⟩
theorem lk_get {S : Sky} {i : Nat} (h : i < S.looks.length) : S.looks[i]? = some (lk S i) := by
  unfold lk
  rw [List.getElem?_eq_getElem h]
  rfl
def InS (S : Sky) (i : Nat) : Prop := i < S.looks.length
def eO : Option Nat → PyData
  | none => .none
  | some i => eN i
theorem follows {S : Sky} {i j : Nat} (o : OkS S) (hi : InS S i) (hj : InS S j) : g_follows [eSky S, eN i, eN j] = some (.bool (decide ((lk S i).e + turnT S (lk S i) (lk S j) ≤ (lk S j).s))) := by
  refine run_eq rfl ?_
  have e1 := lk_get hj
  have h1 := end_of (lk_get hi)
  have h2 := turning (lk_get hi) (lk_get hj) o.t0 (by have := o.t1; omega)
  simp [b_follows, Da.start, h1, h2, e1]
/-- what is stored at a time, behind the plan's last look -/
def stT (S : Sky) (last : Option Nat) (a t : Int) : Int := match last with
  | none => 0
  | some j => emT S.ears a (lk S j).e t
theorem stored_at {S : Sky} {last : Option Nat} {a t : Int} (o : OkS S) (hl : ∀ j, last = some j → InS S j) : g_stored_at [eSky S, eO last, .int a, .int t] = some (.int (stT S last a t)) := by
  refine run_eq rfl ?_
  cases last with
  | none => simp [b_stored_at, Da.start, eO, ev_sSeq, stT]
  | some j =>
    have h1 := end_of (lk_get (hl j rfl))
    simp [b_stored_at, Da.start, eO, ev_sSeq, stT, h1, emptied o.ears]
def lvT (S : Sky) (last : Option Nat) (a : Int) (i : Nat) : Option Int := if stT S last a (lk S i).s + (lk S i).z > S.cap then none else some (stT S last a ((lk S i).s + (lk S i).l) + (lk S i).z)
def eOI : Option Int → PyData
  | none => .none
  | some i => .int i
theorem level_behind {S : Sky} {last : Option Nat} {a : Int} {i : Nat} (o : OkS S) (hl : ∀ j, last = some j → InS S j) (hi : InS S i) : g_level_behind [eSky S, eO last, .int a, eN i] = some (eOI (lvT S last a i)) := by
  refine run_eq rfl ?_
  have e1 := lk_get hi
  have h1 := fun t => stored_at (a := a) (t := t) o hl
  by_cases hc : stT S last a (lk S i).s + (lk S i).z > S.cap
  · simp [b_level_behind, Da.start, ev_sSeq, e1, eLk, ev_toTgM, setMany, h1, lvT, hc, eOI]
  · have hc' : ¬ S.cap < stT S last a (lk S i).s + (lk S i).z := hc
    simp [b_level_behind, Da.start, ev_sSeq, e1, eLk, ev_toTgM, setMany, h1, lvT, hc', eOI]
/-- a plan as far as it has come -/
structure Pt where
  last : Option Nat
  am : Int
  seen : List Int
def stepW (S : Sky) (p : Pt) (i : Nat) : Option Pt :=
  if (∃ j, p.last = some j ∧ i ≤ j) ∨ (lk S i).w ∈ p.seen ∨ (∃ j, p.last = some j ∧ ¬ ((lk S j).e + turnT S (lk S j) (lk S i) ≤ (lk S i).s)) then none
  else (lvT S p.last p.am i).map fun a => ⟨some i, a, p.seen ++ [(lk S i).w]⟩
end Pl
set_option linter.all false
set_option maxRecDepth 100000
/-! Ev3: comprehensions, ranges; wrong_in, is_plan, worth_of. -/
namespace Pl
open PySem Da
def cTurn (t : Tg) (c : Dts) (e : Dn) (d : PyData) (r : Rho) : Option (Option PyData) := (toTg t d r).bind fun r1 => (c r1).bind fun k => if k = true then (e r1).map some else some none
theorem compL_run {α : Type} {enc : α → PyData} {t : Tg} {c : Dts} {e : Dn} {r : Rho} (q : α → Option PyData) : ∀ (xs : List α), (∀ a ∈ xs, cTurn t c e (enc a) r = some (q a)) → compL t c e r (xs.map enc) = some (xs.filterMap q)
  | [], _ => rfl
  | a :: xs, h => by
    have h1 := h a (List.mem_cons_self ..)
    have ih := compL_run q xs fun b hb => h b (List.mem_cons_of_mem _ hb)
    unfold cTurn at h1
    rw [List.map_cons]
    unfold compL
    obtain ⟨r1, e1, h2⟩ := Option.bind_eq_some_iff.mp h1
    obtain ⟨k, e2, h3⟩ := Option.bind_eq_some_iff.mp h2
    rw [e1]
    show (c r1).bind _ = _
    rw [e2]
    show (if k = true then _ else _) = _
    cases k with
    | true =>
      simp only [if_true] at h3 ⊢
      obtain ⟨y, e3, h4⟩ := Option.map_eq_some_iff.mp h3
      rw [e3, ih, List.filterMap_cons, ← h4]
      rfl
    | false =>
      simp only [Bool.false_eq_true, if_false] at h3 ⊢
      rw [ih, List.filterMap_cons, ← Option.some.inj h3]
theorem dComp_run {α : Type} {enc : α → PyData} {t : Tg} {js : List Nat} {it : Dl} {c : Dts} {e : Dn} {r : Rho} {xs : List α} (q : α → Option PyData) (hi : it r = some (xs.map enc)) (h : ∀ a ∈ xs, cTurn t c e (enc a) (wipe js r) = some (q a)) : dComp t js it c e r = some (.list (xs.filterMap q)) := by
  rw [ev_dComp, hi]
  show (compL t c e (wipe js r) (xs.map enc)).map _ = _
  rw [compL_run q xs h]
  rfl
theorem fm_map {α β : Type} (g : α → β) (xs : List α) : xs.filterMap (fun a => some (g a)) = xs.map g := by
  induction xs with
  | nil => rfl
  | cons x xs ih => rw [List.filterMap_cons, ih]; rfl
theorem fm_if {α β : Type} (p : α → Bool) (g : α → β) (xs : List α) : xs.filterMap (fun a => if p a = true then some (g a) else none) = (xs.filter p).map g := by
  induction xs with
  | nil => rfl
  | cons x xs ih =>
    rw [List.filterMap_cons, List.filter_cons]
    cases h : p x <;> simp [h, ih]
@[simp] theorem ev_yes {r : Rho} : yes r = some true := (rfl)
theorem itR_nat (n : Nat) : itR 0 (n : Int) = (List.range n).map eN := by
  unfold itR
  rw [Int.sub_zero, Int.toNat_natCast]
  refine List.map_congr_left fun k _ => ?_
  rw [Int.zero_add]
theorem itR_two (a b : Nat) : itR (a : Int) (b : Int) = (List.range' a (b - a)).map eN := by
  unfold itR
  rw [List.range'_eq_map_range, List.map_map]
  have e : ((b : Int) - (a : Int)).toNat = b - a := by omega
  rw [e]
  refine List.map_congr_left fun k _ => ?_
  show PyData.int _ = PyData.int _
  congr 1
theorem rng1 {f : Dn} {r : Rho} {n : Nat} (h : f r = some (.int (n : Int))) (hn : n ≤ 1000000) : itRng1 f r = some ((List.range n).map eN) := by
  unfold itRng1
  rw [h]
  show (if rgOk (n : Int) = true then some (itR 0 (n : Int)) else none) = _
  rw [if_pos (by unfold rgOk; simp; omega), itR_nat]
theorem rng2 {f g : Dn} {r : Rho} {a b : Nat} (h : f r = some (.int (a : Int))) (h2 : g r = some (.int (b : Int))) (ha : a ≤ 1000000) (hb : b ≤ 1000000) : itRng2 f g r = some ((List.range' a (b - a)).map eN) := by
  unfold itRng2
  rw [h, h2]
  show (if (rgOk (a : Int) && rgOk (b : Int)) = true then some (itR (a : Int) (b : Int)) else none) = _
  rw [if_pos (by unfold rgOk; simp; omega), itR_two]
@[simp] theorem ints_map (xs : List Int) : ints? (xs.map .int) = some xs := by
  induction xs with
  | nil => rfl
  | cons x xs ih =>
    rw [List.map_cons]
    show (ints? (xs.map .int)).map _ = _
    rw [ih]
    rfl
@[simp] theorem ints_mapN (xs : List Nat) : ints? (xs.map eN) = some (xs.map fun n : Nat => (n : Int)) := by
  have : xs.map eN = (xs.map fun n : Nat => (n : Int)).map .int := by rw [List.map_map]; rfl
  rw [this, ints_map]
@[simp] theorem ev_gInL {i : Int} {xs : List Int} : gIn (.int i) (.list (xs.map .int)) = some (.bool (decide (i ∈ xs))) := by
  show (ints? (xs.map .int)).map _ = _
  rw [ints_map]; rfl
@[simp] theorem ev_gInT {i : Int} {xs : List Int} : gIn (.int i) (.tuple (xs.map .int)) = some (.bool (decide (i ∈ xs))) := by
  show (ints? (xs.map .int)).map _ = _
  rw [ints_map]; rfl
@[simp] theorem ev_gNotInL {i : Int} {xs : List Int} : gNotIn (.int i) (.list (xs.map .int)) = some (.bool (!decide (i ∈ xs))) := by
  show (ints? (xs.map .int)).map _ = _
  rw [ints_map]; rfl
@[simp] theorem ev_gNotInT {i : Int} {xs : List Int} : gNotIn (.int i) (.tuple (xs.map .int)) = some (.bool (!decide (i ∈ xs))) := by
  show (ints? (xs.map .int)).map _ = _
  rw [ints_map]; rfl
theorem memN {i : Nat} {xs : List Nat} : ((i : Int) ∈ xs.map fun n : Nat => (n : Int)) ↔ i ∈ xs := by
  rw [List.mem_map]
  exact ⟨fun ⟨a, h, e⟩ => by have : a = i := Int.ofNat.inj e; exact this ▸ h, fun h => ⟨i, h, rfl⟩⟩
@[simp] theorem ev_gNotInLN {i : Nat} {xs : List Nat} : gNotIn (.int (i : Int)) (.list (xs.map eN)) = some (.bool (!decide (i ∈ xs))) := by
  show (ints? (xs.map eN)).map _ = _
  rw [ints_mapN, Option.map_some, decide_eq_decide.mpr memN]
@[simp] theorem ev_gNotInTN {i : Nat} {xs : List Nat} : gNotIn (.int (i : Int)) (.tuple (xs.map eN)) = some (.bool (!decide (i ∈ xs))) := by
  show (ints? (xs.map eN)).map _ = _
  rw [ints_mapN, Option.map_some, decide_eq_decide.mpr memN]
@[simp] theorem ev_gInLN {i : Nat} {xs : List Nat} : gIn (.int (i : Int)) (.list (xs.map eN)) = some (.bool (decide (i ∈ xs))) := by
  show (ints? (xs.map eN)).map _ = _
  rw [ints_mapN, Option.map_some, decide_eq_decide.mpr memN]
@[simp] theorem ev_gInTN {i : Nat} {xs : List Nat} : gIn (.int (i : Int)) (.tuple (xs.map eN)) = some (.bool (decide (i ∈ xs))) := by
  show (ints? (xs.map eN)).map _ = _
  rw [ints_mapN, Option.map_some, decide_eq_decide.mpr memN]
@[simp] theorem ev_gSum {xs : List Int} : gSum [.list (xs.map .int)] = some (.int xs.sum) := by
  show (ints? (xs.map .int)).map _ = _
  rw [ints_map]; rfl
def appTo (i : Nat) (f : Dn) (r : Rho) : PyData → Option Out
  | .list xs => (f r).bind fun d => if xs.length < big then some (.nx (r.set i (some (.list (xs ++ [d]))))) else none
  | _ => none
@[simp] theorem ev_sApp {i : Nat} {f : Dn} {r : Rho} : sApp i f r = (dVar i r).bind (appTo i f r) := by
  unfold sApp
  cases dVar i r with
  | none => rfl
  | some d => cases d <;> rfl
@[simp] theorem ev_appTo {i : Nat} {f : Dn} {r : Rho} {xs : List PyData} : appTo i f r (.list xs) = (f r).bind fun d => if xs.length < big then some (.nx (r.set i (some (.list (xs ++ [d]))))) else none := (rfl)
def enIt : PyData → Option (List PyData)
  | .list xs => some (enumL 0 xs)
  | _ => none
@[simp] theorem ev_itEnum {f : Dn} {r : Rho} : itEnum f r = (f r).bind enIt := by
  unfold itEnum
  cases f r with
  | none => rfl
  | some d => cases d <;> rfl
theorem enumL_map {α : Type} (enc : α → PyData) : ∀ (xs : List α) (n : Nat), enumL n (xs.map enc) = (xs.zipIdx n).map fun p => .tuple [.int (p.2 : Int), enc p.1]
  | [], n => rfl
  | x :: xs, n => by
    rw [List.map_cons, List.zipIdx_cons, List.map_cons]
    unfold enumL
    rw [enumL_map enc xs (n + 1)]
@[simp] theorem ev_enIt {α : Type} {enc : α → PyData} {xs : List α} : enIt (.list (xs.map enc)) = some ((xs.zipIdx 0).map fun p => .tuple [.int (p.2 : Int), enc p.1]) := by
  show some (enumL 0 (xs.map enc)) = _
  rw [enumL_map]
theorem foldlM_zipIdx {α β : Type} (g : β → α → Option β) : ∀ (xs : List α) (n : Nat) (s : β), (xs.zipIdx n).foldlM (fun s p => g s p.1) s = xs.foldlM g s
  | [], n, s => rfl
  | x :: xs, n, s => by
    rw [List.zipIdx_cons, List.foldlM_cons, List.foldlM_cons]
    cases h : g s x with
    | none => rfl
    | some s' => exact foldlM_zipIdx g xs (n + 1) s'
@[simp] theorem isNon_tup {d : List PyData} : isNon (.tuple d) = false := rfl

/-! ### plans -/
def pt0 : Pt := ⟨none, 0, []⟩
def planF (S : Sky) (xs : List Nat) : Option Pt := xs.foldlM (stepW S) pt0
def WfP (S : Sky) (p : Pt) : Prop := (∀ j, p.last = some j → InS S j ∧ p.seen.length ≤ j + 1) ∧ (p.last = none → p.seen = [])
theorem stepW_wf {S : Sky} {p q : Pt} {i : Nat} (h : WfP S p) (hi : InS S i) (e : stepW S p i = some q) : WfP S q := by
  unfold stepW at e
  split at e
  · cases e
  · rename_i hc
    obtain ⟨a, e1, e2⟩ := Option.map_eq_some_iff.mp e
    subst e2
    refine ⟨fun j hj => ?_, fun z => by cases z⟩
    cases hj
    refine ⟨hi, ?_⟩
    show (p.seen ++ [(lk S i).w]).length ≤ i + 1
    rw [List.length_append, List.length_singleton]
    cases hl : p.last with
    | none => rw [h.2 hl]; simp
    | some j =>
      have := (h.1 j hl).2
      have : ¬ i ≤ j := fun z => hc (.inl ⟨j, hl, z⟩)
      omega
theorem eOI_non {x : Option Int} : gIsN (eOI x) = some (.bool x.isNone) := by cases x <;> rfl
theorem wf0 {S : Sky} : WfP S pt0 := ⟨fun j hj => (nomatch hj), fun _ => rfl⟩
theorem wf_len {S : Sky} {p : Pt} (o : OkS S) (hp : WfP S p) : p.seen.length ≤ 5 := by
  cases hq : p.last with
  | none => rw [hp.2 hq]; decide
  | some j =>
    have := (hp.1 j hq).2
    have h5 : j < S.looks.length := (hp.1 j hq).1
    have := o.len
    omega
theorem wrong_turn {S : Sky} {xs : List Nat} (o : OkS S) {p : Pt} {i n : Nat} (hp : WfP S p) (hi : InS S i) : match stepW S p i with
    | some q => one (.many [5, 6]) [5, 6] b_wrong_in_1 (.tuple [.int (n : Int), eN i]) [some (eSky S), some (eNs xs), some (eO p.last), some (.int p.am), some (.list (p.seen.map .int)), none, none] =
        some (.nx [some (eSky S), some (eNs xs), some (eO q.last), some (.int q.am), some (.list (q.seen.map .int)), none, none]) ∧ WfP S q
    | none => ∃ d, one (.many [5, 6]) [5, 6] b_wrong_in_1 (.tuple [.int (n : Int), eN i]) [some (eSky S), some (eNs xs), some (eO p.last), some (.int p.am), some (.list (p.seen.map .int)), none, none] = some (.rt d) ∧ isNon d = false := by
  have hl : ∀ j, p.last = some j → InS S j := fun j hj => (hp.1 j hj).1
  have e1 := lk_get hi
  have lv := level_behind (a := p.am) o hl hi
  have hb : p.seen.length < 16777216 := by have := wf_len o hp; omega
  have wf := fun q => stepW_wf (q := q) hp hi
  have fo := fun j (hj : p.last = some j) => follows o (hl j hj) hi
  obtain ⟨last, am, seen⟩ := p
  simp only at hl lv hb fo ⊢
  unfold stepW at wf ⊢
  simp only at wf ⊢
  have hr : ∀ last', last' = last → (lvT S last am i = none ∨ ∃ a, lvT S last am i = some a) := fun _ _ => by
    cases lvT S last am i with
    | none => exact .inl rfl
    | some a => exact .inr ⟨a, rfl⟩
  cases last with
  | none =>
    simp only [eO] at lv ⊢
    by_cases hw : (lk S i).w ∈ seen
    · rw [if_pos (.inr (.inl hw))]
      refine ⟨.tuple [.str (PySem.Str.ofString "wish"), .int (n : Int)], ?_, rfl⟩
      simp [one, ev_toTgM, setMany, b_wrong_in_1, ev_sSeq, e1, hw, wOut]
    · have hc : ¬ ((∃ j, (none : Option Nat) = some j ∧ i ≤ j) ∨ (lk S i).w ∈ seen ∨ ∃ j, (none : Option Nat) = some j ∧ ¬ ((lk S j).e + turnT S (lk S j) (lk S i) ≤ (lk S i).s)) := by
        rintro (⟨j, z, _⟩ | z | ⟨j, z, _⟩)
        · cases z
        · exact hw z
        · cases z
      rw [if_neg hc] at wf ⊢
      rcases hr none rfl with ha | ⟨a, ha⟩
      · rw [ha] at lv ⊢
        refine ⟨.tuple [.str (PySem.Str.ofString "room"), .int (n : Int)], ?_, rfl⟩
        simp [one, ev_toTgM, setMany, b_wrong_in_1, ev_sSeq, e1, hw, wOut, lv, eOI]
      · rw [ha] at lv wf ⊢
        refine ⟨?_, wf _ rfl⟩
        simp [one, ev_toTgM, setMany, b_wrong_in_1, ev_sSeq, e1, hw, wOut, lv, eOI, hb, big, wipe]
  | some j =>
    have fo := fo j rfl
    simp only [eO] at lv ⊢
    by_cases h1 : i ≤ j
    · rw [if_pos (.inl ⟨j, rfl, h1⟩)]
      refine ⟨.tuple [.str (PySem.Str.ofString "order"), .int (n : Int)], ?_, rfl⟩
      simp [one, ev_toTgM, setMany, b_wrong_in_1, ev_sSeq, e1, h1, wOut]
    by_cases hw : (lk S i).w ∈ seen
    · rw [if_pos (.inr (.inl hw))]
      refine ⟨.tuple [.str (PySem.Str.ofString "wish"), .int (n : Int)], ?_, rfl⟩
      simp [one, ev_toTgM, setMany, b_wrong_in_1, ev_sSeq, e1, h1, hw, wOut]
    by_cases hf : (lk S j).e + turnT S (lk S j) (lk S i) ≤ (lk S i).s
    · have hc : ¬ ((∃ j', some j = some j' ∧ i ≤ j') ∨ (lk S i).w ∈ seen ∨ ∃ j', some j = some j' ∧ ¬ ((lk S j').e + turnT S (lk S j') (lk S i) ≤ (lk S i).s)) := by
        rintro (⟨j', z, q⟩ | z | ⟨j', z, q⟩)
        · cases z; exact h1 q
        · exact hw z
        · cases z; exact q hf
      rw [if_neg hc] at wf ⊢
      rcases hr _ rfl with ha | ⟨a, ha⟩
      · rw [ha] at lv ⊢
        refine ⟨.tuple [.str (PySem.Str.ofString "room"), .int (n : Int)], ?_, rfl⟩
        simp [one, ev_toTgM, setMany, b_wrong_in_1, ev_sSeq, e1, h1, hw, wOut, lv, eOI, fo, hf]
      · rw [ha] at lv wf ⊢
        refine ⟨?_, wf _ rfl⟩
        simp [one, ev_toTgM, setMany, b_wrong_in_1, ev_sSeq, e1, h1, hw, wOut, lv, eOI, fo, hf, hb, big, wipe]
    · rw [if_pos (.inr (.inr ⟨j, rfl, hf⟩))]
      refine ⟨.tuple [.str (PySem.Str.ofString "turning"), .int (n : Int)], ?_, rfl⟩
      simp [one, ev_toTgM, setMany, b_wrong_in_1, ev_sSeq, e1, h1, hw, wOut, fo, hf]
theorem wrong_in {S : Sky} {xs : List Nat} (o : OkS S) (hx : ∀ i ∈ xs, InS S i) : ∃ d, g_wrong_in [eSky S, eNs xs] = some d ∧ isNon d = (planF S xs).isSome := by
  have key := forL_opt (enc := fun p : Nat × Nat => .tuple [.int (p.2 : Int), eN p.1]) (t := .many [5, 6]) (js := [5, 6]) (body := b_wrong_in_1)
    (fun p : Pt => [some (eSky S), some (eNs xs), some (eO p.last), some (.int p.am), some (.list (p.seen.map .int)), none, none]) (fun p x => stepW S p x.1) (WfP S) (xs.zipIdx 0) pt0 wf0 fun p x hp hm => by
      obtain ⟨i, n⟩ := x
      have hi : InS S i := hx i (by
        have := List.mem_zipIdx hm
        rw [this.2.2]
        exact List.getElem_mem _)
      have w := wrong_turn (xs := xs) (n := n) o hp hi
      split
      · rename_i q hq
        have hq' : stepW S p i = some q := hq
        rw [hq'] at w
        exact w
      · rename_i hq
        have hq' : stepW S p i = none := hq
        rw [hq'] at w
        exact w
  rw [foldlM_zipIdx] at key
  have st : ∀ x, forL (.many [5, 6]) [5, 6] b_wrong_in_1 ((xs.zipIdx 0).map fun p => .tuple [.int (p.2 : Int), eN p.1]) [some (eSky S), some (eNs xs), some .none, some (.int 0), some (.list []), none, none] = x →
      b_wrong_in (Da.start 7 [eSky S, eNs xs]) = (x.bind fun o => match o with | .nx _ => some (.rt .none) | o => some o) := fun x hx => by
    subst hx
    simp [b_wrong_in, Da.start, ev_sSeq]
    try rfl
  show ∃ d, _ = some d ∧ isNon d = (xs.foldlM (stepW S) pt0).isSome
  cases hq : xs.foldlM (stepW S) pt0 with
  | none =>
    rw [hq] at key
    obtain ⟨d, h1, h2⟩ := key
    exact ⟨d, run_eq rfl (st _ h1), h2⟩
  | some p =>
    rw [hq] at key
    exact ⟨.none, run_eq rfl (st _ key.1), rfl⟩
theorem is_plan {S : Sky} {xs : List Nat} (o : OkS S) (hx : ∀ i ∈ xs, InS S i) : g_is_plan [eSky S, eNs xs] = some (.bool (planF S xs).isSome) := by
  obtain ⟨d, h1, h2⟩ := wrong_in o hx
  refine run_eq rfl ?_
  have : gIsN d = some (.bool (planF S xs).isSome) := by unfold gIsN; rw [h2]
  simp [b_is_plan, Da.start, h1, this]
end Pl
set_option linter.all false
set_option maxRecDepth 100000
/-! Ev4: worth_of, the states. -/
namespace Pl
open PySem Da
theorem gIx_int {α : Type} {e : α → PyData} {xs : List α} {w : Int} (h : 0 ≤ w) : gIx (.list (xs.map e)) (.int w) = (xs[w.toNat]?).map e := by
  obtain ⟨n, rfl⟩ := Int.eq_ofNat_of_zero_le h
  exact ev_gIx
/-! ### sorting -/
def srt {α : Type} (enc : α → PyData) (xs : List α) : List α := xs.mergeSort fun a b => !pLt (enc b) (enc a)
def srtR {α : Type} (enc : α → PyData) (xs : List α) : List α := xs.mergeSort fun a b => !pLt (enc a) (enc b)
theorem srt_perm {α : Type} (enc : α → PyData) (xs : List α) : (srt enc xs).Perm xs := List.mergeSort_perm ..
theorem srtR_perm {α : Type} (enc : α → PyData) (xs : List α) : (srtR enc xs).Perm xs := List.mergeSort_perm ..
theorem sortL_map {α : Type} {enc : α → PyData} {xs : List α} : sortL false (xs.map enc) = (srt enc xs).map enc := by
  unfold sortL srt
  rw [List.map_mergeSort (s := fun a b => !pLt b a)]
  · simp
  · intro a _ b _; rfl
theorem sortL_mapR {α : Type} {enc : α → PyData} {xs : List α} : sortL true (xs.map enc) = (srtR enc xs).map enc := by
  unfold sortL srtR
  rw [List.map_mergeSort (s := fun a b => !pLt a b)]
  · simp
  · intro a _ b _; rfl
theorem canSort_map {α : Type} {enc : α → PyData} {xs : List α} (hc : ∀ a ∈ xs, ∀ b ∈ xs, pal (enc a) (enc b) = true) (ho : ∀ a ∈ xs, okD 8 (enc a) = true) : canSort (xs.map enc) = true := by
  unfold canSort
  simp only [Bool.and_eq_true, List.all_eq_true, List.mem_map, forall_exists_index, and_imp, forall_apply_eq_imp_iff₂]
  exact ⟨fun a ha b hb => hc a ha b hb, ho⟩
theorem sorted_list {α : Type} {enc : α → PyData} {xs : List α} (hc : ∀ a ∈ xs, ∀ b ∈ xs, pal (enc a) (enc b) = true) (ho : ∀ a ∈ xs, okD 8 (enc a) = true) : gSorted false [.list (xs.map enc)] = some (.list ((srt enc xs).map enc)) := by
  show (if canSort (xs.map enc) = true then some (PyData.list (sortL false (xs.map enc))) else none) = _
  rw [if_pos (canSort_map hc ho), sortL_map]
theorem sorted_tup {α : Type} {enc : α → PyData} {xs : List α} (hc : ∀ a ∈ xs, ∀ b ∈ xs, pal (enc a) (enc b) = true) (ho : ∀ a ∈ xs, okD 8 (enc a) = true) : gSorted false [.tuple (xs.map enc)] = some (.list ((srt enc xs).map enc)) := by
  show (if canSort (xs.map enc) = true then some (PyData.list (sortL false (xs.map enc))) else none) = _
  rw [if_pos (canSort_map hc ho), sortL_map]
@[simp] theorem pal_int {a b : Int} : pal (.int a) (.int b) = true := rfl
@[simp] theorem ok_int {a : Int} {n : Nat} : okD n (.int a) = true := by cases n <;> rfl
theorem pals_ints : ∀ (as bs : List Int), pals (as.map .int) (bs.map .int) = true
  | [], _ => by simp [pals]
  | _ :: _, [] => by simp [pals]
  | a :: as, b :: bs => by simp [pals, pals_ints as bs]
theorem okDs_ints (n : Nat) : ∀ (as : List Int), okDs n (as.map .int) = true
  | [] => by simp [okDs]
  | a :: as => by simp [okDs, okDs_ints n as]
theorem mapN (xs : List Nat) : xs.map eN = (xs.map fun n : Nat => (n : Int)).map .int := by rw [List.map_map]; rfl
def eT (xs : List Nat) : PyData := .tuple (xs.map eN)
theorem pals_N (a b : List Nat) : pals (a.map eN) (b.map eN) = true := by
  rw [mapN, mapN]
  exact pals_ints _ _
theorem okDs_N (n : Nat) (a : List Nat) : okDs n (a.map eN) = true := by
  rw [mapN]
  exact okDs_ints n _
theorem pal_eT (a b : List Nat) : pal (eT a) (eT b) = true := by
  unfold eT pal
  exact pals_N a b
theorem ok_eT (a : List Nat) {n : Nat} : okD (n + 1) (eT a) = true := by
  unfold eT okD
  exact okDs_N n a
theorem pal_eL (a b : List Nat) : pal (eNs a) (eNs b) = true := by
  unfold eNs pal
  exact pals_N a b
theorem ok_eL (a : List Nat) {n : Nat} : okD (n + 1) (eNs a) = true := by
  unfold eNs okD
  exact okDs_N n a

/-! ### worth -/
def OkW (S : Sky) : Prop := ∀ k ∈ S.looks, 0 ≤ k.w ∧ k.w < S.worths.length
theorem okW_lk {S : Sky} (h : OkW S) {i : Nat} (hi : InS S i) : 0 ≤ (lk S i).w ∧ (lk S i).w < S.worths.length := h _ (List.mem_of_getElem? (lk_get hi))
def wq (S : Sky) (w : Int) : Int := S.worths[w.toNat]?.getD 0
theorem wq_get {S : Sky} {w : Int} (h : 0 ≤ w) (h2 : w < S.worths.length) : gIx (.list (S.worths.map .int)) (.int w) = some (.int (wq S w)) := by
  rw [gIx_int h]
  unfold wq
  have : w.toNat < S.worths.length := by omega
  rw [List.getElem?_eq_getElem this]
  rfl
def addW (acc : List Int) (w : Int) : List Int := if w ∈ acc then acc else acc ++ [w]
def wishes (S : Sky) (xs : List Nat) : List Int := xs.foldl (fun acc i => addW acc (lk S i).w) []
def worthT (S : Sky) (xs : List Nat) : Int := ((wishes S xs).map (wq S)).sum
theorem worth_of {S : Sky} {xs : List Nat} (hw : OkW S) (hx : ∀ i ∈ xs, InS S i) (hn : xs.length ≤ 1000) : g_worth_of [eSky S, eNs xs] = some (.int (worthT S xs)) := by
  have key := forL_nxR (enc := eN) (t := .one 3) (js := [3]) (body := b_worth_of_1)
    (fun acc : List Int => [some (eSky S), some (eNs xs), some (.list (acc.map .int)), none, none]) (fun acc i => addW acc (lk S i).w) (fun rest acc => (∀ i ∈ rest, InS S i) ∧ acc.length + rest.length ≤ 1000 ∧ ∀ w ∈ acc, 0 ≤ w ∧ w < S.worths.length) xs [] ⟨hx, by simpa using hn, fun w h => absurd h (by simp)⟩ fun acc i rest hI => by
      obtain ⟨h1, h2, h3⟩ := hI
      have hi := h1 i (List.mem_cons_self ..)
      have e1 := lk_get hi
      rw [List.length_cons] at h2
      have hl : acc.length < 16777216 := by omega
      unfold addW
      by_cases hm : (lk S i).w ∈ acc
      · rw [if_pos hm]
        exact ⟨by simp [one, b_worth_of_1, e1, hm, wOut, wipe], fun j hj => h1 j (List.mem_cons_of_mem _ hj), by omega, h3⟩
      · rw [if_neg hm]
        refine ⟨by simp [one, b_worth_of_1, e1, hm, wOut, wipe, hl, big], fun j hj => h1 j (List.mem_cons_of_mem _ hj), by rw [List.length_append, List.length_singleton]; omega, fun w h => ?_⟩
        rcases List.mem_append.mp h with h | h
        · exact h3 w h
        · rw [List.mem_singleton.mp h]; exact okW_lk hw hi
  refine run_eq rfl ?_
  have hc : dComp (.one 4) [4] (itO (dVar 2)) yes (dB gIx (dB gIx (dVar 0) (dC (.int 1))) (dVar 4)) [some (eSky S), some (eNs xs), some (.list ((wishes S xs).map .int)), none, none] = some (.list (((wishes S xs).map (wq S)).map .int)) := by
    rw [dComp_run (enc := .int) (xs := wishes S xs) (fun w => some (.int (wq S w))) (by simp [itO]) fun w hw' => by
      have := key.2.2.2 w hw'
      simp [cTurn, wipe, wq_get this.1 this.2]]
    rw [fm_map, List.map_map]
    rfl
  have k1 := key.1
  simp only [List.map_nil] at k1
  simp [b_worth_of, Da.start, ev_sSeq, k1]
  rw [show (List.foldl (fun acc i => addW acc (lk S i).w) [] xs) = wishes S xs from rfl, hc]
  simp [worthT, -List.map_map]
end Pl
set_option linter.all false
set_option maxRecDepth 100000
/-! Ev5: the states of failing. -/
namespace Pl
open PySem Da
/-- what stands for names: a list or a tuple of numbers -/
structure Nm (d : PyData) (xs : List Nat) : Prop where
  seq : seq? d = some (xs.map eN)
  nin : ∀ i : Nat, gNotIn (.int (i : Int)) d = some (.bool (!decide (i ∈ xs)))
  isin : ∀ i : Nat, gIn (.int (i : Int)) d = some (.bool (decide (i ∈ xs)))
theorem nmL (xs : List Nat) : Nm (eNs xs) xs := ⟨rfl, fun i => by simp, fun i => by simp⟩
theorem nmT (xs : List Nat) : Nm (eT xs) xs := ⟨rfl, fun i => by simp [eT], fun i => by simp [eT]⟩
/-- the ears that are not named -/
def outE (E : List Er) (fs : List Nat) : List Er := (List.range E.length).filterMap fun i => if i ∈ fs then none else E[i]?
def woE (S : Sky) (fs : List Nat) : Sky := { S with ears := outE S.ears fs }
theorem range_it {E : List Er} {i : Nat} (h : i ∈ List.range E.length) : ∃ e, E[i]? = some e := ⟨_, List.getElem?_eq_getElem (List.mem_range.mp h)⟩
theorem fm_get {α β : Type} {q : α → Option β} {g : β → PyData} (xs : List α) : xs.filterMap (fun a => (q a).map g) = (xs.filterMap q).map g := by
  rw [List.map_filterMap]
theorem without_ears {S : Sky} {d : PyData} {fs : List Nat} (o : OkS S) (h : Nm d fs) : g_without_ears [eSky S, d] = some (eSky (woE S fs)) := by
  refine run_eq rfl ?_
  have hl : S.ears.length ≤ 1000000 := by have := o.elen; omega
  have hc : dComp (.one 8) [8] (itRng1 (dCall gLen (aCons (dVar 4) aNil))) (tV (dB gNotIn (dVar 8) (dVar 1))) (dB gIx (dVar 4) (dVar 8))
      [some (eSky S), some d, some (.list (S.looks.map eLk)), some (.list (S.worths.map .int)), some (.list (S.ears.map eEr)), some (.int S.cap), some (.int S.turn), none, none] = some (.list ((outE S.ears fs).map eEr)) := by
    rw [dComp_run (enc := eN) (xs := List.range S.ears.length) (fun i => ((if i ∈ fs then none else S.ears[i]?) : Option Er).map eEr) (rng1 (by simp) hl) fun i hi => by
      obtain ⟨e, he⟩ := range_it hi
      by_cases hm : i ∈ fs <;> simp [cTurn, wipe, h.nin, hm, he]]
    rw [fm_get]
    rfl
  have e0 : toTg (.many [2, 3, 4, 5, 6]) (eSky S) [some (eSky S), some d, none, none, none, none, none, none, none] = some [some (eSky S), some d, some (.list (S.looks.map eLk)), some (.list (S.worths.map .int)), some (.list (S.ears.map eEr)), some (.int S.cap), some (.int S.turn), none, none] := by
    unfold eSky
    simp [ev_toTgM, setMany]
  simp [b_without_ears, Da.start, ev_sSeq, e0, hc]
  rfl
/-- all ways that the named may fail too, at most so many -/
def allW (ns fl : List Nat) : List (List Nat) := ns.foldl (fun F n => F ++ F.map (· ++ [n])) [fl]
theorem allW_len (ns : List Nat) : ∀ F : List (List Nat), (ns.foldl (fun F n => F ++ F.map (· ++ [n])) F).length = F.length * 2 ^ ns.length := by
  induction ns with
  | nil => intro F; simp
  | cons n ns ih =>
    intro F
    rw [List.foldl_cons, ih, List.length_append, List.length_map, List.length_cons, Nat.pow_succ]
    rw [← Nat.two_mul, Nat.mul_comm 2, Nat.mul_assoc, Nat.mul_comm 2]
def ways (ns fl : List Nat) (most : Nat) : List (List Nat) := srt eT ((allW ns fl).filter fun f => decide (f.length ≤ most))
theorem foldW_size (ns : List Nat) : ∀ (F : List (List Nat)) (k : Nat), (∀ f ∈ F, f.length ≤ k) → ∀ f ∈ ns.foldl (fun F n => F ++ F.map (· ++ [n])) F, f.length ≤ k + ns.length := by
  induction ns with
  | nil => intro F k h f hf; simpa using h f hf
  | cons n ns ih =>
    intro F k h f hf
    have := ih (F ++ F.map (· ++ [n])) (k + 1) (fun g hg => by
      rcases List.mem_append.mp hg with hg | hg
      · have := h g hg; omega
      · obtain ⟨a, ha, rfl⟩ := List.mem_map.mp hg
        have := h a ha
        rw [List.length_append, List.length_singleton]; omega) f hf
    rw [List.length_cons]; omega
theorem ways_of {ns fl : List Nat} {most : Nat} (hn : ns.length ≤ 10) (hf : fl.length ≤ 100) : g_ways_of [eNs ns, eT fl, eN most] = some (.list ((ways ns fl most).map eT)) := by
  have key := forL_nxR (enc := eN) (t := .one 4) (js := [4]) (body := b_ways_of_1)
    (fun F : List (List Nat) => [some (eNs ns), some (eT fl), some (eN most), some (.list (F.map eT)), none, none]) (fun F n => F ++ F.map (· ++ [n])) (fun rest F => F.length * 2 ^ rest.length ≤ 1024 ∧ ∀ f ∈ F, f.length + rest.length ≤ 200) ns [fl] ⟨by
      rw [List.length_singleton, Nat.one_mul]; exact Nat.pow_le_pow_right (by decide) hn, fun f h => by rw [List.mem_singleton.mp h]; omega⟩ fun F n rest hI => by
      obtain ⟨h1, h2⟩ := hI
      rw [List.length_cons, Nat.pow_succ] at h1
      have hp : 1 ≤ 2 ^ rest.length := Nat.one_le_two_pow
      have hb : F.length ≤ 1024 := by
        have : F.length * 1 ≤ F.length * (2 ^ rest.length * 2) := Nat.mul_le_mul_left _ (by omega)
        omega
      have hc : dComp (.one 5) [5] (itS (dVar 3)) yes (dB gCatT (dVar 5) (dTup (aCons (dVar 4) aNil))) [some (eNs ns), some (eT fl), some (eN most), some (.list (F.map eT)), some (eN n), none] = some (.list ((F.map (· ++ [n])).map eT)) := by
        rw [dComp_run (enc := eT) (xs := F) (fun f => some (eT (f ++ [n]))) (by simp) fun f hf' => by
          have hl := h2 f hf'
          have hcat : gCatT (eT f) (.tuple [eN n]) = some (eT (f ++ [n])) := by
            show (if (f.map eN).length + [eN n].length ≤ big then some (PyData.tuple (f.map eN ++ [eN n])) else none) = _
            rw [if_pos (by rw [List.length_map, List.length_singleton]; unfold big; omega)]
            unfold eT
            rw [List.map_append]; rfl
          simp [cTurn, wipe, hcat]]
        rw [fm_map, List.map_map]
        rfl
      have hcat : gCatL (.list (F.map eT)) (.list ((F.map (· ++ [n])).map eT)) = some (.list ((F ++ F.map (· ++ [n])).map eT)) := by
        show (if _ ≤ big then some (PyData.list _) else none) = _
        rw [if_pos (by rw [List.length_map, List.length_map, List.length_map]; unfold big; omega), List.map_append]
      refine ⟨?_, ?_, ?_⟩
      · simp only [one, b_ways_of_1, ev_toTg1, Option.bind_some, ev_sAsg, ev_dB, ev_dVar, List.set_cons_succ, List.set_cons_zero, List.getElem?_cons_succ, List.getElem?_cons_zero, Option.getD_some, hc, hcat, Option.map_some, wOut]
        rfl
      · rw [List.length_append, List.length_map, ← Nat.two_mul, Nat.mul_comm 2, Nat.mul_assoc, Nat.mul_comm 2]
        exact h1
      · intro f hf'
        rcases List.mem_append.mp hf' with h | h
        · have := h2 f h; rw [List.length_cons] at this; omega
        · obtain ⟨a, ha, rfl⟩ := List.mem_map.mp h
          have := h2 a ha
          rw [List.length_cons] at this
          rw [List.length_append, List.length_singleton]; omega
  have hc : dComp (.one 5) [5] (itS (dVar 3)) (tV (dB gLe (dCall gLen (aCons (dVar 5) aNil)) (dVar 2))) (dVar 5) [some (eNs ns), some (eT fl), some (eN most), some (.list ((allW ns fl).map eT)), none, none] = some (.list (((allW ns fl).filter fun f => decide (f.length ≤ most)).map eT)) := by
    rw [dComp_run (enc := eT) (xs := allW ns fl) (fun f => if decide (f.length ≤ most) = true then some (eT f) else none) (by simp) fun f hf' => by
      have hlen : gLen [eT f] = some (.int (f.length : Nat)) := by unfold eT; simp
      by_cases hm : f.length ≤ most <;> simp [cTurn, wipe, hlen, hm]]
    rw [fm_if]
  refine run_eq rfl ?_
  have k1 := key.1
  have t0 : gToT [eT fl] = some (eT fl) := rfl
  have hs := sorted_list (enc := eT) (xs := (allW ns fl).filter fun f => decide (f.length ≤ most)) (fun a _ b _ => pal_eT a b) (fun a _ => ok_eT a)
  simp only [List.map_cons, List.map_nil] at k1
  simp only [b_ways_of, Da.start, ev_sSeq, ev_sAsg, ev_dLst, ev_aCons, ev_aNil, ev_dCall, ev_dVar, ev_toTg1, ev_sFor, ev_itS, List.map_cons, List.map_nil, List.length_cons, List.length_nil, List.replicate, List.cons_append, List.nil_append, List.getElem?_cons_succ, List.getElem?_cons_zero, Option.getD_some, Option.bind_some, t0, Option.map_some, List.set_cons_succ, List.set_cons_zero, ev_seqL, k1, ev_sRet]
  rw [show (ns.foldl (fun F n => F ++ F.map (· ++ [n])) [fl]) = allW ns fl from rfl, hc]
  simp only [Option.bind_some, hs, Option.map_some]
  rfl
def bb (S : Sky) (s u : Int) : List Nat := (List.range S.ears.length).filter fun i => match S.ears[i]? with
  | some e => decide (s < e.f) && decide (e.f ≤ u)
  | none => false
theorem begun_between {S : Sky} {s u : Int} (o : OkS S) : g_begun_between [eSky S, .int s, .int u] = some (eNs (bb S s u)) := by
  refine run_eq rfl ?_
  have hl : S.ears.length ≤ 1000000 := by have := o.elen; omega
  have hc : dComp (.one 3) [3] (itRng1 (dCall gLen (aCons (dB gIx (dVar 0) (dC (.int 2))) aNil))) (tV (dChain gLt gLe (dVar 1) (dB gIx (dB gIx (dB gIx (dVar 0) (dC (.int 2))) (dVar 3)) (dC (.int 0))) (dVar 2))) (dVar 3) [some (eSky S), some (.int s), some (.int u), none] = some (eNs (bb S s u)) := by
    rw [dComp_run (enc := eN) (xs := List.range S.ears.length) (fun i => if (match S.ears[i]? with
      | some e => decide (s < e.f) && decide (e.f ≤ u)
      | none => false) = true then some (eN i) else none) (rng1 (by simp) hl) fun i hi => by
      obtain ⟨e, he⟩ := range_it hi
      by_cases h1 : s < e.f <;> by_cases h2 : e.f ≤ u <;> simp [cTurn, wipe, he, h1, h2]]
    rw [fm_if]
    rfl
  simp [b_begun_between, Da.start, hc]
end Pl
set_option linter.all false
set_option maxRecDepth 100000
/-! Ev6: states, moves, what comes behind. -/
namespace Pl
open PySem Da
structure Zt where
  k : Nat
  last : Option Nat
  am : Int
  ws : List Int
  fl : List Nat
  deriving DecidableEq
def lI : Option Nat → Int
  | none => -1
  | some j => (j : Int)
def eZ (z : Zt) : PyData := .tuple [eN z.k, .int (lI z.last), .int z.am, .tuple (z.ws.map .int), eT z.fl]
@[simp] theorem z0 {z : Zt} : gIx (eZ z) (.int 0) = some (eN z.k) := by unfold eZ; simp
@[simp] theorem z4 {z : Zt} : gIx (eZ z) (.int 4) = some (eT z.fl) := by unfold eZ; simp
theorem pal_eZ (a b : Zt) : pal (eZ a) (eZ b) = true := by
  unfold eZ
  simp [pal, pals, pals_ints, pal_eT]
theorem ok_eZ (a : Zt) {n : Nat} : okD (n + 2) (eZ a) = true := by
  unfold eZ
  simp [okD, okDs, okDs_ints, ok_eT]
structure OkZ (S : Sky) (z : Zt) : Prop where
  k : InS S z.k
  last : ∀ j, z.last = some j → InS S j
  fl : z.fl.length ≤ 90
  ws : z.ws.length ≤ 1000
def mt (S : Sky) (z : Zt) : Bool := !(decide ((lk S z.k).w ∈ z.ws) || decide (z.am + (lk S z.k).z > S.cap)) && (match z.last with
  | none => true
  | some j => decide ((lk S j).e + turnT S (lk S j) (lk S z.k) ≤ (lk S z.k).s))
theorem may_take {S : Sky} {z : Zt} (o : OkS S) (h : OkZ S z) : g_may_take [eSky S, eZ z] = some (.bool (mt S z)) := by
  refine run_eq rfl ?_
  obtain ⟨k, last, am, ws, fl⟩ := z
  have e1 := lk_get h.k
  simp only at e1
  have tg : toTg (.many [2, 3, 4, 5, 6]) (eZ ⟨k, last, am, ws, fl⟩) [some (eSky S), some (eZ ⟨k, last, am, ws, fl⟩), none, none, none, none, none, none, none, none, none, none] =
      some [some (eSky S), some (eZ ⟨k, last, am, ws, fl⟩), some (eN k), some (.int (lI last)), some (.int am), some (.tuple (ws.map .int)), some (eT fl), none, none, none, none, none] := by
    unfold eZ
    simp [ev_toTgM, setMany]
  by_cases hw : (lk S k).w ∈ ws
  · simp [b_may_take, Da.start, ev_sSeq, tg, e1, eLk, ev_toTgM, setMany, hw, mt]
  by_cases hc : S.cap < am + (lk S k).z
  · simp [b_may_take, Da.start, ev_sSeq, tg, e1, eLk, ev_toTgM, setMany, hw, hc, mt]
  cases last with
  | none => simp [b_may_take, Da.start, ev_sSeq, tg, e1, eLk, ev_toTgM, setMany, hw, hc, mt, lI]
  | some j =>
    have hj := h.last j rfl
    have h1 := end_of (lk_get hj)
    have h2 := turning (lk_get hj) (lk_get h.k) o.t0 (by have := o.t1; omega)
    simp only at h2
    have hn : ¬ ((j : Int) < 0) := by omega
    simp [b_may_take, Da.start, ev_sSeq, tg, e1, eLk, ev_toTgM, setMany, hw, hc, mt, lI, h1, h2, hn]
def eM : Bool → PyData
  | true => .str (PySem.Str.ofString "take")
  | false => .str (PySem.Str.ofString "leave")
def moves (S : Sky) (z : Zt) : List Bool := if mt S z = true then [false, true] else [false]
theorem moves_of {S : Sky} {z : Zt} (o : OkS S) (h : OkZ S z) : g_moves_of [eSky S, eZ z] = some (.list ((moves S z).map eM)) := by
  refine run_eq rfl ?_
  have h1 := may_take o h
  cases hm : mt S z <;> (rw [hm] at h1; simp [b_moves_of, Da.start, ev_sSeq, h1, moves, hm, eM])
theorem ok_take : PyData.strOk (PySem.Str.ofString "take") = true := by decide +kernel
theorem ok_leave : PyData.strOk (PySem.Str.ofString "leave") = true := by decide +kernel
theorem ne_leave : ((PySem.Str.ofString "leave") == (PySem.Str.ofString "take")) = false := by decide +kernel
theorem eq_take (b : Bool) : gEq (eM b) (.str (PySem.Str.ofString "take")) = some (.bool b) := by
  unfold gEq
  cases b
  · rw [if_pos (by simp [eM, okD, ok_take, ok_leave])]
    simp [eM, PyData.eqv, ne_leave]
  · rw [if_pos (by simp [eM, okD, ok_take])]
    simp [eM, PyData.eqv]
theorem eq_int (a c : Int) : gEq (.int a) (.int c) = some (.bool (decide (a = c))) := by
  unfold gEq
  rw [if_pos (by simp)]
  show some (PyData.bool (a == c)) = _
  congr 2
theorem ne_int (a c : Int) : gNe (.int a) (.int c) = some (.bool (!decide (a = c))) := by
  unfold gNe
  rw [if_pos (by simp)]
  show some (PyData.bool (!(a == c))) = _
  congr 3
def gain (S : Sky) (z : Zt) (b : Bool) : Int := if b = true then wq S (lk S z.k).w else 0
theorem gain_of {S : Sky} {z : Zt} {b : Bool} (hw : OkW S) (h : InS S z.k) : g_gain_of [eSky S, eZ z, eM b] = some (.int (gain S z b)) := by
  refine run_eq rfl ?_
  have e1 := lk_get h
  have e2 := wq_get (okW_lk hw h).1 (okW_lk hw h).2
  have e3 := eq_take b
  cases b <;> simp [b_gain_of, Da.start, ev_sSeq, e3, e1, e2, gain]
def abT (S : Sky) (a : Int) (last : Option Nat) (s u : Int) : Int := match last with
  | none => emT S.ears a s u
  | some j => if s < (lk S j).e ∧ (lk S j).e ≤ u then emT S.ears (emT S.ears a s (lk S j).e + (lk S j).z) (lk S j).e u else emT S.ears a s u
theorem amount_behind {S : Sky} {a s u : Int} {last : Option Nat} (he : OkE S.ears) (h : ∀ j, last = some j → InS S j) : g_amount_behind [eSky S, .int a, .int (lI last), .int s, .int u] = some (.int (abT S a last s u)) := by
  refine run_eq rfl ?_
  cases last with
  | none => simp [b_amount_behind, Da.start, ev_sSeq, lI, abT, emptied he]
  | some j =>
    have hj := h j rfl
    have e1 := lk_get hj
    have h1 := end_of (lk_get hj)
    have hn : (0 : Int) ≤ (j : Int) := by omega
    by_cases c1 : s < (lk S j).e
    · by_cases c2 : (lk S j).e ≤ u
      · simp [b_amount_behind, Da.start, ev_sSeq, lI, abT, emptied he, h1, hn, c1, c2, e1]
      · simp [b_amount_behind, Da.start, ev_sSeq, lI, abT, emptied he, h1, hn, c1, c2, e1]
    · simp [b_amount_behind, Da.start, ev_sSeq, lI, abT, emptied he, h1, hn, c1, e1]
theorem okE_out {E : List Er} (h : OkE E) (fs : List Nat) : OkE (outE E fs) := fun e he => by
  unfold outE at he
  obtain ⟨i, _, hi⟩ := List.mem_filterMap.mp he
  split at hi
  · cases hi
  · exact h e (List.mem_of_getElem? hi)
/-- the state's part that a move changes -/
def zl (z : Zt) (b : Bool) : Option Nat := if b = true then some z.k else z.last
def eI : Int → PyData := .int
def zw (S : Sky) (z : Zt) (b : Bool) : List Int := if b = true then srt .int (z.ws ++ [(lk S z.k).w]) else z.ws
def sbR (S : Sky) (z : Zt) (b : Bool) (most : Nat) : List Zt := (ways (bb S (lk S z.k).s (lk S (z.k + 1)).s) z.fl most).map fun f => ⟨z.k + 1, zl z b, abT (woE S f) z.am (zl z b) (lk S z.k).s (lk S (z.k + 1)).s, zw S z b, f⟩
def sb (S : Sky) (z : Zt) (b : Bool) (most : Nat) : List Zt := if z.k + 1 = S.looks.length then [] else srt eZ (sbR S z b most)
theorem bb_len {S : Sky} {s u : Int} (o : OkS S) : (bb S s u).length ≤ 3 := by
  unfold bb
  refine Nat.le_trans (List.length_filter_le ..) ?_
  rw [List.length_range]
  exact o.elen
theorem ways_len {ns fl : List Nat} {m : Nat} : (ways ns fl m).length ≤ 2 ^ ns.length := by
  unfold ways
  rw [(srt_perm _ _).length_eq]
  refine Nat.le_trans (List.length_filter_le ..) ?_
  unfold allW
  rw [allW_len]
  simp
theorem bb8 {S : Sky} {s u : Int} (o : OkS S) {fl : List Nat} {m : Nat} : (ways (bb S s u) fl m).length ≤ 8 := by
  refine Nat.le_trans ways_len ?_
  exact Nat.pow_le_pow_right (by decide) (bb_len o)
theorem lk_wo {S : Sky} {f : List Nat} {i : Nat} : lk (woE S f) i = lk S i := rfl
theorem states_behind {S : Sky} {z : Zt} {b : Bool} {most : Nat} (o : OkS S) (h : OkZ S z) : g_states_behind [eSky S, eZ z, eM b, eN most] = some (.list ((sb S z b most).map eZ)) := by
  refine run_eq rfl ?_
  obtain ⟨k, last, am, ws, fl⟩ := z
  have e1 := lk_get h.k
  simp only at e1
  have tg : toTg (.many [4, 5, 6, 7, 8]) (eZ ⟨k, last, am, ws, fl⟩) [some (eSky S), some (eZ ⟨k, last, am, ws, fl⟩), some (eM b), some (eN most), none, none, none, none, none, none, none, none, none, none] =
      some [some (eSky S), some (eZ ⟨k, last, am, ws, fl⟩), some (eM b), some (eN most), some (eN k), some (.int (lI last)), some (.int am), some (.tuple (ws.map .int)), some (eT fl), none, none, none, none, none] := by
    unfold eZ
    simp [ev_toTgM, setMany]
  have ek : gEq (.int ((k : Int) + 1)) (.int (S.looks.length : Int)) = some (.bool (decide (k + 1 = S.looks.length))) := by
    rw [eq_int]
    congr 2
    rw [decide_eq_decide]
    omega
  by_cases hl : k + 1 = S.looks.length
  · simp [b_states_behind, Da.start, ev_sSeq, tg, ek, hl, sb]
  have hk1 : InS S (k + 1) := by have : k < S.looks.length := h.k; show k + 1 < _; omega
  have e2 := lk_get hk1
  have e2' : gIx (.list (S.looks.map eLk)) (.int ((k : Int) + 1)) = some (eLk (lk S (k + 1))) := by
    have := ev_gIx (e := eLk) (xs := S.looks) (i := k + 1)
    rw [e2] at this
    exact this
  have hb := bb_len (s := (lk S k).s) (u := (lk S (k + 1)).s) o
  have bg := begun_between (s := (lk S k).s) (u := (lk S (k + 1)).s) o
  have wy := ways_of (ns := bb S (lk S k).s (lk S (k + 1)).s) (fl := fl) (most := most) (by omega) (by have := h.fl; simp only at this; omega)
  have hsrt : gSorted false [.tuple ((ws ++ [(lk S k).w]).map .int)] = some (.list ((srt .int (ws ++ [(lk S k).w])).map .int)) := sorted_tup (fun _ _ _ _ => rfl) (fun _ _ => by simp)
  have hcat : gCatT (.tuple (ws.map .int)) (.tuple [.int (lk S k).w]) = some (.tuple ((ws ++ [(lk S k).w]).map .int)) := by
    show (if (ws.map PyData.int).length + [PyData.int (lk S k).w].length ≤ big then some (PyData.tuple (ws.map PyData.int ++ [PyData.int (lk S k).w])) else none) = _
    rw [if_pos (by rw [List.length_map, List.length_singleton]; have := h.ws; simp only at this; unfold big; omega), List.map_append]
    rfl
  have hz : OkZ S ⟨k, last, am, ws, fl⟩ := h
  have hlast : ∀ j, zl ⟨k, last, am, ws, fl⟩ b = some j → InS S j := fun j hj => by
    unfold zl at hj
    split at hj
    · cases hj; exact h.k
    · exact h.last j hj
  have key := forL_nxR (enc := eT) (t := .one 12) (js := [12, 13]) (body := b_states_behind_1)
    (fun acc : List Zt => [some (eSky S), some (eZ ⟨k, last, am, ws, fl⟩), some (eM b), some (eN most), some (eN k), some (.int (lI (zl ⟨k, last, am, ws, fl⟩ b))), some (.int am), some (.tuple ((zw S ⟨k, last, am, ws, fl⟩ b).map .int)), some (eT fl), some (.int (lk S k).s), some (.int (lk S (k + 1)).s), some (.list (acc.map eZ)), none, none])
    (fun acc f => acc ++ [⟨k + 1, zl ⟨k, last, am, ws, fl⟩ b, abT (woE S f) am (zl ⟨k, last, am, ws, fl⟩ b) (lk S k).s (lk S (k + 1)).s, zw S ⟨k, last, am, ws, fl⟩ b, f⟩]) (fun rest acc => acc.length + rest.length ≤ 8) (ways (bb S (lk S k).s (lk S (k + 1)).s) fl most) [] (by
      rw [List.length_nil, Nat.zero_add]; exact bb8 o) fun acc f rest hI => by
      rw [List.length_cons] at hI
      have wo := without_ears o (nmT f)
      have ab := amount_behind (S := woE S f) (a := am) (s := (lk S k).s) (u := (lk S (k + 1)).s) (last := zl ⟨k, last, am, ws, fl⟩ b) (okE_out o.ears f) hlast
      have hlen : acc.length < 16777216 := by omega
      refine ⟨?_, by rw [List.length_append, List.length_singleton]; omega⟩
      simp [one, b_states_behind_1, ev_sSeq, wo, ab, wOut, wipe, hlen, big, eZ]
  have k1 := key.1
  have hfold : ∀ (l : List (List Nat)) (acc : List Zt) (g : List Nat → Zt), l.foldl (fun acc f => acc ++ [g f]) acc = acc ++ l.map g := fun l => by
    induction l with
    | nil => intro acc g; simp
    | cons x l ih => intro acc g; rw [List.foldl_cons, ih]; simp
  rw [hfold, List.nil_append] at k1
  have hs := sorted_list (enc := eZ) (xs := sbR S ⟨k, last, am, ws, fl⟩ b most) (fun a _ b _ => pal_eZ a b) (fun a _ => ok_eZ a)
  unfold sb
  rw [if_neg hl]
  unfold sbR at hs ⊢
  simp only at hs ⊢
  simp only [List.map_nil] at k1
  cases b with
  | false =>
    simp only [zl, zw, Bool.false_eq_true, if_false] at k1 hs ⊢
    simp [b_states_behind, Da.start, ev_sSeq, tg, ek, hl, eq_take, e1, e2', bg, wy, k1, hs, -List.map_map]
  | true =>
    simp only [zl, zw, if_true, lI] at k1 hs ⊢
    simp [b_states_behind, Da.start, ev_sSeq, tg, ek, hl, eq_take, e1, e2', bg, wy, k1, hs, hcat, hsrt, lI, -List.map_map, -List.map_append]
end Pl
set_option linter.all false
set_option maxRecDepth 100000
/-! Ev7: order of states, dicts by states, the list of what waits. -/
namespace Pl
open PySem Da
theorem srt_pw {α : Type} {enc : α → PyData} {xs : List α} (h : ∀ a ∈ xs, ∀ b ∈ xs, pal (enc a) (enc b) = true) : (srt enc xs).Pairwise fun a b => pLt (enc b) (enc a) = false := by
  have h' : ∀ a ∈ xs.map enc, ∀ b ∈ xs.map enc, pal a b = true := by
    simp only [List.mem_map, forall_exists_index, and_imp, forall_apply_eq_imp_iff₂]
    exact fun a ha b hb => h a ha b hb
  have e : (xs.map enc).mergeSort (PySem.W.dataLe false id) = (srt enc xs).map enc := (Sk.sortL_eq false _ h').trans sortL_map
  have p := PySem.W.sort_pairwise (le := PySem.W.dataLe false id) (PySem.W.sortLe_total _ false _) (xs.map enc)
  rw [e, List.pairwise_map] at p
  have hm : ∀ a ∈ srt enc xs, a ∈ xs := fun a ha => (srt_perm enc xs).mem_iff.mp ha
  refine p.imp_of_mem fun {a b} ha hb q => ?_
  have := Sk.pLt_eq (enc b) (enc a) (h b (hm b hb) a (hm a ha))
  have q' : (!PySem.W.dataLt (enc b) (enc a)) = true := q
  rw [this] at q'
  simpa using q'
theorem lt_k {a b : Zt} (h : a.k < b.k) : pLt (eZ a) (eZ b) = true := by
  unfold eZ
  have hne : PyData.eqv (eN a.k) (eN b.k) = false := by
    show (((a.k : Int)) == ((b.k : Int))) = false
    simp
    omega
  show pLts _ _ = true
  unfold pLts
  rw [if_neg (by rw [hne]; decide)]
  show decide ((a.k : Int) < (b.k : Int)) = true
  simp
  exact h
theorem nd_len {α : Type} [DecidableEq α] : ∀ {F U : List α}, F.Nodup → (∀ a ∈ F, a ∈ U) → F.length ≤ U.length
  | [], U, _, _ => Nat.zero_le _
  | a :: F, U, h, hs => by
    rw [List.nodup_cons] at h
    have ha := hs a (List.mem_cons_self ..)
    have := nd_len (F := F) (U := U.erase a) h.2 fun b hb => (List.mem_erase_of_ne (fun z : b = a => h.1 (by rw [← z]; exact hb))).mpr (hs b (List.mem_cons_of_mem _ hb))
    rw [List.length_erase_of_mem ha] at this
    have : 0 < U.length := List.length_pos_of_mem ha
    rw [List.length_cons]
    omega

/-! ### keys -/
theorem keyDs_ints (n : Nat) : ∀ as : List Int, keyDs n (as.map .int) = true
  | [] => by simp [keyDs]
  | a :: as => by
    rw [List.map_cons]
    unfold keyDs
    rw [keyDs_ints n as, Bool.and_true]
    cases n <;> rfl
theorem key_eZ (z : Zt) : isKey (eZ z) = true := by
  unfold eZ eT
  rw [mapN]
  show keyDs 7 _ = true
  have k1 : ∀ (n : Nat) (i : Int), keyD n (.int i) = true := fun n i => by cases n <;> rfl
  have k2 : ∀ as : List Int, keyD 7 (.tuple (as.map .int)) = true := fun as => keyDs_ints 6 as
  simp only [keyDs, k1, k2, Bool.and_true]
theorem map_int_inj : ∀ {as bs : List Int}, as.map PyData.int = bs.map PyData.int → as = bs
  | [], [], _ => rfl
  | [], _ :: _, h => by cases h
  | _ :: _, [], h => by cases h
  | a :: as, b :: bs, h => by
    rw [List.map_cons, List.map_cons] at h
    injection h with h1 h2
    injection h1 with h1
    rw [h1, map_int_inj h2]
theorem map_eN_inj : ∀ {as bs : List Nat}, as.map eN = bs.map eN → as = bs
  | [], [], _ => rfl
  | [], _ :: _, h => by cases h
  | _ :: _, [], h => by cases h
  | a :: as, b :: bs, h => by
    rw [List.map_cons, List.map_cons] at h
    injection h with h1 h2
    injection h1 with h1
    rw [Int.ofNat.inj h1, map_eN_inj h2]
theorem lI_inj {a b : Option Nat} (h : lI a = lI b) : a = b := by
  cases a <;> cases b <;> simp [lI] at h ⊢ <;> omega
theorem eT_inj {a b : List Nat} (h : eT a = eT b) : a = b := by
  unfold eT at h
  injection h with h
  exact map_eN_inj h
theorem eZ_inj {a b : Zt} (h : eZ a = eZ b) : a = b := by
  obtain ⟨k, l, am, ws, fl⟩ := a
  obtain ⟨k', l', am', ws', fl'⟩ := b
  unfold eZ at h
  injection h with h
  injection h with h1 h
  injection h with h2 h
  injection h with h3 h
  injection h with h4 h
  injection h with h5 h
  injection h1 with h1
  injection h2 with h2
  injection h3 with h3
  injection h4 with h4
  have q1 : k = k' := Int.ofNat.inj h1
  have q2 : l = l' := lI_inj h2
  have q3 : am = am' := h3
  have q4 : ws = ws' := map_int_inj h4
  have q5 : fl = fl' := eT_inj h5
  rw [q1, q2, q3, q4, q5]
theorem peq_eZ {a b : Zt} : peq (eZ a) (eZ b) = true ↔ a = b := (Sk.key_peq (key_eZ a)).trans ⟨eZ_inj, fun h => h ▸ rfl⟩
/-- a dict by states -/
abbrev Mp (β : Type) := List (Zt × β)
def eD {β : Type} (ev : β → PyData) (m : Mp β) : List (PyData × PyData) := m.map fun p => (eZ p.1, ev p.2)
def look {β : Type} : Mp β → Zt → Option β
  | [], _ => none
  | (k, v) :: r, z => if k = z then some v else look r z
def put {β : Type} : Mp β → Zt → β → Mp β
  | [], z, v => [(z, v)]
  | (k, u) :: r, z, v => if k = z then (k, v) :: r else (k, u) :: put r z v
theorem getK_eD {β : Type} {ev : β → PyData} {z : Zt} : ∀ m : Mp β, getK (eD ev m) (eZ z) = (look m z).map ev
  | [] => rfl
  | (k, v) :: r => by
    show (if peq (eZ k) (eZ z) = true then some (ev v) else getK (eD ev r) (eZ z)) = _
    unfold look
    by_cases h : k = z
    · rw [if_pos (peq_eZ.mpr h), if_pos h]; rfl
    · rw [if_neg (fun q => h (peq_eZ.mp q)), if_neg h, getK_eD r]
theorem putK_eD {β : Type} {ev : β → PyData} {z : Zt} {v : β} : ∀ m : Mp β, putK (eD ev m) (eZ z) (ev v) = eD ev (put m z v)
  | [] => rfl
  | (k, u) :: r => by
    show (if peq (eZ k) (eZ z) = true then (eZ k, ev v) :: eD ev r else (eZ k, ev u) :: putK (eD ev r) (eZ z) (ev v)) = _
    unfold put
    by_cases h : k = z
    · rw [if_pos (peq_eZ.mpr h), if_pos h]; rfl
    · rw [if_neg (fun q => h (peq_eZ.mp q)), if_neg h, putK_eD r]; rfl
theorem look_put {β : Type} {z y : Zt} {v : β} : ∀ m : Mp β, look (put m z v) y = if z = y then some v else look m y
  | [] => rfl
  | (k, u) :: r => by
    unfold put
    by_cases h : k = z
    · subst h
      rw [if_pos rfl]
      unfold look
      by_cases h2 : k = y <;> simp [h2]
    · rw [if_neg h]
      unfold look
      rw [look_put r]
      by_cases h2 : k = y
      · subst h2
        rw [if_pos rfl, if_neg (fun q => h q.symm), if_pos rfl]
      · rw [if_neg h2, if_neg h2]
theorem look_none {β : Type} {z : Zt} : ∀ {m : Mp β}, look m z = none ↔ z ∉ m.map (·.1)
  | [] => by simp [look]
  | (k, v) :: r => by
    unfold look
    by_cases h : k = z
    · simp [h]
    · rw [if_neg h, look_none (m := r)]
      simp only [List.map_cons, List.mem_cons, not_or]
      exact ⟨fun q => ⟨fun e => h e.symm, q⟩, fun q => q.2⟩
theorem put_new {β : Type} {z : Zt} {v : β} : ∀ {m : Mp β}, z ∉ m.map (·.1) → put m z v = m ++ [(z, v)]
  | [], _ => rfl
  | (k, u) :: r, h => by
    simp only [List.map_cons, List.mem_cons, not_or] at h
    unfold put
    rw [if_neg (fun q => h.1 q.symm), put_new h.2]
    rfl
theorem put_len {β : Type} {z : Zt} {v : β} : ∀ (m : Mp β), (put m z v).length ≤ m.length + 1
  | [] => by simp [put]
  | (k, u) :: r => by
    unfold put
    split
    · simp
    · simp only [List.length_cons]; have := put_len (z := z) (v := v) r; omega

/-! ### while -/
theorem while_run {β : Type} {c : Dts} {js : List Nat} {body : Dst} (R : β → Rho) (μ : β → Nat) (I : β → Prop) (go : β → Bool) (step : β → β)
    (hc : ∀ s, I s → c (R s) = some (go s)) (hb : ∀ s, I s → go s = true → (body (R s)).map (wOut js) = some (.nx (R (step s))) ∧ I (step s) ∧ μ (step s) < μ s) :
    ∀ (n : Nat) (s : β), I s → μ s < n → ∃ s', whileN c js body n (R s) = some (.nx (R s')) ∧ I s' ∧ go s' = false
  | 0, s, _, h => absurd h (Nat.not_lt_zero _)
  | n + 1, s, hI, h => by
    have e1 := hc s hI
    unfold whileN
    rw [e1]
    cases hg : go s with
    | false => exact ⟨s, rfl, hI, hg⟩
    | true =>
      obtain ⟨h1, h2, h3⟩ := hb s hI hg
      obtain ⟨s', k1, k2, k3⟩ := while_run R μ I go step hc hb n (step s) h2 (by omega)
      refine ⟨s', ?_, k2, k3⟩
      rw [Option.bind_some, if_pos rfl]
      cases e2 : body (R s) with
      | none => rw [e2] at h1; cases h1
      | some o =>
        rw [e2] at h1
        cases o with
        | nx r2 =>
          have : wipe js r2 = R (step s) := by injection h1 with h1; injection h1
          show whileN c js body n (wipe js r2) = _
          rw [this]
          exact k1
        | ct r2 =>
          have : wipe js r2 = R (step s) := by injection h1 with h1; injection h1
          show whileN c js body n (wipe js r2) = _
          rw [this]
          exact k1
        | bk r2 => cases h1
        | rt d => cases h1
end Pl
set_option linter.all false
set_option maxRecDepth 100000
/-! Ev8: the states that come about. -/
namespace Pl
open PySem Da
def fs (S : Sky) (most : Nat) : List Zt := if S.looks = [] then [] else (ways (bb S (-1) (lk S 0).s) [] most).map fun f => ⟨0, none, 0, [], f⟩
theorem first_states {S : Sky} {most : Nat} (o : OkS S) : g_first_states [eSky S, eN most] = some (.list ((fs S most).map eZ)) := by
  refine run_eq rfl ?_
  by_cases h : S.looks = []
  · simp [b_first_states, Da.start, ev_sSeq, h, fs]
  · have h0 : InS S 0 := List.length_pos_iff.mpr h
    have e1 := lk_get h0
    have e0 : gIx (.list (S.looks.map eLk)) (.int 0) = some (eLk (lk S 0)) := by
      have := ev_gIx (e := eLk) (xs := S.looks) (i := 0)
      rw [e1] at this
      exact this
    have hb := bb_len (s := -1) (u := (lk S 0).s) o
    have bg := begun_between (s := -1) (u := (lk S 0).s) o
    have wy := ways_of (ns := bb S (-1) (lk S 0).s) (fl := []) (most := most) (by omega) (by decide)
    have wy' : g_ways_of [eNs (bb S (-1) (lk S 0).s), .tuple [], eN most] = some (.list ((ways (bb S (-1) (lk S 0).s) [] most).map eT)) := wy
    have hc : dComp (.one 3) [3] (itS (dCall g_ways_of (aCons (dVar 2) (aCons (dTup aNil) (aCons (dVar 1) aNil))))) yes (dTup (aCons (dC (.int 0)) (aCons (dU gNeg (dC (.int 1))) (aCons (dC (.int 0)) (aCons (dTup aNil) (aCons (dVar 3) aNil)))))) [some (eSky S), some (eN most), some (eNs (bb S (-1) (lk S 0).s)), none] = some (.list ((fs S most).map eZ)) := by
      rw [dComp_run (enc := eT) (xs := ways (bb S (-1) (lk S 0).s) [] most) (fun f => some (eZ ⟨0, none, 0, [], f⟩)) (by simp [wy']) fun f hf => by
        simp [cTurn, wipe, eZ, lI]]
      rw [fm_map]
      unfold fs
      rw [if_neg h, List.map_map]
      rfl
    simp [b_first_states, Da.start, ev_sSeq, h, e0, bg, hc]
/-! ### well-formed states -/
structure Wf (S : Sky) (z : Zt) : Prop where
  k : z.k < S.looks.length
  last : ∀ j, z.last = some j → j < z.k
  fl : z.fl.length ≤ 3 * (z.k + 1)
  ws : z.ws.length ≤ z.k
theorem Wf.ok {S : Sky} {z : Zt} (o : OkS S) (h : Wf S z) : OkZ S z where
  k := h.k
  last := fun j hj => Nat.lt_trans (h.last j hj) h.k
  fl := by have := h.fl; have := h.k; have := o.len; omega
  ws := by have := h.ws; have := h.k; have := o.len; omega
theorem ways_size {ns fl : List Nat} {m : Nat} {f : List Nat} (h : f ∈ ways ns fl m) : f.length ≤ fl.length + ns.length := by
  unfold ways at h
  have h1 := (List.mem_filter.mp ((srt_perm _ _).mem_iff.mp h)).1
  exact foldW_size ns [fl] fl.length (fun g hg => by rw [List.mem_singleton.mp hg]; exact Nat.le_refl _) f h1
theorem fs_wf {S : Sky} {most : Nat} (o : OkS S) {z : Zt} (h : z ∈ fs S most) : Wf S z ∧ z.k = 0 := by
  unfold fs at h
  split at h
  · cases h
  · rename_i hn
    obtain ⟨f, hf, rfl⟩ := List.mem_map.mp h
    refine ⟨⟨List.length_pos_iff.mpr hn, fun j hj => (nomatch hj), ?_, Nat.le_refl _⟩, rfl⟩
    have := ways_size hf
    have := bb_len (s := -1) (u := (lk S 0).s) o
    show f.length ≤ 3 * (0 + 1)
    simp only [List.length_nil] at *
    omega
theorem sb_wf {S : Sky} {z y : Zt} {b : Bool} {most : Nat} (o : OkS S) (hz : Wf S z) (h : y ∈ sb S z b most) : Wf S y ∧ y.k = z.k + 1 := by
  unfold sb at h
  split at h
  · cases h
  · rename_i hn
    have h := (srt_perm _ _).mem_iff.mp h
    unfold sbR at h
    obtain ⟨f, hf, rfl⟩ := List.mem_map.mp h
    have hk := hz.k
    refine ⟨⟨by show z.k + 1 < _; omega, fun j hj => ?_, ?_, ?_⟩, rfl⟩
    · have hj' : zl z b = some j := hj
      unfold zl at hj'
      show j < z.k + 1
      split at hj'
      · cases hj'; omega
      · have := hz.last j hj'; omega
    · have := ways_size hf
      have := bb_len (s := (lk S z.k).s) (u := (lk S (z.k + 1)).s) o
      have := hz.fl
      show f.length ≤ 3 * (z.k + 1 + 1)
      omega
    · show (zw S z b).length ≤ z.k + 1
      have := hz.ws
      unfold zw
      split
      · rw [(srt_perm _ _).length_eq, List.length_append, List.length_singleton]; omega
      · omega
theorem sb_len {S : Sky} {z : Zt} {b : Bool} {most : Nat} (o : OkS S) : (sb S z b most).length ≤ 8 := by
  unfold sb
  split
  · simp
  · rw [(srt_perm _ _).length_eq]
    unfold sbR
    rw [List.length_map]
    exact bb8 o
/-! ### the universe: what may come about, in levels -/
theorem flat_len {α β : Type} {g : α → List β} {c : Nat} : ∀ (xs : List α), (∀ x ∈ xs, (g x).length ≤ c) → (xs.flatMap g).length ≤ xs.length * c
  | [], _ => by simp
  | x :: xs, h => by
    rw [List.flatMap_cons, List.length_append, List.length_cons]
    have h1 := h x (List.mem_cons_self ..)
    have h2 := flat_len xs fun y hy => h y (List.mem_cons_of_mem _ hy)
    rw [Nat.add_mul]
    omega
def lev (succ : Zt → List Zt) (A : List Zt) : Nat → List Zt
  | 0 => A
  | n + 1 => (lev succ A n).flatMap succ
def uni (succ : Zt → List Zt) (A : List Zt) : List Zt := (List.range 5).flatMap (lev succ A)
/-- succ leads one level up and ends at the last look -/
structure Lv (S : Sky) (succ : Zt → List Zt) (A : List Zt) : Prop where
  a : ∀ z ∈ A, Wf S z ∧ z.k = 0
  s : ∀ z, Wf S z → ∀ y ∈ succ z, Wf S y ∧ y.k = z.k + 1
  al : A.length ≤ 8
  sl : ∀ z, Wf S z → (succ z).length ≤ 16
theorem lev_k {S : Sky} {succ : Zt → List Zt} {A : List Zt} (h : Lv S succ A) : ∀ (n : Nat), ∀ z ∈ lev succ A n, Wf S z ∧ z.k = n
  | 0, z, hz => h.a z hz
  | n + 1, z, hz => by
    obtain ⟨y, hy, hz⟩ := List.mem_flatMap.mp hz
    obtain ⟨w, e⟩ := lev_k h n y hy
    obtain ⟨w', e'⟩ := h.s y w z hz
    exact ⟨w', by rw [e', e]⟩
theorem lev_len {S : Sky} {succ : Zt → List Zt} {A : List Zt} (h : Lv S succ A) : ∀ (n : Nat), (lev succ A n).length ≤ 8 * 16 ^ n
  | 0 => by show A.length ≤ 8 * 16 ^ 0; have := h.al; omega
  | n + 1 => by
    have := flat_len (g := succ) (c := 16) (lev succ A n) fun z hz => h.sl z (lev_k h n z hz).1
    have ih := lev_len h n
    rw [Nat.pow_succ]
    show (List.flatMap succ (lev succ A n)).length ≤ _
    omega
theorem uni_len {S : Sky} {succ : Zt → List Zt} {A : List Zt} (h : Lv S succ A) : (uni succ A).length ≤ 600000 := by
  have l0 := lev_len h 0
  have l1 := lev_len h 1
  have l2 := lev_len h 2
  have l3 := lev_len h 3
  have l4 := lev_len h 4
  have e : uni succ A = lev succ A 0 ++ (lev succ A 1 ++ (lev succ A 2 ++ (lev succ A 3 ++ (lev succ A 4 ++ [])))) := rfl
  rw [e]
  simp only [List.length_append, List.length_nil]
  omega
theorem uni_wf {S : Sky} {succ : Zt → List Zt} {A : List Zt} (h : Lv S succ A) {z : Zt} (hz : z ∈ uni succ A) : Wf S z := by
  obtain ⟨n, _, hz⟩ := List.mem_flatMap.mp hz
  exact (lev_k h n z hz).1
theorem uni_a {succ : Zt → List Zt} {A : List Zt} {z : Zt} (hz : z ∈ A) : z ∈ uni succ A := List.mem_flatMap.mpr ⟨0, by simp, hz⟩
theorem uni_s {S : Sky} (o : OkS S) {succ : Zt → List Zt} {A : List Zt} (h : Lv S succ A) {z y : Zt} (hz : z ∈ uni succ A) (hy : y ∈ succ z) : y ∈ uni succ A := by
  obtain ⟨n, hn, hz⟩ := List.mem_flatMap.mp hz
  obtain ⟨w, e⟩ := lev_k h n z hz
  obtain ⟨w', e'⟩ := h.s z w y hy
  have := w'.k
  have := o.len
  exact List.mem_flatMap.mpr ⟨n + 1, List.mem_range.mpr (by omega), List.mem_flatMap.mpr ⟨z, hz, hy⟩⟩
/-! ### the list of what waits -/
abbrev WF := List Zt × List Zt
def addF (s : WF) (b : Zt) : WF := if b ∈ s.2 then s else (s.1 ++ [b], s.2 ++ [b])
structure WInv (U : List Zt) (s : WF) : Prop where
  nd : s.2.Nodup
  sub : ∀ z ∈ s.1, z ∈ s.2
  uni : ∀ z ∈ s.2, z ∈ U
def wμ (U : List Zt) (s : WF) : Nat := (U.length - s.2.length) + s.1.length
theorem WInv.le {U : List Zt} {s : WF} (h : WInv U s) : s.2.length ≤ U.length := nd_len h.nd h.uni
theorem addF_inv {U : List Zt} {s : WF} {b : Zt} (h : WInv U s) (hb : b ∈ U) : WInv U (addF s b) ∧ wμ U (addF s b) = wμ U s ∧ b ∈ (addF s b).2 ∧ (∀ z ∈ s.2, z ∈ (addF s b).2) ∧ (∀ z ∈ s.1, z ∈ (addF s b).1) ∧ (∀ z ∈ (addF s b).2, z ∈ s.2 ∨ z ∈ (addF s b).1) := by
  unfold addF
  by_cases hm : b ∈ s.2
  · rw [if_pos hm]
    exact ⟨h, rfl, hm, fun _ z => z, fun _ z => z, fun _ z => .inl z⟩
  · rw [if_neg hm]
    have w : WInv U (s.1 ++ [b], s.2 ++ [b]) := by
      refine ⟨?_, fun z hz => ?_, fun z hz => ?_⟩
      · show (s.2 ++ [b]).Nodup
        rw [List.nodup_append]
        exact ⟨h.nd, by simp, fun a ha c hc => by simp at hc; subst hc; exact fun q => hm (q ▸ ha)⟩
      · rcases List.mem_append.mp hz with hz | hz
        · exact List.mem_append_left _ (h.sub z hz)
        · exact List.mem_append_right _ hz
      · rcases List.mem_append.mp hz with hz | hz
        · exact h.uni z hz
        · rw [List.mem_singleton.mp hz]; exact hb
    refine ⟨w, ?_, List.mem_append_right _ (List.mem_singleton.mpr rfl), fun z hz => List.mem_append_left _ hz, fun z hz => List.mem_append_left _ hz, fun z hz => ?_⟩
    · have := w.le
      unfold wμ
      simp only [List.length_append, List.length_singleton] at this ⊢
      omega
    · rcases List.mem_append.mp hz with hz | hz
      · exact .inl hz
      · exact .inr (List.mem_append_right _ hz)
theorem addF_fold {U : List Zt} : ∀ (bs : List Zt) {s : WF}, WInv U s → (∀ b ∈ bs, b ∈ U) → WInv U (bs.foldl addF s) ∧ wμ U (bs.foldl addF s) = wμ U s ∧ (∀ b ∈ bs, b ∈ (bs.foldl addF s).2) ∧ (∀ z ∈ s.2, z ∈ (bs.foldl addF s).2) ∧ (∀ z ∈ s.1, z ∈ (bs.foldl addF s).1) ∧ (∀ z ∈ (bs.foldl addF s).2, z ∈ s.2 ∨ z ∈ (bs.foldl addF s).1)
  | [], s, h, _ => ⟨h, rfl, fun b hb => absurd hb (by simp), fun _ z => z, fun _ z => z, fun _ z => .inl z⟩
  | b :: bs, s, h, hb => by
    obtain ⟨h1, h2, h3, h4, h5, h6⟩ := addF_inv h (hb b (List.mem_cons_self ..))
    obtain ⟨k1, k2, k3, k4, k5, k6⟩ := addF_fold bs h1 fun c hc => hb c (List.mem_cons_of_mem _ hc)
    refine ⟨k1, k2.trans h2, fun c hc => ?_, fun z hz => k4 z (h4 z hz), fun z hz => k5 z (h5 z hz), fun z hz => ?_⟩
    · rcases List.mem_cons.mp hc with rfl | hc
      · exact k4 _ h3
      · exact k3 c hc
    · rcases k6 z hz with q | q
      · rcases h6 z q with q | q
        · exact .inl q
        · exact .inr (k5 z q)
      · exact .inr q
/-- one turn: the last one waiting is taken, what comes behind it is added -/
def wStep (succ : Zt → List Zt) (s : WF) : WF := match s.1.getLast? with
  | some z => (succ z).foldl addF (s.1.dropLast, s.2)
  | none => s
/-- what is no longer waiting has its successors among those found -/
def Clo (succ : Zt → List Zt) (s : WF) : Prop := ∀ z ∈ s.2, z ∈ s.1 ∨ ∀ y ∈ succ z, y ∈ s.2
theorem wStep_ok {U : List Zt} {succ : Zt → List Zt} (hU : ∀ z ∈ U, ∀ y ∈ succ z, y ∈ U) {s : WF} (h : WInv U s) (c : Clo succ s) (hn : s.1 ≠ []) : WInv U (wStep succ s) ∧ Clo succ (wStep succ s) ∧ wμ U (wStep succ s) < wμ U s ∧ ∀ z ∈ s.2, z ∈ (wStep succ s).2 := by
  obtain ⟨W, F⟩ := s
  have hW : W = W.dropLast ++ [W.getLast hn] := (List.dropLast_concat_getLast hn).symm
  have eL : W.getLast? = some (W.getLast hn) := List.getLast?_eq_some_getLast hn
  unfold wStep
  simp only at eL ⊢
  rw [eL]
  simp only
  have hz : W.getLast hn ∈ F := h.sub _ (List.getLast_mem hn)
  have h0 : WInv U (W.dropLast, F) := ⟨h.nd, fun z hz => h.sub z (List.dropLast_subset _ hz), h.uni⟩
  obtain ⟨k1, k2, k3, k4, k5, k6⟩ := addF_fold (succ (W.getLast hn)) h0 (hU _ (h.uni _ hz))
  refine ⟨k1, fun z hz' => ?_, ?_, k4⟩
  · rcases k6 z hz' with q | q
    · rcases c z q with q2 | q2
      · have q2' : z ∈ W := q2
        rw [hW] at q2'
        rcases List.mem_append.mp q2' with q3 | q3
        · exact .inl (k5 z q3)
        · rw [List.mem_singleton.mp q3]
          exact .inr k3
      · exact .inr fun y hy => k4 y (q2 y hy)
    · exact .inl q
  · have hp := List.length_pos_iff.mpr hn
    have e1 : wμ U (W.dropLast, F) = (U.length - F.length) + (W.length - 1) := by unfold wμ; rw [List.length_dropLast]
    have e2 : wμ U (W, F) = (U.length - F.length) + W.length := rfl
    have hp' : 0 < W.length := hp
    rw [k2, e1, e2]
    omega
end Pl
set_option linter.all false
set_option maxRecDepth 100000
/-! Ev9: reached. -/
namespace Pl
open PySem Da
def eF (F : List Zt) : List (PyData × PyData) := F.map fun z => (eZ z, PyData.bool true)
theorem getK_eF {F : List Zt} {z : Zt} : (getK (eF F) (eZ z)).isSome = decide (z ∈ F) := by
  induction F with
  | nil => rfl
  | cons y F ih =>
    show (if peq (eZ y) (eZ z) = true then some (PyData.bool true) else getK (eF F) (eZ z)).isSome = _
    by_cases h : y = z
    · rw [if_pos (peq_eZ.mpr h)]; simp [h]
    · rw [if_neg (fun q => h (peq_eZ.mp q)), ih]
      have : ¬ z = y := fun q => h q.symm
      simp [this]
theorem putK_eF {F : List Zt} {z : Zt} (h : z ∉ F) : putK (eF F) (eZ z) (.bool true) = eF (F ++ [z]) := by
  induction F with
  | nil => rfl
  | cons y F ih =>
    rw [List.mem_cons, not_or] at h
    show (if peq (eZ y) (eZ z) = true then _ else (eZ y, PyData.bool true) :: putK (eF F) (eZ z) (.bool true)) = _
    rw [if_neg (fun q => h.1 (peq_eZ.mp q).symm), ih h.2]
    rfl
theorem putK_eF_in {F : List Zt} {z : Zt} (h : z ∈ F) : putK (eF F) (eZ z) (.bool true) = eF F := by
  induction F with
  | nil => cases h
  | cons y F ih =>
    show (if peq (eZ y) (eZ z) = true then (eZ y, PyData.bool true) :: eF F else (eZ y, PyData.bool true) :: putK (eF F) (eZ z) (.bool true)) = _
    by_cases e : y = z
    · rw [if_pos (peq_eZ.mpr e)]; rfl
    · rw [if_neg (fun q => e (peq_eZ.mp q)), ih ((List.mem_cons.mp h).resolve_left fun q => e q.symm)]
      rfl
def ddF (F : List Zt) (z : Zt) : List Zt := if z ∈ F then F else F ++ [z]
theorem dictL_eF : ∀ (xs F : List Zt), dictL (.bool true) (xs.map eZ) (eF F) = some (eF (xs.foldl ddF F))
  | [], F => rfl
  | x :: xs, F => by
    rw [List.map_cons, List.foldl_cons]
    show (if isKey (eZ x) = true then dictL (.bool true) (xs.map eZ) (putK (eF F) (eZ x) (.bool true)) else none) = _
    rw [if_pos (key_eZ x)]
    unfold ddF
    by_cases h : x ∈ F
    · rw [putK_eF_in h, if_pos h]; exact dictL_eF xs F
    · rw [putK_eF h, if_neg h]; exact dictL_eF xs _
theorem ddF_fold : ∀ (xs F : List Zt), F.Nodup → (xs.foldl ddF F).Nodup ∧ ∀ z, z ∈ xs.foldl ddF F ↔ z ∈ F ∨ z ∈ xs
  | [], F, h => ⟨h, fun z => by simp⟩
  | x :: xs, F, h => by
    have w : (ddF F x).Nodup ∧ ∀ z, z ∈ ddF F x ↔ z ∈ F ∨ z = x := by
      unfold ddF
      by_cases e : x ∈ F
      · rw [if_pos e]
        exact ⟨h, fun z => ⟨.inl, fun q => q.elim id fun q => q ▸ e⟩⟩
      · rw [if_neg e, List.nodup_append]
        exact ⟨⟨h, by simp, fun a ha c hc => by simp at hc; subst hc; exact fun q => e (q ▸ ha)⟩, fun z => by simp⟩
    obtain ⟨k1, k2⟩ := ddF_fold xs (ddF F x) w.1
    refine ⟨k1, fun z => ?_⟩
    rw [List.foldl_cons, k2, w.2, List.mem_cons, or_assoc]
theorem notin_eF {F : List Zt} {z : Zt} : gDNotIn (eZ z) (.dict (eF F)) = some (.bool (!decide (z ∈ F))) := by
  show (if isKey (eZ z) = true then some (PyData.bool (!(getK (eF F) (eZ z)).isSome)) else none) = _
  rw [if_pos (key_eZ z), getK_eF]
theorem ev_setD {i : Nat} {h f : Dn} {r : Rho} {kvs : List (PyData × PyData)} {k d : PyData} (h1 : dVar i r = some (.dict kvs)) (h2 : h r = some k) (h3 : f r = some d) (hk : isKey k = true) (hl : kvs.length < big) : sSetD i h f r = some (.nx (r.set i (some (.dict (putK kvs k d))))) := by
  unfold sSetD
  rw [h3]
  show (match dVar i r with | some (.dict kvs) => _ | _ => none) = _
  rw [h1]
  show (h r).bind _ = _
  rw [h2]
  show (if _ then _ else _) = _
  rw [if_pos ⟨hk, hl⟩]
theorem ev_app {i : Nat} {f : Dn} {r : Rho} {xs : List PyData} {d : PyData} (h1 : dVar i r = some (.list xs)) (h2 : f r = some d) (hl : xs.length < big) : sApp i f r = some (.nx (r.set i (some (.list (xs ++ [d]))))) := by
  rw [ev_sApp, h1]
  show (f r).bind _ = _
  rw [h2]
  show (if xs.length < big then _ else _) = _
  rw [if_pos hl]
theorem ev_pop {i j : Nat} {r : Rho} {xs : List PyData} {d : PyData} (h1 : dVar i r = some (.list xs)) (h2 : xs[xs.length - 1]? = some d) : sPop i j r = some (.nx ((r.set i (some (.list xs.dropLast))).set j (some d))) := by
  unfold sPop
  rw [h1]
  show (xs[xs.length - 1]?).map _ = _
  rw [h2]
  rfl
theorem pop_map {W : List Zt} {z : Zt} (h : W.getLast? = some z) : (W.map eZ)[(W.map eZ).length - 1]? = some (eZ z) ∧ (W.map eZ).dropLast = W.dropLast.map eZ := by
  refine ⟨?_, by rw [List.map_dropLast]⟩
  rw [List.length_map, List.getElem?_map, ← List.getLast?_eq_getElem?, h]
  rfl
/-- adding one -/
theorem add_turn {S : Sky} {most : Nat} {z y : Zt} {b : Bool} {s : WF} (h1 : s.1.length < 16777216) (h2 : s.2.length < 16777216) :
    one (.one 6) [6] b_reached_1 (eZ y) [some (eSky S), some (eN most), some (.list (s.1.map eZ)), some (.dict (eF s.2)), some (eZ z), some (eM b), none] =
      some (.nx [some (eSky S), some (eN most), some (.list ((addF s y).1.map eZ)), some (.dict (eF (addF s y).2)), some (eZ z), some (eM b), none]) := by
  unfold addF
  by_cases h : y ∈ s.2
  · rw [if_pos h]
    simp [one, b_reached_1, notin_eF, h, wOut, wipe]
  · rw [if_neg h]
    have e1 : sSetD 3 (dVar 6) (dC (.bool true)) [some (eSky S), some (eN most), some (.list (s.1.map eZ)), some (.dict (eF s.2)), some (eZ z), some (eM b), some (eZ y)] = some (.nx [some (eSky S), some (eN most), some (.list (s.1.map eZ)), some (.dict (eF (s.2 ++ [y]))), some (eZ z), some (eM b), some (eZ y)]) := by
      rw [ev_setD (kvs := eF s.2) (k := eZ y) (d := .bool true) (by simp) (by simp) (by simp) (key_eZ y) (by unfold eF; rw [List.length_map]; exact h2), putK_eF h]
      rfl
    have hb : s.1.length < big := h1
    simp [one, b_reached_1, notin_eF, h, wOut, wipe, ev_sSeq, e1, hb]
def succR (S : Sky) (most : Nat) (z : Zt) : List Zt := (moves S z).flatMap fun b => sb S z b most
theorem moves_len {S : Sky} {z : Zt} : (moves S z).length ≤ 2 := by
  unfold moves
  split <;> simp
theorem lvR {S : Sky} (o : OkS S) (most : Nat) : Lv S (succR S most) (fs S most) where
  a := fun z hz => fs_wf o hz
  s := fun z hz y hy => by
    obtain ⟨b, _, hy⟩ := List.mem_flatMap.mp hy
    exact sb_wf o hz hy
  al := by
    unfold fs
    split
    · simp
    · rw [List.length_map]; exact bb8 o
  sl := fun z hz => by
    have := flat_len (g := fun b => sb S z b most) (c := 8) (moves S z) fun b _ => sb_len o
    have := moves_len (S := S) (z := z)
    unfold succR
    omega
/-- all that comes about -/
def reF (S : Sky) (most : Nat) (F : List Zt) : Prop := F.Nodup ∧ (∀ z ∈ fs S most, z ∈ F) ∧ (∀ z ∈ F, ∀ y ∈ succR S most z, y ∈ F) ∧ (∀ z ∈ F, z ∈ uni (succR S most) (fs S most))
theorem reached {S : Sky} {most : Nat} (o : OkS S) : ∃ F, g_reached [eSky S, eN most] = some (.list ((srt eZ F).map eZ)) ∧ reF S most F := by
  have L := lvR o most
  have hU := fun z hz y hy => uni_s o L (z := z) (y := y) hz hy
  have hB := uni_len L
  let R : WF → Rho := fun s => [some (eSky S), some (eN most), some (.list (s.1.map eZ)), some (.dict (eF s.2)), none, none, none]
  let I : WF → Prop := fun s => WInv (uni (succR S most) (fs S most)) s ∧ Clo (succR S most) s ∧ wμ (uni (succR S most) (fs S most)) s ≤ 1200000 ∧ ∀ z ∈ fs S most, z ∈ s.2
  obtain ⟨n1, n2⟩ := ddF_fold (fs S most) [] List.nodup_nil
  have i0 : I (fs S most, (fs S most).foldl ddF []) := by
    have hi : WInv (uni (succR S most) (fs S most)) (fs S most, (fs S most).foldl ddF []) := ⟨n1, fun z hz => (n2 z).mpr (.inr hz), fun z hz => uni_a (((n2 z).mp hz).resolve_left (by simp))⟩
    refine ⟨hi, fun z hz => .inl (((n2 z).mp hz).resolve_left (by simp)), ?_, fun z hz => (n2 z).mpr (.inr hz)⟩
    have h8 := L.al
    have hl := hi.le
    have e : wμ (uni (succR S most) (fs S most)) (fs S most, (fs S most).foldl ddF []) = ((uni (succR S most) (fs S most)).length - ((fs S most).foldl ddF []).length) + (fs S most).length := rfl
    rw [e]
    omega
  have turn : ∀ s, I s → (!s.1.isEmpty) = true → (b_reached_3 (R s)).map (wOut [4, 5, 6]) = some (.nx (R (wStep (succR S most) s))) ∧ I (wStep (succR S most) s) ∧ wμ (uni (succR S most) (fs S most)) (wStep (succR S most) s) < wμ (uni (succR S most) (fs S most)) s := by
    intro s hI hne
    obtain ⟨i1, i2, i3, i4⟩ := hI
    have hn : s.1 ≠ [] := by
      intro q
      rw [q] at hne
      cases hne
    obtain ⟨k1, k2, k3, k4⟩ := wStep_ok hU i1 i2 hn
    refine ⟨?_, ⟨k1, k2, by omega, fun z hz => k4 z (i4 z hz)⟩, k3⟩
    have eL : s.1.getLast? = some (s.1.getLast hn) := List.getLast?_eq_some_getLast hn
    have hz : s.1.getLast hn ∈ s.2 := i1.sub _ (List.getLast_mem hn)
    generalize hzz : s.1.getLast hn = z at eL hz
    have wz := uni_wf L (i1.uni z hz)
    have okz := wz.ok o
    obtain ⟨p1, p2⟩ := pop_map eL
    have h0 : WInv (uni (succR S most) (fs S most)) (s.1.dropLast, s.2) := ⟨i1.nd, fun z hz => i1.sub z (List.dropLast_subset _ hz), i1.uni⟩
    have e0 : wμ (uni (succR S most) (fs S most)) (s.1.dropLast, s.2) ≤ 1200000 := by
      have e1 : wμ (uni (succR S most) (fs S most)) (s.1.dropLast, s.2) = ((uni (succR S most) (fs S most)).length - s.2.length) + (s.1.length - 1) := by unfold wμ; rw [List.length_dropLast]
      have e2 : wμ (uni (succR S most) (fs S most)) s = ((uni (succR S most) (fs S most)).length - s.2.length) + s.1.length := rfl
      omega
    -- the moves
    let R2 : WF → Rho := fun s => [some (eSky S), some (eN most), some (.list (s.1.map eZ)), some (.dict (eF s.2)), some (eZ z), none, none]
    have mv := forL_nx (enc := eM) (t := .one 5) (js := [5, 6]) (body := b_reached_2) R2 (fun s b => (sb S z b most).foldl addF s) (fun s => WInv (uni (succR S most) (fs S most)) s ∧ wμ (uni (succR S most) (fs S most)) s ≤ 1200000) (moves S z) (s.1.dropLast, s.2) ⟨h0, e0⟩ fun s' b hs' hb => by
      have hbs : ∀ y ∈ sb S z b most, y ∈ uni (succR S most) (fs S most) := fun y hy => hU z (i1.uni z hz) y (List.mem_flatMap.mpr ⟨b, hb, hy⟩)
      obtain ⟨q1, q2, _⟩ := addF_fold (sb S z b most) hs'.1 hbs
      refine ⟨?_, q1, by rw [q2]; exact hs'.2⟩
      have inner := forL_nxR (enc := eZ) (t := .one 6) (js := [6]) (body := b_reached_1) (fun s : WF => [some (eSky S), some (eN most), some (.list (s.1.map eZ)), some (.dict (eF s.2)), some (eZ z), some (eM b), none]) addF (fun rest s => (∀ y ∈ rest, y ∈ uni (succR S most) (fs S most)) ∧ WInv (uni (succR S most) (fs S most)) s ∧ wμ (uni (succR S most) (fs S most)) s ≤ 1200000) (sb S z b most) s' ⟨hbs, hs'.1, hs'.2⟩ fun s'' y rest hh => by
        obtain ⟨g1, g2, g3⟩ := hh
        obtain ⟨r1, r2, _⟩ := addF_inv g2 (g1 y (List.mem_cons_self ..))
        have := g2.le
        have e2 : wμ (uni (succR S most) (fs S most)) s'' = ((uni (succR S most) (fs S most)).length - s''.2.length) + s''.1.length := rfl
        exact ⟨add_turn (by omega) (by omega), fun y' hy' => g1 y' (List.mem_cons_of_mem _ hy'), r1, by rw [r2]; exact g3⟩
      have st := states_behind (b := b) (most := most) o okz
      have i1 := inner.1
      simp [one, b_reached_2, st, R2, i1, wOut, wipe]
    have eW : wStep (succR S most) s = (moves S z).foldl (fun s b => (sb S z b most).foldl addF s) (s.1.dropLast, s.2) := by
      unfold wStep
      rw [eL]
      show ((moves S z).flatMap fun b => sb S z b most).foldl addF (s.1.dropLast, s.2) = _
      rw [List.foldl_flatMap]
    have m1 := mv.1
    have mo := moves_of o okz
    have pp : sPop 2 4 (R s) = some (.nx [some (eSky S), some (eN most), some (.list (s.1.dropLast.map eZ)), some (.dict (eF s.2)), some (eZ z), none, none]) := by
      rw [ev_pop (i := 2) (j := 4) (r := R s) (xs := s.1.map eZ) (d := eZ z) rfl p1, p2]
      rfl
    rw [eW]
    unfold b_reached_3
    rw [sSeq_nx pp]
    simp only [R2] at m1
    simp [mo, m1, wOut, wipe, R, -List.map_dropLast]
  obtain ⟨s', k1, k2, k3⟩ := while_run (c := tTr (dVar 2)) (js := [4, 5, 6]) (body := b_reached_3) R (wμ (uni (succR S most) (fs S most))) I (fun s => !s.1.isEmpty) (wStep (succR S most))
    (fun s _ => by simp [R]) turn fuel (fs S most, (fs S most).foldl ddF []) i0 (by have := i0.2.2.1; unfold fuel; omega)
  have hW : s'.1 = [] := by
    cases h : s'.1 with
    | nil => rfl
    | cons a b => rw [h] at k3; cases k3
  refine ⟨s'.2, ?_, k2.1.nd, k2.2.2.2, fun z hz y hy => ?_, k2.1.uni⟩
  · refine run_eq rfl ?_
    have f0 := first_states (most := most) o
    have hd := dictL_eF (fs S most) []
    have hd' : dictL (.bool true) ((fs S most).map eZ) [] = some (eF ((fs S most).foldl ddF [])) := hd
    have hsrt : gSorted false [.dict (eF s'.2)] = some (.list ((srt eZ s'.2).map eZ)) := by
      have := sorted_list (enc := eZ) (xs := s'.2) (fun a _ b _ => pal_eZ a b) (fun a _ => ok_eZ a)
      have e : (eF s'.2).map (·.1) = s'.2.map eZ := by unfold eF; rw [List.map_map]; rfl
      show (if canSort ((eF s'.2).map (·.1)) = true then some (PyData.list (sortL false ((eF s'.2).map (·.1)))) else none) = _
      rw [e]
      exact this
    simp only [R] at k1
    have k1' : sWhile (tTr (dVar 2)) [4, 5, 6] b_reached_3 [some (eSky S), some (eN most), some (.list ((fs S most).map eZ)), some (.dict (eF ((fs S most).foldl ddF []))), none, none, none] = some (.nx [some (eSky S), some (eN most), some (.list (s'.1.map eZ)), some (.dict (eF s'.2)), none, none, none]) := k1
    have dd : dDict (itO (dVar 2)) (.bool true) [some (eSky S), some (eN most), some (.list ((fs S most).map eZ)), none, none, none, none] = some (.dict (eF ((fs S most).foldl ddF []))) := by
      unfold dDict
      rw [ev_itO (ds := (fs S most).map eZ) (by simp)]
      show (dictL (.bool true) ((fs S most).map eZ) []).map _ = _
      rw [hd']
      rfl
    simp [b_reached, Da.start, ev_sSeq, f0, dd, k1', hsrt]
  · rcases k2.2.1 z hz with q | q
    · rw [hW] at q; cases q
    · exact q y hy
end Pl
set_option linter.all false
set_option maxRecDepth 100000
/-! Ev10: what is sure. -/
namespace Pl
open PySem Da
def best0 : List Int → Int
  | [] => 0
  | x :: r => minL x r
def mx : List Int → Int
  | [] => 0
  | x :: r => maxL x r
@[simp] theorem ev_gMin0 {xs : List Int} : gMin0 [.list (xs.map .int)] = some (.int (best0 xs)) := by
  show (ints? (xs.map .int)).bind _ = _
  rw [ints_map]
  cases xs <;> rfl
theorem ev_gMax {xs : List Int} (h : xs ≠ []) : gMax [.list (xs.map .int)] = some (.int (mx xs)) := by
  show (ints? (xs.map .int)).bind _ = _
  rw [ints_map]
  cases xs with
  | nil => exact absurd rfl h
  | cons x r => rfl
/-- the sure worth from a state on, so many looks being left -/
def vv (S : Sky) (most : Nat) : Nat → Zt → Int
  | 0, _ => 0
  | n + 1, z => mx ((moves S z).map fun b => gain S z b + best0 ((sb S z b most).map (vv S most n)))
def V (S : Sky) (most : Nat) (z : Zt) : Int := vv S most (S.looks.length - z.k) z
def byT (S : Sky) (most : Nat) (z : Zt) (b : Bool) : Int := gain S z b + best0 ((sb S z b most).map (V S most))
theorem V_eq {S : Sky} {most : Nat} {z : Zt} (o : OkS S) (h : Wf S z) : V S most z = mx ((moves S z).map (byT S most z)) := by
  have hk := h.k
  obtain ⟨n, hn⟩ : ∃ n, S.looks.length - z.k = n + 1 := ⟨S.looks.length - z.k - 1, by omega⟩
  unfold V
  rw [hn]
  unfold vv
  congr 1
  refine List.map_congr_left fun b _ => ?_
  unfold byT
  congr 2
  refine List.map_congr_left fun y hy => ?_
  obtain ⟨_, e⟩ := sb_wf o h hy
  unfold V
  rw [e, show S.looks.length - (z.k + 1) = n by omega]
theorem moves_ne {S : Sky} {z : Zt} : moves S z ≠ [] := by
  unfold moves
  split <;> simp
theorem get_eD {β : Type} {ev : β → PyData} {m : Mp β} {z : Zt} {v : β} (h : look m z = some v) : gDGet (.dict (eD ev m)) (eZ z) = some (ev v) := by
  show (if isKey (eZ z) = true then getK (eD ev m) (eZ z) else none) = _
  rw [if_pos (key_eZ z), getK_eD, h]
  rfl
theorem sure_by {S : Sky} {most : Nat} {z : Zt} {b : Bool} {m : Mp Int} (o : OkS S) (hw : OkW S) (h : Wf S z) (hm : ∀ y ∈ sb S z b most, look m y = some (V S most y)) : g_sure_by [eSky S, eZ z, eM b, .dict (eD .int m), eN most] = some (.int (byT S most z b)) := by
  refine run_eq rfl ?_
  have st := states_behind (b := b) (most := most) o (h.ok o)
  have hc : dComp (.one 6) [6] (itS (dCall g_states_behind (aCat (aCons (dVar 0) (aCons (dVar 1) (aCons (dVar 2) aNil))) (aCons (dVar 4) aNil)))) yes (dB gDGet (dVar 3) (dVar 6)) [some (eSky S), some (eZ z), some (eM b), some (.dict (eD .int m)), some (eN most), none, none] = some (.list (((sb S z b most).map (V S most)).map .int)) := by
    rw [dComp_run (enc := eZ) (xs := sb S z b most) (fun y => some (.int (V S most y))) (by simp [st]) fun y hy => by
      simp [cTurn, wipe, get_eD (hm y hy)]]
    rw [fm_map, List.map_map]
    rfl
  have ga := gain_of (b := b) hw (h.ok o).k
  simp [b_sure_by, Da.start, ev_sSeq, hc, ga, byT, -List.map_map]
theorem look_map {β : Type} {f : Zt → β} {y : Zt} : ∀ {xs : List Zt}, look (xs.map fun z => (z, f z)) y = if y ∈ xs then some (f y) else none
  | [] => rfl
  | x :: xs => by
    rw [List.map_cons]
    unfold look
    by_cases h : x = y
    · subst h; simp
    · rw [if_neg h, look_map]
      have : ¬ y = x := fun q => h q.symm
      simp [this]
theorem keys_map {β : Type} {f : Zt → β} (xs : List Zt) : (xs.map fun z => (z, f z)).map (·.1) = xs := by
  rw [List.map_map]
  exact List.map_id' xs
def numM (S : Sky) (most : Nat) (F : List Zt) : Mp Int := (srt eZ F).reverse.map fun z => (z, V S most z)
theorem numM_look {S : Sky} {most : Nat} {F : List Zt} {z : Zt} (h : z ∈ F) : look (numM S most F) z = some (V S most z) := by
  unfold numM
  rw [look_map, if_pos (List.mem_reverse.mpr ((srt_perm _ _).mem_iff.mpr h))]
theorem sure_numbers {S : Sky} {most : Nat} (o : OkS S) (hw : OkW S) : ∃ F, g_sure_numbers [eSky S, eN most] = some (.dict (eD .int (numM S most F))) ∧ reF S most F := by
  obtain ⟨F, hr, hF⟩ := reached (most := most) o
  refine ⟨F, ?_, hF⟩
  obtain ⟨f1, f2, f3, f4⟩ := hF
  have L := lvR o most
  have pw : (srt eZ F).Pairwise fun a b => pLt (eZ b) (eZ a) = false := srt_pw fun a _ b _ => pal_eZ a b
  have pr : (srt eZ F).reverse.Pairwise fun a b => pLt (eZ a) (eZ b) = false := List.pairwise_reverse.mpr pw
  have nd : (srt eZ F).reverse.Nodup := by
    show (srt eZ F).reverse.Pairwise (· ≠ ·)
    rw [List.pairwise_reverse]
    have q : (srt eZ F).Pairwise (· ≠ ·) := (srt_perm eZ F).nodup_iff.mpr f1
    exact q.imp fun h => h.symm
  have memF : ∀ z, z ∈ (srt eZ F).reverse ↔ z ∈ F := fun z => by rw [List.mem_reverse]; exact (srt_perm eZ F).mem_iff
  have hlen : (srt eZ F).reverse.length ≤ 600000 := by
    rw [List.length_reverse, (srt_perm eZ F).length_eq]
    exact Nat.le_trans (nd_len f1 f4) (uni_len L)
  generalize hL : (srt eZ F).reverse = Q at pr nd memF hlen
  have key := forL_nxR (enc := eZ) (t := .one 3) (js := [3]) (body := b_sure_numbers_1) (fun D : List Zt => [some (eSky S), some (eN most), some (.dict (eD .int (D.map fun z => (z, V S most z)))), none, none])
    (fun D z => D ++ [z]) (fun rest D => D ++ rest = Q) Q [] (List.nil_append _) fun D z rest hI => by
      refine ⟨?_, by rw [List.append_assoc]; exact hI⟩
      have hz : z ∈ F := (memF z).mp (by rw [← hI]; exact List.mem_append_right _ (List.mem_cons_self ..))
      have wz := uni_wf L (f4 z hz)
      have hD : ∀ b ∈ moves S z, ∀ y ∈ sb S z b most, look (D.map fun z => (z, V S most z)) y = some (V S most y) := fun b hb y hy => by
        rw [look_map]
        have yF : y ∈ F := f3 z hz y (List.mem_flatMap.mpr ⟨b, hb, hy⟩)
        obtain ⟨_, ek⟩ := sb_wf o wz hy
        have yQ := (memF y).mpr yF
        rw [← hI] at yQ
        rcases List.mem_append.mp yQ with q | q
        · rw [if_pos q]
        · exfalso
          have pr' := pr
          rw [← hI] at pr'
          have := (List.pairwise_append.mp pr').2.1
          rcases List.mem_cons.mp q with q | q
          · rw [q] at ek; omega
          · have := (List.pairwise_cons.mp this).1 y q
            rw [lt_k (by omega)] at this
            cases this
      have mo := moves_of o (wz.ok o)
      have hc : dComp (.one 4) [4] (itS (dCall g_moves_of (aCons (dVar 0) (aCons (dVar 3) aNil)))) yes (dCall g_sure_by (aCons (dVar 0) (aCons (dVar 3) (aCons (dVar 4) (aCons (dVar 2) (aCons (dVar 1) aNil)))))) [some (eSky S), some (eN most), some (.dict (eD .int (D.map fun z => (z, V S most z)))), some (eZ z), none] = some (.list (((moves S z).map (byT S most z)).map .int)) := by
        rw [dComp_run (enc := eM) (xs := moves S z) (fun b => some (.int (byT S most z b))) (by simp [mo]) fun b hb => by
          have := sure_by o hw wz (hD b hb)
          simp [cTurn, wipe, this]]
        rw [fm_map, List.map_map]
        rfl
      have hmx := ev_gMax (xs := (moves S z).map (byT S most z)) (by rw [Ne, List.map_eq_nil_iff]; exact moves_ne)
      have hf : dCall gMax (aCons (dComp (.one 4) [4] (itS (dCall g_moves_of (aCons (dVar 0) (aCons (dVar 3) aNil)))) yes (dCall g_sure_by (aCons (dVar 0) (aCons (dVar 3) (aCons (dVar 4) (aCons (dVar 2) (aCons (dVar 1) aNil))))))) aNil) [some (eSky S), some (eN most), some (.dict (eD .int (D.map fun z => (z, V S most z)))), some (eZ z), none] = some (.int (V S most z)) := by
        rw [V_eq o wz]
        simp [hc, hmx, -List.map_map]
      have zD : z ∉ D := by
        rw [← hI] at nd
        exact fun q => (List.nodup_append.mp nd).2.2 z q z (List.mem_cons_self ..) rfl
      have lenD : D.length < 16777216 := by
        have : D.length + (rest.length + 1) = Q.length := by rw [← hI, List.length_append, List.length_cons]
        omega
      have e1 : b_sure_numbers_1 [some (eSky S), some (eN most), some (.dict (eD .int (D.map fun z => (z, V S most z)))), some (eZ z), none] = some (.nx [some (eSky S), some (eN most), some (.dict (eD .int ((D ++ [z]).map fun z => (z, V S most z)))), some (eZ z), none]) := by
        unfold b_sure_numbers_1
        rw [ev_setD (kvs := eD .int (D.map fun z => (z, V S most z))) (k := eZ z) (d := .int (V S most z)) (by simp) (by simp) hf (key_eZ z) (by unfold eD; rw [List.length_map, List.length_map]; exact lenD), putK_eD, put_new (by rw [keys_map]; exact zD), List.map_append]
        rfl
      simp only [one, ev_toTg1, List.set_cons_succ, List.set_cons_zero, Option.bind_some, e1, Option.map_some, wOut]
      rfl
  have hfold : ∀ (l D : List Zt), l.foldl (fun D z => D ++ [z]) D = D ++ l := fun l => by
    induction l with
    | nil => intro D; simp
    | cons x l ih => intro D; rw [List.foldl_cons, ih]; simp
  have k1 := key.1
  rw [hfold, List.nil_append] at k1
  have k1' : forL (.one 3) [3] b_sure_numbers_1 (Q.map eZ) [some (eSky S), some (eN most), some (.dict []), none, none] = some (.nx [some (eSky S), some (eN most), some (.dict (eD .int (Q.map fun z => (z, V S most z)))), none, none]) := k1
  have hrev : itRev (dCall g_reached (aCons (dVar 0) (aCons (dVar 1) aNil))) [some (eSky S), some (eN most), some (.dict []), none, none] = some (Q.map eZ) := by
    unfold itRev
    have : dCall g_reached (aCons (dVar 0) (aCons (dVar 1) aNil)) [some (eSky S), some (eN most), some (.dict []), none, none] = some (.list ((srt eZ F).map eZ)) := by simp [hr]
    rw [this]
    show some ((srt eZ F).map eZ).reverse = _
    rw [← List.map_reverse, hL]
  refine run_eq rfl ?_
  unfold numM
  rw [hL]
  simp [b_sure_numbers, Da.start, ev_sSeq, hrev, k1']
def sureT (S : Sky) (most : Nat) : Int := best0 ((fs S most).map (V S most))
theorem sure_worth {S : Sky} {most : Nat} (o : OkS S) (hw : OkW S) : g_sure_worth [eSky S, eN most] = some (.int (sureT S most)) := by
  obtain ⟨F, h1, h2⟩ := sure_numbers (most := most) o hw
  have f0 := first_states (most := most) o
  have hc : dComp (.one 3) [3] (itS (dCall g_first_states (aCat (aCons (dVar 0) aNil) (aCons (dVar 1) aNil)))) yes (dB gDGet (dVar 2) (dVar 3)) [some (eSky S), some (eN most), some (.dict (eD .int (numM S most F))), none] = some (.list (((fs S most).map (V S most)).map .int)) := by
    rw [dComp_run (enc := eZ) (xs := fs S most) (fun y => some (.int (V S most y))) (by simp [f0]) fun y hy => by
      simp [cTurn, wipe, get_eD (numM_look (S := S) (most := most) (h2.2.1 y hy))]]
    rw [fm_map, List.map_map]
    rfl
  refine run_eq rfl ?_
  simp [b_sure_worth, Da.start, ev_sSeq, h1, hc, sureT, -List.map_map]
end Pl
set_option linter.all false
set_option maxRecDepth 100000
/-! Ev11: the sure rule, what it takes. -/
namespace Pl
open PySem Da
def ru (S : Sky) (most : Nat) (z : Zt) : Bool := mt S z && decide (byT S most z true = V S most z)
def eR (S : Sky) (most : Nat) (z : Zt) : PyData := .tuple [eZ z, eM (ru S most z)]
theorem sorted_dict {β : Type} {ev : β → PyData} {m : Mp β} {xs : List Zt} (h : m.map (·.1) = xs) : gSorted false [.dict (eD ev m)] = some (.list ((srt eZ xs).map eZ)) := by
  have := sorted_list (enc := eZ) (xs := xs) (fun a _ b _ => pal_eZ a b) (fun a _ => ok_eZ a)
  have e : (eD ev m).map (·.1) = xs.map eZ := by rw [← h]; unfold eD; rw [List.map_map, List.map_map]; rfl
  show (if canSort ((eD ev m).map (·.1)) = true then some (PyData.list (sortL false ((eD ev m).map (·.1)))) else none) = _
  rw [e]
  exact this
theorem fold_app {α : Type} : ∀ (l D : List α), l.foldl (fun D z => D ++ [z]) D = D ++ l := fun l => by
  induction l with
  | nil => intro D; simp
  | cons x l ih => intro D; rw [List.foldl_cons, ih]; simp
theorem true_move {S : Sky} {z : Zt} (h : mt S z = true) : true ∈ moves S z := by
  unfold moves
  rw [if_pos h]
  simp
theorem sure_rule {S : Sky} {most : Nat} (o : OkS S) (hw : OkW S) : ∃ (K0 F : List Zt), g_sure_rule [eSky S, eN most] = some (.list (K0.map (eR S most))) ∧ K0.Perm F ∧ reF S most F := by
  obtain ⟨F, h1, h2⟩ := sure_numbers (most := most) o hw
  have L := lvR o most
  obtain ⟨f1, f2, f3, f4⟩ := id h2
  have hp : (srt eZ (srt eZ F).reverse).Perm F := (srt_perm _ _).trans ((List.reverse_perm _).trans (srt_perm _ _))
  refine ⟨srt eZ (srt eZ F).reverse, F, ?_, hp, h2⟩
  have hs := sorted_dict (ev := .int) (m := numM S most F) (xs := (srt eZ F).reverse) (keys_map _)
  have hlen : (srt eZ (srt eZ F).reverse).length ≤ 600000 := by
    rw [hp.length_eq]
    exact Nat.le_trans (nd_len f1 f4) (uni_len L)
  generalize hK : srt eZ (srt eZ F).reverse = K0 at hp hs hlen ⊢
  have key := forL_nxR (enc := eZ) (t := .one 4) (js := [4, 5]) (body := b_sure_rule_1) (fun D : List Zt => [some (eSky S), some (eN most), some (.dict (eD .int (numM S most F))), some (.list (D.map (eR S most))), none, none])
    (fun D z => D ++ [z]) (fun rest D => D ++ rest = K0) K0 [] (List.nil_append _) fun D z rest hI => by
      refine ⟨?_, by rw [List.append_assoc]; exact hI⟩
      have hz : z ∈ F := hp.mem_iff.mp (by rw [← hI]; exact List.mem_append_right _ (List.mem_cons_self ..))
      have wz := uni_wf L (f4 z hz)
      have m1 := may_take o (wz.ok o)
      have lenD : D.length < 16777216 := by
        have : D.length + (rest.length + 1) = K0.length := by rw [← hI, List.length_append, List.length_cons]
        omega
      have v1 := get_eD (ev := PyData.int) (numM_look (S := S) (most := most) hz)
      cases hm : mt S z with
      | false =>
        rw [hm] at m1
        simp [one, b_sure_rule_1, ev_sSeq, m1, wOut, wipe, lenD, big, eR, ru, hm, eM]
      | true =>
        rw [hm] at m1
        have b1 := sure_by (b := true) (m := numM S most F) o hw wz fun y hy => numM_look (f3 z hz y (List.mem_flatMap.mpr ⟨true, true_move hm, hy⟩))
        have b1' : g_sure_by [eSky S, eZ z, .str (PySem.Str.ofString "take"), .dict (eD .int (numM S most F)), eN most] = some (.int (byT S most z true)) := b1
        by_cases he : byT S most z true = V S most z
        · simp [one, b_sure_rule_1, ev_sSeq, m1, wOut, wipe, lenD, big, eR, ru, hm, eM, b1', v1, eq_int, he]
        · simp [one, b_sure_rule_1, ev_sSeq, m1, wOut, wipe, lenD, big, eR, ru, hm, eM, b1', v1, eq_int, he]
  have k1 := key.1
  rw [fold_app, List.nil_append] at k1
  simp only [List.map_nil] at k1
  refine run_eq rfl ?_
  simp [b_sure_rule, Da.start, ev_sSeq, h1, hs, k1]

/-! ### the failing as it shows -/
structure OkM (S : Sky) : Prop where
  st : ∀ i j, i ≤ j → InS S j → (lk S i).s ≤ (lk S j).s
  s0 : ∀ i, InS S i → 0 ≤ (lk S i).s
  ef : ∀ (i j : Nat) (e e' : Er), i ≤ j → S.ears[i]? = some e → S.ears[j]? = some e' → e.f ≤ e'.f
  l1 : ∀ i, InS S i → 1 ≤ (lk S i).l
  z0 : ∀ i, InS S i → 0 ≤ (lk S i).z
def efi (S : Sky) (i : Nat) : Int := (S.ears[i]?.map (·.f)).getD 0
def fat (S : Sky) (fail : List Nat) (t : Int) : List Nat := (List.range S.ears.length).filter fun i => decide (i ∈ fail) && decide (efi S i ≤ t)
theorem bb_efi {S : Sky} {s u : Int} : bb S s u = (List.range S.ears.length).filter fun i => decide (s < efi S i) && decide (efi S i ≤ u) := by
  unfold bb
  refine List.filter_congr fun i hi => ?_
  obtain ⟨e, he⟩ := range_it hi
  unfold efi
  rw [he]
  rfl
theorem split_filter {α : Type} {p q : α → Bool} : ∀ {L : List α}, (L.Pairwise fun a b => ¬ (q a = true ∧ p b = true)) → (∀ a, ¬ (p a = true ∧ q a = true)) → L.filter (fun a => p a || q a) = L.filter p ++ L.filter q
  | [], _, _ => rfl
  | a :: L, h, d => by
    rw [List.pairwise_cons] at h
    have ih := split_filter h.2 d
    cases hp : p a with
    | true =>
      have hq : q a = false := by
        cases hq : q a with
        | false => rfl
        | true => exact absurd ⟨hp, hq⟩ (d a)
      rw [List.filter_cons_of_pos (by rw [hp]; rfl), List.filter_cons_of_pos (by rw [hp]), List.filter_cons_of_neg (by rw [hq]; decide), ih]
      rfl
    | false =>
      cases hq : q a with
      | false => rw [List.filter_cons_of_neg (by rw [hp, hq]; decide), List.filter_cons_of_neg (by rw [hp]; decide), List.filter_cons_of_neg (by rw [hq]; decide), ih]
      | true =>
        have np : L.filter p = [] := List.filter_eq_nil_iff.mpr fun b hb => fun z => h.1 b hb ⟨hq, z⟩
        rw [List.filter_cons_of_pos (by rw [hp, hq]; rfl), List.filter_cons_of_neg (by rw [hp]; decide), List.filter_cons_of_pos (by rw [hq]), ih, np]
        rfl
theorem range_pw (n : Nat) : (List.range n).Pairwise (· < ·) := List.pairwise_lt_range
theorem efi_mono {S : Sky} (m : OkM S) {i j : Nat} (h : i ≤ j) (hj : j < S.ears.length) : efi S i ≤ efi S j := by
  have hi : i < S.ears.length := Nat.lt_of_le_of_lt h hj
  unfold efi
  rw [List.getElem?_eq_getElem hi, List.getElem?_eq_getElem hj]
  exact m.ef i j _ _ h (List.getElem?_eq_getElem hi) (List.getElem?_eq_getElem hj)
theorem fat_split {S : Sky} {fail : List Nat} (m : OkM S) {s u : Int} (h : s ≤ u) : fat S fail u = fat S fail s ++ (bb S s u).filter fun i => decide (i ∈ fail) := by
  rw [bb_efi, List.filter_filter]
  unfold fat
  rw [← split_filter]
  · refine List.filter_congr fun i _ => ?_
    rw [Bool.eq_iff_iff]
    simp only [Bool.and_eq_true, Bool.or_eq_true, decide_eq_true_eq]
    constructor
    · rintro ⟨a, b⟩
      by_cases c : efi S i ≤ s
      · exact .inl ⟨a, c⟩
      · exact .inr ⟨a, by omega, b⟩
    · rintro (⟨a, b⟩ | ⟨a, b, c⟩)
      · exact ⟨a, by omega⟩
      · exact ⟨a, c⟩
  · refine (range_pw S.ears.length).imp_of_mem fun {a b} ha hb hab => ?_
    simp only [Bool.and_eq_true, decide_eq_true_eq]
    rintro ⟨⟨_, q1, _⟩, _, q2⟩
    have := efi_mono m (Nat.le_of_lt hab) (List.mem_range.mp hb)
    omega
  · intro a
    simp only [Bool.and_eq_true, decide_eq_true_eq]
    rintro ⟨⟨_, q1⟩, _, q2, _⟩
    omega
theorem allW_mem {p : Nat → Bool} : ∀ (ns : List Nat) (F : List (List Nat)) {f : List Nat}, f ∈ F → f ++ ns.filter p ∈ ns.foldl (fun F n => F ++ F.map (· ++ [n])) F
  | [], F, f, h => by simpa using h
  | n :: ns, F, f, h => by
    rw [List.foldl_cons, List.filter_cons]
    cases hp : p n with
    | false => exact allW_mem ns _ (List.mem_append_left _ h)
    | true =>
      have := allW_mem (p := p) ns (F ++ F.map (· ++ [n])) (f := f ++ [n]) (List.mem_append_right _ (List.mem_map.mpr ⟨f, h, rfl⟩))
      rw [List.append_assoc] at this
      exact this
theorem ways_mem {p : Nat → Bool} {ns fl : List Nat} {most : Nat} (h : (fl ++ ns.filter p).length ≤ most) : fl ++ ns.filter p ∈ ways ns fl most := by
  unfold ways
  refine (srt_perm _ _).mem_iff.mpr (List.mem_filter.mpr ⟨allW_mem ns [fl] (List.mem_singleton.mpr rfl), ?_⟩)
  simpa using h
theorem fat_len {S : Sky} {fail : List Nat} {t : Int} : (fat S fail t).length ≤ S.ears.length := by
  unfold fat
  refine Nat.le_trans (List.length_filter_le ..) ?_
  rw [List.length_range]; exact Nat.le_refl _
/-- with so many ears failing at most -/
def FLen (S : Sky) (fail : List Nat) (most : Nat) : Prop := ∀ t, (fat S fail t).length ≤ most
theorem fat_next {S : Sky} {fail : List Nat} {most : Nat} (m : OkM S) (hm : FLen S fail most) {s u : Int} (h : s ≤ u) : fat S fail u ∈ ways (bb S s u) (fat S fail s) most := by
  rw [fat_split m h]
  refine ways_mem ?_
  rw [← fat_split m h]
  exact hm u
theorem fat_neg {S : Sky} {fail : List Nat} (o : OkS S) : fat S fail (-1) = [] := by
  unfold fat
  refine List.filter_eq_nil_iff.mpr fun i hi => ?_
  obtain ⟨e, he⟩ := range_it hi
  have := (o.ears e (List.mem_of_getElem? he)).2.2
  have e1 : efi S i = e.f := by unfold efi; rw [he]; rfl
  simp only [Bool.and_eq_true, decide_eq_true_eq]
  omega
theorem fat_first {S : Sky} {fail : List Nat} {most : Nat} (o : OkS S) (m : OkM S) (hm : FLen S fail most) {u : Int} (h : 0 ≤ u) : fat S fail u ∈ ways (bb S (-1) u) [] most := by
  have := fat_next m hm (s := -1) (u := u) (by omega)
  rw [fat_neg o] at this
  exact this
end Pl
set_option linter.all false
set_option maxRecDepth 100000
/-! Ev12: what the sure rule takes in a failing. -/
namespace Pl
open PySem Da
theorem ev_setDef {i : Nat} {h f : Dn} {r : Rho} {kvs : List (PyData × PyData)} {k d : PyData} (h1 : dVar i r = some (.dict kvs)) (h2 : h r = some k) (h3 : f r = some d) (hk : isKey k = true) (hl : kvs.length < big) (hg : getK kvs k = none) : sSetDef i h f r = some (.nx (r.set i (some (.dict (putK kvs k d))))) := by
  unfold sSetDef
  rw [h1]
  show (h r).bind _ = _
  rw [h2]
  show (f r).bind _ = _
  rw [h3]
  show (if _ then _ else _) = _
  rw [if_pos ⟨hk, hl⟩, hg]
  rfl
theorem eqvAll_N : ∀ (a b : List Nat), PyData.eqvAll (a.map eN) (b.map eN) = decide (a = b)
  | [], [] => by simp [PyData.eqvAll]
  | [], _ :: _ => by simp [PyData.eqvAll]
  | _ :: _, [] => by simp [PyData.eqvAll]
  | a :: as, b :: bs => by
    rw [List.map_cons, List.map_cons]
    unfold PyData.eqvAll
    rw [eqvAll_N as bs]
    have : PyData.eqv (eN a) (eN b) = decide (a = b) := by
      show (((a : Nat) : Int) == ((b : Nat) : Int)) = _
      rw [Bool.eq_iff_iff]
      simp
      omega
    rw [this, Bool.eq_iff_iff]
    simp
theorem eq_T (a b : List Nat) : gEq (eT a) (eT b) = some (.bool (decide (a = b))) := by
  unfold gEq
  rw [if_pos (by rw [ok_eT, ok_eT]; rfl)]
  show some (PyData.bool (PyData.eqvAll (a.map eN) (b.map eN))) = _
  rw [eqvAll_N]
theorem eq_non : gEq .none (.str (PySem.Str.ofString "take")) = some (.bool false) := by
  unfold gEq
  rw [if_pos (by simp [okD, ok_take])]
  simp [PyData.eqv]
@[simp] theorem ev_gIxL0 {α : Type} {e : α → PyData} {xs : List α} : gIx (.list (xs.map e)) (.int 0) = xs[0]?.map e := ev_gIx (i := 0)
section
variable (S : Sky) (fail : List Nat) (mv : Zt → Bool)
def tm (z : Zt) : Bool := mv z && mt S z
def nxt (z : Zt) : Zt := ⟨z.k + 1, zl z (tm S mv z), abT (woE S (fat S fail (lk S (z.k + 1)).s)) z.am (zl z (tm S mv z)) (lk S z.k).s (lk S (z.k + 1)).s, zw S z (tm S mv z), fat S fail (lk S (z.k + 1)).s⟩
/-- what is taken from a state on -/
def pth : Nat → Zt → List Nat
  | 0, _ => []
  | n + 1, z => (if tm S mv z = true then [z.k] else []) ++ pth n (nxt S fail mv z)
def z00 : Zt := ⟨0, none, 0, [], fat S fail (lk S 0).s⟩
def takenT : List Nat := if S.looks = [] then [] else pth S fail mv S.looks.length (z00 S fail)
end
/-- the states that wait hold the one that the failing shows -/
structure Gz (S : Sky) (fail : List Nat) (z : Zt) (Zs : List Zt) : Prop where
  mem : z ∈ Zs
  fl : z.fl = fat S fail (lk S z.k).s
  uniq : ∀ y ∈ Zs, y.fl = z.fl → y = z
  all : ∀ y ∈ Zs, Wf S y ∧ y.k = z.k
theorem filter_head {S : Sky} {fail : List Nat} {z : Zt} {Zs : List Zt} (g : Gz S fail z Zs) : (Zs.filter fun y => decide (y.fl = fat S fail (lk S z.k).s))[0]? = some z := by
  have hm : z ∈ Zs.filter fun y => decide (y.fl = fat S fail (lk S z.k).s) := List.mem_filter.mpr ⟨g.mem, by simpa using g.fl⟩
  cases h : Zs.filter fun y => decide (y.fl = fat S fail (lk S z.k).s) with
  | nil => rw [h] at hm; cases hm
  | cons y r =>
    have hy : y ∈ Zs.filter fun y => decide (y.fl = fat S fail (lk S z.k).s) := by rw [h]; exact List.mem_cons_self ..
    obtain ⟨h1, h2⟩ := List.mem_filter.mp hy
    have h2' : y.fl = fat S fail (lk S z.k).s := by simpa using h2
    rw [g.uniq y h1 (h2'.trans g.fl.symm)]
    rfl
theorem head_k {S : Sky} {fail : List Nat} {z : Zt} {Zs : List Zt} (g : Gz S fail z Zs) : ∃ y, Zs[0]? = some y ∧ y.k = z.k := by
  cases h : Zs with
  | nil => have := g.mem; rw [h] at this; cases this
  | cons y r => exact ⟨y, rfl, (g.all y (by rw [h]; exact List.mem_cons_self ..)).2⟩
theorem gz_next {S : Sky} {fail : List Nat} {mv : Zt → Bool} {z : Zt} {Zs : List Zt} (o : OkS S) (m : OkM S) (g : Gz S fail z Zs) (hk : z.k + 1 < S.looks.length) : Gz S fail (nxt S fail mv z) (sb S z (tm S mv z) S.ears.length) := by
  obtain ⟨wz, _⟩ := g.all z g.mem
  have hm : FLen S fail S.ears.length := fun t => fat_len
  have hs : (lk S z.k).s ≤ (lk S (z.k + 1)).s := m.st z.k (z.k + 1) (by omega) hk
  have fn := fat_next m hm hs
  rw [← g.fl] at fn
  have hne : ¬ z.k + 1 = S.looks.length := by omega
  have memR : ∀ y, y ∈ sb S z (tm S mv z) S.ears.length ↔ y ∈ sbR S z (tm S mv z) S.ears.length := fun y => by
    unfold sb
    rw [if_neg hne]
    exact (srt_perm _ _).mem_iff
  refine ⟨(memR _).mpr (List.mem_map.mpr ⟨_, fn, rfl⟩), rfl, fun y hy e => ?_, fun y hy => sb_wf o wz hy⟩
  obtain ⟨f, hf, rfl⟩ := List.mem_map.mp ((memR y).mp hy)
  have e' : f = fat S fail (lk S (z.k + 1)).s := e
  rw [e']
  rfl
theorem gz_first {S : Sky} {fail : List Nat} (o : OkS S) (m : OkM S) (hn : S.looks ≠ []) : Gz S fail (z00 S fail) (fs S S.ears.length) := by
  have h0 : InS S 0 := List.length_pos_iff.mpr hn
  have ff := fat_first (fail := fail) o m (most := S.ears.length) (fun t => fat_len) (m.s0 0 h0)
  have e : fs S S.ears.length = (ways (bb S (-1) (lk S 0).s) [] S.ears.length).map fun f => ⟨0, none, 0, [], f⟩ := by
    unfold fs
    rw [if_neg hn]
  refine ⟨?_, rfl, fun y hy e' => ?_, fun y hy => fs_wf o hy⟩
  · rw [e]
    exact List.mem_map.mpr ⟨_, ff, rfl⟩
  · rw [e] at hy
    obtain ⟨f, hf, rfl⟩ := List.mem_map.mp hy
    have e2 : f = fat S fail (lk S 0).s := e'
    rw [e2]
    rfl
def mvK (S : Sky) (most : Nat) (K0 : List Zt) (z : Zt) : Bool := decide (z ∈ K0) && ru S most z
theorem get_take {S : Sky} {most : Nat} {K0 : List Zt} {z : Zt} : gEq (((look (K0.map fun z => (z, ru S most z)) z).map eM).getD .none) (.str (PySem.Str.ofString "take")) = some (.bool (mvK S most K0 z)) := by
  rw [look_map]
  unfold mvK
  by_cases h : z ∈ K0
  · rw [if_pos h]
    show gEq (eM (ru S most z)) _ = _
    rw [eq_take]
    simp [h]
  · rw [if_neg h]
    show gEq .none _ = _
    rw [eq_non]
    simp [h]
theorem getN_eD {β : Type} {ev : β → PyData} {m : Mp β} {z : Zt} : gDGetN (.dict (eD ev m)) (eZ z) = some (((look m z).map ev).getD .none) := by
  show (if isKey (eZ z) = true then some ((getK (eD ev m) (eZ z)).getD .none) else none) = _
  rw [if_pos (key_eZ z), getK_eD]
theorem taken_by {S : Sky} {most : Nat} {fail : List Nat} {K0 : List Zt} (o : OkS S) (m : OkM S) (nd : K0.Nodup) (hlen : K0.length ≤ 600000) : g_taken_by [eSky S, .list (K0.map (eR S most)), eNs fail] = some (eNs (takenT S fail (mvK S most K0))) := by
  have key := forL_nxR (enc := eR S most) (t := .many [4, 5]) (js := [4, 5]) (body := b_taken_by_1) (fun D : List Zt => [some (eSky S), some (.list (K0.map (eR S most))), some (eNs fail), some (.dict (eD eM (D.map fun z => (z, ru S most z)))), none, none, none, none, none, none, none, none])
    (fun D z => D ++ [z]) (fun rest D => D ++ rest = K0) K0 [] (List.nil_append _) fun D z rest hI => by
      refine ⟨?_, by rw [List.append_assoc]; exact hI⟩
      have zD : z ∉ D := by
        rw [← hI] at nd
        exact fun q => (List.nodup_append.mp nd).2.2 z q z (List.mem_cons_self ..) rfl
      have lenD : D.length < 16777216 := by
        have : D.length + (rest.length + 1) = K0.length := by rw [← hI, List.length_append, List.length_cons]
        omega
      have tg : toTg (.many [4, 5]) (eR S most z) [some (eSky S), some (.list (K0.map (eR S most))), some (eNs fail), some (.dict (eD eM (D.map fun z => (z, ru S most z)))), none, none, none, none, none, none, none, none] =
          some [some (eSky S), some (.list (K0.map (eR S most))), some (eNs fail), some (.dict (eD eM (D.map fun z => (z, ru S most z)))), some (eZ z), some (eM (ru S most z)), none, none, none, none, none, none] := by
        unfold eR
        simp [ev_toTgM, setMany]
      have e1 : b_taken_by_1 [some (eSky S), some (.list (K0.map (eR S most))), some (eNs fail), some (.dict (eD eM (D.map fun z => (z, ru S most z)))), some (eZ z), some (eM (ru S most z)), none, none, none, none, none, none] =
          some (.nx [some (eSky S), some (.list (K0.map (eR S most))), some (eNs fail), some (.dict (eD eM ((D ++ [z]).map fun z => (z, ru S most z)))), some (eZ z), some (eM (ru S most z)), none, none, none, none, none, none]) := by
        unfold b_taken_by_1
        rw [ev_setDef (kvs := eD eM (D.map fun z => (z, ru S most z))) (k := eZ z) (d := eM (ru S most z)) (by simp) (by simp) (by simp) (key_eZ z) (by unfold eD; rw [List.length_map, List.length_map]; exact lenD) (by rw [getK_eD, look_map, if_neg zD]; rfl), putK_eD, put_new (by rw [keys_map]; exact zD), List.map_append]
        rfl
      simp only [one, tg, Option.bind_some, e1, Option.map_some, wOut]
      rfl
  have k1 := key.1
  rw [fold_app, List.nil_append] at k1
  have k1' : forL (.many [4, 5]) [4, 5] b_taken_by_1 (K0.map (eR S most)) [some (eSky S), some (.list (K0.map (eR S most))), some (eNs fail), some (.dict []), none, none, none, none, none, none, none, none] = some (.nx [some (eSky S), some (.list (K0.map (eR S most))), some (eNs fail), some (.dict (eD eM (K0.map fun z => (z, ru S most z)))), none, none, none, none, none, none, none, none]) := k1
  -- the way
  generalize hT : takenT S fail (mvK S most K0) = T
  let R : List Nat × List Zt → Rho := fun s => [some (eSky S), some (.list (K0.map (eR S most))), some (eNs fail), some (.dict (eD eM (K0.map fun z => (z, ru S most z)))), none, none, some (eNs s.1), some (.list (s.2.map eZ)), none, none, none, none]
  let I : List Nat × List Zt → Prop := fun s => (s.2 = [] ∧ s.1 = T) ∨ ∃ z, Gz S fail z s.2 ∧ s.1.length ≤ z.k ∧ s.1 ++ pth S fail (mvK S most K0) (S.looks.length - z.k) z = T
  let μ : List Nat × List Zt → Nat := fun s => match s.2[0]? with
    | none => 0
    | some z => S.looks.length + 1 - z.k
  let step : List Nat × List Zt → List Nat × List Zt := fun s => match s.2[0]? with
    | none => s
    | some y => match (s.2.filter fun q : Zt => decide (q.fl = fat S fail (lk S y.k).s))[0]? with
      | some z => ((if tm S (mvK S most K0) z = true then s.1 ++ [z.k] else s.1), sb S z (tm S (mvK S most K0) z) S.ears.length)
      | none => s
  have turn : ∀ s, I s → (!s.2.isEmpty) = true → (b_taken_by_2 (R s)).map (wOut [8, 9, 4, 5]) = some (.nx (R (step s))) ∧ I (step s) ∧ μ (step s) < μ s := by
    intro s hI hne
    obtain ⟨tk, Zs⟩ := s
    rcases hI with ⟨q, _⟩ | ⟨z, g, hl, hT'⟩
    · simp only at q
      rw [q] at hne
      cases hne
    · simp only at g hl hT'
      obtain ⟨y, y1, y2⟩ := head_k g
      have fh := filter_head g
      obtain ⟨wz, _⟩ := g.all z g.mem
      have okz := wz.ok o
      have es : step (tk, Zs) = ((if tm S (mvK S most K0) z = true then tk ++ [z.k] else tk), sb S z (tm S (mvK S most K0) z) S.ears.length) := by
        show (match Zs[0]? with
          | none => _
          | some y => match (Zs.filter fun q : Zt => decide (q.fl = fat S fail (lk S y.k).s))[0]? with
            | some z => _
            | none => _) = _
        rw [y1]
        show (match (Zs.filter fun q : Zt => decide (q.fl = fat S fail (lk S y.k).s))[0]? with
            | some z => _
            | none => _) = _
        rw [y2, fh]
      have hk := wz.k
      have e1 := lk_get wz.k
      have hel : S.ears.length ≤ 1000000 := by have := o.elen; omega
      have cf : dComp (.one 10) [10] (itRng1 (dCall gLen (aCons (dB gIx (dVar 0) (dC (.int 2))) aNil))) (tAnd (tV (dB gIn (dVar 10) (dVar 2))) (tV (dB gLe (dB gIx (dB gIx (dB gIx (dVar 0) (dC (.int 2))) (dVar 10)) (dC (.int 0))) (dVar 8)))) (dVar 10)
          [some (eSky S), some (.list (K0.map (eR S most))), some (eNs fail), some (.dict (eD eM (K0.map fun z => (z, ru S most z)))), none, none, some (eNs tk), some (.list (Zs.map eZ)), some (.int (lk S z.k).s), none, none, none] = some (eNs (fat S fail (lk S z.k).s)) := by
        rw [dComp_run (enc := eN) (xs := List.range S.ears.length) (fun i => if (decide (i ∈ fail) && decide (efi S i ≤ (lk S z.k).s)) = true then some (eN i) else none) (rng1 (by simp) hel) fun i hi => by
          obtain ⟨e, he⟩ := range_it hi
          have ee : efi S i = e.f := by unfold efi; rw [he]; rfl
          rw [ee]
          by_cases h1 : i ∈ fail <;> by_cases h2 : e.f ≤ (lk S z.k).s <;> simp [cTurn, wipe, he, h1, h2]]
        rw [fm_if]
        rfl
      have cs : dComp (.one 11) [11] (itS (dVar 7)) (tV (dB gEq (dB gIx (dVar 11) (dC (.int 4))) (dVar 9))) (dVar 11)
          [some (eSky S), some (.list (K0.map (eR S most))), some (eNs fail), some (.dict (eD eM (K0.map fun z => (z, ru S most z)))), none, none, some (eNs tk), some (.list (Zs.map eZ)), some (.int (lk S z.k).s), some (eT (fat S fail (lk S z.k).s)), none, none] = some (.list ((Zs.filter fun y => decide (y.fl = fat S fail (lk S z.k).s)).map eZ)) := by
        rw [dComp_run (enc := eZ) (xs := Zs) (fun y => if decide (y.fl = fat S fail (lk S z.k).s) = true then some (eZ y) else none) (by simp) fun q _ => by
          by_cases h1 : q.fl = fat S fail (lk S z.k).s <;> simp [cTurn, wipe, eq_T, h1]]
        rw [fm_if]
      have ix : gIx (.list ((Zs.filter fun y => decide (y.fl = fat S fail (lk S z.k).s)).map eZ)) (.int 0) = some (eZ z) := by
        rw [ev_gIxL0, fh]
        rfl
      have ih : gIx (.list (Zs.map eZ)) (.int 0) = some (eZ y) := by rw [ev_gIxL0, y1]; rfl
      have ik : gIx (eZ y) (.int 0) = some (eN z.k) := by rw [z0, y2]
      have gn := getN_eD (ev := eM) (m := K0.map fun z => (z, ru S most z)) (z := z)
      have gt := get_take (S := S) (most := most) (K0 := K0) (z := z)
      have m1 := may_take o okz
      have tt : gToT [eNs (fat S fail (lk S z.k).s)] = some (eT (fat S fail (lk S z.k).s)) := rfl
      have st := fun b => states_behind (b := b) (most := S.ears.length) o okz
      have stT : g_states_behind [eSky S, eZ z, .str (PySem.Str.ofString "take"), eN S.ears.length] = some (.list ((sb S z true S.ears.length).map eZ)) := st true
      have stF : g_states_behind [eSky S, eZ z, .str (PySem.Str.ofString "leave"), eN S.ears.length] = some (.list ((sb S z false S.ears.length).map eZ)) := st false
      have lt : tk.length < 16777216 := by have := o.len; omega
      have tl : (tk ++ [z.k]).map eN = tk.map eN ++ [eN z.k] := by rw [List.map_append]; rfl
      refine ⟨?_, ?_, ?_⟩
      · rw [es]
        cases hmv : mvK S most K0 z with
        | false =>
          rw [hmv] at gt
          have ht : tm S (mvK S most K0) z = false := by unfold tm; rw [hmv]; rfl
          rw [ht]
          simp [b_taken_by_2, R, ev_sSeq, ih, ik, e1, cf, cs, ix, tt, gn, gt, stF, wOut, wipe]
        | true =>
          rw [hmv] at gt
          cases hmt : mt S z with
          | false =>
            rw [hmt] at m1
            have ht : tm S (mvK S most K0) z = false := by unfold tm; rw [hmv, hmt]; rfl
            rw [ht]
            simp [b_taken_by_2, R, ev_sSeq, ih, ik, e1, cf, cs, ix, tt, gn, gt, m1, stF, wOut, wipe]
          | true =>
            rw [hmt] at m1
            have ht : tm S (mvK S most K0) z = true := by unfold tm; rw [hmv, hmt]; rfl
            rw [ht]
            simp [b_taken_by_2, R, ev_sSeq, ih, ik, e1, cf, cs, ix, tt, gn, gt, m1, stT, wOut, wipe, lt, big]
      · rw [es]
        obtain ⟨n, hn⟩ : ∃ n, S.looks.length - z.k = n + 1 := ⟨S.looks.length - z.k - 1, by omega⟩
        have hp : (if tm S (mvK S most K0) z = true then tk ++ [z.k] else tk) ++ pth S fail (mvK S most K0) n (nxt S fail (mvK S most K0) z) = T := by
          rw [hn] at hT'
          unfold pth at hT'
          rw [← hT']
          split <;> simp
        by_cases hN : z.k + 1 = S.looks.length
        · refine .inl ⟨?_, ?_⟩
          · show sb S z _ _ = []
            unfold sb
            rw [if_pos hN]
          · have : n = 0 := by omega
            rw [this] at hp
            unfold pth at hp
            rw [List.append_nil] at hp
            exact hp
        · refine .inr ⟨nxt S fail (mvK S most K0) z, gz_next o m g (by omega), ?_, ?_⟩
          · show (if _ then tk ++ [z.k] else tk).length ≤ z.k + 1
            split
            · rw [List.length_append, List.length_singleton]; omega
            · omega
          · show _ ++ pth S fail (mvK S most K0) (S.looks.length - (z.k + 1)) _ = T
            rw [show S.looks.length - (z.k + 1) = n by omega]
            exact hp
      · rw [es]
        have m0 : μ (tk, Zs) = S.looks.length + 1 - z.k := by
          show (match Zs[0]? with
            | none => 0
            | some z => S.looks.length + 1 - z.k) = _
          rw [y1, ← y2]
        rw [m0]
        show (match (sb S z (tm S (mvK S most K0) z) S.ears.length)[0]? with
          | none => 0
          | some z => S.looks.length + 1 - z.k) < _
        cases hs : (sb S z (tm S (mvK S most K0) z) S.ears.length)[0]? with
        | none => show 0 < _; omega
        | some y' =>
          have := (sb_wf o wz (List.mem_of_getElem? hs)).2
          show S.looks.length + 1 - y'.k < _
          omega
  have i0 : I ([], fs S S.ears.length) := by
    by_cases hn : S.looks = []
    · refine .inl ⟨?_, ?_⟩
      · show fs S _ = []
        unfold fs
        rw [if_pos hn]
      · rw [← hT]
        unfold takenT
        rw [if_pos hn]
    · refine .inr ⟨z00 S fail, gz_first o m hn, Nat.zero_le _, ?_⟩
      rw [← hT]
      unfold takenT
      rw [if_neg hn]
      rfl
  have μ0 : μ ([], fs S S.ears.length) < fuel := by
    have h5 := o.len
    show (match (fs S S.ears.length)[0]? with
      | none => 0
      | some z => S.looks.length + 1 - z.k) < _
    unfold fuel
    cases (fs S S.ears.length)[0]? with
    | none => show 0 < _; omega
    | some z => show S.looks.length + 1 - z.k < _; omega
  obtain ⟨s', w1, w2, w3⟩ := while_run (c := tTr (dVar 7)) (js := [8, 9, 4, 5]) (body := b_taken_by_2) R μ I (fun s => !s.2.isEmpty) step (fun s _ => by simp [R]) turn fuel ([], fs S S.ears.length) i0 μ0
  have hW : s'.2 = [] := by
    cases h : s'.2 with
    | nil => rfl
    | cons a b => rw [h] at w3; cases w3
  have hT2 : s'.1 = T := by
    rcases w2 with ⟨_, q⟩ | ⟨z, g, _⟩
    · exact q
    · have := g.mem
      rw [hW] at this
      cases this
  have w1' : sWhile (tTr (dVar 7)) [8, 9, 4, 5] b_taken_by_2 [some (eSky S), some (.list (K0.map (eR S most))), some (eNs fail), some (.dict (eD eM (K0.map fun z => (z, ru S most z)))), none, none, some (.list []), some (.list ((fs S S.ears.length).map eZ)), none, none, none, none] =
      some (.nx [some (eSky S), some (.list (K0.map (eR S most))), some (eNs fail), some (.dict (eD eM (K0.map fun z => (z, ru S most z)))), none, none, some (eNs T), some (.list (s'.2.map eZ)), none, none, none, none]) := by
    have q : R s' = [some (eSky S), some (.list (K0.map (eR S most))), some (eNs fail), some (.dict (eD eM (K0.map fun z => (z, ru S most z)))), none, none, some (eNs T), some (.list (s'.2.map eZ)), none, none, none, none] := by
      rw [← hT2]
    rw [← q]
    exact w1
  have f0 := first_states (most := S.ears.length) o
  refine run_eq rfl ?_
  simp [b_taken_by, Da.start, ev_sSeq, k1', f0, w1']
end Pl
set_option linter.all false
set_option maxRecDepth 100000
/-! Ev13: growing lists of plans. -/
namespace Pl
open PySem Da
section
variable {α : Type}
def Phi (rank : α → Nat) (xs : List α) : Nat := (xs.map fun p => 6 ^ rank p).sum
theorem Phi_app (rank : α → Nat) (xs ys : List α) : Phi rank (xs ++ ys) = Phi rank xs + Phi rank ys := by
  unfold Phi
  rw [List.map_append, List.sum_append]
theorem Phi_le (rank : α → Nat) {c : Nat} : ∀ (xs : List α), (∀ x ∈ xs, rank x ≤ c) → Phi rank xs ≤ xs.length * 6 ^ c
  | [], _ => by simp [Phi]
  | x :: xs, h => by
    have ih := Phi_le rank xs fun y hy => h y (List.mem_cons_of_mem _ hy)
    have : 6 ^ rank x ≤ 6 ^ c := Nat.pow_le_pow_right (by decide) (h x (List.mem_cons_self ..))
    unfold Phi at ih ⊢
    rw [List.map_cons, List.sum_cons, List.length_cons, Nat.add_mul]
    omega
theorem Phi_len (rank : α → Nat) : ∀ (xs : List α), xs.length ≤ Phi rank xs
  | [] => by simp [Phi]
  | x :: xs => by
    have ih := Phi_len rank xs
    have : 1 ≤ 6 ^ rank x := Nat.one_le_pow _ _ (by decide)
    unfold Phi at ih ⊢
    rw [List.map_cons, List.sum_cons, List.length_cons]
    omega
/-- what grows: each one has at most five behind it, all of lower rank -/
structure Grow (ext : α → List α) (rank : α → Nat) (P : α → Prop) : Prop where
  len : ∀ p, P p → (ext p).length ≤ 5
  lt : ∀ p, P p → ∀ c ∈ ext p, P c ∧ rank c < rank p
inductive Rch (ext : α → List α) (a0 : α) : α → Prop where
  | a : Rch ext a0 a0
  | s {p c : α} : Rch ext a0 p → c ∈ ext p → Rch ext a0 c
structure GrI (ext : α → List α) (rank : α → Nat) (P : α → Prop) (a0 : α) (s : List α × Nat) : Prop where
  le : s.2 ≤ s.1.length
  a : a0 ∈ s.1
  clo : ∀ p ∈ s.1.take s.2, ∀ c ∈ ext p, c ∈ s.1
  p : ∀ p ∈ s.1, P p
  b : s.2 + Phi rank (s.1.drop s.2) ≤ 100000
  r : ∀ p ∈ s.1, Rch ext a0 p
def grS (ext : α → List α) (s : List α × Nat) : List α × Nat := match s.1[s.2]? with
  | some p => (s.1 ++ ext p, s.2 + 1)
  | none => s
def grM (rank : α → Nat) (s : List α × Nat) : Nat := Phi rank (s.1.drop s.2)
variable {ext : α → List α} {rank : α → Nat} {P : α → Prop} {a0 : α}
theorem GrI.len {s : List α × Nat} (h : GrI ext rank P a0 s) : s.1.length ≤ 100000 := by
  have h1 := h.le
  have h2 := Phi_len rank (s.1.drop s.2)
  have h3 := h.b
  rw [List.length_drop] at h2
  omega
theorem grS_ok (G : Grow ext rank P) {s : List α × Nat} (h : GrI ext rank P a0 s) {p : α} (hp : s.1[s.2]? = some p) : GrI ext rank P a0 (grS ext s) ∧ grM rank (grS ext s) < grM rank s := by
  obtain ⟨F, n⟩ := s
  simp only at hp
  have hn : n < F.length := (List.getElem?_eq_some_iff.mp hp).1
  have en : F[n] = p := (List.getElem?_eq_some_iff.mp hp).2
  have pm : p ∈ F := List.mem_of_getElem? hp
  have Pp := h.p p pm
  have es : grS ext (F, n) = (F ++ ext p, n + 1) := by
    unfold grS
    rw [show (F, n).1[(F, n).2]? = some p from hp]
  have d1 : F.drop n = p :: F.drop (n + 1) := by rw [List.drop_eq_getElem_cons hn, en]
  have d2 : (F ++ ext p).drop (n + 1) = F.drop (n + 1) ++ ext p := by rw [List.drop_append_of_le_length (by omega)]
  have e1 : Phi rank (F.drop n) = 6 ^ rank p + Phi rank (F.drop (n + 1)) := by
    rw [d1]; unfold Phi; rw [List.map_cons, List.sum_cons]
  have e2 : Phi rank ((F ++ ext p).drop (n + 1)) = Phi rank (F.drop (n + 1)) + Phi rank (ext p) := by rw [d2, Phi_app]
  have lt : Phi rank (ext p) < 6 ^ rank p := by
    cases hr : rank p with
    | zero =>
      have : ext p = [] := by
        cases he : ext p with
        | nil => rfl
        | cons c r =>
          have := (G.lt p Pp c (by rw [he]; exact List.mem_cons_self ..)).2
          omega
      rw [this]
      show 0 < 1
      decide
    | succ k =>
      have l1 := Phi_le rank (c := k) (ext p) fun c hc => by have := (G.lt p Pp c hc).2; omega
      have l2 := G.len p Pp
      have l3 : (ext p).length * 6 ^ k ≤ 5 * 6 ^ k := Nat.mul_le_mul_right _ l2
      have l4 : 1 ≤ 6 ^ k := Nat.one_le_pow _ _ (by decide)
      rw [Nat.pow_succ]
      omega
  rw [es]
  have hb : n + Phi rank (F.drop n) ≤ 100000 := h.b
  refine ⟨⟨?_, List.mem_append_left _ h.a, fun q hq c hc => ?_, fun q hq => ?_, ?_, fun q hq => ?_⟩, ?_⟩
  · show n + 1 ≤ (F ++ ext p).length
    rw [List.length_append]; omega
  · have hq' : q ∈ (F ++ ext p).take (n + 1) := hq
    rw [List.take_append_of_le_length (by omega), List.take_succ_eq_append_getElem hn, en] at hq'
    rcases List.mem_append.mp hq' with q1 | q1
    · exact List.mem_append_left _ (h.clo q q1 c hc)
    · rw [List.mem_singleton.mp q1] at hc
      exact List.mem_append_right _ hc
  · rcases List.mem_append.mp hq with q1 | q1
    · exact h.p q q1
    · exact (G.lt p Pp q q1).1
  · show n + 1 + Phi rank ((F ++ ext p).drop (n + 1)) ≤ 100000
    omega
  · rcases List.mem_append.mp hq with q1 | q1
    · exact h.r q q1
    · exact .s (h.r p pm) q1
  · show Phi rank ((F ++ ext p).drop (n + 1)) < Phi rank (F.drop n)
    omega
end
/-- a list that grew to its end -/
structure Grown (ext : List Nat → List (List Nat)) (P : List Nat → Prop) (a0 : List Nat) (F : List (List Nat)) : Prop where
  a : a0 ∈ F
  clo : ∀ p ∈ F, ∀ c ∈ ext p, c ∈ F
  p : ∀ p ∈ F, P p
  len : F.length ≤ 100000
  r : ∀ p ∈ F, Rch ext a0 p
theorem grown_run {ext : List Nat → List (List Nat)} {rank : List Nat → Nat} {P : List Nat → Prop} {a0 : List Nat} {c : Dts} {js : List Nat} {body : Dst} (G : Grow ext rank P) (R : List (List Nat) × Nat → Rho) (hr : rank a0 ≤ 5) (hP : P a0)
    (hc : ∀ s, GrI ext rank P a0 s → c (R s) = some (decide (s.2 < s.1.length))) (hb : ∀ s p, GrI ext rank P a0 s → s.1[s.2]? = some p → (body (R s)).map (wOut js) = some (.nx (R (s.1 ++ ext p, s.2 + 1)))) :
    ∃ F, sWhile c js body (R ([a0], 0)) = some (.nx (R (F, F.length))) ∧ Grown ext P a0 F := by
  have i0 : GrI ext rank P a0 ([a0], 0) := by
    refine ⟨Nat.zero_le _, List.mem_singleton.mpr rfl, fun p hp => absurd hp (by simp), fun p hp => by rw [List.mem_singleton.mp hp]; exact hP, ?_, fun p hp => by rw [List.mem_singleton.mp hp]; exact .a⟩
    show 0 + Phi rank [a0] ≤ 100000
    have : 6 ^ rank a0 ≤ 6 ^ 5 := Nat.pow_le_pow_right (by decide) hr
    unfold Phi
    simp only [List.map_cons, List.map_nil, List.sum_cons, List.sum_nil]
    omega
  obtain ⟨s', w1, w2, w3⟩ := while_run (c := c) (js := js) (body := body) R (grM rank) (GrI ext rank P a0) (fun s => decide (s.2 < s.1.length)) (grS ext) hc (fun s hI hg => by
    have hg' : s.2 < s.1.length := of_decide_eq_true hg
    have hp : s.1[s.2]? = some s.1[s.2] := List.getElem?_eq_getElem hg'
    obtain ⟨k1, k2⟩ := grS_ok G hI hp
    refine ⟨?_, k1, k2⟩
    have es : grS ext s = (s.1 ++ ext s.1[s.2], s.2 + 1) := by unfold grS; rw [hp]
    rw [es]
    exact hb s _ hI hp) fuel ([a0], 0) i0 (by
      have := i0.b
      have e : grM rank ([a0], 0) = Phi rank (([a0], 0) : List (List Nat) × Nat).1 := rfl
      have e2 : Phi rank ((([a0], 0) : List (List Nat) × Nat).1.drop (([a0], 0) : List (List Nat) × Nat).2) = grM rank ([a0], 0) := rfl
      rw [e2] at this
      unfold fuel
      omega)
  have hE : s'.2 = s'.1.length := by
    have h1 := w2.le
    have h2 : ¬ s'.2 < s'.1.length := of_decide_eq_false w3
    omega
  refine ⟨s'.1, ?_, w2.a, fun p hp c hc => ?_, w2.p, w2.len, w2.r⟩
  · rw [← hE]; exact w1
  · refine w2.clo p ?_ c hc
    rw [hE, List.take_of_length_le (Nat.le_refl _)]
    exact hp

/-! ### plans_on -/
def fst1 (p : List Nat) : Nat := match p.getLast? with
  | some l => l + 1
  | none => 0
def extT (S : Sky) (now : Int) (p : List Nat) : List (List Nat) := ((List.range' (fst1 p) (S.looks.length - fst1 p)).filter fun i => decide (now ≤ (lk S i).s) && (planF S (p ++ [i])).isSome).map fun i => p ++ [i]
theorem fst1_snoc (p : List Nat) (i : Nat) : fst1 (p ++ [i]) = i + 1 := by
  unfold fst1
  rw [List.getLast?_append]
  rfl
/-- names within the sky -/
def PIn (S : Sky) (p : List Nat) : Prop := (∀ i ∈ p, InS S i) ∧ p.length + (S.looks.length - fst1 p) ≤ 10
theorem growT {S : Sky} (o : OkS S) (now : Int) : Grow (extT S now) (fun p => S.looks.length - fst1 p) (PIn S) where
  len := fun p hp => by
    unfold extT
    rw [List.length_map]
    refine Nat.le_trans (List.length_filter_le ..) ?_
    rw [List.length_range']
    have := o.len
    omega
  lt := fun p hp c hc => by
    obtain ⟨i, hi, rfl⟩ := List.mem_map.mp hc
    obtain ⟨h1, h2⟩ := List.mem_filter.mp hi
    rw [List.mem_range'_1] at h1
    have hN : i < S.looks.length := by omega
    refine ⟨⟨fun j hj => ?_, ?_⟩, ?_⟩
    · rcases List.mem_append.mp hj with q | q
      · exact hp.1 j q
      · rw [List.mem_singleton.mp q]; exact hN
    · have := hp.2
      rw [fst1_snoc, List.length_append, List.length_singleton]
      omega
    · show S.looks.length - fst1 (p ++ [i]) < S.looks.length - fst1 p
      rw [fst1_snoc]
      omega
theorem gIx_last {p : List Nat} {l : Nat} (h : p.getLast? = some l) : gIx (.list (p.map eN)) (.int (-1)) = some (eN l) := by
  have hne : p ≠ [] := by rintro rfl; cases h
  have hp := List.length_pos_iff.mpr hne
  show ((if 0 < (p.map eN).length then some ((p.map eN).length - (0 + 1)) else none).bind fun j => (p.map eN)[j]?) = _
  rw [List.length_map, if_pos hp]
  show (p.map eN)[p.length - (0 + 1)]? = _
  rw [List.getElem?_map, Nat.zero_add, ← List.getLast?_eq_getElem?, h]
  rfl
theorem catL1 {p : List Nat} {i : Nat} (h : p.length ≤ 1000) : gCatL (.list (p.map eN)) (.list [eN i]) = some (eNs (p ++ [i])) := by
  show (if (p.map eN).length + [eN i].length ≤ big then some (PyData.list (p.map eN ++ [eN i])) else none) = _
  rw [if_pos (by rw [List.length_map, List.length_singleton]; unfold big; omega), ← show (p ++ [i]).map eN = p.map eN ++ [eN i] by rw [List.map_append]; rfl]
theorem fold_if {α β : Type} (p : α → Bool) (g : α → β) : ∀ (L : List α) (F : List β), L.foldl (fun F i => if p i = true then F ++ [g i] else F) F = F ++ (L.filter p).map g
  | [], F => by simp
  | x :: L, F => by
    rw [List.foldl_cons, List.filter_cons]
    cases h : p x with
    | true => rw [if_pos rfl, if_pos rfl, fold_if p g L]; simp
    | false => rw [if_neg (by decide), if_neg (by decide), fold_if p g L]
theorem plans_on {S : Sky} {now : Int} {bd : PyData} {begun : List Nat} (o : OkS S) (hb : gToL [bd] = some (eNs begun)) (hp : PIn S begun) : ∃ F, g_plans_on [eSky S, .int now, bd] = some (.list ((srt (fun p : List Nat => eNs p) F).map fun p => eNs p)) ∧ Grown (extT S now) (PIn S) begun F := by
  let R : List (List Nat) × Nat → Rho := fun s => [some (eSky S), some (.int now), some bd, some (.list (s.1.map fun p => eNs p)), some (eN s.2), none, none, none]
  have G := growT o now
  obtain ⟨F, w1, w2⟩ := grown_run (c := tV (dB gLt (dVar 4) (dCall gLen (aCons (dVar 3) aNil)))) (js := [5, 6, 7]) (body := b_plans_on_2) G R (a0 := begun) (by have := o.len; omega) hp (fun s _ => by
    have : ((s.2 : Int) < (s.1.length : Int)) ↔ s.2 < s.1.length := by omega
    simp [R, this]) fun s p hI hp' => by
      have Pp := hI.p p (List.mem_of_getElem? hp')
      have hl := hI.len
      have e1 : gIx (.list (s.1.map fun p => eNs p)) (.int (s.2 : Int)) = some (eNs p) := by rw [ev_gIx, hp']; rfl
      have pl : p.length ≤ 1000 := by have := Pp.2; omega
      have hN : S.looks.length ≤ 1000000 := by have := o.len; omega
      have inner := forL_nxR (enc := eN) (t := .one 7) (js := [7]) (body := b_plans_on_1) (fun D : List (List Nat) => [some (eSky S), some (.int now), some bd, some (.list (D.map fun p => eNs p)), some (eN (s.2 + 1)), some (eNs p), some (eN (fst1 p)), none])
        (fun D i => if (decide (now ≤ (lk S i).s) && (planF S (p ++ [i])).isSome) = true then D ++ [p ++ [i]] else D) (fun rest D => (∀ i ∈ rest, InS S i) ∧ D.length + rest.length ≤ 200000) (List.range' (fst1 p) (S.looks.length - fst1 p)) s.1 ⟨fun i hi => by
          rw [List.mem_range'_1] at hi
          show i < S.looks.length
          omega, by rw [List.length_range']; have := o.len; omega⟩ fun D i rest hh => by
          obtain ⟨h1, h2⟩ := hh
          rw [List.length_cons] at h2
          have hi := h1 i (List.mem_cons_self ..)
          have e2 := lk_get hi
          have ip := is_plan (xs := p ++ [i]) o fun j hj => by
            rcases List.mem_append.mp hj with q | q
            · exact Pp.1 j q
            · rw [List.mem_singleton.mp q]; exact hi
          have ct := catL1 (p := p) (i := i) pl
          have lD : D.length < 16777216 := by omega
          have mp : (D ++ [p ++ [i]]).map (fun p => eNs p) = D.map (fun p => eNs p) ++ [eNs (p ++ [i])] := by rw [List.map_append]; rfl
          refine ⟨?_, fun j hj => h1 j (List.mem_cons_of_mem _ hj), ?_⟩
          · by_cases c1 : now ≤ (lk S i).s
            · cases c2 : (planF S (p ++ [i])).isSome with
              | true =>
                rw [c2] at ip
                simp only [c1, decide_true, Bool.true_and, if_true, mp]
                simp [one, b_plans_on_1, e2, c1, ct, ip, wOut, wipe, lD, big]
              | false =>
                rw [c2] at ip
                simp only [c1, decide_true, Bool.true_and, Bool.false_eq_true, if_false]
                simp [one, b_plans_on_1, e2, c1, ct, ip, wOut, wipe]
            · simp only [c1, decide_false, Bool.false_and, Bool.false_eq_true, if_false]
              simp [one, b_plans_on_1, e2, c1, wOut, wipe]
          · split
            · rw [List.length_append, List.length_singleton]; omega
            · omega
      have i1 := inner.1
      rw [fold_if] at i1
      have ei : forL (.one 7) [7] b_plans_on_1 ((List.range' (fst1 p) (S.looks.length - fst1 p)).map eN) [some (eSky S), some (.int now), some bd, some (.list (s.1.map fun p => eNs p)), some (.int ((s.2 : Int) + 1)), some (eNs p), some (eN (fst1 p)), none] =
          some (.nx [some (eSky S), some (.int now), some bd, some (.list ((s.1 ++ extT S now p).map fun p => eNs p)), some (.int ((s.2 : Int) + 1)), some (eNs p), some (eN (fst1 p)), none]) := i1
      have hf1 : fst1 p ≤ S.looks.length := by
        unfold fst1
        cases hl : p.getLast? with
        | none => exact Nat.zero_le _
        | some l => exact Pp.1 l (List.mem_of_getLast? hl)
      have hr : itRng2 (dVar 6) (dCall gLen (aCons (dB gIx (dVar 0) (dC (.int 0))) aNil)) [some (eSky S), some (.int now), some bd, some (.list (s.1.map fun p => eNs p)), some (.int ((s.2 : Int) + 1)), some (eNs p), some (eN (fst1 p)), none] = some ((List.range' (fst1 p) (S.looks.length - fst1 p)).map eN) :=
        rng2 (a := fst1 p) (b := S.looks.length) (by simp) (by simp) (by omega) hN
      have em : ∀ p : List Nat, (p.map eN).isEmpty = p.isEmpty := fun p => by cases p <;> rfl
      have q1 : PyData.int ((s.2 : Int) + 1) = eN (s.2 + 1) := rfl
      cases hl : p.getLast? with
      | none =>
        have hp0 : p = [] := List.getLast?_eq_none_iff.mp hl
        have hf : fst1 p = 0 := by unfold fst1; rw [hl]
        have hpe : (p.map eN).isEmpty = true := by rw [hp0]; rfl
        rw [hf] at hr ei
        have hr' : itRng2 (dVar 6) (dCall gLen (aCons (dB gIx (dVar 0) (dC (.int 0))) aNil)) [some (eSky S), some (.int now), some bd, some (.list (s.1.map fun p => eNs p)), some (.int ((s.2 : Int) + 1)), some (eNs p), some (.int 0), none] = some ((List.range' 0 (S.looks.length - 0)).map eN) := hr
        have ei' : forL (.one 7) [7] b_plans_on_1 ((List.range' 0 (S.looks.length - 0)).map eN) [some (eSky S), some (.int now), some bd, some (.list (s.1.map fun p => eNs p)), some (.int ((s.2 : Int) + 1)), some (eNs p), some (.int 0), none] =
          some (.nx [some (eSky S), some (.int now), some bd, some (.list ((s.1 ++ extT S now p).map fun p => eNs p)), some (.int ((s.2 : Int) + 1)), some (eNs p), some (.int 0), none]) := ei
        simp only [b_plans_on_2, R, ev_sSeq, ev_sPar, ev_dB, ev_dVar, ev_dC, List.getElem?_cons_succ, List.getElem?_cons_zero, Option.getD_some, Option.bind_some, e1, List.set_cons_succ, List.set_cons_zero, ev_sAug, ev_gAdd, Option.map_some, ev_sIf, ev_tTr, ev_truthL, hpe, Bool.not_true, Bool.false_eq_true, if_false, ev_sNext, ev_sFor, hr', ei', wOut, wipe, List.foldl_cons, List.foldl_nil]
        rw [q1]
      | some l =>
        have hf : fst1 p = l + 1 := by unfold fst1; rw [hl]
        have hpe : (p.map eN).isEmpty = false := by cases p with
          | nil => cases hl
          | cons a b => rfl
        have gl := gIx_last hl
        rw [hf] at hr ei
        have hr' : itRng2 (dVar 6) (dCall gLen (aCons (dB gIx (dVar 0) (dC (.int 0))) aNil)) [some (eSky S), some (.int now), some bd, some (.list (s.1.map fun p => eNs p)), some (.int ((s.2 : Int) + 1)), some (eNs p), some (.int ((l : Int) + 1)), none] = some ((List.range' (l + 1) (S.looks.length - (l + 1))).map eN) := hr
        have ei' : forL (.one 7) [7] b_plans_on_1 ((List.range' (l + 1) (S.looks.length - (l + 1))).map eN) [some (eSky S), some (.int now), some bd, some (.list (s.1.map fun p => eNs p)), some (.int ((s.2 : Int) + 1)), some (eNs p), some (.int ((l : Int) + 1)), none] =
          some (.nx [some (eSky S), some (.int now), some bd, some (.list ((s.1 ++ extT S now p).map fun p => eNs p)), some (.int ((s.2 : Int) + 1)), some (eNs p), some (.int ((l : Int) + 1)), none]) := ei
        have s1 : sPar 5 6 (dB gIx (dVar 3) (dVar 4)) (dC (.int 0)) (R s) = some (.nx [some (eSky S), some (.int now), some bd, some (.list (s.1.map fun p => eNs p)), some (eN s.2), some (eNs p), some (.int 0), none]) := by simp [R, e1]
        have s2 : sAug 4 (dC (.int 1)) [some (eSky S), some (.int now), some bd, some (.list (s.1.map fun p => eNs p)), some (eN s.2), some (eNs p), some (.int 0), none] = some (.nx [some (eSky S), some (.int now), some bd, some (.list (s.1.map fun p => eNs p)), some (.int ((s.2 : Int) + 1)), some (eNs p), some (.int 0), none]) := by simp
        have s3 : sIf (tTr (dVar 5)) (sAsg (dB gAdd (dB gIx (dVar 5) (dU gNeg (dC (.int 1)))) (dC (.int 1))) (.one 6)) sNext [some (eSky S), some (.int now), some bd, some (.list (s.1.map fun p => eNs p)), some (.int ((s.2 : Int) + 1)), some (eNs p), some (.int 0), none] = some (.nx [some (eSky S), some (.int now), some bd, some (.list (s.1.map fun p => eNs p)), some (.int ((s.2 : Int) + 1)), some (eNs p), some (.int ((l : Int) + 1)), none]) := by
          rw [ev_sIf, ev_tTr, ev_dVar]
          show (if (!(p.map eN).isEmpty) = true then _ else _) = _
          rw [hpe, if_pos (show (!false) = true from rfl), ev_sAsg, ev_dB, ev_dB, ev_dVar, ev_dU, ev_dC]
          show ((gIx (.list (p.map eN)) (.int (-1))).bind _).bind _ = _
          rw [gl]
          rfl
        unfold b_plans_on_2
        rw [sSeq_nx s1, sSeq_nx s2, sSeq_nx s3, ev_sFor, hr', Option.bind_some, ei', Option.map_some]
        simp only [wOut, wipe, List.foldl_cons, List.foldl_nil, List.set_cons_succ, List.set_cons_zero]
        rw [q1]
  refine ⟨F, ?_, w2⟩
  have hs := sorted_list (enc := fun p : List Nat => eNs p) (xs := F) (fun a _ b _ => pal_eL a b) (fun a _ => ok_eL a)
  have w1' : sWhile (tV (dB gLt (dVar 4) (dCall gLen (aCons (dVar 3) aNil)))) [5, 6, 7] b_plans_on_2 [some (eSky S), some (.int now), some bd, some (.list [eNs begun]), some (.int 0), none, none, none] = some (.nx [some (eSky S), some (.int now), some bd, some (.list (F.map fun p => eNs p)), some (eN F.length), none, none, none]) := w1
  refine run_eq rfl ?_
  simp only [b_plans_on, Da.start, ev_sSeq, ev_sPar, ev_dLst, ev_aCons, ev_aNil, ev_dCall, ev_dVar, ev_dC, List.map_cons, List.map_nil, List.length_cons, List.length_nil, List.replicate, List.cons_append, List.nil_append, List.getElem?_cons_succ, List.getElem?_cons_zero, Option.getD_some, Option.bind_some, hb, List.set_cons_succ, List.set_cons_zero, w1', ev_sRet, hs, Option.map_some]
end Pl
set_option linter.all false
set_option maxRecDepth 100000
/-! Ev14: plans that keep promises, the best of them. -/
namespace Pl
open PySem Da
abbrev eI' : Int → PyData := .int
def keepsT (S : Sky) (p : List Nat) (prom : List Int) : Bool := prom.all fun w => decide (w ∈ p.map fun i => (lk S i).w)
@[simp] theorem bools_map (xs : List Bool) : bools? (xs.map .bool) = some xs := by
  induction xs with
  | nil => rfl
  | cons x xs ih =>
    rw [List.map_cons]
    show (bools? (xs.map .bool)).map _ = _
    rw [ih]
    rfl
theorem keeps {S : Sky} {p : List Nat} {prom : List Int} (hp : ∀ i ∈ p, InS S i) : g_keeps [eSky S, eNs p, .list (prom.map .int)] = some (.bool (keepsT S p prom)) := by
  refine run_eq rfl ?_
  have c1 : dComp (.one 4) [4] (itS (dVar 1)) yes (dB gIx (dB gIx (dB gIx (dVar 0) (dC (.int 0))) (dVar 4)) (dC (.int 0))) [some (eSky S), some (eNs p), some (.list (prom.map .int)), none, none, none] = some (.list ((p.map fun i => (lk S i).w).map .int)) := by
    rw [dComp_run (enc := eN) (xs := p) (fun i => some (.int (lk S i).w)) (by simp) fun i hi => by
      have e1 := lk_get (hp i hi)
      simp [cTurn, wipe, e1]]
    rw [fm_map, List.map_map]
    rfl
  have c2 : dComp (.one 5) [5] (itS (dVar 2)) yes (dB gIn (dVar 5) (dVar 3)) [some (eSky S), some (eNs p), some (.list (prom.map .int)), some (.list ((p.map fun i => (lk S i).w).map .int)), none, none] = some (.list ((prom.map fun w => decide (w ∈ p.map fun i => (lk S i).w)).map .bool)) := by
    rw [dComp_run (enc := .int) (xs := prom) (fun w => some (.bool (decide (w ∈ p.map fun i => (lk S i).w)))) (by simp) fun w hw => by
      simp [cTurn, wipe, -List.map_map]]
    rw [fm_map, List.map_map]
    rfl
  have ga : gAll [.list ((prom.map fun w => decide (w ∈ p.map fun i => (lk S i).w)).map .bool)] = some (.bool (keepsT S p prom)) := by
    show (bools? _).map _ = _
    rw [bools_map]
    show some (PyData.bool ((prom.map fun w => decide (w ∈ p.map fun i => (lk S i).w)).all id)) = _
    rw [List.all_map]
    rfl
  simp [b_keeps, Da.start, ev_sSeq, c1, c2, ga, -List.map_map, -List.mem_map]
theorem keeping {S : Sky} {now : Int} {bd : PyData} {begun : List Nat} {prom : List Int} (o : OkS S) (hb : gToL [bd] = some (eNs begun)) (hp : PIn S begun) : ∃ (F : List (List Nat)), g_keeping [eSky S, .list (prom.map .int), .int now, bd] = some (.list ((F.filter fun p => keepsT S p prom).map fun p => eNs p)) ∧ Grown (extT S now) (PIn S) begun F := by
  obtain ⟨F, h1, h2⟩ := plans_on (now := now) o hb hp
  have hm : ∀ p, p ∈ srt (fun p : List Nat => eNs p) F ↔ p ∈ F := fun p => (srt_perm _ _).mem_iff
  refine ⟨srt (fun p : List Nat => eNs p) F, ?_, ⟨(hm _).mpr h2.a, fun p hp c hc => (hm c).mpr (h2.clo p ((hm p).mp hp) c hc), fun p hp => h2.p p ((hm p).mp hp), by rw [(srt_perm _ _).length_eq]; exact h2.len, fun p hp => h2.r p ((hm p).mp hp)⟩⟩
  refine run_eq rfl ?_
  have c1 : dComp (.one 4) [4] (itS (dCall g_plans_on (aCat (aCons (dVar 0) aNil) (aCons (dVar 2) (aCons (dVar 3) aNil))))) (tV (dCall g_keeps (aCons (dVar 0) (aCons (dVar 4) (aCons (dVar 1) aNil))))) (dVar 4) [some (eSky S), some (.list (prom.map .int)), some (.int now), some bd, none] = some (.list (((srt (fun p : List Nat => eNs p) F).filter fun p => keepsT S p prom).map fun p => eNs p)) := by
    rw [dComp_run (enc := fun p : List Nat => eNs p) (xs := srt (fun p : List Nat => eNs p) F) (fun p => if keepsT S p prom = true then some (eNs p) else none) (by simp [h1]) fun p hp' => by
      have k := keeps (prom := prom) (h2.p p ((hm p).mp hp')).1
      cases hk : keepsT S p prom <;> (rw [hk] at k; simp [cTurn, wipe, k])]
    rw [fm_if]
  simp [b_keeping, Da.start, c1]
theorem can_keep {S : Sky} {now : Int} {bd : PyData} {begun : List Nat} {prom : List Int} (o : OkS S) (hb : gToL [bd] = some (eNs begun)) (hp : PIn S begun) : ∃ (F : List (List Nat)), g_can_keep [eSky S, .list (prom.map .int), .int now, bd] = some (.bool (decide (0 < (F.filter fun p => keepsT S p prom).length))) ∧ Grown (extT S now) (PIn S) begun F := by
  obtain ⟨F, h1, h2⟩ := keeping (now := now) (prom := prom) o hb hp
  refine ⟨F, run_eq rfl ?_, h2⟩
  have : ((0 : Int) < ((F.filter fun p => keepsT S p prom).length : Int)) ↔ 0 < (F.filter fun p => keepsT S p prom).length := by omega
  simp [b_can_keep, Da.start, h1, this]
def eB : Option (Int × List Nat) → PyData
  | none => .none
  | some (w, p) => .tuple [.int w, eNs p]
def bestS (S : Sky) (b : Option (Int × List Nat)) (p : List Nat) : Option (Int × List Nat) := match b with
  | none => some (worthT S p, p)
  | some (w, q) => if worthT S p > w then some (worthT S p, p) else some (w, q)
theorem bestS_ok {S : Sky} : ∀ (L : List (List Nat)) (b : Option (Int × List Nat)), (L = [] ∧ b = none) ∨ ∃ w p, L.foldl (bestS S) b = some (w, p) ∧ (p ∈ L ∧ w = worthT S p ∨ b = some (w, p)) ∧ (∀ q ∈ L, worthT S q ≤ w) ∧ ∀ w' q, b = some (w', q) → w' ≤ w
  | [], none => .inl ⟨rfl, rfl⟩
  | [], some (w, p) => .inr ⟨w, p, rfl, .inr rfl, fun q hq => absurd hq (by simp), fun w' q e => by cases e; exact Int.le_refl _⟩
  | x :: L, b => by
    right
    rw [List.foldl_cons]
    have hs : ∃ w p, bestS S b x = some (w, p) ∧ ((p = x ∧ w = worthT S x) ∨ b = some (w, p)) ∧ worthT S x ≤ w ∧ ∀ w' q, b = some (w', q) → w' ≤ w := by
      unfold bestS
      cases b with
      | none => exact ⟨_, _, rfl, .inl ⟨rfl, rfl⟩, Int.le_refl _, fun _ _ e => nomatch e⟩
      | some bb =>
        obtain ⟨w, q⟩ := bb
        simp only
        by_cases h : worthT S x > w
        · rw [if_pos h]
          exact ⟨_, _, rfl, .inl ⟨rfl, rfl⟩, Int.le_refl _, fun w' q' e => by cases e; omega⟩
        · rw [if_neg h]
          exact ⟨_, _, rfl, .inr rfl, by omega, fun w' q' e => by cases e; omega⟩
    obtain ⟨w, p, e1, e2, e3, e4⟩ := hs
    rcases bestS_ok L (bestS S b x) with ⟨_, q⟩ | ⟨w2, p2, k1, k2, k3, k4⟩
    · rw [e1] at q; cases q
    · have hw := k4 w p e1
      refine ⟨w2, p2, k1, ?_, fun q hq => ?_, fun w' q e => by have := e4 w' q e; omega⟩
      · rcases k2 with ⟨a, b'⟩ | a
        · exact .inl ⟨List.mem_cons_of_mem _ a, b'⟩
        · rw [e1] at a
          cases a
          rcases e2 with ⟨rfl, e⟩ | e
          · exact .inl ⟨List.mem_cons_self .., e⟩
          · exact .inr e
      · rcases List.mem_cons.mp hq with rfl | hq
        · omega
        · exact k3 q hq
theorem best_keeping {S : Sky} {now : Int} {bd : PyData} {begun : List Nat} {prom : List Int} (o : OkS S) (hw : OkW S) (hb : gToL [bd] = some (eNs begun)) (hp : PIn S begun) : ∃ (F : List (List Nat)), g_best_keeping [eSky S, .list (prom.map .int), .int now, bd] = some (eB ((F.filter fun p => keepsT S p prom).foldl (bestS S) none)) ∧ Grown (extT S now) (PIn S) begun F := by
  obtain ⟨F, h1, h2⟩ := keeping (now := now) (prom := prom) o hb hp
  refine ⟨F, run_eq rfl ?_, h2⟩
  have key := forL_nx (enc := fun p : List Nat => eNs p) (t := .one 5) (js := [5, 6]) (body := b_best_keeping_1) (fun b : Option (Int × List Nat) => [some (eSky S), some (.list (prom.map .int)), some (.int now), some bd, some (eB b), none, none]) (bestS S) (fun _ => True) (F.filter fun p => keepsT S p prom) none trivial fun b p _ hp' => by
    refine ⟨?_, trivial⟩
    have Pp := h2.p p (List.mem_filter.mp hp').1
    have wt := worth_of hw Pp.1 (by have := Pp.2; omega)
    unfold bestS
    cases b with
    | none => simp [one, b_best_keeping_1, ev_sSeq, wt, eB, wOut, wipe]
    | some bb =>
      obtain ⟨w, q⟩ := bb
      simp only
      by_cases h : w < worthT S p
      · have h' : worthT S p > w := h
        rw [if_pos h']
        simp [one, b_best_keeping_1, ev_sSeq, wt, eB, wOut, wipe, h]
      · have h' : ¬ worthT S p > w := h
        rw [if_neg h']
        simp [one, b_best_keeping_1, ev_sSeq, wt, eB, wOut, wipe, h]
  have k1 := key.1
  have k1' : forL (.one 5) [5, 6] b_best_keeping_1 ((F.filter fun p => keepsT S p prom).map fun p => eNs p) [some (eSky S), some (.list (prom.map .int)), some (.int now), some bd, some .none, none, none] = some (.nx [some (eSky S), some (.list (prom.map .int)), some (.int now), some bd, some (eB ((F.filter fun p => keepsT S p prom).foldl (bestS S) none)), none, none]) := k1
  simp [b_best_keeping, Da.start, ev_sSeq, h1, k1']
end Pl
set_option linter.all false
set_option maxRecDepth 100000
/-! Ev15: fractions. -/
namespace Pl
open PySem Da
abbrev Fr := Int × Int
def eFr (x : Fr) : PyData := .tuple [.int x.1, .int x.2]
/-- x is N / D in lowest terms -/
structure Fq (x : Fr) (N D : Int) : Prop where
  pos : 0 < x.2
  low : Nat.gcd x.1.natAbs x.2.natAbs = 1
  eq : x.1 * D = N * x.2
def gI (a b : Int) : Int := ((Nat.gcd a.natAbs b.natAbs : Nat) : Int)
def numT (n d : Int) : Fr := (n / gI n d, d / gI n d)
theorem gI_pos {n d : Int} (h : 0 < d) : 0 < gI n d := by
  unfold gI
  have : 0 < Nat.gcd n.natAbs d.natAbs := Nat.gcd_pos_of_pos_right _ (by omega)
  omega
theorem gI_le {n d : Int} (h : 0 < d) : gI n d ≤ d := by
  unfold gI
  have : Nat.gcd n.natAbs d.natAbs ≤ d.natAbs := Nat.gcd_le_right _ (by omega)
  omega
theorem gI_dvd1 {n d : Int} : gI n d ∣ n := by
  unfold gI
  exact Int.natAbs_dvd_natAbs.mp (by rw [Int.natAbs_natCast]; exact Nat.gcd_dvd_left ..)
theorem gI_dvd2 {n d : Int} : gI n d ∣ d := by
  unfold gI
  exact Int.natAbs_dvd_natAbs.mp (by rw [Int.natAbs_natCast]; exact Nat.gcd_dvd_right ..)
theorem numT_fq {n d N D : Int} (hd : 0 < d) (h : n * D = N * d) : Fq (numT n d) N D := by
  have hg := gI_pos (n := n) hd
  obtain ⟨a, ha⟩ := gI_dvd1 (n := n) (d := d)
  obtain ⟨b, hb⟩ := gI_dvd2 (n := n) (d := d)
  have e1 : n / gI n d = a := by
    generalize gI n d = g at hg ha
    rw [ha]; exact Int.mul_ediv_cancel_left a (by omega)
  have e2 : d / gI n d = b := by
    generalize gI n d = g at hg hb
    rw [hb]; exact Int.mul_ediv_cancel_left b (by omega)
  unfold numT
  rw [e1, e2]
  have hb0 : 0 < b := by
    rw [hb] at hd
    exact Int.pos_of_mul_pos_right hd (by omega)
  refine ⟨hb0, ?_, ?_⟩
  · have hg' : gI n d = ((Nat.gcd n.natAbs d.natAbs : Nat) : Int) := rfl
    have ha' : n.natAbs = Nat.gcd n.natAbs d.natAbs * a.natAbs := by
      have := congrArg Int.natAbs ha
      rw [Int.natAbs_mul, hg', Int.natAbs_natCast] at this
      exact this
    have hb' : d.natAbs = Nat.gcd n.natAbs d.natAbs * b.natAbs := by
      have := congrArg Int.natAbs hb
      rw [Int.natAbs_mul, hg', Int.natAbs_natCast] at this
      exact this
    have hp : 0 < Nat.gcd n.natAbs d.natAbs := by rw [hg'] at hg; omega
    have key : Nat.gcd (Nat.gcd n.natAbs d.natAbs * a.natAbs) (Nat.gcd n.natAbs d.natAbs * b.natAbs) = Nat.gcd n.natAbs d.natAbs := by rw [← ha', ← hb']
    rw [Nat.gcd_mul_left] at key
    exact Nat.eq_of_mul_eq_mul_left hp (by rw [key, Nat.mul_one])
  · show a * D = N * b
    have : gI n d * (a * D) = gI n d * (N * b) := by
      rw [← Int.mul_assoc, ← ha, h]
      rw [show gI n d * (N * b) = N * (gI n d * b) by rw [Int.mul_left_comm], ← hb]
    exact Int.eq_of_mul_eq_mul_left (by omega) this
def plusT (x y : Fr) : Fr := numT (x.1 * y.2 + y.1 * x.2) (x.2 * y.2)
def timesT (x y : Fr) : Fr := numT (x.1 * y.1) (x.2 * y.2)
theorem plus_fq {x y : Fr} {N M D : Int} (hx : Fq x N D) (hy : Fq y M D) : Fq (plusT x y) (N + M) D := by
  refine numT_fq (Int.mul_pos hx.pos hy.pos) ?_
  have h1 := hx.eq
  have h2 := hy.eq
  calc (x.1 * y.2 + y.1 * x.2) * D = (x.1 * D) * y.2 + (y.1 * D) * x.2 := by grind
    _ = (N + M) * (x.2 * y.2) := by rw [h1, h2]; grind
theorem times_fq {x y : Fr} {a A b B : Int} (hx : Fq x a A) (hp : 0 < y.2) (hy : y.1 * B = b * y.2) : Fq (timesT x y) (a * b) (A * B) := by
  refine numT_fq (Int.mul_pos hx.pos hp) ?_
  have h1 := hx.eq
  calc (x.1 * y.1) * (A * B) = (x.1 * A) * (y.1 * B) := by grind
    _ = (a * b) * (x.2 * y.2) := by rw [h1, hy]; grind
theorem less_fq {x y : Fr} {N M D : Int} (hD : 0 < D) (hx : Fq x N D) (hy : Fq y M D) : x.1 * y.2 < y.1 * x.2 ↔ N < M := by
  have h1 := hx.eq
  have h2 := hy.eq
  have p1 := hx.pos
  have p2 := hy.pos
  have e1 : D * (x.1 * y.2) = (x.2 * y.2) * N := by calc D * (x.1 * y.2) = (x.1 * D) * y.2 := by grind
    _ = _ := by rw [h1]; grind
  have e2 : D * (y.1 * x.2) = (x.2 * y.2) * M := by calc D * (y.1 * x.2) = (y.1 * D) * x.2 := by grind
    _ = _ := by rw [h2]; grind
  have pp := Int.mul_pos p1 p2
  constructor
  · intro h
    have := Int.mul_lt_mul_of_pos_left h hD
    rw [e1, e2] at this
    exact Int.lt_of_mul_lt_mul_left this (by omega)
  · intro h
    have := Int.mul_lt_mul_of_pos_left h pp
    rw [← e1, ← e2] at this
    exact Int.lt_of_mul_lt_mul_left this (by omega)
theorem fq_dvd {x : Fr} {N D : Int} (h : Fq x N D) : x.2 ∣ D := by
  have h1 : x.2 ∣ x.1 * D := ⟨N, by rw [h.eq, Int.mul_comm]⟩
  have h2 : x.2.natAbs ∣ x.1.natAbs * D.natAbs := by rw [← Int.natAbs_mul]; exact Int.natAbs_dvd_natAbs.mpr h1
  have c : Nat.Coprime x.2.natAbs x.1.natAbs := by
    have := h.low
    rw [Nat.gcd_comm] at this
    exact this
  exact Int.natAbs_dvd_natAbs.mp (c.dvd_of_dvd_mul_left h2)
theorem fq_le {x : Fr} {N D : Int} (hD : 0 < D) (h : Fq x N D) : x.2 ≤ D := Int.le_of_dvd hD (fq_dvd h)
/-- N / D is the whole number b -/
theorem fq_whole {x : Fr} {b D : Int} (hD : 0 < D) (h : Fq x (b * D) D) : x = (b, 1) := by
  have h1 := h.eq
  have e : x.1 = b * x.2 := by
    have : D * x.1 = D * (b * x.2) := by
      calc D * x.1 = x.1 * D := Int.mul_comm ..
        _ = b * D * x.2 := h1
        _ = D * (b * x.2) := by grind
    exact Int.eq_of_mul_eq_mul_left (by omega) this
  have l := h.low
  have p := h.pos
  rw [e, Int.natAbs_mul, Nat.gcd_comm, Nat.gcd_mul_left_right] at l
  have x2 : x.2 = 1 := by omega
  have x1 : x.1 = b := by rw [e, x2, Int.mul_one]
  obtain ⟨a, c⟩ := x
  simp only at x1 x2
  rw [x1, x2]
theorem fq_zero {x : Fr} {N D : Int} (hD : 0 < D) (h : Fq x N D) : x = (0, 1) ↔ N = 0 := by
  constructor
  · rintro rfl
    have := h.eq
    simp at this
    omega
  · rintro rfl
    have : Fq x (0 * D) D := by rw [Int.zero_mul]; exact h
    exact fq_whole hD this
end Pl
set_option linter.all false
set_option maxRecDepth 100000
/-! Ev16: chances. -/
namespace Pl
open PySem Da
def Sml (d : Int) : Prop := 0 < d ∧ d ≤ 1000000
theorem sml_sm {d : Int} (h : Sml d) : sm d = true := by
  have h1 := h.1
  have h2 := h.2
  unfold sm
  simp
  omega
theorem sml_mul {a b : Int} (h : Sml a) (k : Sml b) : 0 < a * b ∧ a * b < 18446744073709551616 := by
  refine ⟨Int.mul_pos h.1 k.1, ?_⟩
  have : a * b ≤ 1000000 * 1000000 := Int.mul_le_mul h.2 k.2 (by have := k.1; omega) (by decide)
  omega
theorem number {n d : Int} (h : 0 < d) (h2 : d < 18446744073709551616) : g_number [.int n, .int d] = some (eFr (numT n d)) := by
  refine run_eq rfl ?_
  have g : gGcd [.int n, .int d] = some (.int (gI n d)) := rfl
  have p := gI_pos (n := n) h
  have l := gI_le (n := n) h
  have d1 := ev_gDiv (a := n) p (by omega)
  have d2 := ev_gDiv (a := d) p (by omega)
  simp [b_number, Da.start, ev_sSeq, g, d1, d2, eFr, numT]
@[simp] theorem fr0 {x : Fr} : gIx (eFr x) (.int 0) = some (.int x.1) := by unfold eFr; simp
@[simp] theorem fr1 {x : Fr} : gIx (eFr x) (.int 1) = some (.int x.2) := by unfold eFr; simp
theorem plus {x y : Fr} (hx : Sml x.2) (hy : Sml y.2) : g_plus [eFr x, eFr y] = some (eFr (plusT x y)) := by
  refine run_eq rfl ?_
  obtain ⟨p1, p2⟩ := sml_mul hx hy
  have n := number (n := x.1 * y.2 + y.1 * x.2) p1 p2
  have m1 := ev_gMul (a := x.1) (b := y.2) (.inr (sml_sm hy))
  have m2 := ev_gMul (a := y.1) (b := x.2) (.inr (sml_sm hx))
  have m3 := ev_gMul (a := x.2) (b := y.2) (.inr (sml_sm hy))
  simp [b_plus, Da.start, m1, m2, m3, n, plusT]
theorem times {x y : Fr} (hx : Sml x.2) (hy : Sml y.2) (hs : sm x.1 = true ∨ sm y.1 = true) : g_times [eFr x, eFr y] = some (eFr (timesT x y)) := by
  refine run_eq rfl ?_
  obtain ⟨p1, p2⟩ := sml_mul hx hy
  have n := number (n := x.1 * y.1) p1 p2
  have m1 := ev_gMul (a := x.1) (b := y.1) hs
  have m3 := ev_gMul (a := x.2) (b := y.2) (.inr (sml_sm hy))
  simp [b_times, Da.start, m1, m3, n, timesT]
theorem is_less {x y : Fr} (hx : Sml x.2) (hy : Sml y.2) : g_is_less [eFr x, eFr y] = some (.bool (decide (x.1 * y.2 < y.1 * x.2))) := by
  refine run_eq rfl ?_
  have m1 := ev_gMul (a := x.1) (b := y.2) (.inr (sml_sm hy))
  have m2 := ev_gMul (a := y.1) (b := x.2) (.inr (sml_sm hx))
  simp [b_is_less, Da.start, m1, m2]
/-! ### chances among ears -/
def prodI : List Int → Int
  | [] => 1
  | x :: xs => x * prodI xs
theorem prodI_app : ∀ (xs ys : List Int), prodI (xs ++ ys) = prodI xs * prodI ys
  | [], ys => by simp [prodI]
  | x :: xs, ys => by
    show x * prodI (xs ++ ys) = x * prodI xs * prodI ys
    rw [prodI_app xs ys, Int.mul_assoc]
structure OkC (S : Sky) (ch : List Fr) : Prop where
  len : ch.length = S.ears.length
  c : ∀ x ∈ ch, 0 ≤ x.1 ∧ x.1 ≤ x.2 ∧ 1 ≤ x.2 ∧ x.2 ≤ 100
def cn (ch : List Fr) (i : Nat) : Fr := ch[i]?.getD (0, 1)
def cfi (ch : List Fr) (fl : List Nat) (i : Nat) : Int := if i ∈ fl then (cn ch i).1 else (cn ch i).2 - (cn ch i).1
def CA (ch : List Fr) (fl ns : List Nat) : Int := prodI (ns.map (cfi ch fl))
def DA (ch : List Fr) (ns : List Nat) : Int := prodI (ns.map fun i => (cn ch i).2)
theorem cn_get {ch : List Fr} {i : Nat} (h : i < ch.length) : ch[i]? = some (cn ch i) := by
  unfold cn
  rw [List.getElem?_eq_getElem h]
  rfl
theorem cn_ok {S : Sky} {ch : List Fr} (h : OkC S ch) {i : Nat} (hi : i < ch.length) : 0 ≤ (cn ch i).1 ∧ (cn ch i).1 ≤ (cn ch i).2 ∧ 1 ≤ (cn ch i).2 ∧ (cn ch i).2 ≤ 100 := h.c _ (List.mem_of_getElem? (cn_get hi))
theorem cfi_ok {S : Sky} {ch : List Fr} (h : OkC S ch) {i : Nat} (hi : i < ch.length) (fl : List Nat) : 0 ≤ cfi ch fl i ∧ cfi ch fl i ≤ (cn ch i).2 := by
  have := cn_ok h hi
  unfold cfi
  split <;> omega
def chT (ch : List Fr) (fl : List Nat) (x : Fr) (ns : List Nat) : Fr := ns.foldl (fun x i => timesT x (cfi ch fl i, (cn ch i).2)) x
theorem chT_fq {S : Sky} {ch : List Fr} (h : OkC S ch) {fl : List Nat} : ∀ (ns : List Nat) {x : Fr} {a A : Int}, Fq x a A → (∀ i ∈ ns, i < ch.length) → Fq (chT ch fl x ns) (a * CA ch fl ns) (A * DA ch ns)
  | [], x, a, A, hx, _ => by
    show Fq x (a * 1) (A * 1)
    rw [Int.mul_one, Int.mul_one]
    exact hx
  | n :: ns, x, a, A, hx, hn => by
    have hi := hn n (List.mem_cons_self ..)
    have p := (cn_ok h hi).2.2.1
    have t := times_fq (y := (cfi ch fl n, (cn ch n).2)) (b := cfi ch fl n) (B := (cn ch n).2) hx (by show 0 < (cn ch n).2; omega) rfl
    have ih := chT_fq h (fl := fl) ns t fun i hi => hn i (List.mem_cons_of_mem _ hi)
    have e1 : a * CA ch fl (n :: ns) = a * cfi ch fl n * CA ch fl ns := by
      show a * (cfi ch fl n * CA ch fl ns) = _
      rw [Int.mul_assoc]
    have e2 : A * DA ch (n :: ns) = A * (cn ch n).2 * DA ch ns := by
      show A * ((cn ch n).2 * DA ch ns) = _
      rw [Int.mul_assoc]
    rw [e1, e2]
    exact ih
theorem DA_pos {S : Sky} {ch : List Fr} (h : OkC S ch) : ∀ (ns : List Nat), (∀ i ∈ ns, i < ch.length) → 1 ≤ DA ch ns
  | [], _ => Int.le_refl _
  | n :: ns, hn => by
    have h1 := (cn_ok h (hn n (List.mem_cons_self ..))).2.2.1
    have h2 := DA_pos h ns fun i hi => hn i (List.mem_cons_of_mem _ hi)
    show 1 ≤ (cn ch n).2 * DA ch ns
    have := Int.mul_pos (show 0 < (cn ch n).2 by omega) (show 0 < DA ch ns by omega)
    omega
theorem CA_ok {S : Sky} {ch : List Fr} (h : OkC S ch) {fl : List Nat} : ∀ (ns : List Nat), (∀ i ∈ ns, i < ch.length) → 0 ≤ CA ch fl ns ∧ CA ch fl ns ≤ DA ch ns
  | [], _ => ⟨by show (0 : Int) ≤ 1; decide, Int.le_refl _⟩
  | n :: ns, hn => by
    have h1 := cfi_ok h (hn n (List.mem_cons_self ..)) fl
    have h2 := CA_ok h (fl := fl) ns fun i hi => hn i (List.mem_cons_of_mem _ hi)
    have h3 := DA_pos h ns fun i hi => hn i (List.mem_cons_of_mem _ hi)
    refine ⟨Int.mul_nonneg h1.1 h2.1, ?_⟩
    show cfi ch fl n * CA ch fl ns ≤ (cn ch n).2 * DA ch ns
    exact Int.mul_le_mul h1.2 h2.2 h2.1 (by omega)
theorem fq_one : Fq (1, 1) 1 1 := ⟨by decide, by decide, by decide⟩
theorem fq_zer {D : Int} : Fq (0, 1) 0 D := ⟨by decide, by decide, by simp⟩
/-- a chance in lowest terms is small -/
theorem fq_sml {x : Fr} {a A : Int} (h : Fq x a A) (hA : Sml A) : Sml x.2 := ⟨h.pos, Int.le_trans (fq_le hA.1 h) hA.2⟩
theorem fq_num {x : Fr} {a A : Int} (h : Fq x a A) (hA : Sml A) (h0 : 0 ≤ a) (h1 : a ≤ A) : 0 ≤ x.1 ∧ x.1 ≤ x.2 := by
  have e := h.eq
  have p := h.pos
  have pA := hA.1
  constructor
  · have : 0 ≤ A * x.1 := by rw [Int.mul_comm, e]; exact Int.mul_nonneg h0 (by omega)
    exact Int.nonneg_of_mul_nonneg_right this pA
  · have : A * x.1 ≤ A * x.2 := by rw [Int.mul_comm, e]; exact Int.mul_le_mul_of_nonneg_right h1 (by omega)
    exact Int.le_of_mul_le_mul_left this pA
theorem chance_among {S : Sky} {ch : List Fr} {ns fl : List Nat} (h : OkC S ch) (hn : ∀ i ∈ ns, i < ch.length) (hl : ns.length ≤ 3) : g_chance_among [.list (ch.map eFr), eNs ns, eT fl] = some (eFr (chT ch fl (1, 1) ns)) := by
  have key := forL_nxR (enc := eN) (t := .one 4) (js := [4, 5, 6]) (body := b_chance_among_1) (fun x : Fr => [some (.list (ch.map eFr)), some (eNs ns), some (eT fl), some (eFr x), none, none, none]) (fun x i => timesT x (cfi ch fl i, (cn ch i).2))
    (fun rest x => (∀ i ∈ rest, i < ch.length) ∧ ∃ a A, Fq x a A ∧ 0 ≤ a ∧ a ≤ A ∧ 0 < A ∧ A * 100 ^ rest.length ≤ 1000000) ns (1, 1) ⟨hn, 1, 1, fq_one, by decide, by decide, by decide, by
      rw [Int.one_mul]
      have : (100 : Nat) ^ ns.length ≤ 100 ^ 3 := Nat.pow_le_pow_right (by decide) hl
      have : ((100 : Int) ^ ns.length) = ((100 ^ ns.length : Nat) : Int) := by rw [Int.natCast_pow]; rfl
      omega⟩ fun x i rest hI => by
      obtain ⟨h1, a, A, hx, a0, a1, A0, A1⟩ := hI
      have hi := h1 i (List.mem_cons_self ..)
      obtain ⟨c1, c2, c3, c4⟩ := cn_ok h hi
      obtain ⟨f1, f2⟩ := cfi_ok h hi fl
      rw [List.length_cons, Int.pow_succ] at A1
      have p100 : (1 : Int) ≤ 100 ^ rest.length := by
        have : 0 < (100 : Int) ^ rest.length := Int.pow_pos (by decide)
        omega
      have A2 : A ≤ 1000000 := by
        have : A * 1 ≤ A * (100 ^ rest.length * 100) := Int.mul_le_mul_of_nonneg_left (by omega) (by omega)
        omega
      have sx := fq_sml hx ⟨A0, A2⟩
      obtain ⟨n1, n2⟩ := fq_num hx ⟨A0, A2⟩ a0 a1
      have smx : sm x.1 = true := by have := sx.2; unfold sm; simp; omega
      have tm := times (x := x) (y := (cfi ch fl i, (cn ch i).2)) sx ⟨by show 0 < (cn ch i).2; omega, by show (cn ch i).2 ≤ _; omega⟩ (.inl smx)
      have e1 := cn_get hi
      refine ⟨?_, fun j hj => h1 j (List.mem_cons_of_mem _ hj), a * cfi ch fl i, A * (cn ch i).2, times_fq hx (by show 0 < (cn ch i).2; omega) rfl, Int.mul_nonneg a0 f1, Int.mul_le_mul a1 f2 f1 (by omega), Int.mul_pos A0 (by omega), ?_⟩
      · unfold cfi at tm ⊢
        have tg : ∀ r : Rho, toTg (.many [5, 6]) (eFr (cn ch i)) r = some ((r.set 5 (some (.int (cn ch i).1))).set 6 (some (.int (cn ch i).2))) := fun r => by
          unfold eFr
          simp [ev_toTgM, setMany]
        have nin := (nmT fl).nin i
        by_cases hm : i ∈ fl
        · rw [if_pos hm] at tm ⊢
          have tm' : g_times [eFr x, .tuple [.int (cn ch i).1, .int (cn ch i).2]] = some (eFr (timesT x ((cn ch i).1, (cn ch i).2))) := tm
          simp [one, b_chance_among_1, ev_sSeq, e1, tg, nin, hm, tm', wOut, wipe]
        · rw [if_neg hm] at tm ⊢
          have tm' : g_times [eFr x, .tuple [.int ((cn ch i).2 - (cn ch i).1), .int (cn ch i).2]] = some (eFr (timesT x ((cn ch i).2 - (cn ch i).1, (cn ch i).2))) := tm
          simp [one, b_chance_among_1, ev_sSeq, e1, tg, nin, hm, tm', wOut, wipe]
      · have : A * (cn ch i).2 * 100 ^ rest.length ≤ A * 100 * 100 ^ rest.length := Int.mul_le_mul_of_nonneg_right (Int.mul_le_mul_of_nonneg_left c4 (by omega)) (by omega)
        have e : A * 100 * 100 ^ rest.length = A * (100 ^ rest.length * 100) := by rw [Int.mul_assoc, Int.mul_comm 100]
        omega
  refine run_eq rfl ?_
  have k1 := key.1
  have k1' : forL (.one 4) [4, 5, 6] b_chance_among_1 (ns.map eN) [some (.list (ch.map eFr)), some (eNs ns), some (eT fl), some (.tuple [.int 1, .int 1]), none, none, none] = some (.nx [some (.list (ch.map eFr)), some (eNs ns), some (eT fl), some (eFr (chT ch fl (1, 1) ns)), none, none, none]) := k1
  simp [b_chance_among, Da.start, ev_sSeq, k1']
end Pl
set_option linter.all false
set_option maxRecDepth 100000
/-! Ev17: rows of states and chances. -/
namespace Pl
open PySem Da
abbrev Row := Zt × Fr
def eRow (p : Row) : PyData := .tuple [eZ p.1, eFr p.2]
theorem ok_eFr (x : Fr) {n : Nat} : okD (n + 1) (eFr x) = true := by
  unfold eFr
  simp [okD, okDs]
theorem ne_fr (x y : Fr) : gNe (eFr x) (eFr y) = some (.bool (!decide (x = y))) := by
  unfold gNe
  rw [if_pos (by rw [ok_eFr, ok_eFr]; rfl)]
  congr 3
  obtain ⟨a, b⟩ := x
  obtain ⟨c, d⟩ := y
  show PyData.eqvAll [.int a, .int b] [.int c, .int d] = _
  rw [Bool.eq_iff_iff]
  simp [PyData.eqvAll, PyData.eqv]
def addO {β : Type} (D : List β) : Option β → List β
  | some b => D ++ [b]
  | none => D
theorem fold_fm {α β : Type} (q : α → Option β) : ∀ (L : List α) (D : List β), L.foldl (fun D a => addO D (q a)) D = D ++ L.filterMap q
  | [], D => by simp
  | a :: L, D => by
    rw [List.foldl_cons, List.filterMap_cons]
    cases h : q a with
    | none => exact fold_fm q L D
    | some b => rw [fold_fm q L]; simp [addO]
def rowQ (ch : List Fr) (ns : List Nat) (z : Zt) : Option Row := if chT ch z.fl (1, 1) ns = (0, 1) then none else some (z, chT ch z.fl (1, 1) ns)
def fc (S : Sky) (ch : List Fr) : List Row := (fs S S.ears.length).filterMap (rowQ ch (bb S (-1) (lk S 0).s))
def cb (S : Sky) (ch : List Fr) (z : Zt) (b : Bool) : List Row := (sb S z b S.ears.length).filterMap fun y => rowQ ch (bb S (lk S z.k).s (lk S y.k).s) y
theorem bb_in {S : Sky} {ch : List Fr} (h : OkC S ch) {s u : Int} : ∀ i ∈ bb S s u, i < ch.length := fun i hi => by
  unfold bb at hi
  have := List.mem_range.mp (List.mem_filter.mp hi).1
  rw [h.len]
  exact this
theorem ne01 {x : Fr} : gNe (eFr x) (.tuple [.int 0, .int 1]) = some (.bool (!decide (x = (0, 1)))) := ne_fr x (0, 1)
theorem first_chances {S : Sky} {ch : List Fr} (o : OkS S) (h : OkC S ch) : g_first_chances [eSky S, .list (ch.map eFr)] = some (.list ((fc S ch).map eRow)) := by
  have f0 := first_states (most := S.ears.length) o
  have hlen : (fs S S.ears.length).length ≤ 8 := (lvR o S.ears.length).al
  have key := forL_nxR (enc := eZ) (t := .one 3) (js := [3, 4]) (body := b_first_chances_1) (fun D : List Row => [some (eSky S), some (.list (ch.map eFr)), some (.list (D.map eRow)), none, none])
    (fun D z => addO D (rowQ ch (bb S (-1) (lk S 0).s) z)) (fun rest D => D.length + rest.length ≤ 8 ∧ ∀ z ∈ rest, z ∈ fs S S.ears.length) (fs S S.ears.length) [] ⟨by rw [List.length_nil, Nat.zero_add]; exact hlen, fun z hz => hz⟩ fun D z rest hI => by
      obtain ⟨h1, h2⟩ := hI
      rw [List.length_cons] at h1
      have hz := (fs_wf o (h2 z (List.mem_cons_self ..))).1
      have h0 : InS S 0 := Nat.lt_of_le_of_lt (Nat.zero_le _) hz.k
      have e0 : gIx (.list (S.looks.map eLk)) (.int 0) = some (eLk (lk S 0)) := by
        have := ev_gIx (e := eLk) (xs := S.looks) (i := 0)
        rw [lk_get h0] at this
        exact this
      have bg := begun_between (s := -1) (u := (lk S 0).s) o
      have ca := chance_among (fl := z.fl) h (bb_in h (s := -1) (u := (lk S 0).s)) (bb_len o)
      have lD : D.length < 16777216 := by omega
      unfold rowQ
      by_cases hx : chT ch z.fl (1, 1) (bb S (-1) (lk S 0).s) = (0, 1)
      · rw [if_pos hx]
        have nn := ne01 (x := chT ch z.fl (1, 1) (bb S (-1) (lk S 0).s))
        rw [decide_eq_true hx] at nn
        refine ⟨?_, by show D.length + rest.length ≤ 8; omega, fun y hy => h2 y (List.mem_cons_of_mem _ hy)⟩
        simp [one, b_first_chances_1, ev_sSeq, e0, bg, ca, nn, wOut, wipe, addO]
      · rw [if_neg hx]
        have nn := ne01 (x := chT ch z.fl (1, 1) (bb S (-1) (lk S 0).s))
        rw [decide_eq_false hx] at nn
        refine ⟨?_, by show (D ++ _).length + rest.length ≤ 8; rw [List.length_append, List.length_singleton]; omega, fun y hy => h2 y (List.mem_cons_of_mem _ hy)⟩
        simp [one, b_first_chances_1, ev_sSeq, e0, bg, ca, nn, wOut, wipe, lD, big, eRow, addO]
  have k1 := key.1
  rw [fold_fm, List.nil_append] at k1
  have k1' : forL (.one 3) [3, 4] b_first_chances_1 ((fs S S.ears.length).map eZ) [some (eSky S), some (.list (ch.map eFr)), some (.list []), none, none] = some (.nx [some (eSky S), some (.list (ch.map eFr)), some (.list ((fc S ch).map eRow)), none, none]) := k1
  refine run_eq rfl ?_
  simp [b_first_chances, Da.start, ev_sSeq, h.len, f0, k1']
theorem chances_behind {S : Sky} {ch : List Fr} {z : Zt} {b : Bool} (o : OkS S) (h : OkC S ch) (hz : Wf S z) : g_chances_behind [eSky S, .list (ch.map eFr), eZ z, eM b] = some (.list ((cb S ch z b).map eRow)) := by
  have st := states_behind (b := b) (most := S.ears.length) o (hz.ok o)
  have key := forL_nxR (enc := eZ) (t := .one 5) (js := [5, 6, 7]) (body := b_chances_behind_1) (fun D : List Row => [some (eSky S), some (.list (ch.map eFr)), some (eZ z), some (eM b), some (.list (D.map eRow)), none, none, none])
    (fun D y => addO D (rowQ ch (bb S (lk S z.k).s (lk S y.k).s) y)) (fun rest D => D.length + rest.length ≤ 8 ∧ ∀ y ∈ rest, y ∈ sb S z b S.ears.length) (sb S z b S.ears.length) [] ⟨by rw [List.length_nil, Nat.zero_add]; exact sb_len o, fun z hz => hz⟩ fun D y rest hI => by
      obtain ⟨h1, h2⟩ := hI
      rw [List.length_cons] at h1
      have hy := (sb_wf o hz (h2 y (List.mem_cons_self ..))).1
      have e1 := lk_get hz.k
      have e2 := lk_get hy.k
      have bg := begun_between (s := (lk S z.k).s) (u := (lk S y.k).s) o
      have ca := chance_among (fl := y.fl) h (bb_in h (s := (lk S z.k).s) (u := (lk S y.k).s)) (bb_len o)
      have lD : D.length < 16777216 := by omega
      unfold rowQ
      by_cases hx : chT ch y.fl (1, 1) (bb S (lk S z.k).s (lk S y.k).s) = (0, 1)
      · rw [if_pos hx]
        have nn := ne01 (x := chT ch y.fl (1, 1) (bb S (lk S z.k).s (lk S y.k).s))
        rw [decide_eq_true hx] at nn
        refine ⟨?_, by show D.length + rest.length ≤ 8; omega, fun y hy => h2 y (List.mem_cons_of_mem _ hy)⟩
        simp [one, b_chances_behind_1, ev_sSeq, e1, e2, bg, ca, nn, wOut, wipe, addO]
      · rw [if_neg hx]
        have nn := ne01 (x := chT ch y.fl (1, 1) (bb S (lk S z.k).s (lk S y.k).s))
        rw [decide_eq_false hx] at nn
        refine ⟨?_, by show (D ++ _).length + rest.length ≤ 8; rw [List.length_append, List.length_singleton]; omega, fun y hy => h2 y (List.mem_cons_of_mem _ hy)⟩
        simp [one, b_chances_behind_1, ev_sSeq, e1, e2, bg, ca, nn, wOut, wipe, lD, big, eRow, addO]
  have k1 := key.1
  rw [fold_fm, List.nil_append] at k1
  have k1' : forL (.one 5) [5, 6, 7] b_chances_behind_1 ((sb S z b S.ears.length).map eZ) [some (eSky S), some (.list (ch.map eFr)), some (eZ z), some (eM b), some (.list []), none, none, none] = some (.nx [some (eSky S), some (.list (ch.map eFr)), some (eZ z), some (eM b), some (.list ((cb S ch z b).map eRow)), none, none, none]) := k1
  refine run_eq rfl ?_
  simp [b_chances_behind, Da.start, ev_sSeq, h.len, st, k1']
/-! ### means -/
/-- rows over numbers: chance c / A, number m / D -/
def moT (m : Mp Fr) (x : Fr) (rows : List Row) : Fr := rows.foldl (fun x r => plusT x (timesT r.2 ((look m r.1).getD (0, 1)))) x
/-- what a row's chance and number are -/
structure RowOk (m : Mp Fr) (A D : Int) (r : Row) (c v : Int) : Prop where
  ch : Fq r.2 c A
  c0 : 0 ≤ c
  c1 : c ≤ A
  num : ∃ x, look m r.1 = some x ∧ Fq x v D
theorem mean_over {m : Mp Fr} {A D : Int} {rows : List Row} {cv : Row → Int × Int} (hA : Sml A) (hD : Sml D) (hAD : Sml (A * D)) (h : ∀ r ∈ rows, RowOk m A D r (cv r).1 (cv r).2) :
    g_mean_over [.list (rows.map eRow), .dict (eD eFr m)] = some (eFr (moT m (0, 1) rows)) ∧ Fq (moT m (0, 1) rows) ((rows.map fun r => (cv r).1 * (cv r).2).sum) (A * D) := by
  have gen : ∀ (rs : List Row) (x : Fr) (N : Int), Fq x N (A * D) → (∀ r ∈ rs, RowOk m A D r (cv r).1 (cv r).2) → Fq (moT m x rs) (N + (rs.map fun r => (cv r).1 * (cv r).2).sum) (A * D) := by
    intro rs
    induction rs with
    | nil => intro x N hx _; simpa [moT] using hx
    | cons r rs ih =>
      intro x N hx hr
      have q := hr r (List.mem_cons_self ..)
      obtain ⟨y, y1, y2⟩ := q.num
      have t := times_fq (y := y) (b := (cv r).2) (B := D) q.ch y2.pos y2.eq
      have s := plus_fq hx t
      have := ih _ _ s fun r' hr' => hr r' (List.mem_cons_of_mem _ hr')
      rw [List.map_cons, List.sum_cons, ← Int.add_assoc]
      have e : moT m x (r :: rs) = moT m (plusT x (timesT r.2 y)) rs := by
        show moT m (plusT x (timesT r.2 ((look m r.1).getD (0, 1)))) rs = _
        rw [y1]
        rfl
      rw [e]
      exact this
  have key := forL_nxR (enc := eRow) (t := .many [3, 4]) (js := [3, 4]) (body := b_mean_over_1) (fun x : Fr => [some (.list (rows.map eRow)), some (.dict (eD eFr m)), some (eFr x), none, none]) (fun x r => plusT x (timesT r.2 ((look m r.1).getD (0, 1))))
    (fun rest x => (∀ r ∈ rest, RowOk m A D r (cv r).1 (cv r).2) ∧ ∃ N, Fq x N (A * D)) rows (0, 1) ⟨h, 0, fq_zer⟩ fun x r rest hI => by
      obtain ⟨h1, N, hx⟩ := hI
      have q := h1 r (List.mem_cons_self ..)
      obtain ⟨y, y1, y2⟩ := q.num
      have t := times_fq (y := y) (b := (cv r).2) (B := D) q.ch y2.pos y2.eq
      refine ⟨?_, fun r' hr' => h1 r' (List.mem_cons_of_mem _ hr'), N + (cv r).1 * (cv r).2, ?_⟩
      · obtain ⟨n1, n2⟩ := fq_num q.ch hA q.c0 q.c1
        have sc := fq_sml q.ch hA
        have smc : sm r.2.1 = true := by have := sc.2; unfold sm; simp; omega
        have g1 := times sc (fq_sml y2 hD) (.inl smc)
        have g2 := plus (fq_sml hx hAD) (fq_sml t hAD)
        have gg := get_eD (ev := eFr) y1
        rw [y1]
        simp [one, b_mean_over_1, eRow, ev_toTgM, setMany, gg, g1, g2, wOut, wipe]
      · rw [y1]
        exact plus_fq hx t
  have k1 := key.1
  have k1' : forL (.many [3, 4]) [3, 4] b_mean_over_1 (rows.map eRow) [some (.list (rows.map eRow)), some (.dict (eD eFr m)), some (.tuple [.int 0, .int 1]), none, none] = some (.nx [some (.list (rows.map eRow)), some (.dict (eD eFr m)), some (eFr (moT m (0, 1) rows)), none, none]) := k1
  refine ⟨run_eq rfl ?_, ?_⟩
  · simp [b_mean_over, Da.start, ev_sSeq, k1']
  · have := gen rows (0, 1) 0 fq_zer h
    rw [Int.zero_add] at this
    exact this
end Pl
set_option linter.all false
set_option maxRecDepth 100000
/-! Ev18: the states that have a chance. -/
namespace Pl
open PySem Da
/-- adding one -/
theorem add_turnM {S : Sky} {ch : List Fr} {z y : Zt} {x : Fr} {b : Bool} {s : WF} (h1 : s.1.length < 16777216) (h2 : s.2.length < 16777216) :
    one (.many [6, 7]) [6, 7] b_mean_numbers_1 (eRow (y, x)) [some (eSky S), some (.list (ch.map eFr)), some (.list (s.1.map eZ)), some (.dict (eF s.2)), some (eZ z), some (eM b), none, none, none, none, none] =
      some (.nx [some (eSky S), some (.list (ch.map eFr)), some (.list ((addF s y).1.map eZ)), some (.dict (eF (addF s y).2)), some (eZ z), some (eM b), none, none, none, none, none]) := by
  unfold addF
  by_cases h : y ∈ s.2
  · rw [if_pos h]
    simp [one, eRow, ev_toTgM, setMany, b_mean_numbers_1, notin_eF, h, wOut, wipe]
  · rw [if_neg h]
    have e1 : sSetD 3 (dVar 6) (dC (.bool true)) [some (eSky S), some (.list (ch.map eFr)), some (.list (s.1.map eZ)), some (.dict (eF s.2)), some (eZ z), some (eM b), some (eZ y), some (eFr x), none, none, none] = some (.nx [some (eSky S), some (.list (ch.map eFr)), some (.list (s.1.map eZ)), some (.dict (eF (s.2 ++ [y]))), some (eZ z), some (eM b), some (eZ y), some (eFr x), none, none, none]) := by
      rw [ev_setD (kvs := eF s.2) (k := eZ y) (d := .bool true) (by simp) (by simp) (by simp) (key_eZ y) (by unfold eF; rw [List.length_map]; exact h2), putK_eF h]
      rfl
    have hb : s.1.length < big := h1
    simp [one, eRow, ev_toTgM, setMany, b_mean_numbers_1, notin_eF, h, wOut, wipe, ev_sSeq, e1, hb]
def succM (S : Sky) (ch : List Fr) (z : Zt) : List Zt := (moves S z).flatMap fun b => (cb S ch z b).map (·.1)
theorem rowQ_some {ch : List Fr} {ns : List Nat} {z : Zt} {r : Row} (h : rowQ ch ns z = some r) : r = (z, chT ch z.fl (1, 1) ns) ∧ chT ch z.fl (1, 1) ns ≠ (0, 1) := by
  unfold rowQ at h
  split at h
  · cases h
  · rename_i hx
    cases h
    exact ⟨rfl, hx⟩
theorem cb_mem {S : Sky} {ch : List Fr} {z : Zt} {b : Bool} {r : Row} (h : r ∈ cb S ch z b) : r.1 ∈ sb S z b S.ears.length ∧ r.2 = chT ch r.1.fl (1, 1) (bb S (lk S z.k).s (lk S r.1.k).s) := by
  unfold cb at h
  obtain ⟨y, hy, hr⟩ := List.mem_filterMap.mp h
  obtain ⟨e, _⟩ := rowQ_some hr
  rw [e]
  exact ⟨hy, rfl⟩
theorem fc_mem {S : Sky} {ch : List Fr} {r : Row} (h : r ∈ fc S ch) : r.1 ∈ fs S S.ears.length ∧ r.2 = chT ch r.1.fl (1, 1) (bb S (-1) (lk S 0).s) := by
  unfold fc at h
  obtain ⟨y, hy, hr⟩ := List.mem_filterMap.mp h
  obtain ⟨e, _⟩ := rowQ_some hr
  rw [e]
  exact ⟨hy, rfl⟩
theorem fm_len {α β : Type} (q : α → Option β) : ∀ (L : List α), (L.filterMap q).length ≤ L.length
  | [] => Nat.le_refl _
  | a :: L => by
    have ih := fm_len q L
    rw [List.filterMap_cons]
    cases q a with
    | none => simp only [List.length_cons]; omega
    | some b => simp only [List.length_cons]; omega
theorem lvM {S : Sky} (o : OkS S) (ch : List Fr) : Lv S (succM S ch) ((fc S ch).map (·.1)) where
  a := fun z hz => by
    obtain ⟨r, hr, rfl⟩ := List.mem_map.mp hz
    exact fs_wf o (fc_mem hr).1
  s := fun z hz y hy => by
    obtain ⟨b, _, hy⟩ := List.mem_flatMap.mp hy
    obtain ⟨r, hr, rfl⟩ := List.mem_map.mp hy
    exact sb_wf o hz (cb_mem hr).1
  al := by
    rw [List.length_map]
    exact Nat.le_trans (fm_len _ _) (lvR o S.ears.length).al
  sl := fun z hz => by
    have := flat_len (g := fun b => (cb S ch z b).map (·.1)) (c := 8) (moves S z) fun b _ => by
      rw [List.length_map]
      exact Nat.le_trans (fm_len _ _) (sb_len o)
    have := moves_len (S := S) (z := z)
    unfold succM
    omega
/-- all that comes about with a chance -/
structure ReM (S : Sky) (ch : List Fr) (F : List Zt) : Prop where
  nd : F.Nodup
  a : ∀ r ∈ fc S ch, r.1 ∈ F
  clo : ∀ z ∈ F, ∀ b ∈ moves S z, ∀ r ∈ cb S ch z b, r.1 ∈ F
  wf : ∀ z ∈ F, Wf S z
  len : F.length ≤ 600000
theorem reachedM {S : Sky} {ch : List Fr} (o : OkS S) (h : OkC S ch) : ∃ F, ReM S ch F ∧
    sWhile (tTr (dVar 2)) [4, 5, 6, 7] b_mean_numbers_3 [some (eSky S), some (.list (ch.map eFr)), some (.list (((fc S ch).map (·.1)).map eZ)), some (.dict (eF (((fc S ch).map (·.1)).foldl ddF []))), none, none, none, none, none, none, none] =
      some (.nx [some (eSky S), some (.list (ch.map eFr)), some (.list []), some (.dict (eF F)), none, none, none, none, none, none, none]) := by
  have L := lvM o ch
  have hU := fun z hz y hy => uni_s o L (z := z) (y := y) hz hy
  have hB := uni_len L
  let R : WF → Rho := fun s => [some (eSky S), some (.list (ch.map eFr)), some (.list (s.1.map eZ)), some (.dict (eF s.2)), none, none, none, none, none, none, none]
  let A : List Zt := (fc S ch).map (·.1)
  let I : WF → Prop := fun s => WInv (uni (succM S ch) A) s ∧ Clo (succM S ch) s ∧ wμ (uni (succM S ch) A) s ≤ 1200000 ∧ ∀ z ∈ A, z ∈ s.2
  obtain ⟨n1, n2⟩ := ddF_fold A [] List.nodup_nil
  have i0 : I (A, A.foldl ddF []) := by
    have hi : WInv (uni (succM S ch) A) (A, A.foldl ddF []) := ⟨n1, fun z hz => (n2 z).mpr (.inr hz), fun z hz => uni_a (((n2 z).mp hz).resolve_left (by simp))⟩
    refine ⟨hi, fun z hz => .inl (((n2 z).mp hz).resolve_left (by simp)), ?_, fun z hz => (n2 z).mpr (.inr hz)⟩
    have h8 : A.length ≤ 8 := L.al
    have hl := hi.le
    have e : wμ (uni (succM S ch) A) (A, A.foldl ddF []) = ((uni (succM S ch) A).length - (A.foldl ddF []).length) + A.length := rfl
    have hB' : (uni (succM S ch) A).length ≤ 600000 := hB
    rw [e]
    omega
  have turn : ∀ s, I s → (!s.1.isEmpty) = true → (b_mean_numbers_3 (R s)).map (wOut [4, 5, 6, 7]) = some (.nx (R (wStep (succM S ch) s))) ∧ I (wStep (succM S ch) s) ∧ wμ (uni (succM S ch) A) (wStep (succM S ch) s) < wμ (uni (succM S ch) A) s := by
    intro s hI hne
    obtain ⟨i1, i2, i3, i4⟩ := hI
    have hn : s.1 ≠ [] := by
      intro q
      rw [q] at hne
      cases hne
    obtain ⟨k1, k2, k3, k4⟩ := wStep_ok hU i1 i2 hn
    refine ⟨?_, ⟨k1, k2, Nat.le_trans (Nat.le_of_lt k3) i3, fun z hz => k4 z (i4 z hz)⟩, k3⟩
    have eL : s.1.getLast? = some (s.1.getLast hn) := List.getLast?_eq_some_getLast hn
    have hz : s.1.getLast hn ∈ s.2 := i1.sub _ (List.getLast_mem hn)
    generalize hzz : s.1.getLast hn = z at eL hz
    have wz := uni_wf L (i1.uni z hz)
    have okz := wz.ok o
    obtain ⟨p1, p2⟩ := pop_map eL
    have h0 : WInv (uni (succM S ch) A) (s.1.dropLast, s.2) := ⟨i1.nd, fun z hz => i1.sub z (List.dropLast_subset _ hz), i1.uni⟩
    have e0 : wμ (uni (succM S ch) A) (s.1.dropLast, s.2) ≤ 1200000 := by
      have e1 : wμ (uni (succM S ch) A) (s.1.dropLast, s.2) = ((uni (succM S ch) A).length - s.2.length) + (s.1.length - 1) := by unfold wμ; rw [List.length_dropLast]
      have e2 : wμ (uni (succM S ch) A) s = ((uni (succM S ch) A).length - s.2.length) + s.1.length := rfl
      omega
    -- the moves
    let R2 : WF → Rho := fun s => [some (eSky S), some (.list (ch.map eFr)), some (.list (s.1.map eZ)), some (.dict (eF s.2)), some (eZ z), none, none, none, none, none, none]
    have mv := forL_nx (enc := eM) (t := .one 5) (js := [5, 6, 7]) (body := b_mean_numbers_2) R2 (fun s b => ((cb S ch z b).map (·.1)).foldl addF s) (fun s => WInv (uni (succM S ch) A) s ∧ wμ (uni (succM S ch) A) s ≤ 1200000) (moves S z) (s.1.dropLast, s.2) ⟨h0, e0⟩ fun s' b hs' hb => by
      have hbs : ∀ y ∈ (cb S ch z b).map (·.1), y ∈ uni (succM S ch) A := fun y hy => hU z (i1.uni z hz) y (List.mem_flatMap.mpr ⟨b, hb, hy⟩)
      obtain ⟨q1, q2, _⟩ := addF_fold ((cb S ch z b).map (·.1)) hs'.1 hbs
      refine ⟨?_, q1, by rw [q2]; exact hs'.2⟩
      have inner := forL_nxR (enc := eRow) (t := .many [6, 7]) (js := [6, 7]) (body := b_mean_numbers_1) (fun s : WF => [some (eSky S), some (.list (ch.map eFr)), some (.list (s.1.map eZ)), some (.dict (eF s.2)), some (eZ z), some (eM b), none, none, none, none, none]) (fun s r => addF s r.1) (fun rest s => (∀ r ∈ rest, r.1 ∈ uni (succM S ch) A) ∧ WInv (uni (succM S ch) A) s ∧ wμ (uni (succM S ch) A) s ≤ 1200000) (cb S ch z b) s' ⟨fun r hr => hbs r.1 (List.mem_map.mpr ⟨r, hr, rfl⟩), hs'.1, hs'.2⟩ fun s'' y rest hh => by
        obtain ⟨g1, g2, g3⟩ := hh
        obtain ⟨r1, r2, _⟩ := addF_inv g2 (g1 y (List.mem_cons_self ..))
        have := g2.le
        have hB' : (uni (succM S ch) A).length ≤ 600000 := hB
        have e2 : wμ (uni (succM S ch) A) s'' = ((uni (succM S ch) A).length - s''.2.length) + s''.1.length := rfl
        exact ⟨add_turnM (x := y.2) (by omega) (by omega), fun y' hy' => g1 y' (List.mem_cons_of_mem _ hy'), r1, by rw [r2]; exact g3⟩
      have st := chances_behind (b := b) o h wz
      have i1 := inner.1
      have ef : (cb S ch z b).foldl (fun s r => addF s r.1) s' = ((cb S ch z b).map (·.1)).foldl addF s' := by rw [List.foldl_map]
      rw [ef] at i1
      simp only [R2]
      simp [one, b_mean_numbers_2, st, i1, wOut, wipe]
    have eW : wStep (succM S ch) s = (moves S z).foldl (fun s b => ((cb S ch z b).map (·.1)).foldl addF s) (s.1.dropLast, s.2) := by
      unfold wStep
      rw [eL]
      show ((moves S z).flatMap fun b => (cb S ch z b).map (·.1)).foldl addF (s.1.dropLast, s.2) = _
      rw [List.foldl_flatMap]
    have m1 := mv.1
    have mo := moves_of o okz
    have pp : sPop 2 4 (R s) = some (.nx [some (eSky S), some (.list (ch.map eFr)), some (.list (s.1.dropLast.map eZ)), some (.dict (eF s.2)), some (eZ z), none, none, none, none, none, none]) := by
      rw [ev_pop (i := 2) (j := 4) (r := R s) (xs := s.1.map eZ) (d := eZ z) rfl p1, p2]
      rfl
    rw [eW]
    unfold b_mean_numbers_3
    rw [sSeq_nx pp]
    simp only [R2] at m1
    simp [mo, m1, wOut, wipe, R, -List.map_dropLast]
  have μ0 : wμ (uni (succM S ch) A) (A, A.foldl ddF []) < fuel := by have := i0.2.2.1; unfold fuel; omega
  obtain ⟨s', k1, k2, k3⟩ := while_run (c := tTr (dVar 2)) (js := [4, 5, 6, 7]) (body := b_mean_numbers_3) R (wμ (uni (succM S ch) A)) I (fun s => !s.1.isEmpty) (wStep (succM S ch))
    (fun s _ => by simp [R]) turn fuel (A, A.foldl ddF []) i0 μ0
  have hW : s'.1 = [] := by
    cases h : s'.1 with
    | nil => rfl
    | cons a b => rw [h] at k3; cases k3
  have hB' : (uni (succM S ch) A).length ≤ 600000 := hB
  refine ⟨s'.2, ⟨k2.1.nd, fun r hr => k2.2.2.2 r.1 (List.mem_map.mpr ⟨r, hr, rfl⟩), fun z hz b hb r hr => ?_, fun z hz => uni_wf L (k2.1.uni z hz), Nat.le_trans k2.1.le hB'⟩, ?_⟩
  · rcases k2.2.1 z hz with q | q
    · rw [hW] at q; cases q
    · exact q r.1 (List.mem_flatMap.mpr ⟨b, hb, List.mem_map.mpr ⟨r, hr, rfl⟩⟩)
  · have q : R s' = [some (eSky S), some (.list (ch.map eFr)), some (.list []), some (.dict (eF s'.2)), none, none, none, none, none, none, none] := by
      show [_, _, some (PyData.list (s'.1.map eZ)), _, _, _, _, _, _, _, _] = _
      rw [hW]
      rfl
    rw [← q]
    exact k1
end Pl
set_option linter.all false
set_option maxRecDepth 100000
/-! Ev19: the mean worth. -/
namespace Pl
open PySem Da
/-- the ears that begin behind a time -/
def aft (S : Sky) (t : Int) : List Nat := (List.range S.ears.length).filter fun i => decide (t < efi S i)
def Dt (S : Sky) (ch : List Fr) (t : Int) : Int := DA ch (aft S t)
theorem aft_split {S : Sky} (m : OkM S) {t u : Int} (h : t ≤ u) : aft S t = bb S t u ++ aft S u := by
  rw [bb_efi]
  unfold aft
  rw [← split_filter]
  · refine List.filter_congr fun i _ => ?_
    rw [Bool.eq_iff_iff]
    simp only [Bool.and_eq_true, Bool.or_eq_true, decide_eq_true_eq]
    omega
  · refine (range_pw S.ears.length).imp_of_mem fun {a b} ha hb hab => ?_
    simp only [Bool.and_eq_true, decide_eq_true_eq]
    rintro ⟨q1, _, q2⟩
    have := efi_mono m (Nat.le_of_lt hab) (List.mem_range.mp hb)
    omega
  · intro a
    simp only [Bool.and_eq_true, decide_eq_true_eq]
    omega
theorem DA_app {ch : List Fr} (a b : List Nat) : DA ch (a ++ b) = DA ch a * DA ch b := by
  unfold DA
  rw [List.map_append, prodI_app]
theorem Dt_split {S : Sky} {ch : List Fr} (m : OkM S) {t u : Int} (h : t ≤ u) : Dt S ch t = DA ch (bb S t u) * Dt S ch u := by
  unfold Dt
  rw [aft_split m h, DA_app]
theorem DA_le {S : Sky} {ch : List Fr} (h : OkC S ch) : ∀ (ns : List Nat), (∀ i ∈ ns, i < ch.length) → DA ch ns ≤ 100 ^ ns.length
  | [], _ => Int.le_refl _
  | n :: ns, hn => by
    obtain ⟨_, _, c3, c4⟩ := cn_ok h (hn n (List.mem_cons_self ..))
    have h2 := DA_le h ns fun i hi => hn i (List.mem_cons_of_mem _ hi)
    have h3 := DA_pos h ns fun i hi => hn i (List.mem_cons_of_mem _ hi)
    show (cn ch n).2 * DA ch ns ≤ _
    rw [List.length_cons, Int.pow_succ, Int.mul_comm]
    exact Int.mul_le_mul h2 c4 (by omega) (by omega)
theorem DA_sml {S : Sky} {ch : List Fr} (h : OkC S ch) {ns : List Nat} (hn : ∀ i ∈ ns, i < ch.length) (hl : ns.length ≤ 3) : Sml (DA ch ns) := by
  have h1 := DA_pos h ns hn
  have h2 := DA_le h ns hn
  refine ⟨by omega, Int.le_trans h2 ?_⟩
  have : (100 : Nat) ^ ns.length ≤ 100 ^ 3 := Nat.pow_le_pow_right (by decide) hl
  have e : ((100 : Int) ^ ns.length) = ((100 ^ ns.length : Nat) : Int) := by rw [Int.natCast_pow]; rfl
  omega
theorem aft_in {S : Sky} {ch : List Fr} (h : OkC S ch) {t : Int} : ∀ i ∈ aft S t, i < ch.length := fun i hi => by
  unfold aft at hi
  have := List.mem_range.mp (List.mem_filter.mp hi).1
  rw [h.len]
  exact this
theorem aft_len {S : Sky} (o : OkS S) {t : Int} : (aft S t).length ≤ 3 := by
  unfold aft
  refine Nat.le_trans (List.length_filter_le ..) ?_
  rw [List.length_range]
  exact o.elen
theorem Dt_sml {S : Sky} {ch : List Fr} (o : OkS S) (h : OkC S ch) (t : Int) : Sml (Dt S ch t) := DA_sml h (aft_in h) (aft_len o)
theorem bb_sml {S : Sky} {ch : List Fr} (o : OkS S) (h : OkC S ch) (t u : Int) : Sml (DA ch (bb S t u)) := DA_sml h (bb_in h) (bb_len o)

/-! ### the mean worth from a state on, over the denominators of the ears to come -/
def lss (b m : Int) : Int := if b < m then m else b
def toldN (S : Sky) (ch : List Fr) (M : Zt → Int) (z : Zt) (b : Bool) : Int := gain S z b * Dt S ch (lk S z.k).s + ((sb S z b S.ears.length).map fun y => CA ch y.fl (bb S (lk S z.k).s (lk S y.k).s) * M y).sum
def mmF (S : Sky) (ch : List Fr) : Nat → Zt → Int
  | 0, _ => 0
  | n + 1, z => ((moves S z).map (toldN S ch (mmF S ch n) z)).foldl lss 0
def MM (S : Sky) (ch : List Fr) (z : Zt) : Int := mmF S ch (S.looks.length - z.k) z
theorem told_congr {S : Sky} {ch : List Fr} {M M' : Zt → Int} {z : Zt} {b : Bool} (h : ∀ y ∈ sb S z b S.ears.length, M y = M' y) : toldN S ch M z b = toldN S ch M' z b := by
  unfold toldN
  congr 2
  refine List.map_congr_left fun y hy => ?_
  rw [h y hy]
theorem MM_eq {S : Sky} {ch : List Fr} {z : Zt} (o : OkS S) (h : Wf S z) : MM S ch z = ((moves S z).map (toldN S ch (MM S ch) z)).foldl lss 0 := by
  have hk := h.k
  obtain ⟨n, hn⟩ : ∃ n, S.looks.length - z.k = n + 1 := ⟨S.looks.length - z.k - 1, by omega⟩
  have e1 : MM S ch z = ((moves S z).map (toldN S ch (mmF S ch n) z)).foldl lss 0 := by
    unfold MM
    rw [hn]
    rfl
  rw [e1]
  congr 1
  refine List.map_congr_left fun b _ => told_congr fun y hy => ?_
  obtain ⟨_, e⟩ := sb_wf o h hy
  unfold MM
  rw [e, show S.looks.length - (z.k + 1) = n by omega]
theorem fm_congr {α β : Type} {f g : α → Option β} : ∀ {L : List α}, (∀ a ∈ L, f a = g a) → L.filterMap f = L.filterMap g
  | [], _ => rfl
  | a :: L, h => by
    rw [List.filterMap_cons, List.filterMap_cons, h a (List.mem_cons_self ..), fm_congr (L := L) fun b hb => h b (List.mem_cons_of_mem _ hb)]
theorem sum_fm {α : Type} {q : α → Option Row} {f : Row → Int} {g : α → Int} : ∀ (L : List α), (∀ a ∈ L, match q a with
    | some r => f r = g a
    | none => g a = 0) → ((L.filterMap q).map f).sum = (L.map g).sum
  | [], _ => rfl
  | a :: L, h => by
    have h1 := h a (List.mem_cons_self ..)
    have ih := sum_fm L fun b hb => h b (List.mem_cons_of_mem _ hb)
    rw [List.filterMap_cons, List.map_cons, List.sum_cons]
    cases e : q a with
    | none =>
      rw [e] at h1
      have h1' : g a = 0 := h1
      show ((L.filterMap q).map f).sum = _
      rw [ih, h1', Int.zero_add]
    | some r =>
      rw [e] at h1
      have h1' : f r = g a := h1
      show ((r :: L.filterMap q).map f).sum = _
      rw [List.map_cons, List.sum_cons, ih, h1']
/-- rows of one time step -/
theorem rows_mean {S : Sky} {ch : List Fr} (o : OkS S) (m : OkM S) (h : OkC S ch) {mp : Mp Fr} {t u : Int} (htu : t ≤ u) {Ls : List Zt} (hm : ∀ y ∈ Ls, ∀ r, rowQ ch (bb S t u) y = some r → ∃ x, look mp y = some x ∧ Fq x (MM S ch y) (Dt S ch u)) :
    g_mean_over [.list ((Ls.filterMap (rowQ ch (bb S t u))).map eRow), .dict (eD eFr mp)] = some (eFr (moT mp (0, 1) (Ls.filterMap (rowQ ch (bb S t u))))) ∧ Fq (moT mp (0, 1) (Ls.filterMap (rowQ ch (bb S t u)))) ((Ls.map fun y => CA ch y.fl (bb S t u) * MM S ch y).sum) (Dt S ch t) := by
  have hA := bb_sml (ch := ch) o h t u
  have hD := Dt_sml (ch := ch) o h u
  have hAD := Dt_sml (ch := ch) o h t
  rw [Dt_split m htu] at hAD
  have cf := fun y : Zt => chT_fq h (fl := y.fl) (bb S t u) fq_one (bb_in h)
  have ok : ∀ r ∈ Ls.filterMap (rowQ ch (bb S t u)), RowOk mp (DA ch (bb S t u)) (Dt S ch u) r (CA ch r.1.fl (bb S t u)) (MM S ch r.1) := fun r hr => by
    obtain ⟨y, hy, e⟩ := List.mem_filterMap.mp hr
    obtain ⟨e1, e2⟩ := rowQ_some e
    have c := cf y
    rw [Int.one_mul, Int.one_mul] at c
    obtain ⟨c0, c1⟩ := CA_ok h (fl := y.fl) (bb S t u) (bb_in h)
    have n := hm y hy r e
    rw [e1]
    exact ⟨c, c0, c1, n⟩
  have mo := mean_over (cv := fun r => (CA ch r.1.fl (bb S t u), MM S ch r.1)) hA hD hAD ok
  refine ⟨mo.1, ?_⟩
  rw [Dt_split m htu]
  have s := sum_fm (q := rowQ ch (bb S t u)) (f := fun r => CA ch r.1.fl (bb S t u) * MM S ch r.1) (g := fun y => CA ch y.fl (bb S t u) * MM S ch y) Ls fun y hy => by
    unfold rowQ
    by_cases hx : chT ch y.fl (1, 1) (bb S t u) = (0, 1)
    · rw [if_pos hx]
      have c := cf y
      rw [Int.one_mul, Int.one_mul] at c
      have := (fq_zero hA.1 c).mp hx
      show CA ch y.fl (bb S t u) * MM S ch y = 0
      rw [this, Int.zero_mul]
    · rw [if_neg hx]
  rw [← s]
  exact mo.2
theorem fq_int {g D : Int} : Fq (g, 1) (g * D) D := ⟨by show (0 : Int) < 1; decide, by simp, by show g * D = g * D * 1; rw [Int.mul_one]⟩
def byM (S : Sky) (ch : List Fr) (mp : Mp Fr) (z : Zt) (b : Bool) : Fr := plusT (gain S z b, 1) (moT mp (0, 1) (cb S ch z b))
theorem mean_by {S : Sky} {ch : List Fr} {z : Zt} {b : Bool} (o : OkS S) (m : OkM S) (hw : OkW S) (h : OkC S ch) {mp : Mp Fr} (hz : Wf S z) (hm : ∀ r ∈ cb S ch z b, ∃ x, look mp r.1 = some x ∧ Fq x (MM S ch r.1) (Dt S ch (lk S r.1.k).s)) :
    g_mean_by [eSky S, .list (ch.map eFr), eZ z, eM b, .dict (eD eFr mp)] = some (eFr (byM S ch mp z b)) ∧ Fq (byM S ch mp z b) (toldN S ch (MM S ch) z b) (Dt S ch (lk S z.k).s) := by
  have hk := hz.k
  have cbh := chances_behind (b := b) o h hz
  have ga := gain_of (b := b) hw (hz.ok o).k
  have fin : ∀ N, g_mean_over [.list ((cb S ch z b).map eRow), .dict (eD eFr mp)] = some (eFr (moT mp (0, 1) (cb S ch z b))) → Fq (moT mp (0, 1) (cb S ch z b)) N (Dt S ch (lk S z.k).s) → N = ((sb S z b S.ears.length).map fun y => CA ch y.fl (bb S (lk S z.k).s (lk S y.k).s) * MM S ch y).sum →
      g_mean_by [eSky S, .list (ch.map eFr), eZ z, eM b, .dict (eD eFr mp)] = some (eFr (byM S ch mp z b)) ∧ Fq (byM S ch mp z b) (toldN S ch (MM S ch) z b) (Dt S ch (lk S z.k).s) := fun N e1 e2 e3 => by
    generalize hy : moT mp (0, 1) (cb S ch z b) = y at e1 e2
    have dz := Dt_sml (ch := ch) o h (lk S z.k).s
    have p := plus (x := (gain S z b, 1)) (y := y) ⟨by show (0 : Int) < 1; decide, by show (1 : Int) ≤ 1000000; decide⟩ (fq_sml e2 dz)
    have p' : g_plus [.tuple [.int (gain S z b), .int 1], eFr y] = some (eFr (plusT (gain S z b, 1) y)) := p
    unfold byM
    rw [hy]
    refine ⟨run_eq rfl ?_, ?_⟩
    · simp [b_mean_by, Da.start, cbh, ga, e1, p']
    · unfold toldN
      rw [← e3]
      exact plus_fq fq_int e2
  by_cases hN : z.k + 1 = S.looks.length
  · have e0 : sb S z b S.ears.length = [] := by unfold sb; rw [if_pos hN]
    have e1 : cb S ch z b = [] := by unfold cb; rw [e0]; rfl
    have mo := mean_over (m := mp) (A := 1) (D := 1) (rows := []) (cv := fun _ => (0, 0)) ⟨by decide, by decide⟩ ⟨by decide, by decide⟩ ⟨by decide, by decide⟩ (fun r hr => absurd hr (by simp))
    refine fin 0 ?_ (by rw [e1]; exact fq_zer) (by rw [e0]; rfl)
    rw [e1]
    exact mo.1
  · have hs : (lk S z.k).s ≤ (lk S (z.k + 1)).s := m.st z.k (z.k + 1) (by omega) (by show z.k + 1 < _; omega)
    have ec : cb S ch z b = (sb S z b S.ears.length).filterMap (rowQ ch (bb S (lk S z.k).s (lk S (z.k + 1)).s)) := by
      unfold cb
      refine fm_congr fun y hy => ?_
      rw [(sb_wf o hz hy).2]
    have rm := rows_mean o m h hs (Ls := sb S z b S.ears.length) (mp := mp) fun y hy r hr => by
      have hr' : r ∈ cb S ch z b := by rw [ec]; exact List.mem_filterMap.mpr ⟨y, hy, hr⟩
      have := hm r hr'
      rw [(rowQ_some hr).1] at this
      rw [(sb_wf o hz hy).2] at this
      exact this
    rw [← ec] at rm
    refine fin _ rm.1 rm.2 ?_
    congr 1
    refine List.map_congr_left fun y hy => ?_
    rw [(sb_wf o hz hy).2]
end Pl
set_option linter.all false
set_option maxRecDepth 100000
/-! Ev20: mean_numbers, mean_worth. -/
namespace Pl
open PySem Da
theorem srtR_pw {α : Type} {enc : α → PyData} {xs : List α} (h : ∀ a ∈ xs, ∀ b ∈ xs, pal (enc a) (enc b) = true) : (srtR enc xs).Pairwise fun a b => pLt (enc a) (enc b) = false := by
  have h' : ∀ a ∈ xs.map enc, ∀ b ∈ xs.map enc, pal a b = true := by
    simp only [List.mem_map, forall_exists_index, and_imp, forall_apply_eq_imp_iff₂]
    exact fun a ha b hb => h a ha b hb
  have e : (xs.map enc).mergeSort (PySem.W.dataLe true id) = (srtR enc xs).map enc := (Sk.sortL_eq true _ h').trans sortL_mapR
  have p := PySem.W.sort_pairwise (le := PySem.W.dataLe true id) (PySem.W.sortLe_total _ true _) (xs.map enc)
  rw [e, List.pairwise_map] at p
  have hm : ∀ a ∈ srtR enc xs, a ∈ xs := fun a ha => (srtR_perm enc xs).mem_iff.mp ha
  refine p.imp_of_mem fun {a b} ha hb q => ?_
  have := Sk.pLt_eq (enc a) (enc b) (h a (hm a ha) b (hm b hb))
  have q' : (!PySem.W.dataLt (enc a) (enc b)) = true := q
  rw [this] at q'
  simpa using q'
def lsF (b t : Fr) : Fr := if b.1 * t.2 < t.1 * b.2 then t else b
def bestM (S : Sky) (ch : List Fr) (mp : Mp Fr) (z : Zt) : Fr := (moves S z).foldl (fun b mv => lsF b (byM S ch mp z mv)) (0, 1)
/-- numbers as they should be -/
def NumOk (S : Sky) (ch : List Fr) (mp : Mp Fr) : Prop := ∀ p ∈ mp, Fq p.2 (MM S ch p.1) (Dt S ch (lk S p.1.k).s)
theorem look_in {β : Type} {z : Zt} : ∀ {m : Mp β}, z ∈ m.map (·.1) → ∃ v, look m z = some v ∧ (z, v) ∈ m
  | [], h => by simp at h
  | (k, v) :: r, h => by
    unfold look
    by_cases e : k = z
    · subst e
      rw [if_pos rfl]
      exact ⟨v, rfl, List.mem_cons_self ..⟩
    · rw [if_neg e]
      rw [List.map_cons, List.mem_cons] at h
      obtain ⟨u, h1, h2⟩ := look_in (h.resolve_left fun q => e q.symm)
      exact ⟨u, h1, List.mem_cons_of_mem _ h2⟩
theorem mean_numbers {S : Sky} {ch : List Fr} (o : OkS S) (m : OkM S) (hw : OkW S) (h : OkC S ch) : ∃ mp F, g_mean_numbers [eSky S, .list (ch.map eFr)] = some (.dict (eD eFr mp)) ∧ ReM S ch F ∧ (∀ z, z ∈ mp.map (·.1) ↔ z ∈ F) ∧ NumOk S ch mp := by
  obtain ⟨F, hF, hW⟩ := reachedM o h
  have pr : (srtR eZ F).Pairwise fun a b => pLt (eZ a) (eZ b) = false := srtR_pw fun a _ b _ => pal_eZ a b
  have nd : (srtR eZ F).Nodup := (srtR_perm eZ F).nodup_iff.mpr hF.nd
  have memF : ∀ z, z ∈ srtR eZ F ↔ z ∈ F := fun z => (srtR_perm eZ F).mem_iff
  have hlen : (srtR eZ F).length ≤ 600000 := by rw [(srtR_perm eZ F).length_eq]; exact hF.len
  have hs : gSorted true [.dict (eF F)] = some (.list ((srtR eZ F).map eZ)) := by
    have e : (eF F).map (·.1) = F.map eZ := by unfold eF; rw [List.map_map]; rfl
    show (if canSort ((eF F).map (·.1)) = true then some (PyData.list (sortL true ((eF F).map (·.1)))) else none) = _
    rw [e, if_pos (canSort_map (fun a _ b _ => pal_eZ a b) (fun a _ => ok_eZ a)), sortL_mapR]
  generalize hQ : srtR eZ F = Q at pr nd memF hlen hs
  have key := forL_nxR (enc := eZ) (t := .one 4) (js := [4, 9, 5, 10]) (body := b_mean_numbers_5) (fun mp : Mp Fr => [some (eSky S), some (.list (ch.map eFr)), some (.list []), some (.dict (eF F)), none, none, none, none, some (.dict (eD eFr mp)), none, none])
    (fun mp z => put mp z (bestM S ch mp z)) (fun rest mp => mp.map (·.1) ++ rest = Q ∧ NumOk S ch mp) Q [] ⟨List.nil_append _, fun p hp => absurd hp (by simp)⟩ fun mp z rest hI => by
      obtain ⟨hI, hN⟩ := hI
      have hz : z ∈ F := (memF z).mp (by rw [← hI]; exact List.mem_append_right _ (List.mem_cons_self ..))
      have wz := hF.wf z hz
      have dz := Dt_sml (ch := ch) o h (lk S z.k).s
      have hm : ∀ b ∈ moves S z, ∀ r ∈ cb S ch z b, ∃ x, look mp r.1 = some x ∧ Fq x (MM S ch r.1) (Dt S ch (lk S r.1.k).s) := fun b hb r hr => by
        have yF := hF.clo z hz b hb r hr
        obtain ⟨_, ek⟩ := sb_wf o wz (cb_mem hr).1
        have yQ := (memF r.1).mpr yF
        rw [← hI] at yQ
        rcases List.mem_append.mp yQ with q | q
        · obtain ⟨v, v1, v2⟩ := look_in q
          exact ⟨v, v1, hN _ v2⟩
        · exfalso
          have pr' := pr
          rw [← hI] at pr'
          have := (List.pairwise_append.mp pr').2.1
          rcases List.mem_cons.mp q with q | q
          · rw [q] at ek; omega
          · have := (List.pairwise_cons.mp this).1 r.1 q
            rw [lt_k (by omega)] at this
            cases this
      have mv := forL_nx (enc := eM) (t := .one 5) (js := [5, 10]) (body := b_mean_numbers_4) (fun x : Fr => [some (eSky S), some (.list (ch.map eFr)), some (.list []), some (.dict (eF F)), some (eZ z), none, none, none, some (.dict (eD eFr mp)), some (eFr x), none])
        (fun b mv => lsF b (byM S ch mp z mv)) (fun x => Sml x.2) (moves S z) (0, 1) ⟨by decide, by decide⟩ fun x b hx hb => by
          obtain ⟨mb, fb⟩ := mean_by o m hw h wz (hm b hb)
          have st := fq_sml fb dz
          have il := is_less hx st
          unfold lsF
          by_cases hl : x.1 * (byM S ch mp z b).2 < (byM S ch mp z b).1 * x.2
          · rw [if_pos hl]
            rw [decide_eq_true hl] at il
            exact ⟨by simp [one, b_mean_numbers_4, ev_sSeq, mb, il, wOut, wipe], st⟩
          · rw [if_neg hl]
            rw [decide_eq_false hl] at il
            exact ⟨by simp [one, b_mean_numbers_4, ev_sSeq, mb, il, wOut, wipe], hx⟩
      have m1 := mv.1
      have m1' : forL (.one 5) [5, 10] b_mean_numbers_4 ((moves S z).map eM) [some (eSky S), some (.list (ch.map eFr)), some (.list []), some (.dict (eF F)), some (eZ z), none, none, none, some (.dict (eD eFr mp)), some (.tuple [.int 0, .int 1]), none] =
          some (.nx [some (eSky S), some (.list (ch.map eFr)), some (.list []), some (.dict (eF F)), some (eZ z), none, none, none, some (.dict (eD eFr mp)), some (eFr (bestM S ch mp z)), none]) := m1
      have zD : z ∉ mp.map (·.1) := by
        rw [← hI] at nd
        exact fun q => (List.nodup_append.mp nd).2.2 z q z (List.mem_cons_self ..) rfl
      have lenD : mp.length < 16777216 := by
        have : (mp.map (·.1)).length + (rest.length + 1) = Q.length := by rw [← hI, List.length_append, List.length_cons]
        rw [List.length_map] at this
        omega
      have e1 : sSetD 8 (dVar 4) (dVar 9) [some (eSky S), some (.list (ch.map eFr)), some (.list []), some (.dict (eF F)), some (eZ z), none, none, none, some (.dict (eD eFr mp)), some (eFr (bestM S ch mp z)), none] =
          some (.nx [some (eSky S), some (.list (ch.map eFr)), some (.list []), some (.dict (eF F)), some (eZ z), none, none, none, some (.dict (eD eFr (put mp z (bestM S ch mp z)))), some (eFr (bestM S ch mp z)), none]) := by
        rw [ev_setD (kvs := eD eFr mp) (k := eZ z) (d := eFr (bestM S ch mp z)) (by simp) (by simp) (by simp) (key_eZ z) (by unfold eD; rw [List.length_map]; exact lenD), putK_eD]
        rfl
      have mo := moves_of o (wz.ok o)
      refine ⟨?_, ?_, ?_⟩
      · simp [one, b_mean_numbers_5, ev_sSeq, mo, m1', e1, wOut, wipe]
      · rw [put_new zD, List.map_append, List.append_assoc]
        exact hI
      · rw [put_new zD]
        intro p hp
        rcases List.mem_append.mp hp with q | q
        · exact hN p q
        · rw [List.mem_singleton.mp q]
          show Fq (bestM S ch mp z) (MM S ch z) (Dt S ch (lk S z.k).s)
          rw [MM_eq o wz]
          unfold bestM
          have gen : ∀ (bs : List Bool) (x : Fr) (N : Int), (∀ b ∈ bs, b ∈ moves S z) → Fq x N (Dt S ch (lk S z.k).s) → Fq (bs.foldl (fun b mv => lsF b (byM S ch mp z mv)) x) ((bs.map (toldN S ch (MM S ch) z)).foldl lss N) (Dt S ch (lk S z.k).s) := by
            intro bs
            induction bs with
            | nil => intro x N _ hx; exact hx
            | cons b bs ih =>
              intro x N hb hx
              rw [List.foldl_cons, List.map_cons, List.foldl_cons]
              refine ih _ _ (fun c hc => hb c (List.mem_cons_of_mem _ hc)) ?_
              obtain ⟨_, fb⟩ := mean_by o m hw h wz (hm b (hb b (List.mem_cons_self ..)))
              have lf := less_fq dz.1 hx fb
              unfold lsF lss
              by_cases hl : x.1 * (byM S ch mp z b).2 < (byM S ch mp z b).1 * x.2
              · rw [if_pos hl, if_pos (lf.mp hl)]; exact fb
              · rw [if_neg hl, if_neg (fun q => hl (lf.mpr q))]; exact hx
          exact gen (moves S z) (0, 1) 0 (fun b hb => hb) fq_zer
  obtain ⟨k1, k2, k3⟩ := key
  rw [List.append_nil] at k2
  generalize hmp : Q.foldl (fun mp z => put mp z (bestM S ch mp z)) [] = mp at k1 k2 k3
  refine ⟨mp, F, ?_, hF, fun z => by rw [k2]; exact memF z, k3⟩
  have fcs := first_chances o h
  have c1 : dComp (.many [4, 7]) [4, 7] (itS (dCall g_first_chances (aCons (dVar 0) (aCons (dVar 1) aNil)))) yes (dVar 4) [some (eSky S), some (.list (ch.map eFr)), none, none, none, none, none, none, none, none, none] = some (.list (((fc S ch).map (·.1)).map eZ)) := by
    rw [dComp_run (enc := eRow) (xs := fc S ch) (fun r => some (eZ r.1)) (by simp [fcs]) fun r hr => by
      simp [cTurn, wipe, eRow, ev_toTgM, setMany]]
    rw [fm_map, List.map_map]
    rfl
  have dd : dDict (itO (dVar 2)) (.bool true) [some (eSky S), some (.list (ch.map eFr)), some (.list (((fc S ch).map (·.1)).map eZ)), none, none, none, none, none, none, none, none] = some (.dict (eF (((fc S ch).map (·.1)).foldl ddF []))) := by
    unfold dDict
    rw [ev_itO (ds := ((fc S ch).map (·.1)).map eZ) (by simp)]
    show (dictL (.bool true) (((fc S ch).map (·.1)).map eZ) []).map _ = _
    have hd' : dictL (.bool true) (((fc S ch).map (·.1)).map eZ) [] = some (eF (((fc S ch).map (·.1)).foldl ddF [])) := dictL_eF _ []
    rw [hd']
    rfl
  have k1' : forL (.one 4) [4, 9, 5, 10] b_mean_numbers_5 (Q.map eZ) [some (eSky S), some (.list (ch.map eFr)), some (.list []), some (.dict (eF F)), none, none, none, none, some (.dict []), none, none] = some (.nx [some (eSky S), some (.list (ch.map eFr)), some (.list []), some (.dict (eF F)), none, none, none, none, some (.dict (eD eFr mp)), none, none]) := k1
  refine run_eq rfl ?_
  simp [b_mean_numbers, Da.start, ev_sSeq, c1, dd, hW, hs, k1', -List.map_map]
def MWN (S : Sky) (ch : List Fr) : Int := ((fs S S.ears.length).map fun y => CA ch y.fl (bb S (-1) (lk S 0).s) * MM S ch y).sum
theorem mean_worth {S : Sky} {ch : List Fr} (o : OkS S) (m : OkM S) (hw : OkW S) (h : OkC S ch) : ∃ x, g_mean_worth [eSky S, .list (ch.map eFr)] = some (eFr x) ∧ Fq x (MWN S ch) (Dt S ch (-1)) := by
  obtain ⟨mp, F, e1, hF, hm, hN⟩ := mean_numbers o m hw h
  have fcs := first_chances o h
  by_cases hl : S.looks = []
  · have f0 : fs S S.ears.length = [] := by unfold fs; rw [if_pos hl]
    have c0 : fc S ch = [] := by unfold fc; rw [f0]; rfl
    have mo := mean_over (m := mp) (A := 1) (D := 1) (rows := []) (cv := fun _ => (0, 0)) ⟨by decide, by decide⟩ ⟨by decide, by decide⟩ ⟨by decide, by decide⟩ (fun r hr => absurd hr (by simp))
    refine ⟨(0, 1), run_eq rfl ?_, ?_⟩
    · rw [c0] at fcs
      have m1 := mo.1
      simp only [List.map_nil] at fcs m1
      simp [b_mean_worth, Da.start, fcs, e1, m1, moT]
    · unfold MWN
      rw [f0]
      exact fq_zer
  · have h0 : InS S 0 := List.length_pos_iff.mpr hl
    have s0 := m.s0 0 h0
    have rm := rows_mean o m h (t := -1) (u := (lk S 0).s) (by omega) (Ls := fs S S.ears.length) (mp := mp) fun y hy r hr => by
      have hr' : r ∈ fc S ch := List.mem_filterMap.mpr ⟨y, hy, hr⟩
      have yF := hF.a r hr'
      obtain ⟨v, v1, v2⟩ := look_in ((hm r.1).mpr yF)
      rw [(rowQ_some hr).1] at v1 v2
      have := hN _ v2
      have ey : y.k = 0 := (fs_wf o hy).2
      rw [show (((y, v) : Zt × Fr)).1.k = y.k from rfl, ey] at this
      exact ⟨v, v1, this⟩
    exact ⟨_, run_eq rfl (by
      have r1 := rm.1
      rw [show (fs S S.ears.length).filterMap (rowQ ch (bb S (-1) (lk S 0).s)) = fc S ch from rfl] at r1 ⊢
      simp [b_mean_worth, Da.start, fcs, e1, r1]), rm.2⟩
end Pl
set_option linter.all false
set_option maxRecDepth 100000
/-! Ev21: the law's own functions. -/
namespace Pl
open PySem Da
def OkA (S : Sky) : Prop := ∀ k ∈ S.looks, -30 ≤ k.a ∧ k.a ≤ 30
theorem okA_lk {S : Sky} (h : OkA S) {i : Nat} (hi : InS S i) : -30 ≤ (lk S i).a ∧ (lk S i).a ≤ 30 := h _ (List.mem_of_getElem? (lk_get hi))
theorem turn_char {S : Sky} (h : 0 < S.turn) (a b : Lk) (t : Int) : (if b.a - a.a < 0 then -(b.a - a.a) else b.a - a.a) ≤ t * S.turn ↔ turnT S a b ≤ t := by
  unfold turnT
  generalize (if b.a - a.a < 0 then -(b.a - a.a) else b.a - a.a) = x
  constructor
  · intro q
    have : -t ≤ -x / S.turn := (Int.le_ediv_iff_mul_le h).mpr (by rw [Int.neg_mul]; omega)
    omega
  · intro q
    have : -t ≤ -x / S.turn := by omega
    have := (Int.le_ediv_iff_mul_le h).mp this
    rw [Int.neg_mul] at this
    omega
theorem turn_bound {S : Sky} (h : 0 < S.turn) (hA : OkA S) {i j : Nat} (hi : InS S i) (hj : InS S j) : 0 ≤ turnT S (lk S i) (lk S j) ∧ turnT S (lk S i) (lk S j) ≤ 60 := by
  have a1 := okA_lk hA hi
  have a2 := okA_lk hA hj
  constructor
  · have : ¬ turnT S (lk S i) (lk S j) ≤ -1 := fun q => by
      have := (turn_char h _ _ _).mpr q
      split at this <;> omega
    omega
  · refine (turn_char h _ _ _).mp ?_
    have : 60 * 1 ≤ 60 * S.turn := Int.mul_le_mul_of_nonneg_left (by omega) (by decide)
    split <;> omega
theorem law_turn {S : Sky} {i j : Nat} (o : OkS S) (hA : OkA S) (hi : InS S i) (hj : InS S j) : g__law_turn [eSky S, eN i, eN j] = some (.int (turnT S (lk S i) (lk S j))) := by
  have e1 := lk_get hi
  have e2 := lk_get hj
  obtain ⟨b0, b1⟩ := turn_bound o.t0 hA hi hj
  have ch := turn_char (S := S) o.t0 (lk S i) (lk S j)
  generalize turnT S (lk S i) (lk S j) = c at b0 b1 ch ⊢
  have go : ∀ (rest : List Nat) (t : Int), 0 ≤ t → t ≤ c → c - t < rest.length → forL (.one 4) [4] b__law_turn_1 (rest.map eN) [some (eSky S), some (eN i), some (eN j), some (.int t), none] = some (.nx [some (eSky S), some (eN i), some (eN j), some (.int c), none]) := by
    intro rest
    induction rest with
    | nil => intro t h0 h1 h2; simp at h2; omega
    | cons x rest ih =>
      intro t h0 h1 h2
      have m1 := ev_gMul (a := t) (b := S.turn) (.inr (by have := o.t0; have := o.t1; unfold sm; simp; omega))
      have cc := ch t
      rw [List.length_cons] at h2
      by_cases hc : c ≤ t
      · have hc' := cc.mpr hc
        have : t = c := by omega
        have o1 : one (.one 4) [4] b__law_turn_1 (eN x) [some (eSky S), some (eN i), some (eN j), some (.int t), none] = some (.bk [some (eSky S), some (eN i), some (eN j), some (.int t), none]) := by
          simp [one, b__law_turn_1, ev_sSeq, m1, e1, e2, hc', wOut, wipe]
        rw [List.map_cons, forL_cons o1]
        show some (Out.nx [some (eSky S), some (eN i), some (eN j), some (PyData.int t), none]) = _
        rw [this]
      · have hc' : ¬ _ := fun q => hc (cc.mp q)
        have o1 : one (.one 4) [4] b__law_turn_1 (eN x) [some (eSky S), some (eN i), some (eN j), some (.int t), none] = some (.nx [some (eSky S), some (eN i), some (eN j), some (.int (t + 1)), none]) := by
          simp [one, b__law_turn_1, ev_sSeq, m1, e1, e2, hc', wOut, wipe]
        rw [List.map_cons, forL_cons o1]
        exact ih (t + 1) (by omega) (by omega) (by omega)
  have g1 := go (List.range 200) 0 (by omega) b0 (by rw [List.length_range]; omega)
  have hr : itRng1 (dC (.int 200)) [some (eSky S), some (eN i), some (eN j), some (.int 0), none] = some ((List.range 200).map eN) := rng1 (n := 200) rfl (by decide)
  refine run_eq rfl ?_
  simp only [b__law_turn, Da.start, ev_sSeq, ev_sAsg, ev_dC, ev_toTg1, List.map_cons, List.map_nil, List.length_cons, List.length_nil, List.replicate, List.cons_append, List.nil_append, List.set_cons_succ, List.set_cons_zero, Option.bind_some, Option.map_some, ev_sFor, hr, g1, ev_sRet, ev_dVar, List.getElem?_cons_succ, List.getElem?_cons_zero, Option.getD_some]

/-! ### the store, tick by tick -/
def tkE (E : List Er) (s now : Int) : Int := E.foldl (fun s e => if e.f ≤ now - 1 ∧ now - 1 < e.l then max 0 (s - e.r) else s) s
def tkL (S : Sky) (xs : List Nat) (s now : Int) : Int := xs.foldl (fun s i => if (lk S i).e = now then s + (lk S i).z else s) s
def tick (S : Sky) (xs : List Nat) (s : Int) (n : Nat) : Int := tkL S xs (tkE S.ears s (n : Int)) (n : Int)
def storeL (S : Sky) (xs : List Nat) (n : Nat) : Int := (List.range n).foldl (tick S xs) 0
theorem st1 {S : Sky} {xs : List Nat} {nd : PyData} {now : Nat} {s : Int} {e : Er} : one (.many [5, 6, 7]) [5, 6, 7] b__law_store_1 (eEr e) [some (eSky S), some (eNs xs), some nd, some (.int s), some (eN now), none, none, none, none, none, none, none, none, none] =
    some (.nx [some (eSky S), some (eNs xs), some nd, some (.int (if e.f ≤ (now : Int) - 1 ∧ (now : Int) - 1 < e.l then max 0 (s - e.r) else s)), some (eN now), none, none, none, none, none, none, none, none, none]) := by
  by_cases c1 : e.f ≤ (now : Int) - 1
  · by_cases c2 : (now : Int) - 1 < e.l
    · rw [if_pos ⟨c1, c2⟩]
      simp [one, b__law_store_1, eEr, ev_toTgM, setMany, c1, c2, wOut, wipe]
    · rw [if_neg (fun q => c2 q.2)]
      simp [one, b__law_store_1, eEr, ev_toTgM, setMany, c1, c2, wOut, wipe]
  · rw [if_neg (fun q => c1 q.1)]
    simp [one, b__law_store_1, eEr, ev_toTgM, setMany, c1, wOut, wipe]
theorem st2 {S : Sky} {xs : List Nat} {nd : PyData} {now i : Nat} {s : Int} (hi : InS S i) : one (.one 8) [8, 9, 10, 11, 12, 13] b__law_store_2 (eN i) [some (eSky S), some (eNs xs), some nd, some (.int s), some (eN now), none, none, none, none, none, none, none, none, none] =
    some (.nx [some (eSky S), some (eNs xs), some nd, some (.int (if (lk S i).e = (now : Int) then s + (lk S i).z else s)), some (eN now), none, none, none, none, none, none, none, none, none]) := by
  have e1 := lk_get hi
  have eq := eq_int ((lk S i).s + (lk S i).l) (now : Int)
  by_cases c : (lk S i).e = (now : Int)
  · rw [if_pos c]
    have c' : (lk S i).s + (lk S i).l = (now : Int) := c
    rw [decide_eq_true c'] at eq
    simp [one, b__law_store_2, ev_sSeq, e1, eLk, ev_toTgM, setMany, eq, wOut, wipe]
  · rw [if_neg c]
    have c' : ¬ (lk S i).s + (lk S i).l = (now : Int) := c
    rw [decide_eq_false c'] at eq
    simp [one, b__law_store_2, ev_sSeq, e1, eLk, ev_toTgM, setMany, eq, wOut, wipe]
theorem st3 {S : Sky} {xs : List Nat} {nd : PyData} {now : Nat} {s : Int} (hx : ∀ i ∈ xs, InS S i) : one (.one 4) [4, 5, 6, 7, 8, 9, 10, 11, 12, 13] b__law_store_3 (eN now) [some (eSky S), some (eNs xs), some nd, some (.int s), none, none, none, none, none, none, none, none, none, none] =
    some (.nx [some (eSky S), some (eNs xs), some nd, some (.int (tick S xs s now)), none, none, none, none, none, none, none, none, none, none]) := by
  have f1 := forL_nx (enc := eEr) (t := .many [5, 6, 7]) (js := [5, 6, 7]) (body := b__law_store_1) (fun s : Int => [some (eSky S), some (eNs xs), some nd, some (.int s), some (eN now), none, none, none, none, none, none, none, none, none]) (fun s e => if e.f ≤ (now : Int) - 1 ∧ (now : Int) - 1 < e.l then max 0 (s - e.r) else s) (fun _ => True) S.ears s trivial fun s e _ _ => ⟨st1, trivial⟩
  have f2 := forL_nx (enc := eN) (t := .one 8) (js := [8, 9, 10, 11, 12, 13]) (body := b__law_store_2) (fun s : Int => [some (eSky S), some (eNs xs), some nd, some (.int s), some (eN now), none, none, none, none, none, none, none, none, none]) (fun s i => if (lk S i).e = (now : Int) then s + (lk S i).z else s) (fun _ => True) xs (tkE S.ears s (now : Int)) trivial fun s i _ hi => ⟨st2 (hx i hi), trivial⟩
  have g1 := f1.1
  have g2 := f2.1
  rw [show S.ears.foldl (fun s e => if e.f ≤ (now : Int) - 1 ∧ (now : Int) - 1 < e.l then max 0 (s - e.r) else s) s = tkE S.ears s (now : Int) from rfl] at g1
  rw [show xs.foldl (fun s i => if (lk S i).e = (now : Int) then s + (lk S i).z else s) (tkE S.ears s (now : Int)) = tick S xs s now from rfl] at g2
  simp [one, b__law_store_3, ev_sSeq, g1, g2, wOut, wipe]
theorem law_store {S : Sky} {xs : List Nat} {n : Nat} (hx : ∀ i ∈ xs, InS S i) (hn : n ≤ 900000) : g__law_store [eSky S, eNs xs, eN n] = some (.int (storeL S xs (n + 1))) := by
  have key := forL_nx (enc := eN) (t := .one 4) (js := [4, 5, 6, 7, 8, 9, 10, 11, 12, 13]) (body := b__law_store_3) (fun s : Int => [some (eSky S), some (eNs xs), some (eN n), some (.int s), none, none, none, none, none, none, none, none, none, none]) (tick S xs) (fun _ => True) (List.range (n + 1)) 0 trivial fun s now _ _ => ⟨st3 hx, trivial⟩
  have k1 : forL (.one 4) [4, 5, 6, 7, 8, 9, 10, 11, 12, 13] b__law_store_3 ((List.range (n + 1)).map eN) [some (eSky S), some (eNs xs), some (eN n), some (.int 0), none, none, none, none, none, none, none, none, none, none] = some (.nx [some (eSky S), some (eNs xs), some (eN n), some (.int (storeL S xs (n + 1))), none, none, none, none, none, none, none, none, none, none]) := key.1
  have hr : itRng1 (dB gAdd (dVar 2) (dC (.int 1))) [some (eSky S), some (eNs xs), some (eN n), some (.int 0), none, none, none, none, none, none, none, none, none, none] = some ((List.range (n + 1)).map eN) := rng1 (n := n + 1) (by simp) (by omega)
  have s1 : sAsg (dC (.int 0)) (.one 3) (Da.start 14 [eSky S, eNs xs, eN n]) = some (.nx [some (eSky S), some (eNs xs), some (eN n), some (.int 0), none, none, none, none, none, none, none, none, none, none]) := rfl
  have s2 : sFor (.one 4) [4, 5, 6, 7, 8, 9, 10, 11, 12, 13] (itRng1 (dB gAdd (dVar 2) (dC (.int 1)))) b__law_store_3 [some (eSky S), some (eNs xs), some (eN n), some (.int 0), none, none, none, none, none, none, none, none, none, none] = some (.nx [some (eSky S), some (eNs xs), some (eN n), some (.int (storeL S xs (n + 1))), none, none, none, none, none, none, none, none, none, none]) := by
    rw [ev_sFor, hr, Option.bind_some, k1]
  refine run_eq rfl ?_
  unfold b__law_store
  rw [sSeq_nx s1, sSeq_nx s2]
  rfl
/-! ### worth -/
def lawWorthT (S : Sky) (xs : List Nat) : Int := ((List.range S.worths.length).filterMap fun w : Nat => if ((w : Int) ∈ xs.map fun i => (lk S i).w) then S.worths[w]? else none).sum
theorem law_worth {S : Sky} {xs : List Nat} (hx : ∀ i ∈ xs, InS S i) (hn : S.worths.length ≤ 1000) : g__law_worth [eSky S, eNs xs] = some (.int (lawWorthT S xs)) := by
  refine run_eq rfl ?_
  have c1 : dComp (.one 3) [3] (itS (dVar 1)) yes (dB gIx (dB gIx (dB gIx (dVar 0) (dC (.int 0))) (dVar 3)) (dC (.int 0))) [some (eSky S), some (eNs xs), none, none, none] = some (.list ((xs.map fun i => (lk S i).w).map .int)) := by
    rw [dComp_run (enc := eN) (xs := xs) (fun i => some (.int (lk S i).w)) (by simp) fun i hi => by
      have e1 := lk_get (hx i hi)
      simp [cTurn, wipe, e1]]
    rw [fm_map, List.map_map]
    rfl
  have c2 : dComp (.one 4) [4] (itRng1 (dCall gLen (aCons (dB gIx (dVar 0) (dC (.int 1))) aNil))) (tV (dB gIn (dVar 4) (dVar 2))) (dB gIx (dB gIx (dVar 0) (dC (.int 1))) (dVar 4)) [some (eSky S), some (eNs xs), some (.list ((xs.map fun i => (lk S i).w).map .int)), none, none] =
      some (.list (((List.range S.worths.length).filterMap fun w : Nat => if ((w : Int) ∈ xs.map fun i => (lk S i).w) then S.worths[w]? else none).map .int)) := by
    rw [dComp_run (enc := eN) (xs := List.range S.worths.length) (fun w : Nat => (if ((w : Int) ∈ xs.map fun i => (lk S i).w) then S.worths[w]? else none).map .int) (rng1 (by simp) (by omega)) fun w hw => by
      obtain ⟨v, e1⟩ : ∃ v, S.worths[w]? = some v := ⟨_, List.getElem?_eq_getElem (List.mem_range.mp hw)⟩
      have gi := ev_gInL (i := (w : Int)) (xs := xs.map fun i => (lk S i).w)
      by_cases hm : (w : Int) ∈ xs.map fun i => (lk S i).w
      · rw [decide_eq_true hm] at gi
        rw [if_pos hm]
        simp [cTurn, wipe, gi, e1, -List.map_map]
      · rw [decide_eq_false hm] at gi
        rw [if_neg hm]
        simp [cTurn, wipe, gi, -List.map_map]]
    rw [fm_get]
  simp [b__law_worth, Da.start, ev_sSeq, c1, c2, lawWorthT, -List.map_map]
end Pl
set_option linter.all false
set_option maxRecDepth 100000
/-! Ev22: the law's wrong, grown, best worth. -/
namespace Pl
open PySem Da
def wOK (S : Sky) (xs : List Nat) (i : Nat) : Prop := (lk S i).w ∉ xs.map fun j => (lk S j).w
/-- nothing wrong with i behind xs -/
def lawStep (S : Sky) (xs : List Nat) (i : Nat) : Prop := (∀ j, xs.getLast? = some j → j < i ∧ (lk S j).e + turnT S (lk S j) (lk S i) ≤ (lk S i).s) ∧ (lk S i).w ∉ (xs.map fun j => (lk S j).w) ∧ storeL S xs ((lk S i).s.toNat + 1) + (lk S i).z ≤ S.cap
theorem take_sl {xs : List Nat} {p : Nat} {r : Rho} {f g : Dn} (h : f r = some (eNs xs)) (h2 : g r = some (eN p)) : dSl f pNo (pSome g) r = some (eNs (xs.take p)) := by
  unfold dSl pSome pNo
  rw [h, h2]
  have h0 : (0 : Int) ≤ (p : Int) := Int.natCast_nonneg p
  show (((some (eN p)).bind fun x => (asN x).map some).bind fun hh => gSl 0 hh (eNs xs)) = _
  have : asN (eN p) = some p := by
    show (if 0 ≤ (p : Int) then some (p : Int).toNat else none) = _
    rw [if_pos h0, Int.toNat_natCast]
  rw [Option.bind_some, this]
  show some (PyData.list (((xs.map eN).take p).drop 0)) = _
  rw [List.drop_zero, ← List.map_take]
structure OkB (S : Sky) : Prop where
  st : ∀ i, InS S i → 0 ≤ (lk S i).s ∧ (lk S i).s ≤ 100000
theorem one_ret {t : Tg} {js : List Nat} {body : Dst} {d x : PyData} {r r1 : Rho} (h1 : toTg t x r = some r1) (h2 : body r1 = some (.rt d)) : one t js body x r = some (.rt d) := by
  unfold one
  rw [h1]
  show (body r1).map _ = _
  rw [h2]
  rfl
theorem wrong_at {S : Sky} {xs : List Nat} (o : OkS S) (hA : OkA S) (hB : OkB S) (hx : ∀ i ∈ xs, InS S i) {p i : Nat} (hp : xs[p]? = some i) :
    (lawStep S (xs.take p) i → one (.one 2) [2, 3, 4] b__law_wrong_1 (eN p) [some (eSky S), some (eNs xs), none, none, none, none] = some (.nx [some (eSky S), some (eNs xs), none, none, none, none])) ∧
    (¬ lawStep S (xs.take p) i → ∃ d, one (.one 2) [2, 3, 4] b__law_wrong_1 (eN p) [some (eSky S), some (eNs xs), none, none, none, none] = some (.rt d) ∧ isNon d = false) := by
  have hi := hx i (List.mem_of_getElem? hp)
  have hpl : p < xs.length := (List.getElem?_eq_some_iff.mp hp).1
  have e1 := lk_get hi
  have ixp : gIx (eNs xs) (eN p) = some (eN i) := by
    show gIx (.list (xs.map eN)) (.int (p : Int)) = _
    rw [ev_gIx, hp]
    rfl
  obtain ⟨s0, s1⟩ := hB.st i hi
  have hxt : ∀ j ∈ xs.take p, InS S j := fun j hj => hx j (List.mem_of_mem_take hj)
  have stn : (eN (lk S i).s.toNat : PyData) = .int (lk S i).s := by
    show PyData.int _ = _
    rw [Int.toNat_of_nonneg s0]
  have sto := law_store (S := S) (xs := xs.take p) (n := (lk S i).s.toNat) hxt (by omega)
  rw [stn] at sto
  have cw : dComp (.one 5) [5] (itS (dSl (dVar 1) pNo (pSome (dVar 2)))) yes (dB gIx (dB gIx (dB gIx (dVar 0) (dC (.int 0))) (dVar 5)) (dC (.int 0))) [some (eSky S), some (eNs xs), some (eN p), some (eLk (lk S i)), none, none] = some (.list (((xs.take p).map fun j => (lk S j).w).map .int)) := by
    have tk := take_sl (xs := xs) (p := p) (r := [some (eSky S), some (eNs xs), some (eN p), some (eLk (lk S i)), none, none]) (f := dVar 1) (g := dVar 2) rfl rfl
    rw [dComp_run (enc := eN) (xs := xs.take p) (fun j => some (.int (lk S j).w)) (by rw [ev_itS, tk]; rfl) fun j hj => by
      have e2 := lk_get (hxt j hj)
      simp [cTurn, wipe, e2]]
    rw [fm_map, List.map_map]
    rfl
  have ss : ∀ bf : Option PyData, dSl (dVar 1) pNo (pSome (dVar 2)) [some (eSky S), some (eNs xs), some (eN p), some (eLk (lk S i)), bf, none] = some (eNs (xs.take p)) := fun bf => take_sl rfl rfl
  have gw := ev_gInL (i := (lk S i).w) (xs := (xs.take p).map fun j => (lk S j).w)
  have tg : toTg (.one 2) (eN p) [some (eSky S), some (eNs xs), none, none, none, none] = some [some (eSky S), some (eNs xs), some (eN p), none, none, none] := rfl
  have a1 : sAsg (dB gIx (dB gIx (dVar 0) (dC (.int 0))) (dB gIx (dVar 1) (dVar 2))) (.one 3) [some (eSky S), some (eNs xs), some (eN p), none, none, none] = some (.nx [some (eSky S), some (eNs xs), some (eN p), some (eLk (lk S i)), none, none]) := by
    simp only [ev_sAsg, ev_dB, ev_dVar, ev_dC, List.getElem?_cons_succ, List.getElem?_cons_zero, Option.getD_some, Option.bind_some, sk0, ixp]
    rw [ev_gIx, e1]
    rfl
  -- the last test
  have room : ∀ bf : Option PyData, sIf (tV (dB gGt (dB gAdd (dCall g__law_store (aCons (dVar 0) (aCons (dSl (dVar 1) pNo (pSome (dVar 2))) (aCons (dB gIx (dVar 3) (dC (.int 1))) aNil)))) (dB gIx (dVar 3) (dC (.int 4)))) (dB gIx (dVar 0) (dC (.int 3))))) (sRet (dTup (aCons (dC (.str (PySem.Str.ofString "room"))) (aCons (dVar 2) aNil)))) sNext [some (eSky S), some (eNs xs), some (eN p), some (eLk (lk S i)), bf, none] =
      if storeL S (xs.take p) ((lk S i).s.toNat + 1) + (lk S i).z ≤ S.cap then some (.nx [some (eSky S), some (eNs xs), some (eN p), some (eLk (lk S i)), bf, none]) else some (.rt (.tuple [.str (PySem.Str.ofString "room"), eN p])) := fun bf => by
    have ev : dB gGt (dB gAdd (dCall g__law_store (aCons (dVar 0) (aCons (dSl (dVar 1) pNo (pSome (dVar 2))) (aCons (dB gIx (dVar 3) (dC (.int 1))) aNil)))) (dB gIx (dVar 3) (dC (.int 4)))) (dB gIx (dVar 0) (dC (.int 3))) [some (eSky S), some (eNs xs), some (eN p), some (eLk (lk S i)), bf, none] = some (.bool (decide (S.cap < storeL S (xs.take p) ((lk S i).s.toNat + 1) + (lk S i).z))) := by
      simp only [ev_dB, ev_dCall, ev_aCons, ev_aNil, ss, ev_dVar, ev_dC, List.getElem?_cons_succ, List.getElem?_cons_zero, Option.getD_some, Option.bind_some, lk1, lk4, sk3, sto, ev_gAdd, ev_gGt]
    rw [ev_sIf, ev_tV, ev]
    by_cases c : storeL S (xs.take p) ((lk S i).s.toNat + 1) + (lk S i).z ≤ S.cap
    · rw [if_pos c, decide_eq_false (by omega)]
      rfl
    · rw [if_neg c, decide_eq_true (by omega)]
      rfl
  have wish : sIf (tV (dB gIn (dB gIx (dVar 3) (dC (.int 0))) (dComp (.one 5) [5] (itS (dSl (dVar 1) pNo (pSome (dVar 2)))) yes (dB gIx (dB gIx (dB gIx (dVar 0) (dC (.int 0))) (dVar 5)) (dC (.int 0)))))) (sRet (dTup (aCons (dC (.str (PySem.Str.ofString "wish"))) (aCons (dVar 2) aNil)))) sNext [some (eSky S), some (eNs xs), some (eN p), some (eLk (lk S i)), none, none] =
      if (lk S i).w ∈ ((xs.take p).map fun j => (lk S j).w) then some (.rt (.tuple [.str (PySem.Str.ofString "wish"), eN p])) else some (.nx [some (eSky S), some (eNs xs), some (eN p), some (eLk (lk S i)), none, none]) := by
    rw [ev_sIf, ev_tV, ev_dB, ev_dB, cw]
    simp only [ev_dVar, ev_dC, List.getElem?_cons_succ, List.getElem?_cons_zero, Option.getD_some, Option.bind_some, lk0, gw, ev_asB]
    by_cases c : (lk S i).w ∈ ((xs.take p).map fun j => (lk S j).w)
    · rw [if_pos c, decide_eq_true c]; rfl
    · rw [if_neg c, decide_eq_false c]; rfl
  unfold lawStep
  cases p with
  | zero =>
    have od : sIf (tAnd (tV (dB gGt (dVar 2) (dC (.int 0)))) (tV (dB gLe (dB gIx (dVar 1) (dVar 2)) (dB gIx (dVar 1) (dB gSub (dVar 2) (dC (.int 1))))))) (sRet (dTup (aCons (dC (.str (PySem.Str.ofString "order"))) (aCons (dVar 2) aNil)))) sNext [some (eSky S), some (eNs xs), some (eN 0), some (eLk (lk S i)), none, none] = some (.nx [some (eSky S), some (eNs xs), some (eN 0), some (eLk (lk S i)), none, none]) := by
      simp
    have tu : sIf (tV (dB gGt (dVar 2) (dC (.int 0)))) (sSeq (sAsg (dB gIx (dB gIx (dVar 0) (dC (.int 0))) (dB gIx (dVar 1) (dB gSub (dVar 2) (dC (.int 1))))) (.one 4))
  (sIf (tV (dB gLt (dB gIx (dVar 3) (dC (.int 1))) (dB gAdd (dB gAdd (dB gIx (dVar 4) (dC (.int 1))) (dB gIx (dVar 4) (dC (.int 2)))) (dCall g__law_turn (aCons (dVar 0) (aCons (dB gIx (dVar 1) (dB gSub (dVar 2) (dC (.int 1)))) (aCons (dB gIx (dVar 1) (dVar 2)) aNil))))))) (sRet (dTup (aCons (dC (.str (PySem.Str.ofString "turning"))) (aCons (dVar 2) aNil)))) sNext)) sNext [some (eSky S), some (eNs xs), some (eN 0), some (eLk (lk S i)), none, none] = some (.nx [some (eSky S), some (eNs xs), some (eN 0), some (eLk (lk S i)), none, none]) := by
      simp
    have hl : ∀ j, (xs.take 0).getLast? = some j → False := fun j hj => by simp at hj
    constructor
    · rintro ⟨_, q2, q3⟩
      rw [if_neg q2] at wish
      have rm := room none
      rw [if_pos q3] at rm
      unfold one b__law_wrong_1
      rw [tg, Option.bind_some, sSeq_nx a1, sSeq_nx od, sSeq_nx wish, sSeq_nx tu, rm]
      rfl
    · intro hn
      by_cases q2 : (lk S i).w ∈ ((xs.take 0).map fun j => (lk S j).w)
      · rw [if_pos q2] at wish
        refine ⟨.tuple [.str (PySem.Str.ofString "wish"), eN 0], one_ret tg ?_, rfl⟩
        unfold b__law_wrong_1
        rw [sSeq_nx a1, sSeq_nx od, sSeq_rt wish]
      · have q3 : ¬ storeL S (xs.take 0) ((lk S i).s.toNat + 1) + (lk S i).z ≤ S.cap := fun q => hn ⟨fun j hj => (hl j hj).elim, q2, q⟩
        rw [if_neg q2] at wish
        have rm := room none
        rw [if_neg q3] at rm
        refine ⟨.tuple [.str (PySem.Str.ofString "room"), eN 0], one_ret tg ?_, rfl⟩
        unfold b__law_wrong_1
        rw [sSeq_nx a1, sSeq_nx od, sSeq_nx wish, sSeq_nx tu, rm]
  | succ q =>
    have hq : q < xs.length := by omega
    obtain ⟨j, hj⟩ : ∃ j, xs[q]? = some j := ⟨_, List.getElem?_eq_getElem hq⟩
    have hjS := hx j (List.mem_of_getElem? hj)
    have e2 := lk_get hjS
    have el : (xs.take (q + 1)).getLast? = some j := by
      rw [List.take_succ_eq_append_getElem hq, List.getLast?_append]
      have := (List.getElem?_eq_some_iff.mp hj).2
      rw [this]
      rfl
    have ixq : gIx (eNs xs) (.int (((q + 1 : Nat) : Int) - 1)) = some (eN j) := by
      have : (((q + 1 : Nat) : Int) - 1) = (q : Int) := by omega
      rw [this]
      show gIx (.list (xs.map eN)) (.int (q : Int)) = _
      rw [ev_gIx, hj]
      rfl
    have lt := law_turn o hA hjS hi
    have p0 : gGt (eN (q + 1)) (.int 0) = some (.bool true) := by
      show some (PyData.bool (decide ((0 : Int) < ((q + 1 : Nat) : Int)))) = _
      rw [decide_eq_true (by omega)]
    have od : sIf (tAnd (tV (dB gGt (dVar 2) (dC (.int 0)))) (tV (dB gLe (dB gIx (dVar 1) (dVar 2)) (dB gIx (dVar 1) (dB gSub (dVar 2) (dC (.int 1))))))) (sRet (dTup (aCons (dC (.str (PySem.Str.ofString "order"))) (aCons (dVar 2) aNil)))) sNext [some (eSky S), some (eNs xs), some (eN (q + 1)), some (eLk (lk S i)), none, none] =
        if i ≤ j then some (.rt (.tuple [.str (PySem.Str.ofString "order"), eN (q + 1)])) else some (.nx [some (eSky S), some (eNs xs), some (eN (q + 1)), some (eLk (lk S i)), none, none]) := by
      have t1 : tV (dB gGt (dVar 2) (dC (.int 0))) [some (eSky S), some (eNs xs), some (eN (q + 1)), some (eLk (lk S i)), none, none] = some true := by
        simp only [ev_tV, ev_dB, ev_dVar, ev_dC, List.getElem?_cons_succ, List.getElem?_cons_zero, Option.getD_some, Option.bind_some, p0, ev_asB]
      have t2 : tV (dB gLe (dB gIx (dVar 1) (dVar 2)) (dB gIx (dVar 1) (dB gSub (dVar 2) (dC (.int 1))))) [some (eSky S), some (eNs xs), some (eN (q + 1)), some (eLk (lk S i)), none, none] = some (decide (i ≤ j)) := by
        simp only [ev_tV, ev_dB, ev_dVar, ev_dC, List.getElem?_cons_succ, List.getElem?_cons_zero, Option.getD_some, Option.bind_some, ixp, ev_gSub, ixq, ev_gLe, ev_asB]
        congr 1
        rw [decide_eq_decide]
        omega
      rw [ev_sIf, ev_tAnd, t1, Option.bind_some, if_pos rfl, t2]
      by_cases c : i ≤ j
      · rw [if_pos c, decide_eq_true c]; rfl
      · rw [if_neg c, decide_eq_false c]; rfl
    have tu : sIf (tV (dB gGt (dVar 2) (dC (.int 0)))) (sSeq (sAsg (dB gIx (dB gIx (dVar 0) (dC (.int 0))) (dB gIx (dVar 1) (dB gSub (dVar 2) (dC (.int 1))))) (.one 4))
  (sIf (tV (dB gLt (dB gIx (dVar 3) (dC (.int 1))) (dB gAdd (dB gAdd (dB gIx (dVar 4) (dC (.int 1))) (dB gIx (dVar 4) (dC (.int 2)))) (dCall g__law_turn (aCons (dVar 0) (aCons (dB gIx (dVar 1) (dB gSub (dVar 2) (dC (.int 1)))) (aCons (dB gIx (dVar 1) (dVar 2)) aNil))))))) (sRet (dTup (aCons (dC (.str (PySem.Str.ofString "turning"))) (aCons (dVar 2) aNil)))) sNext)) sNext [some (eSky S), some (eNs xs), some (eN (q + 1)), some (eLk (lk S i)), none, none] =
        if (lk S j).e + turnT S (lk S j) (lk S i) ≤ (lk S i).s then some (.nx [some (eSky S), some (eNs xs), some (eN (q + 1)), some (eLk (lk S i)), some (eLk (lk S j)), none]) else some (.rt (.tuple [.str (PySem.Str.ofString "turning"), eN (q + 1)])) := by
      have t1 : tV (dB gGt (dVar 2) (dC (.int 0))) [some (eSky S), some (eNs xs), some (eN (q + 1)), some (eLk (lk S i)), none, none] = some true := by
        simp only [ev_tV, ev_dB, ev_dVar, ev_dC, List.getElem?_cons_succ, List.getElem?_cons_zero, Option.getD_some, Option.bind_some, p0, ev_asB]
      have b1 : sAsg (dB gIx (dB gIx (dVar 0) (dC (.int 0))) (dB gIx (dVar 1) (dB gSub (dVar 2) (dC (.int 1))))) (.one 4) [some (eSky S), some (eNs xs), some (eN (q + 1)), some (eLk (lk S i)), none, none] = some (.nx [some (eSky S), some (eNs xs), some (eN (q + 1)), some (eLk (lk S i)), some (eLk (lk S j)), none]) := by
        simp only [ev_sAsg, ev_dB, ev_dVar, ev_dC, List.getElem?_cons_succ, List.getElem?_cons_zero, Option.getD_some, Option.bind_some, sk0, ev_gSub, ixq]
        rw [ev_gIx, e2]
        rfl
      have t2 : tV (dB gLt (dB gIx (dVar 3) (dC (.int 1))) (dB gAdd (dB gAdd (dB gIx (dVar 4) (dC (.int 1))) (dB gIx (dVar 4) (dC (.int 2)))) (dCall g__law_turn (aCons (dVar 0) (aCons (dB gIx (dVar 1) (dB gSub (dVar 2) (dC (.int 1)))) (aCons (dB gIx (dVar 1) (dVar 2)) aNil)))))) [some (eSky S), some (eNs xs), some (eN (q + 1)), some (eLk (lk S i)), some (eLk (lk S j)), none] = some (decide ((lk S i).s < (lk S j).e + turnT S (lk S j) (lk S i))) := by
        simp only [ev_tV, ev_dB, ev_dVar, ev_dC, ev_dCall, ev_aCons, ev_aNil, List.getElem?_cons_succ, List.getElem?_cons_zero, Option.getD_some, Option.bind_some, lk1, lk2, ixp, ev_gSub, ixq, lt, ev_gAdd, ev_gLt, ev_asB]
        rfl
      rw [ev_sIf, t1, Option.bind_some, if_pos rfl, sSeq_nx b1, ev_sIf, t2]
      by_cases c : (lk S j).e + turnT S (lk S j) (lk S i) ≤ (lk S i).s
      · rw [if_pos c, decide_eq_false (by omega)]; rfl
      · rw [if_neg c, decide_eq_true (by omega)]; rfl
    constructor
    · rintro ⟨q1, q2, q3⟩
      obtain ⟨k1, k2⟩ := q1 j el
      rw [if_neg (by omega)] at od
      rw [if_neg q2] at wish
      rw [if_pos k2] at tu
      have rm := room (some (eLk (lk S j)))
      rw [if_pos q3] at rm
      unfold one b__law_wrong_1
      rw [tg, Option.bind_some, sSeq_nx a1, sSeq_nx od, sSeq_nx wish, sSeq_nx tu, rm]
      rfl
    · intro hn
      by_cases k1 : i ≤ j
      · rw [if_pos k1] at od
        refine ⟨.tuple [.str (PySem.Str.ofString "order"), eN (q + 1)], one_ret tg ?_, rfl⟩
        unfold b__law_wrong_1
        rw [sSeq_nx a1, sSeq_rt od]
      rw [if_neg k1] at od
      by_cases q2 : (lk S i).w ∈ ((xs.take (q + 1)).map fun j => (lk S j).w)
      · rw [if_pos q2] at wish
        refine ⟨.tuple [.str (PySem.Str.ofString "wish"), eN (q + 1)], one_ret tg ?_, rfl⟩
        unfold b__law_wrong_1
        rw [sSeq_nx a1, sSeq_nx od, sSeq_rt wish]
      rw [if_neg q2] at wish
      by_cases k2 : (lk S j).e + turnT S (lk S j) (lk S i) ≤ (lk S i).s
      · rw [if_pos k2] at tu
        have q3 : ¬ storeL S (xs.take (q + 1)) ((lk S i).s.toNat + 1) + (lk S i).z ≤ S.cap := fun z => hn ⟨fun j' hj' => by rw [el] at hj'; cases hj'; exact ⟨by omega, k2⟩, q2, z⟩
        have rm := room (some (eLk (lk S j)))
        rw [if_neg q3] at rm
        refine ⟨.tuple [.str (PySem.Str.ofString "room"), eN (q + 1)], one_ret tg ?_, rfl⟩
        unfold b__law_wrong_1
        rw [sSeq_nx a1, sSeq_nx od, sSeq_nx wish, sSeq_nx tu, rm]
      · rw [if_neg k2] at tu
        refine ⟨.tuple [.str (PySem.Str.ofString "turning"), eN (q + 1)], one_ret tg ?_, rfl⟩
        unfold b__law_wrong_1
        rw [sSeq_nx a1, sSeq_nx od, sSeq_nx wish, sSeq_rt tu]
/-- a plan, by the law -/
def LawV (S : Sky) (xs : List Nat) : Prop := ∀ p i, xs[p]? = some i → lawStep S (xs.take p) i
open Classical in
theorem law_wrong {S : Sky} {xs : List Nat} (o : OkS S) (hA : OkA S) (hB : OkB S) (hx : ∀ i ∈ xs, InS S i) (hl : xs.length ≤ 1000) : ∃ d, g__law_wrong [eSky S, eNs xs] = some d ∧ isNon d = decide (LawV S xs) := by
  let step : Unit → Nat → Option Unit := fun _ p => if ∀ i, xs[p]? = some i → lawStep S (xs.take p) i then some () else none
  have key := forL_opt (enc := eN) (t := .one 2) (js := [2, 3, 4]) (body := b__law_wrong_1) (fun _ : Unit => [some (eSky S), some (eNs xs), none, none, none, none]) step (fun _ => True) (List.range xs.length) () trivial fun _ p _ hp => by
    have hp' := List.mem_range.mp hp
    obtain ⟨i, hi⟩ : ∃ i, xs[p]? = some i := ⟨_, List.getElem?_eq_getElem hp'⟩
    obtain ⟨w1, w2⟩ := wrong_at o hA hB hx hi
    by_cases c : lawStep S (xs.take p) i
    · have e : step () p = some () := if_pos fun i' hi' => by rw [hi] at hi'; cases hi'; exact c
      split
      · exact ⟨w1 c, trivial⟩
      · rename_i q; rw [e] at q; cases q
    · have e : step () p = none := if_neg fun q => c (q i hi)
      split
      · rename_i q; rw [e] at q; cases q
      · exact w2 c
  have hr : itRng1 (dCall gLen (aCons (dVar 1) aNil)) (Da.start 6 [eSky S, eNs xs]) = some ((List.range xs.length).map eN) := rng1 (n := xs.length) (by simp [Da.start]) (by omega)
  have fold : ∀ ps : List Nat, (ps.foldlM step ()).isSome = true ↔ ∀ p ∈ ps, ∀ i, xs[p]? = some i → lawStep S (xs.take p) i := by
    intro ps
    induction ps with
    | nil => simp
    | cons p ps ih =>
      rw [List.foldlM_cons]
      by_cases c : ∀ i, xs[p]? = some i → lawStep S (xs.take p) i
      · have e : step () p = some () := if_pos c
        rw [e]
        show (ps.foldlM step ()).isSome = true ↔ _
        rw [ih]
        exact ⟨fun q r hr => (List.mem_cons.mp hr).elim (fun e => e ▸ c) (q r), fun q r hr => q r (List.mem_cons_of_mem _ hr)⟩
      · have e : step () p = none := if_neg c
        rw [e]
        exact ⟨fun q => (nomatch q), fun q => absurd (q p (List.mem_cons_self ..)) c⟩
  have hV : LawV S xs ↔ ((List.range xs.length).foldlM step ()).isSome = true := by
    rw [fold]
    exact ⟨fun q p _ i hi => q p i hi, fun q p i hi => q p (List.mem_range.mpr (List.getElem?_eq_some_iff.mp hi).1) i hi⟩
  cases hq : (List.range xs.length).foldlM step () with
  | none =>
    rw [hq] at key hV
    obtain ⟨d, k1, k2⟩ := key
    refine ⟨d, run_eq rfl ?_, ?_⟩
    · unfold b__law_wrong
      have f1 : sFor (.one 2) [2, 3, 4] (itRng1 (dCall gLen (aCons (dVar 1) aNil))) b__law_wrong_1 (Da.start 6 [eSky S, eNs xs]) = some (.rt d) := by
        rw [ev_sFor, hr, Option.bind_some]
        exact k1
      rw [sSeq_rt f1]
    · rw [k2, decide_eq_false (fun q => by have := hV.mp q; cases this)]
  | some u =>
    rw [hq] at key hV
    refine ⟨.none, run_eq rfl ?_, ?_⟩
    · unfold b__law_wrong
      have f1 : sFor (.one 2) [2, 3, 4] (itRng1 (dCall gLen (aCons (dVar 1) aNil))) b__law_wrong_1 (Da.start 6 [eSky S, eNs xs]) = some (.nx [some (eSky S), some (eNs xs), none, none, none, none]) := by
        rw [ev_sFor, hr, Option.bind_some]
        exact key.1
      rw [sSeq_nx f1]
      rfl
    · rw [decide_eq_true (hV.mpr rfl)]
      rfl
end Pl
set_option linter.all false
set_option maxRecDepth 100000
/-! Ev23: the law's grown and best worth, its numbers. -/
namespace Pl
open PySem Da
open Classical in
noncomputable def extL (S : Sky) (p : List Nat) : List (List Nat) := ((List.range S.looks.length).filter fun i => !decide (i ∈ p) && decide (LawV S (p ++ [i]))).map fun i => p ++ [i]
theorem lawV_last {S : Sky} {p : List Nat} {i : Nat} (h : LawV S (p ++ [i])) : lawStep S p i := by
  have := h p.length i (by rw [List.getElem?_append_right (Nat.le_refl _), Nat.sub_self]; rfl)
  rw [List.take_left] at this
  exact this
theorem lawV_pre {S : Sky} {p : List Nat} {i : Nat} (h : LawV S (p ++ [i])) : LawV S p := fun q j hj => by
  have hq := (List.getElem?_eq_some_iff.mp hj).1
  have := h q j (by rw [List.getElem?_append_left hq]; exact hj)
  rw [List.take_append_of_le_length (by omega)] at this
  exact this
theorem lawV_snoc {S : Sky} {p : List Nat} {i : Nat} : LawV S (p ++ [i]) ↔ LawV S p ∧ lawStep S p i := by
  refine ⟨fun h => ⟨lawV_pre h, lawV_last h⟩, fun ⟨h1, h2⟩ q j hj => ?_⟩
  by_cases hq : q < p.length
  · rw [List.getElem?_append_left hq] at hj
    rw [List.take_append_of_le_length (by omega)]
    exact h1 q j hj
  · have hl : q < (p ++ [i]).length := (List.getElem?_eq_some_iff.mp hj).1
    rw [List.length_append, List.length_singleton] at hl
    have e : q = p.length := by omega
    subst e
    rw [List.getElem?_append_right (Nat.le_refl _), Nat.sub_self] at hj
    cases hj
    rw [List.take_left]
    exact h2
open Classical in
theorem growL {S : Sky} (o : OkS S) : Grow (extL S) (fun p => S.looks.length - fst1 p) (PIn S) where
  len := fun p hp => by
    unfold extL
    rw [List.length_map]
    refine Nat.le_trans (List.length_filter_le ..) ?_
    rw [List.length_range]
    exact o.len
  lt := fun p hp c hc => by
    obtain ⟨i, hi, rfl⟩ := List.mem_map.mp hc
    obtain ⟨h1, h2⟩ := List.mem_filter.mp hi
    have hN : i < S.looks.length := List.mem_range.mp h1
    have hv : LawV S (p ++ [i]) := by
      rw [Bool.and_eq_true] at h2
      exact of_decide_eq_true h2.2
    have hf : fst1 p ≤ i := by
      unfold fst1
      cases hl : p.getLast? with
      | none => exact Nat.zero_le _
      | some l => exact (lawV_last hv).1 l hl |>.1
    refine ⟨⟨fun j hj => ?_, ?_⟩, ?_⟩
    · rcases List.mem_append.mp hj with q | q
      · exact hp.1 j q
      · rw [List.mem_singleton.mp q]; exact hN
    · have := hp.2
      rw [fst1_snoc, List.length_append, List.length_singleton]
      omega
    · show S.looks.length - fst1 (p ++ [i]) < S.looks.length - fst1 p
      rw [fst1_snoc]
      omega
open Classical in
theorem law_grown {S : Sky} (o : OkS S) (hA : OkA S) (hB : OkB S) : ∃ F, g__law_grown [eSky S] = some (.list ((srt (fun p : List Nat => eNs p) F).map fun p => eNs p)) ∧ Grown (extL S) (PIn S) [] F := by
  let R : List (List Nat) × Nat → Rho := fun s => [some (eSky S), some (.list (s.1.map fun p => eNs p)), some (eN s.2), none, none]
  have hp0 : PIn S [] := ⟨fun i hi => absurd hi (by simp), by show 0 + (S.looks.length - 0) ≤ 10; have := o.len; omega⟩
  obtain ⟨F, w1, w2⟩ := grown_run (c := tV (dB gLt (dVar 2) (dCall gLen (aCons (dVar 1) aNil)))) (js := [3, 4]) (body := b__law_grown_2) (growL o) R (a0 := []) (by have := o.len; omega) hp0 (fun s _ => by
    have : ((s.2 : Int) < (s.1.length : Int)) ↔ s.2 < s.1.length := by omega
    simp [R, this]) fun s p hI hp' => by
      have Pp := hI.p p (List.mem_of_getElem? hp')
      have hl := hI.len
      have e1 : gIx (.list (s.1.map fun p => eNs p)) (.int (s.2 : Int)) = some (eNs p) := by rw [ev_gIx, hp']; rfl
      have pl : p.length ≤ 900 := by have := Pp.2; omega
      have inner := forL_nxR (enc := eN) (t := .one 4) (js := [4]) (body := b__law_grown_1) (fun D : List (List Nat) => [some (eSky S), some (.list (D.map fun p => eNs p)), some (eN s.2), some (eNs p), none])
        (fun D i => if (!decide (i ∈ p) && decide (LawV S (p ++ [i]))) = true then D ++ [p ++ [i]] else D) (fun rest D => (∀ i ∈ rest, InS S i) ∧ D.length + rest.length ≤ 200000) (List.range S.looks.length) s.1 ⟨fun i hi => List.mem_range.mp hi, by rw [List.length_range]; have := o.len; omega⟩ fun D i rest hh => by
          obtain ⟨h1, h2⟩ := hh
          rw [List.length_cons] at h2
          have hi := h1 i (List.mem_cons_self ..)
          obtain ⟨d, d1, d2⟩ := law_wrong (xs := p ++ [i]) o hA hB (fun j hj => by
            rcases List.mem_append.mp hj with q | q
            · exact Pp.1 j q
            · rw [List.mem_singleton.mp q]; exact hi) (by rw [List.length_append, List.length_singleton]; omega)
          have ct := catL1 (p := p) (i := i) (by omega)
          have lD : D.length < 16777216 := by omega
          have gn : gIsN d = some (.bool (decide (LawV S (p ++ [i])))) := by unfold gIsN; rw [d2]
          have nin := (nmL p).nin i
          have mp : (D ++ [p ++ [i]]).map (fun p => eNs p) = D.map (fun p => eNs p) ++ [eNs (p ++ [i])] := by rw [List.map_append]; rfl
          refine ⟨?_, fun j hj => h1 j (List.mem_cons_of_mem _ hj), ?_⟩
          · by_cases c1 : i ∈ p
            · simp only [c1, decide_true, Bool.not_true, Bool.false_and, Bool.false_eq_true, if_false]
              simp [one, b__law_grown_1, c1, wOut, wipe]
            · by_cases c2 : LawV S (p ++ [i])
              · simp only [c1, c2, decide_true, decide_false, Bool.not_false, Bool.and_true, if_true, mp]
                rw [decide_eq_true c2] at gn
                simp [one, b__law_grown_1, c1, ct, d1, gn, wOut, wipe, lD, big]
              · simp only [c1, c2, decide_false, Bool.not_false, Bool.and_false, Bool.false_eq_true, if_false]
                rw [decide_eq_false c2] at gn
                simp [one, b__law_grown_1, c1, ct, d1, gn, wOut, wipe]
          · split
            · rw [List.length_append, List.length_singleton]; omega
            · omega
      have i1 := inner.1
      rw [fold_if] at i1
      have ei : forL (.one 4) [4] b__law_grown_1 ((List.range S.looks.length).map eN) [some (eSky S), some (.list (s.1.map fun p => eNs p)), some (eN s.2), some (eNs p), none] =
          some (.nx [some (eSky S), some (.list ((s.1 ++ extL S p).map fun p => eNs p)), some (eN s.2), some (eNs p), none]) := i1
      have hr : itRng1 (dCall gLen (aCons (dB gIx (dVar 0) (dC (.int 0))) aNil)) [some (eSky S), some (.list (s.1.map fun p => eNs p)), some (eN s.2), some (eNs p), none] = some ((List.range S.looks.length).map eN) := rng1 (n := S.looks.length) (by simp) (by have := o.len; omega)
      have a1 : sAsg (dB gIx (dVar 1) (dVar 2)) (.one 3) (R s) = some (.nx [some (eSky S), some (.list (s.1.map fun p => eNs p)), some (eN s.2), some (eNs p), none]) := by simp [R, e1]
      have a2 : sFor (.one 4) [4] (itRng1 (dCall gLen (aCons (dB gIx (dVar 0) (dC (.int 0))) aNil))) b__law_grown_1 [some (eSky S), some (.list (s.1.map fun p => eNs p)), some (eN s.2), some (eNs p), none] = some (.nx [some (eSky S), some (.list ((s.1 ++ extL S p).map fun p => eNs p)), some (eN s.2), some (eNs p), none]) := by
        rw [ev_sFor, hr, Option.bind_some, ei]
      have q1 : PyData.int ((s.2 : Int) + 1) = eN (s.2 + 1) := rfl
      unfold b__law_grown_2
      rw [sSeq_nx a1, sSeq_nx a2]
      simp only [ev_sAsg, ev_dB, ev_dVar, ev_dC, List.getElem?_cons_succ, List.getElem?_cons_zero, Option.getD_some, Option.bind_some, ev_gAdd, ev_toTg1, Option.map_some, List.set_cons_succ, List.set_cons_zero, wOut, wipe, List.foldl_cons, List.foldl_nil]
      rw [q1]
  refine ⟨F, ?_, w2⟩
  have hs := sorted_list (enc := fun p : List Nat => eNs p) (xs := F) (fun a _ b _ => pal_eL a b) (fun a _ => ok_eL a)
  have w1' : sWhile (tV (dB gLt (dVar 2) (dCall gLen (aCons (dVar 1) aNil)))) [3, 4] b__law_grown_2 [some (eSky S), some (.list [.list []]), some (.int 0), none, none] = some (.nx [some (eSky S), some (.list (F.map fun p => eNs p)), some (eN F.length), none, none]) := w1
  refine run_eq rfl ?_
  simp only [b__law_grown, Da.start, ev_sSeq, ev_sAsg, ev_dLst, ev_aCons, ev_aNil, ev_dCall, ev_dVar, ev_dC, ev_toTg1, List.map_cons, List.map_nil, List.length_cons, List.length_nil, List.replicate, List.cons_append, List.nil_append, List.getElem?_cons_succ, List.getElem?_cons_zero, Option.getD_some, Option.bind_some, List.set_cons_succ, List.set_cons_zero, Option.map_some, w1', ev_sRet, hs]
theorem law_best_worth {S : Sky} (o : OkS S) (hA : OkA S) (hB : OkB S) (hn : S.worths.length ≤ 1000) : ∃ F, g__law_best_worth [eSky S] = some (.int (mx (F.map (lawWorthT S)))) ∧ Grown (extL S) (PIn S) [] F := by
  obtain ⟨F, h1, h2⟩ := law_grown o hA hB
  have hm : ∀ p, p ∈ srt (fun p : List Nat => eNs p) F ↔ p ∈ F := fun p => (srt_perm _ _).mem_iff
  refine ⟨srt (fun p : List Nat => eNs p) F, run_eq rfl ?_, ⟨(hm _).mpr h2.a, fun p hp c hc => (hm c).mpr (h2.clo p ((hm p).mp hp) c hc), fun p hp => h2.p p ((hm p).mp hp), by rw [(srt_perm _ _).length_eq]; exact h2.len, fun p hp => h2.r p ((hm p).mp hp)⟩⟩
  have hne : srt (fun p : List Nat => eNs p) F ≠ [] := fun q => by
    have := (hm []).mpr h2.a
    rw [q] at this
    cases this
  have c1 : dComp (.one 1) [1] (itS (dCall g__law_grown (aCons (dVar 0) aNil))) yes (dCall g__law_worth (aCons (dVar 0) (aCons (dVar 1) aNil))) [some (eSky S), none] = some (.list (((srt (fun p : List Nat => eNs p) F).map (lawWorthT S)).map .int)) := by
    rw [dComp_run (enc := fun p : List Nat => eNs p) (xs := srt (fun p : List Nat => eNs p) F) (fun p => some (.int (lawWorthT S p))) (by simp [h1]) fun p hp => by
      have := law_worth (S := S) (xs := p) (h2.p p ((hm p).mp hp)).1 hn
      simp [cTurn, wipe, this]]
    rw [fm_map, List.map_map]
    rfl
  have gm := ev_gMax (xs := (srt (fun p : List Nat => eNs p) F).map (lawWorthT S)) (by rw [Ne, List.map_eq_nil_iff]; exact hne)
  simp [b__law_best_worth, Da.start, c1, gm, -List.map_map]
theorem law_less {x y : Fr} (hx : sm x.1 = true ∨ sm y.2 = true) (hy : sm y.1 = true ∨ sm x.2 = true) : g__law_less [eFr x, eFr y] = some (.bool (decide (x.1 * y.2 < y.1 * x.2))) := by
  refine run_eq rfl ?_
  have m1 := ev_gMul hx
  have m2 := ev_gMul hy
  simp [b__law_less, Da.start, m1, m2]
end Pl
set_option linter.all false
set_option maxRecDepth 100000
/-! Ev24: the law's numbers and chances. -/
namespace Pl
open PySem Da
theorem law_gcd {a b : Nat} (hb : b ≤ 300) : g__law_gcd [eN a, eN b] = some (eN (Nat.gcd a b)) := by
  have go : ∀ (rest : List Nat) (a b : Nat), b < rest.length → forL (.one 2) [2] b__law_gcd_1 (rest.map eN) [some (eN a), some (eN b), none] = some (.nx [some (eN (Nat.gcd a b)), some (eN 0), none]) := by
    intro rest
    induction rest with
    | nil => intro a b h; simp at h
    | cons x rest ih =>
      intro a b h
      rw [List.length_cons] at h
      by_cases hb : b = 0
      · subst hb
        have eq : gEq (eN 0) (.int 0) = some (.bool true) := eq_int 0 0
        have o1 : one (.one 2) [2] b__law_gcd_1 (eN x) [some (eN a), some (eN 0), none] = some (.bk [some (eN a), some (eN 0), none]) := by
          have t1 : sIf (tV (dB gEq (dVar 1) (dC (.int 0)))) sBreak sNext [some (eN a), some (eN 0), some (eN x)] = some (.bk [some (eN a), some (eN 0), some (eN x)]) := by
            rw [ev_sIf, ev_tV, ev_dB, ev_dVar, ev_dC]
            show ((gEq (eN 0) (.int 0)).bind asB).bind _ = _
            rw [eq]
            rfl
          unfold one b__law_gcd_1
          rw [show toTg (.one 2) (eN x) [some (eN a), some (eN 0), none] = some [some (eN a), some (eN 0), some (eN x)] from rfl, Option.bind_some, ev_sSeq, t1]
          rfl
        rw [List.map_cons, forL_cons o1, Nat.gcd_zero_right]
      · have eq : gEq (eN b) (.int 0) = some (.bool false) := by
          rw [eq_int, decide_eq_false (by omega)]
        have md : gMod (eN a) (eN b) = some (eN (a % b)) := by
          rw [ev_gMod (by omega), ← Int.natCast_emod]
        have o1 : one (.one 2) [2] b__law_gcd_1 (eN x) [some (eN a), some (eN b), none] = some (.nx [some (eN b), some (eN (a % b)), none]) := by
          simp [one, b__law_gcd_1, ev_sSeq, eq, md, wOut, wipe]
        rw [List.map_cons, forL_cons o1]
        have := ih b (a % b) (by have := Nat.mod_lt a (Nat.pos_of_ne_zero hb); omega)
        rw [Nat.gcd_comm a b, Nat.gcd_rec b a, Nat.gcd_comm (a % b) b]
        exact this
  have g1 := go (List.range 400) a b (by rw [List.length_range]; omega)
  have hr : itRng1 (dC (.int 400)) [some (eN a), some (eN b), none] = some ((List.range 400).map eN) := rng1 (n := 400) rfl (by decide)
  have f1 : sFor (.one 2) [2] (itRng1 (dC (.int 400))) b__law_gcd_1 (Da.start 3 [eN a, eN b]) = some (.nx [some (eN (Nat.gcd a b)), some (eN 0), none]) := by
    rw [ev_sFor]
    show (itRng1 (dC (.int 400)) [some (eN a), some (eN b), none]).bind _ = _
    rw [hr, Option.bind_some]
    exact g1
  refine run_eq rfl ?_
  unfold b__law_gcd
  rw [sSeq_nx f1]
  rfl
theorem law_number {n d : Nat} (h0 : 0 < d) (h1 : d ≤ 300) : g__law_number [eN n, eN d] = some (eFr (numT (n : Int) (d : Int))) := by
  have g := law_gcd (a := n) (b := d) h1
  have gp : 0 < Nat.gcd n d := Nat.gcd_pos_of_pos_right _ h0
  have gl : Nat.gcd n d ≤ d := Nat.gcd_le_right _ h0
  have eg : gI (n : Int) (d : Int) = ((Nat.gcd n d : Nat) : Int) := by unfold gI; simp
  have d1 := ev_gDiv (a := (n : Int)) (b := ((Nat.gcd n d : Nat) : Int)) (by omega) (by omega)
  have d2 := ev_gDiv (a := (d : Int)) (b := ((Nat.gcd n d : Nat) : Int)) (by omega) (by omega)
  refine run_eq rfl ?_
  simp [b__law_number, Da.start, ev_sSeq, g, d1, d2, eFr, numT, eg]
/-! ### draws -/
/-- draws: whole numbers below a thousand -/
structure Drw (D : List Int) (n : Nat) : Prop where
  len : D.length = n
  b : ∀ x ∈ D, 0 ≤ x ∧ x < 1000
abbrev eIs (D : List Int) : PyData := .list (D.map .int)
def dI (D : List Int) (i : Nat) : Int := D[i]?.getD 0
theorem dI_ok {D : List Int} {n i : Nat} (h : Drw D n) (hi : i < n) : D[i]? = some (dI D i) ∧ 0 ≤ dI D i ∧ dI D i < 1000 := by
  have hl : i < D.length := by rw [h.len]; exact hi
  have e : D[i]? = some (dI D i) := by
    unfold dI
    rw [List.getElem?_eq_getElem hl]
    rfl
  exact ⟨e, h.b _ (List.mem_of_getElem? e)⟩
theorem gIx_dI {D : List Int} {n i : Nat} (h : Drw D n) (hi : i < n) {j : Int} (hj : j = (i : Int)) : gIx (eIs D) (.int j) = some (.int (dI D i)) := by
  subst hj
  show gIx (.list (D.map .int)) (.int (i : Int)) = _
  rw [ev_gIx, (dI_ok h hi).1]
  rfl
def mods : Int → Int
  | 0 => 1
  | 1 => 4
  | 2 => 6
  | _ => 100
def lcD (D : List Int) (k : Nat) : Int := 1 + dI D (2 * k) % mods (dI D (2 * k) / 100 % 4)
def lcF (D : List Int) (k : Nat) : Fr := numT (dI D (2 * k + 1) % (lcD D k + 1)) (lcD D k)
theorem mods_ok (i : Int) : 1 ≤ mods i ∧ mods i ≤ 100 := by
  unfold mods
  split <;> omega
theorem lcD_ok (D : List Int) (k : Nat) : 1 ≤ lcD D k ∧ lcD D k ≤ 100 := by
  have := mods_ok (dI D (2 * k) / 100 % 4)
  have h1 := Int.emod_nonneg (dI D (2 * k)) (b := mods (dI D (2 * k) / 100 % 4)) (by omega)
  have h2 := Int.emod_lt_of_pos (dI D (2 * k)) (b := mods (dI D (2 * k) / 100 % 4)) (by omega)
  unfold lcD
  omega
theorem numT_ok {n d : Int} (h0 : 0 ≤ n) (h1 : n ≤ d) (h2 : 1 ≤ d) (h3 : d ≤ 100) : 0 ≤ (numT n d).1 ∧ (numT n d).1 ≤ (numT n d).2 ∧ 1 ≤ (numT n d).2 ∧ (numT n d).2 ≤ 100 := by
  have q := numT_fq (n := n) (d := d) (N := n) (D := d) (by omega) rfl
  have hs : Sml d := ⟨by omega, by omega⟩
  obtain ⟨a, b⟩ := fq_num q hs h0 h1
  have p := q.pos
  have l := fq_le hs.1 q
  exact ⟨a, b, by omega, by omega⟩
theorem law_chances {S : Sky} {D : List Int} (o : OkS S) (h : Drw D 6) : ∃ ch, g__law_chances [eSky S, eIs D] = some (.list (ch.map eFr)) ∧ OkC S ch := by
  have key := forL_nxR (enc := eN) (t := .one 3) (js := [3, 4]) (body := b__law_chances_1) (fun ch : List Fr => [some (eSky S), some (eIs D), some (.list (ch.map eFr)), none, none]) (fun ch k => ch ++ [lcF D k])
    (fun rest ch => ch.length + rest.length = S.ears.length ∧ (∀ k ∈ rest, k < 3) ∧ ∀ x ∈ ch, 0 ≤ x.1 ∧ x.1 ≤ x.2 ∧ 1 ≤ x.2 ∧ x.2 ≤ 100) (List.range S.ears.length) [] ⟨by rw [List.length_range, List.length_nil, Nat.zero_add], fun k hk => by have := List.mem_range.mp hk; have := o.elen; omega, fun x hx => absurd hx (by simp)⟩ fun ch k rest hI => by
      obtain ⟨h1, h2, h3⟩ := hI
      rw [List.length_cons] at h1
      have hk := h2 k (List.mem_cons_self ..)
      have i0 := gIx_dI (i := 2 * k) h (by omega) (j := 2 * (k : Int)) (by omega)
      have i1 := gIx_dI (i := 2 * k + 1) h (by omega) (j := 2 * (k : Int) + 1) (by omega)
      have m2 : gMul (.int 2) (.int (k : Int)) = some (.int (2 * (k : Int))) := ev_gMul (.inl (by decide))
      have dv := ev_gDiv (a := dI D (2 * k)) (b := 100) (by decide) (by decide)
      have md := ev_gMod (a := dI D (2 * k) / 100) (b := 4) (by decide)
      have sel : gIx (.list [.int 1, .int 4, .int 6, .int 100]) (.int (dI D (2 * k) / 100 % 4)) = some (.int (mods (dI D (2 * k) / 100 % 4))) := by
        have a0 := Int.emod_nonneg (dI D (2 * k) / 100) (b := 4) (by decide)
        have a1 := Int.emod_lt_of_pos (dI D (2 * k) / 100) (b := 4) (by decide)
        generalize dI D (2 * k) / 100 % 4 = t at a0 a1
        have : t = 0 ∨ t = 1 ∨ t = 2 ∨ t = 3 := by omega
        rcases this with rfl | rfl | rfl | rfl <;> rfl
      have mo := mods_ok (dI D (2 * k) / 100 % 4)
      have md2 := ev_gMod (a := dI D (2 * k)) (b := mods (dI D (2 * k) / 100 % 4)) (by omega)
      obtain ⟨l1, l2⟩ := lcD_ok D k
      have md3 := ev_gMod (a := dI D (2 * k + 1)) (b := lcD D k + 1) (by omega)
      have n0 := Int.emod_nonneg (dI D (2 * k + 1)) (b := lcD D k + 1) (by omega)
      have n1 := Int.emod_lt_of_pos (dI D (2 * k + 1)) (b := lcD D k + 1) (by omega)
      have ln := law_number (n := (dI D (2 * k + 1) % (lcD D k + 1)).toNat) (d := (lcD D k).toNat) (by omega) (by omega)
      have ln' : g__law_number [.int (dI D (2 * k + 1) % (lcD D k + 1)), .int (lcD D k)] = some (eFr (lcF D k)) := by
        have e1 : (((dI D (2 * k + 1) % (lcD D k + 1)).toNat : Nat) : Int) = dI D (2 * k + 1) % (lcD D k + 1) := Int.toNat_of_nonneg n0
        have e2 : (((lcD D k).toNat : Nat) : Int) = lcD D k := Int.toNat_of_nonneg (by omega)
        show g__law_number [.int _, .int _] = _
        rw [show (eN (dI D (2 * k + 1) % (lcD D k + 1)).toNat : PyData) = .int (dI D (2 * k + 1) % (lcD D k + 1)) from congrArg PyData.int e1, show (eN (lcD D k).toNat : PyData) = .int (lcD D k) from congrArg PyData.int e2, e1, e2] at ln
        exact ln
      have lD : ch.length < big := by have := o.elen; unfold big; omega
      refine ⟨?_, by rw [List.length_append, List.length_singleton]; omega, fun j hj => h2 j (List.mem_cons_of_mem _ hj), fun x hx => ?_⟩
      · have s1 : sAsg (dB gAdd (dC (.int 1)) (dB gMod (dCall gInt (aCons (dB gIx (dVar 1) (dB gMul (dC (.int 2)) (dVar 3))) aNil)) (dB gIx (dLst (aCons (dC (.int 1)) (aCons (dC (.int 4)) (aCons (dC (.int 6)) (aCons (dC (.int 100)) aNil))))) (dB gMod (dCall gInt (aCons (dB gDiv (dB gIx (dVar 1) (dB gMul (dC (.int 2)) (dVar 3))) (dC (.int 100))) aNil)) (dC (.int 4)))))) (.one 4) [some (eSky S), some (eIs D), some (.list (ch.map eFr)), some (eN k), none] = some (.nx [some (eSky S), some (eIs D), some (.list (ch.map eFr)), some (eN k), some (.int (lcD D k))]) := by
          simp only [ev_sAsg, ev_dB, ev_dVar, ev_dC, ev_dCall, ev_aCons, ev_aNil, ev_dLst, List.getElem?_cons_succ, List.getElem?_cons_zero, Option.getD_some, Option.bind_some, m2, i0, ev_gInt, dv, md, sel, md2, ev_gAdd, ev_toTg1, Option.map_some]
          rfl
        have s2 : dCall g__law_number (aCons (dB gMod (dCall gInt (aCons (dB gIx (dVar 1) (dB gAdd (dB gMul (dC (.int 2)) (dVar 3)) (dC (.int 1)))) aNil)) (dB gAdd (dVar 4) (dC (.int 1)))) (aCons (dVar 4) aNil)) [some (eSky S), some (eIs D), some (.list (ch.map eFr)), some (eN k), some (.int (lcD D k))] = some (eFr (lcF D k)) := by
          simp only [ev_dB, ev_dVar, ev_dC, ev_dCall, ev_aCons, ev_aNil, List.getElem?_cons_succ, List.getElem?_cons_zero, Option.getD_some, Option.bind_some, m2, ev_gAdd, i1, ev_gInt, md3, ln']
        have s3 := ev_app (i := 2) (r := [some (eSky S), some (eIs D), some (.list (ch.map eFr)), some (eN k), some (.int (lcD D k))]) (xs := ch.map eFr) rfl s2 (by rw [List.length_map]; exact lD)
        unfold one b__law_chances_1
        show ((sSeq _ _ [some (eSky S), some (eIs D), some (.list (ch.map eFr)), some (eN k), none]).map (wOut [3, 4])) = _
        rw [sSeq_nx s1, s3, List.map_append]
        rfl
      · rcases List.mem_append.mp hx with q | q
        · exact h3 x q
        · rw [List.mem_singleton.mp q]
          exact numT_ok n0 (by omega) l1 l2
  obtain ⟨k1, k2, _, k4⟩ := key
  generalize hch : (List.range S.ears.length).foldl (fun ch k => ch ++ [lcF D k]) [] = ch at k1 k2 k4
  refine ⟨ch, run_eq rfl ?_, ⟨by simpa using k2, k4⟩⟩
  have k1' : forL (.one 3) [3, 4] b__law_chances_1 ((List.range S.ears.length).map eN) [some (eSky S), some (eIs D), some (.list []), none, none] = some (.nx [some (eSky S), some (eIs D), some (.list (ch.map eFr)), none, none]) := k1
  have hr : itRng1 (dCall gLen (aCons (dB gIx (dVar 0) (dC (.int 2))) aNil)) [some (eSky S), some (eIs D), some (.list []), none, none] = some ((List.range S.ears.length).map eN) := rng1 (n := S.ears.length) (by simp) (by have := o.elen; omega)
  have a1 : sAsg (dLst aNil) (.one 2) (Da.start 5 [eSky S, eIs D]) = some (.nx [some (eSky S), some (eIs D), some (.list []), none, none]) := rfl
  have a2 : sFor (.one 3) [3, 4] (itRng1 (dCall gLen (aCons (dB gIx (dVar 0) (dC (.int 2))) aNil))) b__law_chances_1 [some (eSky S), some (eIs D), some (.list []), none, none] = some (.nx [some (eSky S), some (eIs D), some (.list (ch.map eFr)), none, none]) := by
    rw [ev_sFor, hr, Option.bind_some, k1']
  unfold b__law_chances
  rw [sSeq_nx a1, sSeq_nx a2]
  rfl
end Pl
set_option linter.all false
set_option maxRecDepth 100000
/-! Ev25: the draws. -/
namespace Pl
open PySem Da
/-- a loop whose turns are told by what they keep -/
theorem forL_ex {α β : Type} {enc : α → PyData} {t : Tg} {js : List Nat} {body : Dst} (R : β → Rho) (I : List α → β → Prop) : ∀ (xs : List α) (s : β), I xs s →
    (∀ s a rest, I (a :: rest) s → ∃ s', one t js body (enc a) (R s) = some (.nx (R s')) ∧ I rest s') → ∃ s', forL t js body (xs.map enc) (R s) = some (.nx (R s')) ∧ I [] s'
  | [], s, hI, _ => ⟨s, rfl, hI⟩
  | a :: xs, s, hI, h => by
    obtain ⟨s1, h1, h2⟩ := h s a xs hI
    obtain ⟨s', k1, k2⟩ := forL_ex R I xs s1 h2 h
    refine ⟨s', ?_, k2⟩
    rw [List.map_cons, forL_cons h1]
    exact k1
theorem ev_setL {i n : Nat} {h f : Dn} {r : Rho} {xs : List PyData} {d : PyData} (h1 : dVar i r = some (.list xs)) (h2 : h r = some (eN n)) (h3 : f r = some d) (hn : n < xs.length) : sSetL i h f r = some (.nx (r.set i (some (.list (xs.set n d))))) := by
  unfold sSetL
  rw [h3]
  show (match dVar i r with | some (.list xs) => _ | _ => none) = _
  rw [h1]
  show (h r).bind _ = _
  rw [h2]
  show (ixN xs.length (n : Int)).map _ = _
  have : ixN xs.length (n : Int) = some n := by
    show (if n < xs.length then some n else none) = _
    rw [if_pos hn]
  rw [this]
  rfl
theorem pow18 : gPow (.int 10) (.int 18) = some (.int 1000000000000000000) := by
  show (if (0 : Int) ≤ 18 ∧ (18 : Int) ≤ 100 ∧ sm 10 = true then some (PyData.int (10 ^ (18 : Int).toNat)) else none) = _
  rw [if_pos (by decide)]
  rfl
theorem draw_mix {c1 c2 c3 m1 c4 m2 c5 m3 : Int} (q1 : sm c1 = true) (q2 : sm c2 = true) (q3 : m1 ≠ 0) (q4 : sm c4 = true) (q5 : m2 ≠ 0) (q6 : ∀ a, gDiv (.int a) (.int c5) = some (.int (a / c5))) (q7 : m3 ≠ 0)
    (q3' : ∀ a, gMod (.int a) (.int m1) = some (.int (a % m1))) (q5' : ∀ a, gMod (.int a) (.int m2) = some (.int (a % m2))) (q7' : ∀ a, gMod (.int a) (.int m3) = some (.int (a % m3)))
    {sc : PyData} {R E : PyData} {at_ k r : Int} {v0 : Int} (gi : gIx R (.int at_) = some (.int r)) :
    (sSeq (sAsg (dB gMod (dCall gInt (aCons (dB gAdd (dB gAdd (dB gMul (dB gIx (dVar 2) (dVar 6)) (dC (.int c1))) (dB gMul (dVar 4) (dC (.int c2)))) (dC (.int c3))) aNil)) (dC (.int m1))) (.one 7))
  (sSeq (sAsg (dB gMod (dCall gInt (aCons (dB gAdd (dB gMul (dVar 7) (dC (.int c4))) (dVar 6)) aNil)) (dC (.int m2))) (.one 7))
  (sAsg (dB gMod (dCall gInt (aCons (dB gDiv (dVar 7) (dC (.int c5))) aNil)) (dC (.int m3))) (.one 5)))) [some sc, some (.int 80), some R, some E, some (.int k), some (.int v0), some (.int at_), none, none]
    = some (.nx [some sc, some (.int 80), some R, some E, some (.int k), some (.int (((r * c1 + k * c2 + c3) % m1 * c4 + at_) % m2 / c5 % m3)), some (.int at_), some (.int (((r * c1 + k * c2 + c3) % m1 * c4 + at_) % m2)), none]) := by
  have a1 := ev_gMul (a := r) (b := c1) (.inr q1)
  have a2 := ev_gMul (a := k) (b := c2) (.inr q2)
  have a4 := fun a => ev_gMul (a := a) (b := c4) (.inr q4)
  simp only [ev_sSeq, ev_sAsg, ev_dB, ev_dCall, ev_aCons, ev_aNil, ev_dVar, ev_dC, List.getElem?_cons_succ, List.getElem?_cons_zero, Option.getD_some, Option.bind_some, gi, a1, a2, ev_gAdd, ev_gInt, q3', ev_toTg1, Option.map_some, List.set_cons_succ, List.set_cons_zero, a4, q5', q6, q7']
theorem draw_turn {sc : PyData} {rs D : List Int} {k : Nat} (hD : D.length < 1000) : ∃ rs' v, one (.one 4) [4, 5, 6, 7] b__law_draws_1 (eN k) [some sc, some (.int 80), some (eIs rs), some (eIs D), none, none, none, none, none] =
    some (.nx [some sc, some (.int 80), some (eIs rs'), some (eIs (D ++ [v])), none, none, none, none, none]) ∧ 0 ≤ v ∧ v < 1000 := by
  have lD : (D.map PyData.int).length < big := by rw [List.length_map]; unfold big; omega
  have tg : toTg (.one 4) (eN k) [some sc, some (.int 80), some (eIs rs), some (eIs D), none, none, none, none, none] = some [some sc, some (.int 80), some (eIs rs), some (eIs D), some (eN k), none, none, none, none] := rfl
  have s0 : sAsg (dC (.int 0)) (.one 5) [some sc, some (.int 80), some (eIs rs), some (eIs D), some (eN k), none, none, none, none] = some (.nx [some sc, some (.int 80), some (eIs rs), some (eIs D), some (eN k), some (.int 0), none, none, none]) := rfl
  have fin : ∀ {rs' : List Int} {v : Int} {at_ mixed : Option PyData}, sIf (tV (dB gGt (dCall gLen (aCons (dVar 2) aNil)) (dC (.int 0)))) (sSeq (sAsg (dB gMod (dCall gInt (aCons (dVar 4) aNil)) (dCall gLen (aCons (dVar 2) aNil))) (.one 6))
  (sIf (tV (dB gGe (dB gIx (dVar 2) (dVar 6)) (dB gPow (dC (.int 10)) (dC (.int 18))))) (sSeq (sAsg (dB gMod (dCall gInt (aCons (dB gIx (dVar 2) (dVar 6)) aNil)) (dC (.int 1000))) (.one 5))
  (sSetL 2 (dVar 6) (dB gDiv (dB gIx (dVar 2) (dVar 6)) (dC (.int 1000))))) (sSeq (sAsg (dB gMod (dCall gInt (aCons (dB gAdd (dB gAdd (dB gMul (dB gIx (dVar 2) (dVar 6)) (dC (.int 48271))) (dB gMul (dVar 4) (dC (.int 69621)))) (dC (.int 11))) aNil)) (dC (.int 2147483647))) (.one 7))
  (sSeq (sAsg (dB gMod (dCall gInt (aCons (dB gAdd (dB gMul (dVar 7) (dC (.int 16807))) (dVar 6)) aNil)) (dC (.int 2147483629))) (.one 7))
  (sAsg (dB gMod (dCall gInt (aCons (dB gDiv (dVar 7) (dC (.int 7))) aNil)) (dC (.int 1000))) (.one 5)))))) sNext [some sc, some (.int 80), some (eIs rs), some (eIs D), some (eN k), some (.int 0), none, none, none] = some (.nx [some sc, some (.int 80), some (eIs rs'), some (eIs D), some (eN k), some (.int v), at_, mixed, none]) →
      one (.one 4) [4, 5, 6, 7] b__law_draws_1 (eN k) [some sc, some (.int 80), some (eIs rs), some (eIs D), none, none, none, none, none] = some (.nx [some sc, some (.int 80), some (eIs rs'), some (eIs (D ++ [v])), none, none, none, none, none]) := fun {rs' v at_ mixed} h => by
    have ap := ev_app (i := 3) (f := dVar 5) (r := [some sc, some (.int 80), some (eIs rs'), some (eIs D), some (eN k), some (.int v), at_, mixed, none]) (xs := D.map .int) (d := .int v) rfl rfl lD
    unfold one b__law_draws_1
    rw [tg, Option.bind_some, sSeq_nx s0, sSeq_nx h, ap]
    have : eIs (D ++ [v]) = .list (D.map .int ++ [.int v]) := by show PyData.list _ = _; rw [List.map_append]; rfl
    rw [this]
    rfl
  by_cases hr : rs.length = 0
  · refine ⟨rs, 0, fin (at_ := none) (mixed := none) ?_, by omega, by omega⟩
    have : rs = [] := List.eq_nil_of_length_eq_zero hr
    subst this
    rfl
  · have hp : 0 < rs.length := Nat.pos_of_ne_zero hr
    have hat : k % rs.length < rs.length := Nat.mod_lt _ hp
    obtain ⟨r, er⟩ : ∃ r, rs[k % rs.length]? = some r := ⟨_, List.getElem?_eq_getElem hat⟩
    have gl : gLen [eIs rs] = some (eN rs.length) := by show some (PyData.int ((rs.map PyData.int).length : Int)) = _; rw [List.length_map]
    have g0 : gGt (eN rs.length) (.int 0) = some (.bool true) := by
      show some (PyData.bool (decide ((0 : Int) < (rs.length : Int)))) = _
      rw [decide_eq_true (by omega)]
    have md : gMod (eN k) (eN rs.length) = some (eN (k % rs.length)) := by rw [ev_gMod (by omega), ← Int.natCast_emod]
    have gi : gIx (eIs rs) (eN (k % rs.length)) = some (.int r) := by
      show gIx (.list (rs.map .int)) (.int ((k % rs.length : Nat) : Int)) = _
      rw [ev_gIx, er]
      rfl
    have a1 : sAsg (dB gMod (dCall gInt (aCons (dVar 4) aNil)) (dCall gLen (aCons (dVar 2) aNil))) (.one 6) [some sc, some (.int 80), some (eIs rs), some (eIs D), some (eN k), some (.int 0), none, none, none] = some (.nx [some sc, some (.int 80), some (eIs rs), some (eIs D), some (eN k), some (.int 0), some (eN (k % rs.length)), none, none]) := by
      simp only [ev_sAsg, ev_dB, ev_dCall, ev_aCons, ev_aNil, ev_dVar, List.getElem?_cons_succ, List.getElem?_cons_zero, Option.getD_some, Option.bind_some, ev_gInt, gl, md, ev_toTg1, Option.map_some, List.set_cons_succ, List.set_cons_zero]
    have tt : tV (dB gGt (dCall gLen (aCons (dVar 2) aNil)) (dC (.int 0))) [some sc, some (.int 80), some (eIs rs), some (eIs D), some (eN k), some (.int 0), none, none, none] = some true := by
      simp only [ev_tV, ev_dB, ev_dCall, ev_aCons, ev_aNil, ev_dVar, ev_dC, List.getElem?_cons_succ, List.getElem?_cons_zero, Option.getD_some, Option.bind_some, gl, g0, ev_asB]
    have tg2 : tV (dB gGe (dB gIx (dVar 2) (dVar 6)) (dB gPow (dC (.int 10)) (dC (.int 18)))) [some sc, some (.int 80), some (eIs rs), some (eIs D), some (eN k), some (.int 0), some (eN (k % rs.length)), none, none] = some (decide (1000000000000000000 ≤ r)) := by
      simp only [ev_tV, ev_dB, ev_dVar, ev_dC, List.getElem?_cons_succ, List.getElem?_cons_zero, Option.getD_some, Option.bind_some, gi, pow18, ev_gGe, ev_asB]
    by_cases hb : 1000000000000000000 ≤ r
    · rw [decide_eq_true hb] at tg2
      have m1 := ev_gMod (a := r) (b := 1000) (by decide)
      have d1 := ev_gDiv (a := r) (b := 1000) (by decide) (by decide)
      refine ⟨rs.set (k % rs.length) (r / 1000), r % 1000, fin (at_ := some (eN (k % rs.length))) (mixed := none) ?_, Int.emod_nonneg _ (by decide), Int.emod_lt_of_pos _ (by decide)⟩
      rw [ev_sIf, tt, Option.bind_some, if_pos rfl, sSeq_nx a1, ev_sIf, tg2, Option.bind_some, if_pos rfl]
      have b1 : sAsg (dB gMod (dCall gInt (aCons (dB gIx (dVar 2) (dVar 6)) aNil)) (dC (.int 1000))) (.one 5) [some sc, some (.int 80), some (eIs rs), some (eIs D), some (eN k), some (.int 0), some (eN (k % rs.length)), none, none] = some (.nx [some sc, some (.int 80), some (eIs rs), some (eIs D), some (eN k), some (.int (r % 1000)), some (eN (k % rs.length)), none, none]) := by
        simp only [ev_sAsg, ev_dB, ev_dCall, ev_aCons, ev_aNil, ev_dVar, ev_dC, List.getElem?_cons_succ, List.getElem?_cons_zero, Option.getD_some, Option.bind_some, gi, ev_gInt, m1, ev_toTg1, Option.map_some, List.set_cons_succ, List.set_cons_zero]
      rw [sSeq_nx b1, ev_setL (i := 2) (n := k % rs.length) (xs := rs.map .int) (d := .int (r / 1000)) rfl rfl (by
        simp only [ev_dB, ev_dVar, ev_dC, List.getElem?_cons_succ, List.getElem?_cons_zero, Option.getD_some, Option.bind_some, gi, d1]) (by rw [List.length_map]; exact hat)]
      have : eIs (rs.set (k % rs.length) (r / 1000)) = .list ((rs.map .int).set (k % rs.length) (.int (r / 1000))) := by show PyData.list _ = _; rw [List.map_set]
      rw [this]
      rfl
    · rw [decide_eq_false hb] at tg2
      have m3 := fun a => ev_gMod (a := a) (b := 2147483647) (by decide)
      have m5 := fun a => ev_gMod (a := a) (b := 2147483629) (by decide)
      have m6 := fun a => ev_gDiv (a := a) (b := 7) (by decide) (by decide)
      have m7 := fun a => ev_gMod (a := a) (b := 1000) (by decide)
      refine ⟨rs, (((r * 48271 + (k : Int) * 69621 + 11) % 2147483647 * 16807 + ((k % rs.length : Nat) : Int)) % 2147483629 / 7) % 1000, fin (at_ := some (eN (k % rs.length))) (mixed := some (.int (((r * 48271 + (k : Int) * 69621 + 11) % 2147483647 * 16807 + ((k % rs.length : Nat) : Int)) % 2147483629))) ?_, Int.emod_nonneg _ (by decide), Int.emod_lt_of_pos _ (by decide)⟩
      rw [ev_sIf, tt, Option.bind_some, if_pos rfl, sSeq_nx a1, ev_sIf, tg2, Option.bind_some, if_neg (by decide)]
      exact draw_mix (by decide) (by decide) (by decide) (by decide) (by decide) m6 (by decide) m3 m5 m7 gi
theorem law_draws (ns : List Int) : ∃ D, g__law_draws [eIs ns, .int 80] = some (eIs D) ∧ Drw D 80 := by
  obtain ⟨s', k1, k2, k3⟩ := forL_ex (enc := eN) (t := .one 4) (js := [4, 5, 6, 7]) (body := b__law_draws_1) (fun s : List Int × List Int => [some (eIs ns), some (.int 80), some (eIs s.1), some (eIs s.2), none, none, none, none, none]) (fun rest s => s.2.length + rest.length = 80 ∧ ∀ x ∈ s.2, 0 ≤ x ∧ x < 1000) (List.range 80) (ns, []) ⟨rfl, fun x hx => absurd hx (by simp)⟩ fun s k rest hI => by
    obtain ⟨h1, h2⟩ := hI
    rw [List.length_cons] at h1
    obtain ⟨rs', v, e, v0, v1⟩ := draw_turn (sc := eIs ns) (rs := s.1) (D := s.2) (k := k) (by omega)
    refine ⟨(rs', s.2 ++ [v]), e, ?_, fun x hx => ?_⟩
    · show (s.2 ++ [v]).length + rest.length = 80
      rw [List.length_append, List.length_singleton]
      omega
    · rcases List.mem_append.mp hx with q | q
      · exact h2 x q
      · rw [List.mem_singleton.mp q]; exact ⟨v0, v1⟩
  refine ⟨s'.2, run_eq rfl ?_, ⟨by simpa using k2, k3⟩⟩
  have c1 : dComp (.one 8) [8] (itS (dVar 0)) yes (dVar 8) (Da.start 9 [eIs ns, .int 80]) = some (eIs ns) := by
    rw [dComp_run (enc := .int) (xs := ns) (fun n => some (.int n)) (by simp [Da.start]) fun n _ => by simp [cTurn, Da.start, wipe]]
    rw [fm_map]
  have a1 : sAsg (dComp (.one 8) [8] (itS (dVar 0)) yes (dVar 8)) (.one 2) (Da.start 9 [eIs ns, .int 80]) = some (.nx [some (eIs ns), some (.int 80), some (eIs ns), none, none, none, none, none, none]) := by
    rw [ev_sAsg, c1]
    rfl
  have a2 : sAsg (dLst aNil) (.one 3) [some (eIs ns), some (.int 80), some (eIs ns), none, none, none, none, none, none] = some (.nx [some (eIs ns), some (.int 80), some (eIs ns), some (eIs []), none, none, none, none, none]) := rfl
  have hr : itRng1 (dVar 1) [some (eIs ns), some (.int 80), some (eIs ns), some (eIs []), none, none, none, none, none] = some ((List.range 80).map eN) := rng1 (n := 80) rfl (by decide)
  have a3 : sFor (.one 4) [4, 5, 6, 7] (itRng1 (dVar 1)) b__law_draws_1 [some (eIs ns), some (.int 80), some (eIs ns), some (eIs []), none, none, none, none, none] = some (.nx [some (eIs ns), some (.int 80), some (eIs s'.1), some (eIs s'.2), none, none, none, none, none]) := by
    rw [ev_sFor, hr, Option.bind_some]
    exact k1
  unfold b__law_draws
  rw [sSeq_nx a1, sSeq_nx a2, sSeq_nx a3]
  rfl
end Pl
set_option linter.all false
set_option maxRecDepth 100000
/-! Ev26: the sky that the draws tell. -/
namespace Pl
open PySem Da
structure SkyOk (n : Nat) (S : Sky) : Prop where
  elen : S.ears.length ≤ n
  ear : ∀ e ∈ S.ears, 0 ≤ e.f ∧ e.f < e.l ∧ 1 ≤ e.r ∧ e.r ≤ 10
  ep : S.ears.Pairwise fun a b => a.f ≤ b.f
  len : S.looks.length ≤ 5
  look : ∀ k ∈ S.looks, (0 ≤ k.w ∧ k.w < S.worths.length) ∧ (0 ≤ k.s ∧ k.s ≤ 1000) ∧ 1 ≤ k.l ∧ (-30 ≤ k.a ∧ k.a ≤ 30) ∧ 1 ≤ k.z
  lp : S.looks.Pairwise fun a b => a.s ≤ b.s
  wlen : S.worths.length ≤ 10
  worth : ∀ x ∈ S.worths, 0 ≤ x ∧ x ≤ 9
  cap : 0 ≤ S.cap
  t0 : 1 ≤ S.turn
  t1 : S.turn ≤ 30
theorem dD {D : List Int} {n : Nat} (h : Drw D n) {w : Int} (h0 : 0 ≤ w) (h1 : w < n) : ∃ v, gIx (eIs D) (.int w) = some (.int v) ∧ 0 ≤ v ∧ v < 1000 := by
  obtain ⟨a, b, c⟩ := dI_ok (i := w.toNat) h (by omega)
  exact ⟨dI D w.toNat, gIx_dI h (i := w.toNat) (by omega) (by omega), b, c⟩
/-- a draw, reduced -/
theorem dM {D : List Int} {n : Nat} (h : Drw D n) {w m : Int} (h0 : 0 ≤ w) (h1 : w < n) (hm : 0 < m) : ∃ v u, gIx (eIs D) (.int w) = some (.int v) ∧ gMod (.int v) (.int m) = some (.int u) ∧ 0 ≤ u ∧ u < m := by
  obtain ⟨v, e, _, _⟩ := dD h h0 h1
  exact ⟨v, v % m, e, ev_gMod hm, Int.emod_nonneg _ (by omega), Int.emod_lt_of_pos _ hm⟩
theorem ear_turn {D : List Int} {W : Int} {Ws : List Int} {E : List Er} {since : Int} {k : Nat} (h : Drw D 80) (hk : k < 2) (hE : E.length ≤ 100) : ∃ a b c : Int, (0 ≤ a ∧ a < 6) ∧ (0 ≤ b ∧ b < 5) ∧ (0 ≤ c ∧ c < 3) ∧
    one (.one 6) [6, 7] b__law_sky_1 (eN k) [some (eIs D), some (.int 5), some (.int W), some (eIs Ws), some (.list (E.map eEr)), some (.int since), none, none, none, none, none] =
      some (.nx [some (eIs D), some (.int 5), some (.int W), some (eIs Ws), some (.list ((E ++ [(⟨since + a, since + a + 1 + b, 1 + c⟩ : Er)]).map eEr)), some (.int (since + a + 1 + b)), none, none, none, none, none]) := by
  have m3 : gMul (.int 3) (.int (k : Int)) = some (.int (3 * (k : Int))) := ev_gMul (.inl (by decide))
  obtain ⟨v1, a, d1, e1, a0, a1⟩ := dM h (w := 10 + 3 * (k : Int)) (m := 6) (by omega) (by omega) (by decide)
  obtain ⟨v2, b, d2, e2, b0, b1⟩ := dM h (w := 11 + 3 * (k : Int)) (m := 5) (by omega) (by omega) (by decide)
  obtain ⟨v3, c, d3, e3, c0, c1⟩ := dM h (w := 12 + 3 * (k : Int)) (m := 3) (by omega) (by omega) (by decide)
  refine ⟨a, b, c, ⟨a0, a1⟩, ⟨b0, b1⟩, ⟨c0, c1⟩, ?_⟩
  have tg : toTg (.one 6) (eN k) [some (eIs D), some (.int 5), some (.int W), some (eIs Ws), some (.list (E.map eEr)), some (.int since), none, none, none, none, none] = some [some (eIs D), some (.int 5), some (.int W), some (eIs Ws), some (.list (E.map eEr)), some (.int since), some (eN k), none, none, none, none] := rfl
  have s1 : sAsg (dB gAdd (dVar 5) (dB gMod (dCall gInt (aCons (dB gIx (dVar 0) (dB gAdd (dC (.int 10)) (dB gMul (dC (.int 3)) (dVar 6)))) aNil)) (dC (.int 6)))) (.one 7) [some (eIs D), some (.int 5), some (.int W), some (eIs Ws), some (.list (E.map eEr)), some (.int since), some (eN k), none, none, none, none] =
      some (.nx [some (eIs D), some (.int 5), some (.int W), some (eIs Ws), some (.list (E.map eEr)), some (.int since), some (eN k), some (.int (since + a)), none, none, none]) := by
    simp only [ev_sAsg, ev_dB, ev_dVar, ev_dC, ev_dCall, ev_aCons, ev_aNil, List.getElem?_cons_succ, List.getElem?_cons_zero, Option.getD_some, Option.bind_some, m3, ev_gAdd, d1, ev_gInt, e1, ev_toTg1, Option.map_some, List.set_cons_succ, List.set_cons_zero]
  have s2 : sAsg (dB gAdd (dB gAdd (dVar 7) (dC (.int 1))) (dB gMod (dCall gInt (aCons (dB gIx (dVar 0) (dB gAdd (dC (.int 11)) (dB gMul (dC (.int 3)) (dVar 6)))) aNil)) (dC (.int 5)))) (.one 5) [some (eIs D), some (.int 5), some (.int W), some (eIs Ws), some (.list (E.map eEr)), some (.int since), some (eN k), some (.int (since + a)), none, none, none] =
      some (.nx [some (eIs D), some (.int 5), some (.int W), some (eIs Ws), some (.list (E.map eEr)), some (.int (since + a + 1 + b)), some (eN k), some (.int (since + a)), none, none, none]) := by
    simp only [ev_sAsg, ev_dB, ev_dVar, ev_dC, ev_dCall, ev_aCons, ev_aNil, List.getElem?_cons_succ, List.getElem?_cons_zero, Option.getD_some, Option.bind_some, m3, ev_gAdd, d2, ev_gInt, e2, ev_toTg1, Option.map_some, List.set_cons_succ, List.set_cons_zero]
  have s3 := ev_app (i := 4) (f := dTup (aCons (dVar 7) (aCons (dVar 5) (aCons (dB gAdd (dC (.int 1)) (dB gMod (dCall gInt (aCons (dB gIx (dVar 0) (dB gAdd (dC (.int 12)) (dB gMul (dC (.int 3)) (dVar 6)))) aNil)) (dC (.int 3)))) aNil))))
    (r := [some (eIs D), some (.int 5), some (.int W), some (eIs Ws), some (.list (E.map eEr)), some (.int (since + a + 1 + b)), some (eN k), some (.int (since + a)), none, none, none]) (xs := E.map eEr) (d := eEr ⟨since + a, since + a + 1 + b, 1 + c⟩) rfl (by
      simp only [ev_dTup, ev_dB, ev_dVar, ev_dC, ev_dCall, ev_aCons, ev_aNil, List.getElem?_cons_succ, List.getElem?_cons_zero, Option.getD_some, Option.bind_some, m3, ev_gAdd, d3, ev_gInt, e3]
      rfl) (by rw [List.length_map]; unfold big; omega)
  unfold one b__law_sky_1
  rw [tg, Option.bind_some, sSeq_nx s1, sSeq_nx s2, s3, List.map_append]
  rfl
theorem look_turn {D : List Int} {W : Int} {Ws : List Int} {E L : List PyData} {Ls : List Lk} {since st : Int} {k : Nat} (h : Drw D 80) (hW : 0 < W) (hk : k < 5) (hE : Ls.length ≤ 100) : ∃ a w l an z : Int, (0 ≤ a ∧ a < 4) ∧ (0 ≤ w ∧ w < W) ∧ (0 ≤ l ∧ l < 3) ∧ (0 ≤ an ∧ an < 61) ∧ (0 ≤ z ∧ z < 4) ∧
    one (.one 6) [6, 10] b__law_sky_2 (eN k) [some (eIs D), some (.int 5), some (.int W), some (eIs Ws), some (.list E), some (.int since), none, none, some (.list (Ls.map eLk)), some (.int st), none] =
      some (.nx [some (eIs D), some (.int 5), some (.int W), some (eIs Ws), some (.list E), some (.int since), none, none, some (.list ((Ls ++ [(⟨w, st + a, 1 + l, an - 30, 1 + z⟩ : Lk)]).map eLk)), some (.int (st + a)), none]) := by
  have m3 : gMul (.int 5) (.int (k : Int)) = some (.int (5 * (k : Int))) := ev_gMul (.inl (by decide))
  obtain ⟨v1, a, d1, e1, a0, a1⟩ := dM h (w := 20 + 5 * (k : Int)) (m := 4) (by omega) (by omega) (by decide)
  obtain ⟨v2, an, d2, e2, b0, b1⟩ := dM h (w := 23 + 5 * (k : Int)) (m := 61) (by omega) (by omega) (by decide)
  obtain ⟨v3, w, d3, e3, c0, c1⟩ := dM h (w := 21 + 5 * (k : Int)) (m := W) (by omega) (by omega) hW
  obtain ⟨v4, l, d4, e4, l0, l1⟩ := dM h (w := 22 + 5 * (k : Int)) (m := 3) (by omega) (by omega) (by decide)
  obtain ⟨v5, z, d5, e5, z0, z1⟩ := dM h (w := 24 + 5 * (k : Int)) (m := 4) (by omega) (by omega) (by decide)
  refine ⟨a, w, l, an, z, ⟨a0, a1⟩, ⟨c0, c1⟩, ⟨l0, l1⟩, ⟨b0, b1⟩, ⟨z0, z1⟩, ?_⟩
  have tg : toTg (.one 6) (eN k) [some (eIs D), some (.int 5), some (.int W), some (eIs Ws), some (.list E), some (.int since), none, none, some (.list (Ls.map eLk)), some (.int st), none] = some [some (eIs D), some (.int 5), some (.int W), some (eIs Ws), some (.list E), some (.int since), some (eN k), none, some (.list (Ls.map eLk)), some (.int st), none] := rfl
  have s1 : sAsg (dB gAdd (dVar 9) (dB gMod (dCall gInt (aCons (dB gIx (dVar 0) (dB gAdd (dC (.int 20)) (dB gMul (dC (.int 5)) (dVar 6)))) aNil)) (dC (.int 4)))) (.one 9) [some (eIs D), some (.int 5), some (.int W), some (eIs Ws), some (.list E), some (.int since), some (eN k), none, some (.list (Ls.map eLk)), some (.int st), none] =
      some (.nx [some (eIs D), some (.int 5), some (.int W), some (eIs Ws), some (.list E), some (.int since), some (eN k), none, some (.list (Ls.map eLk)), some (.int (st + a)), none]) := by
    simp only [ev_sAsg, ev_dB, ev_dVar, ev_dC, ev_dCall, ev_aCons, ev_aNil, List.getElem?_cons_succ, List.getElem?_cons_zero, Option.getD_some, Option.bind_some, m3, ev_gAdd, d1, ev_gInt, e1, ev_toTg1, Option.map_some, List.set_cons_succ, List.set_cons_zero]
  have s2 : sAsg (dB gSub (dB gMod (dCall gInt (aCons (dB gIx (dVar 0) (dB gAdd (dC (.int 23)) (dB gMul (dC (.int 5)) (dVar 6)))) aNil)) (dC (.int 61))) (dC (.int 30))) (.one 10) [some (eIs D), some (.int 5), some (.int W), some (eIs Ws), some (.list E), some (.int since), some (eN k), none, some (.list (Ls.map eLk)), some (.int (st + a)), none] =
      some (.nx [some (eIs D), some (.int 5), some (.int W), some (eIs Ws), some (.list E), some (.int since), some (eN k), none, some (.list (Ls.map eLk)), some (.int (st + a)), some (.int (an - 30))]) := by
    simp only [ev_sAsg, ev_dB, ev_dVar, ev_dC, ev_dCall, ev_aCons, ev_aNil, List.getElem?_cons_succ, List.getElem?_cons_zero, Option.getD_some, Option.bind_some, m3, ev_gAdd, ev_gSub, d2, ev_gInt, e2, ev_toTg1, Option.map_some, List.set_cons_succ, List.set_cons_zero]
  have s3 := ev_app (i := 8) (f := dTup (aCons (dB gMod (dCall gInt (aCons (dB gIx (dVar 0) (dB gAdd (dC (.int 21)) (dB gMul (dC (.int 5)) (dVar 6)))) aNil)) (dVar 2)) (aCons (dVar 9) (aCons (dB gAdd (dC (.int 1)) (dB gMod (dCall gInt (aCons (dB gIx (dVar 0) (dB gAdd (dC (.int 22)) (dB gMul (dC (.int 5)) (dVar 6)))) aNil)) (dC (.int 3)))) (aCons (dVar 10) (aCons (dB gAdd (dC (.int 1)) (dB gMod (dCall gInt (aCons (dB gIx (dVar 0) (dB gAdd (dC (.int 24)) (dB gMul (dC (.int 5)) (dVar 6)))) aNil)) (dC (.int 4)))) aNil))))))
    (r := [some (eIs D), some (.int 5), some (.int W), some (eIs Ws), some (.list E), some (.int since), some (eN k), none, some (.list (Ls.map eLk)), some (.int (st + a)), some (.int (an - 30))]) (xs := Ls.map eLk) (d := eLk ⟨w, st + a, 1 + l, an - 30, 1 + z⟩) rfl (by
      simp only [ev_dTup, ev_dB, ev_dVar, ev_dC, ev_dCall, ev_aCons, ev_aNil, List.getElem?_cons_succ, List.getElem?_cons_zero, Option.getD_some, Option.bind_some, m3, ev_gAdd, d3, d4, d5, ev_gInt, e3, e4, e5]
      rfl) (by rw [List.length_map]; unfold big; omega)
  unfold one b__law_sky_2
  rw [tg, Option.bind_some, sSeq_nx s1, sSeq_nx s2, s3, List.map_append]
  rfl
theorem law_sky {D : List Int} (h : Drw D 80) : ∃ S, g__law_sky [eIs D, .int 5] = some (eSky S) ∧ SkyOk 2 S := by
  obtain ⟨v0, w0, d0, m0, w00, w01⟩ := dM h (w := 0) (m := 4) (by decide) (by decide) (by decide)
  obtain ⟨v9, n9, d9, m9, n90, n91⟩ := dM h (w := 9) (m := 3) (by decide) (by decide) (by decide)
  obtain ⟨v16, n16, d16, m16, n160, n161⟩ := dM h (w := 16) (m := 6) (by decide) (by decide) (by decide)
  obtain ⟨v7, c7, d7, m7, c70, c71⟩ := dM h (w := 7) (m := 7) (by decide) (by decide) (by decide)
  obtain ⟨v8, t8, d8, m8, t80, t81⟩ := dM h (w := 8) (m := 30) (by decide) (by decide) (by decide)
  have hN : ((1 + w0).toNat : Int) = 1 + w0 := Int.toNat_of_nonneg (by omega)
  have h9 : (n9.toNat : Int) = n9 := Int.toNat_of_nonneg n90
  have h16 : (n16.toNat : Int) = n16 := Int.toNat_of_nonneg n160
  have s1 : sAsg (dB gAdd (dC (.int 1)) (dB gMod (dCall gInt (aCons (dB gIx (dVar 0) (dC (.int 0))) aNil)) (dC (.int 4)))) (.one 2) (Da.start 11 [eIs D, .int 5]) = some (.nx [some (eIs D), some (.int 5), some (.int (1 + w0)), none, none, none, none, none, none, none, none]) := by
    show sAsg _ _ [some (eIs D), some (.int 5), none, none, none, none, none, none, none, none, none] = _
    simp only [ev_sAsg, ev_dB, ev_dVar, ev_dC, ev_dCall, ev_aCons, ev_aNil, List.getElem?_cons_succ, List.getElem?_cons_zero, Option.getD_some, Option.bind_some, ev_gAdd, d0, ev_gInt, m0, ev_toTg1, Option.map_some, List.set_cons_succ, List.set_cons_zero]
  let wv : Nat → Int := fun k => dI D (1 + k) % 10
  have cw : dComp (.one 6) [6] (itRng1 (dVar 2)) yes (dB gMod (dCall gInt (aCons (dB gIx (dVar 0) (dB gAdd (dC (.int 1)) (dVar 6))) aNil)) (dC (.int 10))) [some (eIs D), some (.int 5), some (.int (1 + w0)), none, none, none, none, none, none, none, none] = some (eIs ((List.range (1 + w0).toNat).map wv)) := by
    rw [dComp_run (enc := eN) (xs := List.range (1 + w0).toNat) (fun k => some (.int (wv k))) (rng1 (by rw [hN]; rfl) (by omega)) fun k hk => by
      have hk' := List.mem_range.mp hk
      have i0 := gIx_dI (i := 1 + k) h (by omega) (j := 1 + (k : Int)) (by omega)
      have mm := ev_gMod (a := dI D (1 + k)) (b := 10) (by decide)
      have wp : wipe [6] [some (eIs D), some (.int 5), some (.int (1 + w0)), none, none, none, none, none, none, none, none] = [some (eIs D), some (.int 5), some (.int (1 + w0)), none, none, none, none, none, none, none, none] := rfl
      rw [wp]
      show (dB gMod (dCall gInt (aCons (dB gIx (dVar 0) (dB gAdd (dC (.int 1)) (dVar 6))) aNil)) (dC (.int 10)) [some (eIs D), some (.int 5), some (.int (1 + w0)), none, none, none, some (eN k), none, none, none, none]).map some = _
      simp only [ev_dB, ev_dVar, ev_dC, ev_dCall, ev_aCons, ev_aNil, List.getElem?_cons_succ, List.getElem?_cons_zero, Option.getD_some, Option.bind_some, ev_gAdd, i0, ev_gInt, mm, Option.map_some]
      rfl]
    rw [fm_map]
    show some (PyData.list _) = some (PyData.list _)
    rw [List.map_map]
    rfl
  have s2 : sAsg (dComp (.one 6) [6] (itRng1 (dVar 2)) yes (dB gMod (dCall gInt (aCons (dB gIx (dVar 0) (dB gAdd (dC (.int 1)) (dVar 6))) aNil)) (dC (.int 10)))) (.one 3) [some (eIs D), some (.int 5), some (.int (1 + w0)), none, none, none, none, none, none, none, none] = some (.nx [some (eIs D), some (.int 5), some (.int (1 + w0)), some (eIs ((List.range (1 + w0).toNat).map wv)), none, none, none, none, none, none, none]) := by
    rw [ev_sAsg, cw]
    rfl
  generalize hWs : (List.range (1 + w0).toNat).map wv = Ws at s2
  have Wl : Ws.length = (1 + w0).toNat := by rw [← hWs, List.length_map, List.length_range]
  have Wb : ∀ x ∈ Ws, 0 ≤ x ∧ x ≤ 9 := fun x hx => by
    rw [← hWs] at hx
    obtain ⟨k, _, rfl⟩ := List.mem_map.mp hx
    have q1 := Int.emod_nonneg (dI D (1 + k)) (b := 10) (by decide)
    have q2 := Int.emod_lt_of_pos (dI D (1 + k)) (b := 10) (by decide)
    show 0 ≤ dI D (1 + k) % 10 ∧ dI D (1 + k) % 10 ≤ 9
    omega
  have s3 : sAsg (dLst aNil) (.one 4) [some (eIs D), some (.int 5), some (.int (1 + w0)), some (eIs Ws), none, none, none, none, none, none, none] = some (.nx [some (eIs D), some (.int 5), some (.int (1 + w0)), some (eIs Ws), some (.list (([] : List Er).map eEr)), none, none, none, none, none, none]) := rfl
  have s4 : sAsg (dC (.int 0)) (.one 5) [some (eIs D), some (.int 5), some (.int (1 + w0)), some (eIs Ws), some (.list (([] : List Er).map eEr)), none, none, none, none, none, none] = some (.nx [some (eIs D), some (.int 5), some (.int (1 + w0)), some (eIs Ws), some (.list (([] : List Er).map eEr)), some (.int 0), none, none, none, none, none]) := rfl
  obtain ⟨⟨E, since⟩, k1, k2, k3, k4, k5, k6⟩ := forL_ex (enc := eN) (t := .one 6) (js := [6, 7]) (body := b__law_sky_1) (fun s : List Er × Int => [some (eIs D), some (.int 5), some (.int (1 + w0)), some (eIs Ws), some (.list (s.1.map eEr)), some (.int s.2), none, none, none, none, none])
    (fun rest s => s.1.length + rest.length = n9.toNat ∧ (∀ k ∈ rest, k < 2) ∧ 0 ≤ s.2 ∧ (∀ e ∈ s.1, (0 ≤ e.f ∧ e.f < e.l ∧ 1 ≤ e.r ∧ e.r ≤ 10) ∧ e.f ≤ s.2) ∧ s.1.Pairwise fun a b => a.f ≤ b.f) (List.range n9.toNat) ([], 0)
    ⟨by simp, fun k hk => by have := List.mem_range.mp hk; omega, Int.le_refl 0, fun e he => absurd he (by simp), List.Pairwise.nil⟩ fun s k rest hI => by
    obtain ⟨E, since⟩ := s
    obtain ⟨i1, i2, i3, i4, i5⟩ := hI
    rw [List.length_cons] at i1
    obtain ⟨a, b, c, ⟨a0, a1⟩, ⟨b0, b1⟩, ⟨c0, c1⟩, e⟩ := ear_turn (W := 1 + w0) (Ws := Ws) (E := E) (since := since) (k := k) h (i2 k (List.mem_cons_self ..)) (by simp only at i1; omega)
    refine ⟨(E ++ [⟨since + a, since + a + 1 + b, 1 + c⟩], since + a + 1 + b), e, ?_, fun j hj => i2 j (List.mem_cons_of_mem _ hj), ?_, fun x hx => ?_, ?_⟩
    · show (E ++ [_]).length + rest.length = _
      rw [List.length_append, List.length_singleton]
      simp only at i1
      omega
    · simp only at i3 ⊢; omega
    · simp only at i3 i4 hx ⊢
      rcases List.mem_append.mp hx with q | q
      · have := i4 x q; omega
      · rw [List.mem_singleton.mp q]; simp only; omega
    · simp only at i3 i4 i5 ⊢
      refine List.pairwise_append.mpr ⟨i5, List.pairwise_singleton .., fun x hx y hy => ?_⟩
      rw [List.mem_singleton.mp hy]
      have := (i4 x hx).2
      simp only
      omega
  simp only at k1 k2 k3 k4 k5 k6
  have s5 : sFor (.one 6) [6, 7] (itRng1 (dB gMod (dCall gInt (aCons (dB gIx (dVar 0) (dC (.int 9))) aNil)) (dC (.int 3)))) b__law_sky_1 [some (eIs D), some (.int 5), some (.int (1 + w0)), some (eIs Ws), some (.list (([] : List Er).map eEr)), some (.int 0), none, none, none, none, none] = some (.nx [some (eIs D), some (.int 5), some (.int (1 + w0)), some (eIs Ws), some (.list (E.map eEr)), some (.int since), none, none, none, none, none]) := by
    rw [ev_sFor, rng1 (n := n9.toNat) (by
      simp only [ev_dB, ev_dVar, ev_dC, ev_dCall, ev_aCons, ev_aNil, List.getElem?_cons_succ, List.getElem?_cons_zero, Option.getD_some, Option.bind_some, d9, ev_gInt, m9, h9]) (by omega), Option.bind_some]
    exact k1
  have s6 : sAsg (dLst aNil) (.one 8) [some (eIs D), some (.int 5), some (.int (1 + w0)), some (eIs Ws), some (.list (E.map eEr)), some (.int since), none, none, none, none, none] = some (.nx [some (eIs D), some (.int 5), some (.int (1 + w0)), some (eIs Ws), some (.list (E.map eEr)), some (.int since), none, none, some (.list (([] : List Lk).map eLk)), none, none]) := rfl
  have s7 : sAsg (dC (.int 0)) (.one 9) [some (eIs D), some (.int 5), some (.int (1 + w0)), some (eIs Ws), some (.list (E.map eEr)), some (.int since), none, none, some (.list (([] : List Lk).map eLk)), none, none] = some (.nx [some (eIs D), some (.int 5), some (.int (1 + w0)), some (eIs Ws), some (.list (E.map eEr)), some (.int since), none, none, some (.list (([] : List Lk).map eLk)), some (.int 0), none]) := rfl
  obtain ⟨⟨L, st⟩, j1, j2, j3, j4, j5, j6⟩ := forL_ex (enc := eN) (t := .one 6) (js := [6, 10]) (body := b__law_sky_2) (fun s : List Lk × Int => [some (eIs D), some (.int 5), some (.int (1 + w0)), some (eIs Ws), some (.list (E.map eEr)), some (.int since), none, none, some (.list (s.1.map eLk)), some (.int s.2), none])
    (fun rest s => s.1.length + rest.length = n16.toNat ∧ (∀ k ∈ rest, k < 5) ∧ (0 ≤ s.2 ∧ s.2 ≤ 4 * (s.1.length : Int)) ∧ (∀ k ∈ s.1, (0 ≤ k.w ∧ k.w < (Ws.length : Int)) ∧ (0 ≤ k.s ∧ k.s ≤ s.2) ∧ 1 ≤ k.l ∧ (-30 ≤ k.a ∧ k.a ≤ 30) ∧ 1 ≤ k.z) ∧ s.1.Pairwise fun a b => a.s ≤ b.s) (List.range n16.toNat) ([], 0)
    ⟨by simp, fun k hk => by have := List.mem_range.mp hk; omega, ⟨Int.le_refl 0, by simp⟩, fun e he => absurd he (by simp), List.Pairwise.nil⟩ fun s k rest hI => by
    obtain ⟨L, st⟩ := s
    obtain ⟨i1, i2, i3, i4, i5⟩ := hI
    rw [List.length_cons] at i1
    obtain ⟨a, w, l, an, z, ⟨a0, a1⟩, ⟨b0, b1⟩, ⟨c0, c1⟩, ⟨p0, p1⟩, ⟨q0, q1⟩, e⟩ := look_turn (W := 1 + w0) (Ws := Ws) (E := E.map eEr) (L := []) (Ls := L) (since := since) (st := st) (k := k) h (by omega) (i2 k (List.mem_cons_self ..)) (by simp only at i1; omega)
    refine ⟨(L ++ [⟨w, st + a, 1 + l, an - 30, 1 + z⟩], st + a), e, ?_, fun j hj => i2 j (List.mem_cons_of_mem _ hj), ?_, fun x hx => ?_, ?_⟩
    · show (L ++ [_]).length + rest.length = _
      rw [List.length_append, List.length_singleton]
      simp only at i1
      omega
    · simp only [List.length_append, List.length_singleton] at i3 ⊢; omega
    · simp only at i3 i4 hx ⊢
      rcases List.mem_append.mp hx with q | q
      · have := i4 x q; omega
      · rw [List.mem_singleton.mp q]; simp only; omega
    · simp only at i3 i4 i5 ⊢
      refine List.pairwise_append.mpr ⟨i5, List.pairwise_singleton .., fun x hx y hy => ?_⟩
      rw [List.mem_singleton.mp hy]
      have := (i4 x hx).2.1.2
      simp only
      omega
  simp only at j1 j2 j3 j4 j5 j6
  have s8 : sFor (.one 6) [6, 10] (itRng1 (dB gMod (dCall gInt (aCons (dB gIx (dVar 0) (dC (.int 16))) aNil)) (dB gAdd (dVar 1) (dC (.int 1))))) b__law_sky_2 [some (eIs D), some (.int 5), some (.int (1 + w0)), some (eIs Ws), some (.list (E.map eEr)), some (.int since), none, none, some (.list (([] : List Lk).map eLk)), some (.int 0), none] = some (.nx [some (eIs D), some (.int 5), some (.int (1 + w0)), some (eIs Ws), some (.list (E.map eEr)), some (.int since), none, none, some (.list (L.map eLk)), some (.int st), none]) := by
    have m16' : gMod (.int v16) (.int (5 + 1)) = some (.int n16) := m16
    rw [ev_sFor, rng1 (n := n16.toNat) (by
      simp only [ev_dB, ev_dVar, ev_dC, ev_dCall, ev_aCons, ev_aNil, List.getElem?_cons_succ, List.getElem?_cons_zero, Option.getD_some, Option.bind_some, d16, ev_gInt, ev_gAdd, m16', h16]) (by omega), Option.bind_some]
    exact j1
  have s9 : sRet (dTup (aCons (dVar 8) (aCons (dVar 3) (aCons (dVar 4) (aCons (dB gAdd (dC (.int 2)) (dB gMod (dCall gInt (aCons (dB gIx (dVar 0) (dC (.int 7))) aNil)) (dC (.int 7)))) (aCons (dB gAdd (dC (.int 1)) (dB gMod (dCall gInt (aCons (dB gIx (dVar 0) (dC (.int 8))) aNil)) (dC (.int 30)))) aNil)))))) [some (eIs D), some (.int 5), some (.int (1 + w0)), some (eIs Ws), some (.list (E.map eEr)), some (.int since), none, none, some (.list (L.map eLk)), some (.int st), none] = some (.rt (eSky ⟨L, Ws, E, 2 + c7, 1 + t8⟩)) := by
    simp only [ev_sRet, ev_dTup, ev_dB, ev_dVar, ev_dC, ev_dCall, ev_aCons, ev_aNil, List.getElem?_cons_succ, List.getElem?_cons_zero, Option.getD_some, Option.bind_some, ev_gAdd, d7, m7, d8, m8, ev_gInt, Option.map_some]
    rfl
  refine ⟨⟨L, Ws, E, 2 + c7, 1 + t8⟩, run_eq rfl ?_, ⟨?_, fun e he => (k5 e he).1, k6, ?_, fun k hk => ?_, j6, ?_, Wb, ?_, ?_, ?_⟩⟩
  · unfold b__law_sky
    rw [sSeq_nx s1, sSeq_nx s2, sSeq_nx s3, sSeq_nx s4, sSeq_nx s5, sSeq_nx s6, sSeq_nx s7, sSeq_nx s8]
    unfold sFrz
    rw [s9]
    rfl
  · show E.length ≤ 2
    simp only [List.length_nil] at k2; omega
  · show L.length ≤ 5
    simp only [List.length_nil] at j2; omega
  · have q := j5 k hk
    simp only [List.length_nil] at j2
    show (0 ≤ k.w ∧ k.w < (Ws.length : Int)) ∧ (0 ≤ k.s ∧ k.s ≤ 1000) ∧ _
    refine ⟨q.1, ⟨q.2.1.1, ?_⟩, q.2.2⟩
    have := q.2.1.2
    omega
  · show Ws.length ≤ 10
    omega
  · show 0 ≤ 2 + c7
    omega
  · show 1 ≤ 1 + t8
    omega
  · show 1 + t8 ≤ 30
    omega
end Pl
set_option linter.all false
set_option maxRecDepth 100000
/-! Ev27: more ears; slices. -/
namespace Pl
open PySem Da
theorem mx_le {xs : List Int} (h : xs ≠ []) : (∀ x ∈ xs, x ≤ mx xs) ∧ mx xs ∈ xs := by
  cases xs with
  | nil => exact absurd rfl h
  | cons a r =>
    have gen : ∀ (r : List Int) (a : Int), (∀ x ∈ a :: r, x ≤ maxL a r) ∧ maxL a r ∈ a :: r := by
      intro r
      induction r with
      | nil => intro a; exact ⟨fun x hx => by rw [List.mem_singleton.mp hx]; exact Int.le_refl _, List.mem_singleton.mpr rfl⟩
      | cons b r ih =>
        intro a
        obtain ⟨p, q⟩ := ih (if b > a then b else a)
        have e : maxL a (b :: r) = maxL (if b > a then b else a) r := rfl
        rw [e]
        refine ⟨fun x hx => ?_, ?_⟩
        · have q1 := p (if b > a then b else a) (List.mem_cons_self ..)
          rcases List.mem_cons.mp hx with rfl | hx
          · split at q1 <;> split <;> omega
          · rcases List.mem_cons.mp hx with rfl | hx
            · split at q1 <;> split <;> omega
            · exact p x (List.mem_cons_of_mem _ hx)
        · rcases List.mem_cons.mp q with q | q
          · rw [q]
            split
            · exact List.mem_cons_of_mem _ (List.mem_cons_self ..)
            · exact List.mem_cons_self ..
          · exact List.mem_cons_of_mem _ (List.mem_cons_of_mem _ q)
    exact gen r a
theorem drw_sl {D : List Int} {n a b : Nat} (h : Drw D n) (hb : a ≤ b) (hn : b ≤ n) : gSl a (some b) (eIs D) = some (eIs ((D.take b).drop a)) ∧ Drw ((D.take b).drop a) (b - a) := by
  refine ⟨?_, ⟨?_, fun x hx => h.b x (List.mem_of_mem_take (List.mem_of_mem_drop hx))⟩⟩
  · show some (PyData.list (((D.map PyData.int).take b).drop a)) = _
    rw [← List.map_take, ← List.map_drop]
  · rw [List.length_drop, List.length_take, h.len]
    omega
theorem law_more_ears {S : Sky} {D : List Int} (o : SkyOk 2 S) (h : Drw D 4) : ∃ T, g__law_more_ears [eSky S, eIs D] = some (eSky T) ∧ SkyOk 3 T := by
  obtain ⟨v0, n0, d0, m0, n00, n01⟩ := dM h (w := 0) (m := 2) (by decide) (by decide) (by decide)
  obtain ⟨v1, n1, d1, m1, n10, n11⟩ := dM h (w := 1) (m := 5) (by decide) (by decide) (by decide)
  obtain ⟨v2, n2, d2, m2, n20, n21⟩ := dM h (w := 2) (m := 4) (by decide) (by decide) (by decide)
  obtain ⟨v3, n3, d3, m3, n30, n31⟩ := dM h (w := 3) (m := 4) (by decide) (by decide) (by decide)
  have t0 : tV (dB gEq (dB gMod (dCall gInt (aCons (dB gIx (dVar 1) (dC (.int 0))) aNil)) (dC (.int 2))) (dC (.int 0))) [some (eSky S), some (eIs D), none, none] = some (decide (n0 = 0)) := by
    simp only [ev_tV, ev_dB, ev_dVar, ev_dC, ev_dCall, ev_aCons, ev_aNil, List.getElem?_cons_succ, List.getElem?_cons_zero, Option.getD_some, Option.bind_some, d0, ev_gInt, m0, eq_int, ev_asB]
  by_cases c : n0 = 0
  · refine ⟨S, run_eq rfl ?_, { o with elen := Nat.le_succ_of_le o.elen }⟩
    show b__law_more_ears [some (eSky S), some (eIs D), none, none] = _
    unfold b__law_more_ears
    refine sSeq_rt ?_
    rw [ev_sIf, t0, Option.bind_some, decide_eq_true c, if_pos rfl]
    rfl
  · let ls : List Int := 0 :: S.ears.map (·.l)
    have hm := mx_le (xs := ls) (by simp [ls])
    have h0 : 0 ≤ mx ls := hm.1 0 (List.mem_cons_self ..)
    have hl : ∀ e ∈ S.ears, e.l ≤ mx ls := fun e he => hm.1 _ (List.mem_cons_of_mem _ (List.mem_map_of_mem he))
    have cl : dComp (.one 3) [3] (itS (dB gIx (dVar 0) (dC (.int 2)))) yes (dB gIx (dVar 3) (dC (.int 1))) [some (eSky S), some (eIs D), none, none] = some (.list ((S.ears.map (·.l)).map .int)) := by
      rw [dComp_run (enc := eEr) (xs := S.ears) (fun e => some (.int e.l)) (by
        simp only [ev_itS, ev_dB, ev_dVar, ev_dC, List.getElem?_cons_succ, List.getElem?_cons_zero, Option.getD_some, Option.bind_some, sk2, ev_seqL]) fun e he => by
        show (dB gIx (dVar 3) (dC (.int 1)) [some (eSky S), some (eIs D), none, some (eEr e)]).map some = _
        simp only [ev_dB, ev_dVar, ev_dC, List.getElem?_cons_succ, List.getElem?_cons_zero, Option.getD_some, Option.bind_some, eEr, ev_gIx1, Option.map_some]]
      rw [fm_map, List.map_map]
      rfl
    have gc : gCatL (.list [.int 0]) (.list ((S.ears.map (·.l)).map .int)) = some (.list (ls.map .int)) := by
      show (if [PyData.int 0].length + ((S.ears.map (·.l)).map PyData.int).length ≤ big then some (PyData.list ([PyData.int 0] ++ (S.ears.map (·.l)).map .int)) else none) = _
      rw [if_pos (by rw [List.length_map, List.length_map, List.length_singleton]; have := o.elen; unfold big; omega)]
      rfl
    have gm : gMax [.list (ls.map .int)] = some (.int (mx ls)) := ev_gMax (by simp [ls])
    have s2 : sAsg (dB gAdd (dCall gMax (aCons (dB gCatL (dLst (aCons (dC (.int 0)) aNil)) (dComp (.one 3) [3] (itS (dB gIx (dVar 0) (dC (.int 2)))) yes (dB gIx (dVar 3) (dC (.int 1))))) aNil)) (dB gMod (dCall gInt (aCons (dB gIx (dVar 1) (dC (.int 1))) aNil)) (dC (.int 5)))) (.one 2) [some (eSky S), some (eIs D), none, none] = some (.nx [some (eSky S), some (eIs D), some (.int (mx ls + n1)), none]) := by
      simp only [ev_sAsg, ev_dB, ev_dVar, ev_dC, ev_dCall, ev_dLst, ev_aCons, ev_aNil, cl, gc, gm, List.getElem?_cons_succ, List.getElem?_cons_zero, Option.getD_some, Option.bind_some, ev_gAdd, d1, ev_gInt, m1, ev_toTg1, Option.map_some, List.set_cons_succ, List.set_cons_zero]
    have gc2 : gCatL (.list (S.ears.map eEr)) (.list [eEr ⟨mx ls + n1, mx ls + n1 + 1 + n2, 1 + n3⟩]) = some (.list ((S.ears ++ [(⟨mx ls + n1, mx ls + n1 + 1 + n2, 1 + n3⟩ : Er)]).map eEr)) := by
      show (if (S.ears.map eEr).length + [eEr ⟨mx ls + n1, mx ls + n1 + 1 + n2, 1 + n3⟩].length ≤ big then some (PyData.list (S.ears.map eEr ++ [eEr ⟨mx ls + n1, mx ls + n1 + 1 + n2, 1 + n3⟩])) else none) = _
      rw [if_pos (by rw [List.length_map, List.length_singleton]; have := o.elen; unfold big; omega), List.map_append]
      rfl
    have gc2' : gCatL (.list (S.ears.map eEr)) (.list [.tuple [.int (mx ls + n1), .int (mx ls + n1 + 1 + n2), .int (1 + n3)]]) = some (.list ((S.ears ++ [(⟨mx ls + n1, mx ls + n1 + 1 + n2, 1 + n3⟩ : Er)]).map eEr)) := gc2
    refine ⟨{ S with ears := S.ears ++ [(⟨mx ls + n1, mx ls + n1 + 1 + n2, 1 + n3⟩ : Er)] }, run_eq rfl ?_, { o with elen := ?_, ear := fun e he => ?_, ep := ?_ }⟩
    · show b__law_more_ears [some (eSky S), some (eIs D), none, none] = _
      unfold b__law_more_ears
      have s1 : sIf (tV (dB gEq (dB gMod (dCall gInt (aCons (dB gIx (dVar 1) (dC (.int 0))) aNil)) (dC (.int 2))) (dC (.int 0)))) (sRet (dVar 0)) sNext [some (eSky S), some (eIs D), none, none] = some (.nx [some (eSky S), some (eIs D), none, none]) := by
        rw [ev_sIf, t0, Option.bind_some, decide_eq_false c, if_neg (by decide)]
        rfl
      rw [sSeq_nx s1, sSeq_nx s2]
      simp only [ev_sRet, ev_dTup, ev_dB, ev_dVar, ev_dC, ev_dCall, ev_dLst, ev_aCons, ev_aNil, List.getElem?_cons_succ, List.getElem?_cons_zero, Option.getD_some, Option.bind_some, sk0, sk1, sk2, sk3, sk4, ev_gAdd, d2, m2, d3, m3, ev_gInt, gc2', Option.map_some]
      rfl
    · show (S.ears ++ [_]).length ≤ 3
      rw [List.length_append, List.length_singleton]
      have := o.elen
      omega
    · rcases List.mem_append.mp he with q | q
      · exact o.ear e q
      · rw [List.mem_singleton.mp q]; simp only; omega
    · show (S.ears ++ [_]).Pairwise _
      refine List.pairwise_append.mpr ⟨o.ep, List.pairwise_singleton .., fun x hx y hy => ?_⟩
      rw [List.mem_singleton.mp hy]
      have := hl x hx
      have := (o.ear x hx).2.1
      simp only
      omega
end Pl
set_option linter.all false
set_option maxRecDepth 100000
/-! Ev28: the plain arithmetic of stores. -/
namespace Pl
open PySem Da
theorem lk_mem {S : Sky} {i : Nat} (h : InS S i) : lk S i ∈ S.looks := List.mem_of_getElem? (lk_get h)
theorem SkyOk.toS {n : Nat} {S : Sky} (o : SkyOk n S) (hn : n ≤ 3) : OkS S where
  ears := fun e he => by have := o.ear e he; omega
  t0 := by have := o.t0; omega
  t1 := by have := o.t1; omega
  len := o.len
  elen := Nat.le_trans o.elen hn
theorem SkyOk.toW {n : Nat} {S : Sky} (o : SkyOk n S) : OkW S := fun k hk => (o.look k hk).1
theorem SkyOk.toA {n : Nat} {S : Sky} (o : SkyOk n S) : OkA S := fun k hk => (o.look k hk).2.2.2.1
theorem SkyOk.toB {n : Nat} {S : Sky} (o : SkyOk n S) : OkB S where
  st := fun i hi => by have := (o.look _ (lk_mem hi)).2.1; omega
theorem SkyOk.toM {n : Nat} {S : Sky} (o : SkyOk n S) : OkM S where
  st := fun i j hij hj => by
    have hi : InS S i := Nat.lt_of_le_of_lt hij hj
    rcases Nat.lt_or_eq_of_le hij with h | h
    · have := List.pairwise_iff_getElem.mp o.lp i j hi hj h
      have e1 : lk S i = S.looks[i] := by have := lk_get hi; rw [List.getElem?_eq_getElem hi] at this; exact (Option.some.inj this).symm
      have e2 : lk S j = S.looks[j] := by have := lk_get hj; rw [List.getElem?_eq_getElem hj] at this; exact (Option.some.inj this).symm
      rw [e1, e2]
      exact this
    · subst h; exact Int.le_refl _
  s0 := fun i hi => (o.look _ (lk_mem hi)).2.1.1
  ef := fun i j e e' hij h1 h2 => by
    obtain ⟨a1, a2⟩ := List.getElem?_eq_some_iff.mp h1
    obtain ⟨b1, b2⟩ := List.getElem?_eq_some_iff.mp h2
    rcases Nat.lt_or_eq_of_le hij with h | h
    · have := List.pairwise_iff_getElem.mp o.ep i j a1 b1 h
      rw [← a2, ← b2]
      exact this
    · subst h; rw [h1] at h2; cases h2; exact Int.le_refl _
  l1 := fun i hi => (o.look _ (lk_mem hi)).2.2.1
  z0 := fun i hi => by have := (o.look _ (lk_mem hi)).2.2.2.2; omega
/-! ### what is lost -/
def trm (e : Er) (s u : Int) : Int := e.r * max 0 (min u e.l - max s e.f)
theorem lossT_eq (E : List Er) (s u : Int) : lossT E s u = (E.map fun e => trm e s u).sum := rfl
theorem trm0 {e : Er} {s u : Int} (h : 0 ≤ e.r) : 0 ≤ trm e s u := Int.mul_nonneg h (by omega)
theorem trm_add {e : Er} {s t u : Int} (h1 : s ≤ t) (h2 : t ≤ u) : trm e s u = trm e s t + trm e t u := by
  unfold trm
  rw [← Int.mul_add]
  congr 1
  omega
theorem trm_far {e : Er} {s u : Int} (h : u ≤ e.f) : trm e s u = 0 := by
  unfold trm
  rw [show max 0 (min u e.l - max s e.f) = 0 by omega, Int.mul_zero]
theorem trm_nil {e : Er} {s u : Int} (h : u ≤ s) : trm e s u = 0 := by
  unfold trm
  rw [show max 0 (min u e.l - max s e.f) = 0 by omega, Int.mul_zero]
theorem sum_nonneg : ∀ (xs : List Int), (∀ x ∈ xs, 0 ≤ x) → 0 ≤ xs.sum
  | [], _ => Int.le_refl 0
  | x :: xs, h => by
    have := sum_nonneg xs fun y hy => h y (List.mem_cons_of_mem _ hy)
    have := h x (List.mem_cons_self ..)
    rw [List.sum_cons]
    omega
theorem sum_add {α : Type} (f g : α → Int) : ∀ (xs : List α), (xs.map fun a => f a + g a).sum = (xs.map f).sum + (xs.map g).sum
  | [] => rfl
  | x :: xs => by
    rw [List.map_cons, List.map_cons, List.map_cons, List.sum_cons, List.sum_cons, List.sum_cons, sum_add f g xs]
    omega
theorem sum_le {α : Type} {f g : α → Int} : ∀ (xs : List α), (∀ a ∈ xs, f a ≤ g a) → (xs.map f).sum ≤ (xs.map g).sum
  | [], _ => Int.le_refl _
  | x :: xs, h => by
    have := sum_le xs fun y hy => h y (List.mem_cons_of_mem _ hy)
    have := h x (List.mem_cons_self ..)
    rw [List.map_cons, List.map_cons, List.sum_cons, List.sum_cons]
    omega
theorem sum_eq {α : Type} {f g : α → Int} (xs : List α) (h : ∀ a ∈ xs, f a = g a) : (xs.map f).sum = (xs.map g).sum := by
  rw [List.map_congr_left h]
theorem loss0 {E : List Er} (h : OkE E) {s u : Int} : 0 ≤ lossT E s u := sum_nonneg _ fun x hx => by
  obtain ⟨e, he, rfl⟩ := List.mem_map.mp hx
  exact trm0 (h e he).1
theorem loss_add {E : List Er} {s t u : Int} (h1 : s ≤ t) (h2 : t ≤ u) : lossT E s u = lossT E s t + lossT E t u := by
  rw [lossT_eq, lossT_eq, lossT_eq, ← sum_add]
  exact sum_eq _ fun e _ => trm_add h1 h2
theorem loss_nil {E : List Er} {s u : Int} (h : u ≤ s) : lossT E s u = 0 := by
  rw [lossT_eq, sum_eq (g := fun _ => 0) _ fun e _ => trm_nil h]
  induction E with
  | nil => rfl
  | cons e E ih => rw [List.map_cons, List.sum_cons, ih]; rfl
theorem em_comp {E : List Er} (h : OkE E) {a s t u : Int} (h1 : s ≤ t) (h2 : t ≤ u) : emT E (emT E a s t) t u = emT E a s u := by
  have := loss_add (E := E) h1 h2
  have a1 := loss0 h (s := s) (u := t)
  have a2 := loss0 h (s := t) (u := u)
  unfold emT
  omega
theorem em_nil {E : List Er} {a s u : Int} (h : u ≤ s) (ha : 0 ≤ a) : emT E a s u = a := by
  unfold emT
  rw [loss_nil h]
  omega
theorem em0 {E : List Er} {a s u : Int} : 0 ≤ emT E a s u := by unfold emT; omega
theorem em_mono {E E' : List Er} {a b s u : Int} (h : a ≤ b) (hl : lossT E' s u ≤ lossT E s u) : emT E a s u ≤ emT E' b s u := by unfold emT; omega
/-! ### ears left out -/
def trI (E : List Er) (s u : Int) (i : Nat) : Int := (E[i]?.map fun e => trm e s u).getD 0
theorem loss_out {E : List Er} {fs : List Nat} {s u : Int} : lossT (outE E fs) s u = ((List.range E.length).map fun i => if i ∈ fs then 0 else trI E s u i).sum := by
  rw [lossT_eq]
  unfold outE
  have gen : ∀ L : List Nat, (∀ i ∈ L, i < E.length) → ((L.filterMap fun i => if i ∈ fs then none else E[i]?).map fun e => trm e s u).sum = (L.map fun i => if i ∈ fs then 0 else trI E s u i).sum := by
    intro L
    induction L with
    | nil => intro _; rfl
    | cons i L ih =>
      intro h
      have ih := ih fun j hj => h j (List.mem_cons_of_mem _ hj)
      have hi := h i (List.mem_cons_self ..)
      rw [List.map_cons, List.sum_cons, ← ih]
      by_cases c : i ∈ fs
      · rw [List.filterMap_cons_none (by rw [if_pos c]), if_pos c]; omega
      · rw [List.filterMap_cons_some (b := E[i]) (by rw [if_neg c, List.getElem?_eq_getElem hi]), if_neg c, List.map_cons, List.sum_cons]
        unfold trI
        rw [List.getElem?_eq_getElem hi]
        rfl
  exact gen _ fun i hi => List.mem_range.mp hi
theorem trI0 {E : List Er} (h : OkE E) {s u : Int} {i : Nat} : 0 ≤ trI E s u i := by
  unfold trI
  cases e : E[i]? with
  | none => exact Int.le_refl _
  | some a => exact trm0 (h a (List.mem_of_getElem? e)).1
/-- more ears out, less lost -/
theorem loss_sub {E : List Er} (h : OkE E) {f g : List Nat} (hs : ∀ i ∈ f, i ∈ g) {s u : Int} : lossT (outE E g) s u ≤ lossT (outE E f) s u := by
  rw [loss_out, loss_out]
  refine sum_le _ fun i _ => ?_
  have := trI0 h (s := s) (u := u) (i := i)
  by_cases c : i ∈ f
  · rw [if_pos (hs i c), if_pos c]; exact Int.le_refl _
  · rw [if_neg c]
    split <;> omega
/-- ears that start later are no matter -/
theorem loss_agree {E : List Er} {f g : List Nat} {s u : Int} (hs : ∀ i e, E[i]? = some e → e.f < u → (i ∈ f ↔ i ∈ g)) : lossT (outE E f) s u = lossT (outE E g) s u := by
  rw [loss_out, loss_out]
  refine sum_eq _ fun i hi => ?_
  have hi' := List.mem_range.mp hi
  have hg : E[i]? = some E[i] := List.getElem?_eq_getElem hi'
  by_cases c : E[i].f < u
  · have := hs i _ hg c
    by_cases d : i ∈ f
    · rw [if_pos d, if_pos (this.mp d)]
    · rw [if_neg d, if_neg fun q => d (this.mpr q)]
  · have z : trI E s u i = 0 := by
      unfold trI
      rw [hg]
      exact trm_far (by omega)
    rw [z]
    split <;> split <;> rfl
theorem em_agree {E : List Er} {f g : List Nat} {a s u : Int} (hs : ∀ i e, E[i]? = some e → e.f < u → (i ∈ f ↔ i ∈ g)) : emT (outE E f) a s u = emT (outE E g) a s u := by
  unfold emT
  rw [loss_agree hs]
theorem out_nil {E : List Er} : outE E [] = E := by
  unfold outE
  refine List.ext_getElem? fun i => ?_
  have : (fun i => if i ∈ ([] : List Nat) then none else E[i]?) = fun i => E[i]? := by funext i; simp
  rw [this]
  clear this
  have gen : ∀ (A B : List Er), (List.range' A.length B.length).filterMap (fun i => (A ++ B)[i]?) = B := by
    intro A B
    induction B generalizing A with
    | nil => rfl
    | cons b B ih =>
      have := ih (A ++ [b])
      rw [List.length_cons, List.range'_succ, List.filterMap_cons_some (b := b) (by simp)]
      congr 1
      simpa using this
  have := gen [] E
  rw [List.length_nil, ← List.range_eq_range', List.nil_append] at this
  rw [this]
theorem wo_nil {S : Sky} : woE S [] = S := by
  unfold woE
  rw [out_nil]
end Pl
set_option linter.all false
set_option maxRecDepth 100000
/-! Ev29: the law's store ticks as the program's empties; plans are the law's plans. -/
namespace Pl
open PySem Da
theorem snoc_ind {α : Type} {P : List α → Prop} (h0 : P []) (hs : ∀ xs i, P xs → P (xs ++ [i])) (xs : List α) : P xs := by
  have gen : ∀ ys : List α, P ys.reverse := by
    intro ys
    induction ys with
    | nil => exact h0
    | cons y ys ih => rw [List.reverse_cons]; exact hs _ _ ih
  have := gen xs.reverse
  rwa [List.reverse_reverse] at this
theorem tkE_em {E : List Er} (h : OkE E) (now : Int) : ∀ {s : Int}, 0 ≤ s → tkE E s now = emT E s (now - 1) now := by
  induction E with
  | nil => intro s hs; show s = max 0 (s - 0); omega
  | cons e E ih =>
    intro s hs
    have he := h e (List.mem_cons_self ..)
    have ih := fun {s : Int} => ih (fun a ha => h a (List.mem_cons_of_mem _ ha)) (s := s)
    have l0 := loss0 (E := E) (fun a ha => h a (List.mem_cons_of_mem _ ha)) (s := now - 1) (u := now)
    have e1 : tkE (e :: E) s now = tkE E (if e.f ≤ now - 1 ∧ now - 1 < e.l then max 0 (s - e.r) else s) now := rfl
    have e2 : lossT (e :: E) (now - 1) now = trm e (now - 1) now + lossT E (now - 1) now := by rw [lossT_eq, List.map_cons, List.sum_cons]; rfl
    have e3 : trm e (now - 1) now = if e.f ≤ now - 1 ∧ now - 1 < e.l then e.r else 0 := by
      unfold trm
      split
      · rw [show max 0 (min now e.l - max (now - 1) e.f) = 1 by omega, Int.mul_one]
      · rw [show max 0 (min now e.l - max (now - 1) e.f) = 0 by omega, Int.mul_zero]
    rw [e1, ih (by split <;> omega)]
    unfold emT
    rw [e2, e3]
    split <;> omega
theorem tkL_sum {S : Sky} {now : Int} : ∀ (xs : List Nat) (s : Int), tkL S xs s now = s + (xs.map fun i => if (lk S i).e = now then (lk S i).z else 0).sum
  | [], s => by show s = s + 0; omega
  | x :: xs, s => by
    have e1 : tkL S (x :: xs) s now = tkL S xs (if (lk S x).e = now then s + (lk S x).z else s) now := rfl
    rw [e1, tkL_sum xs, List.map_cons, List.sum_cons]
    split <;> omega
theorem tkL_none {S : Sky} {now : Int} {xs : List Nat} {s : Int} (h : ∀ i ∈ xs, (lk S i).e ≠ now) : tkL S xs s now = s := by
  rw [tkL_sum]
  have : (xs.map fun i => if (lk S i).e = now then (lk S i).z else 0).sum = (xs.map fun _ => (0 : Int)).sum := sum_eq _ fun i hi => if_neg (h i hi)
  rw [this]
  have z : ∀ L : List Nat, (L.map fun _ => (0 : Int)).sum = 0 := fun L => by
    induction L with
    | nil => rfl
    | cons a L ih => rw [List.map_cons, List.sum_cons, ih]; rfl
  rw [z]
  omega
theorem storeL_succ {S : Sky} {xs : List Nat} {n : Nat} : storeL S xs (n + 1) = tick S xs (storeL S xs n) n := by
  unfold storeL
  rw [List.range_succ, List.foldl_append]
  rfl
theorem storeL0 {S : Sky} {xs : List Nat} (o : OkS S) (m : OkM S) (hx : ∀ i ∈ xs, InS S i) : ∀ n, 0 ≤ storeL S xs n
  | 0 => Int.le_refl 0
  | n + 1 => by
    have ih := storeL0 o m hx n
    rw [storeL_succ]
    show 0 ≤ tkL S xs (tkE S.ears (storeL S xs n) (n : Int)) (n : Int)
    rw [tkL_sum, tkE_em o.ears _ ih]
    have a := em0 (E := S.ears) (a := storeL S xs n) (s := (n : Int) - 1) (u := (n : Int))
    have b : 0 ≤ (xs.map fun i => if (lk S i).e = (n : Int) then (lk S i).z else 0).sum := sum_nonneg _ fun x hx' => by
      obtain ⟨i, hi, rfl⟩ := List.mem_map.mp hx'
      have := m.z0 i (hx i hi)
      split <;> omega
    omega
/-- nothing ends: the store empties -/
theorem storeL_quiet {S : Sky} {xs : List Nat} (o : OkS S) (m : OkM S) (hx : ∀ i ∈ xs, InS S i) {a : Nat} : ∀ d : Nat, (∀ i ∈ xs, ¬ ((a : Int) < (lk S i).e ∧ (lk S i).e ≤ ((a + d : Nat) : Int))) → storeL S xs (a + d + 1) = emT S.ears (storeL S xs (a + 1)) a ((a + d : Nat) : Int)
  | 0, _ => by
    exact (em_nil (Int.le_refl (a : Int)) (storeL0 o m hx _)).symm
  | d + 1, h => by
    have ih := storeL_quiet o m hx d fun i hi q => h i hi ⟨q.1, by omega⟩
    rw [show a + (d + 1) + 1 = (a + d + 1) + 1 from rfl, storeL_succ, ih]
    show tkL S xs (tkE S.ears _ ((a + d + 1 : Nat) : Int)) ((a + d + 1 : Nat) : Int) = _
    rw [tkL_none fun i hi q => h i hi ⟨by omega, by omega⟩, tkE_em o.ears _ em0]
    have c := em_comp o.ears (a := storeL S xs (a + 1)) (s := (a : Int)) (t := ((a + d : Nat) : Int)) (u := ((a + d + 1 : Nat) : Int)) (by omega) (by omega)
    rw [show ((a + d + 1 : Nat) : Int) - 1 = ((a + d : Nat) : Int) by omega, c]
    rfl
theorem storeL_snoc {S : Sky} {xs : List Nat} {i : Nat} : ∀ n : Nat, (n : Int) ≤ (lk S i).e → storeL S (xs ++ [i]) n = storeL S xs n
  | 0, _ => rfl
  | n + 1, h => by
    rw [storeL_succ, storeL_succ, storeL_snoc n (by omega)]
    show tkL S (xs ++ [i]) _ _ = tkL S xs _ _
    rw [tkL_sum, tkL_sum, List.map_append, List.sum_append]
    have : (lk S i).e ≠ (n : Int) := by omega
    simp [this]
theorem storeL_end {S : Sky} {xs : List Nat} {i : Nat} {n : Nat} (h : (n : Int) = (lk S i).e) : storeL S (xs ++ [i]) (n + 1) = storeL S xs (n + 1) + (lk S i).z := by
  rw [storeL_succ, storeL_succ, storeL_snoc n (by omega)]
  show tkL S (xs ++ [i]) _ _ = tkL S xs _ _ + _
  rw [tkL_sum, tkL_sum, List.map_append, List.sum_append]
  simp [h]
  omega
theorem turn0 {S : Sky} (o : OkS S) {a b : Lk} : 0 ≤ turnT S a b := by
  unfold turnT
  have t0 := o.t0
  generalize hx : (if b.a - a.a < 0 then -(b.a - a.a) else b.a - a.a) = x
  have h : 0 ≤ x := by rw [← hx]; split <;> omega
  have := Int.ediv_le_of_le_mul t0 (a := -x) (b := 0) (by omega)
  omega
/-- how a plan stands -/
structure PR (S : Sky) (xs : List Nat) (p : Pt) : Prop where
  last : p.last = xs.getLast?
  seen : p.seen = xs.map fun i => (lk S i).w
  ends : ∀ i ∈ xs, ∀ j, p.last = some j → (lk S i).e ≤ (lk S j).e
  am : 0 ≤ p.am
  st : ∀ t : Nat, (∀ j, p.last = some j → (lk S j).e ≤ (t : Int)) → storeL S xs (t + 1) = stT S p.last p.am t
theorem planF_snoc {S : Sky} {xs : List Nat} {i : Nat} : planF S (xs ++ [i]) = (planF S xs).bind fun p => stepW S p i := by
  unfold planF
  rw [List.foldlM_append]
  show (xs.foldlM (stepW S) pt0).bind (fun s => [i].foldlM (stepW S) s) = _
  congr 1
  funext p
  show (stepW S p i).bind (fun s => some s) = _
  cases stepW S p i <;> rfl
theorem pr_nil {S : Sky} (o : OkS S) (m : OkM S) : PR S [] pt0 where
  last := rfl
  seen := rfl
  ends := fun i hi => absurd hi (by simp)
  am := Int.le_refl 0
  st := fun t _ => by
    have h := storeL_quiet (xs := []) o m (fun i hi => absurd hi (by simp)) (a := 0) t fun i hi => absurd hi (by simp)
    have z : storeL S [] (0 + 1) = 0 := by
      rw [storeL_succ]
      show tkL S [] (tkE S.ears 0 0) 0 = 0
      rw [tkL_none fun i hi => absurd hi (by simp), tkE_em o.ears _ (Int.le_refl 0)]
      have := loss0 o.ears (s := 0 - 1) (u := 0)
      unfold emT
      omega
    rw [z, Nat.zero_add] at h
    rw [h]
    have := loss0 o.ears (s := ((0 : Nat) : Int)) (u := (t : Int))
    show emT S.ears 0 _ _ = 0
    unfold emT
    omega
theorem step_iff {S : Sky} {p : Pt} {i : Nat} {q : Pt} : stepW S p i = some q ↔ ((∀ j, p.last = some j → j < i ∧ (lk S j).e + turnT S (lk S j) (lk S i) ≤ (lk S i).s) ∧ (lk S i).w ∉ p.seen ∧ stT S p.last p.am (lk S i).s + (lk S i).z ≤ S.cap) ∧ q = ⟨some i, stT S p.last p.am (lk S i).e + (lk S i).z, p.seen ++ [(lk S i).w]⟩ := by
  unfold stepW lvT
  by_cases c : (∃ j, p.last = some j ∧ i ≤ j) ∨ (lk S i).w ∈ p.seen ∨ (∃ j, p.last = some j ∧ ¬ ((lk S j).e + turnT S (lk S j) (lk S i) ≤ (lk S i).s))
  · rw [if_pos c]
    refine ⟨fun h => (nomatch h), fun ⟨⟨h1, h2, _⟩, _⟩ => ?_⟩
    rcases c with ⟨j, a, b⟩ | c | ⟨j, a, b⟩
    · have := (h1 j a).1; omega
    · exact absurd c h2
    · exact absurd (h1 j a).2 b
  · rw [if_neg c]
    have c1 : ∀ j, p.last = some j → j < i ∧ (lk S j).e + turnT S (lk S j) (lk S i) ≤ (lk S i).s := fun j hj => ⟨Nat.lt_of_not_le fun q => c (.inl ⟨j, hj, q⟩), Decidable.byContradiction fun q => c (.inr (.inr ⟨j, hj, q⟩))⟩
    have c2 : (lk S i).w ∉ p.seen := fun q => c (.inr (.inl q))
    by_cases d : stT S p.last p.am (lk S i).s + (lk S i).z > S.cap
    · rw [if_pos d]
      exact ⟨fun h => (nomatch h), fun h => absurd h.1.2.2 (by omega)⟩
    · rw [if_neg d]
      constructor
      · intro h
        cases h
        exact ⟨⟨c1, c2, by omega⟩, rfl⟩
      · rintro ⟨_, rfl⟩
        rfl
theorem pr_step {S : Sky} {xs : List Nat} {p : Pt} {i : Nat} (o : OkS S) (m : OkM S) (hx : ∀ i ∈ xs, InS S i) (hi : InS S i) (r : PR S xs p) :
    ((stepW S p i).isSome ↔ lawStep S xs i) ∧ ∀ q, stepW S p i = some q → PR S (xs ++ [i]) q := by
  have s0 := m.s0 i hi
  have l1 := m.l1 i hi
  have cs : (((lk S i).s.toNat : Nat) : Int) = (lk S i).s := Int.toNat_of_nonneg s0
  have e0 : (lk S i).e = (lk S i).s + (lk S i).l := rfl
  have ce : (((lk S i).e.toNat : Nat) : Int) = (lk S i).e := Int.toNat_of_nonneg (by omega)
  constructor
  · rw [Option.isSome_iff_exists]
    constructor
    · rintro ⟨q, h⟩
      obtain ⟨⟨h1, h2, h3⟩, _⟩ := step_iff.mp h
      refine ⟨fun j hj => h1 j (r.last ▸ hj), r.seen ▸ h2, ?_⟩
      rw [r.st _ fun j hj => by have := (h1 j hj).2; have := turn0 o (a := lk S j) (b := lk S i); omega, cs]
      exact h3
    · rintro ⟨h1, h2, h3⟩
      have h1' : ∀ j, p.last = some j → j < i ∧ (lk S j).e + turnT S (lk S j) (lk S i) ≤ (lk S i).s := fun j hj => h1 j (r.last ▸ hj)
      rw [r.st _ fun j hj => by have := (h1' j hj).2; have := turn0 o (a := lk S j) (b := lk S i); omega, cs] at h3
      exact ⟨_, step_iff.mpr ⟨⟨h1', r.seen ▸ h2, h3⟩, rfl⟩⟩
  · intro q h
    obtain ⟨⟨h1, h2, h3⟩, rfl⟩ := step_iff.mp h
    have before : ∀ j ∈ xs, (lk S j).e ≤ (lk S i).s := fun j hj => by
      cases hl : p.last with
      | none =>
        have := r.last
        rw [hl] at this
        rw [List.getLast?_eq_none_iff.mp this.symm] at hj
        cases hj
      | some k =>
        have a := r.ends j hj k hl
        have b := (h1 k hl).2
        have c := turn0 o (a := lk S k) (b := lk S i)
        omega
    have hx' : ∀ j ∈ xs ++ [i], InS S j := fun j hj => by
      rcases List.mem_append.mp hj with q | q
      · exact hx j q
      · rw [List.mem_singleton.mp q]; exact hi
    have a0 : 0 ≤ stT S p.last p.am (lk S i).e := by
      unfold stT
      cases p.last with
      | none => exact Int.le_refl 0
      | some j => exact em0
    refine ⟨by simp, by simp [r.seen], fun j hj k hk => ?_, ?_, fun t ht => ?_⟩
    · cases hk
      rcases List.mem_append.mp hj with q | q
      · have := before j q; omega
      · rw [List.mem_singleton.mp q]; exact Int.le_refl _
    · have := m.z0 i hi
      show 0 ≤ stT S p.last p.am (lk S i).e + (lk S i).z
      omega
    · have ht := ht i rfl
      have hd : (lk S i).e.toNat + (t - (lk S i).e.toNat) = t := by omega
      have q := storeL_quiet (xs := xs ++ [i]) o m hx' (a := (lk S i).e.toNat) (t - (lk S i).e.toNat) fun j hj c => by
        rcases List.mem_append.mp hj with q | q
        · have := before j q; omega
        · rw [List.mem_singleton.mp q] at c; omega
      rw [hd, storeL_end ce, r.st _ fun j hj => by have := (h1 j hj).2; have := turn0 o (a := lk S j) (b := lk S i); omega, ce] at q
      exact q
theorem planF_law {S : Sky} (o : OkS S) (m : OkM S) (xs : List Nat) : (∀ i ∈ xs, InS S i) → ((planF S xs).isSome ↔ LawV S xs) ∧ ∀ p, planF S xs = some p → PR S xs p := by
  refine snoc_ind (P := fun xs => (∀ i ∈ xs, InS S i) → ((planF S xs).isSome ↔ LawV S xs) ∧ ∀ p, planF S xs = some p → PR S xs p) ?_ ?_ xs
  · intro _
    refine ⟨⟨fun _ p i h => (nomatch h), fun _ => rfl⟩, fun p h => ?_⟩
    cases h
    exact pr_nil o m
  · intro xs i ih hx
    have hx1 : ∀ j ∈ xs, InS S j := fun j hj => hx j (List.mem_append_left _ hj)
    have hi : InS S i := hx i (List.mem_append_right _ (List.mem_singleton.mpr rfl))
    obtain ⟨i1, i2⟩ := ih hx1
    rw [planF_snoc]
    cases hp : planF S xs with
    | none =>
      rw [hp] at i1
      refine ⟨⟨fun h => (nomatch h), fun h => ?_⟩, fun p h => (nomatch h)⟩
      have := i1.mpr (lawV_pre h)
      cases this
    | some p =>
      obtain ⟨k1, k2⟩ := pr_step o m hx1 hi (i2 p hp)
      rw [hp] at i1
      show ((stepW S p i).isSome ↔ _) ∧ ∀ q, stepW S p i = some q → _
      refine ⟨?_, k2⟩
      rw [k1, lawV_snoc]
      exact ⟨fun h => ⟨i1.mp rfl, h⟩, fun h => h.2⟩
end Pl
set_option linter.all false
set_option maxRecDepth 100000
/-! Ev30: worths of plans; the best worths agree. -/
namespace Pl
open PySem Da
def gW (S : Sky) (xs : List Nat) : Int := (xs.map fun i => wq S (lk S i).w).sum
theorem gW_app {S : Sky} (a b : List Nat) : gW S (a ++ b) = gW S a + gW S b := by
  unfold gW
  rw [List.map_append, List.sum_append]
theorem nodup_snoc {α : Type} {xs : List α} {a : α} : (xs ++ [a]).Nodup ↔ xs.Nodup ∧ a ∉ xs := by
  constructor
  · intro h
    obtain ⟨h1, _, h3⟩ := List.nodup_append.mp h
    exact ⟨h1, fun q => h3 a q a (List.mem_singleton.mpr rfl) rfl⟩
  · rintro ⟨h1, h2⟩
    exact List.nodup_append.mpr ⟨h1, by simp, fun x hx y hy => by rw [List.mem_singleton.mp hy]; rintro rfl; exact h2 hx⟩
theorem wishes_nd {S : Sky} (xs : List Nat) : (xs.map fun i => (lk S i).w).Nodup → wishes S xs = xs.map fun i => (lk S i).w := by
  refine snoc_ind (P := fun xs => (xs.map fun i => (lk S i).w).Nodup → wishes S xs = xs.map fun i => (lk S i).w) (fun _ => rfl) ?_ xs
  intro xs i ih h
  rw [List.map_append] at h ⊢
  obtain ⟨h1, h2⟩ := nodup_snoc.mp h
  have e : wishes S (xs ++ [i]) = addW (wishes S xs) (lk S i).w := by unfold wishes; rw [List.foldl_append]; rfl
  rw [e, ih h1]
  unfold addW
  rw [if_neg h2]
  rfl
theorem worth_nd {S : Sky} {xs : List Nat} (h : (xs.map fun i => (lk S i).w).Nodup) : worthT S xs = gW S xs := by
  unfold worthT gW
  rw [wishes_nd xs h, List.map_map]
  rfl
theorem sum_single (c : Int) {k : Nat} : ∀ n, k < n → ((List.range n).map fun x => if x = k then c else 0).sum = c
  | 0, h => absurd h (by omega)
  | n + 1, h => by
    rw [List.range_succ, List.map_append, List.sum_append, List.map_cons, List.map_nil, List.sum_cons, List.sum_nil]
    by_cases e : n = k
    · subst e
      rw [if_pos rfl]
      have : ((List.range n).map fun x => if x = n then c else 0).sum = ((List.range n).map fun _ => (0 : Int)).sum := sum_eq _ fun x hx => if_neg (by have := List.mem_range.mp hx; omega)
      rw [this]
      have z : ∀ L : List Nat, (L.map fun _ => (0 : Int)).sum = 0 := fun L => by
        induction L with
        | nil => rfl
        | cons a L ih => rw [List.map_cons, List.sum_cons, ih]; rfl
      rw [z]
      omega
    · rw [if_neg e, sum_single c n (by omega)]
      omega
theorem law_sum {S : Sky} {ws : List Int} (h : ∀ w ∈ ws, 0 ≤ w ∧ w < S.worths.length) (nd : ws.Nodup) : ((List.range S.worths.length).filterMap fun w : Nat => if (w : Int) ∈ ws then S.worths[w]? else none).sum = (ws.map (wq S)).sum := by
  have e1 : ((List.range S.worths.length).filterMap fun w : Nat => if (w : Int) ∈ ws then S.worths[w]? else none).sum = ((List.range S.worths.length).map fun w : Nat => if (w : Int) ∈ ws then wq S (w : Int) else 0).sum := by
    have gen : ∀ L : List Nat, (∀ i ∈ L, i < S.worths.length) → (L.filterMap fun w : Nat => if (w : Int) ∈ ws then S.worths[w]? else none).sum = (L.map fun w : Nat => if (w : Int) ∈ ws then wq S (w : Int) else 0).sum := by
      intro L
      induction L with
      | nil => intro _; rfl
      | cons i L ih =>
        intro h
        have ih := ih fun j hj => h j (List.mem_cons_of_mem _ hj)
        have hi := h i (List.mem_cons_self ..)
        rw [List.map_cons, List.sum_cons, ← ih]
        by_cases c : (i : Int) ∈ ws
        · rw [List.filterMap_cons_some (b := S.worths[i]) (by rw [if_pos c, List.getElem?_eq_getElem hi]), if_pos c, List.sum_cons]
          unfold wq
          rw [Int.toNat_natCast, List.getElem?_eq_getElem hi]
          rfl
        · rw [List.filterMap_cons_none (by rw [if_neg c]), if_neg c]; omega
    exact gen _ fun i hi => List.mem_range.mp hi
  rw [e1]
  clear e1
  induction ws with
  | nil =>
    have : ((List.range S.worths.length).map fun w : Nat => if (w : Int) ∈ ([] : List Int) then wq S (w : Int) else 0).sum = ((List.range S.worths.length).map fun _ => (0 : Int)).sum := sum_eq _ fun x hx => if_neg (by simp)
    rw [this]
    have z : ∀ L : List Nat, (L.map fun _ => (0 : Int)).sum = 0 := fun L => by
      induction L with
      | nil => rfl
      | cons a L ih => rw [List.map_cons, List.sum_cons, ih]; rfl
    rw [z]
    rfl
  | cons w ws ih =>
    obtain ⟨n1, n2⟩ := List.nodup_cons.mp nd
    have ih := ih (fun x hx => h x (List.mem_cons_of_mem _ hx)) n2
    obtain ⟨w0, w1⟩ := h w (List.mem_cons_self ..)
    rw [List.map_cons, List.sum_cons, ← ih, ← sum_single (wq S w) (k := w.toNat) S.worths.length (by omega), ← sum_add]
    refine sum_eq _ fun x hx => ?_
    by_cases c : x = w.toNat
    · have cx : (x : Int) = w := by omega
      rw [cx, if_pos (List.mem_cons_self ..), if_pos c, if_neg n1]
      omega
    · have cx : (x : Int) ≠ w := by omega
      rw [if_neg c]
      by_cases d : (x : Int) ∈ ws
      · rw [if_pos d, if_pos (List.mem_cons_of_mem _ d)]; omega
      · rw [if_neg d, if_neg (by rw [List.mem_cons]; exact fun q => q.elim cx d)]; omega
theorem planF_nd {S : Sky} (xs : List Nat) : ∀ p, planF S xs = some p → p.seen = (xs.map fun i => (lk S i).w) ∧ (xs.map fun i => (lk S i).w).Nodup := by
  refine snoc_ind (P := fun xs => ∀ p, planF S xs = some p → p.seen = (xs.map fun i => (lk S i).w) ∧ (xs.map fun i => (lk S i).w).Nodup) (fun p h => by cases h; exact ⟨rfl, List.nodup_nil⟩) ?_ xs
  intro xs i ih p h
  rw [planF_snoc] at h
  cases hq : planF S xs with
  | none => rw [hq] at h; cases h
  | some q =>
    rw [hq] at h
    obtain ⟨⟨_, h2, _⟩, rfl⟩ := step_iff.mp (show stepW S q i = some p from h)
    obtain ⟨a, b⟩ := ih q hq
    rw [List.map_append]
    refine ⟨by rw [a]; rfl, ?_⟩
    exact nodup_snoc.mpr ⟨b, a ▸ h2⟩
def Plan (S : Sky) (xs : List Nat) : Prop := (planF S xs).isSome = true
theorem plan_nd {S : Sky} {xs : List Nat} (h : Plan S xs) : (xs.map fun i => (lk S i).w).Nodup := by
  obtain ⟨p, hp⟩ := Option.isSome_iff_exists.mp h
  exact (planF_nd xs p hp).2
theorem plan_worth {S : Sky} {xs : List Nat} (h : Plan S xs) : worthT S xs = gW S xs := worth_nd (plan_nd h)
theorem plan_lawWorth {S : Sky} {xs : List Nat} (hw : OkW S) (hx : ∀ i ∈ xs, InS S i) (h : Plan S xs) : lawWorthT S xs = gW S xs := by
  have := law_sum (S := S) (ws := xs.map fun i => (lk S i).w) (fun w hwm => by
    obtain ⟨i, hi, rfl⟩ := List.mem_map.mp hwm
    exact okW_lk hw (hx i hi)) (plan_nd h)
  unfold lawWorthT gW
  rw [this, List.map_map]
  rfl
theorem plan_nil {S : Sky} : Plan S [] := rfl
theorem plan_pre {S : Sky} {xs ys : List Nat} (h : Plan S (xs ++ ys)) : Plan S xs := by
  unfold Plan planF at h ⊢
  rw [List.foldlM_append] at h
  cases e : List.foldlM (stepW S) pt0 xs with
  | none => rw [e] at h; cases h
  | some p => rfl
theorem planF_last {S : Sky} (xs : List Nat) : ∀ p, planF S xs = some p → p.last = xs.getLast? := by
  refine snoc_ind (P := fun xs => ∀ p, planF S xs = some p → p.last = xs.getLast?) (fun p h => by cases h; rfl) ?_ xs
  intro xs i ih p h
  rw [planF_snoc] at h
  cases hq : planF S xs with
  | none => rw [hq] at h; cases h
  | some q =>
    rw [hq] at h
    obtain ⟨_, rfl⟩ := step_iff.mp (show stepW S q i = some p from h)
    simp
theorem plan_lt {S : Sky} {xs : List Nat} {i : Nat} (h : Plan S (xs ++ [i])) : ∀ j, xs.getLast? = some j → j < i := by
  unfold Plan at h
  rw [planF_snoc] at h
  cases hq : planF S xs with
  | none => rw [hq] at h; cases h
  | some q =>
    rw [hq] at h
    obtain ⟨p, hp⟩ := Option.isSome_iff_exists.mp h
    have := (step_iff.mp (show stepW S q i = some p from hp)).1.1
    rw [planF_last xs q hq] at this
    exact fun j hj => (this j hj).1
theorem plan_fst {S : Sky} {xs : List Nat} {i : Nat} (h : Plan S (xs ++ [i])) : fst1 xs ≤ i := by
  unfold fst1
  cases hl : xs.getLast? with
  | none => exact Nat.zero_le _
  | some l => exact plan_lt h l hl
/-- all plans that start so and go on with looks that start then or later are found -/
theorem ext_all {S : Sky} {now : Int} {begun : List Nat} {F : List (List Nat)} (g : Grown (extT S now) (PIn S) begun F) (rest : List Nat) : (∀ i ∈ rest, InS S i ∧ now ≤ (lk S i).s) → Plan S (begun ++ rest) → begun ++ rest ∈ F := by
  refine snoc_ind (P := fun rest => (∀ i ∈ rest, InS S i ∧ now ≤ (lk S i).s) → Plan S (begun ++ rest) → begun ++ rest ∈ F) (fun _ _ => by rw [List.append_nil]; exact g.a) ?_ rest
  intro rest i ih hx hp
  rw [← List.append_assoc] at hp ⊢
  have h1 := ih (fun j hj => hx j (List.mem_append_left _ hj)) (plan_pre hp)
  obtain ⟨hi, hn⟩ := hx i (List.mem_append_right _ (List.mem_singleton.mpr rfl))
  refine g.clo _ h1 _ (List.mem_map.mpr ⟨i, List.mem_filter.mpr ⟨?_, ?_⟩, rfl⟩)
  · have := plan_fst hp
    unfold InS at hi
    rw [List.mem_range'_1]
    omega
  · rw [Bool.and_eq_true]
    exact ⟨decide_eq_true hn, hp⟩
theorem rch_plan {S : Sky} {now : Int} {begun p : List Nat} (hb : Plan S begun) (h : Rch (extT S now) begun p) : Plan S p ∧ ∃ rest, p = begun ++ rest := by
  induction h with
  | a => exact ⟨hb, [], (List.append_nil _).symm⟩
  | s hp hc ih =>
    obtain ⟨i, hi, rfl⟩ := List.mem_map.mp hc
    obtain ⟨_, rest, rfl⟩ := ih
    have := (List.mem_filter.mp hi).2
    rw [Bool.and_eq_true] at this
    exact ⟨this.2, rest ++ [i], by rw [List.append_assoc]⟩
open Classical in
theorem extL_all {S : Sky} (o : OkS S) (m : OkM S) {F : List (List Nat)} (g : Grown (extL S) (PIn S) [] F) (xs : List Nat) : (∀ i ∈ xs, InS S i) → Plan S xs → xs ∈ F := by
  refine snoc_ind (P := fun xs => (∀ i ∈ xs, InS S i) → Plan S xs → xs ∈ F) (fun _ _ => g.a) ?_ xs
  intro xs i ih hx hp
  have hx1 : ∀ j ∈ xs, InS S j := fun j hj => hx j (List.mem_append_left _ hj)
  have h1 := ih hx1 (plan_pre hp)
  refine g.clo _ h1 _ (List.mem_map.mpr ⟨i, List.mem_filter.mpr ⟨List.mem_range.mpr (hx i (List.mem_append_right _ (List.mem_singleton.mpr rfl))), ?_⟩, rfl⟩)
  rw [Bool.and_eq_true]
  refine ⟨?_, decide_eq_true ((planF_law o m _ hx).1.mp hp)⟩
  have nd := plan_nd hp
  rw [List.map_append] at nd
  have := (nodup_snoc.mp nd).2
  have ni : i ∉ xs := fun q => this (List.mem_map.mpr ⟨i, q, rfl⟩)
  rw [decide_eq_false ni]
  rfl
open Classical in
theorem rchL_plan {S : Sky} (o : OkS S) (m : OkM S) {p : List Nat} (hx : ∀ i ∈ p, InS S i) (h : Rch (extL S) [] p) : Plan S p := by
  refine (planF_law o m p hx).1.mpr ?_
  cases h with
  | a => intro p i h; cases h
  | s hp hc =>
    obtain ⟨i, hi, rfl⟩ := List.mem_map.mp hc
    have := (List.mem_filter.mp hi).2
    rw [Bool.and_eq_true] at this
    exact of_decide_eq_true this.2
/-- the best worth of all plans -/
structure Bst (S : Sky) (b : Int) : Prop where
  le : ∀ xs, (∀ i ∈ xs, InS S i) → Plan S xs → gW S xs ≤ b
  at_ : ∃ xs, (∀ i ∈ xs, InS S i) ∧ Plan S xs ∧ gW S xs = b
theorem Bst.uniq {S : Sky} {a b : Int} (h : Bst S a) (k : Bst S b) : a = b := by
  obtain ⟨xs, x1, x2, x3⟩ := h.at_
  obtain ⟨ys, y1, y2, y3⟩ := k.at_
  have := h.le ys y1 y2
  have := k.le xs x1 x2
  omega
theorem bst_law {S : Sky} (o : OkS S) (m : OkM S) (hw : OkW S) {F : List (List Nat)} (g : Grown (extL S) (PIn S) [] F) : Bst S (mx (F.map (lawWorthT S))) := by
  obtain ⟨h1, h2⟩ := mx_le (xs := F.map (lawWorthT S)) (fun q => by have := g.a; rw [List.map_eq_nil_iff.mp q] at this; cases this)
  refine ⟨fun xs hx hp => ?_, ?_⟩
  · rw [← plan_lawWorth hw hx hp]
    exact h1 _ (List.mem_map_of_mem (extL_all o m g xs hx hp))
  · obtain ⟨p, hp, e⟩ := List.mem_map.mp h2
    have hx := (g.p p hp).1
    have hP := rchL_plan o m hx (g.r p hp)
    exact ⟨p, hx, hP, by rw [← e, plan_lawWorth hw hx hP]⟩
end Pl
set_option linter.all false
set_option maxRecDepth 100000
/-! Ev31: states and plans. -/
namespace Pl
open PySem Da
theorem out_sub {E : List Er} {fs : List Nat} : (outE E fs).Sublist E := by
  unfold outE
  have gen : ∀ (A B : List Er), ((List.range' A.length B.length).filterMap (fun i => if i ∈ fs then none else (A ++ B)[i]?)).Sublist B := by
    intro A B
    induction B generalizing A with
    | nil => exact List.Sublist.refl _
    | cons b B ih =>
      have ih := ih (A ++ [b])
      rw [List.length_append, List.length_singleton, List.append_assoc, List.singleton_append] at ih
      rw [List.length_cons, List.range'_succ]
      by_cases c : A.length ∈ fs
      · rw [List.filterMap_cons_none (by rw [if_pos c])]
        exact ih.cons b
      · rw [List.filterMap_cons_some (b := b) (by rw [if_neg c]; simp)]
        exact ih.cons₂ b
  have := gen [] E
  rw [List.length_nil, ← List.range_eq_range', List.nil_append] at this
  exact this
theorem SkyOk.wo {n : Nat} {S : Sky} (o : SkyOk n S) (fs : List Nat) : SkyOk n (woE S fs) := { o with
  elen := Nat.le_trans out_sub.length_le o.elen
  ear := fun e he => o.ear e (out_sub.subset he)
  ep := o.ep.sublist out_sub }
/-- a state stands for a plan so far -/
structure Ag (T : Sky) (z : Zt) (p : Pt) : Prop where
  last : z.last = p.last
  ws : ∀ w, w ∈ z.ws ↔ w ∈ p.seen
  lt : ∀ j, p.last = some j → j < z.k
  am0 : p.last = none → z.am = 0
  am : ∀ j, p.last = some j → ∃ b, 0 ≤ b ∧ p.am = emT T.ears b (lk T j).s (lk T j).e + (lk T j).z ∧ z.am = if (lk T j).e ≤ (lk T z.k).s then emT T.ears p.am (lk T j).e (lk T z.k).s else emT T.ears b (lk T j).s (lk T z.k).s
theorem ag0 {T : Sky} {fl : List Nat} : Ag T ⟨0, none, 0, [], fl⟩ pt0 where
  last := rfl
  ws := fun w => Iff.rfl
  lt := fun j hj => (nomatch hj)
  am0 := fun _ => rfl
  am := fun j hj => (nomatch hj)
theorem ag_stT {T : Sky} (o : OkS T) {z : Zt} {p : Pt} (h : Ag T z p) (hf : ∀ j, p.last = some j → (lk T j).e + turnT T (lk T j) (lk T z.k) ≤ (lk T z.k).s) : stT T p.last p.am (lk T z.k).s = z.am := by
  unfold stT
  cases hl : p.last with
  | none => exact (h.am0 hl).symm
  | some j =>
    obtain ⟨b, _, _, e⟩ := h.am j hl
    have := hf j hl
    have := turn0 o (a := lk T j) (b := lk T z.k)
    rw [if_pos (by omega)] at e
    exact e.symm
theorem ag_mt {T : Sky} (o : OkS T) {z : Zt} {p : Pt} (h : Ag T z p) : mt T z = true ↔ (stepW T p z.k).isSome = true := by
  have e1 : mt T z = true ↔ ((∀ j, p.last = some j → (lk T j).e + turnT T (lk T j) (lk T z.k) ≤ (lk T z.k).s) ∧ (lk T z.k).w ∉ p.seen ∧ z.am + (lk T z.k).z ≤ T.cap) := by
    unfold mt
    rw [h.last]
    have hw := h.ws (lk T z.k).w
    rw [Bool.and_eq_true, Bool.not_eq_true', Bool.or_eq_false_iff, decide_eq_false_iff_not, decide_eq_false_iff_not, hw]
    cases hl : p.last with
    | none => exact ⟨fun q => ⟨fun j hj => (nomatch hj), q.1.1, by omega⟩, fun q => ⟨⟨q.2.1, by omega⟩, rfl⟩⟩
    | some j => exact ⟨fun q => ⟨fun i hi => by cases hi; exact of_decide_eq_true q.2, q.1.1, by omega⟩, fun q => ⟨⟨q.2.1, by omega⟩, decide_eq_true (q.1 j rfl)⟩⟩
  rw [e1, Option.isSome_iff_exists]
  constructor
  · rintro ⟨h1, h2, h3⟩
    exact ⟨_, step_iff.mpr ⟨⟨fun j hj => ⟨h.lt j hj, h1 j hj⟩, h2, by rw [ag_stT o h h1]; exact h3⟩, rfl⟩⟩
  · rintro ⟨q, hq⟩
    obtain ⟨⟨h1, h2, h3⟩, _⟩ := step_iff.mp hq
    have h1' := fun j hj => (h1 j hj).2
    rw [ag_stT o h h1'] at h3
    exact ⟨h1', h2, h3⟩
theorem zw_mem {T : Sky} {z : Zt} {w : Int} : w ∈ zw T z true ↔ w ∈ z.ws ∨ w = (lk T z.k).w := by
  unfold zw
  rw [if_pos rfl, (srt_perm _ _).mem_iff, List.mem_append, List.mem_singleton]
theorem ag_next {T : Sky} (o : OkS T) (m : OkM T) {z y : Zt} {p q : Pt} {b : Bool} (h : Ag T z p) (hk : InS T (z.k + 1)) (e1 : y.k = z.k + 1) (e2 : y.last = zl z b) (e3 : y.ws = zw T z b) (e4 : y.am = abT T z.am (zl z b) (lk T z.k).s (lk T (z.k + 1)).s)
    (hq : if b = true then stepW T p z.k = some q else q = p) : Ag T y q := by
  have hk0 : InS T z.k := Nat.lt_of_succ_lt hk
  have hs := m.st z.k (z.k + 1) (Nat.le_succ _) hk
  cases b with
  | false =>
    rw [if_neg (by decide)] at hq
    subst hq
    refine ⟨by rw [e2]; exact h.last, fun w => by rw [e3]; exact h.ws w, fun j hj => by have := h.lt j hj; omega, fun hn => ?_, fun j hj => ?_⟩
    · have hz : zl z false = none := h.last.trans hn
      rw [e4, hz, h.am0 hn]
      have := loss0 o.ears (s := (lk T z.k).s) (u := (lk T (z.k + 1)).s)
      show emT T.ears 0 _ _ = 0
      unfold emT
      omega
    · have hz : zl z false = some j := h.last.trans hj
      obtain ⟨c, c0, c1, c2⟩ := h.am j hj
      have hjk := h.lt j hj
      have hsj := m.st j z.k (by omega) hk0
      have ej : (lk T j).e = (lk T j).s + (lk T j).l := rfl
      have lj := m.l1 j (Nat.lt_trans hjk hk0)
      refine ⟨c, c0, c1, ?_⟩
      rw [e4, hz, e1]
      show (if (lk T z.k).s < (lk T j).e ∧ (lk T j).e ≤ (lk T (z.k + 1)).s then _ else _) = _
      by_cases d : (lk T j).e ≤ (lk T z.k).s
      · rw [if_pos d] at c2
        rw [if_neg (by omega), if_pos (by omega), c2]
        exact em_comp o.ears d hs
      · rw [if_neg d] at c2
        by_cases d2 : (lk T j).e ≤ (lk T (z.k + 1)).s
        · rw [if_pos ⟨by omega, d2⟩, if_pos d2, c2, em_comp o.ears hsj (by omega), ← c1]
        · rw [if_neg (by omega), if_neg d2, c2]
          exact em_comp o.ears hsj hs
  | true =>
    rw [if_pos rfl] at hq
    obtain ⟨⟨h1, h2, h3⟩, rfl⟩ := step_iff.mp hq
    have st := ag_stT o h fun j hj => (h1 j hj).2
    have hz : zl z true = some z.k := rfl
    have ek : (lk T z.k).e = (lk T z.k).s + (lk T z.k).l := rfl
    have l1 := m.l1 z.k hk0
    have za : 0 ≤ z.am := by
      rw [← st]
      unfold stT
      cases p.last with
      | none => exact Int.le_refl 0
      | some j => exact em0
    have pa : stT T p.last p.am (lk T z.k).e = emT T.ears z.am (lk T z.k).s (lk T z.k).e := by
      rw [← st]
      cases hl : p.last with
      | none =>
        have := loss0 o.ears (s := (lk T z.k).s) (u := (lk T z.k).e)
        show 0 = emT T.ears 0 _ _
        unfold emT
        omega
      | some j =>
        have := (h1 j hl).2
        have := turn0 o (a := lk T j) (b := lk T z.k)
        exact (em_comp o.ears (by omega) (by omega)).symm
    refine ⟨by rw [e2, hz], fun w => ?_, fun j hj => ?_, fun hn => (nomatch hn), fun j hj => ?_⟩
    · rw [e3, zw_mem, List.mem_append, List.mem_singleton, h.ws w]
    · cases hj; omega
    · cases hj
      refine ⟨z.am, za, by rw [pa], ?_⟩
      rw [e4, hz, e1]
      show (if (lk T z.k).s < (lk T z.k).e ∧ (lk T z.k).e ≤ (lk T (z.k + 1)).s then _ else _) = _
      by_cases d2 : (lk T z.k).e ≤ (lk T (z.k + 1)).s
      · rw [if_pos ⟨by omega, d2⟩, if_pos d2, pa]
      · rw [if_neg (by omega), if_neg d2]
end Pl
set_option linter.all false
set_option maxRecDepth 100000
/-! Ev32: sure worths and plans. -/
namespace Pl
open PySem Da
theorem best0_le {xs : List Int} (h : xs ≠ []) : (∀ x ∈ xs, best0 xs ≤ x) ∧ best0 xs ∈ xs := by
  cases xs with
  | nil => exact absurd rfl h
  | cons a r =>
    have gen : ∀ (r : List Int) (a : Int), (∀ x ∈ a :: r, minL a r ≤ x) ∧ minL a r ∈ a :: r := by
      intro r
      induction r with
      | nil => intro a; exact ⟨fun x hx => by rw [List.mem_singleton.mp hx]; exact Int.le_refl _, List.mem_singleton.mpr rfl⟩
      | cons b r ih =>
        intro a
        obtain ⟨p, q⟩ := ih (if b < a then b else a)
        have e : minL a (b :: r) = minL (if b < a then b else a) r := rfl
        rw [e]
        refine ⟨fun x hx => ?_, ?_⟩
        · have q1 := p (if b < a then b else a) (List.mem_cons_self ..)
          rcases List.mem_cons.mp hx with rfl | hx
          · split at q1 <;> split <;> omega
          · rcases List.mem_cons.mp hx with rfl | hx
            · split at q1 <;> split <;> omega
            · exact p x (List.mem_cons_of_mem _ hx)
        · rcases List.mem_cons.mp q with q | q
          · rw [q]
            split
            · exact List.mem_cons_of_mem _ (List.mem_cons_self ..)
            · exact List.mem_cons_self ..
          · exact List.mem_cons_of_mem _ (List.mem_cons_of_mem _ q)
    exact gen r a
theorem sb_mem {S : Sky} {z y : Zt} {b : Bool} {most : Nat} : y ∈ sb S z b most ↔ z.k + 1 ≠ S.looks.length ∧ ∃ f ∈ ways (bb S (lk S z.k).s (lk S (z.k + 1)).s) z.fl most, y = ⟨z.k + 1, zl z b, abT (woE S f) z.am (zl z b) (lk S z.k).s (lk S (z.k + 1)).s, zw S z b, f⟩ := by
  unfold sb
  by_cases c : z.k + 1 = S.looks.length
  · rw [if_pos c]
    exact ⟨fun h => (nomatch h), fun h => absurd c h.1⟩
  · rw [if_neg c, (srt_perm _ _).mem_iff]
    unfold sbR
    rw [List.mem_map]
    exact ⟨fun ⟨f, a, b⟩ => ⟨c, f, a, b.symm⟩, fun ⟨_, f, a, b⟩ => ⟨f, a, b.symm⟩⟩
theorem ways0 {ns f : List Nat} (h : f ∈ ways ns [] 0) : f = [] := by
  unfold ways at h
  rw [(srt_perm _ _).mem_iff] at h
  have := of_decide_eq_true (List.mem_filter.mp h).2
  exact List.eq_nil_of_length_eq_zero (by omega)
theorem nil_ways {ns : List Nat} {most : Nat} : [] ∈ ways ns [] most := by
  have e : ns.filter (fun _ => false) = [] := List.filter_eq_nil_iff.mpr fun _ _ => by simp
  have := ways_mem (p := fun _ => false) (ns := ns) (fl := []) (most := most) (by rw [e]; exact Nat.zero_le _)
  rw [e] at this
  exact this
theorem moves_in {S : Sky} {z : Zt} {b : Bool} (h : b = true → mt S z = true) : b ∈ moves S z := by
  unfold moves
  cases b with
  | false => split <;> simp
  | true => rw [if_pos (h rfl)]; simp
theorem moves_mt {S : Sky} {z : Zt} {b : Bool} (h : b ∈ moves S z) : b = true → mt S z = true := by
  unfold moves at h
  split at h
  · rename_i c; exact fun _ => c
  · rintro rfl; cases h with
    | tail _ q => cases q
theorem V_move {S : Sky} {most : Nat} {z : Zt} {b : Bool} (o : OkS S) (h : Wf S z) (hb : b = true → mt S z = true) : byT S most z b ≤ V S most z := by
  rw [V_eq o h]
  exact (mx_le (by rw [Ne, List.map_eq_nil_iff]; exact moves_ne)).1 _ (List.mem_map_of_mem (moves_in hb))
/-- every plan that goes on from here is worth no more -/
theorem V_ge {S : Sky} (o : OkS S) (m : OkM S) : ∀ (n : Nat) (z : Zt) (p : Pt) (xs : List Nat), Wf S z → z.k + n = S.looks.length → z.fl = [] → Ag S z p → (∀ i ∈ xs, z.k ≤ i ∧ InS S i) → xs.Pairwise (· < ·) → (xs.foldlM (stepW S) p).isSome = true → gW S xs ≤ V S 0 z
  | 0, z, _, _, hz, hn, _, _, _, _, _ => absurd hz.k (by omega)
  | n + 1, z, p, xs, hz, hn, hf, ag, hx, hs, hp => by
    have go : ∀ (b : Bool) (q : Pt) (rest : List Nat), (if b = true then stepW S p z.k = some q else q = p) → (b = true → mt S z = true) → (∀ i ∈ rest, z.k + 1 ≤ i ∧ InS S i) → rest.Pairwise (· < ·) → (rest.foldlM (stepW S) q).isSome = true → gain S z b + gW S rest ≤ V S 0 z := by
      intro b q rest hq hb hr hrs hrp
      refine Int.le_trans ?_ (V_move o hz hb)
      unfold byT
      by_cases c : z.k + 1 = S.looks.length
      · have : rest = [] := by
          cases rest with
          | nil => rfl
          | cons i r =>
            have := hr i (List.mem_cons_self ..)
            have h2 := this.2
            unfold InS at h2
            omega
        subst this
        have : sb S z b 0 = [] := by unfold sb; rw [if_pos c]
        rw [this]
        show gain S z b + 0 ≤ gain S z b + 0
        exact Int.le_refl _
      · have hk := hz.k
        have hk1 : InS S (z.k + 1) := by unfold InS; omega
        have ne : (sb S z b 0).map (V S 0) ≠ [] := by
          rw [Ne, List.map_eq_nil_iff]
          intro q
          have : (⟨z.k + 1, zl z b, abT (woE S []) z.am (zl z b) (lk S z.k).s (lk S (z.k + 1)).s, zw S z b, []⟩ : Zt) ∈ sb S z b 0 := sb_mem.mpr ⟨c, [], by rw [hf]; exact nil_ways, rfl⟩
          rw [q] at this
          cases this
        obtain ⟨y, hy, e⟩ := List.mem_map.mp (best0_le ne).2
        rw [← e]
        obtain ⟨_, f, hfw, ey⟩ := sb_mem.mp hy
        rw [hf] at hfw
        have := ways0 hfw
        subst this
        rw [wo_nil] at ey
        have wy := (sb_wf o hz hy).1
        have agy : Ag S y q := ag_next o m ag hk1 (by rw [ey]) (by rw [ey]) (by rw [ey]) (by rw [ey]) hq
        have := V_ge o m n y q rest wy (by rw [ey]; show z.k + 1 + n = _; omega) (by rw [ey]) agy (fun i hi => by rw [ey]; exact hr i hi) hrs hrp
        omega
    by_cases c : ∃ rest, xs = z.k :: rest
    · obtain ⟨rest, rfl⟩ := c
      rw [List.foldlM_cons] at hp
      cases hq : stepW S p z.k with
      | none => rw [hq] at hp; cases hp
      | some q =>
        rw [hq] at hp
        obtain ⟨s1, s2⟩ := List.pairwise_cons.mp hs
        have := go true q rest (by rw [if_pos rfl]; exact hq) (fun _ => (ag_mt o ag).mpr (by rw [hq]; rfl)) (fun i hi => ⟨s1 i hi, (hx i (List.mem_cons_of_mem _ hi)).2⟩) s2 hp
        have e : gW S (z.k :: rest) = gain S z true + gW S rest := by unfold gW gain; rw [List.map_cons, List.sum_cons, if_pos rfl]
        rw [e]
        exact this
    · have h2 : ∀ i ∈ xs, z.k + 1 ≤ i ∧ InS S i := fun i hi => by
        refine ⟨?_, (hx i hi).2⟩
        cases xs with
        | nil => cases hi
        | cons x r =>
          have hx0 := (hx x (List.mem_cons_self ..)).1
          have hxk : x ≠ z.k := fun q => c ⟨r, by rw [q]⟩
          rcases List.mem_cons.mp hi with rfl | hi
          · omega
          · have := (List.pairwise_cons.mp hs).1 i hi
            omega
      have := go false p xs (by rw [if_neg (by decide)]) (fun q => (nomatch q)) h2 hs hp
      have e : gain S z false = 0 := rfl
      omega
theorem plan_sorted {S : Sky} (xs : List Nat) : Plan S xs → xs.Pairwise (· < ·) ∧ ∀ i ∈ xs, ∀ j, xs.getLast? = some j → i ≤ j := by
  refine snoc_ind (P := fun xs => Plan S xs → xs.Pairwise (· < ·) ∧ ∀ i ∈ xs, ∀ j, xs.getLast? = some j → i ≤ j) (fun _ => ⟨List.Pairwise.nil, fun i hi => absurd hi (by simp)⟩) ?_ xs
  intro xs i ih h
  obtain ⟨a, b⟩ := ih (plan_pre h)
  have lt := plan_lt h
  have all : ∀ x ∈ xs, x < i := fun x hx => by
    cases hl : xs.getLast? with
    | none => rw [List.getLast?_eq_none_iff.mp hl] at hx; cases hx
    | some l =>
      have := b x hx l hl
      have := lt l hl
      omega
  refine ⟨List.pairwise_append.mpr ⟨a, List.pairwise_singleton .., fun x hx y hy => by rw [List.mem_singleton.mp hy]; exact all x hx⟩, fun x hx j hj => ?_⟩
  have : j = i := by simpa using hj.symm
  subst this
  rcases List.mem_append.mp hx with q | q
  · exact Nat.le_of_lt (all x q)
  · rw [List.mem_singleton.mp q]; exact Nat.le_refl _
theorem fs_mem {S : Sky} {most : Nat} {z : Zt} (h : S.looks ≠ []) : z ∈ fs S most ↔ ∃ f ∈ ways (bb S (-1) (lk S 0).s) [] most, z = ⟨0, none, 0, [], f⟩ := by
  unfold fs
  rw [if_neg h, List.mem_map]
  exact ⟨fun ⟨f, a, b⟩ => ⟨f, a, b.symm⟩, fun ⟨f, a, b⟩ => ⟨f, a, b.symm⟩⟩
theorem sure_ge {S : Sky} (o : OkS S) (m : OkM S) {xs : List Nat} (hx : ∀ i ∈ xs, InS S i) (hp : Plan S xs) : gW S xs ≤ sureT S 0 := by
  unfold sureT
  by_cases hl : S.looks = []
  · have : xs = [] := by
      cases xs with
      | nil => rfl
      | cons i r =>
        have := hx i (List.mem_cons_self ..)
        unfold InS at this
        rw [hl] at this
        cases this
    subst this
    have : fs S 0 = [] := by unfold fs; rw [if_pos hl]
    rw [this]
    exact Int.le_refl 0
  · have ne : (fs S 0).map (V S 0) ≠ [] := by
      rw [Ne, List.map_eq_nil_iff]
      intro q
      have : (⟨0, none, 0, [], []⟩ : Zt) ∈ fs S 0 := (fs_mem hl).mpr ⟨[], nil_ways, rfl⟩
      rw [q] at this
      cases this
    obtain ⟨y, hy, e⟩ := List.mem_map.mp (best0_le ne).2
    rw [← e]
    obtain ⟨f, hf, ey⟩ := (fs_mem hl).mp hy
    have := ways0 hf
    subst this
    have wy := (fs_wf o hy).1
    refine V_ge o m S.looks.length y pt0 xs wy (by rw [ey]; exact Nat.zero_add _) (by rw [ey]) (by rw [ey]; exact ag0) (fun i hi => ⟨by rw [ey]; exact Nat.zero_le _, hx i hi⟩) (plan_sorted xs hp).1 hp
end Pl
set_option linter.all false
set_option maxRecDepth 100000
/-! Ev33: what the rule takes is a plan, worth what is sure. -/
namespace Pl
open PySem Da
theorem fat_mem {S : Sky} {fail : List Nat} {u : Int} {i : Nat} {e : Er} (he : S.ears[i]? = some e) (h : e.f ≤ u) : i ∈ fat S fail u ↔ i ∈ fail := by
  unfold fat
  rw [List.mem_filter, List.mem_range, Bool.and_eq_true, decide_eq_true_iff, decide_eq_true_iff]
  have hi := (List.getElem?_eq_some_iff.mp he).1
  have : efi S i = e.f := by unfold efi; rw [he]; rfl
  rw [this]
  exact ⟨fun q => q.2.1, fun q => ⟨hi, q, h⟩⟩
theorem ab_agree {S : Sky} {f g : List Nat} {a s u : Int} {last : Option Nat} (h : ∀ i e, S.ears[i]? = some e → e.f < u → (i ∈ f ↔ i ∈ g)) : abT (woE S f) a last s u = abT (woE S g) a last s u := by
  unfold abT
  cases last with
  | none => exact em_agree h
  | some j =>
    show (if s < (lk S j).e ∧ (lk S j).e ≤ u then emT (outE S.ears f) (emT (outE S.ears f) a s (lk S j).e + (lk S j).z) (lk S j).e u else emT (outE S.ears f) a s u) = (if s < (lk S j).e ∧ (lk S j).e ≤ u then emT (outE S.ears g) (emT (outE S.ears g) a s (lk S j).e + (lk S j).z) (lk S j).e u else emT (outE S.ears g) a s u)
    by_cases c : s < (lk S j).e ∧ (lk S j).e ≤ u
    · rw [if_pos c, if_pos c, em_agree (s := s) (u := (lk S j).e) fun i e he hf => h i e he (by omega), em_agree (u := u) h]
    · rw [if_neg c, if_neg c, em_agree h]
theorem byT_tm {S : Sky} {most : Nat} {K0 : List Zt} {z : Zt} (o : OkS S) (hz : Wf S z) (hK : z ∈ K0) : V S most z = byT S most z (tm S (mvK S most K0) z) := by
  have e : tm S (mvK S most K0) z = ru S most z := by
    unfold tm mvK ru
    rw [decide_eq_true hK]
    cases mt S z <;> simp
  rw [e]
  have hV := V_eq (most := most) o hz
  by_cases c : mt S z = true
  · by_cases d : byT S most z true = V S most z
    · have : ru S most z = true := by unfold ru; rw [c, decide_eq_true d]; rfl
      rw [this]
      exact d.symm
    · have : ru S most z = false := by unfold ru; rw [decide_eq_false d, Bool.and_false]
      rw [this]
      have hm := (mx_le (xs := (moves S z).map (byT S most z)) (by rw [Ne, List.map_eq_nil_iff]; exact moves_ne)).2
      rw [← hV] at hm
      obtain ⟨b, _, e⟩ := List.mem_map.mp hm
      cases b with
      | true => exact absurd e d
      | false => exact e.symm
  · have c' : mt S z = false := by simpa using c
    have : ru S most z = false := by unfold ru; rw [c']; rfl
    rw [this, hV]
    have : moves S z = [false] := by unfold moves; rw [if_neg c]
    rw [this]
    rfl
theorem pth_ok {n' : Nat} {S : Sky} {fail : List Nat} {most : Nat} {K0 : List Zt} (ok : SkyOk n' S) (hn' : n' ≤ 3) (hm : FLen S fail most) (hK : ∀ z ∈ K0, ∀ y ∈ succR S most z, y ∈ K0) : ∀ (n : Nat) (z : Zt) (p : Pt), z.k + n = S.looks.length → Wf S z → z ∈ K0 → z.fl = fat S fail (lk S z.k).s → Ag (woE S fail) z p →
    ((pth S fail (mvK S most K0) n z).foldlM (stepW (woE S fail)) p).isSome = true ∧ V S most z ≤ gW S (pth S fail (mvK S most K0) n z) ∧ ∀ i ∈ pth S fail (mvK S most K0) n z, InS S i
  | 0, z, p, hn, hz, _, _, _ => absurd hz.k (by omega)
  | n + 1, z, p, hn, hz, hk, hf, ag => by
    have o := ok.toS hn'
    have m := ok.toM
    have oT := (ok.wo fail).toS hn'
    have mT := (ok.wo fail).toM
    have hV := byT_tm (most := most) o hz hk
    have hb : tm S (mvK S most K0) z = true → mt S z = true := fun q => by
      unfold tm at q
      rw [Bool.and_eq_true] at q
      exact q.2
    generalize hbb : tm S (mvK S most K0) z = b at hV hb
    have ep : pth S fail (mvK S most K0) (n + 1) z = (if b = true then [z.k] else []) ++ pth S fail (mvK S most K0) n (nxt S fail (mvK S most K0) z) := by
      show (if tm S (mvK S most K0) z = true then [z.k] else []) ++ _ = _
      rw [hbb]
    have hq : ∃ q, if b = true then stepW (woE S fail) p z.k = some q else q = p := by
      cases b with
      | false => exact ⟨p, by rw [if_neg (by decide)]⟩
      | true =>
        obtain ⟨q, hq⟩ := Option.isSome_iff_exists.mp ((ag_mt oT ag).mp (hb rfl))
        exact ⟨q, by rw [if_pos rfl]; exact hq⟩
    obtain ⟨q, hq⟩ := hq
    have hfold : ∀ L : List Nat, ((if b = true then [z.k] else []) ++ L).foldlM (stepW (woE S fail)) p = L.foldlM (stepW (woE S fail)) q := fun L => by
      cases b with
      | false => rw [if_neg (by decide)] at hq ⊢; subst hq; rfl
      | true => rw [if_pos rfl] at hq ⊢; rw [List.singleton_append, List.foldlM_cons, hq]; rfl
    have hg : ∀ L : List Nat, gW S ((if b = true then [z.k] else []) ++ L) = gain S z b + gW S L := fun L => by
      rw [gW_app]
      cases b with
      | false => rfl
      | true => unfold gW gain; rw [if_pos rfl, if_pos rfl]; simp
    have hin : ∀ L : List Nat, (∀ i ∈ L, InS S i) → ∀ i ∈ (if b = true then [z.k] else []) ++ L, InS S i := fun L hL i hi => by
      rcases List.mem_append.mp hi with w | w
      · cases b with
        | false => cases w
        | true => rw [if_pos rfl] at w; rw [List.mem_singleton.mp w]; exact hz.k
      · exact hL i w
    rw [ep, hfold, hg, hV]
    unfold byT
    by_cases c : z.k + 1 = S.looks.length
    · have : n = 0 := by omega
      subst this
      have : sb S z b most = [] := by unfold sb; rw [if_pos c]
      rw [this]
      exact ⟨rfl, Int.le_refl _, hin _ fun i hi => (nomatch hi)⟩
    · have hk1 : InS S (z.k + 1) := by have := hz.k; unfold InS; omega
      have hs := m.st z.k (z.k + 1) (Nat.le_succ _) hk1
      have hy : nxt S fail (mvK S most K0) z ∈ sb S z b most := by
        refine sb_mem.mpr ⟨c, fat S fail (lk S (z.k + 1)).s, ?_, ?_⟩
        · rw [hf]; exact fat_next m hm hs
        · unfold nxt; rw [hbb]
      have wy := (sb_wf o hz hy).1
      have ky := hK z hk _ (List.mem_flatMap.mpr ⟨b, moves_in hb, hy⟩)
      have agy : Ag (woE S fail) (nxt S fail (mvK S most K0) z) q := by
        refine ag_next oT mT ag hk1 rfl (by unfold nxt; rw [hbb]) (by unfold nxt; rw [hbb]; rfl) ?_ hq
        unfold nxt
        rw [hbb]
        exact ab_agree fun i e he hlt => fat_mem he (by omega)
      obtain ⟨r1, r2, r3⟩ := pth_ok ok hn' hm hK n _ q (by show z.k + 1 + n = _; omega) wy ky rfl agy
      refine ⟨r1, ?_, hin _ r3⟩
      have ne : (sb S z b most).map (V S most) ≠ [] := fun w => by rw [List.map_eq_nil_iff] at w; rw [w] at hy; cases hy
      have := (best0_le ne).1 _ (List.mem_map_of_mem hy)
      omega
/-- what is taken: a plan of what is left, worth at least what is sure -/
theorem taken_ok {n' : Nat} {S : Sky} {fail : List Nat} {most : Nat} {K0 F : List Zt} (ok : SkyOk n' S) (hn' : n' ≤ 3) (hm : FLen S fail most) (hp : K0.Perm F) (hF : reF S most F) :
    Plan (woE S fail) (takenT S fail (mvK S most K0)) ∧ sureT S most ≤ gW S (takenT S fail (mvK S most K0)) ∧ ∀ i ∈ takenT S fail (mvK S most K0), InS S i := by
  have o := ok.toS hn'
  have m := ok.toM
  unfold takenT sureT
  by_cases hl : S.looks = []
  · rw [if_pos hl]
    have : fs S most = [] := by unfold fs; rw [if_pos hl]
    rw [this]
    exact ⟨rfl, Int.le_refl 0, fun i hi => (nomatch hi)⟩
  · rw [if_neg hl]
    have h0 : InS S 0 := List.length_pos_iff.mpr hl
    have hy : z00 S fail ∈ fs S most := (fs_mem hl).mpr ⟨_, fat_first o m hm (m.s0 0 h0), rfl⟩
    have wy := (fs_wf o hy).1
    obtain ⟨_, f1, f2, _⟩ := hF
    obtain ⟨r1, r2, r3⟩ := pth_ok (K0 := K0) ok hn' hm (fun z hz y hy => hp.mem_iff.mpr (f2 z (hp.mem_iff.mp hz) y hy)) S.looks.length (z00 S fail) pt0 (Nat.zero_add _) wy (hp.mem_iff.mpr (f1 _ hy)) rfl ag0
    refine ⟨r1, ?_, r3⟩
    have ne : (fs S most).map (V S most) ≠ [] := fun w => by rw [List.map_eq_nil_iff] at w; rw [w] at hy; cases hy
    have := (best0_le ne).1 _ (List.mem_map_of_mem hy)
    omega
theorem bst_sure {n' : Nat} {S : Sky} (ok : SkyOk n' S) (hn' : n' ≤ 3) {F : List Zt} (hF : reF S 0 F) : Bst S (sureT S 0) := by
  have o := ok.toS hn'
  have m := ok.toM
  have hm : FLen S [] 0 := fun t => by
    unfold fat
    rw [List.filter_eq_nil_iff.mpr fun i _ => by simp]
    exact Nat.le_refl 0
  obtain ⟨h1, h2, h3⟩ := taken_ok ok hn' hm (List.Perm.refl F) hF
  rw [wo_nil] at h1
  have := sure_ge o m h3 h1
  exact ⟨fun xs hx hp => sure_ge o m hx hp, _, h3, h1, by omega⟩
end Pl
set_option linter.all false
set_option maxRecDepth 100000
/-! Ev34: chances sum to one. -/
namespace Pl
open PySem Da
theorem sum_perm {α : Type} {f : α → Int} {a b : List α} (h : a.Perm b) : (a.map f).sum = (b.map f).sum := by
  induction h with
  | nil => rfl
  | cons x _ ih => rw [List.map_cons, List.map_cons, List.sum_cons, List.sum_cons, ih]
  | swap x y l => rw [List.map_cons, List.map_cons, List.map_cons, List.map_cons, List.sum_cons, List.sum_cons, List.sum_cons, List.sum_cons]; omega
  | trans _ _ i1 i2 => rw [i1, i2]
theorem sum_mul {α : Type} {f : α → Int} (c : Int) : ∀ xs : List α, (xs.map fun a => f a * c).sum = (xs.map f).sum * c
  | [] => by simp
  | x :: xs => by rw [List.map_cons, List.map_cons, List.sum_cons, List.sum_cons, sum_mul c xs, Int.add_mul]
theorem allW_sum {ch : List Fr} : ∀ (ns : List Nat) (F : List (List Nat)) (w : List Nat → Int), ns.Nodup → (∀ f ∈ F, ∀ n ∈ ns, n ∉ f) → (∀ f n, n ∈ ns → w (f ++ [n]) = w f) →
    ((ns.foldl (fun F n => F ++ F.map (· ++ [n])) F).map fun f => w f * CA ch f ns).sum = (F.map w).sum * DA ch ns
  | [], F, w, _, _, _ => by
    have e1 : ∀ f, CA ch f [] = 1 := fun f => rfl
    have e2 : DA ch [] = 1 := rfl
    rw [e2, Int.mul_one]
    exact sum_eq _ fun f _ => by rw [e1, Int.mul_one]
  | n :: ns, F, w, nd, hd, hw => by
    obtain ⟨n1, n2⟩ := List.nodup_cons.mp nd
    have ih := allW_sum (ch := ch) ns (F ++ F.map (· ++ [n])) (fun f => w f * cfi ch f n) n2 (fun f hf m hm => by
      rcases List.mem_append.mp hf with q | q
      · exact hd f q m (List.mem_cons_of_mem _ hm)
      · obtain ⟨g, hg, rfl⟩ := List.mem_map.mp q
        rw [List.mem_append, List.mem_singleton]
        rintro (q | rfl)
        · exact hd g hg m (List.mem_cons_of_mem _ hm) q
        · exact n1 hm) (fun f m hm => by
      have e : cfi ch (f ++ [m]) n = cfi ch f n := by
        unfold cfi
        have hne : n ≠ m := fun q => n1 (q ▸ hm)
        have : n ∈ f ++ [m] ↔ n ∈ f := by rw [List.mem_append, List.mem_singleton]; exact ⟨fun q => q.elim id fun q => absurd q hne, .inl⟩
        by_cases c : n ∈ f
        · rw [if_pos c, if_pos (this.mpr c)]
        · rw [if_neg c, if_neg fun q => c (this.mp q)]
      show w (f ++ [m]) * cfi ch (f ++ [m]) n = _
      rw [hw f m (List.mem_cons_of_mem _ hm), e])
    have e1 : ∀ f, w f * CA ch f (n :: ns) = w f * cfi ch f n * CA ch f ns := fun f => by
      have : CA ch f (n :: ns) = cfi ch f n * CA ch f ns := rfl
      rw [this, Int.mul_assoc]
    rw [List.foldl_cons, sum_eq _ fun f _ => e1 f, ih, List.map_append, List.sum_append, List.map_map]
    have e2 : DA ch (n :: ns) = (cn ch n).2 * DA ch ns := rfl
    rw [e2, ← Int.mul_assoc, ← sum_mul, ← sum_add]
    congr 1
    refine sum_eq _ fun f hf => ?_
    show w f * cfi ch f n + w (f ++ [n]) * cfi ch (f ++ [n]) n = w f * (cn ch n).2
    rw [hw f n (List.mem_cons_self ..), ← Int.mul_add]
    congr 1
    unfold cfi
    rw [if_neg (hd f hf n (List.mem_cons_self ..)), if_pos (List.mem_append_right _ (List.mem_singleton.mpr rfl))]
    omega
theorem allW_in {ns fl : List Nat} : ∀ f ∈ allW ns fl, ∀ i ∈ f, i ∈ fl ∨ i ∈ ns := by
  unfold allW
  have gen : ∀ (ns : List Nat) (F : List (List Nat)) (P : Nat → Prop), (∀ f ∈ F, ∀ i ∈ f, P i) → (∀ i ∈ ns, P i) → ∀ f ∈ ns.foldl (fun F n => F ++ F.map (· ++ [n])) F, ∀ i ∈ f, P i := by
    intro ns
    induction ns with
    | nil => intro F P h _; exact h
    | cons n ns ih =>
      intro F P h hn
      rw [List.foldl_cons]
      refine ih _ P (fun f hf i hi => ?_) fun i hi => hn i (List.mem_cons_of_mem _ hi)
      rcases List.mem_append.mp hf with q | q
      · exact h f q i hi
      · obtain ⟨g, hg, rfl⟩ := List.mem_map.mp q
        rcases List.mem_append.mp hi with q | q
        · exact h g hg i q
        · rw [List.mem_singleton.mp q]; exact hn n (List.mem_cons_self ..)
  exact gen ns [fl] (fun i => i ∈ fl ∨ i ∈ ns) (fun f hf i hi => by rw [List.mem_singleton.mp hf] at hi; exact .inl hi) fun i hi => .inr hi
theorem ways_in {ns fl f : List Nat} {most : Nat} (h : f ∈ ways ns fl most) : ∀ i ∈ f, i ∈ fl ∨ i ∈ ns := by
  unfold ways at h
  rw [(srt_perm _ _).mem_iff] at h
  exact allW_in f (List.mem_filter.mp h).1
theorem ways_all {ns fl : List Nat} {most : Nat} (h : fl.length + ns.length ≤ most) : (allW ns fl).filter (fun f => decide (f.length ≤ most)) = allW ns fl := by
  refine List.filter_eq_self.mpr fun f hf => decide_eq_true ?_
  have := foldW_size ns [fl] fl.length (fun g hg => by rw [List.mem_singleton.mp hg]; exact Nat.le_refl _) f hf
  omega
theorem ways_eq {ns fl : List Nat} {a b : Nat} (h : fl.length + ns.length ≤ a) (h2 : fl.length + ns.length ≤ b) : ways ns fl a = ways ns fl b := by
  unfold ways
  rw [ways_all h, ways_all h2]
theorem ways_sum {ch : List Fr} {ns fl : List Nat} {most : Nat} (h : fl.length + ns.length ≤ most) (nd : ns.Nodup) (hd : ∀ n ∈ ns, n ∉ fl) : ((ways ns fl most).map fun f => CA ch f ns).sum = DA ch ns := by
  have e := allW_sum (ch := ch) ns [fl] (fun _ => 1) nd (fun f hf n hn => by rw [List.mem_singleton.mp hf]; exact hd n hn) fun _ _ _ => rfl
  unfold ways
  rw [sum_perm (srt_perm _ _), ways_all h]
  unfold allW
  rw [show (fun f => (1 : Int) * CA ch f ns) = fun f => CA ch f ns from funext fun f => Int.one_mul _] at e
  rw [e]
  simp
end Pl
set_option linter.all false
set_option maxRecDepth 100000
/-! Ev35: the mean lies between. -/
namespace Pl
open PySem Da
/-- the failed so far have begun, and there is room for the others -/
structure Fl (S : Sky) (z : Zt) : Prop where
  i : ∀ i ∈ z.fl, efi S i ≤ (lk S z.k).s
  n : z.fl.length + (aft S (lk S z.k).s).length ≤ S.ears.length
theorem bb_efiM {S : Sky} {s u : Int} {i : Nat} (h : i ∈ bb S s u) : s < efi S i ∧ efi S i ≤ u := by
  rw [bb_efi] at h
  have := (List.mem_filter.mp h).2
  rw [Bool.and_eq_true] at this
  exact ⟨of_decide_eq_true this.1, of_decide_eq_true this.2⟩
theorem bb_nd {S : Sky} {s u : Int} : (bb S s u).Nodup := by
  rw [bb_efi]
  exact List.Nodup.sublist List.filter_sublist List.nodup_range
theorem fl_next {S : Sky} {z y : Zt} {b : Bool} {most : Nat} (m : OkM S) (hk : InS S (z.k + 1)) (h : Fl S z) (hy : y ∈ sb S z b most) : Fl S y := by
  obtain ⟨_, f, hf, ey⟩ := sb_mem.mp hy
  have hs := m.st z.k (z.k + 1) (Nat.le_succ _) hk
  have sp := aft_split m hs
  refine ⟨fun i hi => ?_, ?_⟩
  · rw [ey] at hi ⊢
    rcases ways_in hf i hi with q | q
    · have := h.i i q; show efi S i ≤ (lk S (z.k + 1)).s; omega
    · exact (bb_efiM q).2
  · have := ways_size hf
    have h2 := h.n
    rw [sp, List.length_append] at h2
    rw [ey]
    show f.length + (aft S (lk S (z.k + 1)).s).length ≤ _
    omega
theorem fl_room {S : Sky} {z : Zt} (m : OkM S) (hk : InS S (z.k + 1)) (h : Fl S z) : z.fl.length + (bb S (lk S z.k).s (lk S (z.k + 1)).s).length ≤ S.ears.length := by
  have hs := m.st z.k (z.k + 1) (Nat.le_succ _) hk
  have h2 := h.n
  rw [aft_split m hs, List.length_append] at h2
  omega
theorem sb_sum {S : Sky} {ch : List Fr} {z : Zt} {b : Bool} (m : OkM S) (hk : InS S (z.k + 1)) (h : Fl S z) : ((sb S z b S.ears.length).map fun y => CA ch y.fl (bb S (lk S z.k).s (lk S y.k).s)).sum = DA ch (bb S (lk S z.k).s (lk S (z.k + 1)).s) := by
  unfold sb
  unfold InS at hk
  rw [if_neg (by omega), sum_perm (srt_perm _ _)]
  unfold sbR
  rw [List.map_map]
  exact ways_sum (fl_room m hk h) bb_nd fun n hn q => by
    have := h.i n q
    have := (bb_efiM hn).1
    omega
theorem lss_ge : ∀ (L : List Int) (a : Int), a ≤ L.foldl lss a ∧ ∀ x ∈ L, x ≤ L.foldl lss a
  | [], a => ⟨Int.le_refl _, fun x hx => (nomatch hx)⟩
  | y :: L, a => by
    obtain ⟨h1, h2⟩ := lss_ge L (lss a y)
    have e : a ≤ lss a y ∧ y ≤ lss a y := by unfold lss; split <;> omega
    rw [List.foldl_cons]
    refine ⟨by omega, fun x hx => ?_⟩
    rcases List.mem_cons.mp hx with rfl | hx
    · omega
    · exact h2 x hx
theorem lss_le : ∀ (L : List Int) (a c : Int), a ≤ c → (∀ x ∈ L, x ≤ c) → L.foldl lss a ≤ c
  | [], a, c, h, _ => h
  | y :: L, a, c, h, h2 => by
    rw [List.foldl_cons]
    refine lss_le L _ c ?_ fun x hx => h2 x (List.mem_cons_of_mem _ hx)
    have := h2 y (List.mem_cons_self ..)
    unfold lss
    split <;> omega
theorem MM0 {S : Sky} {ch : List Fr} {z : Zt} (o : OkS S) (h : Wf S z) : 0 ≤ MM S ch z := by
  rw [MM_eq o h]
  exact (lss_ge _ 0).1
theorem V0 {S : Sky} {most : Nat} (o : OkS S) : ∀ (n : Nat) (z : Zt), z.k + n = S.looks.length → Wf S z → 0 ≤ V S most z
  | 0, z, hn, hz => absurd hz.k (by omega)
  | n + 1, z, hn, hz => by
    refine Int.le_trans ?_ (V_move (b := false) o hz fun q => (nomatch q))
    unfold byT
    have e : gain S z false = 0 := rfl
    rw [e]
    by_cases c : (sb S z false most).map (V S most) = []
    · rw [c]; exact Int.le_refl 0
    · obtain ⟨y, hy, ey⟩ := List.mem_map.mp (best0_le c).2
      rw [← ey]
      obtain ⟨wy, ky⟩ := sb_wf o hz hy
      have := V0 (most := most) o n y (by omega) wy
      omega
/-- more in store and fewer to come: no more is to be had -/
theorem MM_le {S : Sky} {ch : List Fr} (o : OkS S) (m : OkM S) (hc : OkC S ch) : ∀ (n : Nat) (z z' : Zt), z.k + n = S.looks.length → Wf S z → Fl S z → Wf S z' → z'.fl = [] → z'.k = z.k → z'.last = z.last → z'.ws = z.ws → z'.am ≤ z.am → MM S ch z ≤ V S 0 z' * Dt S ch (lk S z.k).s
  | 0, z, _, hn, hz, _, _, _, _, _, _, _ => absurd hz.k (by omega)
  | n + 1, z, z', hn, hz, hl, hz', hf', ek, el, ew, ea => by
    have dp := (Dt_sml o hc (lk S z.k).s).1
    have v0 := V0 (most := 0) o (n + 1) z' (by omega) hz'
    rw [MM_eq o hz]
    refine lss_le _ _ _ (Int.mul_nonneg v0 (by omega)) fun x hx => ?_
    obtain ⟨b, hb, rfl⟩ := List.mem_map.mp hx
    have hb' : b = true → mt S z' = true := fun q => by
      have h1 := moves_mt hb q
      unfold mt at h1 ⊢
      rw [ek, el, ew]
      rw [Bool.and_eq_true, Bool.not_eq_true', Bool.or_eq_false_iff, decide_eq_false_iff_not, decide_eq_false_iff_not] at h1 ⊢
      exact ⟨⟨h1.1.1, by omega⟩, h1.2⟩
    have hv := V_move (most := 0) o hz' hb'
    refine Int.le_trans ?_ (Int.mul_le_mul_of_nonneg_right hv (by omega))
    have eg : gain S z' b = gain S z b := by unfold gain; rw [ek]
    unfold toldN byT
    rw [eg, Int.add_mul]
    refine Int.add_le_add_left ?_ _
    by_cases c : z.k + 1 = S.looks.length
    · have e1 : sb S z b S.ears.length = [] := by unfold sb; rw [if_pos c]
      have e2 : sb S z' b 0 = [] := by unfold sb; rw [if_pos (by rw [ek]; exact c)]
      rw [e1, e2]
      show (0 : Int) ≤ 0 * _
      omega
    · have hk := hz.k
      have hk1 : InS S (z.k + 1) := by unfold InS; omega
      have hs := m.st z.k (z.k + 1) (Nat.le_succ _) hk1
      have ne : (sb S z' b 0).map (V S 0) ≠ [] := by
        rw [Ne, List.map_eq_nil_iff]
        intro q
        have : (⟨z'.k + 1, zl z' b, abT (woE S []) z'.am (zl z' b) (lk S z'.k).s (lk S (z'.k + 1)).s, zw S z' b, []⟩ : Zt) ∈ sb S z' b 0 := sb_mem.mpr ⟨by rw [ek]; exact c, [], by rw [hf']; exact nil_ways, rfl⟩
        rw [q] at this
        cases this
      obtain ⟨y', hy', ev⟩ := List.mem_map.mp (best0_le ne).2
      rw [← ev]
      obtain ⟨_, f', hf, ey'⟩ := sb_mem.mp hy'
      rw [hf'] at hf
      have := ways0 hf
      subst this
      have wy' := (sb_wf o hz' hy').1
      have elz : zl z' b = zl z b := by unfold zl; rw [ek, el]
      have ewz : zw S z' b = zw S z b := by unfold zw; rw [ek, ew]
      have bnd : ∀ y ∈ sb S z b S.ears.length, CA ch y.fl (bb S (lk S z.k).s (lk S y.k).s) * MM S ch y ≤ CA ch y.fl (bb S (lk S z.k).s (lk S y.k).s) * (V S 0 y' * Dt S ch (lk S (z.k + 1)).s) := fun y hy => by
        have wy := (sb_wf o hz hy)
        have fy := fl_next m hk1 hl hy
        obtain ⟨_, f, hfw, ey⟩ := sb_mem.mp hy
        have ca := (CA_ok hc (fl := y.fl) (bb S (lk S z.k).s (lk S y.k).s) (bb_in hc)).1
        refine Int.mul_le_mul_of_nonneg_left ?_ ca
        have := MM_le o m hc n y y' (by rw [wy.2]; omega) wy.1 fy wy' (by rw [ey']) (by rw [ey', ey]; show z'.k + 1 = z.k + 1; rw [ek]) (by rw [ey', ey]; exact elz) (by rw [ey', ey]; exact ewz) (by
          rw [ey', ey]
          show abT (woE S []) z'.am (zl z' b) (lk S z'.k).s (lk S (z'.k + 1)).s ≤ abT (woE S f) z.am (zl z b) (lk S z.k).s (lk S (z.k + 1)).s
          rw [ek, elz]
          have ls : ∀ s u, lossT (outE S.ears f) s u ≤ lossT (outE S.ears []) s u := fun s u => loss_sub (f := []) (g := f) o.ears (by intro i hi; cases hi)
          unfold abT
          cases zl z b with
          | none => exact em_mono ea (ls _ _)
          | some j =>
            show (if (lk S z.k).s < (lk S j).e ∧ (lk S j).e ≤ (lk S (z.k + 1)).s then emT (outE S.ears []) (emT (outE S.ears []) z'.am (lk S z.k).s (lk S j).e + (lk S j).z) (lk S j).e (lk S (z.k + 1)).s else emT (outE S.ears []) z'.am (lk S z.k).s (lk S (z.k + 1)).s) ≤ (if (lk S z.k).s < (lk S j).e ∧ (lk S j).e ≤ (lk S (z.k + 1)).s then emT (outE S.ears f) (emT (outE S.ears f) z.am (lk S z.k).s (lk S j).e + (lk S j).z) (lk S j).e (lk S (z.k + 1)).s else emT (outE S.ears f) z.am (lk S z.k).s (lk S (z.k + 1)).s)
            by_cases d : (lk S z.k).s < (lk S j).e ∧ (lk S j).e ≤ (lk S (z.k + 1)).s
            · rw [if_pos d, if_pos d]
              exact em_mono (Int.add_le_add_right (em_mono ea (ls _ _)) _) (ls _ _)
            · rw [if_neg d, if_neg d]
              exact em_mono ea (ls _ _))
        rw [wy.2] at this
        exact this
      refine Int.le_trans (sum_le _ bnd) ?_
      rw [sum_mul, sb_sum m hk1 hl, Dt_split m hs]
      rw [← Int.mul_assoc, ← Int.mul_assoc, Int.mul_comm (DA ch _) (V S 0 y')]
      exact Int.le_refl _
end Pl
set_option linter.all false
set_option maxRecDepth 100000
/-! Ev36: the mean is at least what is sure; without failing it is the best. -/
namespace Pl
open PySem Da
theorem sum_ge {α : Type} {f : α → Int} : ∀ (xs : List α), (∀ a ∈ xs, 0 ≤ f a) → ∀ a ∈ xs, f a ≤ (xs.map f).sum
  | [], _, a, h => (nomatch h)
  | x :: xs, h0, a, h => by
    have s0 : 0 ≤ (xs.map f).sum := sum_nonneg _ fun y hy => by
      obtain ⟨b, hb, rfl⟩ := List.mem_map.mp hy
      exact h0 b (List.mem_cons_of_mem _ hb)
    have x0 := h0 x (List.mem_cons_self ..)
    rw [List.map_cons, List.sum_cons]
    rcases List.mem_cons.mp h with rfl | h
    · omega
    · have := sum_ge xs (fun b hb => h0 b (List.mem_cons_of_mem _ hb)) a h
      omega
theorem V_at {S : Sky} {most : Nat} {z : Zt} (o : OkS S) (h : Wf S z) : ∃ b, b ∈ moves S z ∧ V S most z = byT S most z b := by
  have := (mx_le (xs := (moves S z).map (byT S most z)) (by rw [Ne, List.map_eq_nil_iff]; exact moves_ne)).2
  rw [← V_eq o h] at this
  obtain ⟨b, hb, e⟩ := List.mem_map.mp this
  exact ⟨b, hb, e.symm⟩
theorem told_le {S : Sky} {ch : List Fr} {z : Zt} {b : Bool} (o : OkS S) (h : Wf S z) (hb : b ∈ moves S z) : toldN S ch (MM S ch) z b ≤ MM S ch z := by
  rw [MM_eq o h]
  exact (lss_ge _ 0).2 _ (List.mem_map_of_mem hb)
theorem MM_ge {S : Sky} {ch : List Fr} (o : OkS S) (m : OkM S) (hc : OkC S ch) : ∀ (n : Nat) (z : Zt), z.k + n = S.looks.length → Wf S z → Fl S z → V S 4 z * Dt S ch (lk S z.k).s ≤ MM S ch z
  | 0, z, hn, hz, _ => absurd hz.k (by omega)
  | n + 1, z, hn, hz, hl => by
    obtain ⟨b, hb, e⟩ := V_at (most := 4) o hz
    refine Int.le_trans ?_ (told_le o hz hb)
    rw [e]
    unfold toldN byT
    rw [Int.add_mul]
    refine Int.add_le_add_left ?_ _
    by_cases c : z.k + 1 = S.looks.length
    · have e1 : sb S z b S.ears.length = [] := by unfold sb; rw [if_pos c]
      have e2 : sb S z b 4 = [] := by unfold sb; rw [if_pos c]
      rw [e1, e2]
      show 0 * _ ≤ (0 : Int)
      omega
    · have hk := hz.k
      have hk1 : InS S (z.k + 1) := by unfold InS; omega
      have hs := m.st z.k (z.k + 1) (Nat.le_succ _) hk1
      have rm := fl_room m hk1 hl
      have el := o.elen
      have es : sb S z b 4 = sb S z b S.ears.length := by
        unfold sb sbR
        rw [ways_eq (b := S.ears.length) (by omega) rm]
      rw [es]
      have bnd : ∀ y ∈ sb S z b S.ears.length, CA ch y.fl (bb S (lk S z.k).s (lk S y.k).s) * (best0 ((sb S z b S.ears.length).map (V S 4)) * Dt S ch (lk S (z.k + 1)).s) ≤ CA ch y.fl (bb S (lk S z.k).s (lk S y.k).s) * MM S ch y := fun y hy => by
        have wy := sb_wf o hz hy
        have fy := fl_next m hk1 hl hy
        have ca := (CA_ok hc (fl := y.fl) (bb S (lk S z.k).s (lk S y.k).s) (bb_in hc)).1
        refine Int.mul_le_mul_of_nonneg_left ?_ ca
        have ih := MM_ge o m hc n y (by rw [wy.2]; omega) wy.1 fy
        rw [wy.2] at ih
        have ne : (sb S z b S.ears.length).map (V S 4) ≠ [] := fun w => by rw [List.map_eq_nil_iff] at w; rw [w] at hy; cases hy
        have le := (best0_le ne).1 _ (List.mem_map_of_mem hy)
        have dp := (Dt_sml o hc (lk S (z.k + 1)).s).1
        exact Int.le_trans (Int.mul_le_mul_of_nonneg_right le (by omega)) ih
      refine Int.le_trans ?_ (sum_le _ bnd)
      rw [sum_mul, sb_sum m hk1 hl, Dt_split m hs]
      rw [← Int.mul_assoc, ← Int.mul_assoc, Int.mul_comm (DA ch _) (best0 _)]
      exact Int.le_refl _
end Pl
set_option linter.all false
set_option maxRecDepth 100000
/-! Ev37: no chance of failing. -/
namespace Pl
open PySem Da
def Zer (ch : List Fr) : Prop := ∀ i, cn ch i = (0, 1)
theorem zer_DA {ch : List Fr} (h : Zer ch) : ∀ ns, DA ch ns = 1
  | [] => rfl
  | n :: ns => by
    have e : DA ch (n :: ns) = (cn ch n).2 * DA ch ns := rfl
    rw [e, zer_DA h ns, h n]
    rfl
theorem zer_CA {ch : List Fr} (h : Zer ch) : ∀ ns, CA ch [] ns = 1
  | [] => rfl
  | n :: ns => by
    have e : CA ch [] (n :: ns) = cfi ch [] n * CA ch [] ns := rfl
    have e2 : cfi ch [] n = 1 := by
      unfold cfi
      rw [if_neg (fun q => nomatch q), h n]
      rfl
    rw [e, zer_CA h ns, e2]
    rfl
theorem zer_map {S : Sky} : Zer (S.ears.map fun _ => ((0, 1) : Fr)) := fun i => by
  unfold cn
  rw [List.getElem?_map]
  cases S.ears[i]? <;> rfl
theorem okc_zer {S : Sky} : OkC S (S.ears.map fun _ => ((0, 1) : Fr)) where
  len := List.length_map ..
  c := fun x hx => by
    obtain ⟨_, _, rfl⟩ := List.mem_map.mp hx
    decide
theorem MM_zer {S : Sky} {ch : List Fr} (o : OkS S) (m : OkM S) (hc : OkC S ch) (hz0 : Zer ch) : ∀ (n : Nat) (z : Zt), z.k + n = S.looks.length → Wf S z → z.fl = [] → V S 0 z ≤ MM S ch z
  | 0, z, hn, hz, _ => absurd hz.k (by omega)
  | n + 1, z, hn, hz, hf => by
    obtain ⟨b, hb, e⟩ := V_at (most := 0) o hz
    refine Int.le_trans ?_ (told_le o hz hb)
    rw [e]
    unfold toldN byT
    have d1 : Dt S ch (lk S z.k).s = 1 := zer_DA hz0 _
    rw [d1, Int.mul_one]
    refine Int.add_le_add_left ?_ _
    by_cases c : z.k + 1 = S.looks.length
    · have e1 : sb S z b S.ears.length = [] := by unfold sb; rw [if_pos c]
      have e2 : sb S z b 0 = [] := by unfold sb; rw [if_pos c]
      rw [e1, e2]
      exact Int.le_refl 0
    · let y : Zt := ⟨z.k + 1, zl z b, abT (woE S []) z.am (zl z b) (lk S z.k).s (lk S (z.k + 1)).s, zw S z b, []⟩
      have hy0 : y ∈ sb S z b 0 := sb_mem.mpr ⟨c, [], by rw [hf]; exact nil_ways, rfl⟩
      have hy : y ∈ sb S z b S.ears.length := sb_mem.mpr ⟨c, [], by rw [hf]; exact nil_ways, rfl⟩
      have wy := sb_wf o hz hy
      have ne : (sb S z b 0).map (V S 0) ≠ [] := fun w => by rw [List.map_eq_nil_iff] at w; rw [w] at hy0; cases hy0
      refine Int.le_trans ((best0_le ne).1 _ (List.mem_map_of_mem hy0)) ?_
      refine Int.le_trans (MM_zer o m hc hz0 n y (by rw [wy.2]; omega) wy.1 rfl) ?_
      have g := sum_ge (f := fun y : Zt => CA ch y.fl (bb S (lk S z.k).s (lk S y.k).s) * MM S ch y) (sb S z b S.ears.length) (fun a ha => Int.mul_nonneg (CA_ok hc (fl := a.fl) _ (bb_in hc)).1 (MM0 o (sb_wf o hz ha).1)) y hy
      refine Int.le_trans ?_ g
      show MM S ch y ≤ CA ch [] _ * MM S ch y
      rw [zer_CA hz0, Int.one_mul]
      exact Int.le_refl _
end Pl
set_option linter.all false
set_option maxRecDepth 100000
/-! Ev38: the mean worth against the sure and the best worth. -/
namespace Pl
open PySem Da
theorem aft_all {S : Sky} (o : OkS S) : aft S (-1) = List.range S.ears.length := by
  unfold aft
  refine List.filter_eq_self.mpr fun i hi => decide_eq_true ?_
  have hi' := List.mem_range.mp hi
  unfold efi
  rw [List.getElem?_eq_getElem hi']
  have := o.ears S.ears[i] (List.getElem_mem ..)
  show -1 < S.ears[i].f
  omega
theorem fs_fl {S : Sky} {most : Nat} {y : Zt} (o : OkS S) (m : OkM S) (hl : S.looks ≠ []) (hy : y ∈ fs S most) : Fl S y := by
  have h0 : InS S 0 := List.length_pos_iff.mpr hl
  have s0 := m.s0 0 h0
  obtain ⟨f, hf, ey⟩ := (fs_mem hl).mp hy
  have sp := aft_split m (t := -1) (u := (lk S 0).s) (by omega)
  have a0 : (aft S (-1)).length ≤ S.ears.length := by rw [aft_all o, List.length_range]; exact Nat.le_refl _
  rw [sp, List.length_append] at a0
  have sz := ways_size hf
  rw [List.length_nil] at sz
  refine ⟨fun i hi => ?_, ?_⟩
  · rw [ey] at hi ⊢
    rcases ways_in hf i hi with q | q
    · cases q
    · exact (bb_efiM q).2
  · rw [ey]
    show f.length + (aft S (lk S 0).s).length ≤ _
    omega
theorem fs_room {S : Sky} (o : OkS S) : ([] : List Nat).length + (bb S (-1) (lk S 0).s).length ≤ S.ears.length := by
  rw [List.length_nil, Nat.zero_add, bb_efi]
  exact Nat.le_trans (List.length_filter_le ..) (by rw [List.length_range]; exact Nat.le_refl _)
theorem fs_sum {S : Sky} {ch : List Fr} (o : OkS S) (hl : S.looks ≠ []) : ((fs S S.ears.length).map fun y => CA ch y.fl (bb S (-1) (lk S 0).s)).sum = DA ch (bb S (-1) (lk S 0).s) := by
  unfold fs
  rw [if_neg hl, List.map_map]
  exact ways_sum (fs_room o) bb_nd fun n _ q => nomatch q
theorem MWN_le {S : Sky} {ch : List Fr} (o : OkS S) (m : OkM S) (hc : OkC S ch) : MWN S ch ≤ sureT S 0 * Dt S ch (-1) := by
  unfold MWN sureT
  by_cases hl : S.looks = []
  · have e1 : ∀ n, fs S n = [] := fun n => by unfold fs; rw [if_pos hl]
    rw [e1, e1]
    show (0 : Int) ≤ 0 * _
    omega
  · have h0 : InS S 0 := List.length_pos_iff.mpr hl
    have s0 := m.s0 0 h0
    have ne : (fs S 0).map (V S 0) ≠ [] := by
      rw [Ne, List.map_eq_nil_iff]
      intro q
      have : (⟨0, none, 0, [], []⟩ : Zt) ∈ fs S 0 := (fs_mem hl).mpr ⟨[], nil_ways, rfl⟩
      rw [q] at this
      cases this
    obtain ⟨y', hy', ev⟩ := List.mem_map.mp (best0_le ne).2
    rw [← ev]
    obtain ⟨f', hf', ey'⟩ := (fs_mem hl).mp hy'
    have := ways0 hf'
    subst this
    have bnd : ∀ y ∈ fs S S.ears.length, CA ch y.fl (bb S (-1) (lk S 0).s) * MM S ch y ≤ CA ch y.fl (bb S (-1) (lk S 0).s) * (V S 0 y' * Dt S ch (lk S 0).s) := fun y hy => by
      have wy := fs_wf o hy
      obtain ⟨f, hf, ey⟩ := (fs_mem hl).mp hy
      have ca := (CA_ok hc (fl := y.fl) (bb S (-1) (lk S 0).s) (bb_in hc)).1
      refine Int.mul_le_mul_of_nonneg_left ?_ ca
      have := MM_le o m hc S.looks.length y y' (by rw [wy.2]; exact Nat.zero_add _) wy.1 (fs_fl o m hl hy) (fs_wf o hy').1 (by rw [ey']) (by rw [ey', ey]) (by rw [ey', ey]) (by rw [ey', ey]) (by rw [ey', ey]; exact Int.le_refl _)
      rw [wy.2] at this
      exact this
    refine Int.le_trans (sum_le _ bnd) ?_
    rw [sum_mul, fs_sum o hl, Dt_split m (t := -1) (u := (lk S 0).s) (by omega)]
    rw [← Int.mul_assoc, ← Int.mul_assoc, Int.mul_comm (DA ch _) (V S 0 y')]
    exact Int.le_refl _
theorem MWN_ge {S : Sky} {ch : List Fr} (o : OkS S) (m : OkM S) (hc : OkC S ch) : sureT S 4 * Dt S ch (-1) ≤ MWN S ch := by
  unfold MWN sureT
  by_cases hl : S.looks = []
  · have e1 : ∀ n, fs S n = [] := fun n => by unfold fs; rw [if_pos hl]
    rw [e1, e1]
    show 0 * _ ≤ (0 : Int)
    omega
  · have h0 : InS S 0 := List.length_pos_iff.mpr hl
    have s0 := m.s0 0 h0
    have el := o.elen
    have rm := fs_room o
    have es : fs S 4 = fs S S.ears.length := by
      unfold fs
      rw [ways_eq (b := S.ears.length) (by omega) rm]
    rw [es]
    have bnd : ∀ y ∈ fs S S.ears.length, CA ch y.fl (bb S (-1) (lk S 0).s) * (best0 ((fs S S.ears.length).map (V S 4)) * Dt S ch (lk S 0).s) ≤ CA ch y.fl (bb S (-1) (lk S 0).s) * MM S ch y := fun y hy => by
      have wy := fs_wf o hy
      have ca := (CA_ok hc (fl := y.fl) (bb S (-1) (lk S 0).s) (bb_in hc)).1
      refine Int.mul_le_mul_of_nonneg_left ?_ ca
      have ih := MM_ge o m hc S.looks.length y (by rw [wy.2]; exact Nat.zero_add _) wy.1 (fs_fl o m hl hy)
      rw [wy.2] at ih
      have ne : (fs S S.ears.length).map (V S 4) ≠ [] := fun w => by rw [List.map_eq_nil_iff] at w; rw [w] at hy; cases hy
      have le := (best0_le ne).1 _ (List.mem_map_of_mem hy)
      have dp := (Dt_sml o hc (lk S 0).s).1
      exact Int.le_trans (Int.mul_le_mul_of_nonneg_right le (by omega)) ih
    refine Int.le_trans ?_ (sum_le _ bnd)
    rw [sum_mul, fs_sum o hl, Dt_split m (t := -1) (u := (lk S 0).s) (by omega)]
    rw [← Int.mul_assoc, ← Int.mul_assoc, Int.mul_comm (DA ch _) (best0 _)]
    exact Int.le_refl _
theorem MWN_zer {S : Sky} {ch : List Fr} (o : OkS S) (m : OkM S) (hc : OkC S ch) (hz : Zer ch) : MWN S ch = sureT S 0 := by
  have le := MWN_le o m hc
  have d1 : Dt S ch (-1) = 1 := zer_DA hz _
  rw [d1, Int.mul_one] at le
  refine Int.le_antisymm le ?_
  unfold MWN sureT
  by_cases hl : S.looks = []
  · have e1 : ∀ n, fs S n = [] := fun n => by unfold fs; rw [if_pos hl]
    rw [e1, e1]
    exact Int.le_refl 0
  · let y : Zt := ⟨0, none, 0, [], []⟩
    have hy0 : y ∈ fs S 0 := (fs_mem hl).mpr ⟨[], nil_ways, rfl⟩
    have hy : y ∈ fs S S.ears.length := (fs_mem hl).mpr ⟨[], nil_ways, rfl⟩
    have ne : (fs S 0).map (V S 0) ≠ [] := fun w => by rw [List.map_eq_nil_iff] at w; rw [w] at hy0; cases hy0
    refine Int.le_trans ((best0_le ne).1 _ (List.mem_map_of_mem hy0)) ?_
    refine Int.le_trans (MM_zer o m hc hz S.looks.length y (Nat.zero_add _) (fs_wf o hy).1 rfl) ?_
    have g := sum_ge (f := fun y : Zt => CA ch y.fl (bb S (-1) (lk S 0).s) * MM S ch y) (fs S S.ears.length) (fun a ha => Int.mul_nonneg (CA_ok hc (fl := a.fl) _ (bb_in hc)).1 (MM0 o (fs_wf o ha).1)) y hy
    refine Int.le_trans ?_ g
    show MM S ch y ≤ CA ch [] _ * MM S ch y
    rw [zer_CA hz, Int.one_mul]
    exact Int.le_refl _
end Pl
set_option linter.all false
set_option maxRecDepth 100000
/-! Ev39: late: what has begun is a beginning. -/
namespace Pl
open PySem Da
theorem filter_pre {α : Type} {p : α → Bool} : ∀ (L : List α), (L.Pairwise fun a b => p b = true → p a = true) → L = L.filter p ++ L.filter fun a => !p a
  | [], _ => rfl
  | x :: L, h => by
    obtain ⟨h1, h2⟩ := List.pairwise_cons.mp h
    cases c : p x with
    | true =>
      rw [List.filter_cons_of_pos c, List.filter_cons_of_neg (by rw [c]; decide), List.cons_append, ← filter_pre L h2]
    | false =>
      have hn : ∀ a ∈ L, p a = false := fun a ha => by
        cases d : p a with
        | false => rfl
        | true => have := h1 a ha d; rw [c] at this; cases this
      rw [List.filter_cons_of_neg (by rw [c]; decide), List.filter_cons_of_pos (by rw [c]; rfl), List.filter_eq_nil_iff.mpr fun a ha => by rw [hn a ha]; decide, List.nil_append, List.filter_eq_self.mpr fun a ha => by rw [hn a ha]; rfl]
theorem begun_pre {S : Sky} (m : OkM S) {xs : List Nat} (hx : ∀ i ∈ xs, InS S i) (hp : Plan S xs) (now : Int) : xs = (xs.filter fun i => decide ((lk S i).s < now)) ++ xs.filter fun i => !decide ((lk S i).s < now) := by
  refine filter_pre xs ((plan_sorted xs hp).1.imp_of_mem fun {a b} ha hb hab q => ?_)
  have := m.st a b (Nat.le_of_lt hab) (hx b hb)
  have q' := of_decide_eq_true q
  exact decide_eq_true (by omega)
theorem plan_len {S : Sky} {xs : List Nat} (hx : ∀ i ∈ xs, InS S i) (hp : Plan S xs) : xs.length ≤ S.looks.length := by
  have nd : xs.Nodup := (plan_sorted xs hp).1.imp fun h => Nat.ne_of_lt h
  have := nd_len (U := List.range S.looks.length) nd fun a ha => List.mem_range.mpr (hx a ha)
  rwa [List.length_range] at this
theorem pin_of {S : Sky} (o : OkS S) {xs : List Nat} (hx : ∀ i ∈ xs, InS S i) (hp : Plan S xs) : PIn S xs := by
  have := plan_len hx hp
  have := o.len
  exact ⟨hx, by omega⟩
/-- the best of those kept -/
theorem best_of {S : Sky} {now : Int} {begun : List Nat} {prom : List Int} {F : List (List Nat)} (hb : Plan S begun) (g : Grown (extT S now) (PIn S) begun F) {xs : List Nat} (hx : xs ∈ F) (hk : keepsT S xs prom = true) :
    ∃ w p, (F.filter fun p => keepsT S p prom).foldl (bestS S) none = some (w, p) ∧ w = worthT S p ∧ worthT S xs ≤ w ∧ Plan S p ∧ (∀ i ∈ p, InS S i) ∧ ∃ rest, p = begun ++ rest := by
  have hm : xs ∈ F.filter fun p => keepsT S p prom := List.mem_filter.mpr ⟨hx, hk⟩
  rcases bestS_ok (S := S) (F.filter fun p => keepsT S p prom) none with ⟨h, _⟩ | ⟨w, p, e, h1, h2, _⟩
  · rw [h] at hm; cases hm
  · rcases h1 with ⟨hp, hw⟩ | h1
    · have hF := (List.mem_filter.mp hp).1
      obtain ⟨a, b⟩ := rch_plan hb (g.r p hF)
      exact ⟨w, p, e, hw, h2 xs hm, a, (g.p p hF).1, b⟩
    · cases h1
end Pl
set_option linter.all false
set_option maxRecDepth 100000
/-! Ev40: the best of all. -/
namespace Pl
open PySem Da
theorem keeps_nil {S : Sky} {p : List Nat} : keepsT S p [] = true := rfl
theorem best_all {n' : Nat} {S : Sky} (ok : SkyOk n' S) (hn' : n' ≤ 3) : ∃ w p, g_best_keeping [eSky S, .list [], .int 0, .tuple []] = some (.tuple [.int w, eNs p]) ∧ Bst S w ∧ worthT S p = w ∧ (∀ i ∈ p, InS S i) ∧ Plan S p := by
  have o := ok.toS hn'
  have m := ok.toM
  obtain ⟨F, e, g⟩ := best_keeping (S := S) (now := 0) (bd := .tuple []) (begun := []) (prom := []) o ok.toW rfl ⟨fun i hi => (nomatch hi), by have := o.len; show 0 + (S.looks.length - fst1 []) ≤ 10; omega⟩
  obtain ⟨w, p, e1, hw, _, hp, hi, _⟩ := best_of (begun := []) plan_nil g g.a keeps_nil
  rw [e1] at e
  refine ⟨w, p, e, ⟨fun xs hx hP => ?_, p, hi, hp, by rw [hw, plan_worth hp]⟩, hw.symm, hi, hp⟩
  have hxF := ext_all g xs (fun i hi => ⟨hx i hi, m.s0 i (hx i hi)⟩) hP
  obtain ⟨w', p', e2, _, h3, _⟩ := best_of (begun := []) plan_nil g hxF keeps_nil
  rw [e1] at e2
  cases e2
  rw [← plan_worth hP]
  exact h3
end Pl
set_option linter.all false
set_option maxRecDepth 100000
/-! Ev41: the law's first half: best, mean, sure. -/
namespace Pl
open PySem Da
variable {a0 a1 a3 : PyData} {S : Sky}
theorem law_if1 {w : Int} {p : List Nat} (h1 : g__law_best_worth [eSky S] = some (.int w)) (h2 : g_sure_worth [eSky S, .int 0] = some (.int w)) (h3 : g_worth_of [eSky S, eNs p] = some (.int w)) {R : Rho} (r2 : R[2]? = some (some (eSky S))) (r4 : R[4]? = some (some (.tuple [.int w, eNs p]))) :
    sIf (tOr (tV (dB gNe (dB gIx (dVar 4) (dC (.int 0))) (dCall g__law_best_worth (aCons (dVar 2) aNil)))) (tOr (tV (dB gNe (dCall g_sure_worth (aCat (aCons (dVar 2) aNil) (aCons (dC (.int 0)) aNil))) (dB gIx (dVar 4) (dC (.int 0))))) (tV (dB gNe (dCall g_worth_of (aCons (dVar 2) (aCons (dB gIx (dVar 4) (dC (.int 1))) aNil))) (dB gIx (dVar 4) (dC (.int 0))))))) (sRet (dC (.bool false))) sNext R = some (.nx R) := by
  simp only [ev_sIf, ev_tOr, ev_tV, ev_dB, ev_dVar, ev_dC, ev_dCall, ev_aCat, ev_aCons, ev_aNil, r2, r4, Option.getD_some, Option.bind_some, ev_gIx0, ev_gIx1, List.getElem?_cons_zero, List.getElem?_cons_succ, h1, h2, h3, List.cons_append, List.nil_append, ne_int, ev_asB, decide_true, Bool.not_true, Bool.false_eq_true, if_false, ev_sNext]
theorem law_if2 {w : Int} {p : List Nat} (h1 : g_mean_worth [eSky S, .list ((S.ears.map fun _ => ((0, 1) : Fr)).map eFr)] = some (eFr (w, 1))) {R : Rho} (hR : R.length = 18) (r2 : R[2]? = some (some (eSky S))) (r4 : R[4]? = some (some (.tuple [.int w, eNs p]))) :
    sIf (tV (dB gNe (dCall g_mean_worth (aCons (dVar 2) (aCons (dComp (.one 15) [15] (itS (dB gIx (dVar 2) (dC (.int 2)))) yes (dTup (aCons (dC (.int 0)) (aCons (dC (.int 1)) aNil)))) aNil))) (dTup (aCons (dB gIx (dVar 4) (dC (.int 0))) (aCons (dC (.int 1)) aNil))))) (sRet (dC (.bool false))) sNext R = some (.nx R) := by
  have c1 : dComp (.one 15) [15] (itS (dB gIx (dVar 2) (dC (.int 2)))) yes (dTup (aCons (dC (.int 0)) (aCons (dC (.int 1)) aNil))) R = some (.list ((S.ears.map fun _ => ((0, 1) : Fr)).map eFr)) := by
    rw [dComp_run (enc := eEr) (xs := S.ears) (fun _ => some (eFr (0, 1))) (by
      simp only [ev_itS, ev_dB, ev_dVar, ev_dC, r2, Option.getD_some, Option.bind_some, sk2, ev_seqL]) fun e he => rfl]
    rw [fm_map, List.map_map]
    rfl
  have e1 : gNe (eFr (w, 1)) (.tuple [.int w, .int 1]) = some (.bool false) := by
    have := ne_fr (w, 1) (w, 1)
    rw [decide_eq_true rfl] at this
    exact this
  simp only [ev_sIf, ev_tV, ev_dB, ev_dVar, ev_dC, ev_dCall, ev_dTup, ev_aCons, ev_aNil, r2, r4, c1, h1, Option.getD_some, Option.bind_some, ev_gIx0, List.getElem?_cons_zero, e1, ev_asB, Bool.false_eq_true, if_false, ev_sNext]
theorem law_if3 {w s : Int} {x : Fr} {p : List Nat} (h1 : g__law_less [eFr x, eFr (s, 1)] = some (.bool false)) (h2 : g__law_less [eFr (w, 1), eFr x] = some (.bool false)) (h3 : g_sure_worth [eSky S, .int 4] = some (.int s)) {R : Rho} (r2 : R[2]? = some (some (eSky S))) (r4 : R[4]? = some (some (.tuple [.int w, eNs p]))) (r5 : R[5]? = some (some (eFr x))) :
    sIf (tOr (tV (dCall g__law_less (aCons (dVar 5) (aCons (dTup (aCons (dCall g_sure_worth (aCat (aCons (dVar 2) aNil) (aCons (dC (.int 4)) aNil))) (aCons (dC (.int 1)) aNil))) aNil)))) (tV (dCall g__law_less (aCons (dTup (aCons (dB gIx (dVar 4) (dC (.int 0))) (aCons (dC (.int 1)) aNil))) (aCons (dVar 5) aNil))))) (sRet (dC (.bool false))) sNext R = some (.nx R) := by
  have h1' : g__law_less [eFr x, .tuple [.int s, .int 1]] = some (.bool false) := h1
  have h2' : g__law_less [.tuple [.int w, .int 1], eFr x] = some (.bool false) := h2
  simp only [ev_sIf, ev_tOr, ev_tV, ev_dB, ev_dVar, ev_dC, ev_dCall, ev_dTup, ev_aCat, ev_aCons, ev_aNil, r2, r4, r5, h1', h2', h3, Option.getD_some, Option.bind_some, ev_gIx0, List.getElem?_cons_zero, List.cons_append, List.nil_append, ev_asB, Bool.false_eq_true, if_false, ev_sNext]
end Pl
set_option linter.all false
set_option maxRecDepth 100000
/-! Ev42: the law's later conditions. -/
namespace Pl
open PySem Da
theorem ne_L (a b : List Nat) : gNe (eNs a) (eNs b) = some (.bool (!decide (a = b))) := by
  unfold gNe
  rw [if_pos (by rw [ok_eL, ok_eL]; rfl)]
  show some (PyData.bool (!(PyData.eqvAll (a.map eN) (b.map eN)))) = _
  rw [eqvAll_N]
theorem law_if4 {w s : Int} {L S : Sky} {most : Nat} {xs : List Nat} (h1 : g_is_plan [eSky L, eNs xs] = some (.bool true)) (h2 : g_worth_of [eSky L, eNs xs] = some (.int w)) (h3 : g_sure_worth [eSky S, eN most] = some (.int s)) (h4 : s ≤ w) {R : Rho} (r2 : R[2]? = some (some (eSky S))) (r7 : R[7]? = some (some (eN most))) (r8 : R[8]? = some (some (eNs xs))) (r9 : R[9]? = some (some (eSky L))) :
    sIf (tOr (tV (dB gNotB (dCall g_is_plan (aCons (dVar 9) (aCons (dVar 8) aNil))) (dC (.bool true)))) (tV (dB gLt (dCall g_worth_of (aCons (dVar 9) (aCons (dVar 8) aNil))) (dCall g_sure_worth (aCat (aCons (dVar 2) aNil) (aCons (dVar 7) aNil)))))) (sRet (dC (.bool false))) sNext R = some (.nx R) := by
  have lt : decide (w < s) = false := decide_eq_false (by omega)
  simp only [ev_sIf, ev_tOr, ev_tV, ev_dB, ev_dVar, ev_dC, ev_dCall, ev_aCat, ev_aCons, ev_aNil, r2, r7, r8, r9, h1, h2, h3, Option.getD_some, Option.bind_some, List.cons_append, List.nil_append, ev_gNotB, ev_gLt, lt, ev_asB, decide_true, Bool.not_true, Bool.false_eq_true, if_false, ev_sNext]
theorem law_if5 {L : Sky} {d10 d11 d12 : PyData} (h1 : g_can_keep [eSky L, d12, d10, d11] = some (.bool true)) {R : Rho} (r9 : R[9]? = some (some (eSky L))) (r10 : R[10]? = some (some d10)) (r11 : R[11]? = some (some d11)) (r12 : R[12]? = some (some d12)) :
    sIf (tV (dB gNotB (dCall g_can_keep (aCat (aCons (dVar 9) (aCons (dVar 12) aNil)) (aCons (dVar 10) (aCons (dVar 11) aNil)))) (dC (.bool true)))) (sRet (dC (.bool false))) sNext R = some (.nx R) := by
  simp only [ev_sIf, ev_tV, ev_dB, ev_dVar, ev_dC, ev_dCall, ev_aCat, ev_aCons, ev_aNil, r9, r10, r11, r12, h1, Option.getD_some, Option.bind_some, List.cons_append, List.nil_append, ev_gNotB, ev_asB, decide_true, Bool.not_true, Bool.false_eq_true, if_false, ev_sNext]
theorem law_if6 {L : Sky} {w v : Int} {xs bg p : List Nat} (h1 : g_worth_of [eSky L, eNs xs] = some (.int v)) (h2 : g_worth_of [eSky L, eNs p] = some (.int w)) (hv : v ≤ w) (hp : p.take bg.length = bg) {R : Rho} (r8 : R[8]? = some (some (eNs xs))) (r9 : R[9]? = some (some (eSky L))) (r11 : R[11]? = some (some (eNs bg))) (r13 : R[13]? = some (some (.int w))) (r14 : R[14]? = some (some (eNs p))) :
    sIf (tOr (tV (dB gLt (dVar 13) (dCall g_worth_of (aCons (dVar 9) (aCons (dVar 8) aNil))))) (tOr (tV (dB gNe (dSl (dVar 14) pNo (pSome (dCall gLen (aCons (dVar 11) aNil)))) (dVar 11))) (tV (dB gNe (dCall g_worth_of (aCons (dVar 9) (aCons (dVar 14) aNil))) (dVar 13))))) (sRet (dC (.bool false))) sNext R = some (.nx R) := by
  have lt : decide (w < v) = false := decide_eq_false (by omega)
  have gl : gLen [eNs bg] = some (eN bg.length) := by show some (PyData.int ((bg.map eN).length : Int)) = _; rw [List.length_map]
  have sl : dSl (dVar 14) pNo (pSome (dCall gLen (aCons (dVar 11) aNil))) R = some (eNs bg) := by
    rw [take_sl (xs := p) (p := bg.length) (by simp only [ev_dVar, r14, Option.getD_some]) (by simp only [ev_dCall, ev_aCons, ev_aNil, ev_dVar, r11, Option.getD_some, Option.bind_some, gl]), hp]
  simp only [ev_sIf, ev_tOr, ev_tV, ev_dB, ev_dVar, ev_dC, ev_dCall, ev_aCons, ev_aNil, r8, r9, r11, r13, r14, h1, h2, sl, ne_L, ne_int, Option.getD_some, Option.bind_some, ev_gLt, lt, ev_asB, decide_true, Bool.not_true, Bool.false_eq_true, if_false, ev_sNext]
theorem law_end {L : Sky} {w b : Int} {p : List Nat} (h1 : g_is_plan [eSky L, eNs p] = some (.bool true)) (h2 : g__law_best_worth [eSky L] = some (.int b)) (hb : w ≤ b) {R : Rho} (r9 : R[9]? = some (some (eSky L))) (r13 : R[13]? = some (some (.int w))) (r14 : R[14]? = some (some (eNs p))) :
    sRet (dAnd (dB gIsB (dCall g_is_plan (aCons (dVar 9) (aCons (dVar 14) aNil))) (dC (.bool true))) (dB gLe (dVar 13) (dCall g__law_best_worth (aCons (dVar 9) aNil)))) R = some (.rt (.bool true)) := by
  have le : decide (w ≤ b) = true := decide_eq_true hb
  simp only [ev_sRet, ev_dAnd, ev_dB, ev_dVar, ev_dC, ev_dCall, ev_aCons, ev_aNil, r9, r13, r14, h1, h2, Option.getD_some, Option.bind_some, ev_gIsB, ev_gLe, le, ev_asB, decide_true, if_true, Option.map_some]
end Pl
set_option linter.all false
set_option maxRecDepth 100000
/-! Ev43: the law's stores, one by one. -/
namespace Pl
open PySem Da
theorem seq_go {a b : Dst} {R R' : Rho} {o : Option Out} (h : a R = some (.nx R')) (h2 : b R' = o) : sSeq a b R = o := (sSeq_nx h).trans h2
theorem asg_go {f : Dn} {i : Nat} {R : Rho} {d : PyData} (h : f R = some d) : sAsg f (.one i) R = some (.nx (R.set i (some d))) := by rw [ev_sAsg, h]; rfl
theorem dSl_go {f : Dn} {R : Rho} {x : PyData} {a b : Int} (h : f R = some x) (ha : 0 ≤ a) (hb : 0 ≤ b) : dSl f (pSome (dC (.int a))) (pSome (dC (.int b))) R = gSl a.toNat (some b.toNat) x := by
  have e1 : asN (.int a) = some a.toNat := if_pos ha
  have e2 : asN (.int b) = some b.toNat := if_pos hb
  unfold dSl pSome dC
  rw [h]
  simp only [Option.bind_some, e1, e2, Option.map_some, Option.getD_some]
variable {R : Rho}
theorem law_s1 {sc d : PyData} (h : g__law_draws [sc, .int 80] = some d) (r0 : R[0]? = some (some sc)) : dCall g__law_draws (aCons (dVar 0) (aCons (dC (.int 80)) aNil)) R = some d := by
  simp only [ev_dCall, ev_aCons, ev_aNil, ev_dVar, ev_dC, r0, Option.getD_some, Option.bind_some, h]
theorem law_s2 {D : List Int} {d1 d2 : PyData} (hD : Drw D 80) (h : g__law_sky [eIs D, .int 5] = some d1) (h2 : g__law_more_ears [d1, eIs ((D.take 54).drop 50)] = some d2) (r1 : R[1]? = some (some (eIs D))) : dCall g__law_more_ears (aCons (dCall g__law_sky (aCons (dVar 1) (aCons (dC (.int 5)) aNil))) (aCons (dSl (dVar 1) (pSome (dC (.int 50))) (pSome (dC (.int 54)))) aNil)) R = some d2 := by
  have sl : dSl (dVar 1) (pSome (dC (.int 50))) (pSome (dC (.int 54))) R = some (eIs ((D.take 54).drop 50)) := by
    rw [dSl_go (x := eIs D) (by simp only [ev_dVar, r1, Option.getD_some]) (by decide) (by decide)]
    exact (drw_sl (a := 50) (b := 54) hD (by decide) (by decide)).1
  simp only [ev_dCall, ev_aCons, ev_aNil, ev_dVar, ev_dC, r1, Option.getD_some, Option.bind_some, h, sl, h2]
theorem law_s3 {D : List Int} {d1 d2 : PyData} (hD : Drw D 80) (h : g__law_chances [d1, eIs ((D.take 60).drop 54)] = some d2) (r1 : R[1]? = some (some (eIs D))) (r2 : R[2]? = some (some d1)) : dCall g__law_chances (aCons (dVar 2) (aCons (dSl (dVar 1) (pSome (dC (.int 54))) (pSome (dC (.int 60)))) aNil)) R = some d2 := by
  have sl : dSl (dVar 1) (pSome (dC (.int 54))) (pSome (dC (.int 60))) R = some (eIs ((D.take 60).drop 54)) := by
    rw [dSl_go (x := eIs D) (by simp only [ev_dVar, r1, Option.getD_some]) (by decide) (by decide)]
    exact (drw_sl (a := 54) (b := 60) hD (by decide) (by decide)).1
  simp only [ev_dCall, ev_aCons, ev_aNil, ev_dVar, ev_dC, r2, Option.getD_some, Option.bind_some, sl, h]
theorem law_s4 {d1 d2 : PyData} (h : g_best_keeping [d1, .list [], .int 0, .tuple []] = some d2) (r2 : R[2]? = some (some d1)) : dCall (fun xs => g_best_keeping (xs ++ [.int 0, .tuple []])) (aCons (dVar 2) (aCons (dLst aNil) aNil)) R = some d2 := by
  simp only [ev_dCall, ev_aCons, ev_aNil, ev_dLst, ev_dVar, r2, Option.getD_some, Option.bind_some, List.cons_append, List.nil_append, h]
theorem law_s6 {d1 d2 d3 : PyData} (h : g_mean_worth [d1, d2] = some d3) (r2 : R[2]? = some (some d1)) (r3 : R[3]? = some (some d2)) : dCall g_mean_worth (aCons (dVar 2) (aCons (dVar 3) aNil)) R = some d3 := by
  simp only [ev_dCall, ev_aCons, ev_aNil, ev_dVar, r2, r3, Option.getD_some, Option.bind_some, h]
def failT (S : Sky) (D : List Int) : List Nat := (List.range S.ears.length).filter fun k => decide (dI D (60 + k) % 2 = 0)
theorem law_s9 {S : Sky} {D : List Int} (o : OkS S) (hD : Drw D 80) (hR : R.length = 18) (r1 : R[1]? = some (some (eIs D))) (r2 : R[2]? = some (some (eSky S))) :
    dComp (.one 16) [16] (itRng1 (dCall gLen (aCons (dB gIx (dVar 2) (dC (.int 2))) aNil))) (tV (dB gEq (dB gMod (dCall gInt (aCons (dB gIx (dVar 1) (dB gAdd (dC (.int 60)) (dVar 16))) aNil)) (dC (.int 2))) (dC (.int 0)))) (dVar 16) R = some (eNs (failT S D)) := by
  rw [dComp_run (enc := eN) (xs := List.range S.ears.length) (fun k => if decide (dI D (60 + k) % 2 = 0) = true then some (eN k) else none) (rng1 (n := S.ears.length) (by
    simp only [ev_dCall, ev_aCons, ev_aNil, ev_dB, ev_dVar, ev_dC, r2, Option.getD_some, Option.bind_some, sk2, ev_gLenL, List.length_map]) (by have := o.elen; omega)) fun k hk => ?_]
  · rw [fm_if]; rfl
  · have hk' : k < S.ears.length := List.mem_range.mp hk
    have hl := o.elen
    have g := gIx_dI (D := D) (n := 80) (i := 60 + k) hD (by omega) (j := 60 + (k : Int)) (by omega)
    have q1 : ((wipe [16] R).set 16 (some (eN k)))[1]? = some (some (eIs D)) := by
      show ((R.set 16 none).set 16 (some (eN k)))[1]? = _
      rw [List.getElem?_set_ne (by decide), List.getElem?_set_ne (by decide), r1]
    have q16 : ((wipe [16] R).set 16 (some (eN k)))[16]? = some (some (eN k)) := by
      show ((R.set 16 none).set 16 (some (eN k)))[16]? = _
      rw [List.getElem?_set_self (by rw [List.length_set, hR]; decide)]
    have md := ev_gMod (a := dI D (60 + k)) (b := 2) (by decide)
    unfold cTurn
    rw [ev_toTg1, Option.bind_some]
    simp only [ev_tV, ev_dB, ev_dCall, ev_aCons, ev_aNil, ev_dVar, ev_dC, q1, q16, Option.getD_some, Option.bind_some, ev_gAdd, g, ev_gInt, md, eq_int, ev_asB, Option.map_some]
    split <;> rfl
theorem law_s10 {D : List Int} {fs : List Nat} (hD : Drw D 80) (r1 : R[1]? = some (some (eIs D))) (r6 : R[6]? = some (some (eNs fs))) :
    dCall gMax2 (aCons (dCall gLen (aCons (dVar 6) aNil)) (aCons (dB gMod (dCall gInt (aCons (dB gIx (dVar 1) (dC (.int 64))) aNil)) (dC (.int 4))) aNil)) R = some (eN (max fs.length (dI D 64 % 4).toNat)) := by
  have g := gIx_dI (D := D) (n := 80) (i := 64) hD (by decide) (j := 64) (by decide)
  have md := ev_gMod (a := dI D 64) (b := 4) (by decide)
  simp only [ev_dB, ev_dCall, ev_aCons, ev_aNil, ev_dVar, ev_dC, r1, r6, Option.getD_some, Option.bind_some, ev_gLenL, List.length_map, g, ev_gInt, md, ev_gMax2]
  have := Int.emod_nonneg (dI D 64) (b := 4) (by decide)
  congr 2
  omega
theorem law_s11 {d1 d2 d3 d4 d5 : PyData} (h : g_sure_rule [d1, d2] = some d3) (h2 : g_taken_by [d1, d3, d4] = some d5) (r2 : R[2]? = some (some d1)) (r7 : R[7]? = some (some d2)) (r6 : R[6]? = some (some d4)) :
    dCall g_taken_by (aCons (dVar 2) (aCons (dCall g_sure_rule (aCat (aCons (dVar 2) aNil) (aCons (dVar 7) aNil))) (aCons (dVar 6) aNil))) R = some d5 := by
  simp only [ev_dCall, ev_aCons, ev_aCat, ev_aNil, ev_dVar, r2, r6, r7, Option.getD_some, Option.bind_some, List.cons_append, List.nil_append, h, h2]
theorem law_s12 {d1 d2 d3 : PyData} (h : g_without_ears [d1, d2] = some d3) (r2 : R[2]? = some (some d1)) (r6 : R[6]? = some (some d2)) : dCall g_without_ears (aCons (dVar 2) (aCons (dVar 6) aNil)) R = some d3 := by
  simp only [ev_dCall, ev_aCons, ev_aNil, ev_dVar, r2, r6, Option.getD_some, Option.bind_some, h]
theorem law_s14 {D : List Int} (hD : Drw D 80) (r1 : R[1]? = some (some (eIs D))) : dB gMod (dCall gInt (aCons (dB gIx (dVar 1) (dC (.int 65))) aNil)) (dC (.int 16)) R = some (.int (dI D 65 % 16)) := by
  have g := gIx_dI (D := D) (n := 80) (i := 65) hD (by decide) (j := 65) (by decide)
  have md := ev_gMod (a := dI D 65) (b := 16) (by decide)
  simp only [ev_dB, ev_dCall, ev_aCons, ev_aNil, ev_dVar, ev_dC, r1, Option.getD_some, Option.bind_some, g, ev_gInt, md]
theorem law_s15 {S : Sky} {xs : List Nat} {now : Int} (hx : ∀ i ∈ xs, InS S i) (hR : R.length = 18) (r2 : R[2]? = some (some (eSky S))) (r8 : R[8]? = some (some (eNs xs))) (r10 : R[10]? = some (some (.int now))) :
    dComp (.one 17) [17] (itS (dVar 8)) (tV (dB gLt (dB gIx (dB gIx (dB gIx (dVar 2) (dC (.int 0))) (dVar 17)) (dC (.int 1))) (dVar 10))) (dVar 17) R = some (eNs (xs.filter fun i => decide ((lk S i).s < now))) := by
  rw [dComp_run (enc := eN) (xs := xs) (fun k => if decide ((lk S k).s < now) = true then some (eN k) else none) (by simp only [ev_itS, ev_dVar, r8, Option.getD_some, Option.bind_some, ev_seqL]) fun k hk => ?_]
  · rw [fm_if]
  · have e := lk_get (hx k hk)
    have q2 : ((wipe [17] R).set 17 (some (eN k)))[2]? = some (some (eSky S)) := by
      show ((R.set 17 none).set 17 (some (eN k)))[2]? = _
      rw [List.getElem?_set_ne (by decide), List.getElem?_set_ne (by decide), r2]
    have q10 : ((wipe [17] R).set 17 (some (eN k)))[10]? = some (some (.int now)) := by
      show ((R.set 17 none).set 17 (some (eN k)))[10]? = _
      rw [List.getElem?_set_ne (by decide), List.getElem?_set_ne (by decide), r10]
    have q17 : ((wipe [17] R).set 17 (some (eN k)))[17]? = some (some (eN k)) := by
      show ((R.set 17 none).set 17 (some (eN k)))[17]? = _
      rw [List.getElem?_set_self (by rw [List.length_set, hR]; decide)]
    unfold cTurn
    rw [ev_toTg1, Option.bind_some]
    simp only [ev_tV, ev_dB, ev_dVar, ev_dC, q2, q10, q17, Option.getD_some, Option.bind_some, sk0, ev_gIx, e, Option.map_some, lk1, ev_gLt, ev_asB]
    split <;> rfl
def promT (S : Sky) (xs : List Nat) : List Int := srt .int (xs.map fun i => (lk S i).w)
theorem law_s16 {S : Sky} {xs : List Nat} (hx : ∀ i ∈ xs, InS S i) (hR : R.length = 18) (r2 : R[2]? = some (some (eSky S))) (r8 : R[8]? = some (some (eNs xs))) :
    dCall (gSorted false) (aCons (dComp (.one 17) [17] (itS (dVar 8)) yes (dB gIx (dB gIx (dB gIx (dVar 2) (dC (.int 0))) (dVar 17)) (dC (.int 0)))) aNil) R = some (.list ((promT S xs).map .int)) := by
  have c : dComp (.one 17) [17] (itS (dVar 8)) yes (dB gIx (dB gIx (dB gIx (dVar 2) (dC (.int 0))) (dVar 17)) (dC (.int 0))) R = some (.list ((xs.map fun i => (lk S i).w).map .int)) := by
    rw [dComp_run (enc := eN) (xs := xs) (fun k => some (.int (lk S k).w)) (by simp only [ev_itS, ev_dVar, r8, Option.getD_some, Option.bind_some, ev_seqL]) fun k hk => ?_]
    · rw [fm_map, List.map_map]; rfl
    · have e := lk_get (hx k hk)
      have q2 : ((wipe [17] R).set 17 (some (eN k)))[2]? = some (some (eSky S)) := by
        show ((R.set 17 none).set 17 (some (eN k)))[2]? = _
        rw [List.getElem?_set_ne (by decide), List.getElem?_set_ne (by decide), r2]
      have q17 : ((wipe [17] R).set 17 (some (eN k)))[17]? = some (some (eN k)) := by
        show ((R.set 17 none).set 17 (some (eN k)))[17]? = _
        rw [List.getElem?_set_self (by rw [List.length_set, hR]; decide)]
      unfold cTurn
      rw [ev_toTg1, Option.bind_some]
      simp only [ev_yes, ev_dB, ev_dVar, ev_dC, q2, q17, Option.getD_some, Option.bind_some, sk0, ev_gIx, e, Option.map_some, lk0, if_true]
  have s := sorted_list (enc := PyData.int) (xs := xs.map fun i => (lk S i).w) (fun a _ b _ => pal_int) (fun a _ => ok_int)
  simp only [ev_dCall, ev_aCons, ev_aNil, c, Option.bind_some, s]
  rfl
theorem law_s18 {d1 d2 d3 d4 a b : PyData} (h : g_best_keeping [d1, d2, d3, d4] = some (.tuple [a, b])) (r9 : R[9]? = some (some d1)) (r12 : R[12]? = some (some d2)) (r10 : R[10]? = some (some d3)) (r11 : R[11]? = some (some d4)) :
    sAsg (dCall g_best_keeping (aCat (aCons (dVar 9) (aCons (dVar 12) aNil)) (aCons (dVar 10) (aCons (dVar 11) aNil)))) (.many [13, 14]) R = some (.nx ((R.set 13 (some a)).set 14 (some b))) := by
  have e : dCall g_best_keeping (aCat (aCons (dVar 9) (aCons (dVar 12) aNil)) (aCons (dVar 10) (aCons (dVar 11) aNil))) R = some (.tuple [a, b]) := by
    simp only [ev_dCall, ev_aCons, ev_aCat, ev_aNil, ev_dVar, r9, r10, r11, r12, Option.getD_some, Option.bind_some, List.cons_append, List.nil_append, h]
  rw [ev_sAsg, e]
  rfl
end Pl
set_option linter.all false
set_option maxRecDepth 100000
/-! Ev44: the law holds of the data. -/
namespace Pl
open PySem Da
theorem best_eq {n' : Nat} {S : Sky} {b : Int} (ok : SkyOk n' S) (hn' : n' ≤ 3) (h : Bst S b) : g__law_best_worth [eSky S] = some (.int b) := by
  obtain ⟨F, e, g⟩ := law_best_worth (S := S) (ok.toS hn') ok.toA ok.toB (by have := ok.wlen; omega)
  rw [e, (bst_law (ok.toS hn') ok.toM ok.toW g).uniq h]
theorem sure_eq {n' : Nat} {S : Sky} {b : Int} (ok : SkyOk n' S) (hn' : n' ≤ 3) (h : Bst S b) : sureT S 0 = b := by
  obtain ⟨F, _, hF⟩ := sure_numbers (most := 0) (ok.toS hn') ok.toW
  exact (bst_sure ok hn' hF).uniq h
theorem keeps_own {S : Sky} {xs : List Nat} : keepsT S xs (promT S xs) = true := by
  unfold keepsT
  rw [List.all_eq_true]
  intro w hw
  exact decide_eq_true ((srt_perm .int _).mem_iff.mp hw)
theorem flen_fail {S : Sky} {D : List Int} : FLen S (failT S D) (failT S D).length := fun t => by
  unfold fat failT
  have : (List.range S.ears.length).filter (fun i => decide (i ∈ (List.range S.ears.length).filter fun k => decide (dI D (60 + k) % 2 = 0)) && decide (efi S i ≤ t)) = ((List.range S.ears.length).filter fun k => decide (dI D (60 + k) % 2 = 0)).filter fun i => decide (efi S i ≤ t) := by
    rw [List.filter_filter]
    refine List.filter_congr fun i hi => ?_
    have : decide (i ∈ (List.range S.ears.length).filter fun k => decide (dI D (60 + k) % 2 = 0)) = decide (dI D (60 + i) % 2 = 0) := by
      rw [decide_eq_decide, List.mem_filter]
      exact ⟨fun h => of_decide_eq_true h.2, fun h => ⟨hi, decide_eq_true h⟩⟩
    rw [this, Bool.and_comm]
  rw [this]
  exact List.length_filter_le ..
/-- the late part -/
theorem late {n' : Nat} {L : Sky} (ok : SkyOk n' L) (hn' : n' ≤ 3) {xs : List Nat} (hx : ∀ i ∈ xs, InS L i) (hp : Plan L xs) (now : Int) :
    g_can_keep [eSky L, .list ((promT L xs).map .int), .int now, eNs (xs.filter fun i => decide ((lk L i).s < now))] = some (.bool true) ∧
    ∃ w p, g_best_keeping [eSky L, .list ((promT L xs).map .int), .int now, eNs (xs.filter fun i => decide ((lk L i).s < now))] = some (.tuple [.int w, eNs p]) ∧ w = worthT L p ∧ worthT L xs ≤ w ∧ Plan L p ∧ (∀ i ∈ p, InS L i) ∧ p.take (xs.filter fun i => decide ((lk L i).s < now)).length = xs.filter fun i => decide ((lk L i).s < now) := by
  have o := ok.toS hn'
  have m := ok.toM
  have pre := begun_pre m hx hp now
  generalize hb : (xs.filter fun i => decide ((lk L i).s < now)) = bg at pre ⊢
  generalize hr : (xs.filter fun i => !decide ((lk L i).s < now)) = rest at pre
  have hbx : ∀ i ∈ bg, InS L i := fun i hi => hx i (by rw [pre]; exact List.mem_append_left _ hi)
  have hbp : Plan L bg := plan_pre (ys := rest) (by rw [← pre]; exact hp)
  have hP := pin_of o hbx hbp
  have hrest : ∀ i ∈ rest, InS L i ∧ now ≤ (lk L i).s := fun i hi => by
    refine ⟨hx i (by rw [pre]; exact List.mem_append_right _ hi), ?_⟩
    rw [← hr] at hi
    have := (List.mem_filter.mp hi).2
    simp only [Bool.not_eq_true', decide_eq_false_iff_not] at this
    omega
  have tl : gToL [eNs bg] = some (eNs bg) := rfl
  constructor
  · obtain ⟨F, e, g⟩ := can_keep (S := L) (now := now) (prom := promT L xs) o tl hP
    have hF : xs ∈ F := by rw [pre]; exact ext_all g rest hrest (by rw [← pre]; exact hp)
    rw [e]
    have : 0 < (F.filter fun p => keepsT L p (promT L xs)).length := List.length_pos_of_mem (List.mem_filter.mpr ⟨hF, keeps_own⟩)
    rw [decide_eq_true this]
  · obtain ⟨F, e, g⟩ := best_keeping (S := L) (now := now) (prom := promT L xs) o ok.toW tl hP
    have hF : xs ∈ F := by rw [pre]; exact ext_all g rest hrest (by rw [← pre]; exact hp)
    obtain ⟨w, p, e1, h1, h2, h3, h4, rs, h5⟩ := best_of hbp g hF keeps_own
    rw [e1] at e
    refine ⟨w, p, e, h1, h2, h3, h4, ?_⟩
    rw [h5, List.take_left]
set_option maxHeartbeats 4000000 in
theorem g_law_true (ns : List Int) : g_law [eIs ns] = some (.bool true) := by
  obtain ⟨D, e1, hD⟩ := law_draws ns
  obtain ⟨S0, e2, ok0⟩ := law_sky hD
  obtain ⟨S, e2', ok⟩ := law_more_ears ok0 (drw_sl (a := 50) (b := 54) hD (by decide) (by decide)).2
  have n3 : 3 ≤ 3 := Nat.le_refl 3
  have o := ok.toS n3
  have m := ok.toM
  have hw := ok.toW
  obtain ⟨ch, e3, hc⟩ := law_chances o (drw_sl (a := 54) (b := 60) hD (by decide) (by decide)).2
  obtain ⟨w, p, e4, hB, hwp, hpi, hpP⟩ := best_all ok n3
  have eB := best_eq ok n3 hB
  have eS := sure_eq ok n3 hB
  have s0 := sure_worth (most := 0) o hw
  rw [eS] at s0
  have wo := worth_of hw hpi (by have := plan_len hpi hpP; have := o.len; omega)
  rw [hwp] at wo
  obtain ⟨x, e6, hx⟩ := mean_worth o m hw hc
  obtain ⟨y, e7, hy⟩ := mean_worth o m hw (okc_zer (S := S))
  have hz := MWN_zer o m (okc_zer (S := S)) zer_map
  have d1 : Dt S (S.ears.map fun _ => ((0, 1) : Fr)) (-1) = 1 := zer_DA zer_map _
  rw [hz, eS, d1] at hy
  have ey : y = (w, 1) := fq_whole (D := 1) (by decide) (by rw [Int.mul_one]; exact hy)
  rw [ey] at e7
  have Dp := Dt_sml o hc (-1)
  have le := MWN_le o m hc
  rw [eS] at le
  have ge := MWN_ge o m hc
  have sx : sm x.2 = true := sml_sm (fq_sml hx Dp)
  have l1 := law_less (x := x) (y := (sureT S 4, 1)) (.inr (show sm 1 = true by decide)) (.inr sx)
  rw [decide_eq_false (fun q => by have := (less_fq Dp.1 hx (fq_int (g := sureT S 4) (D := Dt S ch (-1)))).mp q; omega)] at l1
  have l2 := law_less (x := (w, 1)) (y := x) (.inr sx) (.inr (show sm 1 = true by decide))
  rw [decide_eq_false (fun q => by have := (less_fq Dp.1 (fq_int (g := w) (D := Dt S ch (-1))) hx).mp q; omega)] at l2
  have s4 := sure_worth (most := 4) o hw
  generalize hfl : failT S D = fl
  generalize hmo : max fl.length (dI D 64 % 4).toNat = mo
  have hm : FLen S fl mo := fun t => by
    have := flen_fail (S := S) (D := D) t
    rw [hfl] at this
    omega
  obtain ⟨K0, F, e11, hK, hF⟩ := sure_rule (most := mo) o hw
  have nd : K0.Nodup := hK.nodup_iff.mpr hF.1
  have kl : K0.length ≤ 600000 := by
    rw [hK.length_eq]
    exact Nat.le_trans (nd_len hF.1 hF.2.2.2) (uni_len (lvR o mo))
  have e11' := taken_by (most := mo) (fail := fl) o m nd kl
  obtain ⟨tp, ts, ti⟩ := taken_ok ok n3 hm hK hF
  generalize takenT S fl (mvK S mo K0) = xs at e11' tp ts ti
  have e12 := without_ears (d := eNs fl) o (nmL fl)
  have okL := ok.wo fl
  have oL := okL.toS n3
  have sm_ := sure_worth (most := mo) o hw
  have tiL : ∀ i ∈ xs, InS (woE S fl) i := ti
  have ip := is_plan oL tiL
  have tp' : (planF (woE S fl) xs).isSome = true := tp
  rw [tp'] at ip
  have xl : xs.length ≤ 1000 := by have := plan_len tiL tp; have := oL.len; omega
  have wx := worth_of okL.toW tiL xl
  have gw : worthT (woE S fl) xs = gW S xs := plan_worth tp
  obtain ⟨ck, w', p', bk, h1, h2, h3, h4, h5⟩ := late okL n3 tiL tp (dI D 65 % 16)
  have wp' := worth_of okL.toW h4 (by have := plan_len h4 h3; have := oL.len; omega)
  rw [← h1] at wp'
  have ip' := is_plan oL h4
  have h3' : (planF (woE S fl) p').isSome = true := h3
  rw [h3'] at ip'
  obtain ⟨b, pb, _, hBL, _⟩ := best_all okL n3
  have eBL := best_eq okL n3 hBL
  have hb : w' ≤ b := by
    rw [h1, plan_worth h3]
    exact hBL.le p' h4 h3
  refine run_eq rfl ?_
  unfold b_law
  have st : Da.start 18 [eIs ns] = [some (eIs ns), none, none, none, none, none, none, none, none, none, none, none, none, none, none, none, none, none] := rfl
  rw [st]
  refine seq_go (asg_go (law_s1 e1 rfl)) ?_
  simp only [List.set_cons_succ, List.set_cons_zero]
  refine seq_go (asg_go (law_s2 hD e2 e2' rfl)) ?_
  simp only [List.set_cons_succ, List.set_cons_zero]
  refine seq_go (asg_go (law_s3 hD e3 rfl rfl)) ?_
  simp only [List.set_cons_succ, List.set_cons_zero]
  refine seq_go (asg_go (law_s4 e4 rfl)) ?_
  simp only [List.set_cons_succ, List.set_cons_zero]
  refine seq_go (law_if1 (w := w) (p := p) eB s0 wo rfl rfl) ?_
  refine seq_go (asg_go (law_s6 e6 rfl rfl)) ?_
  simp only [List.set_cons_succ, List.set_cons_zero]
  refine seq_go (law_if2 (w := w) (p := p) e7 rfl rfl rfl) ?_
  refine seq_go (law_if3 (w := w) (p := p) l1 l2 s4 rfl rfl rfl) ?_
  refine seq_go (asg_go (law_s9 o hD rfl rfl rfl)) ?_
  simp only [List.set_cons_succ, List.set_cons_zero]
  rw [hfl]
  refine seq_go (asg_go (law_s10 (fs := fl) hD rfl rfl)) ?_
  simp only [List.set_cons_succ, List.set_cons_zero]
  rw [hmo]
  refine seq_go (asg_go (law_s11 e11 e11' rfl rfl rfl)) ?_
  simp only [List.set_cons_succ, List.set_cons_zero]
  refine seq_go (asg_go (law_s12 e12 rfl rfl)) ?_
  simp only [List.set_cons_succ, List.set_cons_zero]
  refine seq_go (law_if4 (L := woE S fl) ip wx sm_ (by omega) rfl rfl rfl rfl) ?_
  refine seq_go (asg_go (law_s14 hD rfl)) ?_
  simp only [List.set_cons_succ, List.set_cons_zero]
  refine seq_go (asg_go (law_s15 (S := S) (xs := xs) ti rfl rfl rfl rfl)) ?_
  simp only [List.set_cons_succ, List.set_cons_zero]
  refine seq_go (asg_go (law_s16 (S := S) (xs := xs) ti rfl rfl rfl)) ?_
  simp only [List.set_cons_succ, List.set_cons_zero]
  refine seq_go (law_if5 (L := woE S fl) ck rfl rfl rfl rfl) ?_
  refine seq_go (law_s18 bk rfl rfl rfl rfl) ?_
  simp only [List.set_cons_succ, List.set_cons_zero]
  refine seq_go (law_if6 (L := woE S fl) wx wp' h2 h5 rfl rfl rfl rfl rfl) ?_
  exact law_end (L := woE S fl) ip' eBL hb rfl rfl rfl
end Pl
set_option linter.all false
set_option maxRecDepth 100000
set_option Elab.async false
/-! Gw: the walks (printed by gen.py). -/
namespace Sk
open PySem PySem.Spec PyProof.Rows L2
open Da
def topS (i : Nat) : Stmt := PySem.Challenge.pw_skypasses_k93_whole_failing_and_promises.main.body.getD i (.Pass ⟨0, 0, 0, 0⟩)
abbrev s_end_of : Stmt := topS 2
abbrev N_end_of : List Str := ["sky", "look", "wish", "start", "length", "angle", "size"]
abbrev p_end_of : List Str := ["sky", "look"]
abbrev s_turning : Stmt := topS 3
abbrev N_turning : List Str := ["sky", "first", "second"]
abbrev p_turning : List Str := ["sky", "first", "second"]
abbrev s_loss : Stmt := topS 4
abbrev N_loss : List Str := ["ears", "since", "until", "found", "first", "last", "rate"]
abbrev p_loss : List Str := ["ears", "since", "until"]
abbrev s_emptied : Stmt := topS 5
abbrev N_emptied : List Str := ["sky", "amount", "since", "until"]
abbrev p_emptied : List Str := ["sky", "amount", "since", "until"]
abbrev s_follows : Stmt := topS 6
abbrev N_follows : List Str := ["sky", "first", "second"]
abbrev p_follows : List Str := ["sky", "first", "second"]
abbrev s_stored_at : Stmt := topS 7
abbrev N_stored_at : List Str := ["sky", "look", "amount", "time"]
abbrev p_stored_at : List Str := ["sky", "look", "amount", "time"]
abbrev s_level_behind : Stmt := topS 8
abbrev N_level_behind : List Str := ["sky", "last", "amount", "look", "wish", "start", "length", "angle", "size"]
abbrev p_level_behind : List Str := ["sky", "last", "amount", "look"]
abbrev s_wrong_in : Stmt := topS 9
abbrev N_wrong_in : List Str := ["sky", "names", "last", "amount", "seen", "place", "look"]
abbrev p_wrong_in : List Str := ["sky", "names"]
abbrev s_is_plan : Stmt := topS 10
abbrev N_is_plan : List Str := ["sky", "names"]
abbrev p_is_plan : List Str := ["sky", "names"]
abbrev s_worth_of : Stmt := topS 11
abbrev N_worth_of : List Str := ["sky", "names", "wishes", "look", "wish"]
abbrev p_worth_of : List Str := ["sky", "names"]
abbrev s_without_ears : Stmt := topS 13
abbrev N_without_ears : List Str := ["sky", "names", "looks", "worths", "ears", "capacity", "turn", "left", "name"]
abbrev p_without_ears : List Str := ["sky", "names"]
abbrev s_ways_of : Stmt := topS 14
abbrev N_ways_of : List Str := ["names", "failed", "most", "found", "name", "one"]
abbrev p_ways_of : List Str := ["names", "failed", "most"]
abbrev s_begun_between : Stmt := topS 15
abbrev N_begun_between : List Str := ["sky", "since", "until", "name"]
abbrev p_begun_between : List Str := ["sky", "since", "until"]
abbrev s_first_states : Stmt := topS 16
abbrev N_first_states : List Str := ["sky", "most", "names", "failed"]
abbrev p_first_states : List Str := ["sky", "most"]
abbrev s_may_take : Stmt := topS 17
abbrev N_may_take : List Str := ["sky", "state", "look", "last", "amount", "wishes", "failed", "wish", "start", "length", "angle", "size"]
abbrev p_may_take : List Str := ["sky", "state"]
abbrev s_moves_of : Stmt := topS 18
abbrev N_moves_of : List Str := ["sky", "state"]
abbrev p_moves_of : List Str := ["sky", "state"]
abbrev s_gain_of : Stmt := topS 19
abbrev N_gain_of : List Str := ["sky", "state", "move"]
abbrev p_gain_of : List Str := ["sky", "state", "move"]
abbrev s_amount_behind : Stmt := topS 20
abbrev N_amount_behind : List Str := ["sky", "amount", "last", "since", "until", "end"]
abbrev p_amount_behind : List Str := ["sky", "amount", "last", "since", "until"]
abbrev s_states_behind : Stmt := topS 21
abbrev N_states_behind : List Str := ["sky", "state", "move", "most", "look", "last", "amount", "wishes", "failed", "since", "until", "found", "fates", "there"]
abbrev p_states_behind : List Str := ["sky", "state", "move", "most"]
abbrev s_reached : Stmt := topS 22
abbrev N_reached : List Str := ["sky", "most", "waiting", "found", "state", "move", "behind"]
abbrev p_reached : List Str := ["sky", "most"]
abbrev s_sure_by : Stmt := topS 23
abbrev N_sure_by : List Str := ["sky", "state", "move", "numbers", "most", "behind", "one"]
abbrev p_sure_by : List Str := ["sky", "state", "move", "numbers", "most"]
abbrev s_sure_numbers : Stmt := topS 24
abbrev N_sure_numbers : List Str := ["sky", "most", "numbers", "state", "move"]
abbrev p_sure_numbers : List Str := ["sky", "most"]
abbrev s_sure_worth : Stmt := topS 25
abbrev N_sure_worth : List Str := ["sky", "most", "numbers", "state"]
abbrev p_sure_worth : List Str := ["sky", "most"]
abbrev s_sure_rule : Stmt := topS 26
abbrev N_sure_rule : List Str := ["sky", "most", "numbers", "rule", "state", "move"]
abbrev p_sure_rule : List Str := ["sky", "most"]
abbrev s_taken_by : Stmt := topS 27
abbrev N_taken_by : List Str := ["sky", "rule", "failing", "moves", "state", "move", "taken", "states", "now", "fates", "name", "one"]
abbrev p_taken_by : List Str := ["sky", "rule", "failing"]
abbrev s_number : Stmt := topS 31
abbrev N_number : List Str := ["n", "d", "common"]
abbrev p_number : List Str := ["n", "d"]
abbrev s_plus : Stmt := topS 32
abbrev N_plus : List Str := ["x", "y"]
abbrev p_plus : List Str := ["x", "y"]
abbrev s_times : Stmt := topS 33
abbrev N_times : List Str := ["x", "y"]
abbrev p_times : List Str := ["x", "y"]
abbrev s_is_less : Stmt := topS 34
abbrev N_is_less : List Str := ["x", "y"]
abbrev p_is_less : List Str := ["x", "y"]
abbrev s_chance_among : Stmt := topS 35
abbrev N_chance_among : List Str := ["chances", "names", "failing", "found", "name", "n", "d"]
abbrev p_chance_among : List Str := ["chances", "names", "failing"]
abbrev s_first_chances : Stmt := topS 36
abbrev N_first_chances : List Str := ["sky", "chances", "found", "state", "chance"]
abbrev p_first_chances : List Str := ["sky", "chances"]
abbrev s_chances_behind : Stmt := topS 37
abbrev N_chances_behind : List Str := ["sky", "chances", "state", "move", "found", "behind", "names", "chance"]
abbrev p_chances_behind : List Str := ["sky", "chances", "state", "move"]
abbrev s_mean_over : Stmt := topS 38
abbrev N_mean_over : List Str := ["rows", "numbers", "found", "state", "chance"]
abbrev p_mean_over : List Str := ["rows", "numbers"]
abbrev s_mean_by : Stmt := topS 39
abbrev N_mean_by : List Str := ["sky", "chances", "state", "move", "numbers"]
abbrev p_mean_by : List Str := ["sky", "chances", "state", "move", "numbers"]
abbrev s_mean_numbers : Stmt := topS 40
abbrev N_mean_numbers : List Str := ["sky", "chances", "waiting", "found", "state", "move", "behind", "chance", "numbers", "best", "told"]
abbrev p_mean_numbers : List Str := ["sky", "chances"]
abbrev s_mean_worth : Stmt := topS 41
abbrev N_mean_worth : List Str := ["sky", "chances"]
abbrev p_mean_worth : List Str := ["sky", "chances"]
abbrev s_plans_on : Stmt := topS 43
abbrev N_plans_on : List Str := ["sky", "now", "begun", "found", "at", "plan", "first", "look"]
abbrev p_plans_on : List Str := ["sky", "now", "begun"]
abbrev s_keeps : Stmt := topS 44
abbrev N_keeps : List Str := ["sky", "plan", "promises", "wishes", "look", "wish"]
abbrev p_keeps : List Str := ["sky", "plan", "promises"]
abbrev s_keeping : Stmt := topS 45
abbrev N_keeping : List Str := ["sky", "promises", "now", "begun", "plan"]
abbrev p_keeping : List Str := ["sky", "promises", "now", "begun"]
abbrev s_can_keep : Stmt := topS 46
abbrev N_can_keep : List Str := ["sky", "promises", "now", "begun"]
abbrev p_can_keep : List Str := ["sky", "promises", "now", "begun"]
abbrev s_best_keeping : Stmt := topS 47
abbrev N_best_keeping : List Str := ["sky", "promises", "now", "begun", "best", "plan", "worth"]
abbrev p_best_keeping : List Str := ["sky", "promises", "now", "begun"]
abbrev s__law_draws : Stmt := topS 49
abbrev N__law_draws : List Str := ["_law_script", "_law_count", "_law_rests", "_law_draws_here", "_law_k", "_law_value", "_law_at", "_law_mixed", "_law_cell"]
abbrev p__law_draws : List Str := ["_law_script", "_law_count"]
abbrev s__law_sky : Stmt := topS 50
abbrev N__law_sky : List Str := ["_law_draws_here", "_law_most", "_law_wishes", "_law_worths", "_law_ears", "_law_since", "_law_k", "_law_first", "_law_looks", "_law_start", "_law_angle"]
abbrev p__law_sky : List Str := ["_law_draws_here", "_law_most"]
abbrev s__law_turn : Stmt := topS 51
abbrev N__law_turn : List Str := ["_law_sky_here", "_law_first", "_law_second", "_law_ticks", "_law_turn_here"]
abbrev p__law_turn : List Str := ["_law_sky_here", "_law_first", "_law_second"]
abbrev s__law_store : Stmt := topS 52
abbrev N__law_store : List Str := ["_law_sky_here", "_law_names", "_law_time", "_law_store_here", "_law_now", "_law_first", "_law_last", "_law_rate", "_law_name", "_law_wish", "_law_start", "_law_length", "_law_angle", "_law_size"]
abbrev p__law_store : List Str := ["_law_sky_here", "_law_names", "_law_time"]
abbrev s__law_wrong : Stmt := topS 53
abbrev N__law_wrong : List Str := ["_law_sky_here", "_law_names", "_law_place", "_law_look", "_law_before", "_law_name"]
abbrev p__law_wrong : List Str := ["_law_sky_here", "_law_names"]
abbrev s__law_worth : Stmt := topS 54
abbrev N__law_worth : List Str := ["_law_sky_here", "_law_names", "_law_wishes", "_law_name", "_law_wish"]
abbrev p__law_worth : List Str := ["_law_sky_here", "_law_names"]
abbrev s__law_more_ears : Stmt := topS 55
abbrev N__law_more_ears : List Str := ["_law_sky_here", "_law_draws_here", "_law_since", "_law_ear"]
abbrev p__law_more_ears : List Str := ["_law_sky_here", "_law_draws_here"]
abbrev s__law_gcd : Stmt := topS 56
abbrev N__law_gcd : List Str := ["_law_a", "_law_b", "_law_turn_here"]
abbrev p__law_gcd : List Str := ["_law_a", "_law_b"]
abbrev s__law_number : Stmt := topS 57
abbrev N__law_number : List Str := ["_law_n", "_law_d", "_law_common"]
abbrev p__law_number : List Str := ["_law_n", "_law_d"]
abbrev s__law_less : Stmt := topS 58
abbrev N__law_less : List Str := ["_law_a", "_law_b"]
abbrev p__law_less : List Str := ["_law_a", "_law_b"]
abbrev s__law_chances : Stmt := topS 59
abbrev N__law_chances : List Str := ["_law_sky_here", "_law_draws_here", "_law_found", "_law_k", "_law_d"]
abbrev p__law_chances : List Str := ["_law_sky_here", "_law_draws_here"]
abbrev s__law_grown : Stmt := topS 60
abbrev N__law_grown : List Str := ["_law_sky_here", "_law_found", "_law_at", "_law_names", "_law_look"]
abbrev p__law_grown : List Str := ["_law_sky_here"]
abbrev s__law_best_worth : Stmt := topS 61
abbrev N__law_best_worth : List Str := ["_law_sky_here", "_law_names"]
abbrev p__law_best_worth : List Str := ["_law_sky_here"]
abbrev s_law : Stmt := topS 62
abbrev N_law : List Str := ["_law_script", "_law_draws_here", "_law_sky_here", "_law_chances_here", "_law_best", "_law_mean", "_law_failing", "_law_most", "_law_names", "_law_left", "_law_now", "_law_begun", "_law_promises", "_law_worth_here", "_law_plan", "_law_ear", "_law_k", "_law_name"]
abbrev p_law : List Str := ["_law_script"]
/-- what the module holds -/
structure Mo (K : PySem.W.Frag) (mg : Str → Option Value) : Prop where
  f_end_of : ∃ fd, FunD K "end_of" "end_of" (defArgs s_end_of) (defBody s_end_of) (defScope s_end_of) [] [] (He.ga K "end_of") fd
  m_end_of : mg "end_of" = some (.ref (He.ga K "end_of"))
  f_turning : ∃ fd, FunD K "turning" "turning" (defArgs s_turning) (defBody s_turning) (defScope s_turning) [] [] (He.ga K "turning") fd
  m_turning : mg "turning" = some (.ref (He.ga K "turning"))
  f_loss : ∃ fd, FunD K "loss" "loss" (defArgs s_loss) (defBody s_loss) (defScope s_loss) [] [] (He.ga K "loss") fd
  m_loss : mg "loss" = some (.ref (He.ga K "loss"))
  f_emptied : ∃ fd, FunD K "emptied" "emptied" (defArgs s_emptied) (defBody s_emptied) (defScope s_emptied) [] [] (He.ga K "emptied") fd
  m_emptied : mg "emptied" = some (.ref (He.ga K "emptied"))
  f_follows : ∃ fd, FunD K "follows" "follows" (defArgs s_follows) (defBody s_follows) (defScope s_follows) [] [] (He.ga K "follows") fd
  m_follows : mg "follows" = some (.ref (He.ga K "follows"))
  f_stored_at : ∃ fd, FunD K "stored_at" "stored_at" (defArgs s_stored_at) (defBody s_stored_at) (defScope s_stored_at) [] [] (He.ga K "stored_at") fd
  m_stored_at : mg "stored_at" = some (.ref (He.ga K "stored_at"))
  f_level_behind : ∃ fd, FunD K "level_behind" "level_behind" (defArgs s_level_behind) (defBody s_level_behind) (defScope s_level_behind) [] [] (He.ga K "level_behind") fd
  m_level_behind : mg "level_behind" = some (.ref (He.ga K "level_behind"))
  f_wrong_in : ∃ fd, FunD K "wrong_in" "wrong_in" (defArgs s_wrong_in) (defBody s_wrong_in) (defScope s_wrong_in) [] [] (He.ga K "wrong_in") fd
  m_wrong_in : mg "wrong_in" = some (.ref (He.ga K "wrong_in"))
  f_is_plan : ∃ fd, FunD K "is_plan" "is_plan" (defArgs s_is_plan) (defBody s_is_plan) (defScope s_is_plan) [] [] (He.ga K "is_plan") fd
  m_is_plan : mg "is_plan" = some (.ref (He.ga K "is_plan"))
  f_worth_of : ∃ fd, FunD K "worth_of" "worth_of" (defArgs s_worth_of) (defBody s_worth_of) (defScope s_worth_of) [] [] (He.ga K "worth_of") fd
  m_worth_of : mg "worth_of" = some (.ref (He.ga K "worth_of"))
  f_without_ears : ∃ fd, FunD K "without_ears" "without_ears" (defArgs s_without_ears) (defBody s_without_ears) (defScope s_without_ears) [] [] (He.ga K "without_ears") fd
  m_without_ears : mg "without_ears" = some (.ref (He.ga K "without_ears"))
  f_ways_of : ∃ fd, FunD K "ways_of" "ways_of" (defArgs s_ways_of) (defBody s_ways_of) (defScope s_ways_of) [] [] (He.ga K "ways_of") fd
  m_ways_of : mg "ways_of" = some (.ref (He.ga K "ways_of"))
  f_begun_between : ∃ fd, FunD K "begun_between" "begun_between" (defArgs s_begun_between) (defBody s_begun_between) (defScope s_begun_between) [] [] (He.ga K "begun_between") fd
  m_begun_between : mg "begun_between" = some (.ref (He.ga K "begun_between"))
  f_first_states : ∃ fd, FunD K "first_states" "first_states" (defArgs s_first_states) (defBody s_first_states) (defScope s_first_states) [] [] (He.ga K "first_states") fd
  m_first_states : mg "first_states" = some (.ref (He.ga K "first_states"))
  f_may_take : ∃ fd, FunD K "may_take" "may_take" (defArgs s_may_take) (defBody s_may_take) (defScope s_may_take) [] [] (He.ga K "may_take") fd
  m_may_take : mg "may_take" = some (.ref (He.ga K "may_take"))
  f_moves_of : ∃ fd, FunD K "moves_of" "moves_of" (defArgs s_moves_of) (defBody s_moves_of) (defScope s_moves_of) [] [] (He.ga K "moves_of") fd
  m_moves_of : mg "moves_of" = some (.ref (He.ga K "moves_of"))
  f_gain_of : ∃ fd, FunD K "gain_of" "gain_of" (defArgs s_gain_of) (defBody s_gain_of) (defScope s_gain_of) [] [] (He.ga K "gain_of") fd
  m_gain_of : mg "gain_of" = some (.ref (He.ga K "gain_of"))
  f_amount_behind : ∃ fd, FunD K "amount_behind" "amount_behind" (defArgs s_amount_behind) (defBody s_amount_behind) (defScope s_amount_behind) [] [] (He.ga K "amount_behind") fd
  m_amount_behind : mg "amount_behind" = some (.ref (He.ga K "amount_behind"))
  f_states_behind : ∃ fd, FunD K "states_behind" "states_behind" (defArgs s_states_behind) (defBody s_states_behind) (defScope s_states_behind) [] [] (He.ga K "states_behind") fd
  m_states_behind : mg "states_behind" = some (.ref (He.ga K "states_behind"))
  f_reached : ∃ fd, FunD K "reached" "reached" (defArgs s_reached) (defBody s_reached) (defScope s_reached) [] [] (He.ga K "reached") fd
  m_reached : mg "reached" = some (.ref (He.ga K "reached"))
  f_sure_by : ∃ fd, FunD K "sure_by" "sure_by" (defArgs s_sure_by) (defBody s_sure_by) (defScope s_sure_by) [] [] (He.ga K "sure_by") fd
  m_sure_by : mg "sure_by" = some (.ref (He.ga K "sure_by"))
  f_sure_numbers : ∃ fd, FunD K "sure_numbers" "sure_numbers" (defArgs s_sure_numbers) (defBody s_sure_numbers) (defScope s_sure_numbers) [] [] (He.ga K "sure_numbers") fd
  m_sure_numbers : mg "sure_numbers" = some (.ref (He.ga K "sure_numbers"))
  f_sure_worth : ∃ fd, FunD K "sure_worth" "sure_worth" (defArgs s_sure_worth) (defBody s_sure_worth) (defScope s_sure_worth) [] [] (He.ga K "sure_worth") fd
  m_sure_worth : mg "sure_worth" = some (.ref (He.ga K "sure_worth"))
  f_sure_rule : ∃ fd, FunD K "sure_rule" "sure_rule" (defArgs s_sure_rule) (defBody s_sure_rule) (defScope s_sure_rule) [] [] (He.ga K "sure_rule") fd
  m_sure_rule : mg "sure_rule" = some (.ref (He.ga K "sure_rule"))
  f_taken_by : ∃ fd, FunD K "taken_by" "taken_by" (defArgs s_taken_by) (defBody s_taken_by) (defScope s_taken_by) [] [] (He.ga K "taken_by") fd
  m_taken_by : mg "taken_by" = some (.ref (He.ga K "taken_by"))
  f_number : ∃ fd, FunD K "number" "number" (defArgs s_number) (defBody s_number) (defScope s_number) [] [] (He.ga K "number") fd
  m_number : mg "number" = some (.ref (He.ga K "number"))
  f_plus : ∃ fd, FunD K "plus" "plus" (defArgs s_plus) (defBody s_plus) (defScope s_plus) [] [] (He.ga K "plus") fd
  m_plus : mg "plus" = some (.ref (He.ga K "plus"))
  f_times : ∃ fd, FunD K "times" "times" (defArgs s_times) (defBody s_times) (defScope s_times) [] [] (He.ga K "times") fd
  m_times : mg "times" = some (.ref (He.ga K "times"))
  f_is_less : ∃ fd, FunD K "is_less" "is_less" (defArgs s_is_less) (defBody s_is_less) (defScope s_is_less) [] [] (He.ga K "is_less") fd
  m_is_less : mg "is_less" = some (.ref (He.ga K "is_less"))
  f_chance_among : ∃ fd, FunD K "chance_among" "chance_among" (defArgs s_chance_among) (defBody s_chance_among) (defScope s_chance_among) [] [] (He.ga K "chance_among") fd
  m_chance_among : mg "chance_among" = some (.ref (He.ga K "chance_among"))
  f_first_chances : ∃ fd, FunD K "first_chances" "first_chances" (defArgs s_first_chances) (defBody s_first_chances) (defScope s_first_chances) [] [] (He.ga K "first_chances") fd
  m_first_chances : mg "first_chances" = some (.ref (He.ga K "first_chances"))
  f_chances_behind : ∃ fd, FunD K "chances_behind" "chances_behind" (defArgs s_chances_behind) (defBody s_chances_behind) (defScope s_chances_behind) [] [] (He.ga K "chances_behind") fd
  m_chances_behind : mg "chances_behind" = some (.ref (He.ga K "chances_behind"))
  f_mean_over : ∃ fd, FunD K "mean_over" "mean_over" (defArgs s_mean_over) (defBody s_mean_over) (defScope s_mean_over) [] [] (He.ga K "mean_over") fd
  m_mean_over : mg "mean_over" = some (.ref (He.ga K "mean_over"))
  f_mean_by : ∃ fd, FunD K "mean_by" "mean_by" (defArgs s_mean_by) (defBody s_mean_by) (defScope s_mean_by) [] [] (He.ga K "mean_by") fd
  m_mean_by : mg "mean_by" = some (.ref (He.ga K "mean_by"))
  f_mean_numbers : ∃ fd, FunD K "mean_numbers" "mean_numbers" (defArgs s_mean_numbers) (defBody s_mean_numbers) (defScope s_mean_numbers) [] [] (He.ga K "mean_numbers") fd
  m_mean_numbers : mg "mean_numbers" = some (.ref (He.ga K "mean_numbers"))
  f_mean_worth : ∃ fd, FunD K "mean_worth" "mean_worth" (defArgs s_mean_worth) (defBody s_mean_worth) (defScope s_mean_worth) [] [] (He.ga K "mean_worth") fd
  m_mean_worth : mg "mean_worth" = some (.ref (He.ga K "mean_worth"))
  f_plans_on : ∃ fd, FunD K "plans_on" "plans_on" (defArgs s_plans_on) (defBody s_plans_on) (defScope s_plans_on) [] [] (He.ga K "plans_on") fd
  m_plans_on : mg "plans_on" = some (.ref (He.ga K "plans_on"))
  f_keeps : ∃ fd, FunD K "keeps" "keeps" (defArgs s_keeps) (defBody s_keeps) (defScope s_keeps) [] [] (He.ga K "keeps") fd
  m_keeps : mg "keeps" = some (.ref (He.ga K "keeps"))
  f_keeping : ∃ fd, FunD K "keeping" "keeping" (defArgs s_keeping) (defBody s_keeping) (defScope s_keeping) [] [] (He.ga K "keeping") fd
  m_keeping : mg "keeping" = some (.ref (He.ga K "keeping"))
  f_can_keep : ∃ fd, FunD K "can_keep" "can_keep" (defArgs s_can_keep) (defBody s_can_keep) (defScope s_can_keep) [] [] (He.ga K "can_keep") fd
  m_can_keep : mg "can_keep" = some (.ref (He.ga K "can_keep"))
  f_best_keeping : ∃ fd, FunD K "best_keeping" "best_keeping" (defArgs s_best_keeping) (defBody s_best_keeping) (defScope s_best_keeping) [] [("now", V.int 0), ("begun", V.ref (kwA "best_keeping" "begun" K))] (He.ga K "best_keeping") fd
  m_best_keeping : mg "best_keeping" = some (.ref (He.ga K "best_keeping"))
  f__law_draws : ∃ fd, FunD K "_law_draws" "_law_draws" (defArgs s__law_draws) (defBody s__law_draws) (defScope s__law_draws) [] [] (He.ga K "_law_draws") fd
  m__law_draws : mg "_law_draws" = some (.ref (He.ga K "_law_draws"))
  f__law_sky : ∃ fd, FunD K "_law_sky" "_law_sky" (defArgs s__law_sky) (defBody s__law_sky) (defScope s__law_sky) [] [] (He.ga K "_law_sky") fd
  m__law_sky : mg "_law_sky" = some (.ref (He.ga K "_law_sky"))
  f__law_turn : ∃ fd, FunD K "_law_turn" "_law_turn" (defArgs s__law_turn) (defBody s__law_turn) (defScope s__law_turn) [] [] (He.ga K "_law_turn") fd
  m__law_turn : mg "_law_turn" = some (.ref (He.ga K "_law_turn"))
  f__law_store : ∃ fd, FunD K "_law_store" "_law_store" (defArgs s__law_store) (defBody s__law_store) (defScope s__law_store) [] [] (He.ga K "_law_store") fd
  m__law_store : mg "_law_store" = some (.ref (He.ga K "_law_store"))
  f__law_wrong : ∃ fd, FunD K "_law_wrong" "_law_wrong" (defArgs s__law_wrong) (defBody s__law_wrong) (defScope s__law_wrong) [] [] (He.ga K "_law_wrong") fd
  m__law_wrong : mg "_law_wrong" = some (.ref (He.ga K "_law_wrong"))
  f__law_worth : ∃ fd, FunD K "_law_worth" "_law_worth" (defArgs s__law_worth) (defBody s__law_worth) (defScope s__law_worth) [] [] (He.ga K "_law_worth") fd
  m__law_worth : mg "_law_worth" = some (.ref (He.ga K "_law_worth"))
  f__law_more_ears : ∃ fd, FunD K "_law_more_ears" "_law_more_ears" (defArgs s__law_more_ears) (defBody s__law_more_ears) (defScope s__law_more_ears) [] [] (He.ga K "_law_more_ears") fd
  m__law_more_ears : mg "_law_more_ears" = some (.ref (He.ga K "_law_more_ears"))
  f__law_gcd : ∃ fd, FunD K "_law_gcd" "_law_gcd" (defArgs s__law_gcd) (defBody s__law_gcd) (defScope s__law_gcd) [] [] (He.ga K "_law_gcd") fd
  m__law_gcd : mg "_law_gcd" = some (.ref (He.ga K "_law_gcd"))
  f__law_number : ∃ fd, FunD K "_law_number" "_law_number" (defArgs s__law_number) (defBody s__law_number) (defScope s__law_number) [] [] (He.ga K "_law_number") fd
  m__law_number : mg "_law_number" = some (.ref (He.ga K "_law_number"))
  f__law_less : ∃ fd, FunD K "_law_less" "_law_less" (defArgs s__law_less) (defBody s__law_less) (defScope s__law_less) [] [] (He.ga K "_law_less") fd
  m__law_less : mg "_law_less" = some (.ref (He.ga K "_law_less"))
  f__law_chances : ∃ fd, FunD K "_law_chances" "_law_chances" (defArgs s__law_chances) (defBody s__law_chances) (defScope s__law_chances) [] [] (He.ga K "_law_chances") fd
  m__law_chances : mg "_law_chances" = some (.ref (He.ga K "_law_chances"))
  f__law_grown : ∃ fd, FunD K "_law_grown" "_law_grown" (defArgs s__law_grown) (defBody s__law_grown) (defScope s__law_grown) [] [] (He.ga K "_law_grown") fd
  m__law_grown : mg "_law_grown" = some (.ref (He.ga K "_law_grown"))
  f__law_best_worth : ∃ fd, FunD K "_law_best_worth" "_law_best_worth" (defArgs s__law_best_worth) (defBody s__law_best_worth) (defScope s__law_best_worth) [] [] (He.ga K "_law_best_worth") fd
  m__law_best_worth : mg "_law_best_worth" = some (.ref (He.ga K "_law_best_worth"))
  f_law : ∃ fd, FunD K "law" "law" (defArgs s_law) (defBody s_law) (defScope s_law) [] [] (He.ga K "law") fd
  m_law : mg "law" = some (.ref (He.ga K "law"))
  n_abs : mg "abs" = none
  n_max : mg "max" = none
  n_min : mg "min" = none
  n_enumerate : mg "enumerate" = none
  n_sum : mg "sum" = none
  n_list : mg "list" = none
  n_range : mg "range" = none
  n_len : mg "len" = none
  n_sorted : mg "sorted" = none
  n_tuple : mg "tuple" = none
  n_reversed : mg "reversed" = none
  n_all : mg "all" = none
  n_int : mg "int" = none
  g_gcd : mg "gcd" = some (.builtin "math.gcd")
  g_NOUGHT : mg "NOUGHT" = some (.ref (He.ga K "NOUGHT"))
  r_NOUGHT : ∀ H : Hp, Rp K H (.ref (He.ga K "NOUGHT")) (.tuple [.int 0, .int 1])
  g_ONE : mg "ONE" = some (.ref (He.ga K "ONE"))
  r_ONE : ∀ H : Hp, Rp K H (.ref (He.ga K "ONE")) (.tuple [.int 1, .int 1])
  r_begun : ∀ H : Hp, Rp K H (.ref (kwA "best_keeping" "begun" K)) (.tuple [])
section
variable {P : Program} {w : World} {K : PySem.W.Frag} {mg : Str → Option Value} {base : Heap}
theorem sc_end_of : FnScope N_end_of p_end_of (defScope s_end_of) := ⟨rfl, rfl, rfl, by decide +kernel, rfl, by decide +kernel, by decide +kernel⟩
abbrev k_end_of : Nat → Kd := fun i => [.val, .val, .val, .val, .val, .val, .val].getD i .val
abbrev O_end_of (P : Program) (w : World) (K : PySem.W.Frag) (mg : Str → Option Value) (base : Heap) (fd : FuncData) : Prop := FnD P w K mg base 1 (He.ga K "end_of") fd p_end_of [true, true] .val g_end_of
theorem ok_end_of (M : Mo K mg) : ∃ fd, O_end_of P w K mg base fd ∧ PySem.W.keepIn K (.ref (He.ga K "end_of")) = true ∧ L2.Binds K fd p_end_of [] := by
  obtain ⟨fd, F⟩ := M.f_end_of
  refine ⟨fd, ?_, F.kp, F.bindsN fun _ _ _ _ _ _ us hl => match us, hl with | [_, _], _ => rfl⟩
  refine fnD_of (kd := k_end_of) F sc_end_of rfl (by decide) (by decide) (by decide) fun cdv A outer s H E hr => ?_
  have hu := hu40 hr
  exact (dss_cons (ds_tup (ps_asg (de_ix (de_any (de_ix (de_any (de_v (pv 0) rfl)) (de_any de_int) (by intro _ _; rfl))) (de_any (de_v (pv 1) rfl)) (by intro _ _; rfl)) (dg_tup rfl (dgs_cons (pg_name (i := 2) sc_end_of.nd rfl (Or.inl rfl)) rfl (dgs_cons (pg_name (i := 3) sc_end_of.nd rfl (Or.inl rfl)) rfl (dgs_cons (pg_name (i := 4) sc_end_of.nd rfl (Or.inl rfl)) rfl (dgs_cons (pg_name (i := 5) sc_end_of.nd rfl (Or.inl rfl)) rfl (dgs_cons (pg_name (i := 6) sc_end_of.nd rfl (Or.inl rfl)) rfl dgs_nil))))))))
  (dss_one (ds_ret (de_op op_add o2_add (de_any (de_v (pv 3) rfl)) (de_any (de_v (pv 4) rfl))))))
theorem sc_turning : FnScope N_turning p_turning (defScope s_turning) := ⟨rfl, rfl, rfl, by decide +kernel, rfl, by decide +kernel, by decide +kernel⟩
abbrev k_turning : Nat → Kd := fun i => [.val, .val, .val].getD i .val
abbrev O_turning (P : Program) (w : World) (K : PySem.W.Frag) (mg : Str → Option Value) (base : Heap) (fd : FuncData) : Prop := FnD P w K mg base 1 (He.ga K "turning") fd p_turning [true, true, true] .val g_turning
theorem ok_turning (M : Mo K mg) : ∃ fd, O_turning P w K mg base fd ∧ PySem.W.keepIn K (.ref (He.ga K "turning")) = true ∧ L2.Binds K fd p_turning [] := by
  obtain ⟨fd, F⟩ := M.f_turning
  refine ⟨fd, ?_, F.kp, F.bindsN fun _ _ _ _ _ _ us hl => match us, hl with | [_, _, _], _ => rfl⟩
  refine fnD_of (kd := k_turning) F sc_turning rfl (by decide) (by decide) (by decide) fun cdv A outer s H E hr => ?_
  have hu := hu40 hr
  exact (dss_one (ds_ret (de_neg (de_any (de_op op_fdivW o2_div (de_any (de_neg (de_any (de_cb call_abs ol_abs rfl M.n_abs boot_abs (da_any (de_any (de_op op_sub o2_sub (de_any (de_ix (de_any (de_ix (de_any (de_ix (de_any (de_v (pv 0) rfl)) (de_any de_int) (by intro _ _; rfl))) (de_any (de_v (pv 2) rfl)) (by intro _ _; rfl))) (de_any de_int) (by intro _ _; rfl))) (de_any (de_ix (de_any (de_ix (de_any (de_ix (de_any (de_v (pv 0) rfl)) (de_any de_int) (by intro _ _; rfl))) (de_any (de_v (pv 1) rfl)) (by intro _ _; rfl))) (de_any de_int) (by intro _ _; rfl))))) da_nil))))) (de_any (de_ix (de_any (de_v (pv 0) rfl)) (de_any de_int) (by intro _ _; rfl))))))))
theorem sc_loss : FnScope N_loss p_loss (defScope s_loss) := ⟨rfl, rfl, rfl, by decide +kernel, rfl, by decide +kernel, by decide +kernel⟩
abbrev k_loss : Nat → Kd := fun i => [.val, .val, .val, .val, .val, .val, .val].getD i .val
abbrev O_loss (P : Program) (w : World) (K : PySem.W.Frag) (mg : Str → Option Value) (base : Heap) (fd : FuncData) : Prop := FnD P w K mg base 1 (He.ga K "loss") fd p_loss [true, true, true] .val g_loss
theorem ok_loss (M : Mo K mg) : ∃ fd, O_loss P w K mg base fd ∧ PySem.W.keepIn K (.ref (He.ga K "loss")) = true ∧ L2.Binds K fd p_loss [] := by
  obtain ⟨fd, F⟩ := M.f_loss
  refine ⟨fd, ?_, F.kp, F.bindsN fun _ _ _ _ _ _ us hl => match us, hl with | [_, _, _], _ => rfl⟩
  refine fnD_of (kd := k_loss) F sc_loss rfl (by decide) (by decide) (by decide) fun cdv A outer s H E hr => ?_
  have hu := hu40 hr
  exact (dss_cons (ds_set (ps_set (i := 3) sc_loss.nd rfl (Or.inl rfl) de_int) rfl)
  (dss_cons (ds_for (js := [4, 5, 6]) PassesOwn.never rfl (di_seq (de_sta (de_v (pv 0) rfl))) (dg_tup rfl (dgs_cons (pg_name (i := 4) sc_loss.nd rfl (Or.inl rfl)) rfl (dgs_cons (pg_name (i := 5) sc_loss.nd rfl (Or.inl rfl)) rfl (dgs_cons (pg_name (i := 6) sc_loss.nd rfl (Or.inl rfl)) rfl dgs_nil)))) (dss_one (ds_aug (ps_aug (i := 3) sc_loss.nd rfl (Or.inl rfl) (de_any (de_op op_mul o2_mul (de_any (de_v (pv 6) rfl)) (de_any (de_cb (call_max2 rfl) ol_max2 rfl M.n_max boot_max (da_any (de_any de_int) (da_any (de_any (de_op op_sub o2_sub (de_any (de_cb (call_min2 rfl) ol_min2 rfl M.n_min boot_min (da_any (de_any (de_v (pv 2) rfl)) (da_any (de_any (de_v (pv 5) rfl)) da_nil)))) (de_any (de_cb (call_max2 rfl) ol_max2 rfl M.n_max boot_max (da_any (de_any (de_v (pv 1) rfl)) (da_any (de_any (de_v (pv 4) rfl)) da_nil)))))) da_nil)))))) ip_add) rfl)))
  (dss_one (ds_ret (de_v (pv 3) rfl)))))
theorem sc_emptied : FnScope N_emptied p_emptied (defScope s_emptied) := ⟨rfl, rfl, rfl, by decide +kernel, rfl, by decide +kernel, by decide +kernel⟩
abbrev k_emptied : Nat → Kd := fun i => [.val, .val, .val, .val].getD i .val
abbrev O_emptied (P : Program) (w : World) (K : PySem.W.Frag) (mg : Str → Option Value) (base : Heap) (fd : FuncData) : Prop := FnD P w K mg base 2 (He.ga K "emptied") fd p_emptied [true, true, true, true] .val g_emptied
theorem ok_emptied (M : Mo K mg) : ∃ fd, O_emptied P w K mg base fd ∧ PySem.W.keepIn K (.ref (He.ga K "emptied")) = true ∧ ∃ g, KBn K fd p_emptied 2 ["since", "until"] g (fun vs zs => vs ++ zs) := by
  obtain ⟨fd_loss, F_loss, K_loss, B_loss⟩ := ok_loss (P := P) (w := w) (base := base) M
  obtain ⟨fd, F⟩ := M.f_emptied
  refine ⟨fd, ?_, F.kp, ⟨_, kbN F 2 ["since", "until"] fun _ _ _ _ _ _ us ws hl hl2 => match us, ws, hl, hl2 with | [_, _], [_, _], _, _ => rfl⟩⟩
  refine fnD_of (kd := k_emptied) F sc_emptied rfl (by decide) (by decide) (by decide) fun cdv A outer s H E hr => ?_
  have hu := hu40 hr
  exact (dss_one (ds_ret (de_cb (call_max2 rfl) ol_max2 rfl M.n_max boot_max (da_any (de_any de_int) (da_any (de_any (de_op op_sub o2_sub (de_any (de_v (pv 1) rfl)) (de_any (de_call F_loss hr rfl M.m_loss K_loss B_loss (da_val (de_ix (de_any (de_v (pv 0) rfl)) (de_any de_int) (by intro _ _; rfl)) (da_val (de_v (pv 2) rfl) (da_val (de_v (pv 3) rfl) da_nil))))))) da_nil)))))
theorem sc_follows : FnScope N_follows p_follows (defScope s_follows) := ⟨rfl, rfl, rfl, by decide +kernel, rfl, by decide +kernel, by decide +kernel⟩
abbrev k_follows : Nat → Kd := fun i => [.val, .val, .val].getD i .val
abbrev O_follows (P : Program) (w : World) (K : PySem.W.Frag) (mg : Str → Option Value) (base : Heap) (fd : FuncData) : Prop := FnD P w K mg base 2 (He.ga K "follows") fd p_follows [true, true, true] .val g_follows
theorem ok_follows (M : Mo K mg) : ∃ fd, O_follows P w K mg base fd ∧ PySem.W.keepIn K (.ref (He.ga K "follows")) = true ∧ L2.Binds K fd p_follows [] := by
  obtain ⟨fd_end_of, F_end_of, K_end_of, B_end_of⟩ := ok_end_of (P := P) (w := w) (base := base) M
  obtain ⟨fd_turning, F_turning, K_turning, B_turning⟩ := ok_turning (P := P) (w := w) (base := base) M
  obtain ⟨fd, F⟩ := M.f_follows
  refine ⟨fd, ?_, F.kp, F.bindsN fun _ _ _ _ _ _ us hl => match us, hl with | [_, _, _], _ => rfl⟩
  refine fnD_of (kd := k_follows) F sc_follows rfl (by decide) (by decide) (by decide) fun cdv A outer s H E hr => ?_
  have hu := hu40 hr
  exact (dss_one (ds_ret (de_cmp op_ge o2_ge (de_any (de_ix (de_any (de_ix (de_any (de_ix (de_any (de_v (pv 0) rfl)) (de_any de_int) (by intro _ _; rfl))) (de_any (de_v (pv 2) rfl)) (by intro _ _; rfl))) (de_any de_int) (by intro _ _; rfl))) (de_any (de_op op_add o2_add (de_any (de_call F_end_of hr rfl M.m_end_of K_end_of B_end_of (da_val (de_v (pv 0) rfl) (da_val (de_v (pv 1) rfl) da_nil)))) (de_any (de_call F_turning hr rfl M.m_turning K_turning B_turning (da_val (de_v (pv 0) rfl) (da_val (de_v (pv 1) rfl) (da_val (de_v (pv 2) rfl) da_nil))))))) (nomark _))))
theorem sc_stored_at : FnScope N_stored_at p_stored_at (defScope s_stored_at) := ⟨rfl, rfl, rfl, by decide +kernel, rfl, by decide +kernel, by decide +kernel⟩
abbrev k_stored_at : Nat → Kd := fun i => [.val, .val, .val, .val].getD i .val
abbrev O_stored_at (P : Program) (w : World) (K : PySem.W.Frag) (mg : Str → Option Value) (base : Heap) (fd : FuncData) : Prop := FnD P w K mg base 3 (He.ga K "stored_at") fd p_stored_at [true, true, true, true] .val g_stored_at
theorem ok_stored_at (M : Mo K mg) : ∃ fd, O_stored_at P w K mg base fd ∧ PySem.W.keepIn K (.ref (He.ga K "stored_at")) = true ∧ L2.Binds K fd p_stored_at [] := by
  obtain ⟨fd_emptied, F_emptied, K_emptied, gg_emptied, B_emptied⟩ := ok_emptied (P := P) (w := w) (base := base) M
  obtain ⟨fd_end_of, F_end_of, K_end_of, B_end_of⟩ := ok_end_of (P := P) (w := w) (base := base) M
  obtain ⟨fd, F⟩ := M.f_stored_at
  refine ⟨fd, ?_, F.kp, F.bindsN fun _ _ _ _ _ _ us hl => match us, hl with | [_, _, _, _], _ => rfl⟩
  refine fnD_of (kd := k_stored_at) F sc_stored_at rfl (by decide) (by decide) (by decide) fun cdv A outer s H E hr => ?_
  have hu := hu40 hr
  exact (dss_cons (ds_if (dt_isN (de_any (de_v (pv 1) rfl))) (dss_one (ds_ret de_int)) dss_nil)
  (dss_one (ds_ret (de_callK (ms := [true, true]) (ns := [true, true]) F_emptied hr rfl M.m_emptied K_emptied B_emptied (da_val (de_v (pv 0) rfl) (da_val (de_v (pv 2) rfl) da_nil)) (dk_val (de_call F_end_of (hr.mono (by decide)) rfl M.m_end_of K_end_of B_end_of (da_val (de_v (pv 0) rfl) (da_val (de_v (pv 1) rfl) da_nil))) (dk_val (de_v (pv 3) rfl) dk_nil))))))
theorem sc_level_behind : FnScope N_level_behind p_level_behind (defScope s_level_behind) := ⟨rfl, rfl, rfl, by decide +kernel, rfl, by decide +kernel, by decide +kernel⟩
abbrev k_level_behind : Nat → Kd := fun i => [.val, .val, .val, .val, .val, .val, .val, .val, .val].getD i .val
abbrev O_level_behind (P : Program) (w : World) (K : PySem.W.Frag) (mg : Str → Option Value) (base : Heap) (fd : FuncData) : Prop := FnD P w K mg base 4 (He.ga K "level_behind") fd p_level_behind [true, true, true, true] .val g_level_behind
theorem ok_level_behind (M : Mo K mg) : ∃ fd, O_level_behind P w K mg base fd ∧ PySem.W.keepIn K (.ref (He.ga K "level_behind")) = true ∧ L2.Binds K fd p_level_behind [] := by
  obtain ⟨fd_stored_at, F_stored_at, K_stored_at, B_stored_at⟩ := ok_stored_at (P := P) (w := w) (base := base) M
  obtain ⟨fd, F⟩ := M.f_level_behind
  refine ⟨fd, ?_, F.kp, F.bindsN fun _ _ _ _ _ _ us hl => match us, hl with | [_, _, _, _], _ => rfl⟩
  refine fnD_of (kd := k_level_behind) F sc_level_behind rfl (by decide) (by decide) (by decide) fun cdv A outer s H E hr => ?_
  have hu := hu40 hr
  exact (dss_cons (ds_tup (ps_asg (de_ix (de_any (de_ix (de_any (de_v (pv 0) rfl)) (de_any de_int) (by intro _ _; rfl))) (de_any (de_v (pv 3) rfl)) (by intro _ _; rfl)) (dg_tup rfl (dgs_cons (pg_name (i := 4) sc_level_behind.nd rfl (Or.inl rfl)) rfl (dgs_cons (pg_name (i := 5) sc_level_behind.nd rfl (Or.inl rfl)) rfl (dgs_cons (pg_name (i := 6) sc_level_behind.nd rfl (Or.inl rfl)) rfl (dgs_cons (pg_name (i := 7) sc_level_behind.nd rfl (Or.inl rfl)) rfl (dgs_cons (pg_name (i := 8) sc_level_behind.nd rfl (Or.inl rfl)) rfl dgs_nil))))))))
  (dss_cons (ds_if (dt_cmp op_gt o2_gt (de_any (de_op op_add o2_add (de_any (de_call F_stored_at hr rfl M.m_stored_at K_stored_at B_stored_at (da_val (de_v (pv 0) rfl) (da_val (de_v (pv 1) rfl) (da_val (de_v (pv 2) rfl) (da_val (de_v (pv 5) rfl) da_nil)))))) (de_any (de_v (pv 8) rfl)))) (de_any (de_ix (de_any (de_v (pv 0) rfl)) (de_any de_int) (by intro _ _; rfl))) (nomark _)) (dss_one (ds_ret de_none)) dss_nil)
  (dss_one (ds_ret (de_op op_add o2_add (de_any (de_call F_stored_at hr rfl M.m_stored_at K_stored_at B_stored_at (da_val (de_v (pv 0) rfl) (da_val (de_v (pv 1) rfl) (da_val (de_v (pv 2) rfl) (da_val (de_op op_add o2_add (de_any (de_v (pv 5) rfl)) (de_any (de_v (pv 6) rfl))) da_nil)))))) (de_any (de_v (pv 8) rfl)))))))
theorem sc_wrong_in : FnScope N_wrong_in p_wrong_in (defScope s_wrong_in) := ⟨rfl, rfl, rfl, by decide +kernel, rfl, by decide +kernel, by decide +kernel⟩
abbrev k_wrong_in : Nat → Kd := fun i => [.val, .val, .val, .val, .ownL, .val, .val].getD i .val
abbrev O_wrong_in (P : Program) (w : World) (K : PySem.W.Frag) (mg : Str → Option Value) (base : Heap) (fd : FuncData) : Prop := FnD P w K mg base 5 (He.ga K "wrong_in") fd p_wrong_in [true, true] .val g_wrong_in
theorem ok_wrong_in (M : Mo K mg) : ∃ fd, O_wrong_in P w K mg base fd ∧ PySem.W.keepIn K (.ref (He.ga K "wrong_in")) = true ∧ L2.Binds K fd p_wrong_in [] := by
  obtain ⟨fd_follows, F_follows, K_follows, B_follows⟩ := ok_follows (P := P) (w := w) (base := base) M
  obtain ⟨fd_level_behind, F_level_behind, K_level_behind, B_level_behind⟩ := ok_level_behind (P := P) (w := w) (base := base) M
  obtain ⟨fd, F⟩ := M.f_wrong_in
  refine ⟨fd, ?_, F.kp, F.bindsN fun _ _ _ _ _ _ us hl => match us, hl with | [_, _], _ => rfl⟩
  refine fnD_of (kd := k_wrong_in) F sc_wrong_in rfl (by decide) (by decide) (by decide) fun cdv A outer s H E hr => ?_
  have hu := hu40 hr
  exact (dss_cons (ds_set (ps_set (i := 2) sc_wrong_in.nd rfl (Or.inl rfl) de_none) rfl)
  (dss_cons (ds_set (ps_set (i := 3) sc_wrong_in.nd rfl (Or.inl rfl) de_int) rfl)
  (dss_cons (ds_setL (ps_set (i := 4) sc_wrong_in.nd rfl (Or.inl rfl) (de_lst da_nil)) rfl)
  (dss_cons (ds_for (js := [5, 6]) PassesOwn.never rfl (di_enum rfl M.n_enumerate (de_sta (de_v (pv 1) rfl))) (dg_tup rfl (dgs_cons (pg_name (i := 5) sc_wrong_in.nd rfl (Or.inl rfl)) rfl (dgs_cons (pg_name (i := 6) sc_wrong_in.nd rfl (Or.inl rfl)) rfl dgs_nil))) (dss_cons (ds_if (dt_w (dw_and (dt_notN (de_any (de_v (pv 2) rfl))) (dw_and1 (dt_cmp op_le o2_le (de_any (de_v (pv 6) rfl)) (de_any (de_v (pv 2) rfl)) (nomark _))))) (dss_one (ds_ret (de_tup (da_val de_str (da_val (de_v (pv 5) rfl) da_nil))))) dss_nil)
  (dss_cons (ds_if (dt_cmp op_in_seq o2_in (de_any (de_ix (de_any (de_ix (de_any (de_ix (de_any (de_v (pv 0) rfl)) (de_any de_int) (by intro _ _; rfl))) (de_any (de_v (pv 6) rfl)) (by intro _ _; rfl))) (de_any de_int) (by intro _ _; rfl))) (de_o (pv 4) rfl) (by rfl)) (dss_one (ds_ret (de_tup (da_val de_str (da_val (de_v (pv 5) rfl) da_nil))))) dss_nil)
  (dss_cons (ds_if (dt_w (dw_and (dt_notN (de_any (de_v (pv 2) rfl))) (dw_and1 (dt_not (dt_val (de_call F_follows (hr.mono (by decide)) rfl M.m_follows K_follows B_follows (da_val (de_v (pv 0) rfl) (da_val (de_v (pv 2) rfl) (da_val (de_v (pv 6) rfl) da_nil))))))))) (dss_one (ds_ret (de_tup (da_val de_str (da_val (de_v (pv 5) rfl) da_nil))))) dss_nil)
  (dss_cons (ds_set (ps_set (i := 3) sc_wrong_in.nd rfl (Or.inl rfl) (de_call F_level_behind hr rfl M.m_level_behind K_level_behind B_level_behind (da_val (de_v (pv 0) rfl) (da_val (de_v (pv 2) rfl) (da_val (de_v (pv 3) rfl) (da_val (de_v (pv 6) rfl) da_nil)))))) rfl)
  (dss_cons (ds_if (dt_isN (de_any (de_v (pv 3) rfl))) (dss_one (ds_ret (de_tup (da_val de_str (da_val (de_v (pv 5) rfl) da_nil))))) dss_nil)
  (dss_cons (ds_app rfl (ps_expr (pe_bm PySem.F.plainAttrs_list PySem.F.slot_list_append PySem.F.type_list_append mt_append (pv 4) (pa_cons (de_ix (de_any (de_ix (de_any (de_ix (de_any (de_v (pv 0) rfl)) (de_any de_int) (by intro _ _; rfl))) (de_any (de_v (pv 6) rfl)) (by intro _ _; rfl))) (de_any de_int) (by intro _ _; rfl)) pa_nil))))
  (dss_one (ds_set (ps_set (i := 2) sc_wrong_in.nd rfl (Or.inl rfl) (de_v (pv 6) rfl)) rfl)))))))))
  (dss_one (ds_ret de_none))))))
theorem sc_is_plan : FnScope N_is_plan p_is_plan (defScope s_is_plan) := ⟨rfl, rfl, rfl, by decide +kernel, rfl, by decide +kernel, by decide +kernel⟩
abbrev k_is_plan : Nat → Kd := fun i => [.val, .val].getD i .val
abbrev O_is_plan (P : Program) (w : World) (K : PySem.W.Frag) (mg : Str → Option Value) (base : Heap) (fd : FuncData) : Prop := FnD P w K mg base 6 (He.ga K "is_plan") fd p_is_plan [true, true] .val g_is_plan
theorem ok_is_plan (M : Mo K mg) : ∃ fd, O_is_plan P w K mg base fd ∧ PySem.W.keepIn K (.ref (He.ga K "is_plan")) = true ∧ L2.Binds K fd p_is_plan [] := by
  obtain ⟨fd_wrong_in, F_wrong_in, K_wrong_in, B_wrong_in⟩ := ok_wrong_in (P := P) (w := w) (base := base) M
  obtain ⟨fd, F⟩ := M.f_is_plan
  refine ⟨fd, ?_, F.kp, F.bindsN fun _ _ _ _ _ _ us hl => match us, hl with | [_, _], _ => rfl⟩
  refine fnD_of (kd := k_is_plan) F sc_is_plan rfl (by decide) (by decide) (by decide) fun cdv A outer s H E hr => ?_
  have hu := hu40 hr
  exact (dss_one (ds_ret (de_isN (de_any (de_call F_wrong_in hr rfl M.m_wrong_in K_wrong_in B_wrong_in (da_val (de_v (pv 0) rfl) (da_val (de_v (pv 1) rfl) da_nil)))))))
theorem sc_worth_of : FnScope N_worth_of p_worth_of (defScope s_worth_of) := ⟨rfl, rfl, rfl, by decide +kernel, rfl, by decide +kernel, by decide +kernel⟩
abbrev k_worth_of : Nat → Kd := fun i => [.val, .val, .ownL, .val, .val].getD i .val
abbrev O_worth_of (P : Program) (w : World) (K : PySem.W.Frag) (mg : Str → Option Value) (base : Heap) (fd : FuncData) : Prop := FnD P w K mg base 1 (He.ga K "worth_of") fd p_worth_of [true, true] .val g_worth_of
theorem ok_worth_of (M : Mo K mg) : ∃ fd, O_worth_of P w K mg base fd ∧ PySem.W.keepIn K (.ref (He.ga K "worth_of")) = true ∧ L2.Binds K fd p_worth_of [] := by
  obtain ⟨fd, F⟩ := M.f_worth_of
  refine ⟨fd, ?_, F.kp, F.bindsN fun _ _ _ _ _ _ us hl => match us, hl with | [_, _], _ => rfl⟩
  refine fnD_of (kd := k_worth_of) F sc_worth_of rfl (by decide) (by decide) (by decide) fun cdv A outer s H E hr => ?_
  have hu := hu40 hr
  exact (dss_cons (ds_setL (ps_set (i := 2) sc_worth_of.nd rfl (Or.inl rfl) (de_lst da_nil)) rfl)
  (dss_cons (ds_for (js := [3]) PassesOwn.never rfl (di_seq (de_sta (de_v (pv 1) rfl))) (dg_name (pg_name (i := 3) sc_worth_of.nd rfl (Or.inl rfl)) rfl) (dss_one (ds_if (dt_cmp op_notIn_seq o2_notIn (de_any (de_ix (de_any (de_ix (de_any (de_ix (de_any (de_v (pv 0) rfl)) (de_any de_int) (by intro _ _; rfl))) (de_any (de_v (pv 3) rfl)) (by intro _ _; rfl))) (de_any de_int) (by intro _ _; rfl))) (de_o (pv 2) rfl) (by rfl)) (dss_one (ds_app rfl (ps_expr (pe_bm PySem.F.plainAttrs_list PySem.F.slot_list_append PySem.F.type_list_append mt_append (pv 2) (pa_cons (de_ix (de_any (de_ix (de_any (de_ix (de_any (de_v (pv 0) rfl)) (de_any de_int) (by intro _ _; rfl))) (de_any (de_v (pv 3) rfl)) (by intro _ _; rfl))) (de_any de_int) (by intro _ _; rfl)) pa_nil))))) dss_nil)))
  (dss_one (ds_ret (de_cb (cr_sum rfl) ol_sum rfl M.n_sum boot_sum (da_any (de_any (de_comp (own := [("wish", 4)]) rfl sc_worth_of.nd (di_own (de_o (pv 2) rfl)) (blkOk_by (own := [("wish", 4)]) (N := N_worth_of) (sc := defScope s_worth_of) (by decide +kernel)) (fun _ _ _ _ _ => (dg_name (pg_name (i := 4) sc_worth_of.nd rfl (Or.inl rfl)) rfl)) (fun _ _ _ _ _ => dts_nil) (fun _ _ _ _ _ => (de_ix (de_any (de_ix (de_any (de_v (pv 0) rfl)) (de_any de_int) (by intro _ _; rfl))) (de_any (de_v (pv 4) rfl)) (by intro _ _; rfl))))) da_nil))))))
theorem sc_without_ears : FnScope N_without_ears p_without_ears (defScope s_without_ears) := ⟨rfl, rfl, rfl, by decide +kernel, rfl, by decide +kernel, by decide +kernel⟩
abbrev k_without_ears : Nat → Kd := fun i => [.val, .val, .val, .val, .val, .val, .val, .val, .val].getD i .val
abbrev O_without_ears (P : Program) (w : World) (K : PySem.W.Frag) (mg : Str → Option Value) (base : Heap) (fd : FuncData) : Prop := FnD P w K mg base 1 (He.ga K "without_ears") fd p_without_ears [true, true] .val g_without_ears
theorem ok_without_ears (M : Mo K mg) : ∃ fd, O_without_ears P w K mg base fd ∧ PySem.W.keepIn K (.ref (He.ga K "without_ears")) = true ∧ L2.Binds K fd p_without_ears [] := by
  obtain ⟨fd, F⟩ := M.f_without_ears
  refine ⟨fd, ?_, F.kp, F.bindsN fun _ _ _ _ _ _ us hl => match us, hl with | [_, _], _ => rfl⟩
  refine fnD_of (kd := k_without_ears) F sc_without_ears rfl (by decide) (by decide) (by decide) fun cdv A outer s H E hr => ?_
  have hu := hu40 hr
  exact (dss_cons (ds_tup (ps_asg (de_v (pv 0) rfl) (dg_tup rfl (dgs_cons (pg_name (i := 2) sc_without_ears.nd rfl (Or.inl rfl)) rfl (dgs_cons (pg_name (i := 3) sc_without_ears.nd rfl (Or.inl rfl)) rfl (dgs_cons (pg_name (i := 4) sc_without_ears.nd rfl (Or.inr rfl)) rfl (dgs_cons (pg_name (i := 5) sc_without_ears.nd rfl (Or.inl rfl)) rfl (dgs_cons (pg_name (i := 6) sc_without_ears.nd rfl (Or.inl rfl)) rfl dgs_nil))))))))
  (dss_cons (ds_setF (ps_comp (i := 7) (own := [("name", 8)]) rfl sc_without_ears.nd rfl rfl (sw_true rfl rfl rfl (by decide +kernel)) (di_c (di_rng1 rfl M.n_range (de_any (de_cb call_len_seq ol_len rfl M.n_len boot_len (da_any (de_any (de_v (pv 4) rfl)) da_nil))))) (blkOk_by (own := [("name", 8)]) (N := N_without_ears) (sc := defScope s_without_ears) (by decide +kernel)) (fun _ _ _ _ _ => (dg_name (pg_name (i := 8) sc_without_ears.nd rfl (Or.inl rfl)) rfl)) (fun _ _ _ _ _ => dts_one (dt_cmp op_notIn_seq o2_notIn (de_any (de_v (pv 8) rfl)) (de_any (de_v (pv 1) rfl)) (by rfl))) (fun _ _ _ _ _ => (de_ix (de_any (de_v (pv 4) rfl)) (de_any (de_v (pv 8) rfl)) (by intro _ _; rfl)))) rfl)
  (dss_one (ds_ret (de_tup (da_val (de_frz (de_ct call_list_of ol_toL rfl M.n_list boot_list (da_any (de_any (de_v (pv 2) rfl)) da_nil))) (da_val (de_frz (de_ct call_list_of ol_toL rfl M.n_list boot_list (da_any (de_any (de_v (pv 3) rfl)) da_nil))) (da_val (de_v (pv 7) rfl) (da_val (de_v (pv 5) rfl) (da_val (de_v (pv 6) rfl) da_nil))))))))))
theorem sc_ways_of : FnScope N_ways_of p_ways_of (defScope s_ways_of) := ⟨rfl, rfl, rfl, by decide +kernel, rfl, by decide +kernel, by decide +kernel⟩
abbrev k_ways_of : Nat → Kd := fun i => [.val, .val, .val, .val, .val, .val].getD i .val
abbrev O_ways_of (P : Program) (w : World) (K : PySem.W.Frag) (mg : Str → Option Value) (base : Heap) (fd : FuncData) : Prop := FnD P w K mg base 1 (He.ga K "ways_of") fd p_ways_of [true, true, true] .fre g_ways_of
theorem ok_ways_of (M : Mo K mg) : ∃ fd, O_ways_of P w K mg base fd ∧ PySem.W.keepIn K (.ref (He.ga K "ways_of")) = true ∧ L2.Binds K fd p_ways_of [] := by
  obtain ⟨fd, F⟩ := M.f_ways_of
  refine ⟨fd, ?_, F.kp, F.bindsN fun _ _ _ _ _ _ us hl => match us, hl with | [_, _, _], _ => rfl⟩
  refine fnD_of (kd := k_ways_of) F sc_ways_of rfl (by decide) (by decide) (by decide) fun cdv A outer s H E hr => ?_
  have hu := hu40 hr
  exact (dss_cons (ds_set (ps_set (i := 3) sc_ways_of.nd rfl (Or.inl rfl) (de_frz (de_lst (da_val (de_ct call_tuple_of ol_toT rfl M.n_tuple boot_tuple (da_any (de_any (de_v (pv 1) rfl)) da_nil)) da_nil)))) rfl)
  (dss_cons (ds_for (js := [4]) PassesOwn.never rfl (di_seq (de_sta (de_v (pv 0) rfl))) (dg_name (pg_name (i := 4) sc_ways_of.nd rfl (Or.inr rfl)) rfl) (dss_one (ds_set (ps_set (i := 3) sc_ways_of.nd rfl (Or.inl rfl) (de_frz (de_catL (de_v (pv 3) rfl) (de_frz (de_comp (own := [("one", 5)]) rfl sc_ways_of.nd (di_c (di_seq (de_sta (de_v (pv 3) rfl)))) (blkOk_by (own := [("one", 5)]) (N := N_ways_of) (sc := defScope s_ways_of) (by decide +kernel)) (fun _ _ _ _ _ => (dg_name (pg_name (i := 5) sc_ways_of.nd rfl (Or.inl rfl)) rfl)) (fun _ _ _ _ _ => dts_nil) (fun _ _ _ _ _ => (de_op op_catA o2_catT (de_any (de_v (pv 5) rfl)) (de_any (de_tup (da_val (de_v (pv 4) rfl) da_nil)))))))))) rfl)))
  (dss_one (ds_ret (de_cb (cr_sorted rfl hu) ol_sorted rfl M.n_sorted boot_sorted (da_any (de_any (de_comp (own := [("one", 5)]) rfl sc_ways_of.nd (di_c (di_seq (de_sta (de_v (pv 3) rfl)))) (blkOk_by (own := [("one", 5)]) (N := N_ways_of) (sc := defScope s_ways_of) (by decide +kernel)) (fun _ _ _ _ _ => (dg_name (pg_name (i := 5) sc_ways_of.nd rfl (Or.inl rfl)) rfl)) (fun _ _ _ _ _ => dts_one (dt_cmp op_le o2_le (de_any (de_cb call_len_seq ol_len rfl M.n_len boot_len (da_any (de_any (de_v (pv 5) rfl)) da_nil))) (de_any (de_v (pv 2) rfl)) (nomark _))) (fun _ _ _ _ _ => (de_v (pv 5) rfl)))) da_nil))))))
theorem sc_begun_between : FnScope N_begun_between p_begun_between (defScope s_begun_between) := ⟨rfl, rfl, rfl, by decide +kernel, rfl, by decide +kernel, by decide +kernel⟩
abbrev k_begun_between : Nat → Kd := fun i => [.val, .val, .val, .val].getD i .val
abbrev O_begun_between (P : Program) (w : World) (K : PySem.W.Frag) (mg : Str → Option Value) (base : Heap) (fd : FuncData) : Prop := FnD P w K mg base 1 (He.ga K "begun_between") fd p_begun_between [true, true, true] .fre g_begun_between
theorem ok_begun_between (M : Mo K mg) : ∃ fd, O_begun_between P w K mg base fd ∧ PySem.W.keepIn K (.ref (He.ga K "begun_between")) = true ∧ L2.Binds K fd p_begun_between [] := by
  obtain ⟨fd, F⟩ := M.f_begun_between
  refine ⟨fd, ?_, F.kp, F.bindsN fun _ _ _ _ _ _ us hl => match us, hl with | [_, _, _], _ => rfl⟩
  refine fnD_of (kd := k_begun_between) F sc_begun_between rfl (by decide) (by decide) (by decide) fun cdv A outer s H E hr => ?_
  have hu := hu40 hr
  exact (dss_one (ds_ret (de_comp (own := [("name", 3)]) rfl sc_begun_between.nd (di_c (di_rng1 rfl M.n_range (de_any (de_cb call_len_seq ol_len rfl M.n_len boot_len (da_any (de_any (de_ix (de_any (de_v (pv 0) rfl)) (de_any de_int) (by intro _ _; rfl))) da_nil))))) (blkOk_by (own := [("name", 3)]) (N := N_begun_between) (sc := defScope s_begun_between) (by decide +kernel)) (fun _ _ _ _ _ => (dg_name (pg_name (i := 3) sc_begun_between.nd rfl (Or.inl rfl)) rfl)) (fun _ _ _ _ _ => dts_one (dt_chain op_lt op_le o2_lt o2_le (de_any (de_v (pv 1) rfl)) (de_any (de_ix (de_any (de_ix (de_any (de_ix (de_any (de_v (pv 0) rfl)) (de_any de_int) (by intro _ _; rfl))) (de_any (de_v (pv 3) rfl)) (by intro _ _; rfl))) (de_any de_int) (by intro _ _; rfl))) (de_any (de_v (pv 2) rfl)))) (fun _ _ _ _ _ => (de_v (pv 3) rfl)))))
theorem sc_first_states : FnScope N_first_states p_first_states (defScope s_first_states) := ⟨rfl, rfl, rfl, by decide +kernel, rfl, by decide +kernel, by decide +kernel⟩
abbrev k_first_states : Nat → Kd := fun i => [.val, .val, .val, .val].getD i .val
abbrev O_first_states (P : Program) (w : World) (K : PySem.W.Frag) (mg : Str → Option Value) (base : Heap) (fd : FuncData) : Prop := FnD P w K mg base 2 (He.ga K "first_states") fd p_first_states [true, true] .fre g_first_states
theorem ok_first_states (M : Mo K mg) : ∃ fd, O_first_states P w K mg base fd ∧ PySem.W.keepIn K (.ref (He.ga K "first_states")) = true ∧ ∃ g, KBn K fd p_first_states 1 ["most"] g (fun vs zs => vs ++ zs) := by
  obtain ⟨fd_begun_between, F_begun_between, K_begun_between, B_begun_between⟩ := ok_begun_between (P := P) (w := w) (base := base) M
  obtain ⟨fd_ways_of, F_ways_of, K_ways_of, B_ways_of⟩ := ok_ways_of (P := P) (w := w) (base := base) M
  obtain ⟨fd, F⟩ := M.f_first_states
  refine ⟨fd, ?_, F.kp, ⟨_, kbN F 1 ["most"] fun _ _ _ _ _ _ us ws hl hl2 => match us, ws, hl, hl2 with | [_], [_], _, _ => rfl⟩⟩
  refine fnD_of (kd := k_first_states) F sc_first_states rfl (by decide) (by decide) (by decide) fun cdv A outer s H E hr => ?_
  have hu := hu40 hr
  exact (dss_cons (ds_if (dt_not (dt_tr (de_ix (de_any (de_v (pv 0) rfl)) (de_any de_int) (by intro _ _; rfl)))) (dss_one (ds_ret (de_lst da_nil))) dss_nil)
  (dss_cons (ds_set (ps_set (i := 2) sc_first_states.nd rfl (Or.inl rfl) (de_frz (de_call F_begun_between hr rfl M.m_begun_between K_begun_between B_begun_between (da_val (de_v (pv 0) rfl) (da_val (de_neg (de_any de_int)) (da_val (de_ix (de_any (de_ix (de_any (de_ix (de_any (de_v (pv 0) rfl)) (de_any de_int) (by intro _ _; rfl))) (de_any de_int) (by intro _ _; rfl))) (de_any de_int) (by intro _ _; rfl)) da_nil)))))) rfl)
  (dss_one (ds_ret (de_comp (own := [("failed", 3)]) rfl sc_first_states.nd (di_c (di_seq (de_sta (de_frz (de_call F_ways_of hr rfl M.m_ways_of K_ways_of B_ways_of (da_val (de_v (pv 2) rfl) (da_val (de_tup da_nil) (da_val (de_v (pv 1) rfl) da_nil)))))))) (blkOk_by (own := [("failed", 3)]) (N := N_first_states) (sc := defScope s_first_states) (by decide +kernel)) (fun _ _ _ _ _ => (dg_name (pg_name (i := 3) sc_first_states.nd rfl (Or.inl rfl)) rfl)) (fun _ _ _ _ _ => dts_nil) (fun _ _ _ _ _ => (de_tup (da_val de_int (da_val (de_neg (de_any de_int)) (da_val de_int (da_val (de_tup da_nil) (da_val (de_v (pv 3) rfl) da_nil))))))))))))
theorem sc_may_take : FnScope N_may_take p_may_take (defScope s_may_take) := ⟨rfl, rfl, rfl, by decide +kernel, rfl, by decide +kernel, by decide +kernel⟩
abbrev k_may_take : Nat → Kd := fun i => [.val, .val, .val, .val, .val, .val, .val, .val, .val, .val, .val, .val].getD i .val
abbrev O_may_take (P : Program) (w : World) (K : PySem.W.Frag) (mg : Str → Option Value) (base : Heap) (fd : FuncData) : Prop := FnD P w K mg base 2 (He.ga K "may_take") fd p_may_take [true, true] .val g_may_take
theorem ok_may_take (M : Mo K mg) : ∃ fd, O_may_take P w K mg base fd ∧ PySem.W.keepIn K (.ref (He.ga K "may_take")) = true ∧ L2.Binds K fd p_may_take [] := by
  obtain ⟨fd_end_of, F_end_of, K_end_of, B_end_of⟩ := ok_end_of (P := P) (w := w) (base := base) M
  obtain ⟨fd_turning, F_turning, K_turning, B_turning⟩ := ok_turning (P := P) (w := w) (base := base) M
  obtain ⟨fd, F⟩ := M.f_may_take
  refine ⟨fd, ?_, F.kp, F.bindsN fun _ _ _ _ _ _ us hl => match us, hl with | [_, _], _ => rfl⟩
  refine fnD_of (kd := k_may_take) F sc_may_take rfl (by decide) (by decide) (by decide) fun cdv A outer s H E hr => ?_
  have hu := hu40 hr
  exact (dss_cons (ds_tup (ps_asg (de_v (pv 1) rfl) (dg_tup rfl (dgs_cons (pg_name (i := 2) sc_may_take.nd rfl (Or.inl rfl)) rfl (dgs_cons (pg_name (i := 3) sc_may_take.nd rfl (Or.inl rfl)) rfl (dgs_cons (pg_name (i := 4) sc_may_take.nd rfl (Or.inl rfl)) rfl (dgs_cons (pg_name (i := 5) sc_may_take.nd rfl (Or.inl rfl)) rfl (dgs_cons (pg_name (i := 6) sc_may_take.nd rfl (Or.inl rfl)) rfl dgs_nil))))))))
  (dss_cons (ds_tup (ps_asg (de_ix (de_any (de_ix (de_any (de_v (pv 0) rfl)) (de_any de_int) (by intro _ _; rfl))) (de_any (de_v (pv 2) rfl)) (by intro _ _; rfl)) (dg_tup rfl (dgs_cons (pg_name (i := 7) sc_may_take.nd rfl (Or.inl rfl)) rfl (dgs_cons (pg_name (i := 8) sc_may_take.nd rfl (Or.inl rfl)) rfl (dgs_cons (pg_name (i := 9) sc_may_take.nd rfl (Or.inl rfl)) rfl (dgs_cons (pg_name (i := 10) sc_may_take.nd rfl (Or.inl rfl)) rfl (dgs_cons (pg_name (i := 11) sc_may_take.nd rfl (Or.inl rfl)) rfl dgs_nil))))))))
  (dss_cons (ds_if (dt_w (dw_or (dt_cmp op_in_seq o2_in (de_any (de_v (pv 7) rfl)) (de_any (de_v (pv 5) rfl)) (by rfl)) (dw_or1 (dt_cmp op_gt o2_gt (de_any (de_op op_add o2_add (de_any (de_v (pv 4) rfl)) (de_any (de_v (pv 11) rfl)))) (de_any (de_ix (de_any (de_v (pv 0) rfl)) (de_any de_int) (by intro _ _; rfl))) (nomark _))))) (dss_one (ds_ret de_bool)) dss_nil)
  (dss_one (ds_ret (de_or (de_cmp op_lt o2_lt (de_any (de_v (pv 3) rfl)) (de_any de_int) (nomark _)) (de_cmp op_le o2_le (de_any (de_op op_add o2_add (de_any (de_call F_end_of hr rfl M.m_end_of K_end_of B_end_of (da_val (de_v (pv 0) rfl) (da_val (de_v (pv 3) rfl) da_nil)))) (de_any (de_call F_turning hr rfl M.m_turning K_turning B_turning (da_val (de_v (pv 0) rfl) (da_val (de_v (pv 3) rfl) (da_val (de_v (pv 2) rfl) da_nil))))))) (de_any (de_v (pv 8) rfl)) (nomark _))))))))
theorem sc_moves_of : FnScope N_moves_of p_moves_of (defScope s_moves_of) := ⟨rfl, rfl, rfl, by decide +kernel, rfl, by decide +kernel, by decide +kernel⟩
abbrev k_moves_of : Nat → Kd := fun i => [.val, .val].getD i .val
abbrev O_moves_of (P : Program) (w : World) (K : PySem.W.Frag) (mg : Str → Option Value) (base : Heap) (fd : FuncData) : Prop := FnD P w K mg base 3 (He.ga K "moves_of") fd p_moves_of [true, true] .fre g_moves_of
theorem ok_moves_of (M : Mo K mg) : ∃ fd, O_moves_of P w K mg base fd ∧ PySem.W.keepIn K (.ref (He.ga K "moves_of")) = true ∧ L2.Binds K fd p_moves_of [] := by
  obtain ⟨fd_may_take, F_may_take, K_may_take, B_may_take⟩ := ok_may_take (P := P) (w := w) (base := base) M
  obtain ⟨fd, F⟩ := M.f_moves_of
  refine ⟨fd, ?_, F.kp, F.bindsN fun _ _ _ _ _ _ us hl => match us, hl with | [_, _], _ => rfl⟩
  refine fnD_of (kd := k_moves_of) F sc_moves_of rfl (by decide) (by decide) (by decide) fun cdv A outer s H E hr => ?_
  have hu := hu40 hr
  exact (dss_cons (ds_if (dt_val (de_call F_may_take hr rfl M.m_may_take K_may_take B_may_take (da_val (de_v (pv 0) rfl) (da_val (de_v (pv 1) rfl) da_nil)))) (dss_one (ds_ret (de_lst (da_val de_str (da_val de_str da_nil))))) dss_nil)
  (dss_one (ds_ret (de_lst (da_val de_str da_nil)))))
theorem sc_gain_of : FnScope N_gain_of p_gain_of (defScope s_gain_of) := ⟨rfl, rfl, rfl, by decide +kernel, rfl, by decide +kernel, by decide +kernel⟩
abbrev k_gain_of : Nat → Kd := fun i => [.val, .val, .val].getD i .val
abbrev O_gain_of (P : Program) (w : World) (K : PySem.W.Frag) (mg : Str → Option Value) (base : Heap) (fd : FuncData) : Prop := FnD P w K mg base 1 (He.ga K "gain_of") fd p_gain_of [true, true, true] .val g_gain_of
theorem ok_gain_of (M : Mo K mg) : ∃ fd, O_gain_of P w K mg base fd ∧ PySem.W.keepIn K (.ref (He.ga K "gain_of")) = true ∧ L2.Binds K fd p_gain_of [] := by
  obtain ⟨fd, F⟩ := M.f_gain_of
  refine ⟨fd, ?_, F.kp, F.bindsN fun _ _ _ _ _ _ us hl => match us, hl with | [_, _, _], _ => rfl⟩
  refine fnD_of (kd := k_gain_of) F sc_gain_of rfl (by decide) (by decide) (by decide) fun cdv A outer s H E hr => ?_
  have hu := hu40 hr
  exact (dss_cons (ds_if (dt_cmp (op_eqD hr.units) o2_eq (de_any (de_v (pv 2) rfl)) (de_any de_str) (nomark _)) (dss_one (ds_ret (de_ix (de_any (de_ix (de_any (de_v (pv 0) rfl)) (de_any de_int) (by intro _ _; rfl))) (de_any (de_ix (de_any (de_ix (de_any (de_ix (de_any (de_v (pv 0) rfl)) (de_any de_int) (by intro _ _; rfl))) (de_any (de_ix (de_any (de_v (pv 1) rfl)) (de_any de_int) (by intro _ _; rfl))) (by intro _ _; rfl))) (de_any de_int) (by intro _ _; rfl))) (by intro _ _; rfl)))) dss_nil)
  (dss_one (ds_ret de_int)))
theorem sc_amount_behind : FnScope N_amount_behind p_amount_behind (defScope s_amount_behind) := ⟨rfl, rfl, rfl, by decide +kernel, rfl, by decide +kernel, by decide +kernel⟩
abbrev k_amount_behind : Nat → Kd := fun i => [.val, .val, .val, .val, .val, .val].getD i .val
abbrev O_amount_behind (P : Program) (w : World) (K : PySem.W.Frag) (mg : Str → Option Value) (base : Heap) (fd : FuncData) : Prop := FnD P w K mg base 3 (He.ga K "amount_behind") fd p_amount_behind [true, true, true, true, true] .val g_amount_behind
theorem ok_amount_behind (M : Mo K mg) : ∃ fd, O_amount_behind P w K mg base fd ∧ PySem.W.keepIn K (.ref (He.ga K "amount_behind")) = true ∧ L2.Binds K fd p_amount_behind [] := by
  obtain ⟨fd_end_of, F_end_of, K_end_of, B_end_of⟩ := ok_end_of (P := P) (w := w) (base := base) M
  obtain ⟨fd_emptied, F_emptied, K_emptied, gg_emptied, B_emptied⟩ := ok_emptied (P := P) (w := w) (base := base) M
  obtain ⟨fd, F⟩ := M.f_amount_behind
  refine ⟨fd, ?_, F.kp, F.bindsN fun _ _ _ _ _ _ us hl => match us, hl with | [_, _, _, _, _], _ => rfl⟩
  refine fnD_of (kd := k_amount_behind) F sc_amount_behind rfl (by decide) (by decide) (by decide) fun cdv A outer s H E hr => ?_
  have hu := hu40 hr
  exact (dss_cons (ds_if (dt_w (dw_and (dt_cmp op_ge o2_ge (de_any (de_v (pv 2) rfl)) (de_any de_int) (nomark _)) (dw_and1 (dt_chain op_lt op_le o2_lt o2_le (de_any (de_v (pv 3) rfl)) (de_any (de_call F_end_of (hr.mono (by decide)) rfl M.m_end_of K_end_of B_end_of (da_val (de_v (pv 0) rfl) (da_val (de_v (pv 2) rfl) da_nil)))) (de_any (de_v (pv 4) rfl)))))) (dss_cons (ds_set (ps_set (i := 5) sc_amount_behind.nd rfl (Or.inl rfl) (de_call F_end_of (hr.mono (by decide)) rfl M.m_end_of K_end_of B_end_of (da_val (de_v (pv 0) rfl) (da_val (de_v (pv 2) rfl) da_nil)))) rfl)
  (dss_cons (ds_set (ps_set (i := 1) sc_amount_behind.nd rfl (Or.inl rfl) (de_op op_add o2_add (de_any (de_callK (ms := [true, true]) (ns := [true, true]) F_emptied hr rfl M.m_emptied K_emptied B_emptied (da_val (de_v (pv 0) rfl) (da_val (de_v (pv 1) rfl) da_nil)) (dk_val (de_v (pv 3) rfl) (dk_val (de_v (pv 5) rfl) dk_nil)))) (de_any (de_ix (de_any (de_ix (de_any (de_ix (de_any (de_v (pv 0) rfl)) (de_any de_int) (by intro _ _; rfl))) (de_any (de_v (pv 2) rfl)) (by intro _ _; rfl))) (de_any de_int) (by intro _ _; rfl))))) rfl)
  (dss_one (ds_set (ps_set (i := 3) sc_amount_behind.nd rfl (Or.inl rfl) (de_v (pv 5) rfl)) rfl)))) dss_nil)
  (dss_one (ds_ret (de_callK (ms := [true, true]) (ns := [true, true]) F_emptied hr rfl M.m_emptied K_emptied B_emptied (da_val (de_v (pv 0) rfl) (da_val (de_v (pv 1) rfl) da_nil)) (dk_val (de_v (pv 3) rfl) (dk_val (de_v (pv 4) rfl) dk_nil))))))
theorem sc_states_behind : FnScope N_states_behind p_states_behind (defScope s_states_behind) := ⟨rfl, rfl, rfl, by decide +kernel, rfl, by decide +kernel, by decide +kernel⟩
abbrev k_states_behind : Nat → Kd := fun i => [.val, .val, .val, .val, .val, .val, .val, .val, .val, .val, .val, .ownL, .val, .val].getD i .val
abbrev O_states_behind (P : Program) (w : World) (K : PySem.W.Frag) (mg : Str → Option Value) (base : Heap) (fd : FuncData) : Prop := FnD P w K mg base 4 (He.ga K "states_behind") fd p_states_behind [true, true, true, true] .fre g_states_behind
theorem ok_states_behind (M : Mo K mg) : ∃ fd, O_states_behind P w K mg base fd ∧ PySem.W.keepIn K (.ref (He.ga K "states_behind")) = true ∧ ∃ g, KBn K fd p_states_behind 3 ["most"] g (fun vs zs => vs ++ zs) := by
  obtain ⟨fd_ways_of, F_ways_of, K_ways_of, B_ways_of⟩ := ok_ways_of (P := P) (w := w) (base := base) M
  obtain ⟨fd_begun_between, F_begun_between, K_begun_between, B_begun_between⟩ := ok_begun_between (P := P) (w := w) (base := base) M
  obtain ⟨fd_amount_behind, F_amount_behind, K_amount_behind, B_amount_behind⟩ := ok_amount_behind (P := P) (w := w) (base := base) M
  obtain ⟨fd_without_ears, F_without_ears, K_without_ears, B_without_ears⟩ := ok_without_ears (P := P) (w := w) (base := base) M
  obtain ⟨fd, F⟩ := M.f_states_behind
  refine ⟨fd, ?_, F.kp, ⟨_, kbN F 3 ["most"] fun _ _ _ _ _ _ us ws hl hl2 => match us, ws, hl, hl2 with | [_, _, _], [_], _, _ => rfl⟩⟩
  refine fnD_of (kd := k_states_behind) F sc_states_behind rfl (by decide) (by decide) (by decide) fun cdv A outer s H E hr => ?_
  have hu := hu40 hr
  exact (dss_cons (ds_tup (ps_asg (de_v (pv 1) rfl) (dg_tup rfl (dgs_cons (pg_name (i := 4) sc_states_behind.nd rfl (Or.inl rfl)) rfl (dgs_cons (pg_name (i := 5) sc_states_behind.nd rfl (Or.inl rfl)) rfl (dgs_cons (pg_name (i := 6) sc_states_behind.nd rfl (Or.inl rfl)) rfl (dgs_cons (pg_name (i := 7) sc_states_behind.nd rfl (Or.inl rfl)) rfl (dgs_cons (pg_name (i := 8) sc_states_behind.nd rfl (Or.inl rfl)) rfl dgs_nil))))))))
  (dss_cons (ds_if (dt_cmp (op_eqD hr.units) o2_eq (de_any (de_op op_add o2_add (de_any (de_v (pv 4) rfl)) (de_any de_int))) (de_any (de_cb call_len_seq ol_len rfl M.n_len boot_len (da_any (de_any (de_ix (de_any (de_v (pv 0) rfl)) (de_any de_int) (by intro _ _; rfl))) da_nil))) (nomark _)) (dss_one (ds_ret (de_lst da_nil))) dss_nil)
  (dss_cons (ds_if (dt_cmp (op_eqD hr.units) o2_eq (de_any (de_v (pv 2) rfl)) (de_any de_str) (nomark _)) (dss_cons (ds_set (ps_set (i := 5) sc_states_behind.nd rfl (Or.inl rfl) (de_v (pv 4) rfl)) rfl)
  (dss_one (ds_set (ps_set (i := 7) sc_states_behind.nd rfl (Or.inl rfl) (de_ct call_tuple_of ol_toT rfl M.n_tuple boot_tuple (da_any (de_any (de_cb (cr_sorted rfl hu) ol_sorted rfl M.n_sorted boot_sorted (da_any (de_any (de_op op_catA o2_catT (de_any (de_v (pv 7) rfl)) (de_any (de_tup (da_val (de_ix (de_any (de_ix (de_any (de_ix (de_any (de_v (pv 0) rfl)) (de_any de_int) (by intro _ _; rfl))) (de_any (de_v (pv 4) rfl)) (by intro _ _; rfl))) (de_any de_int) (by intro _ _; rfl)) da_nil))))) da_nil))) da_nil))) rfl))) dss_nil)
  (dss_cons (ds_par (ps_par (i := 9) (j := 10) (by rfl) sc_states_behind.nd rfl rfl (by decide) rfl rfl (pa_cons (de_ix (de_any (de_ix (de_any (de_ix (de_any (de_v (pv 0) rfl)) (de_any de_int) (by intro _ _; rfl))) (de_any (de_v (pv 4) rfl)) (by intro _ _; rfl))) (de_any de_int) (by intro _ _; rfl)) (pa_cons (de_ix (de_any (de_ix (de_any (de_ix (de_any (de_v (pv 0) rfl)) (de_any de_int) (by intro _ _; rfl))) (de_any (de_op op_add o2_add (de_any (de_v (pv 4) rfl)) (de_any de_int))) (by intro _ _; rfl))) (de_any de_int) (by intro _ _; rfl)) pa_nil)) (by rfl)) (.inl ⟨rfl, rfl⟩) rfl)
  (dss_cons (ds_setL (ps_set (i := 11) sc_states_behind.nd rfl (Or.inl rfl) (de_lst da_nil)) rfl)
  (dss_cons (ds_for (js := [12, 13]) PassesOwn.never rfl (di_seq (de_sta (de_frz (de_call F_ways_of (hr.mono (by decide)) rfl M.m_ways_of K_ways_of B_ways_of (da_val (de_frz (de_call F_begun_between (hr.mono (by decide)) rfl M.m_begun_between K_begun_between B_begun_between (da_val (de_v (pv 0) rfl) (da_val (de_v (pv 9) rfl) (da_val (de_v (pv 10) rfl) da_nil))))) (da_val (de_v (pv 8) rfl) (da_val (de_v (pv 3) rfl) da_nil))))))) (dg_name (pg_name (i := 12) sc_states_behind.nd rfl (Or.inl rfl)) rfl) (dss_cons (ds_set (ps_set (i := 13) sc_states_behind.nd rfl (Or.inl rfl) (de_call F_amount_behind hr rfl M.m_amount_behind K_amount_behind B_amount_behind (da_val (de_call F_without_ears (hr.mono (by decide)) rfl M.m_without_ears K_without_ears B_without_ears (da_val (de_v (pv 0) rfl) (da_val (de_v (pv 12) rfl) da_nil))) (da_val (de_v (pv 6) rfl) (da_val (de_v (pv 5) rfl) (da_val (de_v (pv 9) rfl) (da_val (de_v (pv 10) rfl) da_nil))))))) rfl)
  (dss_one (ds_app rfl (ps_expr (pe_bm PySem.F.plainAttrs_list PySem.F.slot_list_append PySem.F.type_list_append mt_append (pv 11) (pa_cons (de_tup (da_val (de_op op_add o2_add (de_any (de_v (pv 4) rfl)) (de_any de_int)) (da_val (de_v (pv 5) rfl) (da_val (de_v (pv 13) rfl) (da_val (de_v (pv 7) rfl) (da_val (de_v (pv 12) rfl) da_nil)))))) pa_nil)))))))
  (dss_one (ds_ret (de_cb (cr_sorted rfl hu) ol_sorted rfl M.n_sorted boot_sorted (da_any (de_o (pv 11) rfl) da_nil))))))))))
theorem sc_reached : FnScope N_reached p_reached (defScope s_reached) := ⟨rfl, rfl, rfl, by decide +kernel, rfl, by decide +kernel, by decide +kernel⟩
abbrev k_reached : Nat → Kd := fun i => [.val, .val, .ownL, .ownD, .val, .val, .val].getD i .val
abbrev O_reached (P : Program) (w : World) (K : PySem.W.Frag) (mg : Str → Option Value) (base : Heap) (fd : FuncData) : Prop := FnD P w K mg base 5 (He.ga K "reached") fd p_reached [true, true] .fre g_reached
theorem ok_reached (M : Mo K mg) : ∃ fd, O_reached P w K mg base fd ∧ PySem.W.keepIn K (.ref (He.ga K "reached")) = true ∧ L2.Binds K fd p_reached [] := by
  obtain ⟨fd_first_states, F_first_states, K_first_states, gg_first_states, B_first_states⟩ := ok_first_states (P := P) (w := w) (base := base) M
  obtain ⟨fd_moves_of, F_moves_of, K_moves_of, B_moves_of⟩ := ok_moves_of (P := P) (w := w) (base := base) M
  obtain ⟨fd_states_behind, F_states_behind, K_states_behind, gg_states_behind, B_states_behind⟩ := ok_states_behind (P := P) (w := w) (base := base) M
  obtain ⟨fd, F⟩ := M.f_reached
  refine ⟨fd, ?_, F.kp, F.bindsN fun _ _ _ _ _ _ us hl => match us, hl with | [_, _], _ => rfl⟩
  refine fnD_of (kd := k_reached) F sc_reached rfl (by decide) (by decide) (by decide) fun cdv A outer s H E hr => ?_
  have hu := hu40 hr
  exact (dss_cons (ds_setL (ps_set (i := 2) sc_reached.nd rfl (Or.inl rfl) (de_callK (ms := [true]) (ns := [true]) F_first_states (hr.mono (by decide)) rfl M.m_first_states K_first_states B_first_states (da_val (de_v (pv 0) rfl) da_nil) (dk_val (de_v (pv 1) rfl) dk_nil))) rfl)
  (dss_cons (ds_setD (ps_dcomp (i := 4) (j := 3) (own := [("state", 4)]) hu rfl sc_reached.nd rfl rfl (swd_true rfl rfl rfl (by decide +kernel)) (di_own (de_o (pv 2) rfl)) (blkOk_by (own := [("state", 4)]) (N := N_reached) (sc := defScope s_reached) (by decide +kernel)) (fun _ _ _ _ _ => (dg_name (pg_name (i := 4) sc_reached.nd rfl (Or.inl rfl)) rfl)) (fun _ _ _ _ _ => (de_v (pv 4) rfl)) (fun _ _ _ _ _ => de_bool) (by decide) (show 4 < N_reached.length by decide)) rfl)
  (dss_cons (ds_while (js := [4, 5, 6]) PassesOwn.never (dt_tr (de_o (pv 2) rfl)) (dss_cons (ds_pop rfl rfl (ps_set (i := 4) sc_reached.nd rfl (Or.inl rfl) (pe_bm0 PySem.F.plainAttrs_list PySem.F.slot_list_pop PySem.F.type_list_pop mt_pop (pv 2))))
  (dss_one (ds_for (js := [5, 6]) PassesOwn.never rfl (di_seq (de_sta (de_frz (de_call F_moves_of (hr.mono (by decide)) rfl M.m_moves_of K_moves_of B_moves_of (da_val (de_v (pv 0) rfl) (da_val (de_v (pv 4) rfl) da_nil)))))) (dg_name (pg_name (i := 5) sc_reached.nd rfl (Or.inl rfl)) rfl) (dss_one (ds_for (js := [6]) PassesOwn.never rfl (di_seq (de_sta (de_frz (de_callK (ms := [true, true, true]) (ns := [true]) F_states_behind hr rfl M.m_states_behind K_states_behind B_states_behind (da_val (de_v (pv 0) rfl) (da_val (de_v (pv 4) rfl) (da_val (de_v (pv 5) rfl) da_nil))) (dk_val (de_v (pv 1) rfl) dk_nil))))) (dg_name (pg_name (i := 6) sc_reached.nd rfl (Or.inl rfl)) rfl) (dss_one (ds_if (dt_dNotIn hu (de_v (pv 6) rfl) (de_od (pv 3) rfl) (by rfl)) (dss_cons (ds_setK rfl (ps_asg de_bool (pg_sub (pv 3) (de_v (pv 6) rfl) (set_dct hu))))
  (dss_one (ds_app rfl (ps_expr (pe_bm PySem.F.plainAttrs_list PySem.F.slot_list_append PySem.F.type_list_append mt_append (pv 2) (pa_cons (de_v (pv 6) rfl) pa_nil)))))) dss_nil))))))))
  (dss_one (ds_ret (de_cb (cr_sorted rfl hu) ol_sorted rfl M.n_sorted boot_sorted (da_any (de_od (pv 3) rfl) da_nil)))))))
theorem sc_sure_by : FnScope N_sure_by p_sure_by (defScope s_sure_by) := ⟨rfl, rfl, rfl, by decide +kernel, rfl, by decide +kernel, by decide +kernel⟩
abbrev k_sure_by : Nat → Kd := fun i => [.val, .val, .val, .bor, .val, .val, .val].getD i .val
abbrev O_sure_by (P : Program) (w : World) (K : PySem.W.Frag) (mg : Str → Option Value) (base : Heap) (fd : FuncData) : Prop := FnD P w K mg base 5 (He.ga K "sure_by") fd p_sure_by [true, true, true, false, true] .val g_sure_by
theorem ok_sure_by (M : Mo K mg) : ∃ fd, O_sure_by P w K mg base fd ∧ PySem.W.keepIn K (.ref (He.ga K "sure_by")) = true ∧ L2.Binds K fd p_sure_by [] := by
  obtain ⟨fd_states_behind, F_states_behind, K_states_behind, gg_states_behind, B_states_behind⟩ := ok_states_behind (P := P) (w := w) (base := base) M
  obtain ⟨fd_gain_of, F_gain_of, K_gain_of, B_gain_of⟩ := ok_gain_of (P := P) (w := w) (base := base) M
  obtain ⟨fd, F⟩ := M.f_sure_by
  refine ⟨fd, ?_, F.kp, F.bindsN fun _ _ _ _ _ _ us hl => match us, hl with | [_, _, _, _, _], _ => rfl⟩
  refine fnD_of (kd := k_sure_by) F sc_sure_by rfl (by decide) (by decide) (by decide) fun cdv A outer s H E hr => ?_
  have hu := hu40 hr
  exact (dss_cons (ds_setF (ps_comp (i := 5) (own := [("one", 6)]) rfl sc_sure_by.nd rfl rfl (sw_true rfl rfl rfl (by decide +kernel)) (di_c (di_seq (de_sta (de_frz (de_callK (ms := [true, true, true]) (ns := [true]) F_states_behind hr rfl M.m_states_behind K_states_behind B_states_behind (da_val (de_v (pv 0) rfl) (da_val (de_v (pv 1) rfl) (da_val (de_v (pv 2) rfl) da_nil))) (dk_val (de_v (pv 4) rfl) dk_nil)))))) (blkOk_by (own := [("one", 6)]) (N := N_sure_by) (sc := defScope s_sure_by) (by decide +kernel)) (fun _ _ _ _ _ => (dg_name (pg_name (i := 6) sc_sure_by.nd rfl (Or.inl rfl)) rfl)) (fun _ _ _ _ _ => dts_nil) (fun _ _ _ _ _ => (de_dget hu (de_any (de_b (pv 3) rfl)) (de_v (pv 6) rfl) (by intro _ _; rfl)))) rfl)
  (dss_one (ds_ret (de_op op_add o2_add (de_any (de_call F_gain_of (hr.mono (by decide)) rfl M.m_gain_of K_gain_of B_gain_of (da_val (de_v (pv 0) rfl) (da_val (de_v (pv 1) rfl) (da_val (de_v (pv 2) rfl) da_nil))))) (de_any (de_min0 rfl rfl M.n_min (da_any (de_any (de_v (pv 5) rfl)) da_nil)))))))
theorem sc_sure_numbers : FnScope N_sure_numbers p_sure_numbers (defScope s_sure_numbers) := ⟨rfl, rfl, rfl, by decide +kernel, rfl, by decide +kernel, by decide +kernel⟩
abbrev k_sure_numbers : Nat → Kd := fun i => [.val, .val, .ownD, .val, .val].getD i .val
abbrev O_sure_numbers (P : Program) (w : World) (K : PySem.W.Frag) (mg : Str → Option Value) (base : Heap) (fd : FuncData) : Prop := FnD P w K mg base 6 (He.ga K "sure_numbers") fd p_sure_numbers [true, true] .frd g_sure_numbers
theorem ok_sure_numbers (M : Mo K mg) : ∃ fd, O_sure_numbers P w K mg base fd ∧ PySem.W.keepIn K (.ref (He.ga K "sure_numbers")) = true ∧ L2.Binds K fd p_sure_numbers [] := by
  obtain ⟨fd_reached, F_reached, K_reached, B_reached⟩ := ok_reached (P := P) (w := w) (base := base) M
  obtain ⟨fd_moves_of, F_moves_of, K_moves_of, B_moves_of⟩ := ok_moves_of (P := P) (w := w) (base := base) M
  obtain ⟨fd_sure_by, F_sure_by, K_sure_by, B_sure_by⟩ := ok_sure_by (P := P) (w := w) (base := base) M
  obtain ⟨fd, F⟩ := M.f_sure_numbers
  refine ⟨fd, ?_, F.kp, F.bindsN fun _ _ _ _ _ _ us hl => match us, hl with | [_, _], _ => rfl⟩
  refine fnD_of (kd := k_sure_numbers) F sc_sure_numbers rfl (by decide) (by decide) (by decide) fun cdv A outer s H E hr => ?_
  have hu := hu40 hr
  exact (dss_cons (ds_setD (ps_set (i := 2) sc_sure_numbers.nd rfl (Or.inr rfl) (de_dnew rfl)) rfl)
  (dss_cons (ds_for (js := [3]) PassesOwn.never rfl (di_rev rfl M.n_reversed (de_frz (de_call F_reached hr rfl M.m_reached K_reached B_reached (da_val (de_v (pv 0) rfl) (da_val (de_v (pv 1) rfl) da_nil))))) (dg_name (pg_name (i := 3) sc_sure_numbers.nd rfl (Or.inr rfl)) rfl) (dss_one (ds_setK rfl (ps_asg (de_cb (cr_max rfl) ol_max rfl M.n_max boot_max (da_any (de_any (de_comp (own := [("move", 4)]) rfl sc_sure_numbers.nd (di_c (di_seq (de_sta (de_frz (de_call F_moves_of (hr.mono (by decide)) rfl M.m_moves_of K_moves_of B_moves_of (da_val (de_v (pv 0) rfl) (da_val (de_v (pv 3) rfl) da_nil))))))) (blkOk_by (own := [("move", 4)]) (N := N_sure_numbers) (sc := defScope s_sure_numbers) (by decide +kernel)) (fun _ _ _ _ _ => (dg_name (pg_name (i := 4) sc_sure_numbers.nd rfl (Or.inl rfl)) rfl)) (fun _ _ _ _ _ => dts_nil) (fun _ _ _ _ _ => (de_call F_sure_by hr rfl M.m_sure_by K_sure_by B_sure_by (da_val (de_v (pv 0) rfl) (da_val (de_v (pv 3) rfl) (da_val (de_v (pv 4) rfl) (da_any (de_od (pv 2) rfl) (da_val (de_v (pv 1) rfl) da_nil))))))))) da_nil)) (pg_sub (pv 2) (de_v (pv 3) rfl) (set_dct hu))))))
  (dss_one (ds_retD (pv 2) rfl))))
theorem sc_sure_worth : FnScope N_sure_worth p_sure_worth (defScope s_sure_worth) := ⟨rfl, rfl, rfl, by decide +kernel, rfl, by decide +kernel, by decide +kernel⟩
abbrev k_sure_worth : Nat → Kd := fun i => [.val, .val, .ownD, .val].getD i .val
abbrev O_sure_worth (P : Program) (w : World) (K : PySem.W.Frag) (mg : Str → Option Value) (base : Heap) (fd : FuncData) : Prop := FnD P w K mg base 7 (He.ga K "sure_worth") fd p_sure_worth [true, true] .val g_sure_worth
theorem ok_sure_worth (M : Mo K mg) : ∃ fd, O_sure_worth P w K mg base fd ∧ PySem.W.keepIn K (.ref (He.ga K "sure_worth")) = true ∧ ∃ g, KBn K fd p_sure_worth 1 ["most"] g (fun vs zs => vs ++ zs) := by
  obtain ⟨fd_sure_numbers, F_sure_numbers, K_sure_numbers, B_sure_numbers⟩ := ok_sure_numbers (P := P) (w := w) (base := base) M
  obtain ⟨fd_first_states, F_first_states, K_first_states, gg_first_states, B_first_states⟩ := ok_first_states (P := P) (w := w) (base := base) M
  obtain ⟨fd, F⟩ := M.f_sure_worth
  refine ⟨fd, ?_, F.kp, ⟨_, kbN F 1 ["most"] fun _ _ _ _ _ _ us ws hl hl2 => match us, ws, hl, hl2 with | [_], [_], _, _ => rfl⟩⟩
  refine fnD_of (kd := k_sure_worth) F sc_sure_worth rfl (by decide) (by decide) (by decide) fun cdv A outer s H E hr => ?_
  have hu := hu40 hr
  exact (dss_cons (ds_setD (ps_set (i := 2) sc_sure_worth.nd rfl (Or.inr rfl) (de_call F_sure_numbers hr rfl M.m_sure_numbers K_sure_numbers B_sure_numbers (da_val (de_v (pv 0) rfl) (da_val (de_v (pv 1) rfl) da_nil)))) rfl)
  (dss_one (ds_ret (de_min0 rfl rfl M.n_min (da_any (de_any (de_comp (own := [("state", 3)]) rfl sc_sure_worth.nd (di_c (di_seq (de_sta (de_frz (de_callK (ms := [true]) (ns := [true]) F_first_states (hr.mono (by decide)) rfl M.m_first_states K_first_states B_first_states (da_val (de_v (pv 0) rfl) da_nil) (dk_val (de_v (pv 1) rfl) dk_nil)))))) (blkOk_by (own := [("state", 3)]) (N := N_sure_worth) (sc := defScope s_sure_worth) (by decide +kernel)) (fun _ _ _ _ _ => (dg_name (pg_name (i := 3) sc_sure_worth.nd rfl (Or.inl rfl)) rfl)) (fun _ _ _ _ _ => dts_nil) (fun _ _ _ _ _ => (de_dget hu (de_od (pv 2) rfl) (de_v (pv 3) rfl) (by intro _ _; rfl))))) da_nil)))))
theorem sc_sure_rule : FnScope N_sure_rule p_sure_rule (defScope s_sure_rule) := ⟨rfl, rfl, rfl, by decide +kernel, rfl, by decide +kernel, by decide +kernel⟩
abbrev k_sure_rule : Nat → Kd := fun i => [.val, .val, .ownD, .ownL, .val, .val].getD i .val
abbrev O_sure_rule (P : Program) (w : World) (K : PySem.W.Frag) (mg : Str → Option Value) (base : Heap) (fd : FuncData) : Prop := FnD P w K mg base 7 (He.ga K "sure_rule") fd p_sure_rule [true, true] .fre g_sure_rule
theorem ok_sure_rule (M : Mo K mg) : ∃ fd, O_sure_rule P w K mg base fd ∧ PySem.W.keepIn K (.ref (He.ga K "sure_rule")) = true ∧ ∃ g, KBn K fd p_sure_rule 1 ["most"] g (fun vs zs => vs ++ zs) := by
  obtain ⟨fd_sure_numbers, F_sure_numbers, K_sure_numbers, B_sure_numbers⟩ := ok_sure_numbers (P := P) (w := w) (base := base) M
  obtain ⟨fd_may_take, F_may_take, K_may_take, B_may_take⟩ := ok_may_take (P := P) (w := w) (base := base) M
  obtain ⟨fd_sure_by, F_sure_by, K_sure_by, B_sure_by⟩ := ok_sure_by (P := P) (w := w) (base := base) M
  obtain ⟨fd, F⟩ := M.f_sure_rule
  refine ⟨fd, ?_, F.kp, ⟨_, kbN F 1 ["most"] fun _ _ _ _ _ _ us ws hl hl2 => match us, ws, hl, hl2 with | [_], [_], _, _ => rfl⟩⟩
  refine fnD_of (kd := k_sure_rule) F sc_sure_rule rfl (by decide) (by decide) (by decide) fun cdv A outer s H E hr => ?_
  have hu := hu40 hr
  exact (dss_cons (ds_setD (ps_set (i := 2) sc_sure_rule.nd rfl (Or.inl rfl) (de_call F_sure_numbers hr rfl M.m_sure_numbers K_sure_numbers B_sure_numbers (da_val (de_v (pv 0) rfl) (da_val (de_v (pv 1) rfl) da_nil)))) rfl)
  (dss_cons (ds_setL (ps_set (i := 3) sc_sure_rule.nd rfl (Or.inl rfl) (de_lst da_nil)) rfl)
  (dss_cons (ds_for (js := [4, 5]) PassesOwn.never rfl (di_seq (de_sta (de_frz (de_cb (cr_sorted rfl hu) ol_sorted rfl M.n_sorted boot_sorted (da_any (de_od (pv 2) rfl) da_nil))))) (dg_name (pg_name (i := 4) sc_sure_rule.nd rfl (Or.inl rfl)) rfl) (dss_cons (ds_set (ps_set (i := 5) sc_sure_rule.nd rfl (Or.inl rfl) de_str) rfl)
  (dss_cons (ds_if (dt_w (dw_and (dt_val (de_call F_may_take (hr.mono (by decide)) rfl M.m_may_take K_may_take B_may_take (da_val (de_v (pv 0) rfl) (da_val (de_v (pv 4) rfl) da_nil)))) (dw_and1 (dt_cmp (op_eqD hr.units) o2_eq (de_any (de_call F_sure_by (hr.mono (by decide)) rfl M.m_sure_by K_sure_by B_sure_by (da_val (de_v (pv 0) rfl) (da_val (de_v (pv 4) rfl) (da_val de_str (da_any (de_od (pv 2) rfl) (da_val (de_v (pv 1) rfl) da_nil))))))) (de_any (de_dget hu (de_od (pv 2) rfl) (de_v (pv 4) rfl) (by intro _ _; rfl))) (nomark _))))) (dss_one (ds_set (ps_set (i := 5) sc_sure_rule.nd rfl (Or.inl rfl) de_str) rfl)) dss_nil)
  (dss_one (ds_app rfl (ps_expr (pe_bm PySem.F.plainAttrs_list PySem.F.slot_list_append PySem.F.type_list_append mt_append (pv 3) (pa_cons (de_tup (da_val (de_v (pv 4) rfl) (da_val (de_v (pv 5) rfl) da_nil))) pa_nil))))))))
  (dss_one (ds_retL (pv 3) rfl)))))
theorem sc_taken_by : FnScope N_taken_by p_taken_by (defScope s_taken_by) := ⟨rfl, rfl, rfl, by decide +kernel, rfl, by decide +kernel, by decide +kernel⟩
abbrev k_taken_by : Nat → Kd := fun i => [.val, .val, .val, .ownD, .val, .val, .ownL, .val, .val, .val, .val, .val].getD i .val
abbrev O_taken_by (P : Program) (w : World) (K : PySem.W.Frag) (mg : Str → Option Value) (base : Heap) (fd : FuncData) : Prop := FnD P w K mg base 5 (He.ga K "taken_by") fd p_taken_by [true, true, true] .fre g_taken_by
theorem ok_taken_by (M : Mo K mg) : ∃ fd, O_taken_by P w K mg base fd ∧ PySem.W.keepIn K (.ref (He.ga K "taken_by")) = true ∧ L2.Binds K fd p_taken_by [] := by
  obtain ⟨fd_first_states, F_first_states, K_first_states, gg_first_states, B_first_states⟩ := ok_first_states (P := P) (w := w) (base := base) M
  obtain ⟨fd_may_take, F_may_take, K_may_take, B_may_take⟩ := ok_may_take (P := P) (w := w) (base := base) M
  obtain ⟨fd_states_behind, F_states_behind, K_states_behind, gg_states_behind, B_states_behind⟩ := ok_states_behind (P := P) (w := w) (base := base) M
  obtain ⟨fd, F⟩ := M.f_taken_by
  refine ⟨fd, ?_, F.kp, F.bindsN fun _ _ _ _ _ _ us hl => match us, hl with | [_, _, _], _ => rfl⟩
  refine fnD_of (kd := k_taken_by) F sc_taken_by rfl (by decide) (by decide) (by decide) fun cdv A outer s H E hr => ?_
  have hu := hu40 hr
  exact (dss_cons (ds_setD (ps_set (i := 3) sc_taken_by.nd rfl (Or.inl rfl) (de_dnew rfl)) rfl)
  (dss_cons (ds_for (js := [4, 5]) PassesOwn.never rfl (di_seq (de_sta (de_v (pv 1) rfl))) (dg_tup rfl (dgs_cons (pg_name (i := 4) sc_taken_by.nd rfl (Or.inl rfl)) rfl (dgs_cons (pg_name (i := 5) sc_taken_by.nd rfl (Or.inl rfl)) rfl dgs_nil))) (dss_one (ds_setdef hu rfl (pv 3) (de_v (pv 4) rfl) (de_v (pv 5) rfl) ⟨rfl, rfl, rfl, rfl⟩)))
  (dss_cons (ds_par (ps_par (i := 6) (j := 7) (by rfl) sc_taken_by.nd rfl rfl (by decide) rfl rfl (pa_cons (de_lst da_nil) (pa_cons (de_frz (de_callK (ms := [true]) (ns := [true]) F_first_states (hr.mono (by decide)) rfl M.m_first_states K_first_states B_first_states (da_val (de_v (pv 0) rfl) da_nil) (dk_val (de_cb call_len_seq ol_len rfl M.n_len boot_len (da_any (de_any (de_ix (de_any (de_v (pv 0) rfl)) (de_any de_int) (by intro _ _; rfl))) da_nil)) dk_nil))) pa_nil)) (by rfl)) (.inr ⟨rfl, rfl⟩) rfl)
  (dss_cons (ds_while (js := [8, 9, 4, 5]) PassesOwn.never (dt_tr (de_v (pv 7) rfl)) (dss_cons (ds_set (ps_set (i := 8) sc_taken_by.nd rfl (Or.inr rfl) (de_ix (de_any (de_ix (de_any (de_ix (de_any (de_v (pv 0) rfl)) (de_any de_int) (by intro _ _; rfl))) (de_any (de_ix (de_any (de_ix (de_any (de_v (pv 7) rfl)) (de_any de_int) (by intro _ _; rfl))) (de_any de_int) (by intro _ _; rfl))) (by intro _ _; rfl))) (de_any de_int) (by intro _ _; rfl))) rfl)
  (dss_cons (ds_set (ps_set (i := 9) sc_taken_by.nd rfl (Or.inr rfl) (de_ct call_tuple_of ol_toT rfl M.n_tuple boot_tuple (da_any (de_any (de_comp (own := [("name", 10)]) rfl sc_taken_by.nd (di_c (di_rng1 rfl M.n_range (de_any (de_cb call_len_seq ol_len rfl M.n_len boot_len (da_any (de_any (de_ix (de_any (de_v (pv 0) rfl)) (de_any de_int) (by intro _ _; rfl))) da_nil))))) (blkOk_by (own := [("name", 10)]) (N := N_taken_by) (sc := defScope s_taken_by) (by decide +kernel)) (fun _ _ _ _ _ => (dg_name (pg_name (i := 10) sc_taken_by.nd rfl (Or.inl rfl)) rfl)) (fun _ _ _ _ _ => dts_one (dt_w (dw_and (dt_cmp op_in_seq o2_in (de_any (de_v (pv 10) rfl)) (de_any (de_v (pv 2) rfl)) (by rfl)) (dw_and1 (dt_cmp op_le o2_le (de_any (de_ix (de_any (de_ix (de_any (de_ix (de_any (de_v (pv 0) rfl)) (de_any de_int) (by intro _ _; rfl))) (de_any (de_v (pv 10) rfl)) (by intro _ _; rfl))) (de_any de_int) (by intro _ _; rfl))) (de_any (de_v (pv 8) rfl)) (nomark _)))))) (fun _ _ _ _ _ => (de_v (pv 10) rfl)))) da_nil))) rfl)
  (dss_cons (ds_set (ps_set (i := 4) sc_taken_by.nd rfl (Or.inl rfl) (de_ix (de_any (de_comp (own := [("one", 11)]) rfl sc_taken_by.nd (di_c (di_seq (de_sta (de_v (pv 7) rfl)))) (blkOk_by (own := [("one", 11)]) (N := N_taken_by) (sc := defScope s_taken_by) (by decide +kernel)) (fun _ _ _ _ _ => (dg_name (pg_name (i := 11) sc_taken_by.nd rfl (Or.inl rfl)) rfl)) (fun _ _ _ _ _ => dts_one (dt_cmp (op_eqD hr.units) o2_eq (de_any (de_ix (de_any (de_v (pv 11) rfl)) (de_any de_int) (by intro _ _; rfl))) (de_any (de_v (pv 9) rfl)) (nomark _))) (fun _ _ _ _ _ => (de_v (pv 11) rfl)))) (de_any de_int) (by intro _ _; rfl))) rfl)
  (dss_cons (ds_set (ps_set (i := 5) sc_taken_by.nd rfl (Or.inl rfl) de_str) rfl)
  (dss_cons (ds_if (dt_w (dw_and (dt_cmp (op_eqD hr.units) o2_eq (de_any (de_dgetN hu (de_od (pv 3) rfl) (de_v (pv 4) rfl) ⟨rfl, rfl, rfl, rfl⟩)) (de_any de_str) (nomark _)) (dw_and1 (dt_val (de_call F_may_take (hr.mono (by decide)) rfl M.m_may_take K_may_take B_may_take (da_val (de_v (pv 0) rfl) (da_val (de_v (pv 4) rfl) da_nil))))))) (dss_cons (ds_set (ps_set (i := 5) sc_taken_by.nd rfl (Or.inl rfl) de_str) rfl)
  (dss_one (ds_app rfl (ps_expr (pe_bm PySem.F.plainAttrs_list PySem.F.slot_list_append PySem.F.type_list_append mt_append (pv 6) (pa_cons (de_ix (de_any (de_v (pv 4) rfl)) (de_any de_int) (by intro _ _; rfl)) pa_nil)))))) dss_nil)
  (dss_one (ds_set (ps_set (i := 7) sc_taken_by.nd rfl (Or.inl rfl) (de_frz (de_callK (ms := [true, true, true]) (ns := [true]) F_states_behind hr rfl M.m_states_behind K_states_behind B_states_behind (da_val (de_v (pv 0) rfl) (da_val (de_v (pv 4) rfl) (da_val (de_v (pv 5) rfl) da_nil))) (dk_val (de_cb call_len_seq ol_len rfl M.n_len boot_len (da_any (de_any (de_ix (de_any (de_v (pv 0) rfl)) (de_any de_int) (by intro _ _; rfl))) da_nil)) dk_nil)))) rfl))))))))
  (dss_one (ds_retL (pv 6) rfl))))))
theorem sc_number : FnScope N_number p_number (defScope s_number) := ⟨rfl, rfl, rfl, by decide +kernel, rfl, by decide +kernel, by decide +kernel⟩
abbrev k_number : Nat → Kd := fun i => [.val, .val, .val].getD i .val
abbrev O_number (P : Program) (w : World) (K : PySem.W.Frag) (mg : Str → Option Value) (base : Heap) (fd : FuncData) : Prop := FnD P w K mg base 1 (He.ga K "number") fd p_number [true, true] .val g_number
theorem ok_number (M : Mo K mg) : ∃ fd, O_number P w K mg base fd ∧ PySem.W.keepIn K (.ref (He.ga K "number")) = true ∧ L2.Binds K fd p_number [] := by
  obtain ⟨fd, F⟩ := M.f_number
  refine ⟨fd, ?_, F.kp, F.bindsN fun _ _ _ _ _ _ us hl => match us, hl with | [_, _], _ => rfl⟩
  refine fnD_of (kd := k_number) F sc_number rfl (by decide) (by decide) (by decide) fun cdv A outer s H E hr => ?_
  have hu := hu40 hr
  exact (dss_cons (ds_set (ps_set (i := 2) sc_number.nd rfl (Or.inl rfl) (de_cg cr_gcd ol_gcd rfl M.g_gcd (da_any (de_any (de_v (pv 0) rfl)) (da_any (de_any (de_v (pv 1) rfl)) da_nil)))) rfl)
  (dss_one (ds_ret (de_tup (da_val (de_op op_fdivW o2_div (de_any (de_v (pv 0) rfl)) (de_any (de_v (pv 2) rfl))) (da_val (de_op op_fdivW o2_div (de_any (de_v (pv 1) rfl)) (de_any (de_v (pv 2) rfl))) da_nil))))))
theorem sc_plus : FnScope N_plus p_plus (defScope s_plus) := ⟨rfl, rfl, rfl, by decide +kernel, rfl, by decide +kernel, by decide +kernel⟩
abbrev k_plus : Nat → Kd := fun i => [.val, .val].getD i .val
abbrev O_plus (P : Program) (w : World) (K : PySem.W.Frag) (mg : Str → Option Value) (base : Heap) (fd : FuncData) : Prop := FnD P w K mg base 2 (He.ga K "plus") fd p_plus [true, true] .val g_plus
theorem ok_plus (M : Mo K mg) : ∃ fd, O_plus P w K mg base fd ∧ PySem.W.keepIn K (.ref (He.ga K "plus")) = true ∧ L2.Binds K fd p_plus [] := by
  obtain ⟨fd_number, F_number, K_number, B_number⟩ := ok_number (P := P) (w := w) (base := base) M
  obtain ⟨fd, F⟩ := M.f_plus
  refine ⟨fd, ?_, F.kp, F.bindsN fun _ _ _ _ _ _ us hl => match us, hl with | [_, _], _ => rfl⟩
  refine fnD_of (kd := k_plus) F sc_plus rfl (by decide) (by decide) (by decide) fun cdv A outer s H E hr => ?_
  have hu := hu40 hr
  exact (dss_one (ds_ret (de_call F_number hr rfl M.m_number K_number B_number (da_val (de_op op_add o2_add (de_any (de_op op_mul o2_mul (de_any (de_ix (de_any (de_v (pv 0) rfl)) (de_any de_int) (by intro _ _; rfl))) (de_any (de_ix (de_any (de_v (pv 1) rfl)) (de_any de_int) (by intro _ _; rfl))))) (de_any (de_op op_mul o2_mul (de_any (de_ix (de_any (de_v (pv 1) rfl)) (de_any de_int) (by intro _ _; rfl))) (de_any (de_ix (de_any (de_v (pv 0) rfl)) (de_any de_int) (by intro _ _; rfl)))))) (da_val (de_op op_mul o2_mul (de_any (de_ix (de_any (de_v (pv 0) rfl)) (de_any de_int) (by intro _ _; rfl))) (de_any (de_ix (de_any (de_v (pv 1) rfl)) (de_any de_int) (by intro _ _; rfl)))) da_nil)))))
theorem sc_times : FnScope N_times p_times (defScope s_times) := ⟨rfl, rfl, rfl, by decide +kernel, rfl, by decide +kernel, by decide +kernel⟩
abbrev k_times : Nat → Kd := fun i => [.val, .val].getD i .val
abbrev O_times (P : Program) (w : World) (K : PySem.W.Frag) (mg : Str → Option Value) (base : Heap) (fd : FuncData) : Prop := FnD P w K mg base 2 (He.ga K "times") fd p_times [true, true] .val g_times
theorem ok_times (M : Mo K mg) : ∃ fd, O_times P w K mg base fd ∧ PySem.W.keepIn K (.ref (He.ga K "times")) = true ∧ L2.Binds K fd p_times [] := by
  obtain ⟨fd_number, F_number, K_number, B_number⟩ := ok_number (P := P) (w := w) (base := base) M
  obtain ⟨fd, F⟩ := M.f_times
  refine ⟨fd, ?_, F.kp, F.bindsN fun _ _ _ _ _ _ us hl => match us, hl with | [_, _], _ => rfl⟩
  refine fnD_of (kd := k_times) F sc_times rfl (by decide) (by decide) (by decide) fun cdv A outer s H E hr => ?_
  have hu := hu40 hr
  exact (dss_one (ds_ret (de_call F_number hr rfl M.m_number K_number B_number (da_val (de_op op_mul o2_mul (de_any (de_ix (de_any (de_v (pv 0) rfl)) (de_any de_int) (by intro _ _; rfl))) (de_any (de_ix (de_any (de_v (pv 1) rfl)) (de_any de_int) (by intro _ _; rfl)))) (da_val (de_op op_mul o2_mul (de_any (de_ix (de_any (de_v (pv 0) rfl)) (de_any de_int) (by intro _ _; rfl))) (de_any (de_ix (de_any (de_v (pv 1) rfl)) (de_any de_int) (by intro _ _; rfl)))) da_nil)))))
theorem sc_is_less : FnScope N_is_less p_is_less (defScope s_is_less) := ⟨rfl, rfl, rfl, by decide +kernel, rfl, by decide +kernel, by decide +kernel⟩
abbrev k_is_less : Nat → Kd := fun i => [.val, .val].getD i .val
abbrev O_is_less (P : Program) (w : World) (K : PySem.W.Frag) (mg : Str → Option Value) (base : Heap) (fd : FuncData) : Prop := FnD P w K mg base 1 (He.ga K "is_less") fd p_is_less [true, true] .val g_is_less
theorem ok_is_less (M : Mo K mg) : ∃ fd, O_is_less P w K mg base fd ∧ PySem.W.keepIn K (.ref (He.ga K "is_less")) = true ∧ L2.Binds K fd p_is_less [] := by
  obtain ⟨fd, F⟩ := M.f_is_less
  refine ⟨fd, ?_, F.kp, F.bindsN fun _ _ _ _ _ _ us hl => match us, hl with | [_, _], _ => rfl⟩
  refine fnD_of (kd := k_is_less) F sc_is_less rfl (by decide) (by decide) (by decide) fun cdv A outer s H E hr => ?_
  have hu := hu40 hr
  exact (dss_one (ds_ret (de_cmp op_lt o2_lt (de_any (de_op op_mul o2_mul (de_any (de_ix (de_any (de_v (pv 0) rfl)) (de_any de_int) (by intro _ _; rfl))) (de_any (de_ix (de_any (de_v (pv 1) rfl)) (de_any de_int) (by intro _ _; rfl))))) (de_any (de_op op_mul o2_mul (de_any (de_ix (de_any (de_v (pv 1) rfl)) (de_any de_int) (by intro _ _; rfl))) (de_any (de_ix (de_any (de_v (pv 0) rfl)) (de_any de_int) (by intro _ _; rfl))))) (nomark _))))
theorem sc_chance_among : FnScope N_chance_among p_chance_among (defScope s_chance_among) := ⟨rfl, rfl, rfl, by decide +kernel, rfl, by decide +kernel, by decide +kernel⟩
abbrev k_chance_among : Nat → Kd := fun i => [.val, .val, .val, .val, .val, .val, .val].getD i .val
abbrev O_chance_among (P : Program) (w : World) (K : PySem.W.Frag) (mg : Str → Option Value) (base : Heap) (fd : FuncData) : Prop := FnD P w K mg base 3 (He.ga K "chance_among") fd p_chance_among [true, true, true] .val g_chance_among
theorem ok_chance_among (M : Mo K mg) : ∃ fd, O_chance_among P w K mg base fd ∧ PySem.W.keepIn K (.ref (He.ga K "chance_among")) = true ∧ L2.Binds K fd p_chance_among [] := by
  obtain ⟨fd_times, F_times, K_times, B_times⟩ := ok_times (P := P) (w := w) (base := base) M
  obtain ⟨fd, F⟩ := M.f_chance_among
  refine ⟨fd, ?_, F.kp, F.bindsN fun _ _ _ _ _ _ us hl => match us, hl with | [_, _, _], _ => rfl⟩
  refine fnD_of (kd := k_chance_among) F sc_chance_among rfl (by decide) (by decide) (by decide) fun cdv A outer s H E hr => ?_
  have hu := hu40 hr
  exact (dss_cons (ds_set (ps_set (i := 3) sc_chance_among.nd rfl (Or.inl rfl) (de_c (pe_glob (v := V.ref (He.ga K "ONE")) rfl M.g_ONE rfl) M.r_ONE)) rfl)
  (dss_cons (ds_for (js := [4, 5, 6]) PassesOwn.never rfl (di_seq (de_sta (de_v (pv 1) rfl))) (dg_name (pg_name (i := 4) sc_chance_among.nd rfl (Or.inl rfl)) rfl) (dss_cons (ds_tup (ps_asg (de_ix (de_any (de_v (pv 0) rfl)) (de_any (de_v (pv 4) rfl)) (by intro _ _; rfl)) (dg_tup rfl (dgs_cons (pg_name (i := 5) sc_chance_among.nd rfl (Or.inl rfl)) rfl (dgs_cons (pg_name (i := 6) sc_chance_among.nd rfl (Or.inl rfl)) rfl dgs_nil)))))
  (dss_cons (ds_if (dt_cmp op_notIn_seq o2_notIn (de_any (de_v (pv 4) rfl)) (de_any (de_v (pv 2) rfl)) (by rfl)) (dss_one (ds_set (ps_set (i := 5) sc_chance_among.nd rfl (Or.inl rfl) (de_op op_sub o2_sub (de_any (de_v (pv 6) rfl)) (de_any (de_v (pv 5) rfl)))) rfl)) dss_nil)
  (dss_one (ds_set (ps_set (i := 3) sc_chance_among.nd rfl (Or.inl rfl) (de_call F_times hr rfl M.m_times K_times B_times (da_val (de_v (pv 3) rfl) (da_val (de_tup (da_val (de_v (pv 5) rfl) (da_val (de_v (pv 6) rfl) da_nil))) da_nil)))) rfl)))))
  (dss_one (ds_ret (de_v (pv 3) rfl)))))
theorem sc_first_chances : FnScope N_first_chances p_first_chances (defScope s_first_chances) := ⟨rfl, rfl, rfl, by decide +kernel, rfl, by decide +kernel, by decide +kernel⟩
abbrev k_first_chances : Nat → Kd := fun i => [.val, .val, .ownL, .val, .val].getD i .val
abbrev O_first_chances (P : Program) (w : World) (K : PySem.W.Frag) (mg : Str → Option Value) (base : Heap) (fd : FuncData) : Prop := FnD P w K mg base 4 (He.ga K "first_chances") fd p_first_chances [true, true] .fre g_first_chances
theorem ok_first_chances (M : Mo K mg) : ∃ fd, O_first_chances P w K mg base fd ∧ PySem.W.keepIn K (.ref (He.ga K "first_chances")) = true ∧ L2.Binds K fd p_first_chances [] := by
  obtain ⟨fd_first_states, F_first_states, K_first_states, gg_first_states, B_first_states⟩ := ok_first_states (P := P) (w := w) (base := base) M
  obtain ⟨fd_chance_among, F_chance_among, K_chance_among, B_chance_among⟩ := ok_chance_among (P := P) (w := w) (base := base) M
  obtain ⟨fd_begun_between, F_begun_between, K_begun_between, B_begun_between⟩ := ok_begun_between (P := P) (w := w) (base := base) M
  obtain ⟨fd, F⟩ := M.f_first_chances
  refine ⟨fd, ?_, F.kp, F.bindsN fun _ _ _ _ _ _ us hl => match us, hl with | [_, _], _ => rfl⟩
  refine fnD_of (kd := k_first_chances) F sc_first_chances rfl (by decide) (by decide) (by decide) fun cdv A outer s H E hr => ?_
  have hu := hu40 hr
  exact (dss_cons (ds_setL (ps_set (i := 2) sc_first_chances.nd rfl (Or.inl rfl) (de_lst da_nil)) rfl)
  (dss_cons (ds_for (js := [3, 4]) PassesOwn.never rfl (di_seq (de_sta (de_frz (de_callK (ms := [true]) (ns := [true]) F_first_states (hr.mono (by decide)) rfl M.m_first_states K_first_states B_first_states (da_val (de_v (pv 0) rfl) da_nil) (dk_val (de_cb call_len_seq ol_len rfl M.n_len boot_len (da_any (de_any (de_v (pv 1) rfl)) da_nil)) dk_nil))))) (dg_name (pg_name (i := 3) sc_first_chances.nd rfl (Or.inl rfl)) rfl) (dss_cons (ds_set (ps_set (i := 4) sc_first_chances.nd rfl (Or.inl rfl) (de_call F_chance_among hr rfl M.m_chance_among K_chance_among B_chance_among (da_val (de_v (pv 1) rfl) (da_val (de_frz (de_call F_begun_between (hr.mono (by decide)) rfl M.m_begun_between K_begun_between B_begun_between (da_val (de_v (pv 0) rfl) (da_val (de_neg (de_any de_int)) (da_val (de_ix (de_any (de_ix (de_any (de_ix (de_any (de_v (pv 0) rfl)) (de_any de_int) (by intro _ _; rfl))) (de_any de_int) (by intro _ _; rfl))) (de_any de_int) (by intro _ _; rfl)) da_nil))))) (da_val (de_ix (de_any (de_v (pv 3) rfl)) (de_any de_int) (by intro _ _; rfl)) da_nil))))) rfl)
  (dss_one (ds_if (dt_cmp (op_neD hr.units) o2_ne (de_any (de_v (pv 4) rfl)) (de_any (de_c (pe_glob (v := V.ref (He.ga K "NOUGHT")) rfl M.g_NOUGHT rfl) M.r_NOUGHT)) (nomark _)) (dss_one (ds_app rfl (ps_expr (pe_bm PySem.F.plainAttrs_list PySem.F.slot_list_append PySem.F.type_list_append mt_append (pv 2) (pa_cons (de_tup (da_val (de_v (pv 3) rfl) (da_val (de_v (pv 4) rfl) da_nil))) pa_nil))))) dss_nil))))
  (dss_one (ds_retL (pv 2) rfl))))
theorem sc_chances_behind : FnScope N_chances_behind p_chances_behind (defScope s_chances_behind) := ⟨rfl, rfl, rfl, by decide +kernel, rfl, by decide +kernel, by decide +kernel⟩
abbrev k_chances_behind : Nat → Kd := fun i => [.val, .val, .val, .val, .ownL, .val, .val, .val].getD i .val
abbrev O_chances_behind (P : Program) (w : World) (K : PySem.W.Frag) (mg : Str → Option Value) (base : Heap) (fd : FuncData) : Prop := FnD P w K mg base 5 (He.ga K "chances_behind") fd p_chances_behind [true, true, true, true] .fre g_chances_behind
theorem ok_chances_behind (M : Mo K mg) : ∃ fd, O_chances_behind P w K mg base fd ∧ PySem.W.keepIn K (.ref (He.ga K "chances_behind")) = true ∧ L2.Binds K fd p_chances_behind [] := by
  obtain ⟨fd_states_behind, F_states_behind, K_states_behind, gg_states_behind, B_states_behind⟩ := ok_states_behind (P := P) (w := w) (base := base) M
  obtain ⟨fd_begun_between, F_begun_between, K_begun_between, B_begun_between⟩ := ok_begun_between (P := P) (w := w) (base := base) M
  obtain ⟨fd_chance_among, F_chance_among, K_chance_among, B_chance_among⟩ := ok_chance_among (P := P) (w := w) (base := base) M
  obtain ⟨fd, F⟩ := M.f_chances_behind
  refine ⟨fd, ?_, F.kp, F.bindsN fun _ _ _ _ _ _ us hl => match us, hl with | [_, _, _, _], _ => rfl⟩
  refine fnD_of (kd := k_chances_behind) F sc_chances_behind rfl (by decide) (by decide) (by decide) fun cdv A outer s H E hr => ?_
  have hu := hu40 hr
  exact (dss_cons (ds_setL (ps_set (i := 4) sc_chances_behind.nd rfl (Or.inl rfl) (de_lst da_nil)) rfl)
  (dss_cons (ds_for (js := [5, 6, 7]) PassesOwn.never rfl (di_seq (de_sta (de_frz (de_callK (ms := [true, true, true]) (ns := [true]) F_states_behind hr rfl M.m_states_behind K_states_behind B_states_behind (da_val (de_v (pv 0) rfl) (da_val (de_v (pv 2) rfl) (da_val (de_v (pv 3) rfl) da_nil))) (dk_val (de_cb call_len_seq ol_len rfl M.n_len boot_len (da_any (de_any (de_v (pv 1) rfl)) da_nil)) dk_nil))))) (dg_name (pg_name (i := 5) sc_chances_behind.nd rfl (Or.inl rfl)) rfl) (dss_cons (ds_set (ps_set (i := 6) sc_chances_behind.nd rfl (Or.inl rfl) (de_frz (de_call F_begun_between (hr.mono (by decide)) rfl M.m_begun_between K_begun_between B_begun_between (da_val (de_v (pv 0) rfl) (da_val (de_ix (de_any (de_ix (de_any (de_ix (de_any (de_v (pv 0) rfl)) (de_any de_int) (by intro _ _; rfl))) (de_any (de_ix (de_any (de_v (pv 2) rfl)) (de_any de_int) (by intro _ _; rfl))) (by intro _ _; rfl))) (de_any de_int) (by intro _ _; rfl)) (da_val (de_ix (de_any (de_ix (de_any (de_ix (de_any (de_v (pv 0) rfl)) (de_any de_int) (by intro _ _; rfl))) (de_any (de_ix (de_any (de_v (pv 5) rfl)) (de_any de_int) (by intro _ _; rfl))) (by intro _ _; rfl))) (de_any de_int) (by intro _ _; rfl)) da_nil)))))) rfl)
  (dss_cons (ds_set (ps_set (i := 7) sc_chances_behind.nd rfl (Or.inl rfl) (de_call F_chance_among (hr.mono (by decide)) rfl M.m_chance_among K_chance_among B_chance_among (da_val (de_v (pv 1) rfl) (da_val (de_v (pv 6) rfl) (da_val (de_ix (de_any (de_v (pv 5) rfl)) (de_any de_int) (by intro _ _; rfl)) da_nil))))) rfl)
  (dss_one (ds_if (dt_cmp (op_neD hr.units) o2_ne (de_any (de_v (pv 7) rfl)) (de_any (de_c (pe_glob (v := V.ref (He.ga K "NOUGHT")) rfl M.g_NOUGHT rfl) M.r_NOUGHT)) (nomark _)) (dss_one (ds_app rfl (ps_expr (pe_bm PySem.F.plainAttrs_list PySem.F.slot_list_append PySem.F.type_list_append mt_append (pv 4) (pa_cons (de_tup (da_val (de_v (pv 5) rfl) (da_val (de_v (pv 7) rfl) da_nil))) pa_nil))))) dss_nil)))))
  (dss_one (ds_retL (pv 4) rfl))))
theorem sc_mean_over : FnScope N_mean_over p_mean_over (defScope s_mean_over) := ⟨rfl, rfl, rfl, by decide +kernel, rfl, by decide +kernel, by decide +kernel⟩
abbrev k_mean_over : Nat → Kd := fun i => [.val, .bor, .val, .val, .val].getD i .val
abbrev O_mean_over (P : Program) (w : World) (K : PySem.W.Frag) (mg : Str → Option Value) (base : Heap) (fd : FuncData) : Prop := FnD P w K mg base 3 (He.ga K "mean_over") fd p_mean_over [true, false] .val g_mean_over
theorem ok_mean_over (M : Mo K mg) : ∃ fd, O_mean_over P w K mg base fd ∧ PySem.W.keepIn K (.ref (He.ga K "mean_over")) = true ∧ L2.Binds K fd p_mean_over [] := by
  obtain ⟨fd_plus, F_plus, K_plus, B_plus⟩ := ok_plus (P := P) (w := w) (base := base) M
  obtain ⟨fd_times, F_times, K_times, B_times⟩ := ok_times (P := P) (w := w) (base := base) M
  obtain ⟨fd, F⟩ := M.f_mean_over
  refine ⟨fd, ?_, F.kp, F.bindsN fun _ _ _ _ _ _ us hl => match us, hl with | [_, _], _ => rfl⟩
  refine fnD_of (kd := k_mean_over) F sc_mean_over rfl (by decide) (by decide) (by decide) fun cdv A outer s H E hr => ?_
  have hu := hu40 hr
  exact (dss_cons (ds_set (ps_set (i := 2) sc_mean_over.nd rfl (Or.inl rfl) (de_c (pe_glob (v := V.ref (He.ga K "NOUGHT")) rfl M.g_NOUGHT rfl) M.r_NOUGHT)) rfl)
  (dss_cons (ds_for (js := [3, 4]) PassesOwn.never rfl (di_seq (de_sta (de_v (pv 0) rfl))) (dg_tup rfl (dgs_cons (pg_name (i := 3) sc_mean_over.nd rfl (Or.inl rfl)) rfl (dgs_cons (pg_name (i := 4) sc_mean_over.nd rfl (Or.inl rfl)) rfl dgs_nil))) (dss_one (ds_set (ps_set (i := 2) sc_mean_over.nd rfl (Or.inl rfl) (de_call F_plus hr rfl M.m_plus K_plus B_plus (da_val (de_v (pv 2) rfl) (da_val (de_call F_times hr rfl M.m_times K_times B_times (da_val (de_v (pv 4) rfl) (da_val (de_dget hu (de_any (de_b (pv 1) rfl)) (de_v (pv 3) rfl) (by intro _ _; rfl)) da_nil))) da_nil)))) rfl)))
  (dss_one (ds_ret (de_v (pv 2) rfl)))))
theorem sc_mean_by : FnScope N_mean_by p_mean_by (defScope s_mean_by) := ⟨rfl, rfl, rfl, by decide +kernel, rfl, by decide +kernel, by decide +kernel⟩
abbrev k_mean_by : Nat → Kd := fun i => [.val, .val, .val, .val, .bor].getD i .val
abbrev O_mean_by (P : Program) (w : World) (K : PySem.W.Frag) (mg : Str → Option Value) (base : Heap) (fd : FuncData) : Prop := FnD P w K mg base 6 (He.ga K "mean_by") fd p_mean_by [true, true, true, true, false] .val g_mean_by
theorem ok_mean_by (M : Mo K mg) : ∃ fd, O_mean_by P w K mg base fd ∧ PySem.W.keepIn K (.ref (He.ga K "mean_by")) = true ∧ L2.Binds K fd p_mean_by [] := by
  obtain ⟨fd_plus, F_plus, K_plus, B_plus⟩ := ok_plus (P := P) (w := w) (base := base) M
  obtain ⟨fd_mean_over, F_mean_over, K_mean_over, B_mean_over⟩ := ok_mean_over (P := P) (w := w) (base := base) M
  obtain ⟨fd_chances_behind, F_chances_behind, K_chances_behind, B_chances_behind⟩ := ok_chances_behind (P := P) (w := w) (base := base) M
  obtain ⟨fd_gain_of, F_gain_of, K_gain_of, B_gain_of⟩ := ok_gain_of (P := P) (w := w) (base := base) M
  obtain ⟨fd, F⟩ := M.f_mean_by
  refine ⟨fd, ?_, F.kp, F.bindsN fun _ _ _ _ _ _ us hl => match us, hl with | [_, _, _, _, _], _ => rfl⟩
  refine fnD_of (kd := k_mean_by) F sc_mean_by rfl (by decide) (by decide) (by decide) fun cdv A outer s H E hr => ?_
  have hu := hu40 hr
  exact (dss_one (ds_ret (de_call F_plus (hr.mono (by decide)) rfl M.m_plus K_plus B_plus (da_val (de_tup (da_val (de_call F_gain_of (hr.mono (by decide)) rfl M.m_gain_of K_gain_of B_gain_of (da_val (de_v (pv 0) rfl) (da_val (de_v (pv 2) rfl) (da_val (de_v (pv 3) rfl) da_nil)))) (da_val de_int da_nil))) (da_val (de_call F_mean_over (hr.mono (by decide)) rfl M.m_mean_over K_mean_over B_mean_over (da_val (de_frz (de_call F_chances_behind hr rfl M.m_chances_behind K_chances_behind B_chances_behind (da_val (de_v (pv 0) rfl) (da_val (de_v (pv 1) rfl) (da_val (de_v (pv 2) rfl) (da_val (de_v (pv 3) rfl) da_nil)))))) (da_any (de_any (de_b (pv 4) rfl)) da_nil))) da_nil)))))
theorem sc_mean_numbers : FnScope N_mean_numbers p_mean_numbers (defScope s_mean_numbers) := ⟨rfl, rfl, rfl, by decide +kernel, rfl, by decide +kernel, by decide +kernel⟩
abbrev k_mean_numbers : Nat → Kd := fun i => [.val, .val, .ownL, .ownD, .val, .val, .val, .val, .ownD, .val, .val].getD i .val
abbrev O_mean_numbers (P : Program) (w : World) (K : PySem.W.Frag) (mg : Str → Option Value) (base : Heap) (fd : FuncData) : Prop := FnD P w K mg base 7 (He.ga K "mean_numbers") fd p_mean_numbers [true, true] .frd g_mean_numbers
theorem ok_mean_numbers (M : Mo K mg) : ∃ fd, O_mean_numbers P w K mg base fd ∧ PySem.W.keepIn K (.ref (He.ga K "mean_numbers")) = true ∧ L2.Binds K fd p_mean_numbers [] := by
  obtain ⟨fd_first_chances, F_first_chances, K_first_chances, B_first_chances⟩ := ok_first_chances (P := P) (w := w) (base := base) M
  obtain ⟨fd_moves_of, F_moves_of, K_moves_of, B_moves_of⟩ := ok_moves_of (P := P) (w := w) (base := base) M
  obtain ⟨fd_chances_behind, F_chances_behind, K_chances_behind, B_chances_behind⟩ := ok_chances_behind (P := P) (w := w) (base := base) M
  obtain ⟨fd_mean_by, F_mean_by, K_mean_by, B_mean_by⟩ := ok_mean_by (P := P) (w := w) (base := base) M
  obtain ⟨fd_is_less, F_is_less, K_is_less, B_is_less⟩ := ok_is_less (P := P) (w := w) (base := base) M
  obtain ⟨fd, F⟩ := M.f_mean_numbers
  refine ⟨fd, ?_, F.kp, F.bindsN fun _ _ _ _ _ _ us hl => match us, hl with | [_, _], _ => rfl⟩
  refine fnD_of (kd := k_mean_numbers) F sc_mean_numbers rfl (by decide) (by decide) (by decide) fun cdv A outer s H E hr => ?_
  have hu := hu40 hr
  exact (dss_cons (ds_setL (ps_comp (i := 2) (own := [("state", 4), ("chance", 7)]) rfl sc_mean_numbers.nd rfl rfl (sw_true rfl rfl rfl (by decide +kernel)) (di_c (di_seq (de_sta (de_frz (de_call F_first_chances (hr.mono (by decide)) rfl M.m_first_chances K_first_chances B_first_chances (da_val (de_v (pv 0) rfl) (da_val (de_v (pv 1) rfl) da_nil))))))) (blkOk_by (own := [("state", 4), ("chance", 7)]) (N := N_mean_numbers) (sc := defScope s_mean_numbers) (by decide +kernel)) (fun _ _ _ _ _ => (dg_tup rfl (dgs_cons (pg_name (i := 4) sc_mean_numbers.nd rfl (Or.inl rfl)) rfl (dgs_cons (pg_name (i := 7) sc_mean_numbers.nd rfl (Or.inl rfl)) rfl dgs_nil)))) (fun _ _ _ _ _ => dts_nil) (fun _ _ _ _ _ => (de_v (pv 4) rfl))) rfl)
  (dss_cons (ds_setD (ps_dcomp (i := 4) (j := 3) (own := [("state", 4)]) hu rfl sc_mean_numbers.nd rfl rfl (swd_true rfl rfl rfl (by decide +kernel)) (di_own (de_o (pv 2) rfl)) (blkOk_by (own := [("state", 4)]) (N := N_mean_numbers) (sc := defScope s_mean_numbers) (by decide +kernel)) (fun _ _ _ _ _ => (dg_name (pg_name (i := 4) sc_mean_numbers.nd rfl (Or.inl rfl)) rfl)) (fun _ _ _ _ _ => (de_v (pv 4) rfl)) (fun _ _ _ _ _ => de_bool) (by decide) (show 4 < N_mean_numbers.length by decide)) rfl)
  (dss_cons (ds_while (js := [4, 5, 6, 7]) PassesOwn.never (dt_tr (de_o (pv 2) rfl)) (dss_cons (ds_pop rfl rfl (ps_set (i := 4) sc_mean_numbers.nd rfl (Or.inl rfl) (pe_bm0 PySem.F.plainAttrs_list PySem.F.slot_list_pop PySem.F.type_list_pop mt_pop (pv 2))))
  (dss_one (ds_for (js := [5, 6, 7]) PassesOwn.never rfl (di_seq (de_sta (de_frz (de_call F_moves_of (hr.mono (by decide)) rfl M.m_moves_of K_moves_of B_moves_of (da_val (de_v (pv 0) rfl) (da_val (de_v (pv 4) rfl) da_nil)))))) (dg_name (pg_name (i := 5) sc_mean_numbers.nd rfl (Or.inl rfl)) rfl) (dss_one (ds_for (js := [6, 7]) PassesOwn.never rfl (di_seq (de_sta (de_frz (de_call F_chances_behind (hr.mono (by decide)) rfl M.m_chances_behind K_chances_behind B_chances_behind (da_val (de_v (pv 0) rfl) (da_val (de_v (pv 1) rfl) (da_val (de_v (pv 4) rfl) (da_val (de_v (pv 5) rfl) da_nil)))))))) (dg_tup rfl (dgs_cons (pg_name (i := 6) sc_mean_numbers.nd rfl (Or.inl rfl)) rfl (dgs_cons (pg_name (i := 7) sc_mean_numbers.nd rfl (Or.inl rfl)) rfl dgs_nil))) (dss_one (ds_if (dt_dNotIn hu (de_v (pv 6) rfl) (de_od (pv 3) rfl) (by rfl)) (dss_cons (ds_setK rfl (ps_asg de_bool (pg_sub (pv 3) (de_v (pv 6) rfl) (set_dct hu))))
  (dss_one (ds_app rfl (ps_expr (pe_bm PySem.F.plainAttrs_list PySem.F.slot_list_append PySem.F.type_list_append mt_append (pv 2) (pa_cons (de_v (pv 6) rfl) pa_nil)))))) dss_nil))))))))
  (dss_cons (ds_setD (ps_set (i := 8) sc_mean_numbers.nd rfl (Or.inl rfl) (de_dnew rfl)) rfl)
  (dss_cons (ds_for (js := [4, 9, 5, 10]) PassesOwn.never rfl (di_seq (de_sta (de_frz (de_sortedR rfl hu rfl M.n_sorted (da_any (de_od (pv 3) rfl) da_nil))))) (dg_name (pg_name (i := 4) sc_mean_numbers.nd rfl (Or.inl rfl)) rfl) (dss_cons (ds_set (ps_set (i := 9) sc_mean_numbers.nd rfl (Or.inl rfl) (de_c (pe_glob (v := V.ref (He.ga K "NOUGHT")) rfl M.g_NOUGHT rfl) M.r_NOUGHT)) rfl)
  (dss_cons (ds_for (js := [5, 10]) PassesOwn.never rfl (di_seq (de_sta (de_frz (de_call F_moves_of (hr.mono (by decide)) rfl M.m_moves_of K_moves_of B_moves_of (da_val (de_v (pv 0) rfl) (da_val (de_v (pv 4) rfl) da_nil)))))) (dg_name (pg_name (i := 5) sc_mean_numbers.nd rfl (Or.inl rfl)) rfl) (dss_cons (ds_set (ps_set (i := 10) sc_mean_numbers.nd rfl (Or.inl rfl) (de_call F_mean_by hr rfl M.m_mean_by K_mean_by B_mean_by (da_val (de_v (pv 0) rfl) (da_val (de_v (pv 1) rfl) (da_val (de_v (pv 4) rfl) (da_val (de_v (pv 5) rfl) (da_any (de_od (pv 8) rfl) da_nil))))))) rfl)
  (dss_one (ds_if (dt_val (de_call F_is_less (hr.mono (by decide)) rfl M.m_is_less K_is_less B_is_less (da_val (de_v (pv 9) rfl) (da_val (de_v (pv 10) rfl) da_nil)))) (dss_one (ds_set (ps_set (i := 9) sc_mean_numbers.nd rfl (Or.inl rfl) (de_v (pv 10) rfl)) rfl)) dss_nil))))
  (dss_one (ds_setK rfl (ps_asg (de_v (pv 9) rfl) (pg_sub (pv 8) (de_v (pv 4) rfl) (set_dct hu))))))))
  (dss_one (ds_retD (pv 8) rfl)))))))
theorem sc_mean_worth : FnScope N_mean_worth p_mean_worth (defScope s_mean_worth) := ⟨rfl, rfl, rfl, by decide +kernel, rfl, by decide +kernel, by decide +kernel⟩
abbrev k_mean_worth : Nat → Kd := fun i => [.val, .val].getD i .val
abbrev O_mean_worth (P : Program) (w : World) (K : PySem.W.Frag) (mg : Str → Option Value) (base : Heap) (fd : FuncData) : Prop := FnD P w K mg base 8 (He.ga K "mean_worth") fd p_mean_worth [true, true] .val g_mean_worth
theorem ok_mean_worth (M : Mo K mg) : ∃ fd, O_mean_worth P w K mg base fd ∧ PySem.W.keepIn K (.ref (He.ga K "mean_worth")) = true ∧ L2.Binds K fd p_mean_worth [] := by
  obtain ⟨fd_mean_over, F_mean_over, K_mean_over, B_mean_over⟩ := ok_mean_over (P := P) (w := w) (base := base) M
  obtain ⟨fd_mean_numbers, F_mean_numbers, K_mean_numbers, B_mean_numbers⟩ := ok_mean_numbers (P := P) (w := w) (base := base) M
  obtain ⟨fd_first_chances, F_first_chances, K_first_chances, B_first_chances⟩ := ok_first_chances (P := P) (w := w) (base := base) M
  obtain ⟨fd, F⟩ := M.f_mean_worth
  refine ⟨fd, ?_, F.kp, F.bindsN fun _ _ _ _ _ _ us hl => match us, hl with | [_, _], _ => rfl⟩
  refine fnD_of (kd := k_mean_worth) F sc_mean_worth rfl (by decide) (by decide) (by decide) fun cdv A outer s H E hr => ?_
  have hu := hu40 hr
  exact (dss_one (ds_ret (de_call F_mean_over (hr.mono (by decide)) rfl M.m_mean_over K_mean_over B_mean_over (da_val (de_frz (de_call F_first_chances (hr.mono (by decide)) rfl M.m_first_chances K_first_chances B_first_chances (da_val (de_v (pv 0) rfl) (da_val (de_v (pv 1) rfl) da_nil)))) (da_any (de_any (de_call F_mean_numbers hr rfl M.m_mean_numbers K_mean_numbers B_mean_numbers (da_val (de_v (pv 0) rfl) (da_val (de_v (pv 1) rfl) da_nil)))) da_nil)))))
theorem sc_plans_on : FnScope N_plans_on p_plans_on (defScope s_plans_on) := ⟨rfl, rfl, rfl, by decide +kernel, rfl, by decide +kernel, by decide +kernel⟩
abbrev k_plans_on : Nat → Kd := fun i => [.val, .val, .val, .ownL, .val, .val, .val, .val].getD i .val
abbrev O_plans_on (P : Program) (w : World) (K : PySem.W.Frag) (mg : Str → Option Value) (base : Heap) (fd : FuncData) : Prop := FnD P w K mg base 7 (He.ga K "plans_on") fd p_plans_on [true, true, true] .fre g_plans_on
theorem ok_plans_on (M : Mo K mg) : ∃ fd, O_plans_on P w K mg base fd ∧ PySem.W.keepIn K (.ref (He.ga K "plans_on")) = true ∧ ∃ g, KBn K fd p_plans_on 1 ["now", "begun"] g (fun vs zs => vs ++ zs) := by
  obtain ⟨fd_is_plan, F_is_plan, K_is_plan, B_is_plan⟩ := ok_is_plan (P := P) (w := w) (base := base) M
  obtain ⟨fd, F⟩ := M.f_plans_on
  refine ⟨fd, ?_, F.kp, ⟨_, kbN F 1 ["now", "begun"] fun _ _ _ _ _ _ us ws hl hl2 => match us, ws, hl, hl2 with | [_], [_, _], _, _ => rfl⟩⟩
  refine fnD_of (kd := k_plans_on) F sc_plans_on rfl (by decide) (by decide) (by decide) fun cdv A outer s H E hr => ?_
  have hu := hu40 hr
  exact (dss_cons (ds_par (ps_par (i := 3) (j := 4) (by rfl) sc_plans_on.nd rfl rfl (by decide) rfl rfl (pa_cons (de_lst (da_val (de_frz (de_ct call_list_of ol_toL rfl M.n_list boot_list (da_any (de_any (de_v (pv 2) rfl)) da_nil))) da_nil)) (pa_cons de_int pa_nil)) (by rfl)) (.inr ⟨rfl, rfl⟩) rfl)
  (dss_cons (ds_while (js := [5, 6, 7]) PassesOwn.never (dt_cmp op_lt o2_lt (de_any (de_v (pv 4) rfl)) (de_any (de_cb call_len_seq ol_len rfl M.n_len boot_len (da_any (de_o (pv 3) rfl) da_nil))) (nomark _)) (dss_cons (ds_par (ps_par (i := 5) (j := 6) (by rfl) sc_plans_on.nd rfl rfl (by decide) rfl rfl (pa_cons (de_ix (de_o (pv 3) rfl) (de_any (de_v (pv 4) rfl)) (by intro _ _; rfl)) (pa_cons de_int pa_nil)) (by rfl)) (.inl ⟨rfl, rfl⟩) rfl)
  (dss_cons (ds_aug (ps_aug (i := 4) sc_plans_on.nd rfl (Or.inl rfl) (de_any de_int) ip_add) rfl)
  (dss_cons (ds_if (dt_tr (de_v (pv 5) rfl)) (dss_one (ds_set (ps_set (i := 6) sc_plans_on.nd rfl (Or.inl rfl) (de_op op_add o2_add (de_any (de_ix (de_any (de_v (pv 5) rfl)) (de_any (de_neg (de_any de_int))) (by intro _ _; rfl))) (de_any de_int))) rfl)) dss_nil)
  (dss_one (ds_for (js := [7]) PassesOwn.never rfl (di_rng2 rfl M.n_range (de_any (de_v (pv 6) rfl)) (de_any (de_cb call_len_seq ol_len rfl M.n_len boot_len (da_any (de_any (de_ix (de_any (de_v (pv 0) rfl)) (de_any de_int) (by intro _ _; rfl))) da_nil)))) (dg_name (pg_name (i := 7) sc_plans_on.nd rfl (Or.inl rfl)) rfl) (dss_one (ds_if (dt_w (dw_and (dt_cmp op_ge o2_ge (de_any (de_ix (de_any (de_ix (de_any (de_ix (de_any (de_v (pv 0) rfl)) (de_any de_int) (by intro _ _; rfl))) (de_any (de_v (pv 7) rfl)) (by intro _ _; rfl))) (de_any de_int) (by intro _ _; rfl))) (de_any (de_v (pv 1) rfl)) (nomark _)) (dw_and1 (dt_val (de_call F_is_plan hr rfl M.m_is_plan K_is_plan B_is_plan (da_val (de_v (pv 0) rfl) (da_val (de_frz (de_catL (de_v (pv 5) rfl) (de_frz (de_lst (da_val (de_v (pv 7) rfl) da_nil))))) da_nil))))))) (dss_one (ds_app rfl (ps_expr (pe_bm PySem.F.plainAttrs_list PySem.F.slot_list_append PySem.F.type_list_append mt_append (pv 3) (pa_cons (de_frz (de_catL (de_v (pv 5) rfl) (de_frz (de_lst (da_val (de_v (pv 7) rfl) da_nil))))) pa_nil))))) dss_nil))))))))
  (dss_one (ds_ret (de_cb (cr_sorted rfl hu) ol_sorted rfl M.n_sorted boot_sorted (da_any (de_o (pv 3) rfl) da_nil))))))
theorem sc_keeps : FnScope N_keeps p_keeps (defScope s_keeps) := ⟨rfl, rfl, rfl, by decide +kernel, rfl, by decide +kernel, by decide +kernel⟩
abbrev k_keeps : Nat → Kd := fun i => [.val, .val, .val, .val, .val, .val].getD i .val
abbrev O_keeps (P : Program) (w : World) (K : PySem.W.Frag) (mg : Str → Option Value) (base : Heap) (fd : FuncData) : Prop := FnD P w K mg base 1 (He.ga K "keeps") fd p_keeps [true, true, true] .val g_keeps
theorem ok_keeps (M : Mo K mg) : ∃ fd, O_keeps P w K mg base fd ∧ PySem.W.keepIn K (.ref (He.ga K "keeps")) = true ∧ L2.Binds K fd p_keeps [] := by
  obtain ⟨fd, F⟩ := M.f_keeps
  refine ⟨fd, ?_, F.kp, F.bindsN fun _ _ _ _ _ _ us hl => match us, hl with | [_, _, _], _ => rfl⟩
  refine fnD_of (kd := k_keeps) F sc_keeps rfl (by decide) (by decide) (by decide) fun cdv A outer s H E hr => ?_
  have hu := hu40 hr
  exact (dss_cons (ds_set (ps_set (i := 3) sc_keeps.nd rfl (Or.inr rfl) (de_frz (de_comp (own := [("look", 4)]) rfl sc_keeps.nd (di_c (di_seq (de_sta (de_v (pv 1) rfl)))) (blkOk_by (own := [("look", 4)]) (N := N_keeps) (sc := defScope s_keeps) (by decide +kernel)) (fun _ _ _ _ _ => (dg_name (pg_name (i := 4) sc_keeps.nd rfl (Or.inl rfl)) rfl)) (fun _ _ _ _ _ => dts_nil) (fun _ _ _ _ _ => (de_ix (de_any (de_ix (de_any (de_ix (de_any (de_v (pv 0) rfl)) (de_any de_int) (by intro _ _; rfl))) (de_any (de_v (pv 4) rfl)) (by intro _ _; rfl))) (de_any de_int) (by intro _ _; rfl)))))) rfl)
  (dss_one (ds_ret (de_cb (cr_all rfl) ol_all rfl M.n_all boot_all (da_any (de_any (de_comp (own := [("wish", 5)]) rfl sc_keeps.nd (di_c (di_seq (de_sta (de_v (pv 2) rfl)))) (blkOk_by (own := [("wish", 5)]) (N := N_keeps) (sc := defScope s_keeps) (by decide +kernel)) (fun _ _ _ _ _ => (dg_name (pg_name (i := 5) sc_keeps.nd rfl (Or.inl rfl)) rfl)) (fun _ _ _ _ _ => dts_nil) (fun _ _ _ _ _ => (de_cmp op_in_seq o2_in (de_any (de_v (pv 5) rfl)) (de_any (de_v (pv 3) rfl)) (by rfl))))) da_nil)))))
theorem sc_keeping : FnScope N_keeping p_keeping (defScope s_keeping) := ⟨rfl, rfl, rfl, by decide +kernel, rfl, by decide +kernel, by decide +kernel⟩
abbrev k_keeping : Nat → Kd := fun i => [.val, .val, .val, .val, .val].getD i .val
abbrev O_keeping (P : Program) (w : World) (K : PySem.W.Frag) (mg : Str → Option Value) (base : Heap) (fd : FuncData) : Prop := FnD P w K mg base 8 (He.ga K "keeping") fd p_keeping [true, true, true, true] .fre g_keeping
theorem ok_keeping (M : Mo K mg) : ∃ fd, O_keeping P w K mg base fd ∧ PySem.W.keepIn K (.ref (He.ga K "keeping")) = true ∧ L2.Binds K fd p_keeping [] := by
  obtain ⟨fd_plans_on, F_plans_on, K_plans_on, gg_plans_on, B_plans_on⟩ := ok_plans_on (P := P) (w := w) (base := base) M
  obtain ⟨fd_keeps, F_keeps, K_keeps, B_keeps⟩ := ok_keeps (P := P) (w := w) (base := base) M
  obtain ⟨fd, F⟩ := M.f_keeping
  refine ⟨fd, ?_, F.kp, F.bindsN fun _ _ _ _ _ _ us hl => match us, hl with | [_, _, _, _], _ => rfl⟩
  refine fnD_of (kd := k_keeping) F sc_keeping rfl (by decide) (by decide) (by decide) fun cdv A outer s H E hr => ?_
  have hu := hu40 hr
  exact (dss_one (ds_ret (de_comp (own := [("plan", 4)]) rfl sc_keeping.nd (di_c (di_seq (de_sta (de_frz (de_callK (ms := [true]) (ns := [true, true]) F_plans_on hr rfl M.m_plans_on K_plans_on B_plans_on (da_val (de_v (pv 0) rfl) da_nil) (dk_val (de_v (pv 2) rfl) (dk_val (de_v (pv 3) rfl) dk_nil))))))) (blkOk_by (own := [("plan", 4)]) (N := N_keeping) (sc := defScope s_keeping) (by decide +kernel)) (fun _ _ _ _ _ => (dg_name (pg_name (i := 4) sc_keeping.nd rfl (Or.inl rfl)) rfl)) (fun _ _ _ _ _ => dts_one (dt_val (de_call F_keeps (hr.mono (by decide)) rfl M.m_keeps K_keeps B_keeps (da_val (de_v (pv 0) rfl) (da_val (de_v (pv 4) rfl) (da_val (de_v (pv 1) rfl) da_nil)))))) (fun _ _ _ _ _ => (de_v (pv 4) rfl)))))
theorem sc_can_keep : FnScope N_can_keep p_can_keep (defScope s_can_keep) := ⟨rfl, rfl, rfl, by decide +kernel, rfl, by decide +kernel, by decide +kernel⟩
abbrev k_can_keep : Nat → Kd := fun i => [.val, .val, .val, .val].getD i .val
abbrev O_can_keep (P : Program) (w : World) (K : PySem.W.Frag) (mg : Str → Option Value) (base : Heap) (fd : FuncData) : Prop := FnD P w K mg base 9 (He.ga K "can_keep") fd p_can_keep [true, true, true, true] .val g_can_keep
theorem ok_can_keep (M : Mo K mg) : ∃ fd, O_can_keep P w K mg base fd ∧ PySem.W.keepIn K (.ref (He.ga K "can_keep")) = true ∧ ∃ g, KBn K fd p_can_keep 2 ["now", "begun"] g (fun vs zs => vs ++ zs) := by
  obtain ⟨fd_keeping, F_keeping, K_keeping, B_keeping⟩ := ok_keeping (P := P) (w := w) (base := base) M
  obtain ⟨fd, F⟩ := M.f_can_keep
  refine ⟨fd, ?_, F.kp, ⟨_, kbN F 2 ["now", "begun"] fun _ _ _ _ _ _ us ws hl hl2 => match us, ws, hl, hl2 with | [_, _], [_, _], _, _ => rfl⟩⟩
  refine fnD_of (kd := k_can_keep) F sc_can_keep rfl (by decide) (by decide) (by decide) fun cdv A outer s H E hr => ?_
  have hu := hu40 hr
  exact (dss_one (ds_ret (de_cmp op_gt o2_gt (de_any (de_cb call_len_seq ol_len rfl M.n_len boot_len (da_any (de_any (de_call F_keeping hr rfl M.m_keeping K_keeping B_keeping (da_val (de_v (pv 0) rfl) (da_val (de_v (pv 1) rfl) (da_val (de_v (pv 2) rfl) (da_val (de_v (pv 3) rfl) da_nil)))))) da_nil))) (de_any de_int) (nomark _))))
theorem sc_best_keeping : FnScope N_best_keeping p_best_keeping (defScope s_best_keeping) := ⟨rfl, rfl, rfl, by decide +kernel, rfl, by decide +kernel, by decide +kernel⟩
abbrev k_best_keeping : Nat → Kd := fun i => [.val, .val, .val, .val, .val, .val, .val].getD i .val
abbrev O_best_keeping (P : Program) (w : World) (K : PySem.W.Frag) (mg : Str → Option Value) (base : Heap) (fd : FuncData) : Prop := FnD P w K mg base 9 (He.ga K "best_keeping") fd p_best_keeping [true, true, true, true] .val g_best_keeping
theorem ok_best_keeping (M : Mo K mg) : ∃ fd, O_best_keeping P w K mg base fd ∧ PySem.W.keepIn K (.ref (He.ga K "best_keeping")) = true ∧ (∃ g, KBn K fd p_best_keeping 2 ["now", "begun"] g (fun vs zs => vs ++ zs)) ∧ ∃ ds, Vals [V.int 0, V.ref (kwA "best_keeping" "begun" K)] ds ∧ L2.Binds K fd p_best_keeping ds := by
  obtain ⟨fd_keeping, F_keeping, K_keeping, B_keeping⟩ := ok_keeping (P := P) (w := w) (base := base) M
  obtain ⟨fd_worth_of, F_worth_of, K_worth_of, B_worth_of⟩ := ok_worth_of (P := P) (w := w) (base := base) M
  obtain ⟨fd, F⟩ := M.f_best_keeping
  refine ⟨fd, ?_, F.kp, ⟨_, kbN F 2 ["now", "begun"] fun _ _ _ _ _ _ us ws hl hl2 => match us, ws, hl, hl2 with | [_, _], [_, _], _, _ => rfl⟩, F.binds0 2 (by simp) rfl fun D doc pm an cdv ct us ks hl hk => match us, ks, hl, hk with | [_, _], [_, _], _, _ => ⟨_, _, _, _, _, _, rfl, rfl, _, _, _, _, _, _, rfl, rfl, rfl⟩⟩
  refine fnD_of (kd := k_best_keeping) F sc_best_keeping rfl (by decide) (by decide) (by decide) fun cdv A outer s H E hr => ?_
  have hu := hu40 hr
  exact (dss_cons (ds_set (ps_set (i := 4) sc_best_keeping.nd rfl (Or.inl rfl) de_none) rfl)
  (dss_cons (ds_for (js := [5, 6]) PassesOwn.never rfl (di_seq (de_sta (de_frz (de_call F_keeping hr rfl M.m_keeping K_keeping B_keeping (da_val (de_v (pv 0) rfl) (da_val (de_v (pv 1) rfl) (da_val (de_v (pv 2) rfl) (da_val (de_v (pv 3) rfl) da_nil)))))))) (dg_name (pg_name (i := 5) sc_best_keeping.nd rfl (Or.inl rfl)) rfl) (dss_cons (ds_set (ps_set (i := 6) sc_best_keeping.nd rfl (Or.inl rfl) (de_call F_worth_of (hr.mono (by decide)) rfl M.m_worth_of K_worth_of B_worth_of (da_val (de_v (pv 0) rfl) (da_val (de_v (pv 5) rfl) da_nil)))) rfl)
  (dss_one (ds_if (dt_w (dw_or (dt_isN (de_any (de_v (pv 4) rfl))) (dw_or1 (dt_cmp op_gt o2_gt (de_any (de_v (pv 6) rfl)) (de_any (de_ix (de_any (de_v (pv 4) rfl)) (de_any de_int) (by intro _ _; rfl))) (nomark _))))) (dss_one (ds_set (ps_set (i := 4) sc_best_keeping.nd rfl (Or.inl rfl) (de_tup (da_val (de_v (pv 6) rfl) (da_val (de_v (pv 5) rfl) da_nil)))) rfl)) dss_nil))))
  (dss_one (ds_ret (de_v (pv 4) rfl)))))
theorem sc__law_draws : FnScope N__law_draws p__law_draws (defScope s__law_draws) := ⟨rfl, rfl, rfl, by decide +kernel, rfl, by decide +kernel, by decide +kernel⟩
abbrev k__law_draws : Nat → Kd := fun i => [.bor, .val, .ownL, .ownL, .val, .val, .val, .val, .val].getD i .val
abbrev O__law_draws (P : Program) (w : World) (K : PySem.W.Frag) (mg : Str → Option Value) (base : Heap) (fd : FuncData) : Prop := FnD P w K mg base 1 (He.ga K "_law_draws") fd p__law_draws [false, true] .fre g__law_draws
theorem ok__law_draws (M : Mo K mg) : ∃ fd, O__law_draws P w K mg base fd ∧ PySem.W.keepIn K (.ref (He.ga K "_law_draws")) = true ∧ L2.Binds K fd p__law_draws [] := by
  obtain ⟨fd, F⟩ := M.f__law_draws
  refine ⟨fd, ?_, F.kp, F.bindsN fun _ _ _ _ _ _ us hl => match us, hl with | [_, _], _ => rfl⟩
  refine fnD_of (kd := k__law_draws) F sc__law_draws rfl (by decide) (by decide) (by decide) fun cdv A outer s H E hr => ?_
  have hu := hu40 hr
  exact (dss_cons (ds_setL (ps_comp (i := 2) (own := [("_law_cell", 8)]) rfl sc__law_draws.nd rfl rfl (sw_true rfl rfl rfl (by decide +kernel)) (di_c (di_seq (de_b (pv 0) rfl))) (blkOk_by (own := [("_law_cell", 8)]) (N := N__law_draws) (sc := defScope s__law_draws) (by decide +kernel)) (fun _ _ _ _ _ => (dg_name (pg_name (i := 8) sc__law_draws.nd rfl (Or.inl rfl)) rfl)) (fun _ _ _ _ _ => dts_nil) (fun _ _ _ _ _ => (de_v (pv 8) rfl))) rfl)
  (dss_cons (ds_setL (ps_set (i := 3) sc__law_draws.nd rfl (Or.inl rfl) (de_lst da_nil)) rfl)
  (dss_cons (ds_for (js := [4, 5, 6, 7]) PassesOwn.never rfl (di_rng1 rfl M.n_range (de_any (de_v (pv 1) rfl))) (dg_name (pg_name (i := 4) sc__law_draws.nd rfl (Or.inl rfl)) rfl) (dss_cons (ds_set (ps_set (i := 5) sc__law_draws.nd rfl (Or.inl rfl) de_int) rfl)
  (dss_cons (ds_if (dt_cmp op_gt o2_gt (de_any (de_cb call_len_seq ol_len rfl M.n_len boot_len (da_any (de_o (pv 2) rfl) da_nil))) (de_any de_int) (nomark _)) (dss_cons (ds_set (ps_set (i := 6) sc__law_draws.nd rfl (Or.inl rfl) (de_op op_mod o2_mod (de_any (de_ct call_int1 ol_int rfl M.n_int boot_int (da_any (de_any (de_v (pv 4) rfl)) da_nil))) (de_any (de_cb call_len_seq ol_len rfl M.n_len boot_len (da_any (de_o (pv 2) rfl) da_nil))))) rfl)
  (dss_one (ds_if (dt_cmp op_ge o2_ge (de_any (de_ix (de_o (pv 2) rfl) (de_any (de_v (pv 6) rfl)) (by intro _ _; rfl))) (de_any (de_op op_pow o2_pow (de_any de_int) (de_any de_int))) (nomark _)) (dss_cons (ds_set (ps_set (i := 5) sc__law_draws.nd rfl (Or.inl rfl) (de_op op_mod o2_mod (de_any (de_ct call_int1 ol_int rfl M.n_int boot_int (da_any (de_any (de_ix (de_o (pv 2) rfl) (de_any (de_v (pv 6) rfl)) (by intro _ _; rfl))) da_nil))) (de_any de_int))) rfl)
  (dss_one (ds_setI rfl (ps_asg (de_op op_fdivW o2_div (de_any (de_ix (de_o (pv 2) rfl) (de_any (de_v (pv 6) rfl)) (by intro _ _; rfl))) (de_any de_int)) (pg_sub (pv 2) (de_any (de_v (pv 6) rfl)) set_list))))) (dss_cons (ds_set (ps_set (i := 7) sc__law_draws.nd rfl (Or.inl rfl) (de_op op_mod o2_mod (de_any (de_ct call_int1 ol_int rfl M.n_int boot_int (da_any (de_any (de_op op_add o2_add (de_any (de_op op_add o2_add (de_any (de_op op_mul o2_mul (de_any (de_ix (de_o (pv 2) rfl) (de_any (de_v (pv 6) rfl)) (by intro _ _; rfl))) (de_any de_int))) (de_any (de_op op_mul o2_mul (de_any (de_v (pv 4) rfl)) (de_any de_int))))) (de_any de_int))) da_nil))) (de_any de_int))) rfl)
  (dss_cons (ds_set (ps_set (i := 7) sc__law_draws.nd rfl (Or.inl rfl) (de_op op_mod o2_mod (de_any (de_ct call_int1 ol_int rfl M.n_int boot_int (da_any (de_any (de_op op_add o2_add (de_any (de_op op_mul o2_mul (de_any (de_v (pv 7) rfl)) (de_any de_int))) (de_any (de_v (pv 6) rfl)))) da_nil))) (de_any de_int))) rfl)
  (dss_one (ds_set (ps_set (i := 5) sc__law_draws.nd rfl (Or.inl rfl) (de_op op_mod o2_mod (de_any (de_ct call_int1 ol_int rfl M.n_int boot_int (da_any (de_any (de_op op_fdivW o2_div (de_any (de_v (pv 7) rfl)) (de_any de_int))) da_nil))) (de_any de_int))) rfl))))))) dss_nil)
  (dss_one (ds_app rfl (ps_expr (pe_bm PySem.F.plainAttrs_list PySem.F.slot_list_append PySem.F.type_list_append mt_append (pv 3) (pa_cons (de_v (pv 5) rfl) pa_nil))))))))
  (dss_one (ds_retL (pv 3) rfl)))))
theorem sc__law_sky : FnScope N__law_sky p__law_sky (defScope s__law_sky) := ⟨rfl, rfl, rfl, by decide +kernel, rfl, by decide +kernel, by decide +kernel⟩
abbrev k__law_sky : Nat → Kd := fun i => [.val, .val, .val, .val, .ownL, .val, .val, .val, .ownL, .val, .val].getD i .val
abbrev O__law_sky (P : Program) (w : World) (K : PySem.W.Frag) (mg : Str → Option Value) (base : Heap) (fd : FuncData) : Prop := FnD P w K mg base 1 (He.ga K "_law_sky") fd p__law_sky [true, true] .val g__law_sky
theorem ok__law_sky (M : Mo K mg) : ∃ fd, O__law_sky P w K mg base fd ∧ PySem.W.keepIn K (.ref (He.ga K "_law_sky")) = true ∧ L2.Binds K fd p__law_sky [] := by
  obtain ⟨fd, F⟩ := M.f__law_sky
  refine ⟨fd, ?_, F.kp, F.bindsN fun _ _ _ _ _ _ us hl => match us, hl with | [_, _], _ => rfl⟩
  refine fnD_of (kd := k__law_sky) F sc__law_sky rfl (by decide) (by decide) (by decide) fun cdv A outer s H E hr => ?_
  have hu := hu40 hr
  exact (dss_cons (ds_set (ps_set (i := 2) sc__law_sky.nd rfl (Or.inl rfl) (de_op op_add o2_add (de_any de_int) (de_any (de_op op_mod o2_mod (de_any (de_ct call_int1 ol_int rfl M.n_int boot_int (da_any (de_any (de_ix (de_any (de_v (pv 0) rfl)) (de_any de_int) (by intro _ _; rfl))) da_nil))) (de_any de_int))))) rfl)
  (dss_cons (ds_setF (ps_comp (i := 3) (own := [("_law_k", 6)]) rfl sc__law_sky.nd rfl rfl (sw_true rfl rfl rfl (by decide +kernel)) (di_c (di_rng1 rfl M.n_range (de_any (de_v (pv 2) rfl)))) (blkOk_by (own := [("_law_k", 6)]) (N := N__law_sky) (sc := defScope s__law_sky) (by decide +kernel)) (fun _ _ _ _ _ => (dg_name (pg_name (i := 6) sc__law_sky.nd rfl (Or.inl rfl)) rfl)) (fun _ _ _ _ _ => dts_nil) (fun _ _ _ _ _ => (de_op op_mod o2_mod (de_any (de_ct call_int1 ol_int rfl M.n_int boot_int (da_any (de_any (de_ix (de_any (de_v (pv 0) rfl)) (de_any (de_op op_add o2_add (de_any de_int) (de_any (de_v (pv 6) rfl)))) (by intro _ _; rfl))) da_nil))) (de_any de_int)))) rfl)
  (dss_cons (ds_setL (ps_set (i := 4) sc__law_sky.nd rfl (Or.inl rfl) (de_lst da_nil)) rfl)
  (dss_cons (ds_set (ps_set (i := 5) sc__law_sky.nd rfl (Or.inl rfl) de_int) rfl)
  (dss_cons (ds_for (js := [6, 7]) PassesOwn.never rfl (di_rng1 rfl M.n_range (de_any (de_op op_mod o2_mod (de_any (de_ct call_int1 ol_int rfl M.n_int boot_int (da_any (de_any (de_ix (de_any (de_v (pv 0) rfl)) (de_any de_int) (by intro _ _; rfl))) da_nil))) (de_any de_int)))) (dg_name (pg_name (i := 6) sc__law_sky.nd rfl (Or.inl rfl)) rfl) (dss_cons (ds_set (ps_set (i := 7) sc__law_sky.nd rfl (Or.inl rfl) (de_op op_add o2_add (de_any (de_v (pv 5) rfl)) (de_any (de_op op_mod o2_mod (de_any (de_ct call_int1 ol_int rfl M.n_int boot_int (da_any (de_any (de_ix (de_any (de_v (pv 0) rfl)) (de_any (de_op op_add o2_add (de_any de_int) (de_any (de_op op_mul o2_mul (de_any de_int) (de_any (de_v (pv 6) rfl)))))) (by intro _ _; rfl))) da_nil))) (de_any de_int))))) rfl)
  (dss_cons (ds_set (ps_set (i := 5) sc__law_sky.nd rfl (Or.inl rfl) (de_op op_add o2_add (de_any (de_op op_add o2_add (de_any (de_v (pv 7) rfl)) (de_any de_int))) (de_any (de_op op_mod o2_mod (de_any (de_ct call_int1 ol_int rfl M.n_int boot_int (da_any (de_any (de_ix (de_any (de_v (pv 0) rfl)) (de_any (de_op op_add o2_add (de_any de_int) (de_any (de_op op_mul o2_mul (de_any de_int) (de_any (de_v (pv 6) rfl)))))) (by intro _ _; rfl))) da_nil))) (de_any de_int))))) rfl)
  (dss_one (ds_app rfl (ps_expr (pe_bm PySem.F.plainAttrs_list PySem.F.slot_list_append PySem.F.type_list_append mt_append (pv 4) (pa_cons (de_tup (da_val (de_v (pv 7) rfl) (da_val (de_v (pv 5) rfl) (da_val (de_op op_add o2_add (de_any de_int) (de_any (de_op op_mod o2_mod (de_any (de_ct call_int1 ol_int rfl M.n_int boot_int (da_any (de_any (de_ix (de_any (de_v (pv 0) rfl)) (de_any (de_op op_add o2_add (de_any de_int) (de_any (de_op op_mul o2_mul (de_any de_int) (de_any (de_v (pv 6) rfl)))))) (by intro _ _; rfl))) da_nil))) (de_any de_int)))) da_nil)))) pa_nil))))))))
  (dss_cons (ds_setL (ps_set (i := 8) sc__law_sky.nd rfl (Or.inl rfl) (de_lst da_nil)) rfl)
  (dss_cons (ds_set (ps_set (i := 9) sc__law_sky.nd rfl (Or.inl rfl) de_int) rfl)
  (dss_cons (ds_for (js := [6, 10]) PassesOwn.never rfl (di_rng1 rfl M.n_range (de_any (de_op op_mod o2_mod (de_any (de_ct call_int1 ol_int rfl M.n_int boot_int (da_any (de_any (de_ix (de_any (de_v (pv 0) rfl)) (de_any de_int) (by intro _ _; rfl))) da_nil))) (de_any (de_op op_add o2_add (de_any (de_v (pv 1) rfl)) (de_any de_int)))))) (dg_name (pg_name (i := 6) sc__law_sky.nd rfl (Or.inl rfl)) rfl) (dss_cons (ds_set (ps_set (i := 9) sc__law_sky.nd rfl (Or.inl rfl) (de_op op_add o2_add (de_any (de_v (pv 9) rfl)) (de_any (de_op op_mod o2_mod (de_any (de_ct call_int1 ol_int rfl M.n_int boot_int (da_any (de_any (de_ix (de_any (de_v (pv 0) rfl)) (de_any (de_op op_add o2_add (de_any de_int) (de_any (de_op op_mul o2_mul (de_any de_int) (de_any (de_v (pv 6) rfl)))))) (by intro _ _; rfl))) da_nil))) (de_any de_int))))) rfl)
  (dss_cons (ds_set (ps_set (i := 10) sc__law_sky.nd rfl (Or.inl rfl) (de_op op_sub o2_sub (de_any (de_op op_mod o2_mod (de_any (de_ct call_int1 ol_int rfl M.n_int boot_int (da_any (de_any (de_ix (de_any (de_v (pv 0) rfl)) (de_any (de_op op_add o2_add (de_any de_int) (de_any (de_op op_mul o2_mul (de_any de_int) (de_any (de_v (pv 6) rfl)))))) (by intro _ _; rfl))) da_nil))) (de_any de_int))) (de_any de_int))) rfl)
  (dss_one (ds_app rfl (ps_expr (pe_bm PySem.F.plainAttrs_list PySem.F.slot_list_append PySem.F.type_list_append mt_append (pv 8) (pa_cons (de_tup (da_val (de_op op_mod o2_mod (de_any (de_ct call_int1 ol_int rfl M.n_int boot_int (da_any (de_any (de_ix (de_any (de_v (pv 0) rfl)) (de_any (de_op op_add o2_add (de_any de_int) (de_any (de_op op_mul o2_mul (de_any de_int) (de_any (de_v (pv 6) rfl)))))) (by intro _ _; rfl))) da_nil))) (de_any (de_v (pv 2) rfl))) (da_val (de_v (pv 9) rfl) (da_val (de_op op_add o2_add (de_any de_int) (de_any (de_op op_mod o2_mod (de_any (de_ct call_int1 ol_int rfl M.n_int boot_int (da_any (de_any (de_ix (de_any (de_v (pv 0) rfl)) (de_any (de_op op_add o2_add (de_any de_int) (de_any (de_op op_mul o2_mul (de_any de_int) (de_any (de_v (pv 6) rfl)))))) (by intro _ _; rfl))) da_nil))) (de_any de_int)))) (da_val (de_v (pv 10) rfl) (da_val (de_op op_add o2_add (de_any de_int) (de_any (de_op op_mod o2_mod (de_any (de_ct call_int1 ol_int rfl M.n_int boot_int (da_any (de_any (de_ix (de_any (de_v (pv 0) rfl)) (de_any (de_op op_add o2_add (de_any de_int) (de_any (de_op op_mul o2_mul (de_any de_int) (de_any (de_v (pv 6) rfl)))))) (by intro _ _; rfl))) da_nil))) (de_any de_int)))) da_nil)))))) pa_nil))))))))
  (dss_one (ds_frz (i := 8) rfl (ds_frz (i := 4) rfl (ds_ret (de_tup (da_val (de_v (pv 8) rfl) (da_val (de_v (pv 3) rfl) (da_val (de_v (pv 4) rfl) (da_val (de_op op_add o2_add (de_any de_int) (de_any (de_op op_mod o2_mod (de_any (de_ct call_int1 ol_int rfl M.n_int boot_int (da_any (de_any (de_ix (de_any (de_v (pv 0) rfl)) (de_any de_int) (by intro _ _; rfl))) da_nil))) (de_any de_int)))) (da_val (de_op op_add o2_add (de_any de_int) (de_any (de_op op_mod o2_mod (de_any (de_ct call_int1 ol_int rfl M.n_int boot_int (da_any (de_any (de_ix (de_any (de_v (pv 0) rfl)) (de_any de_int) (by intro _ _; rfl))) da_nil))) (de_any de_int)))) da_nil))))))))))))))))))
theorem sc__law_turn : FnScope N__law_turn p__law_turn (defScope s__law_turn) := ⟨rfl, rfl, rfl, by decide +kernel, rfl, by decide +kernel, by decide +kernel⟩
abbrev k__law_turn : Nat → Kd := fun i => [.val, .val, .val, .val, .val].getD i .val
abbrev O__law_turn (P : Program) (w : World) (K : PySem.W.Frag) (mg : Str → Option Value) (base : Heap) (fd : FuncData) : Prop := FnD P w K mg base 1 (He.ga K "_law_turn") fd p__law_turn [true, true, true] .val g__law_turn
theorem ok__law_turn (M : Mo K mg) : ∃ fd, O__law_turn P w K mg base fd ∧ PySem.W.keepIn K (.ref (He.ga K "_law_turn")) = true ∧ L2.Binds K fd p__law_turn [] := by
  obtain ⟨fd, F⟩ := M.f__law_turn
  refine ⟨fd, ?_, F.kp, F.bindsN fun _ _ _ _ _ _ us hl => match us, hl with | [_, _, _], _ => rfl⟩
  refine fnD_of (kd := k__law_turn) F sc__law_turn rfl (by decide) (by decide) (by decide) fun cdv A outer s H E hr => ?_
  have hu := hu40 hr
  exact (dss_cons (ds_set (ps_set (i := 3) sc__law_turn.nd rfl (Or.inl rfl) de_int) rfl)
  (dss_cons (ds_for (js := [4]) PassesOwn.never rfl (di_rng1 rfl M.n_range (de_any de_int)) (dg_name (pg_name (i := 4) sc__law_turn.nd rfl (Or.inl rfl)) rfl) (dss_cons (ds_if (dt_cmp op_ge o2_ge (de_any (de_op op_mul o2_mul (de_any (de_v (pv 3) rfl)) (de_any (de_ix (de_any (de_v (pv 0) rfl)) (de_any de_int) (by intro _ _; rfl))))) (de_any (de_cb call_abs ol_abs rfl M.n_abs boot_abs (da_any (de_any (de_op op_sub o2_sub (de_any (de_ix (de_any (de_ix (de_any (de_ix (de_any (de_v (pv 0) rfl)) (de_any de_int) (by intro _ _; rfl))) (de_any (de_v (pv 2) rfl)) (by intro _ _; rfl))) (de_any de_int) (by intro _ _; rfl))) (de_any (de_ix (de_any (de_ix (de_any (de_ix (de_any (de_v (pv 0) rfl)) (de_any de_int) (by intro _ _; rfl))) (de_any (de_v (pv 1) rfl)) (by intro _ _; rfl))) (de_any de_int) (by intro _ _; rfl))))) da_nil))) (nomark _)) (dss_one ds_break) dss_nil)
  (dss_one (ds_set (ps_set (i := 3) sc__law_turn.nd rfl (Or.inl rfl) (de_op op_add o2_add (de_any (de_v (pv 3) rfl)) (de_any de_int))) rfl))))
  (dss_one (ds_ret (de_v (pv 3) rfl)))))
theorem sc__law_store : FnScope N__law_store p__law_store (defScope s__law_store) := ⟨rfl, rfl, rfl, by decide +kernel, rfl, by decide +kernel, by decide +kernel⟩
abbrev k__law_store : Nat → Kd := fun i => [.val, .val, .val, .val, .val, .val, .val, .val, .val, .val, .val, .val, .val, .val].getD i .val
abbrev O__law_store (P : Program) (w : World) (K : PySem.W.Frag) (mg : Str → Option Value) (base : Heap) (fd : FuncData) : Prop := FnD P w K mg base 1 (He.ga K "_law_store") fd p__law_store [true, true, true] .val g__law_store
theorem ok__law_store (M : Mo K mg) : ∃ fd, O__law_store P w K mg base fd ∧ PySem.W.keepIn K (.ref (He.ga K "_law_store")) = true ∧ L2.Binds K fd p__law_store [] := by
  obtain ⟨fd, F⟩ := M.f__law_store
  refine ⟨fd, ?_, F.kp, F.bindsN fun _ _ _ _ _ _ us hl => match us, hl with | [_, _, _], _ => rfl⟩
  refine fnD_of (kd := k__law_store) F sc__law_store rfl (by decide) (by decide) (by decide) fun cdv A outer s H E hr => ?_
  have hu := hu40 hr
  exact (dss_cons (ds_set (ps_set (i := 3) sc__law_store.nd rfl (Or.inl rfl) de_int) rfl)
  (dss_cons (ds_for (js := [4, 5, 6, 7, 8, 9, 10, 11, 12, 13]) PassesOwn.never rfl (di_rng1 rfl M.n_range (de_any (de_op op_add o2_add (de_any (de_v (pv 2) rfl)) (de_any de_int)))) (dg_name (pg_name (i := 4) sc__law_store.nd rfl (Or.inl rfl)) rfl) (dss_cons (ds_for (js := [5, 6, 7]) PassesOwn.never rfl (di_seq (de_sta (de_ix (de_any (de_v (pv 0) rfl)) (de_any de_int) (by intro _ _; rfl)))) (dg_tup rfl (dgs_cons (pg_name (i := 5) sc__law_store.nd rfl (Or.inl rfl)) rfl (dgs_cons (pg_name (i := 6) sc__law_store.nd rfl (Or.inl rfl)) rfl (dgs_cons (pg_name (i := 7) sc__law_store.nd rfl (Or.inl rfl)) rfl dgs_nil)))) (dss_one (ds_if (dt_chain op_le op_lt o2_le o2_lt (de_any (de_v (pv 5) rfl)) (de_any (de_op op_sub o2_sub (de_any (de_v (pv 4) rfl)) (de_any de_int))) (de_any (de_v (pv 6) rfl))) (dss_one (ds_set (ps_set (i := 3) sc__law_store.nd rfl (Or.inl rfl) (de_cb (call_max2 rfl) ol_max2 rfl M.n_max boot_max (da_any (de_any de_int) (da_any (de_any (de_op op_sub o2_sub (de_any (de_v (pv 3) rfl)) (de_any (de_v (pv 7) rfl)))) da_nil)))) rfl)) dss_nil)))
  (dss_one (ds_for (js := [8, 9, 10, 11, 12, 13]) PassesOwn.never rfl (di_seq (de_sta (de_v (pv 1) rfl))) (dg_name (pg_name (i := 8) sc__law_store.nd rfl (Or.inl rfl)) rfl) (dss_cons (ds_tup (ps_asg (de_ix (de_any (de_ix (de_any (de_v (pv 0) rfl)) (de_any de_int) (by intro _ _; rfl))) (de_any (de_v (pv 8) rfl)) (by intro _ _; rfl)) (dg_tup rfl (dgs_cons (pg_name (i := 9) sc__law_store.nd rfl (Or.inl rfl)) rfl (dgs_cons (pg_name (i := 10) sc__law_store.nd rfl (Or.inl rfl)) rfl (dgs_cons (pg_name (i := 11) sc__law_store.nd rfl (Or.inl rfl)) rfl (dgs_cons (pg_name (i := 12) sc__law_store.nd rfl (Or.inl rfl)) rfl (dgs_cons (pg_name (i := 13) sc__law_store.nd rfl (Or.inl rfl)) rfl dgs_nil))))))))
  (dss_one (ds_if (dt_cmp (op_eqD hr.units) o2_eq (de_any (de_op op_add o2_add (de_any (de_v (pv 10) rfl)) (de_any (de_v (pv 11) rfl)))) (de_any (de_v (pv 4) rfl)) (nomark _)) (dss_one (ds_set (ps_set (i := 3) sc__law_store.nd rfl (Or.inl rfl) (de_op op_add o2_add (de_any (de_v (pv 3) rfl)) (de_any (de_v (pv 13) rfl)))) rfl)) dss_nil)))))))
  (dss_one (ds_ret (de_v (pv 3) rfl)))))
theorem sc__law_wrong : FnScope N__law_wrong p__law_wrong (defScope s__law_wrong) := ⟨rfl, rfl, rfl, by decide +kernel, rfl, by decide +kernel, by decide +kernel⟩
abbrev k__law_wrong : Nat → Kd := fun i => [.val, .val, .val, .val, .val, .val].getD i .val
abbrev O__law_wrong (P : Program) (w : World) (K : PySem.W.Frag) (mg : Str → Option Value) (base : Heap) (fd : FuncData) : Prop := FnD P w K mg base 2 (He.ga K "_law_wrong") fd p__law_wrong [true, true] .val g__law_wrong
theorem ok__law_wrong (M : Mo K mg) : ∃ fd, O__law_wrong P w K mg base fd ∧ PySem.W.keepIn K (.ref (He.ga K "_law_wrong")) = true ∧ L2.Binds K fd p__law_wrong [] := by
  obtain ⟨fd__law_turn, F__law_turn, K__law_turn, B__law_turn⟩ := ok__law_turn (P := P) (w := w) (base := base) M
  obtain ⟨fd__law_store, F__law_store, K__law_store, B__law_store⟩ := ok__law_store (P := P) (w := w) (base := base) M
  obtain ⟨fd, F⟩ := M.f__law_wrong
  refine ⟨fd, ?_, F.kp, F.bindsN fun _ _ _ _ _ _ us hl => match us, hl with | [_, _], _ => rfl⟩
  refine fnD_of (kd := k__law_wrong) F sc__law_wrong rfl (by decide) (by decide) (by decide) fun cdv A outer s H E hr => ?_
  have hu := hu40 hr
  exact (dss_cons (ds_for (js := [2, 3, 4]) PassesOwn.never rfl (di_rng1 rfl M.n_range (de_any (de_cb call_len_seq ol_len rfl M.n_len boot_len (da_any (de_any (de_v (pv 1) rfl)) da_nil)))) (dg_name (pg_name (i := 2) sc__law_wrong.nd rfl (Or.inl rfl)) rfl) (dss_cons (ds_set (ps_set (i := 3) sc__law_wrong.nd rfl (Or.inl rfl) (de_ix (de_any (de_ix (de_any (de_v (pv 0) rfl)) (de_any de_int) (by intro _ _; rfl))) (de_any (de_ix (de_any (de_v (pv 1) rfl)) (de_any (de_v (pv 2) rfl)) (by intro _ _; rfl))) (by intro _ _; rfl))) rfl)
  (dss_cons (ds_if (dt_w (dw_and (dt_cmp op_gt o2_gt (de_any (de_v (pv 2) rfl)) (de_any de_int) (nomark _)) (dw_and1 (dt_cmp op_le o2_le (de_any (de_ix (de_any (de_v (pv 1) rfl)) (de_any (de_v (pv 2) rfl)) (by intro _ _; rfl))) (de_any (de_ix (de_any (de_v (pv 1) rfl)) (de_any (de_op op_sub o2_sub (de_any (de_v (pv 2) rfl)) (de_any de_int))) (by intro _ _; rfl))) (nomark _))))) (dss_one (ds_ret (de_tup (da_val de_str (da_val (de_v (pv 2) rfl) da_nil))))) dss_nil)
  (dss_cons (ds_if (dt_cmp op_in_seq o2_in (de_any (de_ix (de_any (de_v (pv 3) rfl)) (de_any de_int) (by intro _ _; rfl))) (de_any (de_comp (own := [("_law_name", 5)]) rfl sc__law_wrong.nd (di_c (di_seq (de_sta (de_frz (de_slice (de_any (de_v (pv 1) rfl)) do_no (do_some (de_any (de_v (pv 2) rfl)))))))) (blkOk_by (own := [("_law_name", 5)]) (N := N__law_wrong) (sc := defScope s__law_wrong) (by decide +kernel)) (fun _ _ _ _ _ => (dg_name (pg_name (i := 5) sc__law_wrong.nd rfl (Or.inl rfl)) rfl)) (fun _ _ _ _ _ => dts_nil) (fun _ _ _ _ _ => (de_ix (de_any (de_ix (de_any (de_ix (de_any (de_v (pv 0) rfl)) (de_any de_int) (by intro _ _; rfl))) (de_any (de_v (pv 5) rfl)) (by intro _ _; rfl))) (de_any de_int) (by intro _ _; rfl))))) (by rfl)) (dss_one (ds_ret (de_tup (da_val de_str (da_val (de_v (pv 2) rfl) da_nil))))) dss_nil)
  (dss_cons (ds_if (dt_cmp op_gt o2_gt (de_any (de_v (pv 2) rfl)) (de_any de_int) (nomark _)) (dss_cons (ds_set (ps_set (i := 4) sc__law_wrong.nd rfl (Or.inl rfl) (de_ix (de_any (de_ix (de_any (de_v (pv 0) rfl)) (de_any de_int) (by intro _ _; rfl))) (de_any (de_ix (de_any (de_v (pv 1) rfl)) (de_any (de_op op_sub o2_sub (de_any (de_v (pv 2) rfl)) (de_any de_int))) (by intro _ _; rfl))) (by intro _ _; rfl))) rfl)
  (dss_one (ds_if (dt_cmp op_lt o2_lt (de_any (de_ix (de_any (de_v (pv 3) rfl)) (de_any de_int) (by intro _ _; rfl))) (de_any (de_op op_add o2_add (de_any (de_op op_add o2_add (de_any (de_ix (de_any (de_v (pv 4) rfl)) (de_any de_int) (by intro _ _; rfl))) (de_any (de_ix (de_any (de_v (pv 4) rfl)) (de_any de_int) (by intro _ _; rfl))))) (de_any (de_call F__law_turn hr rfl M.m__law_turn K__law_turn B__law_turn (da_val (de_v (pv 0) rfl) (da_val (de_ix (de_any (de_v (pv 1) rfl)) (de_any (de_op op_sub o2_sub (de_any (de_v (pv 2) rfl)) (de_any de_int))) (by intro _ _; rfl)) (da_val (de_ix (de_any (de_v (pv 1) rfl)) (de_any (de_v (pv 2) rfl)) (by intro _ _; rfl)) da_nil))))))) (nomark _)) (dss_one (ds_ret (de_tup (da_val de_str (da_val (de_v (pv 2) rfl) da_nil))))) dss_nil))) dss_nil)
  (dss_one (ds_if (dt_cmp op_gt o2_gt (de_any (de_op op_add o2_add (de_any (de_call F__law_store hr rfl M.m__law_store K__law_store B__law_store (da_val (de_v (pv 0) rfl) (da_val (de_frz (de_slice (de_any (de_v (pv 1) rfl)) do_no (do_some (de_any (de_v (pv 2) rfl))))) (da_val (de_ix (de_any (de_v (pv 3) rfl)) (de_any de_int) (by intro _ _; rfl)) da_nil))))) (de_any (de_ix (de_any (de_v (pv 3) rfl)) (de_any de_int) (by intro _ _; rfl))))) (de_any (de_ix (de_any (de_v (pv 0) rfl)) (de_any de_int) (by intro _ _; rfl))) (nomark _)) (dss_one (ds_ret (de_tup (da_val de_str (da_val (de_v (pv 2) rfl) da_nil))))) dss_nil)))))))
  (dss_one (ds_ret de_none)))
theorem sc__law_worth : FnScope N__law_worth p__law_worth (defScope s__law_worth) := ⟨rfl, rfl, rfl, by decide +kernel, rfl, by decide +kernel, by decide +kernel⟩
abbrev k__law_worth : Nat → Kd := fun i => [.val, .val, .val, .val, .val].getD i .val
abbrev O__law_worth (P : Program) (w : World) (K : PySem.W.Frag) (mg : Str → Option Value) (base : Heap) (fd : FuncData) : Prop := FnD P w K mg base 1 (He.ga K "_law_worth") fd p__law_worth [true, true] .val g__law_worth
theorem ok__law_worth (M : Mo K mg) : ∃ fd, O__law_worth P w K mg base fd ∧ PySem.W.keepIn K (.ref (He.ga K "_law_worth")) = true ∧ L2.Binds K fd p__law_worth [] := by
  obtain ⟨fd, F⟩ := M.f__law_worth
  refine ⟨fd, ?_, F.kp, F.bindsN fun _ _ _ _ _ _ us hl => match us, hl with | [_, _], _ => rfl⟩
  refine fnD_of (kd := k__law_worth) F sc__law_worth rfl (by decide) (by decide) (by decide) fun cdv A outer s H E hr => ?_
  have hu := hu40 hr
  exact (dss_cons (ds_set (ps_set (i := 2) sc__law_worth.nd rfl (Or.inr rfl) (de_frz (de_comp (own := [("_law_name", 3)]) rfl sc__law_worth.nd (di_c (di_seq (de_sta (de_v (pv 1) rfl)))) (blkOk_by (own := [("_law_name", 3)]) (N := N__law_worth) (sc := defScope s__law_worth) (by decide +kernel)) (fun _ _ _ _ _ => (dg_name (pg_name (i := 3) sc__law_worth.nd rfl (Or.inl rfl)) rfl)) (fun _ _ _ _ _ => dts_nil) (fun _ _ _ _ _ => (de_ix (de_any (de_ix (de_any (de_ix (de_any (de_v (pv 0) rfl)) (de_any de_int) (by intro _ _; rfl))) (de_any (de_v (pv 3) rfl)) (by intro _ _; rfl))) (de_any de_int) (by intro _ _; rfl)))))) rfl)
  (dss_one (ds_ret (de_cb (cr_sum rfl) ol_sum rfl M.n_sum boot_sum (da_any (de_any (de_comp (own := [("_law_wish", 4)]) rfl sc__law_worth.nd (di_c (di_rng1 rfl M.n_range (de_any (de_cb call_len_seq ol_len rfl M.n_len boot_len (da_any (de_any (de_ix (de_any (de_v (pv 0) rfl)) (de_any de_int) (by intro _ _; rfl))) da_nil))))) (blkOk_by (own := [("_law_wish", 4)]) (N := N__law_worth) (sc := defScope s__law_worth) (by decide +kernel)) (fun _ _ _ _ _ => (dg_name (pg_name (i := 4) sc__law_worth.nd rfl (Or.inl rfl)) rfl)) (fun _ _ _ _ _ => dts_one (dt_cmp op_in_seq o2_in (de_any (de_v (pv 4) rfl)) (de_any (de_v (pv 2) rfl)) (by rfl))) (fun _ _ _ _ _ => (de_ix (de_any (de_ix (de_any (de_v (pv 0) rfl)) (de_any de_int) (by intro _ _; rfl))) (de_any (de_v (pv 4) rfl)) (by intro _ _; rfl))))) da_nil)))))
theorem sc__law_more_ears : FnScope N__law_more_ears p__law_more_ears (defScope s__law_more_ears) := ⟨rfl, rfl, rfl, by decide +kernel, rfl, by decide +kernel, by decide +kernel⟩
abbrev k__law_more_ears : Nat → Kd := fun i => [.val, .val, .val, .val].getD i .val
abbrev O__law_more_ears (P : Program) (w : World) (K : PySem.W.Frag) (mg : Str → Option Value) (base : Heap) (fd : FuncData) : Prop := FnD P w K mg base 1 (He.ga K "_law_more_ears") fd p__law_more_ears [true, true] .val g__law_more_ears
theorem ok__law_more_ears (M : Mo K mg) : ∃ fd, O__law_more_ears P w K mg base fd ∧ PySem.W.keepIn K (.ref (He.ga K "_law_more_ears")) = true ∧ L2.Binds K fd p__law_more_ears [] := by
  obtain ⟨fd, F⟩ := M.f__law_more_ears
  refine ⟨fd, ?_, F.kp, F.bindsN fun _ _ _ _ _ _ us hl => match us, hl with | [_, _], _ => rfl⟩
  refine fnD_of (kd := k__law_more_ears) F sc__law_more_ears rfl (by decide) (by decide) (by decide) fun cdv A outer s H E hr => ?_
  have hu := hu40 hr
  exact (dss_cons (ds_if (dt_cmp (op_eqD hr.units) o2_eq (de_any (de_op op_mod o2_mod (de_any (de_ct call_int1 ol_int rfl M.n_int boot_int (da_any (de_any (de_ix (de_any (de_v (pv 1) rfl)) (de_any de_int) (by intro _ _; rfl))) da_nil))) (de_any de_int))) (de_any de_int) (nomark _)) (dss_one (ds_ret (de_v (pv 0) rfl))) dss_nil)
  (dss_cons (ds_set (ps_set (i := 2) sc__law_more_ears.nd rfl (Or.inl rfl) (de_op op_add o2_add (de_any (de_cb (cr_max rfl) ol_max rfl M.n_max boot_max (da_any (de_any (de_catL (de_frz (de_lst (da_val de_int da_nil))) (de_frz (de_comp (own := [("_law_ear", 3)]) rfl sc__law_more_ears.nd (di_c (di_seq (de_sta (de_ix (de_any (de_v (pv 0) rfl)) (de_any de_int) (by intro _ _; rfl))))) (blkOk_by (own := [("_law_ear", 3)]) (N := N__law_more_ears) (sc := defScope s__law_more_ears) (by decide +kernel)) (fun _ _ _ _ _ => (dg_name (pg_name (i := 3) sc__law_more_ears.nd rfl (Or.inl rfl)) rfl)) (fun _ _ _ _ _ => dts_nil) (fun _ _ _ _ _ => (de_ix (de_any (de_v (pv 3) rfl)) (de_any de_int) (by intro _ _; rfl))))))) da_nil))) (de_any (de_op op_mod o2_mod (de_any (de_ct call_int1 ol_int rfl M.n_int boot_int (da_any (de_any (de_ix (de_any (de_v (pv 1) rfl)) (de_any de_int) (by intro _ _; rfl))) da_nil))) (de_any de_int))))) rfl)
  (dss_one (ds_ret (de_tup (da_val (de_ix (de_any (de_v (pv 0) rfl)) (de_any de_int) (by intro _ _; rfl)) (da_val (de_ix (de_any (de_v (pv 0) rfl)) (de_any de_int) (by intro _ _; rfl)) (da_val (de_frz (de_catL (de_ix (de_any (de_v (pv 0) rfl)) (de_any de_int) (by intro _ _; rfl)) (de_frz (de_lst (da_val (de_tup (da_val (de_v (pv 2) rfl) (da_val (de_op op_add o2_add (de_any (de_op op_add o2_add (de_any (de_v (pv 2) rfl)) (de_any de_int))) (de_any (de_op op_mod o2_mod (de_any (de_ct call_int1 ol_int rfl M.n_int boot_int (da_any (de_any (de_ix (de_any (de_v (pv 1) rfl)) (de_any de_int) (by intro _ _; rfl))) da_nil))) (de_any de_int)))) (da_val (de_op op_add o2_add (de_any de_int) (de_any (de_op op_mod o2_mod (de_any (de_ct call_int1 ol_int rfl M.n_int boot_int (da_any (de_any (de_ix (de_any (de_v (pv 1) rfl)) (de_any de_int) (by intro _ _; rfl))) da_nil))) (de_any de_int)))) da_nil)))) da_nil))))) (da_val (de_ix (de_any (de_v (pv 0) rfl)) (de_any de_int) (by intro _ _; rfl)) (da_val (de_ix (de_any (de_v (pv 0) rfl)) (de_any de_int) (by intro _ _; rfl)) da_nil))))))))))
theorem sc__law_gcd : FnScope N__law_gcd p__law_gcd (defScope s__law_gcd) := ⟨rfl, rfl, rfl, by decide +kernel, rfl, by decide +kernel, by decide +kernel⟩
abbrev k__law_gcd : Nat → Kd := fun i => [.val, .val, .val].getD i .val
abbrev O__law_gcd (P : Program) (w : World) (K : PySem.W.Frag) (mg : Str → Option Value) (base : Heap) (fd : FuncData) : Prop := FnD P w K mg base 1 (He.ga K "_law_gcd") fd p__law_gcd [true, true] .val g__law_gcd
theorem ok__law_gcd (M : Mo K mg) : ∃ fd, O__law_gcd P w K mg base fd ∧ PySem.W.keepIn K (.ref (He.ga K "_law_gcd")) = true ∧ L2.Binds K fd p__law_gcd [] := by
  obtain ⟨fd, F⟩ := M.f__law_gcd
  refine ⟨fd, ?_, F.kp, F.bindsN fun _ _ _ _ _ _ us hl => match us, hl with | [_, _], _ => rfl⟩
  refine fnD_of (kd := k__law_gcd) F sc__law_gcd rfl (by decide) (by decide) (by decide) fun cdv A outer s H E hr => ?_
  have hu := hu40 hr
  exact (dss_cons (ds_for (js := [2]) PassesOwn.never rfl (di_rng1 rfl M.n_range (de_any de_int)) (dg_name (pg_name (i := 2) sc__law_gcd.nd rfl (Or.inl rfl)) rfl) (dss_cons (ds_if (dt_cmp (op_eqD hr.units) o2_eq (de_any (de_v (pv 1) rfl)) (de_any de_int) (nomark _)) (dss_one ds_break) dss_nil)
  (dss_one (ds_par (ps_par (i := 0) (j := 1) (by rfl) sc__law_gcd.nd rfl rfl (by decide) rfl rfl (pa_cons (de_v (pv 1) rfl) (pa_cons (de_op op_mod o2_mod (de_any (de_ct call_int1 ol_int rfl M.n_int boot_int (da_any (de_any (de_v (pv 0) rfl)) da_nil))) (de_any (de_v (pv 1) rfl))) pa_nil)) (by rfl)) (.inl ⟨rfl, rfl⟩) rfl))))
  (dss_one (ds_ret (de_v (pv 0) rfl))))
theorem sc__law_number : FnScope N__law_number p__law_number (defScope s__law_number) := ⟨rfl, rfl, rfl, by decide +kernel, rfl, by decide +kernel, by decide +kernel⟩
abbrev k__law_number : Nat → Kd := fun i => [.val, .val, .val].getD i .val
abbrev O__law_number (P : Program) (w : World) (K : PySem.W.Frag) (mg : Str → Option Value) (base : Heap) (fd : FuncData) : Prop := FnD P w K mg base 2 (He.ga K "_law_number") fd p__law_number [true, true] .val g__law_number
theorem ok__law_number (M : Mo K mg) : ∃ fd, O__law_number P w K mg base fd ∧ PySem.W.keepIn K (.ref (He.ga K "_law_number")) = true ∧ L2.Binds K fd p__law_number [] := by
  obtain ⟨fd__law_gcd, F__law_gcd, K__law_gcd, B__law_gcd⟩ := ok__law_gcd (P := P) (w := w) (base := base) M
  obtain ⟨fd, F⟩ := M.f__law_number
  refine ⟨fd, ?_, F.kp, F.bindsN fun _ _ _ _ _ _ us hl => match us, hl with | [_, _], _ => rfl⟩
  refine fnD_of (kd := k__law_number) F sc__law_number rfl (by decide) (by decide) (by decide) fun cdv A outer s H E hr => ?_
  have hu := hu40 hr
  exact (dss_cons (ds_set (ps_set (i := 2) sc__law_number.nd rfl (Or.inl rfl) (de_call F__law_gcd hr rfl M.m__law_gcd K__law_gcd B__law_gcd (da_val (de_v (pv 0) rfl) (da_val (de_v (pv 1) rfl) da_nil)))) rfl)
  (dss_one (ds_ret (de_tup (da_val (de_op op_fdivW o2_div (de_any (de_v (pv 0) rfl)) (de_any (de_v (pv 2) rfl))) (da_val (de_op op_fdivW o2_div (de_any (de_v (pv 1) rfl)) (de_any (de_v (pv 2) rfl))) da_nil))))))
theorem sc__law_less : FnScope N__law_less p__law_less (defScope s__law_less) := ⟨rfl, rfl, rfl, by decide +kernel, rfl, by decide +kernel, by decide +kernel⟩
abbrev k__law_less : Nat → Kd := fun i => [.val, .val].getD i .val
abbrev O__law_less (P : Program) (w : World) (K : PySem.W.Frag) (mg : Str → Option Value) (base : Heap) (fd : FuncData) : Prop := FnD P w K mg base 1 (He.ga K "_law_less") fd p__law_less [true, true] .val g__law_less
theorem ok__law_less (M : Mo K mg) : ∃ fd, O__law_less P w K mg base fd ∧ PySem.W.keepIn K (.ref (He.ga K "_law_less")) = true ∧ L2.Binds K fd p__law_less [] := by
  obtain ⟨fd, F⟩ := M.f__law_less
  refine ⟨fd, ?_, F.kp, F.bindsN fun _ _ _ _ _ _ us hl => match us, hl with | [_, _], _ => rfl⟩
  refine fnD_of (kd := k__law_less) F sc__law_less rfl (by decide) (by decide) (by decide) fun cdv A outer s H E hr => ?_
  have hu := hu40 hr
  exact (dss_one (ds_ret (de_cmp op_lt o2_lt (de_any (de_op op_mul o2_mul (de_any (de_ix (de_any (de_v (pv 0) rfl)) (de_any de_int) (by intro _ _; rfl))) (de_any (de_ix (de_any (de_v (pv 1) rfl)) (de_any de_int) (by intro _ _; rfl))))) (de_any (de_op op_mul o2_mul (de_any (de_ix (de_any (de_v (pv 1) rfl)) (de_any de_int) (by intro _ _; rfl))) (de_any (de_ix (de_any (de_v (pv 0) rfl)) (de_any de_int) (by intro _ _; rfl))))) (nomark _))))
theorem sc__law_chances : FnScope N__law_chances p__law_chances (defScope s__law_chances) := ⟨rfl, rfl, rfl, by decide +kernel, rfl, by decide +kernel, by decide +kernel⟩
abbrev k__law_chances : Nat → Kd := fun i => [.val, .val, .ownL, .val, .val].getD i .val
abbrev O__law_chances (P : Program) (w : World) (K : PySem.W.Frag) (mg : Str → Option Value) (base : Heap) (fd : FuncData) : Prop := FnD P w K mg base 3 (He.ga K "_law_chances") fd p__law_chances [true, true] .fre g__law_chances
theorem ok__law_chances (M : Mo K mg) : ∃ fd, O__law_chances P w K mg base fd ∧ PySem.W.keepIn K (.ref (He.ga K "_law_chances")) = true ∧ L2.Binds K fd p__law_chances [] := by
  obtain ⟨fd__law_number, F__law_number, K__law_number, B__law_number⟩ := ok__law_number (P := P) (w := w) (base := base) M
  obtain ⟨fd, F⟩ := M.f__law_chances
  refine ⟨fd, ?_, F.kp, F.bindsN fun _ _ _ _ _ _ us hl => match us, hl with | [_, _], _ => rfl⟩
  refine fnD_of (kd := k__law_chances) F sc__law_chances rfl (by decide) (by decide) (by decide) fun cdv A outer s H E hr => ?_
  have hu := hu40 hr
  exact (dss_cons (ds_setL (ps_set (i := 2) sc__law_chances.nd rfl (Or.inl rfl) (de_lst da_nil)) rfl)
  (dss_cons (ds_for (js := [3, 4]) PassesOwn.never rfl (di_rng1 rfl M.n_range (de_any (de_cb call_len_seq ol_len rfl M.n_len boot_len (da_any (de_any (de_ix (de_any (de_v (pv 0) rfl)) (de_any de_int) (by intro _ _; rfl))) da_nil)))) (dg_name (pg_name (i := 3) sc__law_chances.nd rfl (Or.inl rfl)) rfl) (dss_cons (ds_set (ps_set (i := 4) sc__law_chances.nd rfl (Or.inl rfl) (de_op op_add o2_add (de_any de_int) (de_any (de_op op_mod o2_mod (de_any (de_ct call_int1 ol_int rfl M.n_int boot_int (da_any (de_any (de_ix (de_any (de_v (pv 1) rfl)) (de_any (de_op op_mul o2_mul (de_any de_int) (de_any (de_v (pv 3) rfl)))) (by intro _ _; rfl))) da_nil))) (de_any (de_ix (de_any (de_lst (da_val de_int (da_val de_int (da_val de_int (da_val de_int da_nil)))))) (de_any (de_op op_mod o2_mod (de_any (de_ct call_int1 ol_int rfl M.n_int boot_int (da_any (de_any (de_op op_fdivW o2_div (de_any (de_ix (de_any (de_v (pv 1) rfl)) (de_any (de_op op_mul o2_mul (de_any de_int) (de_any (de_v (pv 3) rfl)))) (by intro _ _; rfl))) (de_any de_int))) da_nil))) (de_any de_int))) (by intro _ _; rfl))))))) rfl)
  (dss_one (ds_app rfl (ps_expr (pe_bm PySem.F.plainAttrs_list PySem.F.slot_list_append PySem.F.type_list_append mt_append (pv 2) (pa_cons (de_call F__law_number hr rfl M.m__law_number K__law_number B__law_number (da_val (de_op op_mod o2_mod (de_any (de_ct call_int1 ol_int rfl M.n_int boot_int (da_any (de_any (de_ix (de_any (de_v (pv 1) rfl)) (de_any (de_op op_add o2_add (de_any (de_op op_mul o2_mul (de_any de_int) (de_any (de_v (pv 3) rfl)))) (de_any de_int))) (by intro _ _; rfl))) da_nil))) (de_any (de_op op_add o2_add (de_any (de_v (pv 4) rfl)) (de_any de_int)))) (da_val (de_v (pv 4) rfl) da_nil))) pa_nil)))))))
  (dss_one (ds_retL (pv 2) rfl))))
theorem sc__law_grown : FnScope N__law_grown p__law_grown (defScope s__law_grown) := ⟨rfl, rfl, rfl, by decide +kernel, rfl, by decide +kernel, by decide +kernel⟩
abbrev k__law_grown : Nat → Kd := fun i => [.val, .ownL, .val, .val, .val].getD i .val
abbrev O__law_grown (P : Program) (w : World) (K : PySem.W.Frag) (mg : Str → Option Value) (base : Heap) (fd : FuncData) : Prop := FnD P w K mg base 3 (He.ga K "_law_grown") fd p__law_grown [true] .fre g__law_grown
theorem ok__law_grown (M : Mo K mg) : ∃ fd, O__law_grown P w K mg base fd ∧ PySem.W.keepIn K (.ref (He.ga K "_law_grown")) = true ∧ L2.Binds K fd p__law_grown [] := by
  obtain ⟨fd__law_wrong, F__law_wrong, K__law_wrong, B__law_wrong⟩ := ok__law_wrong (P := P) (w := w) (base := base) M
  obtain ⟨fd, F⟩ := M.f__law_grown
  refine ⟨fd, ?_, F.kp, F.bindsN fun _ _ _ _ _ _ us hl => match us, hl with | [_], _ => rfl⟩
  refine fnD_of (kd := k__law_grown) F sc__law_grown rfl (by decide) (by decide) (by decide) fun cdv A outer s H E hr => ?_
  have hu := hu40 hr
  exact (dss_cons (ds_setL (ps_set (i := 1) sc__law_grown.nd rfl (Or.inl rfl) (de_lst (da_val (de_frz (de_lst da_nil)) da_nil))) rfl)
  (dss_cons (ds_set (ps_set (i := 2) sc__law_grown.nd rfl (Or.inl rfl) de_int) rfl)
  (dss_cons (ds_while (js := [3, 4]) PassesOwn.never (dt_cmp op_lt o2_lt (de_any (de_v (pv 2) rfl)) (de_any (de_cb call_len_seq ol_len rfl M.n_len boot_len (da_any (de_o (pv 1) rfl) da_nil))) (nomark _)) (dss_cons (ds_set (ps_set (i := 3) sc__law_grown.nd rfl (Or.inl rfl) (de_ix (de_o (pv 1) rfl) (de_any (de_v (pv 2) rfl)) (by intro _ _; rfl))) rfl)
  (dss_cons (ds_for (js := [4]) PassesOwn.never rfl (di_rng1 rfl M.n_range (de_any (de_cb call_len_seq ol_len rfl M.n_len boot_len (da_any (de_any (de_ix (de_any (de_v (pv 0) rfl)) (de_any de_int) (by intro _ _; rfl))) da_nil)))) (dg_name (pg_name (i := 4) sc__law_grown.nd rfl (Or.inl rfl)) rfl) (dss_one (ds_if (dt_w (dw_and (dt_cmp op_notIn_seq o2_notIn (de_any (de_v (pv 4) rfl)) (de_any (de_v (pv 3) rfl)) (by rfl)) (dw_and1 (dt_isN (de_any (de_call F__law_wrong hr rfl M.m__law_wrong K__law_wrong B__law_wrong (da_val (de_v (pv 0) rfl) (da_val (de_frz (de_catL (de_v (pv 3) rfl) (de_frz (de_lst (da_val (de_v (pv 4) rfl) da_nil))))) da_nil)))))))) (dss_one (ds_app rfl (ps_expr (pe_bm PySem.F.plainAttrs_list PySem.F.slot_list_append PySem.F.type_list_append mt_append (pv 1) (pa_cons (de_frz (de_catL (de_v (pv 3) rfl) (de_frz (de_lst (da_val (de_v (pv 4) rfl) da_nil))))) pa_nil))))) dss_nil)))
  (dss_one (ds_set (ps_set (i := 2) sc__law_grown.nd rfl (Or.inl rfl) (de_op op_add o2_add (de_any (de_v (pv 2) rfl)) (de_any de_int))) rfl)))))
  (dss_one (ds_ret (de_cb (cr_sorted rfl hu) ol_sorted rfl M.n_sorted boot_sorted (da_any (de_o (pv 1) rfl) da_nil)))))))
theorem sc__law_best_worth : FnScope N__law_best_worth p__law_best_worth (defScope s__law_best_worth) := ⟨rfl, rfl, rfl, by decide +kernel, rfl, by decide +kernel, by decide +kernel⟩
abbrev k__law_best_worth : Nat → Kd := fun i => [.val, .val].getD i .val
abbrev O__law_best_worth (P : Program) (w : World) (K : PySem.W.Frag) (mg : Str → Option Value) (base : Heap) (fd : FuncData) : Prop := FnD P w K mg base 4 (He.ga K "_law_best_worth") fd p__law_best_worth [true] .val g__law_best_worth
theorem ok__law_best_worth (M : Mo K mg) : ∃ fd, O__law_best_worth P w K mg base fd ∧ PySem.W.keepIn K (.ref (He.ga K "_law_best_worth")) = true ∧ L2.Binds K fd p__law_best_worth [] := by
  obtain ⟨fd__law_grown, F__law_grown, K__law_grown, B__law_grown⟩ := ok__law_grown (P := P) (w := w) (base := base) M
  obtain ⟨fd__law_worth, F__law_worth, K__law_worth, B__law_worth⟩ := ok__law_worth (P := P) (w := w) (base := base) M
  obtain ⟨fd, F⟩ := M.f__law_best_worth
  refine ⟨fd, ?_, F.kp, F.bindsN fun _ _ _ _ _ _ us hl => match us, hl with | [_], _ => rfl⟩
  refine fnD_of (kd := k__law_best_worth) F sc__law_best_worth rfl (by decide) (by decide) (by decide) fun cdv A outer s H E hr => ?_
  have hu := hu40 hr
  exact (dss_one (ds_ret (de_cb (cr_max rfl) ol_max rfl M.n_max boot_max (da_any (de_any (de_comp (own := [("_law_names", 1)]) rfl sc__law_best_worth.nd (di_c (di_seq (de_sta (de_frz (de_call F__law_grown hr rfl M.m__law_grown K__law_grown B__law_grown (da_val (de_v (pv 0) rfl) da_nil)))))) (blkOk_by (own := [("_law_names", 1)]) (N := N__law_best_worth) (sc := defScope s__law_best_worth) (by decide +kernel)) (fun _ _ _ _ _ => (dg_name (pg_name (i := 1) sc__law_best_worth.nd rfl (Or.inl rfl)) rfl)) (fun _ _ _ _ _ => dts_nil) (fun _ _ _ _ _ => (de_call F__law_worth (hr.mono (by decide)) rfl M.m__law_worth K__law_worth B__law_worth (da_val (de_v (pv 0) rfl) (da_val (de_v (pv 1) rfl) da_nil)))))) da_nil))))
theorem sc_law : FnScope N_law p_law (defScope s_law) := ⟨rfl, rfl, rfl, by decide +kernel, rfl, by decide +kernel, by decide +kernel⟩
abbrev k_law : Nat → Kd := fun i => [.bor, .val, .val, .val, .val, .val, .val, .val, .val, .val, .val, .val, .val, .val, .val, .val, .val, .val].getD i .val
abbrev O_law (P : Program) (w : World) (K : PySem.W.Frag) (mg : Str → Option Value) (base : Heap) (fd : FuncData) : Prop := FnD P w K mg base 10 (He.ga K "law") fd p_law [false] .val g_law
theorem ok_law (M : Mo K mg) {fd : FuncData} (F : FunD K "law" "law" (defArgs s_law) (defBody s_law) (defScope s_law) [] [] (He.ga K "law") fd) : O_law P w K mg base fd := by
  obtain ⟨fd__law_draws, F__law_draws, K__law_draws, B__law_draws⟩ := ok__law_draws (P := P) (w := w) (base := base) M
  obtain ⟨fd__law_more_ears, F__law_more_ears, K__law_more_ears, B__law_more_ears⟩ := ok__law_more_ears (P := P) (w := w) (base := base) M
  obtain ⟨fd__law_sky, F__law_sky, K__law_sky, B__law_sky⟩ := ok__law_sky (P := P) (w := w) (base := base) M
  obtain ⟨fd__law_chances, F__law_chances, K__law_chances, B__law_chances⟩ := ok__law_chances (P := P) (w := w) (base := base) M
  obtain ⟨fd_best_keeping, F_best_keeping, K_best_keeping, ⟨gg_best_keeping, B_best_keeping⟩, ds_best_keeping, V_best_keeping, BD_best_keeping⟩ := ok_best_keeping (P := P) (w := w) (base := base) M
  obtain ⟨fd__law_best_worth, F__law_best_worth, K__law_best_worth, B__law_best_worth⟩ := ok__law_best_worth (P := P) (w := w) (base := base) M
  obtain ⟨fd_sure_worth, F_sure_worth, K_sure_worth, gg_sure_worth, B_sure_worth⟩ := ok_sure_worth (P := P) (w := w) (base := base) M
  obtain ⟨fd_worth_of, F_worth_of, K_worth_of, B_worth_of⟩ := ok_worth_of (P := P) (w := w) (base := base) M
  obtain ⟨fd_mean_worth, F_mean_worth, K_mean_worth, B_mean_worth⟩ := ok_mean_worth (P := P) (w := w) (base := base) M
  obtain ⟨fd__law_less, F__law_less, K__law_less, B__law_less⟩ := ok__law_less (P := P) (w := w) (base := base) M
  obtain ⟨fd_taken_by, F_taken_by, K_taken_by, B_taken_by⟩ := ok_taken_by (P := P) (w := w) (base := base) M
  obtain ⟨fd_sure_rule, F_sure_rule, K_sure_rule, gg_sure_rule, B_sure_rule⟩ := ok_sure_rule (P := P) (w := w) (base := base) M
  obtain ⟨fd_without_ears, F_without_ears, K_without_ears, B_without_ears⟩ := ok_without_ears (P := P) (w := w) (base := base) M
  obtain ⟨fd_is_plan, F_is_plan, K_is_plan, B_is_plan⟩ := ok_is_plan (P := P) (w := w) (base := base) M
  obtain ⟨fd_can_keep, F_can_keep, K_can_keep, gg_can_keep, B_can_keep⟩ := ok_can_keep (P := P) (w := w) (base := base) M
  refine fnD_of (kd := k_law) F sc_law rfl (by decide) (by decide) (by decide) fun cdv A outer s H E hr => ?_
  have hu := hu40 hr
  exact (dss_cons (ds_set (ps_set (i := 1) sc_law.nd rfl (Or.inr rfl) (de_frz (de_call F__law_draws (hr.mono (by decide)) rfl M.m__law_draws K__law_draws B__law_draws (da_any (de_any (de_b (pv 0) rfl)) (da_val de_int da_nil))))) rfl)
  (dss_cons (ds_set (ps_set (i := 2) sc_law.nd rfl (Or.inr rfl) (de_call F__law_more_ears (hr.mono (by decide)) rfl M.m__law_more_ears K__law_more_ears B__law_more_ears (da_val (de_call F__law_sky (hr.mono (by decide)) rfl M.m__law_sky K__law_sky B__law_sky (da_val (de_v (pv 1) rfl) (da_val de_int da_nil))) (da_val (de_frz (de_slice (de_any (de_v (pv 1) rfl)) (do_some (de_any de_int)) (do_some (de_any de_int)))) da_nil)))) rfl)
  (dss_cons (ds_set (ps_set (i := 3) sc_law.nd rfl (Or.inl rfl) (de_frz (de_call F__law_chances (hr.mono (by decide)) rfl M.m__law_chances K__law_chances B__law_chances (da_val (de_v (pv 2) rfl) (da_val (de_frz (de_slice (de_any (de_v (pv 1) rfl)) (do_some (de_any de_int)) (do_some (de_any de_int)))) da_nil))))) rfl)
  (dss_cons (ds_set (ps_set (i := 4) sc_law.nd rfl (Or.inl rfl) (de_callD (ms := [true, true]) (ns := [true, true]) F_best_keeping hr rfl M.m_best_keeping K_best_keeping BD_best_keeping V_best_keeping (fun H => .val (.num 0) (.val (M.r_begun H) .nil)) (da_val (de_v (pv 2) rfl) (da_val (de_frz (de_lst da_nil)) da_nil)))) rfl)
  (dss_cons (ds_if (dt_w (dw_or (dt_cmp (op_neD hr.units) o2_ne (de_any (de_ix (de_any (de_v (pv 4) rfl)) (de_any de_int) (by intro _ _; rfl))) (de_any (de_call F__law_best_worth (hr.mono (by decide)) rfl M.m__law_best_worth K__law_best_worth B__law_best_worth (da_val (de_v (pv 2) rfl) da_nil))) (nomark _)) (dw_or (dt_cmp (op_neD hr.units) o2_ne (de_any (de_callK (ms := [true]) (ns := [true]) F_sure_worth (hr.mono (by decide)) rfl M.m_sure_worth K_sure_worth B_sure_worth (da_val (de_v (pv 2) rfl) da_nil) (dk_val de_int dk_nil))) (de_any (de_ix (de_any (de_v (pv 4) rfl)) (de_any de_int) (by intro _ _; rfl))) (nomark _)) (dw_or1 (dt_cmp (op_neD hr.units) o2_ne (de_any (de_call F_worth_of (hr.mono (by decide)) rfl M.m_worth_of K_worth_of B_worth_of (da_val (de_v (pv 2) rfl) (da_val (de_ix (de_any (de_v (pv 4) rfl)) (de_any de_int) (by intro _ _; rfl)) da_nil)))) (de_any (de_ix (de_any (de_v (pv 4) rfl)) (de_any de_int) (by intro _ _; rfl))) (nomark _)))))) (dss_one (ds_ret de_bool)) dss_nil)
  (dss_cons (ds_set (ps_set (i := 5) sc_law.nd rfl (Or.inl rfl) (de_call F_mean_worth (hr.mono (by decide)) rfl M.m_mean_worth K_mean_worth B_mean_worth (da_val (de_v (pv 2) rfl) (da_val (de_v (pv 3) rfl) da_nil)))) rfl)
  (dss_cons (ds_if (dt_cmp (op_neD hr.units) o2_ne (de_any (de_call F_mean_worth (hr.mono (by decide)) rfl M.m_mean_worth K_mean_worth B_mean_worth (da_val (de_v (pv 2) rfl) (da_val (de_frz (de_comp (own := [("_law_ear", 15)]) rfl sc_law.nd (di_c (di_seq (de_sta (de_ix (de_any (de_v (pv 2) rfl)) (de_any de_int) (by intro _ _; rfl))))) (blkOk_by (own := [("_law_ear", 15)]) (N := N_law) (sc := defScope s_law) (by decide +kernel)) (fun _ _ _ _ _ => (dg_name (pg_name (i := 15) sc_law.nd rfl (Or.inl rfl)) rfl)) (fun _ _ _ _ _ => dts_nil) (fun _ _ _ _ _ => (de_tup (da_val de_int (da_val de_int da_nil)))))) da_nil)))) (de_any (de_tup (da_val (de_ix (de_any (de_v (pv 4) rfl)) (de_any de_int) (by intro _ _; rfl)) (da_val de_int da_nil)))) (nomark _)) (dss_one (ds_ret de_bool)) dss_nil)
  (dss_cons (ds_if (dt_w (dw_or (dt_val (de_call F__law_less (hr.mono (by decide)) rfl M.m__law_less K__law_less B__law_less (da_val (de_v (pv 5) rfl) (da_val (de_tup (da_val (de_callK (ms := [true]) (ns := [true]) F_sure_worth (hr.mono (by decide)) rfl M.m_sure_worth K_sure_worth B_sure_worth (da_val (de_v (pv 2) rfl) da_nil) (dk_val de_int dk_nil)) (da_val de_int da_nil))) da_nil)))) (dw_or1 (dt_val (de_call F__law_less (hr.mono (by decide)) rfl M.m__law_less K__law_less B__law_less (da_val (de_tup (da_val (de_ix (de_any (de_v (pv 4) rfl)) (de_any de_int) (by intro _ _; rfl)) (da_val de_int da_nil))) (da_val (de_v (pv 5) rfl) da_nil))))))) (dss_one (ds_ret de_bool)) dss_nil)
  (dss_cons (ds_setF (ps_comp (i := 6) (own := [("_law_k", 16)]) rfl sc_law.nd rfl rfl (sw_true rfl rfl rfl (by decide +kernel)) (di_c (di_rng1 rfl M.n_range (de_any (de_cb call_len_seq ol_len rfl M.n_len boot_len (da_any (de_any (de_ix (de_any (de_v (pv 2) rfl)) (de_any de_int) (by intro _ _; rfl))) da_nil))))) (blkOk_by (own := [("_law_k", 16)]) (N := N_law) (sc := defScope s_law) (by decide +kernel)) (fun _ _ _ _ _ => (dg_name (pg_name (i := 16) sc_law.nd rfl (Or.inl rfl)) rfl)) (fun _ _ _ _ _ => dts_one (dt_cmp (op_eqD hr.units) o2_eq (de_any (de_op op_mod o2_mod (de_any (de_ct call_int1 ol_int rfl M.n_int boot_int (da_any (de_any (de_ix (de_any (de_v (pv 1) rfl)) (de_any (de_op op_add o2_add (de_any de_int) (de_any (de_v (pv 16) rfl)))) (by intro _ _; rfl))) da_nil))) (de_any de_int))) (de_any de_int) (nomark _))) (fun _ _ _ _ _ => (de_v (pv 16) rfl))) rfl)
  (dss_cons (ds_set (ps_set (i := 7) sc_law.nd rfl (Or.inl rfl) (de_cb (call_max2 rfl) ol_max2 rfl M.n_max boot_max (da_any (de_any (de_cb call_len_seq ol_len rfl M.n_len boot_len (da_any (de_any (de_v (pv 6) rfl)) da_nil))) (da_any (de_any (de_op op_mod o2_mod (de_any (de_ct call_int1 ol_int rfl M.n_int boot_int (da_any (de_any (de_ix (de_any (de_v (pv 1) rfl)) (de_any de_int) (by intro _ _; rfl))) da_nil))) (de_any de_int))) da_nil)))) rfl)
  (dss_cons (ds_set (ps_set (i := 8) sc_law.nd rfl (Or.inl rfl) (de_frz (de_call F_taken_by (hr.mono (by decide)) rfl M.m_taken_by K_taken_by B_taken_by (da_val (de_v (pv 2) rfl) (da_val (de_frz (de_callK (ms := [true]) (ns := [true]) F_sure_rule (hr.mono (by decide)) rfl M.m_sure_rule K_sure_rule B_sure_rule (da_val (de_v (pv 2) rfl) da_nil) (dk_val (de_v (pv 7) rfl) dk_nil))) (da_val (de_v (pv 6) rfl) da_nil)))))) rfl)
  (dss_cons (ds_set (ps_set (i := 9) sc_law.nd rfl (Or.inl rfl) (de_call F_without_ears (hr.mono (by decide)) rfl M.m_without_ears K_without_ears B_without_ears (da_val (de_v (pv 2) rfl) (da_val (de_v (pv 6) rfl) da_nil)))) rfl)
  (dss_cons (ds_if (dt_w (dw_or (dt_cmp op_notBl o2_notB (de_any (de_call F_is_plan (hr.mono (by decide)) rfl M.m_is_plan K_is_plan B_is_plan (da_val (de_v (pv 9) rfl) (da_val (de_v (pv 8) rfl) da_nil)))) (de_any de_bool) (nomark _)) (dw_or1 (dt_cmp op_lt o2_lt (de_any (de_call F_worth_of (hr.mono (by decide)) rfl M.m_worth_of K_worth_of B_worth_of (da_val (de_v (pv 9) rfl) (da_val (de_v (pv 8) rfl) da_nil)))) (de_any (de_callK (ms := [true]) (ns := [true]) F_sure_worth (hr.mono (by decide)) rfl M.m_sure_worth K_sure_worth B_sure_worth (da_val (de_v (pv 2) rfl) da_nil) (dk_val (de_v (pv 7) rfl) dk_nil))) (nomark _))))) (dss_one (ds_ret de_bool)) dss_nil)
  (dss_cons (ds_set (ps_set (i := 10) sc_law.nd rfl (Or.inr rfl) (de_op op_mod o2_mod (de_any (de_ct call_int1 ol_int rfl M.n_int boot_int (da_any (de_any (de_ix (de_any (de_v (pv 1) rfl)) (de_any de_int) (by intro _ _; rfl))) da_nil))) (de_any de_int))) rfl)
  (dss_cons (ds_setF (ps_comp (i := 11) (own := [("_law_name", 17)]) rfl sc_law.nd rfl rfl (sw_true rfl rfl rfl (by decide +kernel)) (di_c (di_seq (de_sta (de_v (pv 8) rfl)))) (blkOk_by (own := [("_law_name", 17)]) (N := N_law) (sc := defScope s_law) (by decide +kernel)) (fun _ _ _ _ _ => (dg_name (pg_name (i := 17) sc_law.nd rfl (Or.inl rfl)) rfl)) (fun _ _ _ _ _ => dts_one (dt_cmp op_lt o2_lt (de_any (de_ix (de_any (de_ix (de_any (de_ix (de_any (de_v (pv 2) rfl)) (de_any de_int) (by intro _ _; rfl))) (de_any (de_v (pv 17) rfl)) (by intro _ _; rfl))) (de_any de_int) (by intro _ _; rfl))) (de_any (de_v (pv 10) rfl)) (nomark _))) (fun _ _ _ _ _ => (de_v (pv 17) rfl))) rfl)
  (dss_cons (ds_set (ps_set (i := 12) sc_law.nd rfl (Or.inl rfl) (de_frz (de_cb (cr_sorted rfl hu) ol_sorted rfl M.n_sorted boot_sorted (da_any (de_any (de_comp (own := [("_law_name", 17)]) rfl sc_law.nd (di_c (di_seq (de_sta (de_v (pv 8) rfl)))) (blkOk_by (own := [("_law_name", 17)]) (N := N_law) (sc := defScope s_law) (by decide +kernel)) (fun _ _ _ _ _ => (dg_name (pg_name (i := 17) sc_law.nd rfl (Or.inl rfl)) rfl)) (fun _ _ _ _ _ => dts_nil) (fun _ _ _ _ _ => (de_ix (de_any (de_ix (de_any (de_ix (de_any (de_v (pv 2) rfl)) (de_any de_int) (by intro _ _; rfl))) (de_any (de_v (pv 17) rfl)) (by intro _ _; rfl))) (de_any de_int) (by intro _ _; rfl))))) da_nil)))) rfl)
  (dss_cons (ds_if (dt_cmp op_notBl o2_notB (de_any (de_callK (ms := [true, true]) (ns := [true, true]) F_can_keep hr rfl M.m_can_keep K_can_keep B_can_keep (da_val (de_v (pv 9) rfl) (da_val (de_v (pv 12) rfl) da_nil)) (dk_val (de_v (pv 10) rfl) (dk_val (de_v (pv 11) rfl) dk_nil)))) (de_any de_bool) (nomark _)) (dss_one (ds_ret de_bool)) dss_nil)
  (dss_cons (ds_tup (ps_asg (de_callK (ms := [true, true]) (ns := [true, true]) F_best_keeping hr rfl M.m_best_keeping K_best_keeping B_best_keeping (da_val (de_v (pv 9) rfl) (da_val (de_v (pv 12) rfl) da_nil)) (dk_val (de_v (pv 10) rfl) (dk_val (de_v (pv 11) rfl) dk_nil))) (dg_tup rfl (dgs_cons (pg_name (i := 13) sc_law.nd rfl (Or.inl rfl)) rfl (dgs_cons (pg_name (i := 14) sc_law.nd rfl (Or.inl rfl)) rfl dgs_nil)))))
  (dss_cons (ds_if (dt_w (dw_or (dt_cmp op_lt o2_lt (de_any (de_v (pv 13) rfl)) (de_any (de_call F_worth_of (hr.mono (by decide)) rfl M.m_worth_of K_worth_of B_worth_of (da_val (de_v (pv 9) rfl) (da_val (de_v (pv 8) rfl) da_nil)))) (nomark _)) (dw_or (dt_cmp (op_neD hr.units) o2_ne (de_any (de_slice (de_any (de_v (pv 14) rfl)) do_no (do_some (de_any (de_cb call_len_seq ol_len rfl M.n_len boot_len (da_any (de_any (de_v (pv 11) rfl)) da_nil)))))) (de_any (de_v (pv 11) rfl)) (nomark _)) (dw_or1 (dt_cmp (op_neD hr.units) o2_ne (de_any (de_call F_worth_of (hr.mono (by decide)) rfl M.m_worth_of K_worth_of B_worth_of (da_val (de_v (pv 9) rfl) (da_val (de_v (pv 14) rfl) da_nil)))) (de_any (de_v (pv 13) rfl)) (nomark _)))))) (dss_one (ds_ret de_bool)) dss_nil)
  (dss_one (ds_ret (de_and (de_cmp op_isBl o2_isB (de_any (de_call F_is_plan (hr.mono (by decide)) rfl M.m_is_plan K_is_plan B_is_plan (da_val (de_v (pv 9) rfl) (da_val (de_v (pv 14) rfl) da_nil)))) (de_any de_bool) (nomark _)) (de_cmp op_le o2_le (de_any (de_v (pv 13) rfl)) (de_any (de_call F__law_best_worth (hr.mono (by decide)) rfl M.m__law_best_worth K__law_best_worth B__law_best_worth (da_val (de_v (pv 9) rfl) da_nil))) (nomark _))))))))))))))))))))))))
end
end Sk
set_option Elab.async false
set_option linter.all false
set_option maxRecDepth 100000
set_option maxHeartbeats 0
/-! Hd: the head (printed by genhead.py). -/
namespace Hd
open PySem PySem.Spec PyProof.Rows L2 Sk
def d_end_of : He.DefD := ⟨("end_of", none), "end_of", "end_of", defArgs s_end_of, defBody s_end_of, defScope s_end_of, [], []⟩
def d_turning : He.DefD := ⟨("turning", none), "turning", "turning", defArgs s_turning, defBody s_turning, defScope s_turning, [], []⟩
def d_loss : He.DefD := ⟨("loss", none), "loss", "loss", defArgs s_loss, defBody s_loss, defScope s_loss, [], []⟩
def d_emptied : He.DefD := ⟨("emptied", none), "emptied", "emptied", defArgs s_emptied, defBody s_emptied, defScope s_emptied, [], []⟩
def d_follows : He.DefD := ⟨("follows", none), "follows", "follows", defArgs s_follows, defBody s_follows, defScope s_follows, [], []⟩
def d_stored_at : He.DefD := ⟨("stored_at", none), "stored_at", "stored_at", defArgs s_stored_at, defBody s_stored_at, defScope s_stored_at, [], []⟩
def d_level_behind : He.DefD := ⟨("level_behind", none), "level_behind", "level_behind", defArgs s_level_behind, defBody s_level_behind, defScope s_level_behind, [], []⟩
def d_wrong_in : He.DefD := ⟨("wrong_in", none), "wrong_in", "wrong_in", defArgs s_wrong_in, defBody s_wrong_in, defScope s_wrong_in, [], []⟩
def d_is_plan : He.DefD := ⟨("is_plan", none), "is_plan", "is_plan", defArgs s_is_plan, defBody s_is_plan, defScope s_is_plan, [], []⟩
def d_worth_of : He.DefD := ⟨("worth_of", none), "worth_of", "worth_of", defArgs s_worth_of, defBody s_worth_of, defScope s_worth_of, [], []⟩
def d_without_ears : He.DefD := ⟨("without_ears", none), "without_ears", "without_ears", defArgs s_without_ears, defBody s_without_ears, defScope s_without_ears, [], []⟩
def d_ways_of : He.DefD := ⟨("ways_of", none), "ways_of", "ways_of", defArgs s_ways_of, defBody s_ways_of, defScope s_ways_of, [], []⟩
def d_begun_between : He.DefD := ⟨("begun_between", none), "begun_between", "begun_between", defArgs s_begun_between, defBody s_begun_between, defScope s_begun_between, [], []⟩
def d_first_states : He.DefD := ⟨("first_states", none), "first_states", "first_states", defArgs s_first_states, defBody s_first_states, defScope s_first_states, [], []⟩
def d_may_take : He.DefD := ⟨("may_take", none), "may_take", "may_take", defArgs s_may_take, defBody s_may_take, defScope s_may_take, [], []⟩
def d_moves_of : He.DefD := ⟨("moves_of", none), "moves_of", "moves_of", defArgs s_moves_of, defBody s_moves_of, defScope s_moves_of, [], []⟩
def d_gain_of : He.DefD := ⟨("gain_of", none), "gain_of", "gain_of", defArgs s_gain_of, defBody s_gain_of, defScope s_gain_of, [], []⟩
def d_amount_behind : He.DefD := ⟨("amount_behind", none), "amount_behind", "amount_behind", defArgs s_amount_behind, defBody s_amount_behind, defScope s_amount_behind, [], []⟩
def d_states_behind : He.DefD := ⟨("states_behind", none), "states_behind", "states_behind", defArgs s_states_behind, defBody s_states_behind, defScope s_states_behind, [], []⟩
def d_reached : He.DefD := ⟨("reached", none), "reached", "reached", defArgs s_reached, defBody s_reached, defScope s_reached, [], []⟩
def d_sure_by : He.DefD := ⟨("sure_by", none), "sure_by", "sure_by", defArgs s_sure_by, defBody s_sure_by, defScope s_sure_by, [], []⟩
def d_sure_numbers : He.DefD := ⟨("sure_numbers", none), "sure_numbers", "sure_numbers", defArgs s_sure_numbers, defBody s_sure_numbers, defScope s_sure_numbers, [], []⟩
def d_sure_worth : He.DefD := ⟨("sure_worth", none), "sure_worth", "sure_worth", defArgs s_sure_worth, defBody s_sure_worth, defScope s_sure_worth, [], []⟩
def d_sure_rule : He.DefD := ⟨("sure_rule", none), "sure_rule", "sure_rule", defArgs s_sure_rule, defBody s_sure_rule, defScope s_sure_rule, [], []⟩
def d_taken_by : He.DefD := ⟨("taken_by", none), "taken_by", "taken_by", defArgs s_taken_by, defBody s_taken_by, defScope s_taken_by, [], []⟩
def d_number : He.DefD := ⟨("number", none), "number", "number", defArgs s_number, defBody s_number, defScope s_number, [], []⟩
def d_plus : He.DefD := ⟨("plus", none), "plus", "plus", defArgs s_plus, defBody s_plus, defScope s_plus, [], []⟩
def d_times : He.DefD := ⟨("times", none), "times", "times", defArgs s_times, defBody s_times, defScope s_times, [], []⟩
def d_is_less : He.DefD := ⟨("is_less", none), "is_less", "is_less", defArgs s_is_less, defBody s_is_less, defScope s_is_less, [], []⟩
def d_chance_among : He.DefD := ⟨("chance_among", none), "chance_among", "chance_among", defArgs s_chance_among, defBody s_chance_among, defScope s_chance_among, [], []⟩
def d_first_chances : He.DefD := ⟨("first_chances", none), "first_chances", "first_chances", defArgs s_first_chances, defBody s_first_chances, defScope s_first_chances, [], []⟩
def d_chances_behind : He.DefD := ⟨("chances_behind", none), "chances_behind", "chances_behind", defArgs s_chances_behind, defBody s_chances_behind, defScope s_chances_behind, [], []⟩
def d_mean_over : He.DefD := ⟨("mean_over", none), "mean_over", "mean_over", defArgs s_mean_over, defBody s_mean_over, defScope s_mean_over, [], []⟩
def d_mean_by : He.DefD := ⟨("mean_by", none), "mean_by", "mean_by", defArgs s_mean_by, defBody s_mean_by, defScope s_mean_by, [], []⟩
def d_mean_numbers : He.DefD := ⟨("mean_numbers", none), "mean_numbers", "mean_numbers", defArgs s_mean_numbers, defBody s_mean_numbers, defScope s_mean_numbers, [], []⟩
def d_mean_worth : He.DefD := ⟨("mean_worth", none), "mean_worth", "mean_worth", defArgs s_mean_worth, defBody s_mean_worth, defScope s_mean_worth, [], []⟩
def d_plans_on : He.DefD := ⟨("plans_on", none), "plans_on", "plans_on", defArgs s_plans_on, defBody s_plans_on, defScope s_plans_on, [], []⟩
def d_keeps : He.DefD := ⟨("keeps", none), "keeps", "keeps", defArgs s_keeps, defBody s_keeps, defScope s_keeps, [], []⟩
def d_keeping : He.DefD := ⟨("keeping", none), "keeping", "keeping", defArgs s_keeping, defBody s_keeping, defScope s_keeping, [], []⟩
def d_can_keep : He.DefD := ⟨("can_keep", none), "can_keep", "can_keep", defArgs s_can_keep, defBody s_can_keep, defScope s_can_keep, [], []⟩
def d_best_keeping : He.DefD := ⟨("best_keeping", none), "best_keeping", "best_keeping", defArgs s_best_keeping, defBody s_best_keeping, defScope s_best_keeping, [], [("now", .int 0), ("begun", .adr (kwA "best_keeping" "begun"))]⟩
def d__law_draws : He.DefD := ⟨("_law_draws", none), "_law_draws", "_law_draws", defArgs s__law_draws, defBody s__law_draws, defScope s__law_draws, [], []⟩
def d__law_sky : He.DefD := ⟨("_law_sky", none), "_law_sky", "_law_sky", defArgs s__law_sky, defBody s__law_sky, defScope s__law_sky, [], []⟩
def d__law_turn : He.DefD := ⟨("_law_turn", none), "_law_turn", "_law_turn", defArgs s__law_turn, defBody s__law_turn, defScope s__law_turn, [], []⟩
def d__law_store : He.DefD := ⟨("_law_store", none), "_law_store", "_law_store", defArgs s__law_store, defBody s__law_store, defScope s__law_store, [], []⟩
def d__law_wrong : He.DefD := ⟨("_law_wrong", none), "_law_wrong", "_law_wrong", defArgs s__law_wrong, defBody s__law_wrong, defScope s__law_wrong, [], []⟩
def d__law_worth : He.DefD := ⟨("_law_worth", none), "_law_worth", "_law_worth", defArgs s__law_worth, defBody s__law_worth, defScope s__law_worth, [], []⟩
def d__law_more_ears : He.DefD := ⟨("_law_more_ears", none), "_law_more_ears", "_law_more_ears", defArgs s__law_more_ears, defBody s__law_more_ears, defScope s__law_more_ears, [], []⟩
def d__law_gcd : He.DefD := ⟨("_law_gcd", none), "_law_gcd", "_law_gcd", defArgs s__law_gcd, defBody s__law_gcd, defScope s__law_gcd, [], []⟩
def d__law_number : He.DefD := ⟨("_law_number", none), "_law_number", "_law_number", defArgs s__law_number, defBody s__law_number, defScope s__law_number, [], []⟩
def d__law_less : He.DefD := ⟨("_law_less", none), "_law_less", "_law_less", defArgs s__law_less, defBody s__law_less, defScope s__law_less, [], []⟩
def d__law_chances : He.DefD := ⟨("_law_chances", none), "_law_chances", "_law_chances", defArgs s__law_chances, defBody s__law_chances, defScope s__law_chances, [], []⟩
def d__law_grown : He.DefD := ⟨("_law_grown", none), "_law_grown", "_law_grown", defArgs s__law_grown, defBody s__law_grown, defScope s__law_grown, [], []⟩
def d__law_best_worth : He.DefD := ⟨("_law_best_worth", none), "_law_best_worth", "_law_best_worth", defArgs s__law_best_worth, defBody s__law_best_worth, defScope s__law_best_worth, [], []⟩
def d_law : He.DefD := ⟨("law", none), "law", "law", defArgs s_law, defBody s_law, defScope s_law, [], []⟩
def fn1 : List He.DefD := [d_end_of, d_turning, d_loss, d_emptied, d_follows, d_stored_at, d_level_behind, d_wrong_in, d_is_plan, d_worth_of, d_without_ears, d_ways_of, d_begun_between, d_first_states, d_may_take, d_moves_of, d_gain_of, d_amount_behind, d_states_behind, d_reached, d_sure_by, d_sure_numbers, d_sure_worth, d_sure_rule, d_taken_by, d_number, d_plus]
def fn2 : List He.DefD := [d_times, d_is_less, d_chance_among, d_first_chances, d_chances_behind, d_mean_over, d_mean_by, d_mean_numbers, d_mean_worth, d_plans_on, d_keeps, d_keeping, d_can_keep, d_best_keeping, d__law_draws, d__law_sky, d__law_turn, d__law_store, d__law_wrong, d__law_worth, d__law_more_ears, d__law_gcd, d__law_number, d__law_less, d__law_chances, d__law_grown, d__law_best_worth, d_law]
def fn : List He.DefD := fn1 ++ fn2
def fa1 : List He.Fa := [.glo "end_of", .glo "turning", .glo "loss", .glo "emptied", .glo "follows", .glo "stored_at", .glo "level_behind", .glo "wrong_in", .glo "is_plan", .glo "worth_of", .glo "without_ears", .glo "ways_of", .glo "begun_between", .glo "first_states", .glo "may_take", .glo "moves_of", .glo "gain_of", .glo "amount_behind", .glo "states_behind", .glo "reached", .glo "sure_by", .glo "sure_numbers", .glo "sure_worth", .glo "sure_rule", .glo "taken_by", .glo "number", .glo "plus"]
def fa2 : List He.Fa := [.glo "times", .glo "is_less", .glo "chance_among", .glo "first_chances", .glo "chances_behind", .glo "mean_over", .glo "mean_by", .glo "mean_numbers", .glo "mean_worth", .glo "plans_on", .glo "keeps", .glo "keeping", .glo "can_keep", .glo "best_keeping", .glo "_law_draws", .glo "_law_sky", .glo "_law_turn", .glo "_law_store", .glo "_law_wrong", .glo "_law_worth", .glo "_law_more_ears", .glo "_law_gcd", .glo "_law_number", .glo "_law_less", .glo "_law_chances", .glo "_law_grown", .glo "_law_best_worth", .glo "law"]
def fa3 : List He.Fa := [.glo "NOUGHT", .glo "ONE", .free "abs", .free "max", .free "min", .free "enumerate", .free "sum", .free "list", .free "range", .free "len", .free "sorted", .free "tuple", .free "reversed", .free "all", .free "int"]
def fa : List He.Fa := fa1 ++ (fa2 ++ fa3)
/-- gcd is math's; the tables; an empty default -/
def gcdB (K : PySem.W.Frag) : Bool := match PySem.W.nsIn K mainGlobals "gcd" with
  | some (some (.builtin b)) => decide (b = "math.gcd")
  | _ => false
def tupAt (K : PySem.W.Frag) (a : Addr) (vs : List V) : Bool := match K.lookup a with
  | some ⟨.type c, _, .seq its _, _⟩ => decide (c = "tuple") && (decide (its.size ≤ sizeLine) && He.relAll vs its.toList)
  | _ => false
def ex (K : PySem.W.Frag) : Bool := gcdB K && (tupAt K (He.ga K "NOUGHT") [.int 0, .int 1] && (tupAt K (He.ga K "ONE") [.int 1, .int 1] && tupAt K (kwA "best_keeping" "begun" K) []))
theorem tupAt_ok {K : PySem.W.Frag} {a : Addr} {vs : List V} (h : tupAt K a vs = true) (H : Hp) : SqT K H a vs := by
  unfold tupAt at h
  cases q : K.lookup a with
  | none =>
    rw [q] at h
    cases h
  | some o =>
    obtain ⟨oc, od, dt, osl⟩ := o
    rw [q] at h
    cases oc with
    | type c =>
      cases dt with
      | seq its n =>
        obtain ⟨h1, h2⟩ := He.ba (show (decide (c = "tuple") && (decide (its.size ≤ sizeLine) && He.relAll vs its.toList)) = true from h)
        obtain ⟨h3, h4⟩ := He.ba h2
        exact Or.inr ⟨_, its, n, q, congrArg Value.type (of_decide_eq_true h1), rfl, of_decide_eq_true h3, He.relAll_ok h4⟩
      | _ => cases h
    | _ => cases dt <;> cases h
theorem gcdB_ok {K : PySem.W.Frag} {h : Heap} {mg : Str → Option Value} (X : K.In h) (G : h.Ns mainGlobals mg) (c : gcdB K = true) : mg "gcd" = some (.builtin "math.gcd") := by
  unfold gcdB at c
  cases e : PySem.W.nsIn K mainGlobals "gcd" with
  | none =>
    rw [e] at c
    cases c
  | some o =>
    rw [e] at c
    cases o with
    | none => cases c
    | some v =>
      cases v with
      | builtin b =>
        have eb : b = "math.gcd" := of_decide_eq_true c
        rw [eb] at e
        exact PySem.W.mg_of X G e
      | _ => cases c
abbrev AlY : Type := He.AlD × Bool
def hk : PySem.W.Hook where
  α := AlY
  obs := fun s => (He.obsDG 3 fa fn s.heap.get?, ex (He.frG s.heap.get? (He.asD s.heap.get? 3)))
  val := fun _ => (He.valD fn, true)
  says := fun _ h => ∃ K : PySem.W.Frag, K.In h ∧ He.SaysD fa fn K ∧ ex K = true
  of := fun _ _ e => ⟨_, He.frG_in, congrArg (fun z : AlY => z.1) e, congrArg (fun z : AlY => z.2) e⟩
  keeps := fun _ _ _ ⟨K, hK, c⟩ k => ⟨K, PySem.W.Frag.In.keeps hK k, c⟩
def ob (s : PySem.W.SharedT) : AlY := (He.obsDG 3 fa fn (HandSHeadRun.getT s), ex (He.frG (HandSHeadRun.getT s) (He.asD (HandSHeadRun.getT s) 3)))
theorem ob_eq (s : PySem.W.SharedT) : ob s = hk.obs s.abs := by
  have e : HandSHeadRun.getT s = s.abs.heap.get? := funext fun a => HandSHeadRun.getT_eq s a
  unfold ob
  rw [e] <;> rfl
abbrev R : PySem.W.OpenRow := PySem.W.OpenLaw.row PySem.Challenge.rw_skypasses_k93_whole_failing_and_promises
def loose0 : List PySem.Str := ["end_of", "turning", "loss", "emptied", "follows", "stored_at", "level_behind", "wrong_in", "is_plan", "worth_of", "without_ears", "ways_of", "begun_between", "first_states", "may_take", "moves_of", "gain_of", "amount_behind", "states_behind", "reached", "sure_by", "sure_numbers", "sure_worth", "sure_rule", "taken_by", "NOUGHT", "ONE", "number", "plus", "times"]
def loose1 : List PySem.Str := ["is_less", "chance_among", "first_chances", "chances_behind", "mean_over", "mean_by", "mean_numbers", "mean_worth", "plans_on", "keeps", "keeping", "can_keep", "best_keeping", "_law_draws", "_law_sky", "_law_turn", "_law_store", "_law_wrong", "_law_worth", "_law_more_ears", "_law_gcd", "_law_number", "_law_less", "_law_chances", "_law_grown", "_law_best_worth"]
def loose : List PySem.Str := loose0 ++ loose1
abbrev qv : Program := PySem.W.view R.prog [0, 62]
theorem run (w : World) : HandSHeadRun.RunEqI R qv hk ob 4000 loose w := by
  unfold HandSHeadRun.RunEqI
  kernel_rfl
theorem mo {K : PySem.W.Frag} {h : Heap} {mg : Str → Option Value} (X : K.In h) (G : h.Ns mainGlobals mg) (c : He.SaysD fa fn K) (c2 : ex K = true) : Mo K mg := by
  obtain ⟨x1, x2⟩ := He.ba c2
  obtain ⟨x2, x3⟩ := He.ba x2
  obtain ⟨x3, x4⟩ := He.ba x3
  exact {
    f_end_of := c.def_ 0 (d := d_end_of) rfl
    m_end_of := He.glo_ok X G (c.fact 0 (f := .glo "end_of") rfl)
    f_turning := c.def_ 1 (d := d_turning) rfl
    m_turning := He.glo_ok X G (c.fact 1 (f := .glo "turning") rfl)
    f_loss := c.def_ 2 (d := d_loss) rfl
    m_loss := He.glo_ok X G (c.fact 2 (f := .glo "loss") rfl)
    f_emptied := c.def_ 3 (d := d_emptied) rfl
    m_emptied := He.glo_ok X G (c.fact 3 (f := .glo "emptied") rfl)
    f_follows := c.def_ 4 (d := d_follows) rfl
    m_follows := He.glo_ok X G (c.fact 4 (f := .glo "follows") rfl)
    f_stored_at := c.def_ 5 (d := d_stored_at) rfl
    m_stored_at := He.glo_ok X G (c.fact 5 (f := .glo "stored_at") rfl)
    f_level_behind := c.def_ 6 (d := d_level_behind) rfl
    m_level_behind := He.glo_ok X G (c.fact 6 (f := .glo "level_behind") rfl)
    f_wrong_in := c.def_ 7 (d := d_wrong_in) rfl
    m_wrong_in := He.glo_ok X G (c.fact 7 (f := .glo "wrong_in") rfl)
    f_is_plan := c.def_ 8 (d := d_is_plan) rfl
    m_is_plan := He.glo_ok X G (c.fact 8 (f := .glo "is_plan") rfl)
    f_worth_of := c.def_ 9 (d := d_worth_of) rfl
    m_worth_of := He.glo_ok X G (c.fact 9 (f := .glo "worth_of") rfl)
    f_without_ears := c.def_ 10 (d := d_without_ears) rfl
    m_without_ears := He.glo_ok X G (c.fact 10 (f := .glo "without_ears") rfl)
    f_ways_of := c.def_ 11 (d := d_ways_of) rfl
    m_ways_of := He.glo_ok X G (c.fact 11 (f := .glo "ways_of") rfl)
    f_begun_between := c.def_ 12 (d := d_begun_between) rfl
    m_begun_between := He.glo_ok X G (c.fact 12 (f := .glo "begun_between") rfl)
    f_first_states := c.def_ 13 (d := d_first_states) rfl
    m_first_states := He.glo_ok X G (c.fact 13 (f := .glo "first_states") rfl)
    f_may_take := c.def_ 14 (d := d_may_take) rfl
    m_may_take := He.glo_ok X G (c.fact 14 (f := .glo "may_take") rfl)
    f_moves_of := c.def_ 15 (d := d_moves_of) rfl
    m_moves_of := He.glo_ok X G (c.fact 15 (f := .glo "moves_of") rfl)
    f_gain_of := c.def_ 16 (d := d_gain_of) rfl
    m_gain_of := He.glo_ok X G (c.fact 16 (f := .glo "gain_of") rfl)
    f_amount_behind := c.def_ 17 (d := d_amount_behind) rfl
    m_amount_behind := He.glo_ok X G (c.fact 17 (f := .glo "amount_behind") rfl)
    f_states_behind := c.def_ 18 (d := d_states_behind) rfl
    m_states_behind := He.glo_ok X G (c.fact 18 (f := .glo "states_behind") rfl)
    f_reached := c.def_ 19 (d := d_reached) rfl
    m_reached := He.glo_ok X G (c.fact 19 (f := .glo "reached") rfl)
    f_sure_by := c.def_ 20 (d := d_sure_by) rfl
    m_sure_by := He.glo_ok X G (c.fact 20 (f := .glo "sure_by") rfl)
    f_sure_numbers := c.def_ 21 (d := d_sure_numbers) rfl
    m_sure_numbers := He.glo_ok X G (c.fact 21 (f := .glo "sure_numbers") rfl)
    f_sure_worth := c.def_ 22 (d := d_sure_worth) rfl
    m_sure_worth := He.glo_ok X G (c.fact 22 (f := .glo "sure_worth") rfl)
    f_sure_rule := c.def_ 23 (d := d_sure_rule) rfl
    m_sure_rule := He.glo_ok X G (c.fact 23 (f := .glo "sure_rule") rfl)
    f_taken_by := c.def_ 24 (d := d_taken_by) rfl
    m_taken_by := He.glo_ok X G (c.fact 24 (f := .glo "taken_by") rfl)
    f_number := c.def_ 25 (d := d_number) rfl
    m_number := He.glo_ok X G (c.fact 25 (f := .glo "number") rfl)
    f_plus := c.def_ 26 (d := d_plus) rfl
    m_plus := He.glo_ok X G (c.fact 26 (f := .glo "plus") rfl)
    f_times := c.def_ 27 (d := d_times) rfl
    m_times := He.glo_ok X G (c.fact 27 (f := .glo "times") rfl)
    f_is_less := c.def_ 28 (d := d_is_less) rfl
    m_is_less := He.glo_ok X G (c.fact 28 (f := .glo "is_less") rfl)
    f_chance_among := c.def_ 29 (d := d_chance_among) rfl
    m_chance_among := He.glo_ok X G (c.fact 29 (f := .glo "chance_among") rfl)
    f_first_chances := c.def_ 30 (d := d_first_chances) rfl
    m_first_chances := He.glo_ok X G (c.fact 30 (f := .glo "first_chances") rfl)
    f_chances_behind := c.def_ 31 (d := d_chances_behind) rfl
    m_chances_behind := He.glo_ok X G (c.fact 31 (f := .glo "chances_behind") rfl)
    f_mean_over := c.def_ 32 (d := d_mean_over) rfl
    m_mean_over := He.glo_ok X G (c.fact 32 (f := .glo "mean_over") rfl)
    f_mean_by := c.def_ 33 (d := d_mean_by) rfl
    m_mean_by := He.glo_ok X G (c.fact 33 (f := .glo "mean_by") rfl)
    f_mean_numbers := c.def_ 34 (d := d_mean_numbers) rfl
    m_mean_numbers := He.glo_ok X G (c.fact 34 (f := .glo "mean_numbers") rfl)
    f_mean_worth := c.def_ 35 (d := d_mean_worth) rfl
    m_mean_worth := He.glo_ok X G (c.fact 35 (f := .glo "mean_worth") rfl)
    f_plans_on := c.def_ 36 (d := d_plans_on) rfl
    m_plans_on := He.glo_ok X G (c.fact 36 (f := .glo "plans_on") rfl)
    f_keeps := c.def_ 37 (d := d_keeps) rfl
    m_keeps := He.glo_ok X G (c.fact 37 (f := .glo "keeps") rfl)
    f_keeping := c.def_ 38 (d := d_keeping) rfl
    m_keeping := He.glo_ok X G (c.fact 38 (f := .glo "keeping") rfl)
    f_can_keep := c.def_ 39 (d := d_can_keep) rfl
    m_can_keep := He.glo_ok X G (c.fact 39 (f := .glo "can_keep") rfl)
    f_best_keeping := c.def_ 40 (d := d_best_keeping) rfl
    m_best_keeping := He.glo_ok X G (c.fact 40 (f := .glo "best_keeping") rfl)
    f__law_draws := c.def_ 41 (d := d__law_draws) rfl
    m__law_draws := He.glo_ok X G (c.fact 41 (f := .glo "_law_draws") rfl)
    f__law_sky := c.def_ 42 (d := d__law_sky) rfl
    m__law_sky := He.glo_ok X G (c.fact 42 (f := .glo "_law_sky") rfl)
    f__law_turn := c.def_ 43 (d := d__law_turn) rfl
    m__law_turn := He.glo_ok X G (c.fact 43 (f := .glo "_law_turn") rfl)
    f__law_store := c.def_ 44 (d := d__law_store) rfl
    m__law_store := He.glo_ok X G (c.fact 44 (f := .glo "_law_store") rfl)
    f__law_wrong := c.def_ 45 (d := d__law_wrong) rfl
    m__law_wrong := He.glo_ok X G (c.fact 45 (f := .glo "_law_wrong") rfl)
    f__law_worth := c.def_ 46 (d := d__law_worth) rfl
    m__law_worth := He.glo_ok X G (c.fact 46 (f := .glo "_law_worth") rfl)
    f__law_more_ears := c.def_ 47 (d := d__law_more_ears) rfl
    m__law_more_ears := He.glo_ok X G (c.fact 47 (f := .glo "_law_more_ears") rfl)
    f__law_gcd := c.def_ 48 (d := d__law_gcd) rfl
    m__law_gcd := He.glo_ok X G (c.fact 48 (f := .glo "_law_gcd") rfl)
    f__law_number := c.def_ 49 (d := d__law_number) rfl
    m__law_number := He.glo_ok X G (c.fact 49 (f := .glo "_law_number") rfl)
    f__law_less := c.def_ 50 (d := d__law_less) rfl
    m__law_less := He.glo_ok X G (c.fact 50 (f := .glo "_law_less") rfl)
    f__law_chances := c.def_ 51 (d := d__law_chances) rfl
    m__law_chances := He.glo_ok X G (c.fact 51 (f := .glo "_law_chances") rfl)
    f__law_grown := c.def_ 52 (d := d__law_grown) rfl
    m__law_grown := He.glo_ok X G (c.fact 52 (f := .glo "_law_grown") rfl)
    f__law_best_worth := c.def_ 53 (d := d__law_best_worth) rfl
    m__law_best_worth := He.glo_ok X G (c.fact 53 (f := .glo "_law_best_worth") rfl)
    f_law := c.def_ 54 (d := d_law) rfl
    m_law := He.glo_ok X G (c.fact 54 (f := .glo "law") rfl)
    n_abs := He.free_ok X G (c.fact 57 (f := .free "abs") rfl)
    n_max := He.free_ok X G (c.fact 58 (f := .free "max") rfl)
    n_min := He.free_ok X G (c.fact 59 (f := .free "min") rfl)
    n_enumerate := He.free_ok X G (c.fact 60 (f := .free "enumerate") rfl)
    n_sum := He.free_ok X G (c.fact 61 (f := .free "sum") rfl)
    n_list := He.free_ok X G (c.fact 62 (f := .free "list") rfl)
    n_range := He.free_ok X G (c.fact 63 (f := .free "range") rfl)
    n_len := He.free_ok X G (c.fact 64 (f := .free "len") rfl)
    n_sorted := He.free_ok X G (c.fact 65 (f := .free "sorted") rfl)
    n_tuple := He.free_ok X G (c.fact 66 (f := .free "tuple") rfl)
    n_reversed := He.free_ok X G (c.fact 67 (f := .free "reversed") rfl)
    n_all := He.free_ok X G (c.fact 68 (f := .free "all") rfl)
    n_int := He.free_ok X G (c.fact 69 (f := .free "int") rfl)
    g_gcd := gcdB_ok X G x1
    g_NOUGHT := He.glo_ok X G (c.fact 55 (f := .glo "NOUGHT") rfl)
    r_NOUGHT := fun H => .tuple (tupAt_ok x2 H) (by decide) (.cons (.num 0) (.cons (.num 1) .nil))
    g_ONE := He.glo_ok X G (c.fact 56 (f := .glo "ONE") rfl)
    r_ONE := fun H => .tuple (tupAt_ok x3 H) (by decide) (.cons (.num 1) (.cons (.num 1) .nil))
    r_begun := fun H => .tuple (tupAt_ok x4 H) (by decide) .nil }
theorem rps_ints {K : PySem.W.Frag} {H : Hp} : ∀ ns : List Int, Rps K H (ns.map V.int) (ns.map .int)
  | [] => .nil
  | n :: ns => .cons (.num n) (rps_ints ns)
/-- the law's promise -/
theorem law_says {P : Program} {w : World} {K : PySem.W.Frag} {H : Hp} {a : Addr} {ns : List Int} (hl : ns.length ≤ 63) (hO : Only H) (hS : SqL K H a (ns.map V.int)) : spD P w K [false] .val Da.g_law [.ref a] H (fun v _ => v = .bl true) fun _ _ _ => False := by
  have hl' : (ns.map V.int).length ≤ sizeLine := by
    rw [List.length_map]
    exact Nat.le_trans hl (by decide)
  refine ⟨[.list (ns.map .int)], .bool true, .any ?_ .nil, Pl.g_law_true ns, fun v H' _ r => ?_⟩
  · rcases hS with h | h
    · rcases h with h | ⟨o, h⟩
      · rcases hO a with q | ⟨o, xs, q⟩
        · rw [q] at h; cases h
        · rw [q] at h; cases h
      · exact .inl (.list ⟨o, h⟩ hl' (rps_ints ns))
    · exact .inr (.inl ⟨a, _, rfl, rfl, .inr ⟨_, fun _ => .inr h, hl', rps_ints ns⟩⟩)
  · have r' : Rp K H' v (.bool true) := r
    cases r'
    rfl
theorem facts {P : Program} {w : World} {K : PySem.W.Frag} {h : Heap} {mg : Str → Option Value} {f : Addr} (X : K.In h) (G : h.Ns mainGlobals mg) (hfa : mg ("law" : Str) = some (.ref f)) (c : He.SaysD fa fn K) (c2 : ex K = true) :
    ∃ fd : FuncData, (∀ (s : Shared) (v : Value), BindsTo s fd ⟨[v], []⟩ [("_law_script", v)]) ∧ ∀ base : Heap, K.In base → base.Ns mainGlobals mg → FnOk P w K mg base CX0 10 f fd ["_law_script"] (spD P w K [false] .val Da.g_law) := by
  have M := mo X G c c2
  have e := hfa.symm.trans M.m_law
  cases e
  obtain ⟨fd, F⟩ := M.f_law
  have b := FunD.bindsA (ps := ["_law_script"]) F fun _ _ _ _ _ _ us hl => match us, hl with | [_], _ => rfl
  exact ⟨fd, fun s v => b s [v] rfl, fun base _ _ => ok_law M F⟩
end Hd
open PySem PySem.W PySem.Calls PyProof.Rows
theorem PySem.Challenge.cw_skypasses_k93_whole_failing_and_promises_holds : PySem.Challenge.rw_skypasses_k93_whole_failing_and_promises.Holds := by
  w_on; o_law
  refine HandSHeadRun.head_imp (r := OpenLaw.row PySem.Challenge.rw_skypasses_k93_whole_failing_and_promises) (q := Hd.qv) (H := Hd.hk) (ob := Hd.ob) (M := 4000) (loose := Hd.loose) (d := HandSHeadRun.topDef (OpenLaw.row PySem.Challenge.rw_skypasses_k93_whole_failing_and_promises).prog 62) (kwd := []) Hd.ob_eq
    Hd.run (by kernel_rfl) (by kernel_rfl) (by kernel_rfl) (by rfl) (by first | assumption | decide +kernel) (by decide +kernel) ⟨rfl, rfl, rfl, rfl, rfl, by decide +kernel⟩ ?hw ?hc
  case hw => w_witness2
  case hc =>
    refine L2.walk_ofE (l := PySem.Challenge.rw_skypasses_k93_whole_failing_and_promises) (n := 63) (k := 10) (x := "_law_script") (CX := L2.CX0) rfl (by decide) (by kernel_rfl) ⟨rfl, by decide, by decide⟩ ?F (fun _ _ _ _ z => z)
    intro w mg fa h Y G hmg0
    obtain ⟨K, KX, c, c2⟩ := Y
    have hmg : mg ("law" : PySem.Str) = some (.ref fa) := by
      have e : (HandSHeadRun.topDef (OpenLaw.row PySem.Challenge.rw_skypasses_k93_whole_failing_and_promises).prog 62).name = ("law" : PySem.Str) := by kernel_rfl
      rw [← e]
      exact hmg0
    obtain ⟨fd, hb, hF⟩ := Hd.facts (P := (PySem.Challenge.rw_skypasses_k93_whole_failing_and_promises).prog) (w := w) KX G hmg c c2
    exact ⟨K, fd, Sk.spD _ w K [false] .val Da.g_law, KX, hb, fun H a ns hl hO hS => Hd.law_says hl hO hS, hF⟩
