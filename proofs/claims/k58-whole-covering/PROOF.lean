import PyProof.Rows.All
import HandS.ForMost
import HandS.ForExc
import HandS.Wide
import HandS.Deep
import HandS.Style
import HandS.TupAny
import HandS.TupMul
import HandS.IsInst
import HandS.CallSlots
import HandS.Sort
import KE.DataMinMax
import KE.GoesEnum
import HandS.Zip
import HandS.HeadHook1
import HandS.ExcIs
import HandS.SetFor
import HandS.SortInts
import HandS.TupSets
import HandS.MapObj
import KE.GoesMore
import HandS.DictTup
import HandS.Defaults
import HandS.Head0
import HandS.Head1
import HandS.Head2
import HandS.HeadEnd
import HandS.HeadHook2
import PySem.Challenge.RW_ringtimes_k58_whole_covering
set_option Elab.async false
set_option linter.all false
set_option maxRecDepth 100000
set_option maxHeartbeats 0
/-! Rt, part A: a small evaluator of pure data over the text's own trees. -/
namespace Rt
open PySem

inductive R (α : Type) where
  | ok (a : α)
  | exc (c : Str)
  | bad
namespace R
def bind {α β : Type} (x : R α) (f : α → R β) : R β := match x with
  | .ok a => f a
  | .exc c => .exc c
  | .bad => .bad
/-- where no exception may leave -/
def nox {α : Type} (x : R α) : R α := match x with
  | .ok a => .ok a
  | _ => .bad
@[simp] theorem bind_ok {α β : Type} (a : α) (f : α → R β) : (R.ok a).bind f = f a := rfl
@[simp] theorem bind_exc {α β : Type} (c : Str) (f : α → R β) : (R.exc c).bind f = .exc c := rfl
@[simp] theorem bind_bad {α β : Type} (f : α → R β) : (R.bad : R α).bind f = .bad := rfl
@[simp] theorem nox_ok {α : Type} (a : α) : (R.ok a).nox = .ok a := rfl
@[simp] theorem nox_exc {α : Type} (c : Str) : (R.exc c : R α).nox = .bad := rfl
@[simp] theorem nox_bad {α : Type} : (R.bad : R α).nox = .bad := rfl
end R

/-- what a slot holds: data; a list of its own that may still change; a dict of its own whose values are all True, by its keys; one that changes no more -/
inductive Sl where
  | dat (d : PyData)
  | own (ds : List PyData)
  | dct (ks : List Int)
  | dfz (ks : List Int)
abbrev En := List (Option Sl)
abbrev Ex := En → R PyData
abbrev Exl := En → R (List PyData)
abbrev Exo := En → R Sl

def SZ : Nat := 16777216
def B64 : Int := 18446744073709551616

/-! ### operations on data -/
def addD : PyData → PyData → R PyData
  | .int a, .int b => .ok (.int (a + b))
  | .list a, .list b => if a.length + b.length ≤ SZ then .ok (.list (a ++ b)) else .bad
  | .tuple a, .tuple b => if a.length + b.length ≤ SZ then .ok (.tuple (a ++ b)) else .bad
  | _, _ => .bad
def subD : PyData → PyData → R PyData
  | .int a, .int b => .ok (.int (a - b))
  | _, _ => .bad
def inB (a : Int) : Bool := decide (-B64 < a) && decide (a < B64)
def mulD : PyData → PyData → R PyData
  | .int a, .int b => if inB a || inB b then .ok (.int (a * b)) else .bad
  | .list a, .bool b => .ok (.list (if b then a else []))
  | .list a, .int k => if decide (0 ≤ k) && decide (k ≤ 1000) && decide (a.length ≤ 1000) then .ok (.list (List.replicate k.toNat a).flatten) else .bad
  | .tuple a, .int k => if decide (1 ≤ k) && decide (k ≤ 1000) && decide (a.length ≤ 1000) && !a.isEmpty then .ok (.tuple (List.replicate k.toNat a).flatten) else .bad
  | _, _ => .bad
def fdivD : PyData → PyData → R PyData
  | .int a, .int b => if decide (0 < b) && decide (b < B64) then .ok (.int (a / b)) else .bad
  | _, _ => .bad
def modD : PyData → PyData → R PyData
  | .int a, .int b => if decide (0 < b) then .ok (.int (a % b)) else .bad
  | _, _ => .bad
def powD : PyData → PyData → R PyData
  | .int a, .int b => if decide (0 ≤ b) && decide (b ≤ 1000) && inB a then .ok (.int (a ^ b.toNat)) else .bad
  | _, _ => .bad
def negD : PyData → R PyData
  | .int a => .ok (.int (-a))
  | _ => .bad
def notD : PyData → R PyData
  | .bool b => .ok (.bool (!b))
  | _ => .bad
def eqD (a b : PyData) : R PyData := if SeqAt.shaped a && SeqAt.shaped b then .ok (.bool (PyData.eqv a b)) else .bad
def neD (a b : PyData) : R PyData := if SeqAt.shaped a && SeqAt.shaped b then .ok (.bool (!PyData.eqv a b)) else .bad
/-- the ints of a list of ints -/
def intsOf : List PyData → Option (List Int)
  | [] => some []
  | .int i :: r => (intsOf r).map (i :: ·)
  | _ :: _ => none
def lexT : List Int → List Int → Bool
  | [], [] => false
  | [], _ :: _ => true
  | _ :: _, [] => false
  | x :: xs, y :: ys => if x = y then lexT xs ys else decide (x < y)
def ltD : PyData → PyData → R PyData
  | .int a, .int b => .ok (.bool (decide (a < b)))
  | .tuple a, .tuple b => match intsOf a, intsOf b with
    | some n, some m => .ok (.bool (lexT n m))
    | _, _ => .bad
  | _, _ => .bad
def leD : PyData → PyData → R PyData
  | .int a, .int b => .ok (.bool (decide (a ≤ b)))
  | _, _ => .bad
def gtD : PyData → PyData → R PyData
  | .int a, .int b => .ok (.bool (decide (b < a)))
  | _, _ => .bad
def geD : PyData → PyData → R PyData
  | .int a, .int b => .ok (.bool (decide (b ≤ a)))
  | _, _ => .bad
def isNoneB : PyData → Bool
  | .none => true
  | _ => false
def isNoneD (a : PyData) : R PyData := .ok (.bool (isNoneB a))
def notNoneD (a : PyData) : R PyData := .ok (.bool (!isNoneB a))
def isBoolD (b : Bool) : PyData → R PyData
  | .bool a => .ok (.bool (decide (a = b)))
  | _ => .bad
def notBoolD (b : Bool) : PyData → R PyData
  | .bool a => .ok (.bool (!decide (a = b)))
  | _ => .bad
def inD (x : PyData) : PyData → R PyData
  | .list ds => if SeqAt.shaped x && SeqAt.shaped (.list ds) then .ok (.bool (ds.any fun z => PyData.eqv z x)) else .bad
  | _ => .bad
def notInD (x : PyData) : PyData → R PyData
  | .list ds => if SeqAt.shaped x && SeqAt.shaped (.list ds) then .ok (.bool (!ds.any fun z => PyData.eqv z x)) else .bad
  | _ => .bad
/-- the item at i, from behind where i is below nought -/
def itemAt (ds : List PyData) (i : Int) : R PyData := match L2.atI ds i with
  | some d => .ok d
  | none => .bad
def idxD : PyData → PyData → R PyData
  | .list ds, .int i => itemAt ds i
  | .tuple ds, .int i => itemAt ds i
  | _, _ => .bad
def cutL {α : Type} (ds : List α) (lo hi : Option Int) : List α :=
  (ds.drop (_root_.HT.sIx ds.length 0 lo)).take (_root_.HT.sIx ds.length ds.length hi - _root_.HT.sIx ds.length 0 lo)
def slcD (d : PyData) (lo hi : Option Int) : R PyData := match d with
  | .list ds => .ok (.list (cutL ds lo hi))
  | .tuple ds => .ok (.tuple (cutL ds lo hi))
  | _ => .bad
def lenD : PyData → R PyData
  | .list ds => .ok (.int ds.length)
  | .tuple ds => .ok (.int ds.length)
  | _ => .bad
def absD : PyData → R PyData
  | .int a => .ok (.int (if a < 0 then -a else a))
  | _ => .bad
inductive Ty where
  | int | bool | tuple | list | str
def isiB : Ty → PyData → Bool
  | .int, .int _ => true
  | .int, .bool _ => true
  | .bool, .bool _ => true
  | .tuple, .tuple _ => true
  | .list, .list _ => true
  | .str, .str _ => true
  | _, _ => false
def isiD (t : Ty) (d : PyData) : R PyData := match d with
  | .dict _ => .bad
  | d => .ok (.bool (isiB t d))
def boolsOf : List PyData → Option (List Bool)
  | [] => some []
  | .bool b :: r => (boolsOf r).map (b :: ·)
  | _ :: _ => none
def onInts (f : List Int → R PyData) : PyData → R PyData
  | .list ds => match intsOf ds with
    | some ns => f ns
    | none => .bad
  | _ => .bad
def onBools (f : List Bool → PyData) : PyData → R PyData
  | .list ds => match boolsOf ds with
    | some bs => .ok (f bs)
    | none => .bad
  | _ => .bad
def sumD : PyData → R PyData := onInts fun ns => .ok (.int ns.sum)
def maxI : List Int → Option Int
  | [] => none
  | x :: r => some (r.foldl (fun a b => if a < b then b else a) x)
def minI : List Int → Option Int
  | [] => none
  | x :: r => some (r.foldl (fun a b => if b < a then b else a) x)
def optD : Option Int → R PyData
  | some i => .ok (.int i)
  | none => .bad
def maxD : PyData → R PyData := onInts fun ns => optD (maxI ns)
/-- pairs of an int and a tuple of ints -/
def prsOf : List PyData → Option (List (Int × List Int))
  | [] => some []
  | .tuple [.int a, .tuple ds] :: r => match intsOf ds with
    | some n => (prsOf r).map ((a, n) :: ·)
    | none => none
  | _ :: _ => none
def prD (p : Int × List Int) : PyData := .tuple [.int p.1, .tuple (p.2.map .int)]
def ltP (p q : Int × List Int) : Bool := if p.1 = q.1 then lexT p.2 q.2 else decide (p.1 < q.1)
def minP (p : Int × List Int) (ps : List (Int × List Int)) : Int × List Int := ps.foldl (fun a y => if ltP y a then y else a) p
def minD : PyData → R PyData
  | .list ds => match intsOf ds with
    | some ns => optD (minI ns)
    | none => match prsOf ds with
      | some (p :: ps) => .ok (prD (minP p ps))
      | _ => .bad
  | .tuple ds => match intsOf ds with
    | some ns => optD (minI ns)
    | none => .bad
  | _ => .bad
def max2D : PyData → PyData → R PyData
  | .int a, .int b => .ok (.int (if b > a then b else a))
  | _, _ => .bad
def min2D : PyData → PyData → R PyData
  | .int a, .int b => .ok (.int (if b < a then b else a))
  | _, _ => .bad
def allD : PyData → R PyData := onBools fun bs => .bool (bs.all id)
def anyD : PyData → R PyData := onBools fun bs => .bool (bs.any id)
def tupleD : PyData → R PyData
  | .list ds => .ok (.tuple ds)
  | .tuple ds => .ok (.tuple ds)
  | _ => .bad
def listD : PyData → R PyData
  | .list ds => .ok (.list ds)
  | .tuple ds => .ok (.list ds)
  | _ => .bad

/-! ### sorting -/
def insI (x : Int) : List Int → List Int
  | [] => [x]
  | y :: r => if y < x then y :: insI x r else x :: y :: r
def sortI (l : List Int) : List Int := l.foldr insI []
def insT (x : List Int) : List (List Int) → List (List Int)
  | [] => [x]
  | y :: r => if lexT y x then y :: insT x r else x :: y :: r
def sortT (l : List (List Int)) : List (List Int) := l.foldr insT []
/-- the ints of a list of tuples of ints -/
def tupsOf : List PyData → Option (List (List Int))
  | [] => some []
  | .tuple ds :: r => match intsOf ds with
    | some n => (tupsOf r).map (n :: ·)
    | none => none
  | _ :: _ => none
def sortedD : PyData → R PyData
  | .list ds => match intsOf ds with
    | some ns => .ok (.list ((sortI ns).map .int))
    | none => match tupsOf ds with
      | some ts => if ts.all (fun t => !t.isEmpty) then .ok (.list ((sortT ts).map fun t => .tuple (t.map .int))) else .bad
      | none => .bad
  | _ => .bad
def revD : PyData → R PyData
  | .list ds => .ok (.list ds.reverse)
  | .tuple ds => .ok (.tuple ds.reverse)
  | _ => .bad
def indexL (ds : List PyData) (b : PyData) : R PyData := if SeqAt.shaped (.list ds) && SeqAt.shaped b then (match ds.findIdx? (fun z => PyData.eqv z b) with
  | some j => .ok (.int (j : Nat))
  | none => .bad) else .bad
def countL (ds : List PyData) : PyData → R PyData
  | .int k => match intsOf ds with
    | some ns => .ok (.int (ns.count k : Nat))
    | none => .bad
  | _ => .bad

/-! ### expressions -/
def cBad : Ex := fun _ => .bad
def cC (d : PyData) : Ex := fun _ => .ok d
def cV (i : Nat) : Ex := fun r => match r[i]? with
  | some (some (.dat d)) => .ok d
  | _ => .bad
def c1 (op : PyData → R PyData) (f : Ex) : Ex := fun r => (f r).bind fun a => (op a).nox
def c2 (op : PyData → PyData → R PyData) (f g : Ex) : Ex := fun r => (f r).bind fun a => (g r).bind fun b => (op a b).nox
def asB : PyData → R Bool
  | .bool b => .ok b
  | _ => .bad
def cT (f : Ex) : En → R Bool := fun r => (f r).bind fun d => (asB d).nox
def cAnd (f g : Ex) : Ex := fun r => (f r).bind fun a => match a with
  | .bool true => g r
  | .bool false => .ok (.bool false)
  | _ => .bad
def cOr (f g : Ex) : Ex := fun r => (f r).bind fun a => match a with
  | .bool true => .ok (.bool true)
  | .bool false => g r
  | _ => .bad
def cIf (t f g : Ex) : Ex := fun r => (cT t r).bind fun b => if b then f r else g r
/-- a < b < c -/
def cCh (op op2 : PyData → PyData → R PyData) (f g h : Ex) : Ex := fun r => (f r).bind fun a => (g r).bind fun b => (op a b).nox.bind fun z => match z with
  | .bool true => (h r).bind fun e => (op2 b e).nox
  | .bool false => .ok (.bool false)
  | _ => .bad
/-- a list's method of one argument -/
def cMth (op : List PyData → PyData → R PyData) (f g : Ex) : Ex := fun r => (f r).bind fun a => match a with
  | .list ds => (g r).bind fun b => (op ds b).nox
  | _ => .bad
def aNil : Exl := fun _ => .ok []
def aCons (f : Ex) (g : Exl) : Exl := fun r => (f r).bind fun a => (g r).bind fun as => .ok (a :: as)
def aBad : Exl := fun _ => .bad
def cTup (as : Exl) : Ex := fun r => (as r).bind fun ds => if ds.length ≤ SZ then .ok (.tuple ds) else .bad
def cLst (as : Exl) : Exl := fun r => (as r).bind fun ds => if ds.length ≤ SZ then .ok ds else .bad
def cL (f : Exl) : Ex := fun r => (f r).bind fun ds => .ok (.list ds)
def cCall (n : Nat) (g : List PyData → R PyData) (as : Exl) : Ex := fun r => (as r).bind fun ds => if ds.length = n then g ds else .bad
/-- one of several defs, chosen by its place -/
def cSel (fs : List (Nat × (List PyData → R PyData))) (k : Ex) (as : Exl) : Ex := fun r => (k r).bind fun d => match d with
  | .int i => if 0 ≤ i then (match fs[i.toNat]? with
    | some p => (as r).bind fun ds => if ds.length = p.1 then p.2 ds else .bad
    | none => .bad) else .bad
  | _ => .bad
def cCall0 (n : Nat) (g : List PyData → R PyData) : Ex := fun _ => if n = 0 then (g []).nox else .bad
/-- an item, the length of a slot -/
def cIxV (i : Nat) (g : Ex) : Ex := fun r => match r[i]? with
  | some (some (.dat d)) => (g r).bind fun k => (idxD d k).nox
  | some (some (.own ds)) => (g r).bind fun k => (idxD (.list ds) k).nox
  | _ => .bad
def cLenV (i : Nat) : Ex := fun r => match r[i]? with
  | some (some (.dat d)) => (lenD d).nox
  | some (some (.own ds)) => .ok (.int ds.length)
  | _ => .bad
/-- k in x, k not in x: x a dict that changes no more -/
def cInV (i : Nat) (z : Bool) (f : Ex) : Ex := fun r => (f r).bind fun d => match r[i]?, d with
  | some (some (.dfz ks)), .int n => .ok (.bool (ks.contains n == z))
  | _, _ => .bad
/-- a def that gives a new list -/
def cCallL (n : Nat) (g : List PyData → R (List PyData)) (as : Exl) : Exl := fun r => (as r).bind fun ds => if ds.length = n then g ds else .bad
abbrev Eo := En → R (Option Int)
def oNone : Eo := fun _ => .ok none
def asI : PyData → R (Option Int)
  | .int i => .ok (some i)
  | _ => .bad
def oSome (f : Ex) : Eo := fun r => (f r).bind fun d => (asI d).nox
def cSlc (f : Ex) (lo hi : Eo) : Ex := fun r => (f r).bind fun d => (lo r).bind fun l => (hi r).bind fun h => (slcD d l h).nox
/-! ### what is walked -/
def itemsD : PyData → R (List PyData)
  | .list ds => .ok ds
  | .tuple ds => .ok ds
  | _ => .bad
def iVal (f : Ex) : Exl := fun r => (f r).bind fun d => (itemsD d).nox
/-- the keys of a dict -/
def iKeyV (i : Nat) : Exl := fun r => match r[i]? with
  | some (some (.dfz ks)) => .ok (ks.map .int)
  | _ => .bad
def R62 : Int := 4611686018427387904
def in62 (a : Int) : Bool := decide (-R62 ≤ a) && decide (a < R62)
def rangeL (lo hi : Int) : List PyData := (List.range (hi - lo).toNat).map fun (k : Nat) => PyData.int (lo + (k : Int))
def iRng1 (f : Ex) : Exl := fun r => (f r).bind fun d => match d with
  | .int n => if in62 n then .ok (rangeL 0 n) else .bad
  | _ => .bad
def iRng2 (f g : Ex) : Exl := fun r => (f r).bind fun d => (g r).bind fun e => match d, e with
  | .int a, .int b => if in62 a && in62 b then .ok (rangeL a b) else .bad
  | _, _ => .bad
def rng3L (lo st : Int) (n : Nat) : List PyData := (List.range n).map fun (k : Nat) => PyData.int (lo + (k : Int) * st)
def iRng3 (f g h : Ex) : Exl := fun r => (f r).bind fun d => (g r).bind fun e => (h r).bind fun t => match d, e, t with
  | .int a, .int b, .int c => if in62 a && in62 b && decide (0 < c) && decide (c < 1000000000) then .ok (rng3L a c ((b - a + c - 1) / c).toNat) else .bad
  | _, _, _ => .bad
def enumFrom (k : Nat) : List PyData → List PyData
  | [] => []
  | d :: r => .tuple [.int (k : Int), d] :: enumFrom (k + 1) r
def iEnum (f : Ex) : Exl := fun r => (f r).bind fun d => (itemsD d).nox.bind fun ds => .ok (enumFrom 0 ds)
def zipL : List PyData → List PyData → List PyData
  | a :: r, b :: s => .tuple [a, b] :: zipL r s
  | _, _ => []
def iZip (f g : Ex) : Exl := fun r => (f r).bind fun d => (g r).bind fun e => match d, e with
  | .list a, .list b => .ok (zipL a b)
  | .tuple a, .tuple b => .ok (zipL a b)
  | _, _ => .bad
/-- tuple(zip(a, b)), list(zip(a, b)) -/
def tzipD (a b : PyData) : R PyData := (itemsD a).bind fun x => (itemsD b).bind fun y => .ok (.tuple (zipL x y))
def lzipD (a b : PyData) : R PyData := (itemsD a).bind fun x => (itemsD b).bind fun y => .ok (.list (zipL x y))
/-- each once -/
def ddp {α : Type} [BEq α] : List α → List α
  | [] => []
  | x :: r => if r.contains x then ddp r else x :: ddp r
/-- sorted(set(a)) -/
def ssetD : PyData → R PyData
  | .list ds => match intsOf ds with
    | some ns => if ns.length < 4000 then .ok (.list ((sortI (ddp ns)).map .int)) else .bad
    | none => match tupsOf ds with
      | some ts => if decide ((ddp ts).length < 63) && (decide ((ddp ts).length ≤ 1) || ts.all fun t => !t.isEmpty) then .ok (.list ((sortT (ddp ts)).map fun t => .tuple (t.map .int))) else .bad
      | none => .bad
  | _ => .bad
/-! ### targets -/
abbrev Tg := PyData → En → R En
def gN (i : Nat) : Tg := fun d r => if i < r.length then .ok (r.set i (some (.dat d))) else .bad
abbrev Tgs := List PyData → En → R En
def gNil : Tgs := fun ds r => match ds with
  | [] => .ok r
  | _ => .bad
def gCons (g : Tg) (h : Tgs) : Tgs := fun ds r => match ds with
  | d :: ds => (g d r).bind fun r1 => h ds r1
  | [] => .bad
def gT (h : Tgs) : Tg := fun d r => match d with
  | .tuple ds => h ds r
  | _ => .bad
def gBad : Tg := fun _ _ => .bad
/-! ### comprehensions -/
def wipeE (r : En) : List Nat → En
  | [] => r
  | v :: vs => (wipeE r vs).set v none
def compGo (g : Tg) (t : En → R Bool) (e : Ex) (r : En) : List PyData → R (List PyData)
  | [] => .ok []
  | d :: ds => (g d r).nox.bind fun r1 => (t r1).nox.bind fun b =>
      if b then (e r1).nox.bind fun y => (compGo g t e r ds).bind fun ys => .ok (y :: ys)
      else compGo g t e r ds
def tYes : En → R Bool := fun _ => .ok true
def cComp (vs : List Nat) (src : Exl) (g : Tg) (t : En → R Bool) (e : Ex) : Exl := fun r =>
  (src r).bind fun ds => (compGo g t e (wipeE r vs) ds).bind fun ys => if ys.length ≤ SZ then .ok ys else .bad

/-- two fors -/
def comp2Go (vs1 : List Nat) (g : Tg) (t : En → R Bool) (src1 : Exl) (g1 : Tg) (t1 : En → R Bool) (e : Ex) (r : En) : List PyData → R (List PyData)
  | [] => .ok []
  | d :: ds => (g d r).nox.bind fun r1 => (t r1).nox.bind fun b =>
      if b then (src1 r1).nox.bind fun es => (compGo g1 t1 e (wipeE r1 vs1) es).bind fun ys => (comp2Go vs1 g t src1 g1 t1 e r ds).bind fun zs => .ok (ys ++ zs)
      else comp2Go vs1 g t src1 g1 t1 e r ds
def cComp2 (vs vs1 : List Nat) (src : Exl) (g : Tg) (t : En → R Bool) (src1 : Exl) (g1 : Tg) (t1 : En → R Bool) (e : Ex) : Exl := fun r =>
  (src r).bind fun ds => (comp2Go vs1 g t src1 g1 t1 e (wipeE r vs) ds).bind fun ys => if ys.length ≤ SZ then .ok ys else .bad

/-! ### statements -/
inductive Fl where
  | nx | ret (d : PyData) | brk | cont
inductive RS where
  | ok (f : Fl) (r : En)
  | exc (c : Str) (r : En)
  | bad
abbrev Ss := En → RS
def sBad : Ss := fun _ => .bad
def sNil : Ss := fun r => .ok .nx r
def sSeq (s t : Ss) : Ss := fun r => match s r with
  | .ok .nx r1 => t r1
  | x => x
def lift {α : Type} (x : R α) (r : En) (k : α → RS) : RS := match x with
  | .ok a => k a
  | .exc c => .exc c r
  | .bad => .bad
def sIf (t : Ex) (a b : Ss) : Ss := fun r => lift (cT t r) r fun z => if z then a r else b r
def sRet (f : Ex) : Ss := fun r => lift (f r) r fun d => .ok (.ret d) r
def sDrop (f : Ex) : Ss := fun r => lift (f r) r fun _ => .ok .nx r
def sRaise (c : Str) : Ss := fun r => .exc c r
/-- what is stored: data, or a new list of the slot's own -/
def xD (f : Ex) : Exo := fun r => (f r).bind fun d => .ok (.dat d)
def xO (f : Exl) : Exo := fun r => (f r).bind fun ds => .ok (.own ds)
def xK : Exo := fun _ => .ok (.dct [])
def putI (ks : List Int) (n : Int) : List Int := if ks.contains n then ks else ks ++ [n]
def put (i : Nat) (s : Sl) (r : En) (k : En → RS) : RS := if i < r.length then k (r.set i (some s)) else .bad
def sSet (i : Nat) (x : Exo) : Ss := fun r => lift (x r) r fun s => put i s r fun r1 => .ok .nx r1
def sPar (i j : Nat) (x y : Exo) : Ss := fun r => lift (x r) r fun s => lift (y r) r fun t => put i s r fun r1 => put j t r1 fun r2 => .ok .nx r2
def sPar3 (i j k : Nat) (x y z : Exo) : Ss := fun r => lift (x r) r fun s => lift (y r) r fun t => lift (z r) r fun u => put i s r fun r1 => put j t r1 fun r2 => put k u r2 fun r3 => .ok .nx r3
def sAsg (f : Ex) (g : Tg) : Ss := fun r => lift (f r) r fun d => match g d r with
  | .ok r1 => .ok .nx r1
  | _ => .bad
def frz1 (i : Nat) (r : En) : En := match r[i]? with
  | some (some (.own ds)) => r.set i (some (.dat (.list ds)))
  | some (some (.dct ks)) => r.set i (some (.dfz ks))
  | _ => r
def sFrz (is : List Nat) (s : Ss) : Ss := fun r => s (is.foldl (fun r i => frz1 i r) r)
def sApp (i : Nat) (f : Ex) : Ss := fun r => match r[i]? with
  | some (some (.own ds)) => lift (f r) r fun d => if ds.length < SZ then .ok .nx (r.set i (some (.own (ds ++ [d])))) else .bad
  | _ => .bad
def sExt (i : Nat) (f : Ex) : Ss := fun r => match r[i]? with
  | some (some (.own ds)) => lift (f r) r fun d => match d with
    | .list es => if ds.length + es.length ≤ SZ then .ok .nx (r.set i (some (.own (ds ++ es)))) else .bad
    | _ => .bad
  | _ => .bad
/-- x[k] = e, x a list of its own -/
def sPut (i : Nat) (k e : Ex) : Ss := fun r => match r[i]? with
  | some (some (.own ds)) => lift (e r) r fun d => lift (k r) r fun n => match n with
    | .int n => if 0 ≤ n ∧ n.toNat < ds.length then .ok .nx (r.set i (some (.own (ds.set n.toNat d)))) else .bad
    | _ => .bad
  | some (some (.dct ks)) => lift (e r) r fun d => lift (k r) r fun n => match d, n with
    | .bool true, .int n => if ks.length < SZ then .ok .nx (r.set i (some (.dct (putI ks n)))) else .bad
    | _, _ => .bad
  | _ => .bad
def forGo (g : Tg) (b : Ss) : List PyData → Ss
  | [], r => .ok .nx r
  | d :: ds, r => match g d r with
    | .ok r1 => match b r1 with
      | .ok .nx r2 => forGo g b ds r2
      | .ok .cont r2 => forGo g b ds r2
      | .ok .brk r2 => .ok .nx r2
      | x => x
    | _ => .bad
def sFor (src : Exl) (g : Tg) (b : Ss) : Ss := fun r => lift (src r) r fun ds => forGo g b ds r
def whGo (t : Ex) (b : Ss) : Nat → Ss
  | 0, _ => .bad
  | n + 1, r => lift (cT t r) r fun z => if z then (match b r with
      | .ok .nx r2 => whGo t b n r2
      | .ok .cont r2 => whGo t b n r2
      | .ok .brk r2 => .ok .nx r2
      | x => x) else .ok .nx r
/-- wf: more turns than any loop takes -/
def sWh (wf : Nat) (t : Ex) (b : Ss) : Ss := whGo t b wf

/-- try .. except X as e: m tells whether X takes the class, h the suite -/
def sTry (i : Nat) (m : Str → Option Bool) (b : Ss) (h : Str → Ss) : Ss := fun r => match b r with
  | .exc c r1 => (match m c with
    | some true => if i < r1.length then (match h c (r1.set i none) with
      | .ok .nx r2 => .ok .nx (r2.set i none)
      | .ok (.ret d) r2 => .ok (.ret d) r2
      | _ => .bad) else .bad
    | some false => .exc c r1
    | none => .bad)
  | x => x

/-! ### a def -/
/-- the number of turns at which the laws are taken -/
def WFN : Nat := 100000
def startE (n : Nat) (ds : List PyData) : En := ds.map (fun d => some (.dat d)) ++ List.replicate (n - ds.length) none
def runD (n : Nat) (b : Ss) (ds : List PyData) : R PyData := match b (startE n ds) with
  | .ok .nx _ => .ok .none
  | .ok (.ret d) _ => .ok d
  | .exc c _ => .exc c
  | _ => .bad

/-! ### the evaluator -/
structure Tab where
  fns : List (Str × Nat × (List PyData → R PyData))
  con : List (Str × PyData)
  blt : List Str
  exs : List Str
  iss : List ((Str × Str) × Bool)
  fnl : List (Str × Nat × (List PyData → R (List PyData))) := []
structure Cc where
  N : List Str
  sc : Scope
  cw : Str → Bool
  mu : List Nat
  T : Tab
def Cc.slot (c : Cc) (x : Str) : Option Nat := match c.sc.names.lookup x with
  | some .local => c.N.findIdx? (· == x)
  | some .cell => c.N.findIdx? (· == x)
  | some .free => c.N.findIdx? (· == x)
  | _ => none
def okName (x : Str) : Bool := !(x == ("__debug__" : Str)) && !(x == ("__classdict__" : Str)) && !(x == ("__name__" : Str))
/-- the slot of a name that holds a dict -/
def Cc.dslot (c : Cc) (y : Str) : Option Nat := if okName y then (match c.slot y with
    | some i => if c.mu.contains (1000 + i) then some i else none
    | none => none) else none
def Cc.isGl (c : Cc) (x : Str) : Bool := match c.sc.names.lookup x with
  | some .globalImplicit => true
  | _ => false
def nameE (c : Cc) (x : Str) : Ex := if okName x then (match c.slot x with
    | some i => cV i
    | none => if c.isGl x then (match c.T.con.lookup x with
        | some d => cC d
        | none => cBad) else cBad) else cBad
/-- the slot of a name that is stored to -/
def Cc.slotW (c : Cc) (x : Str) : Option Nat := match c.sc.names.lookup x with
  | some .local => c.N.findIdx? (· == x)
  | some .cell => if c.cw x then c.N.findIdx? (· == x) else none
  | _ => none
def isStar : Expr → Bool
  | .Starred .. => true
  | _ => false
def argsE (r : Expr → Ex) : List Expr → Exl
  | [] => aNil
  | e :: es => aCons (r e) (argsE r es)
def args (r : Expr → Ex) (es : List Expr) : Exl := if es.any isStar then aBad else argsE r es
def boolE (op : BoolOp) (r : Expr → Ex) : List Expr → Ex
  | [] => cBad
  | [a] => r a
  | a :: b :: es => match op with
    | .And => cAnd (r a) (boolE op r (b :: es))
    | .Or => cOr (r a) (boolE op r (b :: es))
def cmpOf : CmpOp → Option (PyData → PyData → R PyData)
  | .Eq => some eqD
  | .NotEq => some neD
  | .Lt => some ltD
  | .LtE => some leD
  | .Gt => some gtD
  | .GtE => some geD
  | .In => some inD
  | .NotIn => some notInD
  | _ => none
def ordOf : CmpOp → Option (PyData → PyData → R PyData)
  | .Lt => some ltD
  | .LtE => some leD
  | .Gt => some gtD
  | .GtE => some geD
  | _ => none
def binOf : Operator → Option (PyData → PyData → R PyData)
  | .Add => some addD
  | .Sub => some subD
  | .Mult => some mulD
  | .FloorDiv => some fdivD
  | .Mod => some modD
  | .Pow => some powD
  | _ => none
def tyOf (x : Str) : Option Ty := if x = "int" then some .int else if x = "bool" then some .bool else if x = "tuple" then some .tuple else if x = "list" then some .list else if x = "str" then some .str else none
def bltE (x : Str) (r : Expr → Ex) (sl : Str → Option Nat) (gl : Str → Bool) : List Expr → Ex
  | [.Name y p] => if x = "len" then (match sl y with | some i => if okName y then cLenV i else cBad | none => c1 lenD (r (.Name y p)))
      else if x = "abs" then c1 absD (r (.Name y p)) else if x = "sum" then c1 sumD (r (.Name y p)) else if x = "max" then c1 maxD (r (.Name y p)) else if x = "min" then c1 minD (r (.Name y p))
      else if x = "all" then c1 allD (r (.Name y p)) else if x = "any" then c1 anyD (r (.Name y p)) else if x = "tuple" then c1 tupleD (r (.Name y p)) else if x = "list" then c1 listD (r (.Name y p)) else if x = "sorted" then c1 sortedD (r (.Name y p)) else cBad
  | [e] => if isStar e then cBad else if x = "len" then c1 lenD (r e) else if x = "abs" then c1 absD (r e) else if x = "sum" then c1 sumD (r e) else if x = "max" then c1 maxD (r e) else if x = "min" then c1 minD (r e)
      else if x = "all" then c1 allD (r e) else if x = "any" then c1 anyD (r e) else if x = "tuple" then c1 tupleD (r e) else if x = "list" then c1 listD (r e) else if x = "sorted" then c1 sortedD (r e) else cBad
  | [e, f] => if isStar e || isStar f then cBad else if x = "max" then c2 max2D (r e) (r f) else if x = "min" then c2 min2D (r e) (r f) else if x = "isinstance" then (match f with
      | .Name y _ => if gl y then (match tyOf y with | some t => c1 (isiD t) (r e) | none => cBad) else cBad
      | _ => cBad) else cBad
  | _ => cBad
/-- a name that is global and that the module does not bind -/
def Cc.free (c : Cc) (x : Str) : Bool := c.isGl x && c.T.blt.contains x && okName x
/-- a call within a call -/
def nestE (c : Cc) (r : Expr → Ex) (x : Str) : List Expr → Option Ex
  | [.Call (.Name z _) [a, b] [] _] => if c.free x && c.free z && z == "zip" && !isStar a && !isStar b then (if x = "tuple" then some (c2 tzipD (r a) (r b)) else if x = "list" then some (c2 lzipD (r a) (r b)) else none) else none
  | [.Call (.Name z _) [a] [] _] => if c.free x && c.free z && x == "sorted" && z == "set" && !isStar a then some (c1 ssetD (r a)) else none
  | _ => none
def callE (c : Cc) (r : Expr → Ex) (x : Str) (es : List Expr) : Ex := if c.isGl x && okName x then (match c.T.fns.lookup x with
    | some (n, g) => match es with
      | [] => cCall0 n g
      | es => cCall n g (args r es)
    | none => if c.T.blt.contains x then (match nestE c r x es with
      | some f => f
      | none => bltE x r c.slot c.free es) else cBad) else cBad
def selFs (c : Cc) : List Expr → Option (List (Nat × (List PyData → R PyData)))
  | [] => some []
  | .Name x _ :: es => if c.isGl x && okName x then (match c.T.fns.lookup x with
    | some p => (selFs c es).map (p :: ·)
    | none => none) else none
  | _ :: _ => none
def selE (c : Cc) (r : Expr → Ex) (fs : List Expr) (k : Expr) (es : List Expr) : Ex := match selFs c fs, es with
  | some l, e :: es => if (e :: es).any isStar || decide (1000 < l.length) then cBad else cSel l (r k) (argsE r (e :: es))
  | _, _ => cBad
def isTupE : Expr → Bool
  | .Tuple .. => true
  | _ => false
def iBad : Exl := fun _ => .bad
def srcE (c : Cc) (r : Expr → Ex) (tg : Expr) : Expr → Exl
  | .Call (.Name x p) [a] [] pos => if c.free x && !isStar a then (if x = "range" then iRng1 (r a) else if x = "enumerate" then (if isTupE tg then iEnum (r a) else iBad) else iVal (r (.Call (.Name x p) [a] [] pos))) else iVal (r (.Call (.Name x p) [a] [] pos))
  | .Call (.Name x p) [a, b] [] pos => if c.free x && !isStar a && !isStar b then (if x = "range" then iRng2 (r a) (r b) else if x = "zip" then (if isTupE tg then iZip (r a) (r b) else iBad) else iVal (r (.Call (.Name x p) [a, b] [] pos))) else iVal (r (.Call (.Name x p) [a, b] [] pos))
  | .Call (.Name x p) [a, b, d] [] pos => if c.free x && x == "range" && !isStar a && !isStar b && !isStar d then iRng3 (r a) (r b) (r d) else iVal (r (.Call (.Name x p) [a, b, d] [] pos))
  | .Set .. => iBad
  | .Name y p => (match c.dslot y with
    | some i => iKeyV i
    | none => iVal (r (.Name y p)))
  | e => iVal (r e)
def tgtE (c : Cc) : Nat → Expr → Tg
  | 0, _ => gBad
  | _ + 1, .Name x _ => if okName x then (match c.slotW x with | some i => gN i | none => gBad) else gBad
  | n + 1, .Tuple es _ _ => if es.any isStar then gBad else gT (es.foldr (fun e h => gCons (tgtE c n e) h) gNil)
  | _ + 1, _ => gBad
def tslots (c : Cc) : Nat → Expr → List Nat
  | 0, _ => []
  | _ + 1, .Name x _ => (c.slotW x).toList
  | n + 1, .Tuple es _ _ => es.flatMap fun e => tslots c n e
  | _ + 1, _ => []
/-- the names that a comprehension's block has of its own, with their places -/
def ownOf (N : List Str) (scope : Scope) : List (Str × Nat) := scope.names.filterMap fun y => match y.2 with
  | .local => (N.findIdx? (· == y.1)).map fun i => (y.1, i)
  | .cell => (N.findIdx? (· == y.1)).map fun i => (y.1, i)
  | _ => none
def Cc.inner (c : Cc) (scope : Scope) : Cc := { c with sc := L2.relS scope c.sc, cw := fun x => scope.names.lookup x == some .cell }
/-- an expression that stands as a test -/
def okTest : Expr → Bool
  | .IfExp .. => false
  | _ => true
def testsE (r : Expr → Ex) : List Expr → Option (En → R Bool)
  | [] => some tYes
  | [e] => if okTest e then some (cT (r e)) else none
  | _ => none
def isSetE : Expr → Bool
  | .Set .. => true
  | _ => false
def compE (r : Cc → Expr → Ex) (c : Cc) : Expr → Option Exl
  | .ListComp elt [⟨tg, iter, ifs, 0⟩] scope _ => if L2.blkC c.N c.sc scope (ownOf c.N scope) && (tslots (c.inner scope) 3 tg).all (fun i => ((ownOf c.N scope).map (·.2)).contains i) then (match testsE (r (c.inner scope)) ifs with
      | some t => some (cComp ((ownOf c.N scope).map (·.2)) (srcE c (r c) tg iter) (tgtE (c.inner scope) 3 tg) t (r (c.inner scope) elt))
      | none => none) else none
  | .ListComp elt [⟨tg, iter, ifs, 0⟩, ⟨tg1, iter1, ifs1, 0⟩] scope _ => if L2.blkC c.N c.sc scope (ownOf c.N scope) && (tslots (c.inner scope) 3 tg).all (fun i => ((ownOf c.N scope).map (·.2)).contains i) && (tslots (c.inner scope) 3 tg1).all (fun i => ((ownOf c.N scope).map (·.2)).contains i) && !isSetE iter && !isSetE iter1 then (match testsE (r (c.inner scope)) ifs, testsE (r (c.inner scope)) ifs1 with
      | some t, some t1 => some (cComp2 ((ownOf c.N scope).map (·.2)) (tslots (c.inner scope) 3 tg1) (srcE c (r c) tg iter) (tgtE (c.inner scope) 3 tg) t (srcE (c.inner scope) (r (c.inner scope)) tg1 iter1) (tgtE (c.inner scope) 3 tg1) t1 (r (c.inner scope) elt))
      | _, _ => none) else none
  | _ => none
def sliceO (r : Expr → Ex) : Option Expr → Eo
  | none => oNone
  | some e => oSome (r e)
def isCall0 : Expr → Bool
  | .Call (.Name _ _) [] [] _ => true
  | _ => false
def mthOf (m : Str) : Option (List PyData → PyData → R PyData) := if m = "index" then some indexL else if m = "count" then some countL else none
/-- k in x, x a dict -/
def inDct (c : Cc) : CmpOp → Expr → Option (Nat × Bool)
  | .In, .Name y _ => (c.dslot y).map fun i => (i, true)
  | .NotIn, .Name y _ => (c.dslot y).map fun i => (i, false)
  | _, _ => none
def isSlc : Expr → Bool
  | .Slice .. => true
  | _ => false
def stepE (r : Cc → Expr → Ex) (c : Cc) : Expr → Ex
  | .Constant (.int i) _ _ => cC (.int i)
  | .Constant (.bool b) _ _ => cC (.bool b)
  | .Constant .none _ _ => cC .none
  | .Constant (.str x) _ _ => cC (.str x)
  | .Name x _ => nameE c x
  | .BinOp a op b _ => match binOf op with
    | some f => c2 f (r c a) (r c b)
    | none => cBad
  | .UnaryOp .USub a _ => c1 negD (r c a)
  | .UnaryOp .Not a _ => if okTest a then c1 notD (r c a) else cBad
  | .BoolOp op es _ => if es.all okTest then boolE op (r c) es else cBad
  | .IfExp t a b _ => if okTest t then cIf (r c t) (r c a) (r c b) else cBad
  | .Compare a [.Is] [.Constant .none _ _] _ => c1 isNoneD (r c a)
  | .Compare a [.IsNot] [.Constant .none _ _] _ => c1 notNoneD (r c a)
  | .Compare a [.Is] [.Constant (.bool b) _ _] _ => c1 (isBoolD b) (r c a)
  | .Compare a [.IsNot] [.Constant (.bool b) _ _] _ => c1 (notBoolD b) (r c a)
  | .Compare a [op] [b] _ => match inDct c op b with
    | some (i, z) => cInV i z (r c a)
    | none => if behindInMarks op b then cBad else match cmpOf op with
      | some f => c2 f (r c a) (r c b)
      | none => cBad
  | .Compare a [o1, o2] [b, d] _ => match ordOf o1, ordOf o2 with
    | some f, some g => cCh f g (r c a) (r c b) (r c d)
    | _, _ => cBad
  | .Call (.Name x _) es [] _ => callE c (r c) x es
  | .Call (.Attribute o m ap) [e] [] cp => if isCall0 o || isStar e || !(ap.endLine == cp.line) then cBad else match mthOf m with
    | some op => cMth op (r c o) (r c e)
    | none => cBad
  | .Call (.Subscript (.List fs _) k _) es [] _ => if isSlc k then cBad else selE c (r c) fs k es
  | .Tuple es _ _ => cTup (args (r c) es)
  | .List es _ => cL (cLst (args (r c) es))
  | .Subscript v (.Slice none none (some (.UnaryOp .USub (.Constant (.int 1) _ _) _)) _) _ => c1 revD (r c v)
  | .Subscript v (.Slice lo hi none _) _ => cSlc (r c v) (sliceO (r c) lo) (sliceO (r c) hi)
  | .Subscript v (.Slice _ _ (some _) _) _ => cBad
  | .Subscript (.Name x _) k _ => if okName x then (match c.slot x with
    | some i => cIxV i (r c k)
    | none => cBad) else cBad
  | .Subscript v k _ => c2 idxD (r c v) (r c k)
  | .ListComp e g s p => match compE r c (.ListComp e g s p) with
    | some f => cL f
    | none => cBad
  | _ => cBad
def evE : Nat → Cc → Expr → Ex
  | 0, _, _ => cBad
  | n + 1, c, e => stepE (evE n) c e
/-! ### statements -/
def purely {α : Type} : Sem α → Option α
  | .pure a => some a
  | _ => none
def envOf (sc : Scope) : Env := { scope := sc, locals := 0, globals := 0, cells := [] }
/-- names that stand as values in an expression -/
def occE : Nat → Expr → List Str
  | 0, _ => []
  | _ + 1, .Name x _ => [x]
  | n + 1, .Subscript v (.Slice lo hi _ _) _ => occE n v ++ (lo.map (occE n)).getD [] ++ (hi.map (occE n)).getD []
  | n + 1, .Subscript (.Name _ _) k _ => occE n k
  | n + 1, .Subscript v k _ => occE n v ++ occE n k
  | _ + 1, .Call (.Name f _) [.Name y _] _ _ => if f = "len" then [] else [y]
  | n + 1, .Call (.Name _ _) es _ _ => es.flatMap (occE n)
  | n + 1, .Call f es _ _ => occE n f ++ es.flatMap (occE n)
  | n + 1, .Attribute v _ _ => occE n v
  | n + 1, .BinOp a _ b _ => occE n a ++ occE n b
  | n + 1, .UnaryOp _ a _ => occE n a
  | n + 1, .BoolOp _ es _ => es.flatMap (occE n)
  | n + 1, .Compare a _ bs _ => occE n a ++ bs.flatMap (occE n)
  | n + 1, .IfExp a b c _ => occE n a ++ occE n b ++ occE n c
  | n + 1, .Tuple es _ _ => es.flatMap (occE n)
  | n + 1, .List es _ => es.flatMap (occE n)
  | n + 1, .ListComp e gs _ _ => occE n e ++ gs.flatMap fun g => occE n g.iter ++ g.ifs.flatMap (occE n)
  | _, _ => []
/-- the slots of lists of their own that an expression takes as values -/
def frzOf (c : Cc) (e : Expr) : List Nat := c.mu.filter fun i => match c.N[i]? with
  | some x => (occE 12 e).contains x
  | none => false
def pre (is : List Nat) (s : Ss) : Ss := match is with
  | [] => s
  | is => sFrz is s
def cMulL (f : Exl) (g : Ex) : Exl := fun r => (f r).bind fun ds => (g r).bind fun d => match d with
  | .int k => if decide (0 ≤ k) && decide (k ≤ 1000) && decide (ds.length ≤ 1000) then .ok (List.replicate k.toNat ds).flatten else .bad
  | _ => .bad
/-- the value that is stored to slot i -/
def valX (c : Cc) (r : Cc → Expr → Ex) (i : Nat) (e : Expr) : Exo := if c.mu.contains i then (match e with
    | .List es _ => xO (cLst (args (r c) es))
    | .BinOp (.List es _) .Mult b _ => xO (cMulL (cLst (args (r c) es)) (r c b))
    | .ListComp e g s p => (match compE r c (.ListComp e g s p) with
      | some f => xO f
      | none => xD cBad)
    | .Dict [] [] _ => if c.mu.contains (1000 + i) then xK else xD cBad
    | .Call (.Name x p) (a :: es) [] pos => if c.isGl x && okName x && !(a :: es).any isStar then (match c.T.fnl.lookup x with
      | some (n, g) => xO (cCallL n g (argsE (r c) (a :: es)))
      | none => xD (r c (.Call (.Name x p) (a :: es) [] pos))) else xD (r c (.Call (.Name x p) (a :: es) [] pos))
    | e => xD (r c e)) else xD (r c e)
def isComp : Expr → Bool
  | .ListComp .. => true
  | .SetComp .. => true
  | .DictComp .. => true
  | _ => false
def lineOf (p : Pos) : Nat := p.line
def asgE (c : Cc) (r : Cc → Expr → Ex) (tg e : Expr) (pos : Pos) : Ss := match tg, e with
  | .Name x p, e => if okName x then (match c.slotW x with
      | some i => (match purely (swapsWith e (some (.Name x p)) pos.line (envOf c.sc)) with
        | some false => pre (frzOf c e) (sSet i (valX c r i e))
        | some true => (match compE r c e with
          | some f => (match c.sc.names.lookup x with
            | some .local => pre (frzOf c e) (sSet i (if c.mu.contains i then xO f else xD (cL f)))
            | _ => sBad)
          | none => sBad)
        | none => sBad)
      | none => sBad) else sBad
  | .Tuple [.Name x px, .Name y py] kt pt, .Tuple [a, b] kv pv => if okName x && okName y && !isStar a && !isStar b then (match c.slotW x, c.slotW y with
      | some i, some j => if i = j then sBad else (match purely (swappedStores [.Tuple [.Name x px, .Name y py] kt pt] (.Tuple [a, b] kv pv) (envOf c.sc)) with
        | some (some ns) => if ns = [x, y] ∧ c.sc.names.lookup x = some .local ∧ c.sc.names.lookup y = some .local then pre (frzOf c e) (sPar i j (valX c r i a) (valX c r j b)) else sBad
        | some none => pre (frzOf c e) (sPar i j (valX c r i a) (valX c r j b))
        | none => sBad)
      | _, _ => sBad) else sBad
  | .Tuple [.Name x px, .Name y py, .Name z pz] kt pt, .Tuple [a, b, d] kv pv => if okName x && okName y && okName z && !isStar a && !isStar b && !isStar d then (match c.slotW x, c.slotW y, c.slotW z with
      | some i, some j, some k => if i = j ∨ i = k ∨ j = k then sBad else (match purely (swappedStores [.Tuple [.Name x px, .Name y py, .Name z pz] kt pt] (.Tuple [a, b, d] kv pv) (envOf c.sc)) with
        | some (some ns) => if ns = [x, y, z] ∧ c.sc.names.lookup x = some .local ∧ c.sc.names.lookup y = some .local ∧ c.sc.names.lookup z = some .local then pre (frzOf c e) (sPar3 i j k (valX c r i a) (valX c r j b) (valX c r k d)) else sBad
        | some none => pre (frzOf c e) (sPar3 i j k (valX c r i a) (valX c r j b) (valX c r k d))
        | none => sBad)
      | _, _, _ => sBad) else sBad
  | .Subscript (.Name x _) k _, e => (match k with
      | .Slice .. => sBad
      | k => if isComp e then sBad else if okName x then (match c.slot x with
        | some i => pre (frzOf c e) (sPut i (r c k) (r c e))
        | none => sBad) else sBad)
  | .Tuple ts kt pt, e => (match purely (swappedStores [.Tuple ts kt pt] e (envOf c.sc)) with
      | some none => if isComp e then sBad else pre (frzOf c e) (sAsg (r c e) (tgtE c 3 (.Tuple ts kt pt)))
      | _ => sBad)
  | _, _ => sBad
def blockE (s : Stmt → Ss) : List Stmt → Ss
  | [] => sNil
  | [st] => s st
  | st :: sts => sSeq (s st) (blockE s sts)
def exprE (c : Cc) (r : Cc → Expr → Ex) : Expr → Ss
  | .Call (.Attribute (.Name x p) m ap) [e] [] cp => if okName x && !isStar e && (ap.endLine == cp.line) then (match c.slot x with
      | some i => if m = "append" then pre (frzOf c e) (sApp i (r c e)) else if m = "extend" then pre (frzOf c e) (sExt i (r c e)) else sBad
      | none => sBad) else sBad
  | .Call (.Name x p) es [] pos => pre (frzOf c (.Call (.Name x p) es [] pos)) (sDrop (r c (.Call (.Name x p) es [] pos)))
  | .Call (.Subscript (.List fs p) k q) es [] pos => pre (frzOf c (.Call (.Subscript (.List fs p) k q) es [] pos)) (sDrop (r c (.Call (.Subscript (.List fs p) k q) es [] pos)))
  | .Constant (.str _) _ _ => sNil
  | _ => sBad
/-! ### an except suite: n names the exception, cl is its class -/
def hotE (c : Cc) (n cl : Str) : Nat → Expr → Ex
  | 0, _ => cBad
  | _ + 1, .Constant (.int i) _ _ => cC (.int i)
  | _ + 1, .Constant (.bool b) _ _ => cC (.bool b)
  | _ + 1, .Constant .none _ _ => cC .none
  | _ + 1, .Constant (.str x) _ _ => cC (.str x)
  | _ + 1, .Name x _ => nameE c x
  | _ + 1, .Call (.Name f _) [.Name y _, .Name x _] [] _ => if f == "isinstance" && c.free "isinstance" && y == n && c.isGl x && okName x then (match c.T.iss.lookup (cl, x) with
    | some b => cC (.bool b)
    | none => cBad) else cBad
  | k + 1, .Call (.Attribute o m ap) [e] [] cp => if isCall0 o || isStar e || !(ap.endLine == cp.line) then cBad else match mthOf m with
    | some op => cMth op (hotE c n cl k o) (hotE c n cl k e)
    | none => cBad
  | k + 1, .BinOp a .Add b _ => c2 addD (hotE c n cl k a) (hotE c n cl k b)
  | k + 1, .Tuple es _ _ => cTup (args (hotE c n cl k) es)
  | k + 1, .List es _ => cL (cLst (args (hotE c n cl k) es))
  | _, _ => cBad
def hotS (c : Cc) (n cl : Str) : Stmt → Ss
  | .Return (some e) _ => sRet (hotE c n cl 12 e)
  | .Assign [.Name x p] e pos => if okName x && !(x == n) then (match c.slotW x with
      | some i => (match purely (swapsWith e (some (.Name x p)) pos.line (envOf c.sc)) with
        | some false => sSet i (xD (hotE c n cl 12 e))
        | _ => sBad)
      | none => sBad) else sBad
  | _ => sBad
def tryE (c : Cc) (s : Cc → Stmt → Ss) (body : List Stmt) (x n : Str) (suite : List Stmt) : Ss := if c.isGl x && okName x && okName n && (c.T.iss.any fun e => (c.T.iss.lookup (e.1.1, x)).isSome) then (match c.sc.names.lookup n with
    | some .local => (match c.N.findIdx? (· == n) with
      | some i => sTry i (fun cl => c.T.iss.lookup (cl, x)) (blockE (s c) body) (fun cl => blockE (hotS c n cl) suite)
      | none => sBad)
    | _ => sBad) else sBad
def stepS (wf : Nat) (r : Cc → Expr → Ex) (s : Cc → Stmt → Ss) (c : Cc) : Stmt → Ss
  | .Pass _ => sNil
  | .Break _ => fun r => .ok .brk r
  | .Continue _ => fun r => .ok .cont r
  | .Return (some e) _ => pre (frzOf c e) (sRet (r c e))
  | .Return none _ => fun r => .ok (.ret .none) r
  | .If t a b _ => if okTest t then pre (frzOf c t) (sIf (r c t) (blockE (s c) a) (blockE (s c) b)) else sBad
  | .While t b [] _ => if okTest t then sWh wf (r c t) (blockE (s c) b) else sBad
  | .For tg it b [] _ => pre (frzOf c it) (sFor (srcE c (r c) tg it) (tgtE c 3 tg) (blockE (s c) b))
  | .Raise (some (.Call (.Name x _) [.Constant (.str _) _ _] [] _)) none _ => if c.isGl x && okName x && c.T.exs.contains x then sRaise x else sBad
  | .Expr e _ => exprE c r e
  | .Assign [tg] e pos => asgE c r tg e pos
  | .Try body [.ExceptHandler (some (.Name x _)) (some n) (b :: suite) _] [] [] _ => tryE c s body x n (b :: suite)
  | _ => sBad
def evS (wf : Nat) : Nat → Cc → Stmt → Ss
  | 0, _, _ => sBad
  | n + 1, c, st => stepS wf (evE 30) (evS wf n) c st
/-- a def's function on data -/
def defD (wf : Nat) (T : Tab) (N : List Str) (mu : List Nat) (st : Stmt) : List PyData → R PyData :=
  runD N.length (blockE (evS wf 12 ⟨N, L2.defScope st, fun _ => true, mu, T⟩) (L2.defBody st))
/-- .. one that gives a new list at once -/
def retE : List Stmt → Option Expr
  | [.Return (some e) _] => some e
  | _ => none
def retL (c : Cc) (b : List Stmt) : Exl := match (retE b).bind (compE (evE 29) c) with
  | some f => f
  | none => aBad
def defL (T : Tab) (N : List Str) (st : Stmt) : List PyData → R (List PyData) := fun ds => retL ⟨N, L2.defScope st, fun _ => true, [], T⟩ (L2.defBody st) (startE N.length ds)
end Rt
/-! Rt, part N: numbers: remainders, greatest common divisors, times that repeat. -/
namespace Rq
theorem mod_iff {p s t : Int} (hp : 0 < p) (h0 : 0 ≤ s) (h1 : s < p) : t % p = s ↔ p ∣ t - s := by
  constructor
  · intro h
    have e := Int.mul_ediv_add_emod t p
    exact ⟨t / p, by rw [h] at e; omega⟩
  · rintro ⟨k, hk⟩
    have e : t = s + p * k := by omega
    rw [e, Int.add_mul_emod_self_left, Int.emod_eq_of_lt h0 h1]
theorem mod_unique {p s t : Int} (hp : 0 < p) (h0 : 0 ≤ s) (h1 : s < p) (k : Int) (e : t = s + p * k) : t % p = s := by
  rw [e, Int.add_mul_emod_self_left, Int.emod_eq_of_lt h0 h1]
theorem bezout_nat : ∀ (a b : Nat), ∃ x y : Int, (a : Int) * x + (b : Int) * y = (Nat.gcd a b : Int) := by
  intro a b
  refine Nat.gcd.induction (P := fun a b => ∃ x y : Int, (a : Int) * x + (b : Int) * y = (Nat.gcd a b : Int)) a b ?_ ?_
  · intro n
    exact ⟨0, 1, by simp⟩
  · intro m n hm ih
    obtain ⟨x, y, h⟩ := ih
    refine ⟨y - ((n / m : Nat) : Int) * x, x, ?_⟩
    rw [Nat.gcd_rec m n, ← h]
    have e : (n : Int) = (m : Int) * ((n / m : Nat) : Int) + ((n % m : Nat) : Int) := by
      have := Nat.div_add_mod n m
      exact_mod_cast this.symm
    generalize ((n / m : Nat) : Int) = q at *
    generalize ((n % m : Nat) : Int) = r at *
    rw [e]
    have e1 : (m : Int) * (y - q * x) = (m : Int) * y - (m : Int) * q * x := by rw [Int.mul_sub, Int.mul_assoc]
    have e2 : ((m : Int) * q + r) * x = (m : Int) * q * x + r * x := by rw [Int.add_mul]
    omega
theorem bezout {p q : Int} (hp : 0 < p) (hq : 0 < q) : ∃ x y : Int, p * x + q * y = (Int.gcd p q : Int) := by
  obtain ⟨a, rfl⟩ := Int.eq_ofNat_of_zero_le (Int.le_of_lt hp)
  obtain ⟨b, rfl⟩ := Int.eq_ofNat_of_zero_le (Int.le_of_lt hq)
  exact bezout_nat a b
theorem gcd_pos {p q : Int} (hp : 0 < p) : (0 : Int) < (Int.gcd p q : Int) := by
  have := Int.gcd_pos_of_ne_zero_left q (a := p) (by omega)
  omega
theorem lcm_pos' {p q : Int} (hp : 0 < p) (hq : 0 < q) : (0 : Int) < (Int.lcm p q : Int) := by
  have := Int.lcm_pos (m := p) (n := q) (by omega) (by omega)
  omega
theorem lcm_dvd' {p q d : Int} (h1 : p ∣ d) (h2 : q ∣ d) : (Int.lcm p q : Int) ∣ d := by
  have a1 : p ∣ ((d.natAbs : Nat) : Int) := by
    rcases Int.natAbs_eq d with e | e
    · rw [← e]; exact h1
    · have : ((d.natAbs : Nat) : Int) = -d := by omega
      rw [this]; exact (Int.dvd_neg).mpr h1
  have a2 : q ∣ ((d.natAbs : Nat) : Int) := by
    rcases Int.natAbs_eq d with e | e
    · rw [← e]; exact h2
    · have : ((d.natAbs : Nat) : Int) = -d := by omega
      rw [this]; exact (Int.dvd_neg).mpr h2
  have a3 := Int.lcm_dvd a1 a2
  have a4 : (Int.lcm p q : Int) ∣ ((d.natAbs : Nat) : Int) := Int.ofNat_dvd.mpr a3
  rcases Int.natAbs_eq d with e | e
  · rw [e]; exact a4
  · rw [e]; exact (Int.dvd_neg).mpr a4
/-- p // gcd * q is the least common multiple -/
theorem div_gcd_mul {p q : Int} (hp : 0 < p) (hq : 0 < q) : p / (Int.gcd p q : Int) * q = (Int.lcm p q : Int) := by
  have g := gcd_pos (q := q) hp
  have h := Int.gcd_mul_lcm p q
  have h' : (Int.gcd p q : Int) * (Int.lcm p q : Int) = p * q := by
    have : ((Int.gcd p q * Int.lcm p q : Nat) : Int) = ((p.natAbs * q.natAbs : Nat) : Int) := by rw [h]
    have e1 : ((p.natAbs : Nat) : Int) = p := by omega
    have e2 : ((q.natAbs : Nat) : Int) = q := by omega
    rw [Int.natCast_mul, Int.natCast_mul, e1, e2] at this
    exact this
  have h2 : (Int.gcd p q : Int) * (p / (Int.gcd p q : Int) * q) = p * q := by
    rw [← Int.mul_assoc, Int.mul_ediv_cancel' (Int.gcd_dvd_left p q)]
  exact Int.eq_of_mul_eq_mul_left (by omega) (h2.trans h'.symm)
/-- times at which both ring -/
theorem solve {p s q t : Int} (hp : 0 < p) (hq : 0 < q) (h : (Int.gcd p q : Int) ∣ s - t) : ∃ z, p ∣ z - s ∧ q ∣ z - t := by
  obtain ⟨k, hk⟩ := h
  obtain ⟨x, y, e⟩ := bezout hp hq
  refine ⟨s - p * x * k, ⟨-(x * k), ?_⟩, ⟨y * k, ?_⟩⟩
  · rw [Int.mul_neg, ← Int.mul_assoc]; omega
  · have : (p * x + q * y) * k = p * x * k + q * y * k := by rw [Int.add_mul]
    rw [e] at this
    rw [← Int.mul_assoc]
    omega
theorem solve_dvd {p s q t z : Int} (h1 : p ∣ z - s) (h2 : q ∣ z - t) : (Int.gcd p q : Int) ∣ s - t := by
  have a1 : (Int.gcd p q : Int) ∣ z - s := Int.dvd_trans (Int.gcd_dvd_left p q) h1
  have a2 : (Int.gcd p q : Int) ∣ z - t := Int.dvd_trans (Int.gcd_dvd_right p q) h2
  have := Int.dvd_sub a2 a1
  have e : z - t - (z - s) = s - t := by omega
  rw [e] at this; exact this
/-- the one time in a window of the length of the least common multiple -/
theorem solve_in {p s q t : Int} (hp : 0 < p) (hq : 0 < q) (h : (Int.gcd p q : Int) ∣ s - t) (lo : Int) : ∃ z, lo ≤ z ∧ z < lo + (Int.lcm p q : Int) ∧ p ∣ z - s ∧ q ∣ z - t := by
  obtain ⟨z, h1, h2⟩ := solve hp hq h
  have hl := lcm_pos' hp hq
  refine ⟨lo + (z - lo) % (Int.lcm p q : Int), by have := Int.emod_nonneg (z - lo) (b := (Int.lcm p q : Int)) (by omega); omega, by have := Int.emod_lt_of_pos (z - lo) hl; omega, ?_, ?_⟩
  · have e := Int.mul_ediv_add_emod (z - lo) (Int.lcm p q : Int)
    have : lo + (z - lo) % (Int.lcm p q : Int) - s = (z - s) - (Int.lcm p q : Int) * ((z - lo) / (Int.lcm p q : Int)) := by omega
    rw [this]
    exact Int.dvd_sub h1 (Int.dvd_trans (Int.dvd_lcm_left p q) (Int.dvd_mul_right _ _))
  · have e := Int.mul_ediv_add_emod (z - lo) (Int.lcm p q : Int)
    have : lo + (z - lo) % (Int.lcm p q : Int) - t = (z - t) - (Int.lcm p q : Int) * ((z - lo) / (Int.lcm p q : Int)) := by omega
    rw [this]
    exact Int.dvd_sub h2 (Int.dvd_trans (Int.dvd_lcm_right p q) (Int.dvd_mul_right _ _))
theorem dvd_small {m d : Int} (h : m ∣ d) (h1 : -m < d) (h2 : d < m) : d = 0 := by
  by_cases hd : d = 0
  · exact hd
  · by_cases hp : 0 < d
    · have := Int.le_of_dvd hp h; omega
    · have := Int.le_of_dvd (a := m) (b := -d) (by omega) ((Int.dvd_neg).mpr h); omega
theorem solve_unique {p s q t z y : Int} (h1 : p ∣ z - s) (h2 : q ∣ z - t) (h3 : p ∣ y - s) (h4 : q ∣ y - t) : (Int.lcm p q : Int) ∣ z - y := by
  refine lcm_dvd' ?_ ?_
  · have := Int.dvd_sub h1 h3
    have e : z - s - (y - s) = z - y := by omega
    rw [e] at this; exact this
  · have := Int.dvd_sub h2 h4
    have e : z - t - (y - t) = z - y := by omega
    rw [e] at this; exact this
/-- the ints lo, lo + 1, .. below hi -/
def rangeI (lo hi : Int) : List Int := (List.range (hi - lo).toNat).map fun (k : Nat) => lo + (k : Int)
theorem mem_rangeI {lo hi i : Int} : i ∈ rangeI lo hi ↔ lo ≤ i ∧ i < hi := by
  unfold rangeI
  simp only [List.mem_map, List.mem_range]
  constructor
  · rintro ⟨k, hk, rfl⟩
    omega
  · rintro ⟨h1, h2⟩
    exact ⟨(i - lo).toNat, by omega, by omega⟩
theorem rangeI_length (lo hi : Int) : (rangeI lo hi).length = (hi - lo).toNat := by simp [rangeI]
theorem rangeI_sorted (lo hi : Int) : (rangeI lo hi).Pairwise (· < ·) := by
  unfold rangeI
  rw [List.pairwise_map]
  exact (List.pairwise_lt_range).imp fun h => by omega
/-- two ascending lists with the same members are one -/
theorem sorted_ext : ∀ {a b : List Int}, a.Pairwise (· < ·) → b.Pairwise (· < ·) → (∀ x, x ∈ a ↔ x ∈ b) → a = b
  | [], [], _, _, _ => rfl
  | [], y :: b, _, _, h => by have := (h y).mpr (by simp); simp at this
  | x :: a, [], _, _, h => by have := (h x).mp (by simp); simp at this
  | x :: a, y :: b, ha, hb, h => by
    rw [List.pairwise_cons] at ha hb
    have hxy : x = y := by
      rcases List.mem_cons.mp ((h x).mp (by simp)) with e | e
      · exact e
      · rcases List.mem_cons.mp ((h y).mpr (by simp)) with e2 | e2
        · exact e2.symm
        · have := ha.1 y e2
          have := hb.1 x e
          omega
    subst hxy
    congr 1
    refine sorted_ext ha.2 hb.2 fun z => ?_
    constructor
    · intro hz
      rcases List.mem_cons.mp ((h z).mp (List.mem_cons_of_mem _ hz)) with e | e
      · have := ha.1 z hz; omega
      · exact e
    · intro hz
      rcases List.mem_cons.mp ((h z).mpr (List.mem_cons_of_mem _ hz)) with e | e
      · have := hb.1 z hz; omega
      · exact e
/-- the common times in two cycles -/
theorem times_two {p s q t : Int} (hp : 0 < p) (hs : 0 ≤ s) (hsp : s < p) (hq : 0 < q) (ht : 0 ≤ t) (htq : t < q) {z : Int} (z0 : 0 ≤ z) (z1 : z < (Int.lcm p q : Int)) (zs : z % p = s) (zt : z % q = t) :
    (rangeI 0 (2 * (Int.lcm p q : Int))).filter (fun x => decide (x % p = s) && decide (x % q = t)) = [z, z + (Int.lcm p q : Int)] := by
  have hl := lcm_pos' hp hq
  refine sorted_ext ((rangeI_sorted _ _).filter _) (by simp; omega) fun x => ?_
  rw [List.mem_filter, mem_rangeI]
  simp only [Bool.and_eq_true, decide_eq_true_eq, List.mem_cons, List.not_mem_nil, or_false]
  rw [mod_iff hp hs hsp] at zs
  rw [mod_iff hq ht htq] at zt
  constructor
  · rintro ⟨⟨x0, x1⟩, xs, xt⟩
    rw [mod_iff hp hs hsp] at xs
    rw [mod_iff hq ht htq] at xt
    obtain ⟨k, hk⟩ := solve_unique xs xt zs zt
    by_cases hk0 : k ≤ -1
    · have : (Int.lcm p q : Int) * k ≤ (Int.lcm p q : Int) * (-1) := Int.mul_le_mul_of_nonneg_left hk0 (by omega)
      omega
    · by_cases hk2 : 2 ≤ k
      · have : (Int.lcm p q : Int) * 2 ≤ (Int.lcm p q : Int) * k := Int.mul_le_mul_of_nonneg_left hk2 (by omega)
        omega
      · have : k = 0 ∨ k = 1 := by omega
        rcases this with rfl | rfl
        · left; omega
        · right; omega
  · intro h
    rcases h with rfl | rfl
    · exact ⟨⟨z0, by omega⟩, (mod_iff hp hs hsp).mpr zs, (mod_iff hq ht htq).mpr zt⟩
    · refine ⟨⟨by omega, by omega⟩, (mod_iff hp hs hsp).mpr ?_, (mod_iff hq ht htq).mpr ?_⟩
      · have e : z + (Int.lcm p q : Int) - s = (z - s) + (Int.lcm p q : Int) := by omega
        rw [e]; exact Int.dvd_add zs (Int.dvd_lcm_left p q)
      · have e : z + (Int.lcm p q : Int) - t = (z - t) + (Int.lcm p q : Int) := by omega
        rw [e]; exact Int.dvd_add zt (Int.dvd_lcm_right p q)
end Rq
namespace Pg
open PySem Rt
def p_is_int (wf : Nat) : List PyData → R PyData := runD 3
  (sRet (cAnd (c1 (isiD .int) (cV 0)) (cAnd (c1 notD (c1 (isiD .bool) (cV 0))) (cCh leD leD (cV 1) (cV 0) (cV 2)))))
def p_is_alarm (wf : Nat) : List PyData → R PyData := runD 1
  (sSeq (sIf (cOr (c1 notD (c1 (isiD .tuple) (cV 0))) (cOr (c2 neD (cLenV 0) (cC (.int 2))) (c1 notD (cCall 3 (p_is_int wf) (aCons (cIxV 0 (cC (.int 0))) (aCons (cC (.int 1)) (aCons (cC (.int 60)) aNil))))))) (sRet (cC (.bool false))) sNil)
  (sRet (cCall 3 (p_is_int wf) (aCons (cIxV 0 (cC (.int 1))) (aCons (cC (.int 0)) (aCons (c2 subD (cIxV 0 (cC (.int 0))) (cC (.int 1))) aNil))))))
def p_is_row (wf : Nat) : List PyData → R PyData := runD 2
  (sRet (cAnd (c1 (isiD .tuple) (cV 0)) (cAnd (c2 leD (cLenV 0) (cC (.int 6))) (c1 allD (cL (cComp [1] (iVal (cV 0)) (gN 1) tYes (cCall 1 (p_is_alarm wf) (aCons (cV 1) aNil))))))))
def p_check_alarm (wf : Nat) : List PyData → R PyData := runD 1
  (sIf (c1 notD (cCall 1 (p_is_alarm wf) (aCons (cV 0) aNil))) (sRaise "InvalidAlarm") sNil)
def p_check_row (wf : Nat) : List PyData → R PyData := runD 1
  (sIf (c1 notD (cCall 1 (p_is_row wf) (aCons (cV 0) aNil))) (sRaise "InvalidRow") sNil)
def p_check_time (wf : Nat) : List PyData → R PyData := runD 1
  (sIf (cOr (c1 notD (c1 (isiD .int) (cV 0))) (cOr (c1 (isiD .bool) (cV 0)) (c2 ltD (cV 0) (cC (.int 0))))) (sRaise "InvalidTime") sNil)
def p_does_ring (wf : Nat) : List PyData → R PyData := runD 2
  (sRet (c2 eqD (c2 modD (cV 1) (cIxV 0 (cC (.int 0)))) (cIxV 0 (cC (.int 1)))))
def p_rings (wf : Nat) : List PyData → R PyData := runD 2
  (sSeq (sDrop (cCall 1 (p_check_alarm wf) (aCons (cV 0) aNil)))
  (sSeq (sDrop (cCall 1 (p_check_time wf) (aCons (cV 1) aNil)))
  (sRet (cCall 2 (p_does_ring wf) (aCons (cV 0) (aCons (cV 1) aNil))))))
def p_next_ring (wf : Nat) : List PyData → R PyData := runD 2
  (sSeq (sDrop (cCall 1 (p_check_alarm wf) (aCons (cV 0) aNil)))
  (sSeq (sDrop (cCall 1 (p_check_time wf) (aCons (cV 1) aNil)))
  (sRet (c2 addD (cV 1) (c2 modD (c2 subD (cIxV 0 (cC (.int 1))) (cV 1)) (cIxV 0 (cC (.int 0))))))))
def p_find_ringing (wf : Nat) : List PyData → R PyData := runD 4
  (sRet (cL (cComp [2, 3] (iEnum (cV 0)) (gT (gCons (gN 2) (gCons (gN 3) gNil))) (cT (cCall 2 (p_does_ring wf) (aCons (cV 3) (aCons (cV 1) aNil)))) (cV 2))))
def p_ring_times (wf : Nat) : List PyData → R PyData := runD 4
  (sSeq (sDrop (cCall 1 (p_check_row wf) (aCons (cV 0) aNil)))
  (sSeq (sDrop (cCall 1 (p_check_time wf) (aCons (cV 1) aNil)))
  (sSeq (sDrop (cCall 1 (p_check_time wf) (aCons (cV 2) aNil)))
  (sSeq (sIf (c2 gtD (c2 subD (cV 2) (cV 1)) (cC (.int 1000))) (sRaise "TooLarge") sNil)
  (sRet (cL (cComp [3] (iRng2 (cV 1) (cV 2)) (gN 3) (cT (c2 neD (cCall 2 (p_find_ringing wf) (aCons (cV 0) (aCons (cV 3) aNil))) (cL (cLst aNil)))) (cV 3))))))))
def p_ringing (wf : Nat) : List PyData → R PyData := runD 2
  (sSeq (sDrop (cCall 1 (p_check_row wf) (aCons (cV 0) aNil)))
  (sSeq (sDrop (cCall 1 (p_check_time wf) (aCons (cV 1) aNil)))
  (sRet (cCall 2 (p_find_ringing wf) (aCons (cV 0) (aCons (cV 1) aNil))))))
def p_divisor (wf : Nat) : List PyData → R PyData := runD 2
  (sSeq (sWh wf (c2 gtD (cV 1) (cC (.int 0))) (sPar 0 1 (xD (cV 1)) (xD (c2 modD (cV 0) (cV 1)))))
  (sRet (cV 0)))
def p_find_cycle (wf : Nat) : List PyData → R PyData := runD 4
  (sSeq (sSet 1 (xD (cC (.int 1))))
  (sSeq (sFor (iVal (cV 0)) (gT (gCons (gN 2) (gCons (gN 3) gNil))) (sSet 1 (xD (c2 mulD (c2 fdivD (cV 1) (cCall 2 (p_divisor wf) (aCons (cV 1) (aCons (cV 2) aNil)))) (cV 2)))))
  (sRet (cV 1))))
def p_cycle (wf : Nat) : List PyData → R PyData := runD 1
  (sSeq (sDrop (cCall 1 (p_check_row wf) (aCons (cV 0) aNil)))
  (sRet (cCall 1 (p_find_cycle wf) (aCons (cV 0) aNil))))
def p_count_rings (wf : Nat) : List PyData → R PyData := runD 4
  (sSeq (sDrop (cCall 1 (p_check_row wf) (aCons (cV 0) aNil)))
  (sSeq (sDrop (cCall 1 (p_check_time wf) (aCons (cV 1) aNil)))
  (sRet (c1 sumD (cL (cComp [2, 3] (iVal (cV 0)) (gT (gCons (gN 2) (gCons (gN 3) gNil))) tYes (c2 fdivD (c2 subD (c2 addD (c2 subD (cV 1) (cV 3)) (cV 2)) (cC (.int 1))) (cV 2))))))))
def p__law_pick (wf : Nat) : List PyData → R PyData := runD 7
  (sSeq (sSet 3 (xD (cIf (c2 neD (cV 0) (cL (cLst aNil))) (cIxV 0 (c2 modD (cV 1) (cLenV 0))) (cC (.int 0)))))
  (sSeq (sPar 4 5 (xD (c2 fdivD (cV 3) (c2 powD (cC (.int 10)) (cC (.int 18))))) (xD (c2 fdivD (cV 1) (c2 max2D (cLenV 0) (cC (.int 1))))))
  (sSeq (sWh wf (cAnd (c2 gtD (cV 4) (cC (.int 0))) (c2 gtD (cV 5) (cC (.int 0)))) (sPar 4 5 (xD (c2 fdivD (cV 4) (cC (.int 840)))) (xD (c2 subD (cV 5) (cC (.int 1))))))
  (sSeq (sIf (c2 gtD (cV 4) (cC (.int 0))) (sRet (c2 modD (c2 modD (cV 4) (cC (.int 840))) (cV 2))) sNil)
  (sSeq (sSet 6 (xD (c2 modD (c2 mulD (c2 addD (c2 mulD (cV 3) (cC (.int 31))) (c2 mulD (cC (.int 6151)) (c2 addD (cV 1) (cC (.int 1))))) (cC (.int 40692))) (cC (.int 2147483399)))))
  (sRet (c2 modD (c2 modD (c2 addD (c2 mulD (cV 6) (cV 6)) (c2 fdivD (cV 6) (cC (.int 31)))) (cC (.int 2147483629))) (cV 2))))))))
def p__law_alarm (wf : Nat) : List PyData → R PyData := runD 3
  (sSeq (sSet 2 (xD (c2 idxD (cTup (aCons (cC (.int 1)) (aCons (cC (.int 2)) (aCons (cC (.int 3)) (aCons (cC (.int 4)) (aCons (cC (.int 6)) (aCons (cC (.int 6)) (aCons (cC (.int 8)) (aCons (cC (.int 9)) (aCons (cC (.int 10)) (aCons (cC (.int 12)) (aCons (cC (.int 5)) (aCons (cC (.int 7)) aNil))))))))))))) (cCall 3 (p__law_pick wf) (aCons (cV 0) (aCons (cV 1) (aCons (cC (.int 12)) aNil)))))))
  (sRet (cTup (aCons (cV 2) (aCons (cCall 3 (p__law_pick wf) (aCons (cV 0) (aCons (c2 addD (cV 1) (cC (.int 1))) (aCons (cV 2) aNil)))) aNil)))))
def p__law_row (wf : Nat) : List PyData → R PyData := runD 4
  (sRet (c1 tupleD (cL (cComp [3] (iRng1 (cCall 3 (p__law_pick wf) (aCons (cV 0) (aCons (cV 1) (aCons (c2 addD (cV 2) (cC (.int 1))) aNil))))) (gN 3) tYes (cCall 2 (p__law_alarm wf) (aCons (cV 0) (aCons (c2 addD (c2 addD (cV 1) (cC (.int 1))) (c2 mulD (cC (.int 2)) (cV 3))) aNil)))))))
def p__law_heard (wf : Nat) : List PyData → R PyData := runD 3
  (sRet (cL (cComp [2] (iRng1 (cLenV 0)) (gN 2) (cT (c2 eqD (c2 modD (cV 1) (c2 idxD (cIxV 0 (cV 2)) (cC (.int 0)))) (c2 idxD (cIxV 0 (cV 2)) (cC (.int 1))))) (cV 2))))
def p__law_cycle (wf : Nat) : List PyData → R PyData := runD 5
  (sSeq (sSet 1 (xD (cC (.int 1))))
  (sSeq (sFor (iVal (cV 0)) (gT (gCons (gN 2) (gCons (gN 3) gNil))) (sSeq (sSet 4 (xD (cV 1)))
    (sSeq (sWh wf (c2 neD (c2 modD (cV 4) (cV 2)) (cC (.int 0))) (sSet 4 (xD (c2 addD (cV 4) (cV 1)))))
    (sSet 1 (xD (cV 4))))))
  (sRet (cV 1))))
def p__law_judged (wf : Nat) : List PyData → R PyData := runD 3
  (sSeq (sSet 0 (xD (cL (cLst (aCons (cCall 1 (p_is_alarm wf) (aCons (cTup (aCons (cC (.int 1)) (aCons (cC (.int 0)) aNil))) aNil)) (aCons (cCall 1 (p_is_alarm wf) (aCons (cTup (aCons (cC (.int 60)) (aCons (cC (.int 59)) aNil))) aNil)) (aCons (cCall 1 (p_is_row wf) (aCons (cTup aNil) aNil)) (aCons (cCall 1 (p_is_row wf) (aCons (c2 mulD (cTup (aCons (cTup (aCons (cC (.int 4)) (aCons (cC (.int 1)) aNil))) aNil)) (cC (.int 6))) aNil)) aNil))))))))
  (sSeq (sSet 1 (xO (cLst (aCons (cCall 1 (p_is_alarm wf) (aCons (cTup (aCons (cC (.int 0)) (aCons (cC (.int 0)) aNil))) aNil)) (aCons (cCall 1 (p_is_alarm wf) (aCons (cTup (aCons (cC (.int 61)) (aCons (cC (.int 0)) aNil))) aNil)) (aCons (cCall 1 (p_is_alarm wf) (aCons (cTup (aCons (cC (.int 4)) (aCons (cC (.int 4)) aNil))) aNil)) (aCons (cCall 1 (p_is_alarm wf) (aCons (cTup (aCons (cC (.int 4)) (aCons (c1 negD (cC (.int 1))) aNil))) aNil)) (aCons (cCall 1 (p_is_alarm wf) (aCons (cL (cLst (aCons (cC (.int 4)) (aCons (cC (.int 1)) aNil)))) aNil)) (aCons (cCall 1 (p_is_alarm wf) (aCons (cTup (aCons (cC (.int 4)) aNil)) aNil)) aNil)))))))))
  (sSeq (sExt 1 (cL (cLst (aCons (cCall 1 (p_is_alarm wf) (aCons (cTup (aCons (cC (.bool true)) (aCons (cC (.int 0)) aNil))) aNil)) (aCons (cCall 1 (p_is_alarm wf) (aCons (cTup (aCons (cC (.int 4)) (aCons (cC (.bool false)) aNil))) aNil)) (aCons (cCall 1 (p_is_alarm wf) (aCons (cTup (aCons (cC (.int 4)) (aCons (cC (.int 1)) (aCons (cC (.int 2)) aNil)))) aNil)) (aCons (cCall 1 (p_is_alarm wf) (aCons (cC .none) aNil)) (aCons (cCall 1 (p_is_row wf) (aCons (cC .none) aNil)) aNil))))))))
  (sSeq (sExt 1 (cL (cLst (aCons (cCall 1 (p_is_row wf) (aCons (cL (cLst (aCons (cTup (aCons (cC (.int 4)) (aCons (cC (.int 1)) aNil))) aNil))) aNil)) (aCons (cCall 1 (p_is_row wf) (aCons (c2 mulD (cTup (aCons (cTup (aCons (cC (.int 4)) (aCons (cC (.int 1)) aNil))) aNil)) (cC (.int 7))) aNil)) (aCons (cCall 1 (p_is_row wf) (aCons (cTup (aCons (cTup (aCons (cC (.int 4)) (aCons (cC (.int 4)) aNil))) aNil)) aNil)) (aCons (cCall 1 (p_is_row wf) (aCons (cTup (aCons (cC (.int 4)) (aCons (cC (.int 1)) aNil))) aNil)) aNil)))))))
  (sFrz [1] (sRet (cAnd (c1 allD (cL (cComp [2] (iVal (cV 0)) (gN 2) tYes (c1 (isBoolD true) (cV 2))))) (c1 allD (cL (cComp [2] (iVal (cV 1)) (gN 2) tYes (c1 (isBoolD false) (cV 2))))))))))))
def p_check_two (wf : Nat) : List PyData → R PyData := runD 2
  (sSeq (sDrop (cCall 1 (p_check_alarm wf) (aCons (cV 0) aNil)))
  (sDrop (cCall 1 (p_check_alarm wf) (aCons (cV 1) aNil))))
def p_do_meet (wf : Nat) : List PyData → R PyData := runD 2
  (sRet (c2 eqD (c2 modD (c2 subD (cIxV 0 (cC (.int 1))) (cIxV 1 (cC (.int 1)))) (cCall 2 (p_divisor wf) (aCons (cIxV 0 (cC (.int 0))) (aCons (cIxV 1 (cC (.int 0))) aNil)))) (cC (.int 0))))
def p_meet (wf : Nat) : List PyData → R PyData := runD 2
  (sSeq (sDrop (cCall 2 (p_check_two wf) (aCons (cV 0) (aCons (cV 1) aNil))))
  (sRet (cCall 2 (p_do_meet wf) (aCons (cV 0) (aCons (cV 1) aNil)))))
def p_both (wf : Nat) : List PyData → R PyData := runD 3
  (sSeq (sSet 2 (xD (cIxV 0 (cC (.int 1)))))
  (sSeq (sWh wf (c2 neD (c2 modD (cV 2) (cIxV 1 (cC (.int 0)))) (cIxV 1 (cC (.int 1)))) (sSet 2 (xD (c2 addD (cV 2) (cIxV 0 (cC (.int 0)))))))
  (sRet (cTup (aCons (c2 mulD (c2 fdivD (cIxV 0 (cC (.int 0))) (cCall 2 (p_divisor wf) (aCons (cIxV 0 (cC (.int 0))) (aCons (cIxV 1 (cC (.int 0))) aNil)))) (cIxV 1 (cC (.int 0)))) (aCons (cV 2) aNil))))))
def p_first_meeting (wf : Nat) : List PyData → R PyData := runD 2
  (sSeq (sDrop (cCall 2 (p_check_two wf) (aCons (cV 0) (aCons (cV 1) aNil))))
  (sRet (cIf (cCall 2 (p_do_meet wf) (aCons (cV 0) (aCons (cV 1) aNil))) (c2 idxD (cCall 2 (p_both wf) (aCons (cV 0) (aCons (cV 1) aNil))) (cC (.int 1))) (cC .none))))
def p_meetings (wf : Nat) : List PyData → R PyData := runD 6
  (sSeq (sDrop (cCall 2 (p_check_two wf) (aCons (cV 0) (aCons (cV 1) aNil))))
  (sSeq (sIf (c1 notD (cCall 3 (p_is_int wf) (aCons (cV 2) (aCons (cC (.int 0)) (aCons (cC (.int 20)) aNil))))) (sRaise "InvalidNumber") sNil)
  (sSeq (sIf (c1 notD (cCall 2 (p_do_meet wf) (aCons (cV 0) (aCons (cV 1) aNil)))) (sRet (cL (cLst aNil))) sNil)
  (sSeq (sAsg (cCall 2 (p_both wf) (aCons (cV 0) (aCons (cV 1) aNil))) (gT (gCons (gN 3) (gCons (gN 4) gNil))))
  (sRet (cL (cComp [5] (iRng1 (cV 2)) (gN 5) tYes (c2 addD (cV 4) (c2 mulD (cV 3) (cV 5))))))))))
def p_least_distance (wf : Nat) : List PyData → R PyData := runD 4
  (sSeq (sDrop (cCall 2 (p_check_two wf) (aCons (cV 0) (aCons (cV 1) aNil))))
  (sSeq (sSet 2 (xD (cCall 2 (p_divisor wf) (aCons (cIxV 0 (cC (.int 0))) (aCons (cIxV 1 (cC (.int 0))) aNil)))))
  (sSeq (sSet 3 (xD (c2 modD (c2 subD (cIxV 0 (cC (.int 1))) (cIxV 1 (cC (.int 1)))) (cV 2))))
  (sRet (c2 min2D (cV 3) (c2 subD (cV 2) (cV 3)))))))
def p_find_apart_b1 (wf : Nat) : Ss :=
  (sIf (c1 notD (cCall 2 (p_do_meet wf) (aCons (cV 2) (aCons (cIxV 0 (cV 3)) aNil)))) (sRet (cTup (aCons (cV 1) (aCons (cV 3) aNil)))) sNil)
def p_find_apart_b2 (wf : Nat) : Ss :=
  (sFor (iRng2 (c2 addD (cV 1) (cC (.int 1))) (cLenV 0)) (gN 3) (p_find_apart_b1 wf))
def p_find_apart (wf : Nat) : List PyData → R PyData := runD 4
  (sSeq (sFor (iEnum (cV 0)) (gT (gCons (gN 1) (gCons (gN 2) gNil))) (p_find_apart_b2 wf))
  (sRet (cC .none)))
def p_find_joined_b1 (wf : Nat) : Ss :=
  (sSet 1 (xD (cCall 2 (p_both wf) (aCons (cV 1) (aCons (cV 2) aNil)))))
def p_find_joined (wf : Nat) : List PyData → R PyData := runD 3
  (sSeq (sIf (c1 notNoneD (cCall 1 (p_find_apart wf) (aCons (cV 0) aNil))) (sRet (cC .none)) sNil)
  (sSeq (sSet 1 (xD (cTup (aCons (cC (.int 1)) (aCons (cC (.int 0)) aNil)))))
  (sSeq (sFor (iVal (cV 0)) (gN 2) (p_find_joined_b1 wf))
  (sRet (cV 1)))))
def p_all_meet (wf : Nat) : List PyData → R PyData := runD 1
  (sSeq (sDrop (cCall 1 (p_check_row wf) (aCons (cV 0) aNil)))
  (sRet (c1 isNoneD (cCall 1 (p_find_apart wf) (aCons (cV 0) aNil)))))
def p_first_together (wf : Nat) : List PyData → R PyData := runD 2
  (sSeq (sDrop (cCall 1 (p_check_row wf) (aCons (cV 0) aNil)))
  (sSeq (sSet 1 (xD (cCall 1 (p_find_joined wf) (aCons (cV 0) aNil))))
  (sRet (cIf (c1 notNoneD (cV 1)) (cIxV 1 (cC (.int 1))) (cC .none)))))
def p_apart (wf : Nat) : List PyData → R PyData := runD 1
  (sSeq (sDrop (cCall 1 (p_check_row wf) (aCons (cV 0) aNil)))
  (sRet (cCall 1 (p_find_apart wf) (aCons (cV 0) aNil))))
def p_joined (wf : Nat) : List PyData → R PyData := runD 1
  (sSeq (sDrop (cCall 1 (p_check_row wf) (aCons (cV 0) aNil)))
  (sRet (cCall 1 (p_find_joined wf) (aCons (cV 0) aNil))))
def p_all_groups_b1 (wf : Nat) : Ss :=
  (sSet 1 (xD (c2 addD (cV 1) (cL (cComp [3] (iVal (cV 1)) (gN 3) tYes (c2 addD (cV 3) (cTup (aCons (cV 2) aNil))))))))
def p_all_groups (wf : Nat) : List PyData → R PyData := runD 4
  (sSeq (sSet 1 (xD (cL (cLst (aCons (cTup aNil) aNil)))))
  (sSeq (sFor (iRng1 (cV 0)) (gN 2) (p_all_groups_b1 wf))
  (sRet (c1 sortedD (cL (cComp [3] (iVal (cV 1)) (gN 3) (cT (c2 neD (cV 3) (cTup aNil))) (cV 3)))))))
def p_chosen (wf : Nat) : List PyData → R PyData := runD 3
  (sRet (c1 tupleD (cL (cComp [2] (iVal (cV 1)) (gN 2) tYes (cIxV 0 (cV 2))))))
def p_meeting_groups (wf : Nat) : List PyData → R PyData := runD 2
  (sRet (cL (cComp [1] (iVal (cCall 1 (p_all_groups wf) (aCons (cLenV 0) aNil))) (gN 1) (cT (c1 isNoneD (cCall 1 (p_find_apart wf) (aCons (cCall 2 (p_chosen wf) (aCons (cV 0) (aCons (cV 1) aNil))) aNil)))) (cV 1))))
def p_find_crowd (wf : Nat) : List PyData → R PyData := runD 2
  (sRet (c1 maxD (c2 addD (cL (cLst (aCons (cC (.int 0)) aNil))) (cL (cComp [1] (iVal (cCall 1 (p_meeting_groups wf) (aCons (cV 0) aNil))) (gN 1) tYes (cLenV 1))))))
def p_greatest_crowd (wf : Nat) : List PyData → R PyData := runD 1
  (sSeq (sDrop (cCall 1 (p_check_row wf) (aCons (cV 0) aNil)))
  (sRet (cCall 1 (p_find_crowd wf) (aCons (cV 0) aNil))))
def p_find_groups (wf : Nat) : List PyData → R PyData := runD 3
  (sSeq (sSet 1 (xD (cCall 1 (p_find_crowd wf) (aCons (cV 0) aNil))))
  (sRet (cL (cComp [2] (iVal (cCall 1 (p_meeting_groups wf) (aCons (cV 0) aNil))) (gN 2) (cT (c2 eqD (cLenV 2) (cV 1))) (cV 2)))))
def p_largest_groups (wf : Nat) : List PyData → R PyData := runD 1
  (sSeq (sDrop (cCall 1 (p_check_row wf) (aCons (cV 0) aNil)))
  (sRet (cCall 1 (p_find_groups wf) (aCons (cV 0) aNil))))
def p_crowd_time (wf : Nat) : List PyData → R PyData := runD 2
  (sSeq (sDrop (cCall 1 (p_check_row wf) (aCons (cV 0) aNil)))
  (sRet (c1 minD (c2 addD (cL (cComp [1] (iVal (cCall 1 (p_find_groups wf) (aCons (cV 0) aNil))) (gN 1) tYes (c2 idxD (cCall 1 (p_find_joined wf) (aCons (cCall 2 (p_chosen wf) (aCons (cV 0) (aCons (cV 1) aNil))) aNil)) (cC (.int 1))))) (c2 mulD (cL (cLst (aCons (cC (.int 0)) aNil))) (c2 eqD (cV 0) (cTup aNil)))))))
def p_check_cycle (wf : Nat) : List PyData → R PyData := runD 1
  (sSeq (sDrop (cCall 1 (p_check_row wf) (aCons (cV 0) aNil)))
  (sIf (c2 gtD (cCall 1 (p_find_cycle wf) (aCons (cV 0) aNil)) (cC (.int 5000))) (sRaise "TooLarge") sNil))
def p_crowds_b1 (wf : Nat) : Ss :=
  (sSeq (sSet 3 (xD (c1 lenD (cCall 2 (p_find_ringing wf) (aCons (cV 0) (aCons (cV 2) aNil))))))
    (sPut 1 (cV 3) (c2 addD (cIxV 1 (cV 3)) (cC (.int 1)))))
def p_crowds (wf : Nat) : List PyData → R PyData := runD 4
  (sSeq (sDrop (cCall 1 (p_check_cycle wf) (aCons (cV 0) aNil)))
  (sSeq (sSet 1 (xO (cMulL (cLst (aCons (cC (.int 0)) aNil)) (c2 addD (cLenV 0) (cC (.int 1))))))
  (sSeq (sFor (iRng1 (cCall 1 (p_find_cycle wf) (aCons (cV 0) aNil))) (gN 2) (p_crowds_b1 wf))
  (sFrz [1] (sRet (cV 1))))))
def p_find_times_l (wf : Nat) : List PyData → R (List PyData) := fun ds => (cComp [1] (iRng1 (cCall 1 (p_find_cycle wf) (aCons (cV 0) aNil))) (gN 1) (cT (c2 neD (cCall 2 (p_find_ringing wf) (aCons (cV 0) (aCons (cV 1) aNil))) (cL (cLst aNil)))) (cV 1)) (startE 2 ds)
def p_find_times (wf : Nat) : List PyData → R PyData := runD 2
  (sRet (cL (cComp [1] (iRng1 (cCall 1 (p_find_cycle wf) (aCons (cV 0) aNil))) (gN 1) (cT (c2 neD (cCall 2 (p_find_ringing wf) (aCons (cV 0) (aCons (cV 1) aNil))) (cL (cLst aNil)))) (cV 1))))
def p_find_silent_b1 (wf : Nat) : Ss :=
  (sIf (c2 eqD (cCall 2 (p_find_ringing wf) (aCons (cV 0) (aCons (cV 1) aNil))) (cL (cLst aNil))) (sRet (cV 1)) sNil)
def p_find_silent (wf : Nat) : List PyData → R PyData := runD 2
  (sSeq (sFor (iRng1 (cCall 1 (p_find_cycle wf) (aCons (cV 0) aNil))) (gN 1) (p_find_silent_b1 wf))
  (sRet (cC .none)))
def p_first_silent (wf : Nat) : List PyData → R PyData := runD 1
  (sSeq (sDrop (cCall 1 (p_check_cycle wf) (aCons (cV 0) aNil)))
  (sRet (cCall 1 (p_find_silent wf) (aCons (cV 0) aNil))))
def p_is_never_silent (wf : Nat) : List PyData → R PyData := runD 1
  (sSeq (sDrop (cCall 1 (p_check_cycle wf) (aCons (cV 0) aNil)))
  (sRet (c1 isNoneD (cCall 1 (p_find_silent wf) (aCons (cV 0) aNil)))))
def p_longest_silence (wf : Nat) : List PyData → R PyData := runD 4
  (sSeq (sIf (c2 eqD (cV 0) (cTup aNil)) (sRaise "EmptyRow") sNil)
  (sSeq (sDrop (cCall 1 (p_check_cycle wf) (aCons (cV 0) aNil)))
  (sSeq (sSet 1 (xO (cCallL 1 (p_find_times_l wf) (aCons (cV 0) aNil))))
  (sSeq (sApp 1 (c2 addD (cIxV 1 (cC (.int 0))) (cCall 1 (p_find_cycle wf) (aCons (cV 0) aNil))))
  (sFrz [1] (sRet (c1 maxD (cL (cComp [2, 3] (iZip (cV 1) (cSlc (cV 1) (oSome (cC (.int 1))) oNone)) (gT (gCons (gN 2) (gCons (gN 3) gNil))) tYes (c2 subD (c2 subD (cV 3) (cV 2)) (cC (.int 1))))))))))))
def p_needless_b1 (wf : Nat) : Ss :=
  (sSeq (sSet 3 (xD (cCall 2 (p_find_ringing wf) (aCons (cV 0) (aCons (cV 2) aNil)))))
    (sIf (c2 eqD (cLenV 3) (cC (.int 1))) (sPut 1 (cIxV 3 (cC (.int 0))) (cC (.bool true))) sNil))
def p_needless (wf : Nat) : List PyData → R PyData := runD 5
  (sSeq (sDrop (cCall 1 (p_check_cycle wf) (aCons (cV 0) aNil)))
  (sSeq (sSet 1 xK)
  (sSeq (sFor (iRng1 (cCall 1 (p_find_cycle wf) (aCons (cV 0) aNil))) (gN 2) (p_needless_b1 wf))
  (sFrz [1] (sRet (cL (cComp [4] (iRng1 (cLenV 0)) (gN 4) (cT (cInV 1 false (cV 4))) (cV 4))))))))
def p_check_periods (wf : Nat) : List PyData → R PyData := runD 2
  (sIf (cOr (c1 notD (c1 (isiD .tuple) (cV 0))) (cOr (c2 gtD (cLenV 0) (cC (.int 6))) (c1 notD (c1 allD (cL (cComp [1] (iVal (cV 0)) (gN 1) tYes (cCall 3 (p_is_int wf) (aCons (cV 1) (aCons (cC (.int 1)) (aCons (cC (.int 12)) aNil)))))))))) (sRaise "InvalidPeriods") sNil)
def p_check_product_b1 (wf : Nat) : Ss :=
  (sSet 1 (xD (c2 mulD (cV 1) (cV 2))))
def p_check_product (wf : Nat) : List PyData → R PyData := runD 3
  (sSeq (sSet 1 (xD (cC (.int 1))))
  (sSeq (sFor (iVal (cV 0)) (gN 2) (p_check_product_b1 wf))
  (sIf (c2 gtD (cV 1) (cC (.int 20000))) (sRaise "TooLarge") sNil)))
def p_fits (wf : Nat) : List PyData → R PyData := runD 3
  (sRet (c1 notD (c1 anyD (cL (cComp [2] (iVal (cV 0)) (gN 2) tYes (cCall 2 (p_do_meet wf) (aCons (cV 2) (aCons (cV 1) aNil))))))))
def p_are_good (wf : Nat) : List PyData → R PyData := runD 7
  (sSeq (sDrop (cCall 1 (p_check_periods wf) (aCons (cV 0) aNil)))
  (sSeq (sIf (cOr (c1 notD (c1 (isiD .tuple) (cV 1))) (c2 neD (cLenV 1) (cLenV 0))) (sRet (cC (.bool false))) sNil)
  (sSeq (sIf (c1 notD (c1 allD (cL (cComp [5, 6] (iZip (cV 0) (cV 1)) (gT (gCons (gN 5) (gCons (gN 6) gNil))) tYes (cCall 3 (p_is_int wf) (aCons (cV 6) (aCons (cC (.int 0)) (aCons (c2 subD (cV 5) (cC (.int 1))) aNil)))))))) (sRet (cC (.bool false))) sNil)
  (sSeq (sSet 2 (xD (c2 tzipD (cV 0) (cV 1))))
  (sRet (c1 allD (cL (cComp [3, 4] (iEnum (cV 2)) (gT (gCons (gN 3) (gCons (gN 4) gNil))) tYes (cCall 2 (p_fits wf) (aCons (cSlc (cV 2) oNone (oSome (cV 3))) (aCons (cV 4) aNil)))))))))))
def p_all_good_b1 (wf : Nat) : Ss :=
  (sSeq (sSet 6 (xD (c2 tzipD (cV 0) (cV 5))))
      (sExt 4 (cL (cComp [7] (iRng1 (cV 3)) (gN 7) (cT (cCall 2 (p_fits wf) (aCons (cV 6) (aCons (cTup (aCons (cV 3) (aCons (cV 7) aNil))) aNil)))) (c2 addD (cV 5) (cTup (aCons (cV 7) aNil)))))))
def p_all_good_b2 (wf : Nat) : Ss :=
  (sSeq (sSet 4 (xO (cLst aNil)))
    (sSeq (sFor (iVal (cV 1)) (gN 5) (p_all_good_b1 wf))
    (sFrz [4] (sSet 1 (xD (cV 4))))))
def p_all_good (wf : Nat) : List PyData → R PyData := runD 8
  (sSeq (sSet 1 (xD (cL (cLst (aCons (cTup aNil) aNil)))))
  (sSeq (sFor (iEnum (cV 0)) (gT (gCons (gN 2) (gCons (gN 3) gNil))) (p_all_good_b2 wf))
  (sRet (cV 1))))
def p_check_both (wf : Nat) : List PyData → R PyData := runD 1
  (sSeq (sDrop (cCall 1 (p_check_periods wf) (aCons (cV 0) aNil)))
  (sDrop (cCall 1 (p_check_product wf) (aCons (cV 0) aNil))))
def p_good_shifts (wf : Nat) : List PyData → R PyData := runD 2
  (sSeq (sDrop (cCall 1 (p_check_both wf) (aCons (cV 0) aNil)))
  (sSeq (sSet 1 (xD (cCall 1 (p_all_good wf) (aCons (cV 0) aNil))))
  (sRet (cIf (c2 neD (cV 1) (cL (cLst aNil))) (cIxV 1 (cC (.int 0))) (cC .none)))))
def p_count_good (wf : Nat) : List PyData → R PyData := runD 1
  (sSeq (sDrop (cCall 1 (p_check_both wf) (aCons (cV 0) aNil)))
  (sRet (c1 lenD (cCall 1 (p_all_good wf) (aCons (cV 0) aNil)))))
def p__law_apart (wf : Nat) : List PyData → R PyData := runD 4
  (sSeq (sSet 2 (xD (c2 tzipD (cV 0) (cV 1))))
  (sRet (c1 notD (c1 anyD (cL (cComp [3] (iRng1 (cCall 1 (p__law_cycle wf) (aCons (cV 2) aNil))) (gN 3) tYes (c2 gtD (c1 lenD (cCall 2 (p__law_heard wf) (aCons (cV 2) (aCons (cV 3) aNil)))) (cC (.int 1)))))))))
def p_check_small (wf : Nat) : List PyData → R PyData := runD 3
  (sSeq (sDrop (cCall 1 (p_check_row wf) (aCons (cV 0) aNil)))
  (sSeq (sIf (c1 anyD (cL (cComp [1, 2] (iVal (cV 0)) (gT (gCons (gN 1) (gCons (gN 2) gNil))) tYes (c2 gtD (cV 1) (cC (.int 12)))))) (sRaise "TooLarge") sNil)
  (sDrop (cCall 1 (p_check_product wf) (aCons (cL (cComp [1, 2] (iVal (cV 0)) (gT (gCons (gN 1) (gCons (gN 2) gNil))) tYes (cV 1))) aNil)))))
def p__law_clear_b1 (wf : Nat) : Ss :=
  (sSeq (sAsg (cTup (aCons (cIxV 0 (cV 1)) (aCons (cIxV 0 (cV 2)) aNil))) (gT (gCons (gT (gCons (gN 3) (gCons (gN 4) gNil))) (gCons (gT (gCons (gN 5) (gCons (gN 6) gNil))) gNil))))
      (sIf (c1 anyD (cL (cComp [7] (iRng3 (cV 4) (c2 mulD (cV 3) (cV 5)) (cV 3)) (gN 7) tYes (c2 eqD (c2 modD (cV 7) (cV 5)) (cV 6))))) (sRet (cC (.bool false))) sNil))
def p__law_clear_b2 (wf : Nat) : Ss :=
  (sFor (iRng1 (cV 1)) (gN 2) (p__law_clear_b1 wf))
def p__law_clear (wf : Nat) : List PyData → R PyData := runD 8
  (sSeq (sFor (iRng1 (cLenV 0)) (gN 1) (p__law_clear_b2 wf))
  (sRet (cC (.bool true))))
def p__law_groups_b1 (wf : Nat) : Ss :=
  (sSet 1 (xD (c2 addD (cV 1) (cL (cComp [3] (iVal (cV 1)) (gN 3) tYes (c2 addD (cV 3) (cTup (aCons (cV 2) aNil))))))))
def p__law_groups (wf : Nat) : List PyData → R PyData := runD 4
  (sSeq (sSet 1 (xD (cL (cLst (aCons (cTup aNil) aNil)))))
  (sSeq (sFor (iRng1 (cV 0)) (gN 2) (p__law_groups_b1 wf))
  (sRet (cV 1))))
def p_check_number (wf : Nat) : List PyData → R PyData := runD 3
  (sIf (c1 notD (cCall 3 (p_is_int wf) (aCons (cV 0) (aCons (cV 1) (aCons (cV 2) aNil))))) (sRaise "InvalidNumber") sNil)
def p_rings_before (wf : Nat) : List PyData → R PyData := runD 2
  (sRet (cIf (c2 gtD (cV 1) (cIxV 0 (cC (.int 1)))) (c2 fdivD (c2 subD (c2 addD (c2 subD (cV 1) (cIxV 0 (cC (.int 1)))) (cIxV 0 (cC (.int 0)))) (cC (.int 1))) (cIxV 0 (cC (.int 0)))) (cC (.int 0))))
def p_find_rings (wf : Nat) : List PyData → R PyData := runD 4
  (sRet (c1 sumD (cL (cComp [3] (iVal (cV 0)) (gN 3) tYes (c2 subD (cCall 2 (p_rings_before wf) (aCons (cV 3) (aCons (c2 addD (cV 1) (cV 2)) aNil))) (cCall 2 (p_rings_before wf) (aCons (cV 3) (aCons (cV 1) aNil))))))))
def p_rings_in (wf : Nat) : List PyData → R PyData := runD 3
  (sSeq (sDrop (cCall 1 (p_check_row wf) (aCons (cV 0) aNil)))
  (sSeq (sDrop (cCall 1 (p_check_time wf) (aCons (cV 1) aNil)))
  (sSeq (sDrop (cCall 3 (p_check_number wf) (aCons (cV 2) (aCons (cC (.int 1)) (aCons (cC (.int 1000)) aNil)))))
  (sRet (cCall 3 (p_find_rings wf) (aCons (cV 0) (aCons (cV 1) (aCons (cV 2) aNil))))))))
def p_all_windows (wf : Nat) : List PyData → R PyData := runD 3
  (sSeq (sDrop (cCall 1 (p_check_row wf) (aCons (cV 0) aNil)))
  (sSeq (sDrop (cCall 3 (p_check_number wf) (aCons (cV 1) (aCons (cC (.int 1)) (aCons (cC (.int 1000)) aNil)))))
  (sSeq (sDrop (cCall 1 (p_check_cycle wf) (aCons (cV 0) aNil)))
  (sRet (cL (cComp [2] (iRng1 (cCall 1 (p_find_cycle wf) (aCons (cV 0) aNil))) (gN 2) tYes (cCall 3 (p_find_rings wf) (aCons (cV 0) (aCons (cV 2) (aCons (cV 1) aNil))))))))))
def p_most_rings (wf : Nat) : List PyData → R PyData := runD 2
  (sRet (c1 maxD (cCall 2 (p_all_windows wf) (aCons (cV 0) (aCons (cV 1) aNil)))))
def p_least_rings (wf : Nat) : List PyData → R PyData := runD 2
  (sRet (c1 minD (cCall 2 (p_all_windows wf) (aCons (cV 0) (aCons (cV 1) aNil)))))
def p_busiest (wf : Nat) : List PyData → R PyData := runD 3
  (sSeq (sSet 2 (xD (cCall 2 (p_all_windows wf) (aCons (cV 0) (aCons (cV 1) aNil)))))
  (sRet (cMth indexL (cV 2) (c1 maxD (cV 2)))))
def p_length_for_b1 (wf : Nat) : Ss :=
  (sExt 3 (c2 mulD (cL (cLst (aCons (cV 4) aNil))) (c1 lenD (cCall 2 (p_find_ringing wf) (aCons (cV 0) (aCons (cV 4) aNil))))))
def p_length_for_b2 (wf : Nat) : Ss :=
  (sSeq (sSet 8 (xD (c2 addD (cV 7) (cV 1))))
    (sApp 6 (c2 subD (c2 addD (cIxV 3 (c2 modD (cV 8) (cV 5))) (c2 mulD (c2 fdivD (cV 8) (cV 5)) (cV 2))) (cV 4))))
def p_length_for (wf : Nat) : List PyData → R PyData := runD 9
  (sSeq (sDrop (cCall 1 (p_check_row wf) (aCons (cV 0) aNil)))
  (sSeq (sDrop (cCall 3 (p_check_number wf) (aCons (cV 1) (aCons (cC (.int 0)) (aCons (cC (.int 20)) aNil)))))
  (sSeq (sDrop (cCall 1 (p_check_cycle wf) (aCons (cV 0) aNil)))
  (sSeq (sIf (cOr (c2 eqD (cV 1) (cC (.int 0))) (c2 eqD (cV 0) (cTup aNil))) (sRet (cIf (c2 eqD (cV 1) (cC (.int 0))) (cC (.int 1)) (cC .none))) sNil)
  (sSeq (sPar 2 3 (xD (cCall 1 (p_find_cycle wf) (aCons (cV 0) aNil))) (xO (cLst aNil)))
  (sSeq (sFor (iRng1 (cV 2)) (gN 4) (p_length_for_b1 wf))
  (sSeq (sPar 5 6 (xD (cLenV 3)) (xO (cLst aNil)))
  (sSeq (sFrz [3] (sFor (iEnum (cV 3)) (gT (gCons (gN 7) (gCons (gN 4) gNil))) (p_length_for_b2 wf)))
  (sFrz [6] (sRet (c1 maxD (cV 6))))))))))))
def p__law_drawn_b1 (wf : Nat) : Ss :=
  (sSeq (sSet 5 (xD (c2 fdivD (cV 5) (cC (.int 1000000)))))
        (sSet 4 (xD (c2 subD (cV 4) (cC (.int 1))))))
def p__law_drawn (wf : Nat) : List PyData → R PyData := runD 6
  (sSeq (sSet 3 (xD (c2 mulD (cC (.int 7)) (cV 1))))
  (sSeq (sIf (c2 neD (cV 0) (cL (cLst aNil))) (sSeq (sSet 3 (xD (cIxV 0 (c2 modD (cV 1) (cLenV 0)))))
    (sSeq (sSet 4 (xD (c2 fdivD (cV 1) (cLenV 0))))
    (sSeq (sIf (cAnd (c2 geD (cV 3) (c2 powD (cC (.int 10)) (cC (.int 18)))) (c2 ltD (cV 4) (cC (.int 60)))) (sSeq (sSet 5 (xD (c2 fdivD (cV 3) (c2 powD (cC (.int 10)) (cC (.int 18))))))
      (sSeq (sWh wf (cAnd (c2 gtD (cV 5) (cC (.int 0))) (c2 gtD (cV 4) (cC (.int 0)))) (p__law_drawn_b1 wf))
      (sIf (c2 gtD (cV 5) (cC (.int 0))) (sRet (c2 modD (c2 modD (cV 5) (cC (.int 1000000))) (cV 2))) sNil))) sNil)
    (sSet 3 (xD (c2 addD (cV 3) (c2 mulD (cC (.int 6553)) (c2 fdivD (cV 1) (cLenV 0))))))))) sNil)
  (sSeq (sSet 3 (xD (c2 modD (c2 addD (c2 mulD (c2 modD (cV 3) (cC (.int 2147483563))) (cC (.int 69069))) (c2 mulD (cC (.int 104723)) (c2 addD (cV 1) (cC (.int 1))))) (cC (.int 2147483563)))))
  (sSeq (sSet 3 (xD (c2 modD (c2 addD (c2 mulD (cV 3) (cV 3)) (c2 fdivD (cV 3) (cC (.int 3)))) (cC (.int 2147483399)))))
  (sRet (c2 modD (c2 fdivD (c2 modD (c2 addD (c2 mulD (cV 3) (cV 3)) (c2 fdivD (cV 3) (cC (.int 7)))) (cC (.int 2147483647))) (cC (.int 11))) (cV 2)))))))
def p__law_alarm_v2 (wf : Nat) : List PyData → R PyData := runD 3
  (sSeq (sSet 2 (xD (c2 idxD (cL (cLst (aCons (cC (.int 1)) (aCons (cC (.int 2)) (aCons (cC (.int 3)) (aCons (cC (.int 4)) (aCons (cC (.int 6)) (aCons (cC (.int 8)) (aCons (cC (.int 5)) (aCons (cC (.int 12)) (aCons (cC (.int 10)) (aCons (cC (.int 4)) aNil)))))))))))) (cCall 3 (p__law_drawn wf) (aCons (cV 0) (aCons (cV 1) (aCons (cC (.int 10)) aNil)))))))
  (sRet (cTup (aCons (cV 2) (aCons (cCall 3 (p__law_drawn wf) (aCons (cV 0) (aCons (c2 addD (cV 1) (cC (.int 1))) (aCons (cV 2) aNil)))) aNil)))))
def p__law_row_v2 (wf : Nat) : List PyData → R PyData := runD 4
  (sRet (c1 tupleD (cL (cComp [3] (iRng1 (cCall 3 (p__law_drawn wf) (aCons (cV 0) (aCons (cV 1) (aCons (c2 addD (cV 2) (cC (.int 1))) aNil))))) (gN 3) tYes (cCall 2 (p__law_alarm_v2 wf) (aCons (cV 0) (aCons (c2 addD (c2 addD (cV 1) (cC (.int 1))) (c2 mulD (cC (.int 2)) (cV 3))) aNil)))))))
def p__law_cycle_v2 (wf : Nat) : List PyData → R PyData := runD 6
  (sSeq (sSet 1 (xD (cC (.int 1))))
  (sSeq (sFor (iVal (cV 0)) (gT (gCons (gN 2) (gCons (gN 3) gNil))) (sSeq (sPar 4 5 (xD (cV 1)) (xD (cV 2)))
    (sSeq (sWh wf (c2 gtD (cV 5) (cC (.int 0))) (sPar 4 5 (xD (cV 5)) (xD (c2 modD (cV 4) (cV 5)))))
    (sSet 1 (xD (c2 mulD (c2 fdivD (cV 1) (cV 4)) (cV 2)))))))
  (sRet (cV 1))))
def p__law_count (wf : Nat) : List PyData → R PyData := runD 4
  (sRet (c1 lenD (cL (cComp [2, 3] (iVal (cV 0)) (gT (gCons (gN 2) (gCons (gN 3) gNil))) (cT (c2 eqD (c2 modD (cV 1) (cV 2)) (cV 3))) (cC (.int 1))))))
def p__law_badrow (wf : Nat) : List PyData → R PyData := runD 3
  (sSeq (sSet 2 (xD (cL (cLst (aCons (cC .none) (aCons (cL (cLst aNil)) (aCons (cL (cLst (aCons (cTup (aCons (cC (.int 4)) (aCons (cC (.int 1)) aNil))) aNil))) (aCons (cTup (aCons (cTup (aCons (cC (.int 4)) (aCons (cC (.int 4)) aNil))) aNil)) (aCons (cTup (aCons (cTup (aCons (cC (.int 0)) (aCons (cC (.int 0)) aNil))) aNil)) (aCons (cTup (aCons (cTup (aCons (cC (.int 61)) (aCons (cC (.int 0)) aNil))) aNil)) (aCons (cTup (aCons (cTup (aCons (cC (.int 4)) (aCons (c1 negD (cC (.int 1))) aNil))) aNil)) (aCons (cTup (aCons (cTup (aCons (cC (.bool true)) (aCons (cC (.int 0)) aNil))) aNil)) aNil))))))))))))
  (sSeq (sSet 2 (xD (c2 addD (cV 2) (cL (cLst (aCons (cTup (aCons (cTup (aCons (cC (.int 4)) aNil)) aNil)) (aCons (c2 mulD (cTup (aCons (cTup (aCons (cC (.int 4)) (aCons (cC (.int 1)) aNil))) aNil)) (cC (.int 7))) (aCons (cTup (aCons (cC (.int 4)) (aCons (cC (.int 1)) aNil))) aNil))))))))
  (sRet (cIxV 2 (cCall 3 (p__law_drawn wf) (aCons (cV 0) (aCons (cV 1) (aCons (cC (.int 11)) aNil))))))))
def p__law_windows_b1 (wf : Nat) : Ss :=
  (sApp 4 (c1 sumD (cL (cComp [6] (iRng2 (cV 5) (c2 addD (cV 5) (cV 1))) (gN 6) tYes (cIxV 3 (c2 modD (cV 6) (cV 2)))))))
def p__law_windows (wf : Nat) : List PyData → R PyData := runD 7
  (sSeq (sSet 2 (xD (cCall 1 (p__law_cycle_v2 wf) (aCons (cV 0) aNil))))
  (sSeq (sSet 3 (xD (cL (cComp [6] (iRng1 (cV 2)) (gN 6) tYes (cCall 2 (p__law_count wf) (aCons (cV 0) (aCons (cV 6) aNil)))))))
  (sSeq (sSet 4 (xO (cLst aNil)))
  (sSeq (sFor (iRng1 (cV 2)) (gN 5) (p__law_windows_b1 wf))
  (sFrz [4] (sRet (cV 4)))))))
def p__law_sizes (wf : Nat) : List PyData → R PyData := runD 14
  (sSeq (sSet 4 (xD (c2 addD (cC (.int 1)) (cCall 3 (p__law_drawn wf) (aCons (cV 0) (aCons (cC (.int 4)) (aCons (cC (.int 30)) aNil)))))))
  (sSeq (sPar3 5 6 7 (xD (cCall 2 (p_most_rings wf) (aCons (cV 1) (aCons (cV 4) aNil)))) (xD (cCall 2 (p_least_rings wf) (aCons (cV 1) (aCons (cV 4) aNil)))) (xD (cCall 2 (p_busiest wf) (aCons (cV 1) (aCons (cV 4) aNil)))))
  (sSeq (sIf (c1 notD (cCh leD leD (cV 6) (cCall 3 (p_rings_in wf) (aCons (cV 1) (aCons (cV 2) (aCons (cV 4) aNil)))) (cV 5))) (sRet (cC (.bool false))) sNil)
  (sSeq (sIf (cOr (c2 neD (cCall 3 (p_rings_in wf) (aCons (cV 1) (aCons (cV 7) (aCons (cV 4) aNil)))) (cV 5)) (c1 notD (cCh leD ltD (cC (.int 0)) (cV 7) (cV 3)))) (sRet (cC (.bool false))) sNil)
  (sSeq (sIf (cOr (c2 ltD (cCall 2 (p_most_rings wf) (aCons (cV 1) (aCons (c2 addD (cV 4) (cC (.int 1))) aNil))) (cV 5)) (c2 ltD (cCall 2 (p_least_rings wf) (aCons (cV 1) (aCons (c2 addD (cV 4) (cC (.int 1))) aNil))) (cV 6))) (sRet (cC (.bool false))) sNil)
  (sSeq (sIf (c2 neD (cL (cComp [11] (iRng1 (cV 7)) (gN 11) (cT (c2 geD (cCall 3 (p_rings_in wf) (aCons (cV 1) (aCons (cV 11) (aCons (cV 4) aNil)))) (cV 5))) (cV 11))) (cL (cLst aNil))) (sRet (cC (.bool false))) sNil)
  (sSeq (sSet 8 (xD (cCall 3 (p__law_drawn wf) (aCons (cV 0) (aCons (cC (.int 5)) (aCons (cC (.int 8)) aNil))))))
  (sSeq (sSet 9 (xD (cCall 2 (p_length_for wf) (aCons (cV 1) (aCons (cV 8) aNil)))))
  (sSeq (sIf (c2 neD (c1 isNoneD (cV 9)) (cAnd (c2 eqD (cV 1) (cTup aNil)) (c2 gtD (cV 8) (cC (.int 0))))) (sRet (cC (.bool false))) sNil)
  (sSeq (sIf (c1 notNoneD (cV 9)) (sIf (cOr (c2 ltD (cCall 2 (p_least_rings wf) (aCons (cV 1) (aCons (cV 9) aNil))) (cV 8)) (cAnd (c2 gtD (cV 9) (cC (.int 1))) (c2 geD (cCall 2 (p_least_rings wf) (aCons (cV 1) (aCons (c2 subD (cV 9) (cC (.int 1))) aNil))) (cV 8)))) (sRet (cC (.bool false))) sNil) sNil)
  (sSeq (sSet 10 (xD (c1 tupleD (cL (cComp [12, 13] (iVal (cV 1)) (gT (gCons (gN 12) (gCons (gN 13) gNil))) tYes (cTup (aCons (cV 12) (aCons (c2 modD (c2 addD (cV 13) (cC (.int 1))) (cV 12)) aNil))))))))
  (sRet (cAnd (c2 eqD (cCall 2 (p_most_rings wf) (aCons (cV 10) (aCons (cV 4) aNil))) (cV 5)) (c2 eqD (cCall 2 (p_least_rings wf) (aCons (cV 10) (aCons (cV 4) aNil))) (cV 6)))))))))))))))
def p_check_short (wf : Nat) : List PyData → R PyData := runD 2
  (sSeq (sIf (cOr (c1 notD (c1 (isiD .tuple) (cV 0))) (c1 notD (cCh leD leD (cC (.int 1)) (cLenV 0) (cC (.int 4))))) (sRaise "InvalidPeriods") sNil)
  (sIf (c1 notD (c1 allD (cL (cComp [1] (iVal (cV 0)) (gN 1) tYes (cCall 3 (p_is_int wf) (aCons (cV 1) (aCons (cC (.int 1)) (aCons (cC (.int 8)) aNil)))))))) (sRaise "InvalidPeriods") sNil))
def p_are_shifts (wf : Nat) : List PyData → R PyData := runD 4
  (sSeq (sIf (cOr (c1 notD (c1 (isiD .tuple) (cV 1))) (c2 neD (cLenV 1) (cLenV 0))) (sRet (cC (.bool false))) sNil)
  (sRet (c1 allD (cL (cComp [2, 3] (iZip (cV 1) (cV 0)) (gT (gCons (gN 2) (gCons (gN 3) gNil))) tYes (cCall 3 (p_is_int wf) (aCons (cV 2) (aCons (cC (.int 0)) (aCons (c2 subD (cV 3) (cC (.int 1))) aNil)))))))))
def p_silence_of (wf : Nat) : List PyData → R PyData := runD 2
  (sRet (cCall 1 (p_longest_silence wf) (aCons (c1 tupleD (c2 lzipD (cV 0) (cV 1))) aNil)))
def p_do_cover (wf : Nat) : List PyData → R PyData := runD 3
  (sSeq (sDrop (cCall 1 (p_check_short wf) (aCons (cV 0) aNil)))
  (sSeq (sDrop (cCall 3 (p_check_number wf) (aCons (cV 2) (aCons (cC (.int 0)) (aCons (cC (.int 8)) aNil)))))
  (sRet (cAnd (cCall 2 (p_are_shifts wf) (aCons (cV 0) (aCons (cV 1) aNil))) (c2 leD (cCall 2 (p_silence_of wf) (aCons (cV 0) (aCons (cV 1) aNil))) (cV 2))))))
def p_find_best_b1 (wf : Nat) : Ss :=
  (sSet 1 (xD (cL (cComp2 [3, 4] [4] (iVal (cV 1)) (gN 3) tYes (iRng1 (cV 2)) (gN 4) tYes (c2 addD (cV 3) (cTup (aCons (cV 4) aNil)))))))
def p_find_best (wf : Nat) : List PyData → R PyData := runD 6
  (sSeq (sSet 1 (xD (cL (cLst (aCons (cTup (aCons (cC (.int 0)) aNil)) aNil)))))
  (sSeq (sFor (iVal (cSlc (cV 0) (oSome (cC (.int 1))) oNone)) (gN 2) (p_find_best_b1 wf))
  (sRet (c1 minD (cL (cComp [5] (iVal (cV 1)) (gN 5) tYes (cTup (aCons (cCall 2 (p_silence_of wf) (aCons (cV 0) (aCons (cV 5) aNil))) (aCons (cV 5) aNil)))))))))
def p_check_product_v2_b1 (wf : Nat) : Ss :=
  (sSet 1 (xD (c2 mulD (cV 1) (cV 2))))
def p_check_product_v2 (wf : Nat) : List PyData → R PyData := runD 3
  (sSeq (sDrop (cCall 1 (p_check_short wf) (aCons (cV 0) aNil)))
  (sSeq (sSet 1 (xD (cC (.int 1))))
  (sSeq (sFor (iVal (cV 0)) (gN 2) (p_check_product_v2_b1 wf))
  (sIf (c2 gtD (cV 1) (cC (.int 600))) (sRaise "TooLarge") sNil))))
def p_least_silence (wf : Nat) : List PyData → R PyData := runD 1
  (sSeq (sDrop (cCall 1 (p_check_product_v2 wf) (aCons (cV 0) aNil)))
  (sRet (c2 idxD (cCall 1 (p_find_best wf) (aCons (cV 0) aNil)) (cC (.int 0)))))
def p_covering_shifts (wf : Nat) : List PyData → R PyData := runD 1
  (sSeq (sDrop (cCall 1 (p_check_product_v2 wf) (aCons (cV 0) aNil)))
  (sRet (c2 idxD (cCall 1 (p_find_best wf) (aCons (cV 0) aNil)) (cC (.int 1)))))
def p_fewest_alike (wf : Nat) : List PyData → R PyData := runD 2
  (sSeq (sDrop (cCall 3 (p_check_number wf) (aCons (cV 0) (aCons (cC (.int 1)) (aCons (cC (.int 60)) aNil)))))
  (sSeq (sDrop (cCall 3 (p_check_number wf) (aCons (cV 1) (aCons (cC (.int 0)) (aCons (cC (.int 60)) aNil)))))
  (sRet (c2 fdivD (c2 addD (cV 0) (cV 1)) (c2 addD (cV 1) (cC (.int 1)))))))
def p__law_silence_b1 (wf : Nat) : Ss :=
  (sSeq (sSet 3 (xD (cIf (c2 eqD (cCall 2 (p__law_count wf) (aCons (cV 0) (aCons (cV 4) aNil))) (cC (.int 0))) (c2 addD (cV 3) (cC (.int 1))) (cC (.int 0)))))
    (sSet 2 (xD (c2 max2D (cV 2) (cIf (c2 gtD (cV 4) (cC (.int 8))) (cV 3) (cC (.int 0)))))))
def p__law_silence (wf : Nat) : List PyData → R PyData := runD 5
  (sSeq (sPar3 1 2 3 (xD (cCall 1 (p__law_cycle_v2 wf) (aCons (cV 0) aNil))) (xD (cC (.int 0))) (xD (cC (.int 0))))
  (sSeq (sFor (iRng1 (c2 addD (c2 mulD (cC (.int 2)) (cV 1)) (cC (.int 9)))) (gN 4) (p__law_silence_b1 wf))
  (sRet (cV 2))))
def p_delayed_times_b1 (wf : Nat) : Ss :=
  (sPut 4 (c2 addD (cV 5) (c2 mulD (cV 6) (cV 1))) (cC (.bool true)))
def p_delayed_times_b2 (wf : Nat) : Ss :=
  (sFor (iRng1 (c2 addD (cV 2) (cC (.int 1)))) (gN 6) (p_delayed_times_b1 wf))
def p_delayed_times (wf : Nat) : List PyData → R PyData := runD 7
  (sSeq (sDrop (cCall 1 (p_check_alarm wf) (aCons (cV 0) aNil)))
  (sSeq (sDrop (cCall 3 (p_check_number wf) (aCons (cV 1) (aCons (cC (.int 1)) (aCons (cC (.int 30)) aNil)))))
  (sSeq (sDrop (cCall 3 (p_check_number wf) (aCons (cV 2) (aCons (cC (.int 0)) (aCons (cC (.int 5)) aNil)))))
  (sSeq (sDrop (cCall 1 (p_check_time wf) (aCons (cV 3) aNil)))
  (sSeq (sIf (c2 gtD (cV 3) (cC (.int 1000))) (sRaise "TooLarge") sNil)
  (sSeq (sSet 4 xK)
  (sSeq (sFor (iRng3 (cIxV 0 (cC (.int 1))) (cV 3) (cIxV 0 (cC (.int 0)))) (gN 5) (p_delayed_times_b2 wf))
  (sFrz [4] (sRet (c1 sortedD (cL (cComp [5] (iKeyV 4) (gN 5) (cT (c2 ltD (cV 5) (cV 3))) (cV 5)))))))))))))
def p_do_meet_v2 (wf : Nat) : List PyData → R PyData := runD 6
  (sSeq (sSet 4 (xD (cCall 2 (p_divisor wf) (aCons (cIxV 0 (cC (.int 0))) (aCons (cIxV 1 (cC (.int 0))) aNil)))))
  (sRet (c1 anyD (cL (cComp [5] (iRng1 (c2 addD (cV 3) (cC (.int 1)))) (gN 5) tYes (c2 eqD (c2 modD (c2 subD (c2 addD (cIxV 0 (cC (.int 1))) (c2 mulD (cV 5) (cV 2))) (cIxV 1 (cC (.int 1)))) (cV 4)) (cC (.int 0))))))))
def p_meet_delayed (wf : Nat) : List PyData → R PyData := runD 4
  (sSeq (sDrop (cCall 2 (p_check_two wf) (aCons (cV 0) (aCons (cV 1) aNil))))
  (sSeq (sDrop (cCall 3 (p_check_number wf) (aCons (cV 2) (aCons (cC (.int 1)) (aCons (cC (.int 30)) aNil)))))
  (sSeq (sDrop (cCall 3 (p_check_number wf) (aCons (cV 3) (aCons (cC (.int 0)) (aCons (cC (.int 5)) aNil)))))
  (sRet (cCall 4 (p_do_meet_v2 wf) (aCons (cV 0) (aCons (cV 1) (aCons (cV 2) (aCons (cV 3) aNil)))))))))
def p_least_delay (wf : Nat) : List PyData → R PyData := runD 4
  (sSeq (sDrop (cCall 2 (p_check_two wf) (aCons (cV 0) (aCons (cV 1) aNil))))
  (sSeq (sSet 2 (xD (cL (cComp [3] (iRng2 (cC (.int 1)) (c2 addD (cC (.int 30)) (cC (.int 1)))) (gN 3) (cT (cCall 4 (p_do_meet_v2 wf) (aCons (cV 0) (aCons (cV 1) (aCons (cV 3) (aCons (cC (.int 1)) aNil)))))) (cV 3)))))
  (sRet (cIf (c2 neD (cV 2) (cL (cLst aNil))) (cIxV 2 (cC (.int 0))) (cC .none)))))
def p_safe_delays (wf : Nat) : List PyData → R PyData := runD 4
  (sSeq (sDrop (cCall 2 (p_check_two wf) (aCons (cV 0) (aCons (cV 1) aNil))))
  (sSeq (sDrop (cCall 3 (p_check_number wf) (aCons (cV 2) (aCons (cC (.int 0)) (aCons (cC (.int 5)) aNil)))))
  (sRet (cL (cComp [3] (iRng2 (cC (.int 1)) (c2 addD (cC (.int 30)) (cC (.int 1)))) (gN 3) (cT (c1 notD (cCall 4 (p_do_meet_v2 wf) (aCons (cV 0) (aCons (cV 1) (aCons (cV 3) (aCons (cV 2) aNil))))))) (cV 3))))))
def p__law_badalarm (wf : Nat) : List PyData → R PyData := runD 2
  (sRet (c2 idxD (cL (cLst (aCons (cC .none) (aCons (cTup aNil) (aCons (cTup (aCons (cC (.int 4)) (aCons (cC (.int 4)) aNil))) (aCons (cTup (aCons (cC (.int 0)) (aCons (cC (.int 0)) aNil))) (aCons (cTup (aCons (cC (.int 61)) (aCons (cC (.int 0)) aNil))) (aCons (cTup (aCons (cC (.int 4)) (aCons (c1 negD (cC (.int 1))) aNil))) (aCons (cTup (aCons (cC (.bool true)) (aCons (cC (.int 0)) aNil))) (aCons (cL (cLst (aCons (cC (.int 4)) (aCons (cC (.int 1)) aNil)))) (aCons (cTup (aCons (cC (.int 4)) (aCons (cC (.int 1)) (aCons (cC (.int 0)) aNil)))) aNil))))))))))) (cCall 3 (p__law_drawn wf) (aCons (cV 0) (aCons (cV 1) (aCons (cC (.int 9)) aNil))))))
def p__law_meet_b1 (wf : Nat) : Ss :=
  (sSeq (sSet 6 (xD (c2 addD (cV 4) (c2 mulD (cV 5) (cV 2)))))
      (sIf (c2 eqD (c2 modD (cV 6) (cIxV 1 (cC (.int 0)))) (cIxV 1 (cC (.int 1)))) (sRet (cC (.bool true))) sNil))
def p__law_meet_b2 (wf : Nat) : Ss :=
  (sFor (iRng1 (c2 addD (cV 3) (cC (.int 1)))) (gN 5) (p__law_meet_b1 wf))
def p__law_meet (wf : Nat) : List PyData → R PyData := runD 7
  (sSeq (sFor (iRng3 (cIxV 0 (cC (.int 1))) (c2 addD (cIxV 0 (cC (.int 1))) (c2 mulD (cIxV 0 (cC (.int 0))) (cIxV 1 (cC (.int 0))))) (cIxV 0 (cC (.int 0)))) (gN 4) (p__law_meet_b2 wf))
  (sRet (cC (.bool false))))
def p__law_safe_b1 (wf : Nat) : Ss :=
  (sSeq (sIf (cCall 4 (p_meet_delayed wf) (aCons (cV 0) (aCons (cV 1) (aCons (cV 6) (aCons (cV 3) aNil))))) (sRet (cC (.bool false))) sNil)
    (sIf (cAnd (c2 leD (c2 addD (cV 6) (cIxV 0 (cC (.int 0)))) (cC (.int 30))) (c2 notInD (c2 addD (cV 6) (cIxV 0 (cC (.int 0)))) (cV 5))) (sRet (cC (.bool false))) sNil))
def p__law_safe (wf : Nat) : List PyData → R PyData := runD 8
  (sSeq (sSet 5 (xD (cCall 3 (p_safe_delays wf) (aCons (cV 0) (aCons (cV 1) (aCons (cV 3) aNil))))))
  (sSeq (sIf (cOr (c2 eqD (c2 inD (cV 2) (cV 5)) (cV 4)) (c2 neD (cV 5) (c1 ssetD (cV 5)))) (sRet (cC (.bool false))) sNil)
  (sSeq (sFor (iVal (cV 5)) (gN 6) (p__law_safe_b1 wf))
  (sSeq (sSet 7 (xD (cCall 2 (p_least_delay wf) (aCons (cV 0) (aCons (cV 1) aNil)))))
  (sSeq (sIf (cAnd (c1 notNoneD (cV 7)) (cOr (c1 (notBoolD true) (cCall 4 (p_meet_delayed wf) (aCons (cV 0) (aCons (cV 1) (aCons (cV 7) (aCons (cC (.int 1)) aNil)))))) (c1 notD (cCh leD leD (cC (.int 1)) (cV 7) (cC (.int 30)))))) (sRet (cC (.bool false))) sNil)
  (sSeq (sIf (cAnd (c1 notNoneD (cV 7)) (cAnd (c2 gtD (cV 7) (cC (.int 1))) (c2 notInD (cC (.int 1)) (cCall 3 (p_safe_delays wf) (aCons (cV 0) (aCons (cV 1) (aCons (cC (.int 1)) aNil))))))) (sRet (cC (.bool false))) sNil)
  (sSeq (sIf (c2 neD (c1 isNoneD (cCall 2 (p_first_meeting wf) (aCons (cV 0) (aCons (cV 1) aNil)))) (c2 gtD (cCall 2 (p_least_distance wf) (aCons (cV 0) (aCons (cV 1) aNil))) (cC (.int 0)))) (sRet (cC (.bool false))) sNil)
  (sRet (cOr (cCall 2 (p_meet wf) (aCons (cV 0) (aCons (cV 1) aNil))) (cOr (c1 isNoneD (cV 7)) (c1 notD (c2 ltD (cV 7) (cCall 2 (p_least_distance wf) (aCons (cV 0) (aCons (cV 1) aNil)))))))))))))))
def p__wall_b1 (wf : Nat) : Ss :=
  sNil
def p__wall (wf : Nat) : List PyData → R PyData := runD 1
  (sWh wf (cC (.bool true)) (p__wall_b1 wf))
def p__law_due_b1 (wf : Nat) : Ss :=
  (sApp 5 (cTup (aCons (cV 6) (aCons (cL (cComp [8, 9] (iEnum (cV 3)) (gT (gCons (gN 8) (gCons (gN 9) gNil))) (cT (c2 eqD (c2 modD (cV 6) (cIxV 9 (cC (.int 0)))) (cIxV 9 (cC (.int 1))))) (cV 8))) aNil))))
def p__law_due (wf : Nat) : List PyData → R PyData := runD 10
  (sSeq (sAsg (cV 0) (gT (gCons (gN 3) (gCons (gN 4) gNil))))
  (sSeq (sIf (c2 eqD (cV 1) (cC (.int 0))) (sSeq (sSet 5 (xO (cLst aNil)))
    (sSeq (sFor (iRng2 (cV 4) (c2 addD (cV 4) (cV 2))) (gN 6) (p__law_due_b1 wf))
    (sFrz [5] (sRet (cTup (aCons (cL (cComp [7] (iVal (cV 5)) (gN 7) (cT (c2 neD (cIxV 7 (cC (.int 1))) (cL (cLst aNil)))) (cV 7))) (aCons (cTup (aCons (cV 3) (aCons (c2 addD (cV 4) (cV 2)) aNil))) aNil))))))) sNil)
  (sSeq (sIf (c2 eqD (cV 1) (cC (.int 1))) (sRet (cIf (c2 eqD (cLenV 3) (cC (.int 6))) (cTup (aCons (cTup (aCons (cC (.str "raised")) (aCons (cC (.int 3)) aNil))) (aCons (cC .none) aNil))) (cTup (aCons (cC .none) (aCons (cTup (aCons (c2 addD (cV 3) (cTup (aCons (cV 2) aNil))) (aCons (cV 4) aNil))) aNil))))) sNil)
  (sRet (cIf (c2 ltD (cV 2) (cLenV 3)) (cTup (aCons (cIxV 3 (cV 2)) (aCons (cTup (aCons (c2 addD (cSlc (cV 3) oNone (oSome (cV 2))) (cSlc (cV 3) (oSome (c2 addD (cV 2) (cC (.int 1)))) oNone)) (aCons (cV 4) aNil))) aNil))) (cTup (aCons (cTup (aCons (cC (.str "raised")) (aCons (cC (.int 2)) aNil))) (aCons (cC .none) aNil))))))))
def p_naive_meet (wf : Nat) : List PyData → R PyData := runD 3
  (sSeq (sDrop (cCall 2 (p_check_two wf) (aCons (cV 0) (aCons (cV 1) aNil))))
  (sRet (c1 anyD (cL (cComp [2] (iRng1 (c2 mulD (cIxV 0 (cC (.int 0))) (cIxV 1 (cC (.int 0))))) (gN 2) tYes (cAnd (cCall 2 (p_does_ring wf) (aCons (cV 0) (aCons (cV 2) aNil))) (cCall 2 (p_does_ring wf) (aCons (cV 1) (aCons (cV 2) aNil)))))))))
def p_naive_crowd (wf : Nat) : List PyData → R PyData := runD 2
  (sSeq (sDrop (cCall 1 (p_check_row wf) (aCons (cV 0) aNil)))
  (sSeq (sDrop (cCall 1 (p_check_cycle wf) (aCons (cV 0) aNil)))
  (sRet (c1 maxD (cL (cComp [1] (iRng1 (cCall 1 (p_find_cycle wf) (aCons (cV 0) aNil))) (gN 1) tYes (c1 lenD (cCall 2 (p_find_ringing wf) (aCons (cV 0) (aCons (cV 1) aNil))))))))))
def p__law_alarms (wf : Nat) : List PyData → R PyData := runD 2
  (sSeq (sSet 0 (xO (cLst (aCons (cC .none) (aCons (cTup aNil) (aCons (cTup (aCons (cC (.int 4)) aNil)) (aCons (cTup (aCons (cC (.int 4)) (aCons (cC (.int 1)) (aCons (cC (.int 0)) aNil)))) (aCons (cL (cLst (aCons (cC (.int 4)) (aCons (cC (.int 1)) aNil)))) (aCons (cTup (aCons (cC (.int 0)) (aCons (cC (.int 0)) aNil))) (aCons (cTup (aCons (cC (.int 0)) (aCons (c1 negD (cC (.int 1))) aNil))) (aCons (cTup (aCons (cC (.int 61)) (aCons (cC (.int 0)) aNil))) (aCons (cTup (aCons (cC (.int 4)) (aCons (cC (.int 4)) aNil))) (aCons (cTup (aCons (cC (.int 4)) (aCons (c1 negD (cC (.int 1))) aNil))) (aCons (cTup (aCons (cC (.bool true)) (aCons (cC (.int 0)) aNil))) aNil))))))))))))))
  (sSeq (sExt 0 (cL (cLst (aCons (cTup (aCons (cC (.int 4)) (aCons (cC (.bool true)) aNil))) (aCons (cTup (aCons (cC (.str "4")) (aCons (cC (.int 0)) aNil))) aNil)))))
  (sSeq (sFrz [0] (sIf (c1 notD (c1 allD (cL (cComp [1] (iVal (cV 0)) (gN 1) tYes (cAnd (c1 (isBoolD false) (cCall 1 (p_is_alarm wf) (aCons (cV 1) aNil))) (c1 (isBoolD false) (cCall 1 (p_is_row wf) (aCons (cTup (aCons (cV 1) aNil)) aNil)))))))) (sRet (cC (.bool false))) sNil))
  (sSeq (sIf (cOr (c1 (notBoolD true) (cCall 1 (p_is_alarm wf) (aCons (cTup (aCons (cC (.int 60)) (aCons (cC (.int 59)) aNil))) aNil))) (cOr (c1 (notBoolD true) (cCall 1 (p_is_alarm wf) (aCons (cTup (aCons (cC (.int 1)) (aCons (cC (.int 0)) aNil))) aNil))) (c1 (notBoolD true) (cCall 1 (p_is_row wf) (aCons (c2 mulD (cTup (aCons (cTup (aCons (cC (.int 1)) (aCons (cC (.int 0)) aNil))) aNil)) (cC (.int 6))) aNil))))) (sRet (cC (.bool false))) sNil)
  (sRet (cAnd (c1 (isBoolD false) (cCall 1 (p_is_row wf) (aCons (c2 mulD (cTup (aCons (cTup (aCons (cC (.int 1)) (aCons (cC (.int 0)) aNil))) aNil)) (cC (.int 7))) aNil))) (cAnd (c1 (isBoolD false) (cCall 1 (p_is_row wf) (aCons (cL (cLst (aCons (cTup (aCons (cC (.int 1)) (aCons (cC (.int 0)) aNil))) aNil))) aNil))) (c1 (isBoolD true) (cCall 1 (p_is_row wf) (aCons (cTup aNil) aNil))))))))))
end Pg

namespace K58
open PySem Rt Pg
def isl : List ((Str × Str) × Bool) := []
def p_law_b1 (wf : Nat) : Ss :=
  (sSeq (sSet 6 (xD (c1 tupleD (cL (cComp [13, 8] (iEnum (cV 1)) (gT (gCons (gN 13) (gCons (gN 8) gNil))) tYes (cCall 3 (p__law_drawn wf) (aCons (cV 0) (aCons (c2 addD (c2 addD (cC (.int 20)) (c2 mulD (cC (.int 4)) (cV 5))) (cV 13)) (aCons (cV 8) aNil)))))))))
    (sSeq (sSet 7 (xD (c1 tupleD (cL (cComp [8, 12] (iZip (cV 1) (cV 6)) (gT (gCons (gN 8) (gCons (gN 12) gNil))) tYes (cTup (aCons (cV 8) (aCons (cV 12) aNil))))))))
    (sSeq (sIf (c2 ltD (cCall 1 (p_longest_silence wf) (aCons (cV 7) aNil)) (cV 2)) (sRet (cC (.bool false))) sNil)
    (sSeq (sIf (c2 neD (cCall 3 (p_do_cover wf) (aCons (cV 1) (aCons (cV 6) (aCons (cV 2) aNil)))) (c2 eqD (cCall 1 (p_longest_silence wf) (aCons (cV 7) aNil)) (cV 2))) (sRet (cC (.bool false))) sNil)
    (sIf (cAnd (c2 eqD (cCall 1 (p_longest_silence wf) (aCons (cV 7) aNil)) (cV 2)) (c2 ltD (cV 6) (cV 3))) (sRet (cC (.bool false))) sNil)))))
def p_law_b2 (wf : Nat) : Ss :=
  (sIf (c2 neD (c2 leD (cCall 2 (p_fewest_alike wf) (aCons (cV 8) (aCons (cV 11) aNil))) (cV 9)) (c2 leD (cV 10) (cV 11))) (sRet (cC (.bool false))) sNil)
def p_law (wf : Nat) : List PyData → R PyData := runD 14
  (sSeq (sSet 1 (xD (c1 tupleD (cL (cComp [5] (iRng1 (c2 addD (cC (.int 1)) (cCall 3 (p__law_drawn wf) (aCons (cV 0) (aCons (cC (.int 1)) (aCons (cC (.int 3)) aNil)))))) (gN 5) tYes (c2 addD (cC (.int 1)) (cCall 3 (p__law_drawn wf) (aCons (cV 0) (aCons (c2 addD (cC (.int 10)) (cV 5)) (aCons (cC (.int 5)) aNil))))))))))
  (sSeq (sPar 2 3 (xD (cCall 1 (p_least_silence wf) (aCons (cV 1) aNil))) (xD (cCall 1 (p_covering_shifts wf) (aCons (cV 1) aNil))))
  (sSeq (sSet 4 (xD (c1 tupleD (cL (cComp [8, 12] (iZip (cV 1) (cV 3)) (gT (gCons (gN 8) (gCons (gN 12) gNil))) tYes (cTup (aCons (cV 8) (aCons (cV 12) aNil))))))))
  (sSeq (sIf (cOr (c2 neD (cCall 1 (p_longest_silence wf) (aCons (cV 4) aNil)) (cV 2)) (cOr (c2 neD (cIxV 3 (cC (.int 0))) (cC (.int 0))) (c1 (notBoolD true) (cCall 3 (p_do_cover wf) (aCons (cV 1) (aCons (cV 3) (aCons (cV 2) aNil))))))) (sRet (cC (.bool false))) sNil)
  (sSeq (sIf (cAnd (c2 gtD (cV 2) (cC (.int 0))) (cCall 3 (p_do_cover wf) (aCons (cV 1) (aCons (cV 3) (aCons (c2 subD (cV 2) (cC (.int 1))) aNil))))) (sRet (cC (.bool false))) sNil)
  (sSeq (sFor (iRng1 (cC (.int 6))) (gN 5) (p_law_b1 wf))
  (sSeq (sIf (cOr (c2 gtD (cV 2) (c2 subD (c1 minD (cV 1)) (cC (.int 1)))) (cAnd (c2 ltD (cLenV 1) (cC (.int 3))) (c2 gtD (cCall 1 (p_least_silence wf) (aCons (c2 addD (cV 1) (cTup (aCons (cC (.int 5)) aNil))) aNil)) (cV 2)))) (sRet (cC (.bool false))) sNil)
  (sSeq (sIf (c2 neD (cCall 1 (p_least_silence wf) (aCons (c1 revD (cV 1)) aNil)) (cV 2)) (sRet (cC (.bool false))) sNil)
  (sSeq (sPar 8 9 (xD (c2 addD (cC (.int 1)) (cCall 3 (p__law_drawn wf) (aCons (cV 0) (aCons (cC (.int 50)) (aCons (cC (.int 4)) aNil)))))) (xD (c2 addD (cC (.int 1)) (cCall 3 (p__law_drawn wf) (aCons (cV 0) (aCons (cC (.int 51)) (aCons (cC (.int 3)) aNil)))))))
  (sSeq (sSet 10 (xD (cCall 1 (p_least_silence wf) (aCons (c2 mulD (cTup (aCons (cV 8) aNil)) (cV 9)) aNil))))
  (sSeq (sIf (c2 gtD (cCall 2 (p_fewest_alike wf) (aCons (cV 8) (aCons (cV 10) aNil))) (cV 9)) (sRet (cC (.bool false))) sNil)
  (sSeq (sIf (cAnd (c2 gtD (cV 9) (cC (.int 1))) (c2 ltD (cCall 1 (p_least_silence wf) (aCons (c2 mulD (cTup (aCons (cV 8) aNil)) (c2 subD (cV 9) (cC (.int 1)))) aNil)) (cV 10))) (sRet (cC (.bool false))) sNil)
  (sSeq (sFor (iRng1 (cV 8)) (gN 11) (p_law_b2 wf))
  (sRet (cAnd (c2 eqD (cCall 2 (p_fewest_alike wf) (aCons (cC (.int 60)) (aCons (cC (.int 0)) aNil))) (cC (.int 60))) (c2 eqD (cCall 2 (p_fewest_alike wf) (aCons (cV 8) (aCons (cC (.int 60)) aNil))) (cC (.int 1))))))))))))))))))
end K58

/-! Rt, part L: plain lemmas on the combinators and on the program's own defs. -/
namespace Rq
open PySem Rt Pg
abbrev alarmD (p s : Int) : PyData := .tuple [.int p, .int s]
abbrev intsD (ns : List Int) : PyData := .list (ns.map .int)
/-! ### blocks -/
theorem seq_ok {s t : Ss} {r r1 : En} {x : RS} (h : s r = .ok .nx r1) (h2 : t r1 = x) : sSeq s t r = x := by
  unfold sSeq; rw [h]; exact h2
theorem seq_ret {s t : Ss} {r r1 : En} {d : PyData} (h : s r = .ok (.ret d) r1) : sSeq s t r = .ok (.ret d) r1 := by
  unfold sSeq; rw [h]
theorem seq_exc {s t : Ss} {r r1 : En} {c : Str} (h : s r = .exc c r1) : sSeq s t r = .exc c r1 := by
  unfold sSeq; rw [h]
theorem run_ret {n : Nat} {b : Ss} {ds : List PyData} {d : PyData} {r : En} (h : b (startE n ds) = .ok (.ret d) r) : runD n b ds = .ok d := by
  unfold runD; rw [h]
/-! ### shapes -/
theorem canLay_ints (ns : List Int) : PyData.canLayAll0 (ns.map .int) = true := by
  induction ns with
  | nil => rfl
  | cons n ns ih => simp [PyData.canLayAll0, PyData.canLay0, ih]
theorem depth_ints (ns : List Int) : PyData.depthAll (ns.map .int) = 0 := by
  induction ns with
  | nil => rfl
  | cons n ns ih => simp [PyData.depthAll, PyData.depth, ih]
theorem shaped_ints (ns : List Int) : SeqAt.shaped (.list (ns.map .int)) = true := by
  simp [SeqAt.shaped, PyData.canLay0, PyData.depth, canLay_ints, depth_ints]
theorem shaped_nil : SeqAt.shaped (.list []) = true := rfl
theorem shaped_int (i : Int) : SeqAt.shaped (.int i) = true := rfl
theorem shaped_bool (i : Bool) : SeqAt.shaped (.bool i) = true := rfl
theorem shaped_none : SeqAt.shaped .none = true := rfl
theorem shaped_alarm (p s : Int) : SeqAt.shaped (alarmD p s) = true := rfl
theorem eqv_int (a b : Int) : PyData.eqv (.int a) (.int b) = (a == b) := by simp [PyData.eqv]
theorem eqv_bool (a b : Bool) : PyData.eqv (.bool a) (.bool b) = (a == b) := by simp [PyData.eqv]
theorem eqv_ints : ∀ (a b : List Int), PyData.eqv (.list (a.map .int)) (.list (b.map .int)) = decide (a = b)
  | a, b => by
    have h : ∀ (a b : List Int), PyData.eqvAll (a.map .int) (b.map .int) = decide (a = b) := by
      intro a
      induction a with
      | nil => intro b; cases b <;> simp [PyData.eqvAll]
      | cons x a ih =>
        intro b
        cases b with
        | nil => simp [PyData.eqvAll]
        | cons y b =>
          have : (x == y) = decide (x = y) := by by_cases h : x = y <;> simp [h]
          simp [PyData.eqvAll, ih, eqv_int, this]
    simp [PyData.eqv, h]
theorem eqv_ints_nil (a : List Int) : PyData.eqv (.list (a.map .int)) (.list []) = decide (a = []) := eqv_ints a []
theorem eqD_int (a b : Int) : eqD (.int a) (.int b) = .ok (.bool (a == b)) := by simp [eqD, shaped_int, eqv_int]
theorem neD_int (a b : Int) : neD (.int a) (.int b) = .ok (.bool (a != b)) := by simp [neD, shaped_int, eqv_int, bne]
theorem eqD_bool (a b : Bool) : eqD (.bool a) (.bool b) = .ok (.bool (a == b)) := by simp [eqD, shaped_bool, eqv_bool]
theorem neD_bool (a b : Bool) : neD (.bool a) (.bool b) = .ok (.bool (a != b)) := by simp [neD, shaped_bool, eqv_bool, bne]
theorem eqD_ints (a b : List Int) : eqD (intsD a) (intsD b) = .ok (.bool (decide (a = b))) := by simp [eqD, shaped_ints, eqv_ints]
theorem neD_ints (a b : List Int) : neD (intsD a) (intsD b) = .ok (.bool (!decide (a = b))) := by simp [neD, shaped_ints, eqv_ints]
theorem neD_ints_nil (a : List Int) : neD (.list (a.map .int)) (.list []) = .ok (.bool (!decide (a = []))) := neD_ints a []
theorem eqD_ints_nil (a : List Int) : eqD (.list (a.map .int)) (.list []) = .ok (.bool (decide (a = []))) := eqD_ints a []
theorem intsOf_ints (ns : List Int) : intsOf (ns.map .int) = some ns := by
  induction ns with
  | nil => rfl
  | cons n ns ih => simp [intsOf, ih]
theorem boolsOf_bools (ns : List Bool) : boolsOf (ns.map .bool) = some ns := by
  induction ns with
  | nil => rfl
  | cons n ns ih => simp [boolsOf, ih]
/-! ### alarms -/
theorem is_int_int {wf : Nat} (i a b : Int) : p_is_int wf [.int i, .int a, .int b] = .ok (.bool (decide (a ≤ i) && decide (i ≤ b))) := by
  simp [p_is_int, runD, startE, sIf, sRet, sDrop, sRaise, sSet, sPar, sPar3, sAsg, put, Rt.lift, xD, xO, cV, cC, c1, c2, cT, cAnd, cOr, cIf, cCh, asB, cTup, cLst, cL, cCall, cCall0, cIxV, cLenV, aNil, aCons, oNone, oSome, asI, cSlc, iVal, iRng1, iRng2, itemsD, gN, gT, gCons, gNil, addD, subD, mulD, fdivD, modD, powD, negD, notD, ltD, leD, gtD, geD, isNoneD, notNoneD, isNoneB, isBoolD, notBoolD, idxD, itemAt, lenD, absD, isiD, isiB, max2D, min2D, tupleD, listD, inB, in62, B64, R62, SZ, sNil, L2.atI, L2.ixN, R.bind_ok, R.bind_exc, R.bind_bad, R.nox_ok, R.nox_exc, R.nox_bad]
  by_cases h : a ≤ i <;> simp [h]
theorem is_alarm_ok {wf : Nat} {p s : Int} (h1 : 1 ≤ p) (h2 : p ≤ 60) (h3 : 0 ≤ s) (h4 : s < p) : p_is_alarm wf [alarmD p s] = .ok (.bool true) := by
  have h5 : s ≤ p - 1 := by omega
  simp [p_is_alarm, sSeq, runD, startE, sIf, sRet, sDrop, sRaise, sSet, sPar, sPar3, sAsg, put, Rt.lift, xD, xO, cV, cC, c1, c2, cT, cAnd, cOr, cIf, cCh, asB, cTup, cLst, cL, cCall, cCall0, cIxV, cLenV, aNil, aCons, oNone, oSome, asI, cSlc, iVal, iRng1, iRng2, itemsD, gN, gT, gCons, gNil, addD, subD, mulD, fdivD, modD, powD, negD, notD, ltD, leD, gtD, geD, isNoneD, notNoneD, isNoneB, isBoolD, notBoolD, idxD, itemAt, lenD, absD, isiD, isiB, max2D, min2D, tupleD, listD, inB, in62, B64, R62, SZ, sNil, L2.atI, L2.ixN, R.bind_ok, R.bind_exc, R.bind_bad, R.nox_ok, R.nox_exc, R.nox_bad, is_int_int, neD_int, h1, h2, h3, h5]
theorem check_alarm_ok {wf : Nat} {p s : Int} (h1 : 1 ≤ p) (h2 : p ≤ 60) (h3 : 0 ≤ s) (h4 : s < p) : p_check_alarm wf [alarmD p s] = .ok .none := by
  simp [p_check_alarm, runD, startE, sIf, sRet, sDrop, sRaise, sSet, sPar, sPar3, sAsg, put, Rt.lift, xD, xO, cV, cC, c1, c2, cT, cAnd, cOr, cIf, cCh, asB, cTup, cLst, cL, cCall, cCall0, cIxV, cLenV, aNil, aCons, oNone, oSome, asI, cSlc, iVal, iRng1, iRng2, itemsD, gN, gT, gCons, gNil, addD, subD, mulD, fdivD, modD, powD, negD, notD, ltD, leD, gtD, geD, isNoneD, notNoneD, isNoneB, isBoolD, notBoolD, idxD, itemAt, lenD, absD, isiD, isiB, max2D, min2D, tupleD, listD, inB, in62, B64, R62, SZ, sNil, L2.atI, L2.ixN, R.bind_ok, R.bind_exc, R.bind_bad, R.nox_ok, R.nox_exc, R.nox_bad, is_alarm_ok h1 h2 h3 h4]
theorem check_two_ok {wf : Nat} {p s q t : Int} (h1 : 1 ≤ p) (h2 : p ≤ 60) (h3 : 0 ≤ s) (h4 : s < p) (k1 : 1 ≤ q) (k2 : q ≤ 60) (k3 : 0 ≤ t) (k4 : t < q) : p_check_two wf [alarmD p s, alarmD q t] = .ok .none := by
  simp [p_check_two, sSeq, runD, startE, sIf, sRet, sDrop, sRaise, sSet, sPar, sPar3, sAsg, put, Rt.lift, xD, xO, cV, cC, c1, c2, cT, cAnd, cOr, cIf, cCh, asB, cTup, cLst, cL, cCall, cCall0, cIxV, cLenV, aNil, aCons, oNone, oSome, asI, cSlc, iVal, iRng1, iRng2, itemsD, gN, gT, gCons, gNil, addD, subD, mulD, fdivD, modD, powD, negD, notD, ltD, leD, gtD, geD, isNoneD, notNoneD, isNoneB, isBoolD, notBoolD, idxD, itemAt, lenD, absD, isiD, isiB, max2D, min2D, tupleD, listD, inB, in62, B64, R62, SZ, sNil, L2.atI, L2.ixN, R.bind_ok, R.bind_exc, R.bind_bad, R.nox_ok, R.nox_exc, R.nox_bad, check_alarm_ok h1 h2 h3 h4, check_alarm_ok k1 k2 k3 k4]
/-! ### divisor -/
theorem div_loop {n : Nat} : ∀ (b : Nat) (a : Nat), b ≤ n → ∃ z : Int, whGo (c2 gtD (cV 1) (cC (.int 0))) (sPar 0 1 (xD (cV 1)) (xD (c2 modD (cV 0) (cV 1)))) (n + 1) [some (.dat (.int a)), some (.dat (.int b))] = .ok .nx [some (.dat (.int (Nat.gcd a b))), some (.dat (.int z))] := by
  induction n with
  | zero =>
    intro b a h
    have : b = 0 := by omega
    subst this
    exact ⟨0, by simp [whGo, runD, startE, sIf, sRet, sDrop, sRaise, sSet, sPar, sPar3, sAsg, put, Rt.lift, xD, xO, cV, cC, c1, c2, cT, cAnd, cOr, cIf, cCh, asB, cTup, cLst, cL, cCall, cCall0, cIxV, cLenV, aNil, aCons, oNone, oSome, asI, cSlc, iVal, iRng1, iRng2, itemsD, gN, gT, gCons, gNil, addD, subD, mulD, fdivD, modD, powD, negD, notD, ltD, leD, gtD, geD, isNoneD, notNoneD, isNoneB, isBoolD, notBoolD, idxD, itemAt, lenD, absD, isiD, isiB, max2D, min2D, tupleD, listD, inB, in62, B64, R62, SZ, sNil, L2.atI, L2.ixN, R.bind_ok, R.bind_exc, R.bind_bad, R.nox_ok, R.nox_exc, R.nox_bad]⟩
  | succ n ih =>
    intro b a h
    by_cases hb : b = 0
    · subst hb
      exact ⟨0, by simp [whGo, runD, startE, sIf, sRet, sDrop, sRaise, sSet, sPar, sPar3, sAsg, put, Rt.lift, xD, xO, cV, cC, c1, c2, cT, cAnd, cOr, cIf, cCh, asB, cTup, cLst, cL, cCall, cCall0, cIxV, cLenV, aNil, aCons, oNone, oSome, asI, cSlc, iVal, iRng1, iRng2, itemsD, gN, gT, gCons, gNil, addD, subD, mulD, fdivD, modD, powD, negD, notD, ltD, leD, gtD, geD, isNoneD, notNoneD, isNoneB, isBoolD, notBoolD, idxD, itemAt, lenD, absD, isiD, isiB, max2D, min2D, tupleD, listD, inB, in62, B64, R62, SZ, sNil, L2.atI, L2.ixN, R.bind_ok, R.bind_exc, R.bind_bad, R.nox_ok, R.nox_exc, R.nox_bad]⟩
    · obtain ⟨z, hz⟩ := ih (a % b) b (by have := Nat.mod_lt a (Nat.pos_of_ne_zero hb); omega)
      refine ⟨z, ?_⟩
      rw [whGo]
      have hb' : (0 : Int) < (b : Int) := by omega
      simp only [runD, startE, sIf, sRet, sDrop, sRaise, sSet, sPar, sPar3, sAsg, put, Rt.lift, xD, xO, cV, cC, c1, c2, cT, cAnd, cOr, cIf, cCh, asB, cTup, cLst, cL, cCall, cCall0, cIxV, cLenV, aNil, aCons, oNone, oSome, asI, cSlc, iVal, iRng1, iRng2, itemsD, gN, gT, gCons, gNil, addD, subD, mulD, fdivD, modD, powD, negD, notD, ltD, leD, gtD, geD, isNoneD, notNoneD, isNoneB, isBoolD, notBoolD, idxD, itemAt, lenD, absD, isiD, isiB, max2D, min2D, tupleD, listD, inB, in62, B64, R62, SZ, sNil, L2.atI, L2.ixN, R.bind_ok, R.bind_exc, R.bind_bad, R.nox_ok, R.nox_exc, R.nox_bad, List.getElem?_cons_zero, List.getElem?_cons_succ, hb', decide_true, if_true]
      simp only [List.length_cons, List.length_nil, List.set_cons_zero, List.set_cons_succ]
      have e : ((a : Int) % (b : Int)) = ((a % b : Nat) : Int) := by simp
      simp only [e]
      have g : Nat.gcd a b = Nat.gcd b (a % b) := by rw [Nat.gcd_comm a b, Nat.gcd_rec b a, Nat.gcd_comm]
      rw [g]
      simpa using hz
theorem divisor_ok {wf : Nat} {a b : Int} (ha : 0 ≤ a) (hb : 0 ≤ b) (hw : b < wf) : p_divisor wf [.int a, .int b] = .ok (.int (Int.gcd a b)) := by
  obtain ⟨x, rfl⟩ := Int.eq_ofNat_of_zero_le ha
  obtain ⟨y, rfl⟩ := Int.eq_ofNat_of_zero_le hb
  obtain ⟨n, rfl⟩ : ∃ n, wf = n + 1 := ⟨wf - 1, by omega⟩
  obtain ⟨z, hz⟩ := div_loop (n := n) y x (by omega)
  unfold p_divisor
  refine run_ret (r := [some (.dat (.int (Nat.gcd x y))), some (.dat (.int z))]) (seq_ok hz ?_)
  simp [runD, startE, sIf, sRet, sDrop, sRaise, sSet, sPar, sPar3, sAsg, put, Rt.lift, xD, xO, cV, cC, c1, c2, cT, cAnd, cOr, cIf, cCh, asB, cTup, cLst, cL, cCall, cCall0, cIxV, cLenV, aNil, aCons, oNone, oSome, asI, cSlc, iVal, iRng1, iRng2, itemsD, gN, gT, gCons, gNil, addD, subD, mulD, fdivD, modD, powD, negD, notD, ltD, leD, gtD, geD, isNoneD, notNoneD, isNoneB, isBoolD, notBoolD, idxD, itemAt, lenD, absD, isiD, isiB, max2D, min2D, tupleD, listD, inB, in62, B64, R62, SZ, sNil, L2.atI, L2.ixN, R.bind_ok, R.bind_exc, R.bind_bad, R.nox_ok, R.nox_exc, R.nox_bad, Int.gcd]
end Rq
/-! Rt, part P: what the program's own defs do on two alarms; walks. -/
namespace Rq
open PySem Rt Pg
theorem set_ok {i : Nat} {e : Ex} {r : En} {d : PyData} (h : e r = .ok d) (hi : i < r.length) : sSet i (xD e) r = .ok .nx (r.set i (some (.dat d))) := by
  unfold sSet xD; rw [h]; simp [Rt.lift, put, hi]
theorem par_ok {i j : Nat} {e f : Ex} {r : En} {d d2 : PyData} (h : e r = .ok d) (h2 : f r = .ok d2) (hi : i < r.length) (hj : j < r.length) : sPar i j (xD e) (xD f) r = .ok .nx ((r.set i (some (.dat d))).set j (some (.dat d2))) := by
  unfold sPar xD; rw [h, h2]; simp [Rt.lift, put, hi, hj]
theorem if_no {t : Ex} {a : Ss} {r : En} (h : t r = .ok (.bool false)) : sIf t a sNil r = .ok .nx r := by
  unfold sIf cT; rw [h]; simp [Rt.lift, asB, sNil]
theorem if_yes {t : Ex} {a b : Ss} {r : En} {x : RS} (h : t r = .ok (.bool true)) (h2 : a r = x) : sIf t a b r = x := by
  unfold sIf cT; rw [h]; simpa [Rt.lift, asB] using h2
theorem c1_ok {op : PyData → R PyData} {f : Ex} {r : En} {a b : PyData} (h : f r = .ok a) (h2 : op a = .ok b) : c1 op f r = .ok b := by
  unfold c1; rw [h]; simp [h2]
theorem c2_ok {op : PyData → PyData → R PyData} {f g : Ex} {r : En} {a b d : PyData} (h : f r = .ok a) (h1 : g r = .ok b) (h2 : op a b = .ok d) : c2 op f g r = .ok d := by
  unfold c2; rw [h, h1]; simp [h2]
theorem cT_ok {f : Ex} {r : En} {b : Bool} (h : f r = .ok (.bool b)) : cT f r = .ok b := by
  unfold cT; rw [h]; rfl
theorem and_ok {f g : Ex} {r : En} {a b : Bool} (h : f r = .ok (.bool a)) (h2 : a = true → g r = .ok (.bool b)) : cAnd f g r = .ok (.bool (a && b)) := by
  unfold cAnd; rw [h]; cases a <;> simp [h2]
theorem or_ok {f g : Ex} {r : En} {a b : Bool} (h : f r = .ok (.bool a)) (h2 : a = false → g r = .ok (.bool b)) : cOr f g r = .ok (.bool (a || b)) := by
  unfold cOr; rw [h]; cases a <;> simp [h2]
theorem eqD_dec (a b : Int) : eqD (.int a) (.int b) = .ok (.bool (decide (a = b))) := by
  rw [eqD_int]; by_cases h : a = b <;> simp [h]
theorem neD_dec (a b : Int) : neD (.int a) (.int b) = .ok (.bool (!decide (a = b))) := by
  rw [neD_int]; by_cases h : a = b <;> simp [h]
theorem modD_ok {a b : Int} (h : 0 < b) : modD (.int a) (.int b) = .ok (.int (a % b)) := by simp [modD, h]
theorem call1_ok {g : List PyData → R PyData} {f1 : Ex} {r : En} {a : PyData} {d : R PyData} (h1 : f1 r = .ok a) (h : g [a] = d) : cCall 1 g (aCons f1 aNil) r = d := by
  unfold cCall aCons aNil; rw [h1]; exact h
theorem call2_ok {g : List PyData → R PyData} {f1 f2 : Ex} {r : En} {a b : PyData} {d : R PyData} (h1 : f1 r = .ok a) (h2 : f2 r = .ok b) (h : g [a, b] = d) : cCall 2 g (aCons f1 (aCons f2 aNil)) r = d := by
  unfold cCall aCons aNil; rw [h1, h2]; exact h
theorem call3_ok {g : List PyData → R PyData} {f1 f2 f3 : Ex} {r : En} {a b c : PyData} {d : R PyData} (h1 : f1 r = .ok a) (h2 : f2 r = .ok b) (h3 : f3 r = .ok c) (h : g [a, b, c] = d) : cCall 3 g (aCons f1 (aCons f2 (aCons f3 aNil))) r = d := by
  unfold cCall aCons aNil; rw [h1, h2, h3]; exact h
theorem drop_ok {f : Ex} {r : En} {d : PyData} (h : f r = .ok d) : sDrop f r = .ok .nx r := by
  unfold sDrop; rw [h]; rfl
theorem ret_ok {f : Ex} {r : En} {d : PyData} (h : f r = .ok d) : sRet f r = .ok (.ret d) r := by
  unfold sRet; rw [h]; rfl
theorem or_no {f g : Ex} {r : En} (h : f r = .ok (.bool false)) (h2 : g r = .ok (.bool false)) : cOr f g r = .ok (.bool false) := by
  unfold cOr; rw [h]; simpa using h2
theorem for_inv {g : Tg} {b : Ss} {I : En → Prop} : ∀ {ds : List PyData}, (∀ d ∈ ds, ∀ r, I r → ∃ r1 r2, g d r = .ok r1 ∧ b r1 = .ok .nx r2 ∧ I r2) → ∀ r, I r → ∃ r2, forGo g b ds r = .ok .nx r2 ∧ I r2
  | [], _, r, hI => ⟨r, rfl, hI⟩
  | d :: ds, h, r, hI => by
    obtain ⟨r1, r2, e1, e2, hI2⟩ := h d (by simp) r hI
    obtain ⟨r3, e3, hI3⟩ := for_inv (fun d hd => h d (List.mem_cons_of_mem _ hd)) r2 hI2
    refine ⟨r3, ?_, hI3⟩
    rw [forGo, e1]
    simp only [e2]
    exact e3
theorem for_seq {src : Exl} {g : Tg} {b : Ss} {I : En → Prop} {ds : List PyData} {r : En} (hs : src r = .ok ds) (h : ∀ d ∈ ds, ∀ r, I r → ∃ r1 r2, g d r = .ok r1 ∧ b r1 = .ok .nx r2 ∧ I r2) (hI : I r) : ∃ r2, sFor src g b r = .ok .nx r2 ∧ I r2 := by
  unfold sFor; rw [hs]; exact for_inv h r hI
theorem rangeL_eq (lo hi : Int) : rangeL lo hi = (rangeI lo hi).map .int := by
  simp [rangeL, rangeI, List.map_map, Function.comp_def]
/-- a comprehension, item by item -/
theorem comp_go {α : Type} {g : Tg} {t : En → R Bool} {e : Ex} {r : En} {mk : α → PyData} (r1 : α → En) (b : α → Bool) (f : α → PyData) : ∀ {is : List α}, (∀ i ∈ is, g (mk i) r = .ok (r1 i) ∧ t (r1 i) = .ok (b i) ∧ (b i = true → e (r1 i) = .ok (f i))) → compGo g t e r (is.map mk) = .ok ((is.filter b).map f)
  | [], _ => rfl
  | i :: is, h => by
    obtain ⟨h1, h2, h3⟩ := h i (by simp)
    have ih := comp_go r1 b f (is := is) fun j hj => h j (List.mem_cons_of_mem _ hj)
    rw [List.map_cons, compGo, h1]
    simp only [R.nox_ok, R.bind_ok, h2]
    by_cases hb : b i = true
    · simp [hb, h3 hb, ih]
    · simp [hb, ih]
theorem comp_ok {α : Type} {vs : List Nat} {src : Exl} {g : Tg} {t : En → R Bool} {e : Ex} {r : En} {mk : α → PyData} {is : List α} (hs : src r = .ok (is.map mk)) (hl : is.length ≤ SZ) (r1 : α → En) (b : α → Bool) (f : α → PyData) (h : ∀ i ∈ is, g (mk i) (wipeE r vs) = .ok (r1 i) ∧ t (r1 i) = .ok (b i) ∧ (b i = true → e (r1 i) = .ok (f i))) : cComp vs src g t e r = .ok ((is.filter b).map f) := by
  unfold cComp
  rw [hs]
  have hl2 : ((is.filter b).map f).length ≤ SZ := by
    rw [List.length_map]; exact Nat.le_trans (List.length_filter_le _ _) hl
  simp only [R.bind_ok, comp_go r1 b f h, hl2, if_true]
theorem filt_true {α : Type} (l : List α) : l.filter (fun _ => true) = l := by
  induction l with
  | nil => rfl
  | cons a l ih => simp
/-! ### the least of a list -/
theorem min_fold : ∀ (r : List Int) (x : Int), (r.foldl (fun a b => if b < a then b else a) x) ∈ x :: r ∧ ∀ y ∈ x :: r, r.foldl (fun a b => if b < a then b else a) x ≤ y
  | [], x => by simp
  | z :: r, x => by
    rw [List.foldl_cons]
    obtain ⟨h1, h2⟩ := min_fold r (if z < x then z else x)
    constructor
    · rcases List.mem_cons.mp h1 with e | e
      · rw [e]; split <;> simp
      · exact List.mem_cons_of_mem _ (List.mem_cons_of_mem _ e)
    · intro y hy
      have h3 := h2 (if z < x then z else x) (by simp)
      rcases List.mem_cons.mp hy with e | e
      · subst e
        split at h3 <;> rename_i hz <;> simp only [hz, if_true, if_false] at h3 ⊢ <;> omega
      · rcases List.mem_cons.mp e with e | e
        · subst e
          split at h3 <;> rename_i hz <;> simp only [hz, if_true, if_false] at h3 ⊢ <;> omega
        · exact h2 y (List.mem_cons_of_mem _ e)
theorem minI_some {ns : List Int} (h : ns ≠ []) : ∃ m, minI ns = some m ∧ m ∈ ns ∧ ∀ y ∈ ns, m ≤ y := by
  cases ns with
  | nil => exact absurd rfl h
  | cons x r => exact ⟨_, rfl, (min_fold r x).1, (min_fold r x).2⟩
theorem minI_eq {ns : List Int} {m : Int} (h : m ∈ ns) (h2 : ∀ y ∈ ns, m ≤ y) : minI ns = some m := by
  obtain ⟨k, e, k1, k2⟩ := minI_some (ns := ns) (by rintro rfl; simp at h)
  have := h2 k k1
  have := k2 m h
  rw [e]; congr 1; omega
theorem minD_ints {ns : List Int} {m : Int} (h : minI ns = some m) : minD (.list (ns.map .int)) = .ok (.int m) := by
  simp [minD, onInts, intsOf_ints, h, optD]
/-! ### pairs -/
structure Al (p s : Int) : Prop where
  p1 : 1 ≤ p
  p2 : p ≤ 60
  s0 : 0 ≤ s
  s1 : s < p
theorem gcd_le_right {p q : Int} (hp : 0 < p) (hq : 0 < q) : (Int.gcd p q : Int) ≤ q := Int.le_of_dvd hq (Int.gcd_dvd_right p q)
theorem do_meet_ok {wf : Nat} {p s q t : Int} (hp : 0 < p) (hq : 0 < q) (hw : q < wf) : p_do_meet wf [alarmD p s, alarmD q t] = .ok (.bool (decide ((Int.gcd p q : Int) ∣ s - t))) := by
  have hd := divisor_ok (wf := wf) (a := p) (b := q) (by omega) (by omega) hw
  have hg := gcd_pos (q := q) hp
  generalize (Int.gcd p q : Int) = g at *
  simp [p_do_meet, runD, startE, sIf, sRet, sDrop, sRaise, sSet, sPar, sPar3, sAsg, put, Rt.lift, xD, xO, cV, cC, c1, c2, cT, cAnd, cOr, cIf, cCh, asB, cTup, cLst, cL, cCall, cCall0, cIxV, cLenV, aNil, aCons, oNone, oSome, asI, cSlc, iVal, iRng1, iRng2, itemsD, gN, gT, gCons, gNil, addD, subD, mulD, fdivD, modD, powD, negD, notD, ltD, leD, gtD, geD, isNoneD, notNoneD, isNoneB, isBoolD, notBoolD, idxD, itemAt, lenD, absD, isiD, isiB, max2D, min2D, tupleD, listD, inB, in62, B64, R62, SZ, sNil, L2.atI, L2.ixN, R.bind_ok, R.bind_exc, R.bind_bad, R.nox_ok, R.nox_exc, R.nox_bad, hd, hg, eqD_int, Int.dvd_iff_emod_eq_zero]
  by_cases h : (s - t) % g = 0 <;> simp [h]
theorem meet_ok {wf : Nat} {p s q t : Int} (h1 : Al p s) (h2 : Al q t) (hw : 60 < wf) : p_meet wf [alarmD p s, alarmD q t] = .ok (.bool (decide ((Int.gcd p q : Int) ∣ s - t))) := by
  have := h1.p1; have := h2.p1; have := h2.p2
  have hd := do_meet_ok (wf := wf) (p := p) (s := s) (q := q) (t := t) (by omega) (by omega) (by omega)
  simp [p_meet, sSeq, runD, startE, sIf, sRet, sDrop, sRaise, sSet, sPar, sPar3, sAsg, put, Rt.lift, xD, xO, cV, cC, c1, c2, cT, cAnd, cOr, cIf, cCh, asB, cTup, cLst, cL, cCall, cCall0, cIxV, cLenV, aNil, aCons, oNone, oSome, asI, cSlc, iVal, iRng1, iRng2, itemsD, gN, gT, gCons, gNil, addD, subD, mulD, fdivD, modD, powD, negD, notD, ltD, leD, gtD, geD, isNoneD, notNoneD, isNoneB, isBoolD, notBoolD, idxD, itemAt, lenD, absD, isiD, isiB, max2D, min2D, tupleD, listD, inB, in62, B64, R62, SZ, sNil, L2.atI, L2.ixN, R.bind_ok, R.bind_exc, R.bind_bad, R.nox_ok, R.nox_exc, R.nox_bad, check_two_ok h1.p1 h1.p2 h1.s0 h1.s1 h2.p1 h2.p2 h2.s0 h2.s1, hd]
theorem both_loop {p s q t T : Int} (hp : 0 < p) (hq : 0 < q) (s0 : 0 ≤ s) (t0 : 0 ≤ t) (tq : t < q) (T1 : T < (Int.lcm p q : Int)) (hT : p ∣ T - s) (hT2 : q ∣ T - t) : ∀ (d f : Nat), d < f → s ≤ T - p * d → whGo (c2 neD (c2 modD (cV 2) (cIxV 1 (cC (.int 0)))) (cIxV 1 (cC (.int 1)))) (sSet 2 (xD (c2 addD (cV 2) (cIxV 0 (cC (.int 0)))))) f [some (.dat (alarmD p s)), some (.dat (alarmD q t)), some (.dat (.int (T - p * d)))] = .ok .nx [some (.dat (alarmD p s)), some (.dat (alarmD q t)), some (.dat (.int T))] := by
  intro d
  induction d with
  | zero =>
    intro f hf hs
    obtain ⟨f, rfl⟩ : ∃ g, f = g + 1 := ⟨f - 1, by omega⟩
    have e : T % q = t := (mod_iff hq t0 tq).mpr hT2
    simp [whGo, runD, startE, sIf, sRet, sDrop, sRaise, sSet, sPar, sPar3, sAsg, put, Rt.lift, xD, xO, cV, cC, c1, c2, cT, cAnd, cOr, cIf, cCh, asB, cTup, cLst, cL, cCall, cCall0, cIxV, cLenV, aNil, aCons, oNone, oSome, asI, cSlc, iVal, iRng1, iRng2, itemsD, gN, gT, gCons, gNil, addD, subD, mulD, fdivD, modD, powD, negD, notD, ltD, leD, gtD, geD, isNoneD, notNoneD, isNoneB, isBoolD, notBoolD, idxD, itemAt, lenD, absD, isiD, isiB, max2D, min2D, tupleD, listD, inB, in62, B64, R62, SZ, sNil, L2.atI, L2.ixN, R.bind_ok, R.bind_exc, R.bind_bad, R.nox_ok, R.nox_exc, R.nox_bad, hq, neD_int, e]
  | succ d ih =>
    intro f hf hs
    obtain ⟨f, rfl⟩ : ∃ g, f = g + 1 := ⟨f - 1, by omega⟩
    have e0 : p * ((d + 1 : Nat) : Int) = p * (d : Int) + p := by rw [Int.natCast_add]; simp [Int.mul_add]
    have hpd : 0 ≤ p * (d : Int) := Int.mul_nonneg (by omega) (by omega)
    have ne : ¬ (T - p * ((d + 1 : Nat) : Int)) % q = t := by
      intro h
      rw [mod_iff hq t0 tq] at h
      have hp2 : p ∣ T - p * ((d + 1 : Nat) : Int) - s := by
        have : T - p * ((d + 1 : Nat) : Int) - s = (T - s) - p * ((d + 1 : Nat) : Int) := by omega
        rw [this]; exact Int.dvd_sub hT (Int.dvd_mul_right _ _)
      have := dvd_small (solve_unique hT hT2 hp2 h) (by omega) (by omega)
      omega
    have e1 : T - p * ((d + 1 : Nat) : Int) + p = T - p * (d : Int) := by omega
    have := ih f (by omega) (by omega)
    generalize T - p * ((d + 1 : Nat) : Int) = x at *
    rw [← e1] at this
    rw [whGo]
    simp [runD, startE, sIf, sRet, sDrop, sRaise, sSet, sPar, sPar3, sAsg, put, Rt.lift, xD, xO, cV, cC, c1, c2, cT, cAnd, cOr, cIf, cCh, asB, cTup, cLst, cL, cCall, cCall0, cIxV, cLenV, aNil, aCons, oNone, oSome, asI, cSlc, iVal, iRng1, iRng2, itemsD, gN, gT, gCons, gNil, addD, subD, mulD, fdivD, modD, powD, negD, notD, ltD, leD, gtD, geD, isNoneD, notNoneD, isNoneB, isBoolD, notBoolD, idxD, itemAt, lenD, absD, isiD, isiB, max2D, min2D, tupleD, listD, inB, in62, B64, R62, SZ, sNil, L2.atI, L2.ixN, R.bind_ok, R.bind_exc, R.bind_bad, R.nox_ok, R.nox_exc, R.nox_bad, hq, neD_int, ne]
    simpa using this
theorem both_ok {wf : Nat} {p s q t T : Int} (hp : 0 < p) (s0 : 0 ≤ s) (sp : s < p) (hq : 0 < q) (q60 : q ≤ 60) (t0 : 0 ≤ t) (tq : t < q) (hw : 60 < wf) (T0 : 0 ≤ T) (T1 : T < (Int.lcm p q : Int)) (hT : T % p = s) (hT2 : T % q = t) : p_both wf [alarmD p s, alarmD q t] = .ok (alarmD (Int.lcm p q) T) := by
  rw [mod_iff hp s0 sp] at hT
  rw [mod_iff hq t0 tq] at hT2
  have hd := divisor_ok (wf := wf) (a := p) (b := q) (by omega) (by omega) (by omega)
  have hg := gcd_pos (q := q) hp
  have hgq := gcd_le_right hp hq
  have hm := div_gcd_mul hp hq
  have hpg : p / (Int.gcd p q : Int) ≤ p := Int.ediv_le_self _ (by omega)
  have hl : (Int.lcm p q : Int) ≤ p * q := by rw [← hm]; exact Int.mul_le_mul_of_nonneg_right hpg (by omega)
  obtain ⟨j, hj⟩ := hT
  have j0 : 0 ≤ j := by
    by_cases h : 0 ≤ j
    · exact h
    · have : p * j ≤ p * (-1) := Int.mul_le_mul_of_nonneg_left (by omega) (by omega)
      omega
  have j1 : j < q := by
    by_cases h : j < q
    · exact h
    · have : p * q ≤ p * j := Int.mul_le_mul_of_nonneg_left (by omega) (by omega)
      omega
  obtain ⟨d, rfl⟩ := Int.eq_ofNat_of_zero_le j0
  have hloop := both_loop (s := s) hp hq s0 t0 tq T1 ⟨_, hj⟩ hT2 d wf (by omega) (by omega)
  have e : T - p * (d : Int) = s := by omega
  rw [e] at hloop
  unfold p_both
  refine run_ret (seq_ok (r1 := [some (.dat (alarmD p s)), some (.dat (alarmD q t)), some (.dat (.int s))]) ?_ (seq_ok hloop (ret_ok ?_)))
  · simp [runD, startE, sIf, sRet, sDrop, sRaise, sSet, sPar, sPar3, sAsg, put, Rt.lift, xD, xO, cV, cC, c1, c2, cT, cAnd, cOr, cIf, cCh, asB, cTup, cLst, cL, cCall, cCall0, cIxV, cLenV, aNil, aCons, oNone, oSome, asI, cSlc, iVal, iRng1, iRng2, itemsD, gN, gT, gCons, gNil, addD, subD, mulD, fdivD, modD, powD, negD, notD, ltD, leD, gtD, geD, isNoneD, notNoneD, isNoneB, isBoolD, notBoolD, idxD, itemAt, lenD, absD, isiD, isiB, max2D, min2D, tupleD, listD, inB, in62, B64, R62, SZ, sNil, L2.atI, L2.ixN, R.bind_ok, R.bind_exc, R.bind_bad, R.nox_ok, R.nox_exc, R.nox_bad]
  · clear hloop
    have hB : (Int.gcd p q : Int) < 18446744073709551616 := by omega
    have hB2 : -18446744073709551616 < q := by omega
    have hB3 : q < 18446744073709551616 := by omega
    generalize (Int.gcd p q : Int) = g at *
    simp [runD, startE, sIf, sRet, sDrop, sRaise, sSet, sPar, sPar3, sAsg, put, Rt.lift, xD, xO, cV, cC, c1, c2, cT, cAnd, cOr, cIf, cCh, asB, cTup, cLst, cL, cCall, cCall0, cIxV, cLenV, aNil, aCons, oNone, oSome, asI, cSlc, iVal, iRng1, iRng2, itemsD, gN, gT, gCons, gNil, addD, subD, mulD, fdivD, modD, powD, negD, notD, ltD, leD, gtD, geD, isNoneD, notNoneD, isNoneB, isBoolD, notBoolD, idxD, itemAt, lenD, absD, isiD, isiB, max2D, min2D, tupleD, listD, inB, in62, B64, R62, SZ, sNil, L2.atI, L2.ixN, R.bind_ok, R.bind_exc, R.bind_bad, R.nox_ok, R.nox_exc, R.nox_bad, hd, hg, hB, hB2, hB3, hm]
theorem first_meeting_ok {wf : Nat} {p s q t T : Int} (h1 : Al p s) (h2 : Al q t) (hw : 60 < wf) (T0 : 0 ≤ T) (T1 : T < (Int.lcm p q : Int)) (hT : T % p = s) (hT2 : T % q = t) : p_first_meeting wf [alarmD p s, alarmD q t] = .ok (.int T) := by
  have a1 := h1.p1; have a2 := h2.p1; have a3 := h2.p2
  have hb := both_ok (wf := wf) (by omega) h1.s0 h1.s1 (by omega) h2.p2 h2.s0 h2.s1 hw T0 T1 hT hT2
  have hd := do_meet_ok (wf := wf) (p := p) (s := s) (q := q) (t := t) (by omega) (by omega) (by omega)
  have hg : (Int.gcd p q : Int) ∣ s - t := solve_dvd ((mod_iff (by omega) h1.s0 h1.s1).mp hT) ((mod_iff (by omega) h2.s0 h2.s1).mp hT2)
  simp [p_first_meeting, sSeq, runD, startE, sIf, sRet, sDrop, sRaise, sSet, sPar, sPar3, sAsg, put, Rt.lift, xD, xO, cV, cC, c1, c2, cT, cAnd, cOr, cIf, cCh, asB, cTup, cLst, cL, cCall, cCall0, cIxV, cLenV, aNil, aCons, oNone, oSome, asI, cSlc, iVal, iRng1, iRng2, itemsD, gN, gT, gCons, gNil, addD, subD, mulD, fdivD, modD, powD, negD, notD, ltD, leD, gtD, geD, isNoneD, notNoneD, isNoneB, isBoolD, notBoolD, idxD, itemAt, lenD, absD, isiD, isiB, max2D, min2D, tupleD, listD, inB, in62, B64, R62, SZ, sNil, L2.atI, L2.ixN, R.bind_ok, R.bind_exc, R.bind_bad, R.nox_ok, R.nox_exc, R.nox_bad, check_two_ok h1.p1 h1.p2 h1.s0 h1.s1 h2.p1 h2.p2 h2.s0 h2.s1, hd, hb, hg]
theorem first_meeting_no {wf : Nat} {p s q t : Int} (h1 : Al p s) (h2 : Al q t) (hw : 60 < wf) (hg : ¬ (Int.gcd p q : Int) ∣ s - t) : p_first_meeting wf [alarmD p s, alarmD q t] = .ok .none := by
  have a1 := h1.p1; have a2 := h2.p1; have a3 := h2.p2
  have hd := do_meet_ok (wf := wf) (p := p) (s := s) (q := q) (t := t) (by omega) (by omega) (by omega)
  simp [p_first_meeting, sSeq, runD, startE, sIf, sRet, sDrop, sRaise, sSet, sPar, sPar3, sAsg, put, Rt.lift, xD, xO, cV, cC, c1, c2, cT, cAnd, cOr, cIf, cCh, asB, cTup, cLst, cL, cCall, cCall0, cIxV, cLenV, aNil, aCons, oNone, oSome, asI, cSlc, iVal, iRng1, iRng2, itemsD, gN, gT, gCons, gNil, addD, subD, mulD, fdivD, modD, powD, negD, notD, ltD, leD, gtD, geD, isNoneD, notNoneD, isNoneB, isBoolD, notBoolD, idxD, itemAt, lenD, absD, isiD, isiB, max2D, min2D, tupleD, listD, inB, in62, B64, R62, SZ, sNil, L2.atI, L2.ixN, R.bind_ok, R.bind_exc, R.bind_bad, R.nox_ok, R.nox_exc, R.nox_bad, check_two_ok h1.p1 h1.p2 h1.s0 h1.s1 h2.p1 h2.p2 h2.s0 h2.s1, hd, hg]
theorem meetings_no {wf : Nat} {p s q t k : Int} (h1 : Al p s) (h2 : Al q t) (hw : 60 < wf) (k0 : 0 ≤ k) (k1 : k ≤ 20) (hg : ¬ (Int.gcd p q : Int) ∣ s - t) : p_meetings wf [alarmD p s, alarmD q t, .int k] = .ok (intsD []) := by
  have a1 := h1.p1; have a2 := h2.p1; have a3 := h2.p2
  have hd := do_meet_ok (wf := wf) (p := p) (s := s) (q := q) (t := t) (by omega) (by omega) (by omega)
  simp [p_meetings, sSeq, runD, startE, sIf, sRet, sDrop, sRaise, sSet, sPar, sPar3, sAsg, put, Rt.lift, xD, xO, cV, cC, c1, c2, cT, cAnd, cOr, cIf, cCh, asB, cTup, cLst, cL, cCall, cCall0, cIxV, cLenV, aNil, aCons, oNone, oSome, asI, cSlc, iVal, iRng1, iRng2, itemsD, gN, gT, gCons, gNil, addD, subD, mulD, fdivD, modD, powD, negD, notD, ltD, leD, gtD, geD, isNoneD, notNoneD, isNoneB, isBoolD, notBoolD, idxD, itemAt, lenD, absD, isiD, isiB, max2D, min2D, tupleD, listD, inB, in62, B64, R62, SZ, sNil, L2.atI, L2.ixN, R.bind_ok, R.bind_exc, R.bind_bad, R.nox_ok, R.nox_exc, R.nox_bad, check_two_ok h1.p1 h1.p2 h1.s0 h1.s1 h2.p1 h2.p2 h2.s0 h2.s1, hd, hg, is_int_int, k0, k1]
theorem in62_small {k : Int} (a : -1000000000 ≤ k) (b : k ≤ 1000000000) : in62 k = true := by
  unfold in62 R62
  rw [Bool.and_eq_true, decide_eq_true_iff, decide_eq_true_iff]
  constructor <;> omega
theorem inB_small {k : Int} (a : -1000000000 ≤ k) (b : k ≤ 1000000000) : inB k = true := by
  unfold inB B64
  rw [Bool.and_eq_true, decide_eq_true_iff, decide_eq_true_iff]
  constructor <;> omega
theorem le_SZ {n : Nat} (h : n ≤ 1000000) : n ≤ SZ := Nat.le_trans h (by decide)
theorem rng1_ok {f : Ex} {r : En} {n : Int} (h : f r = .ok (.int n)) (a : -1000000000 ≤ n) (b : n ≤ 1000000000) : iRng1 f r = .ok ((rangeI 0 n).map .int) := by
  unfold iRng1
  rw [h]
  simp only [R.bind_ok, in62_small a b, if_true, rangeL_eq]
theorem cL_ok {f : Exl} {r : En} {ds : List PyData} (h : f r = .ok ds) : cL f r = .ok (.list ds) := by
  unfold cL; rw [h]; rfl
theorem meetings_comp {x0 x1 : Option Sl} {k L T : Int} (k0 : 0 ≤ k) (k1 : k ≤ 20) : cComp [5] (iRng1 (cV 2)) (gN 5) tYes (c2 addD (cV 4) (c2 mulD (cV 3) (cV 5))) [x0, x1, some (.dat (.int k)), some (.dat (.int L)), some (.dat (.int T)), none] = .ok ((rangeI 0 k).map fun i => .int (T + L * i)) := by
  have hc := comp_ok (vs := [5]) (src := iRng1 (cV 2)) (g := gN 5) (t := tYes) (e := c2 addD (cV 4) (c2 mulD (cV 3) (cV 5))) (r := [x0, x1, some (.dat (.int k)), some (.dat (.int L)), some (.dat (.int T)), none]) (mk := .int) (is := rangeI 0 k)
      (rng1_ok rfl (by omega) (by omega))
      (le_SZ (by rw [rangeI_length]; omega))
      (fun i => [x0, x1, some (.dat (.int k)), some (.dat (.int L)), some (.dat (.int T)), some (.dat (.int i))]) (fun _ => true) (fun i => .int (T + L * i))
      (fun i hi => by
        rw [mem_rangeI] at hi
        have b1 := inB_small (k := i) (by omega) (by omega)
        refine ⟨rfl, rfl, fun _ => ?_⟩
        simp [c2, cV, addD, mulD, b1])
  rw [filt_true] at hc
  exact hc
theorem meetings_ok {wf : Nat} {p s q t T k : Int} (h1 : Al p s) (h2 : Al q t) (hw : 60 < wf) (k0 : 0 ≤ k) (k1 : k ≤ 20) (T0 : 0 ≤ T) (T1 : T < (Int.lcm p q : Int)) (hT : T % p = s) (hT2 : T % q = t) : p_meetings wf [alarmD p s, alarmD q t, .int k] = .ok (intsD ((rangeI 0 k).map fun i => T + (Int.lcm p q : Int) * i)) := by
  have a1 := h1.p1; have a2 := h2.p1; have a3 := h2.p2
  have hb := both_ok (wf := wf) (by omega) h1.s0 h1.s1 (by omega) h2.p2 h2.s0 h2.s1 hw T0 T1 hT hT2
  have hd := do_meet_ok (wf := wf) (p := p) (s := s) (q := q) (t := t) (by omega) (by omega) (by omega)
  have hg : (Int.gcd p q : Int) ∣ s - t := solve_dvd ((mod_iff (by omega) h1.s0 h1.s1).mp hT) ((mod_iff (by omega) h2.s0 h2.s1).mp hT2)
  unfold p_meetings
  refine run_ret (seq_ok (drop_ok (d := .none) ?_) (seq_ok (if_no ?_) (seq_ok (if_no ?_) (seq_ok (r1 := [some (.dat (alarmD p s)), some (.dat (alarmD q t)), some (.dat (.int k)), some (.dat (.int (Int.lcm p q))), some (.dat (.int T)), none]) ?_ (ret_ok ?_)))))
  · simp [runD, startE, sIf, sRet, sDrop, sRaise, sSet, sPar, sPar3, sAsg, put, Rt.lift, xD, xO, cV, cC, c1, c2, cT, cAnd, cOr, cIf, cCh, asB, cTup, cLst, cL, cCall, cCall0, cIxV, cLenV, aNil, aCons, oNone, oSome, asI, cSlc, iVal, iRng1, iRng2, itemsD, gN, gT, gCons, gNil, addD, subD, mulD, fdivD, modD, powD, negD, notD, ltD, leD, gtD, geD, isNoneD, notNoneD, isNoneB, isBoolD, notBoolD, idxD, itemAt, lenD, absD, isiD, isiB, max2D, min2D, tupleD, listD, inB, in62, B64, R62, SZ, sNil, L2.atI, L2.ixN, R.bind_ok, R.bind_exc, R.bind_bad, R.nox_ok, R.nox_exc, R.nox_bad, check_two_ok h1.p1 h1.p2 h1.s0 h1.s1 h2.p1 h2.p2 h2.s0 h2.s1]
  · simp [runD, startE, sIf, sRet, sDrop, sRaise, sSet, sPar, sPar3, sAsg, put, Rt.lift, xD, xO, cV, cC, c1, c2, cT, cAnd, cOr, cIf, cCh, asB, cTup, cLst, cL, cCall, cCall0, cIxV, cLenV, aNil, aCons, oNone, oSome, asI, cSlc, iVal, iRng1, iRng2, itemsD, gN, gT, gCons, gNil, addD, subD, mulD, fdivD, modD, powD, negD, notD, ltD, leD, gtD, geD, isNoneD, notNoneD, isNoneB, isBoolD, notBoolD, idxD, itemAt, lenD, absD, isiD, isiB, max2D, min2D, tupleD, listD, inB, in62, B64, R62, SZ, sNil, L2.atI, L2.ixN, R.bind_ok, R.bind_exc, R.bind_bad, R.nox_ok, R.nox_exc, R.nox_bad, is_int_int, k0, k1]
  · simp [runD, startE, sIf, sRet, sDrop, sRaise, sSet, sPar, sPar3, sAsg, put, Rt.lift, xD, xO, cV, cC, c1, c2, cT, cAnd, cOr, cIf, cCh, asB, cTup, cLst, cL, cCall, cCall0, cIxV, cLenV, aNil, aCons, oNone, oSome, asI, cSlc, iVal, iRng1, iRng2, itemsD, gN, gT, gCons, gNil, addD, subD, mulD, fdivD, modD, powD, negD, notD, ltD, leD, gtD, geD, isNoneD, notNoneD, isNoneB, isBoolD, notBoolD, idxD, itemAt, lenD, absD, isiD, isiB, max2D, min2D, tupleD, listD, inB, in62, B64, R62, SZ, sNil, L2.atI, L2.ixN, R.bind_ok, R.bind_exc, R.bind_bad, R.nox_ok, R.nox_exc, R.nox_bad, hd, hg]
  · simp [runD, startE, sIf, sRet, sDrop, sRaise, sSet, sPar, sPar3, sAsg, put, Rt.lift, xD, xO, cV, cC, c1, c2, cT, cAnd, cOr, cIf, cCh, asB, cTup, cLst, cL, cCall, cCall0, cIxV, cLenV, aNil, aCons, oNone, oSome, asI, cSlc, iVal, iRng1, iRng2, itemsD, gN, gT, gCons, gNil, addD, subD, mulD, fdivD, modD, powD, negD, notD, ltD, leD, gtD, geD, isNoneD, notNoneD, isNoneB, isBoolD, notBoolD, idxD, itemAt, lenD, absD, isiD, isiB, max2D, min2D, tupleD, listD, inB, in62, B64, R62, SZ, sNil, L2.atI, L2.ixN, R.bind_ok, R.bind_exc, R.bind_bad, R.nox_ok, R.nox_exc, R.nox_bad, hb]
  · rw [cL_ok (meetings_comp k0 k1)]
    simp [List.map_map, Function.comp_def]
def leastI (p s q t : Int) : Int := if (Int.gcd p q : Int) - (s - t) % (Int.gcd p q : Int) < (s - t) % (Int.gcd p q : Int) then (Int.gcd p q : Int) - (s - t) % (Int.gcd p q : Int) else (s - t) % (Int.gcd p q : Int)
theorem least_ok {wf : Nat} {p s q t : Int} (h1 : Al p s) (h2 : Al q t) (hw : 60 < wf) : p_least_distance wf [alarmD p s, alarmD q t] = .ok (.int (leastI p s q t)) := by
  have a1 := h1.p1; have a2 := h2.p1; have a3 := h2.p2
  have hd := divisor_ok (wf := wf) (a := p) (b := q) (by omega) (by omega) (by omega)
  have hg := gcd_pos (p := p) (q := q) (by omega)
  unfold leastI
  generalize (Int.gcd p q : Int) = g at *
  simp [p_least_distance, sSeq, runD, startE, sIf, sRet, sDrop, sRaise, sSet, sPar, sPar3, sAsg, put, Rt.lift, xD, xO, cV, cC, c1, c2, cT, cAnd, cOr, cIf, cCh, asB, cTup, cLst, cL, cCall, cCall0, cIxV, cLenV, aNil, aCons, oNone, oSome, asI, cSlc, iVal, iRng1, iRng2, itemsD, gN, gT, gCons, gNil, addD, subD, mulD, fdivD, modD, powD, negD, notD, ltD, leD, gtD, geD, isNoneD, notNoneD, isNoneB, isBoolD, notBoolD, idxD, itemAt, lenD, absD, isiD, isiB, max2D, min2D, tupleD, listD, inB, in62, B64, R62, SZ, sNil, L2.atI, L2.ixN, R.bind_ok, R.bind_exc, R.bind_bad, R.nox_ok, R.nox_exc, R.nox_bad, check_two_ok h1.p1 h1.p2 h1.s0 h1.s1 h2.p1 h2.p2 h2.s0 h2.s1, hd, hg]
end Rq
/-! Rt, part Q: the least distance of two alarms. -/
namespace Rq
open PySem Rt Pg
def ab (a : Int) : Int := if a < 0 then -a else a
theorem least_le {p s q t x y : Int} (hp : 0 < p) (hq : 0 < q) (hx : p ∣ x - s) (hy : q ∣ y - t) : leastI p s q t ≤ ab (x - y) := by
  have hg := gcd_pos (q := q) hp
  have h1 : (Int.gcd p q : Int) ∣ x - s := Int.dvd_trans (Int.gcd_dvd_left p q) hx
  have h2 : (Int.gcd p q : Int) ∣ y - t := Int.dvd_trans (Int.gcd_dvd_right p q) hy
  unfold leastI
  generalize (Int.gcd p q : Int) = g at *
  obtain ⟨a, ha⟩ := h1
  obtain ⟨b, hb⟩ := h2
  have hr := Int.mul_ediv_add_emod (s - t) g
  have r0 := Int.emod_nonneg (s - t) (b := g) (by omega)
  have r1 := Int.emod_lt_of_pos (s - t) hg
  generalize (s - t) % g = r at *
  generalize (s - t) / g = c at *
  have e : x - y = r + g * (c + a - b) := by
    rw [Int.mul_sub, Int.mul_add]; omega
  generalize c + a - b = k at e
  unfold ab
  by_cases hk : 0 ≤ k
  · have : 0 ≤ g * k := Int.mul_nonneg (by omega) hk
    split <;> split <;> omega
  · have : g * k ≤ g * (-1) := Int.mul_le_mul_of_nonneg_left (by omega) (by omega)
    split <;> split <;> omega
theorem least_hit {p s q t : Int} (hp : 0 < p) (hq : 0 < q) : ∃ x y, 0 ≤ x ∧ x < 2 * (Int.lcm p q : Int) ∧ 0 ≤ y ∧ y < 2 * (Int.lcm p q : Int) ∧ p ∣ x - s ∧ q ∣ y - t ∧ ab (x - y) = leastI p s q t := by
  have hg := gcd_pos (q := q) hp
  have hL := lcm_pos' hp hq
  have hgL : (Int.gcd p q : Int) ≤ (Int.lcm p q : Int) := Int.le_of_dvd hL (Int.dvd_trans (Int.gcd_dvd_left p q) (Int.dvd_lcm_left p q))
  have hr := Int.mul_ediv_add_emod (s - t) (Int.gcd p q : Int)
  have r0 := Int.emod_nonneg (s - t) (b := (Int.gcd p q : Int)) (by omega)
  have r1 := Int.emod_lt_of_pos (s - t) hg
  unfold leastI
  by_cases hc : (Int.gcd p q : Int) - (s - t) % (Int.gcd p q : Int) < (s - t) % (Int.gcd p q : Int)
  · have hd : (Int.gcd p q : Int) ∣ s - (t + ((s - t) % (Int.gcd p q : Int) - (Int.gcd p q : Int))) := ⟨(s - t) / (Int.gcd p q : Int) + 1, by rw [Int.mul_add]; omega⟩
    obtain ⟨x, x0, x1, xs, xt⟩ := solve_in hp hq hd 0
    refine ⟨x, x - ((s - t) % (Int.gcd p q : Int) - (Int.gcd p q : Int)), by omega, by omega, by omega, by omega, xs, ?_, ?_⟩
    · have : x - ((s - t) % (Int.gcd p q : Int) - (Int.gcd p q : Int)) - t = x - (t + ((s - t) % (Int.gcd p q : Int) - (Int.gcd p q : Int))) := by omega
      rw [this]; exact xt
    · rw [if_pos hc]; unfold ab; split <;> omega
  · have hd : (Int.gcd p q : Int) ∣ s - (t + (s - t) % (Int.gcd p q : Int)) := ⟨(s - t) / (Int.gcd p q : Int), by omega⟩
    obtain ⟨x, x0, x1, xs, xt⟩ := solve_in hp hq hd (Int.lcm p q : Int)
    refine ⟨x, x - (s - t) % (Int.gcd p q : Int), by omega, by omega, by omega, by omega, xs, ?_, ?_⟩
    · have : x - (s - t) % (Int.gcd p q : Int) - t = x - (t + (s - t) % (Int.gcd p q : Int)) := by omega
      rw [this]; exact xt
    · rw [if_neg hc]; unfold ab; split <;> omega
theorem least_comm {p s q t : Int} (hp : 0 < p) (hq : 0 < q) : leastI q t p s = leastI p s q t := by
  obtain ⟨x, y, _, _, _, _, h1, h2, e⟩ := least_hit (s := s) (t := t) hp hq
  obtain ⟨u, v, _, _, _, _, k1, k2, e2⟩ := least_hit (s := t) (t := s) hq hp
  have a := least_le hq hp h2 h1
  have b := least_le hp hq k2 k1
  have c1 : ab (y - x) = ab (x - y) := by unfold ab; split <;> split <;> omega
  have c2 : ab (v - u) = ab (u - v) := by unfold ab; split <;> split <;> omega
  omega
/-- the times of one alarm below n -/
def timesI (n p s : Int) : List Int := (rangeI 0 n).filter fun x => decide (x % p = s)
theorem mem_timesI {n p s x : Int} (hp : 0 < p) (s0 : 0 ≤ s) (s1 : s < p) : x ∈ timesI n p s ↔ (0 ≤ x ∧ x < n) ∧ p ∣ x - s := by
  unfold timesI
  rw [List.mem_filter, mem_rangeI, decide_eq_true_iff, mod_iff hp s0 s1]
def nearI (ys : List Int) (x : Int) : Int := (minI (ys.map fun y => ab (x - y))).getD 0
theorem near_ok {p s q t : Int} (hp : 0 < p) (hq : 0 < q) (s0 : 0 ≤ s) (s1 : s < p) (t0 : 0 ≤ t) (t1 : t < q) :
    (timesI (2 * (Int.lcm p q : Int)) q t ≠ []) ∧ minI ((timesI (2 * (Int.lcm p q : Int)) p s).map (nearI (timesI (2 * (Int.lcm p q : Int)) q t))) = some (leastI p s q t) := by
  obtain ⟨x, y, x0, x1, y0, y1, h1, h2, e⟩ := least_hit (s := s) (t := t) hp hq
  have my : y ∈ timesI (2 * (Int.lcm p q : Int)) q t := (mem_timesI hq t0 t1).mpr ⟨⟨y0, y1⟩, h2⟩
  have mx : x ∈ timesI (2 * (Int.lcm p q : Int)) p s := (mem_timesI hp s0 s1).mpr ⟨⟨x0, x1⟩, h1⟩
  have ne : timesI (2 * (Int.lcm p q : Int)) q t ≠ [] := List.ne_nil_of_mem my
  refine ⟨ne, ?_⟩
  have key : ∀ u ∈ timesI (2 * (Int.lcm p q : Int)) p s, leastI p s q t ≤ nearI (timesI (2 * (Int.lcm p q : Int)) q t) u := by
    intro u hu
    obtain ⟨m, em, m1, m2⟩ := minI_some (ns := (timesI (2 * (Int.lcm p q : Int)) q t).map fun y => ab (u - y)) (by simpa using ne)
    unfold nearI
    rw [em]
    obtain ⟨v, hv, rfl⟩ := List.mem_map.mp m1
    exact least_le hp hq ((mem_timesI hp s0 s1).mp hu).2 ((mem_timesI hq t0 t1).mp hv).2
  refine minI_eq ?_ ?_
  · refine List.mem_map.mpr ⟨x, mx, ?_⟩
    have h := key x mx
    obtain ⟨m, em, m1, m2⟩ := minI_some (ns := (timesI (2 * (Int.lcm p q : Int)) q t).map fun y => ab (x - y)) (by simpa using ne)
    have := m2 (ab (x - y)) (List.mem_map.mpr ⟨y, my, rfl⟩)
    unfold nearI at h ⊢
    rw [em] at h ⊢
    simp only [Option.getD_some] at h ⊢
    omega
  · intro z hz
    obtain ⟨u, hu, rfl⟩ := List.mem_map.mp hz
    exact key u hu
end Rq

namespace Rq
open PySem Rt Pg
theorem item_ok (ns : List Int) (h : ns ≠ []) (k : Int) (k0 : 0 ≤ k) : ∃ v, itemAt (ns.map .int) (k % (ns.length : Int)) = .ok (.int v) := by
  have hl : (0 : Int) < (ns.length : Int) := by
    have := List.length_pos_iff.mpr h; omega
  have h0 := Int.emod_nonneg k (b := (ns.length : Int)) (by omega)
  have h1 := Int.emod_lt_of_pos k hl
  obtain ⟨n, hn⟩ := Int.eq_ofNat_of_zero_le h0
  rw [hn] at h1 ⊢
  have h2 : n < ns.length := by omega
  refine ⟨ns[n], ?_⟩
  have h3 : ¬ ((n : Int) < 0) := by omega
  simp [itemAt, L2.atI, L2.ixN, h2, h3]
/-- the place picked is an int -/
theorem pick_first {wf : Nat} (ns : List Int) (k : Int) (k0 : 0 ≤ k) (r : En) (h0 : r[0]? = some (some (.dat (.list (ns.map .int))))) (h1 : r[1]? = some (some (.dat (.int k)))) : ∃ v, cIf (c2 neD (cV 0) (cL (cLst aNil))) (cIxV 0 (c2 modD (cV 1) (cLenV 0))) (cC (.int 0)) r = .ok (.int v) := by
  by_cases h : ns = []
  · subst h
    refine ⟨0, ?_⟩
    have e := neD_ints_nil []
    simp [cIf, cT, c2, cV, h0, h1, cL, cLst, aNil, SZ, asB, cC] at e ⊢
    simp [e]
  · obtain ⟨v, hv⟩ := item_ok ns h k k0
    refine ⟨v, ?_⟩
    have e := neD_ints_nil ns
    have hl : (0 : Int) < (ns.length : Int) := by
      have := List.length_pos_iff.mpr h; omega
    simp [cIf, cT, c2, cV, h0, h1, cL, cLst, aNil, SZ, asB, cC, e, h, cIxV, cLenV, lenD, modD, List.length_pos_iff.mpr h, idxD, hv]
theorem pick_loop {x0 x1 x2 x3 x6 : Option Sl} : ∀ (f a : Nat) (n : Int), a < f → ∃ (n2 a2 : Int), whGo (cAnd (c2 gtD (cV 4) (cC (.int 0))) (c2 gtD (cV 5) (cC (.int 0)))) (sPar 4 5 (xD (c2 fdivD (cV 4) (cC (.int 840)))) (xD (c2 subD (cV 5) (cC (.int 1))))) f [x0, x1, x2, x3, some (.dat (.int n)), some (.dat (.int a)), x6] = .ok .nx [x0, x1, x2, x3, some (.dat (.int n2)), some (.dat (.int a2)), x6] := by
  intro f
  induction f with
  | zero => intro a n h; omega
  | succ f ih =>
    intro a n h
    by_cases hn : 0 < n
    · by_cases ha : a = 0
      · subst ha
        exact ⟨n, 0, by simp [whGo, runD, startE, sIf, sRet, sDrop, sRaise, sSet, sPar, sPar3, sAsg, put, Rt.lift, xD, xO, cV, cC, c1, c2, cT, cAnd, cOr, cIf, cCh, asB, cTup, cLst, cL, cCall, cCall0, cIxV, cLenV, aNil, aCons, oNone, oSome, asI, cSlc, iVal, iRng1, iRng2, itemsD, gN, gT, gCons, gNil, addD, subD, mulD, fdivD, modD, powD, negD, notD, ltD, leD, gtD, geD, isNoneD, notNoneD, isNoneB, isBoolD, notBoolD, idxD, itemAt, lenD, absD, isiD, isiB, max2D, min2D, tupleD, listD, inB, in62, B64, R62, SZ, sNil, L2.atI, L2.ixN, R.bind_ok, R.bind_exc, R.bind_bad, R.nox_ok, R.nox_exc, R.nox_bad, hn]⟩
      · obtain ⟨n2, a2, e⟩ := ih (a - 1) (n / 840) (by omega)
        refine ⟨n2, a2, ?_⟩
        have ha2 : (0 : Int) < (a : Int) := by omega
        have e2 : ((a - 1 : Nat) : Int) = (a : Int) - 1 := by omega
        rw [e2] at e
        simp [whGo, runD, startE, sIf, sRet, sDrop, sRaise, sSet, sPar, sPar3, sAsg, put, Rt.lift, xD, xO, cV, cC, c1, c2, cT, cAnd, cOr, cIf, cCh, asB, cTup, cLst, cL, cCall, cCall0, cIxV, cLenV, aNil, aCons, oNone, oSome, asI, cSlc, iVal, iRng1, iRng2, itemsD, gN, gT, gCons, gNil, addD, subD, mulD, fdivD, modD, powD, negD, notD, ltD, leD, gtD, geD, isNoneD, notNoneD, isNoneB, isBoolD, notBoolD, idxD, itemAt, lenD, absD, isiD, isiB, max2D, min2D, tupleD, listD, inB, in62, B64, R62, SZ, sNil, L2.atI, L2.ixN, R.bind_ok, R.bind_exc, R.bind_bad, R.nox_ok, R.nox_exc, R.nox_bad, hn, Nat.pos_of_ne_zero ha]
        exact e
    · exact ⟨n, a, by simp [whGo, runD, startE, sIf, sRet, sDrop, sRaise, sSet, sPar, sPar3, sAsg, put, Rt.lift, xD, xO, cV, cC, c1, c2, cT, cAnd, cOr, cIf, cCh, asB, cTup, cLst, cL, cCall, cCall0, cIxV, cLenV, aNil, aCons, oNone, oSome, asI, cSlc, iVal, iRng1, iRng2, itemsD, gN, gT, gCons, gNil, addD, subD, mulD, fdivD, modD, powD, negD, notD, ltD, leD, gtD, geD, isNoneD, notNoneD, isNoneB, isBoolD, notBoolD, idxD, itemAt, lenD, absD, isiD, isiB, max2D, min2D, tupleD, listD, inB, in62, B64, R62, SZ, sNil, L2.atI, L2.ixN, R.bind_ok, R.bind_exc, R.bind_bad, R.nox_ok, R.nox_exc, R.nox_bad, hn]⟩
theorem pick_ok {wf : Nat} {ns : List Int} (hl : ns.length ≤ 63) {k many : Int} (k0 : 0 ≤ k) (k1 : k < 1000) (hw : 1000 < wf) (m0 : 0 < many) (m1 : many ≤ 1000000) : ∃ v, p__law_pick wf [.list (ns.map .int), .int k, .int many] = .ok (.int v) ∧ 0 ≤ v ∧ v < many := by
  obtain ⟨n, hn⟩ := pick_first (wf := wf) ns k k0 [some (.dat (.list (ns.map .int))), some (.dat (.int k)), some (.dat (.int many)), none, none, none, none] rfl rfl
  obtain ⟨a, ha, ha1⟩ : ∃ a : Nat, k / (if (1 : Int) > (ns.length : Int) then 1 else (ns.length : Int)) = (a : Int) ∧ a ≤ 1000 := by
    have : (0 : Int) < (if (1 : Int) > (ns.length : Int) then 1 else (ns.length : Int)) := by split <;> omega
    have h0 := Int.ediv_nonneg k0 (Int.le_of_lt this)
    have h1 := Int.ediv_le_self (b := (if (1 : Int) > (ns.length : Int) then 1 else (ns.length : Int))) (a := k) k0
    obtain ⟨a, e⟩ := Int.eq_ofNat_of_zero_le h0
    exact ⟨a, e, by omega⟩
  obtain ⟨n2, a2, hloop⟩ := pick_loop (x0 := some (.dat (.list (ns.map .int)))) (x1 := some (.dat (.int k))) (x2 := some (.dat (.int many))) (x3 := some (.dat (.int n))) (x6 := none) wf a (n / 1000000000000000000) (by omega)
  have hp : c2 powD (cC (.int 10)) (cC (.int 18)) [some (.dat (.list (ns.map .int))), some (.dat (.int k)), some (.dat (.int many)), some (.dat (.int n)), none, none, none] = .ok (.int 1000000000000000000) := by rfl
  have hb : (0 : Int) < (if (1 : Int) > (ns.length : Int) then 1 else (ns.length : Int)) ∧ (if (1 : Int) > (ns.length : Int) then 1 else (ns.length : Int)) < 18446744073709551616 := by
    split <;> constructor <;> omega
  have hm : c2 fdivD (cV 1) (c2 max2D (cLenV 0) (cC (.int 1))) [some (.dat (.list (ns.map .int))), some (.dat (.int k)), some (.dat (.int many)), some (.dat (.int n)), none, none, none] = .ok (.int a) := by
    rw [← ha]
    generalize hc : (if (1 : Int) > (ns.length : Int) then 1 else (ns.length : Int)) = z at hb ⊢
    simp only [c2, cV, cLenV, lenD, max2D, cC, List.getElem?_cons_zero, List.getElem?_cons_succ, R.bind_ok, R.nox_ok, List.length_map, hc, fdivD, B64]
    simp [hb.1, hb.2]
  have hstep : ∀ (B : Ss) (x : RS), B [some (.dat (.list (ns.map .int))), some (.dat (.int k)), some (.dat (.int many)), some (.dat (.int n)), some (.dat (.int n2)), some (.dat (.int a2)), none] = x →
      sSeq (sSet 3 (xD (cIf (c2 neD (cV 0) (cL (cLst aNil))) (cIxV 0 (c2 modD (cV 1) (cLenV 0))) (cC (.int 0))))) (sSeq (sPar 4 5 (xD (c2 fdivD (cV 3) (c2 powD (cC (.int 10)) (cC (.int 18))))) (xD (c2 fdivD (cV 1) (c2 max2D (cLenV 0) (cC (.int 1)))))) (sSeq (sWh wf (cAnd (c2 gtD (cV 4) (cC (.int 0))) (c2 gtD (cV 5) (cC (.int 0)))) (sPar 4 5 (xD (c2 fdivD (cV 4) (cC (.int 840)))) (xD (c2 subD (cV 5) (cC (.int 1)))))) B)) (startE 7 [.list (ns.map .int), .int k, .int many]) = x := by
    intro B x hB
    refine seq_ok (set_ok hn (by simp [startE])) (seq_ok (par_ok (d := .int (n / 1000000000000000000)) (d2 := .int a) ?_ ?_ (by simp [startE]) (by simp [startE])) (seq_ok hloop hB))
    · show c2 fdivD (cV 3) (c2 powD (cC (.int 10)) (cC (.int 18))) [some (.dat (.list (ns.map .int))), some (.dat (.int k)), some (.dat (.int many)), some (.dat (.int n)), none, none, none] = _
      unfold c2 at hp ⊢
      rw [hp]
      rfl
    · exact hm
  unfold p__law_pick
  by_cases h2 : 0 < n2
  · refine ⟨n2 % 840 % many, ?_, Int.emod_nonneg _ (by omega), Int.emod_lt_of_pos _ m0⟩
    refine run_ret (hstep _ _ (seq_ret (if_yes ?_ (ret_ok (d := .int (n2 % 840 % many)) ?_))))
    · simp [c2, gtD, cV, cC, h2]
    · simp [c2, modD, cV, cC, m0]
  · generalize hv : ((n * 31 + 6151 * (k + 1)) * 40692) % 2147483399 = v
    have v0 : 0 ≤ v := by rw [← hv]; exact Int.emod_nonneg _ (by decide)
    have v1 : v < 2147483399 := by rw [← hv]; exact Int.emod_lt_of_pos _ (by decide)
    have v2 : inB v = true := by
      unfold inB B64
      rw [Bool.and_eq_true, decide_eq_true_iff, decide_eq_true_iff]
      constructor <;> omega
    have c1' : inB 31 = true := by decide
    have c2' : inB 6151 = true := by decide
    have c3' : inB 40692 = true := by decide
    have c4' : (31 : Int) < B64 := by decide
    refine ⟨(v * v + v / 31) % 2147483629 % many, ?_, Int.emod_nonneg _ (by omega), Int.emod_lt_of_pos _ m0⟩
    refine run_ret (hstep _ _ (seq_ok (if_no ?_) (seq_ok (set_ok (d := .int v) ?_ (by simp)) (ret_ok ?_))))
    · simp [c2, gtD, cV, cC, h2]
    · simp [c2, addD, mulD, modD, cV, cC, c1', c2', c3', hv]
    · simp [c2, addD, mulD, modD, fdivD, cV, cC, v2, m0, c4']
theorem alarm_ok {wf : Nat} {ns : List Int} (hl : ns.length ≤ 63) {k : Int} (k0 : 0 ≤ k) (k1 : k < 900) (hw : 1000 < wf) : ∃ p s, p__law_alarm wf [.list (ns.map .int), .int k] = .ok (alarmD p s) ∧ 1 ≤ p ∧ p ≤ 12 ∧ 0 ≤ s ∧ s < p := by
  obtain ⟨v, hv, v0, v1⟩ := pick_ok (wf := wf) hl (many := 12) k0 (by omega) hw (by omega) (by omega)
  obtain ⟨p, hp, p1, p2⟩ : ∃ p : Int, idxD (.tuple [.int 1, .int 2, .int 3, .int 4, .int 6, .int 6, .int 8, .int 9, .int 10, .int 12, .int 5, .int 7]) (.int v) = .ok (.int p) ∧ 1 ≤ p ∧ p ≤ 12 := by
    have : v = 0 ∨ v = 1 ∨ v = 2 ∨ v = 3 ∨ v = 4 ∨ v = 5 ∨ v = 6 ∨ v = 7 ∨ v = 8 ∨ v = 9 ∨ v = 10 ∨ v = 11 := by omega
    rcases this with rfl | rfl | rfl | rfl | rfl | rfl | rfl | rfl | rfl | rfl | rfl | rfl <;> exact ⟨_, rfl, by decide, by decide⟩
  obtain ⟨s, hs, s0, s1⟩ := pick_ok (wf := wf) hl (k := k + 1) (many := p) (by omega) (by omega) hw (by omega) (by omega)
  refine ⟨p, s, ?_, p1, p2, s0, s1⟩
  unfold p__law_alarm
  refine run_ret (seq_ok (set_ok (d := .int p) ?_ (by simp [startE])) (ret_ok ?_))
  · have hz : (12 : Nat) ≤ SZ := by decide
    simp [startE, c2, cTup, aCons, aNil, cC, cCall, cV, hv, hp, hz]
  · have hz : (2 : Nat) ≤ SZ := by decide
    simp [startE, c2, cTup, aCons, aNil, cC, cCall, cV, addD, hs, hz]

/-! ### the cycle -/
theorem cyc_loop {L p : Int} {x0 x1 x3 : Option Sl} (hL : 0 < L) (hp : 0 < p) : ∀ (d f : Nat), d < f → 0 < (Int.lcm L p : Int) - L * d → whGo (c2 neD (c2 modD (cV 4) (cV 2)) (cC (.int 0))) (sSet 4 (xD (c2 addD (cV 4) (cV 1)))) f [x0, some (.dat (.int L)), some (.dat (.int p)), x3, some (.dat (.int ((Int.lcm L p : Int) - L * d)))] = .ok .nx [x0, some (.dat (.int L)), some (.dat (.int p)), x3, some (.dat (.int (Int.lcm L p)))] := by
  intro d
  induction d with
  | zero =>
    intro f hf hs
    obtain ⟨f, rfl⟩ : ∃ g, f = g + 1 := ⟨f - 1, by omega⟩
    have e : (Int.lcm L p : Int) % p = 0 := Int.emod_eq_zero_of_dvd (Int.dvd_lcm_right L p)
    generalize (Int.lcm L p : Int) = M at *
    simp [whGo, runD, startE, sIf, sRet, sDrop, sRaise, sSet, sPar, sPar3, sAsg, put, Rt.lift, xD, xO, cV, cC, c1, c2, cT, cAnd, cOr, cIf, cCh, asB, cTup, cLst, cL, cCall, cCall0, cIxV, cLenV, aNil, aCons, oNone, oSome, asI, cSlc, iVal, iRng1, iRng2, itemsD, gN, gT, gCons, gNil, addD, subD, mulD, fdivD, modD, powD, negD, notD, ltD, leD, gtD, geD, isNoneD, notNoneD, isNoneB, isBoolD, notBoolD, idxD, itemAt, lenD, absD, isiD, isiB, max2D, min2D, tupleD, listD, inB, in62, B64, R62, SZ, sNil, L2.atI, L2.ixN, R.bind_ok, R.bind_exc, R.bind_bad, R.nox_ok, R.nox_exc, R.nox_bad, hp, neD_int, e]
  | succ d ih =>
    intro f hf hs
    obtain ⟨f, rfl⟩ : ∃ g, f = g + 1 := ⟨f - 1, by omega⟩
    have e0 : L * ((d + 1 : Nat) : Int) = L * (d : Int) + L := by rw [Int.natCast_add]; simp [Int.mul_add]
    have hpd : 0 ≤ L * (d : Int) := Int.mul_nonneg (by omega) (by omega)
    have ne : ¬ ((Int.lcm L p : Int) - L * ((d + 1 : Nat) : Int)) % p = 0 := by
      intro h
      have h1 : p ∣ (Int.lcm L p : Int) - L * ((d + 1 : Nat) : Int) := Int.dvd_of_emod_eq_zero h
      have h2 : L ∣ (Int.lcm L p : Int) - L * ((d + 1 : Nat) : Int) := Int.dvd_sub (Int.dvd_lcm_left L p) (Int.dvd_mul_right _ _)
      have := dvd_small (lcm_dvd' h2 h1) (by omega) (by omega)
      omega
    have e1 : (Int.lcm L p : Int) - L * ((d + 1 : Nat) : Int) + L = (Int.lcm L p : Int) - L * (d : Int) := by omega
    have := ih f (by omega) (by omega)
    generalize (Int.lcm L p : Int) - L * ((d + 1 : Nat) : Int) = x at *
    rw [← e1] at this
    rw [whGo]
    simp [runD, startE, sIf, sRet, sDrop, sRaise, sSet, sPar, sPar3, sAsg, put, Rt.lift, xD, xO, cV, cC, c1, c2, cT, cAnd, cOr, cIf, cCh, asB, cTup, cLst, cL, cCall, cCall0, cIxV, cLenV, aNil, aCons, oNone, oSome, asI, cSlc, iVal, iRng1, iRng2, itemsD, gN, gT, gCons, gNil, addD, subD, mulD, fdivD, modD, powD, negD, notD, ltD, leD, gtD, geD, isNoneD, notNoneD, isNoneB, isBoolD, notBoolD, idxD, itemAt, lenD, absD, isiD, isiB, max2D, min2D, tupleD, listD, inB, in62, B64, R62, SZ, sNil, L2.atI, L2.ixN, R.bind_ok, R.bind_exc, R.bind_bad, R.nox_ok, R.nox_exc, R.nox_bad, hp, neD_int, ne]
    simpa using this
def lcmF : List (Int × Int) → Int → Int
  | [], L => L
  | a :: as, L => lcmF as (Int.lcm L a.1)
theorem cyc_for {wf : Nat} {x0 : Option Sl} : ∀ (as : List (Int × Int)) (L : Int) (x2 x3 x4 : Option Sl), 0 < L → (∀ a ∈ as, 0 < a.1 ∧ a.1 < wf) → ∃ y2 y3 y4, forGo (gT (gCons (gN 2) (gCons (gN 3) gNil))) (sSeq (sSet 4 (xD (cV 1))) (sSeq (sWh wf (c2 neD (c2 modD (cV 4) (cV 2)) (cC (.int 0))) (sSet 4 (xD (c2 addD (cV 4) (cV 1))))) (sSet 1 (xD (cV 4))))) (as.map fun a => alarmD a.1 a.2) [x0, some (.dat (.int L)), x2, x3, x4] = .ok .nx [x0, some (.dat (.int (lcmF as L))), y2, y3, y4]
  | [], L, x2, x3, x4, _, _ => ⟨x2, x3, x4, rfl⟩
  | a :: as, L, x2, x3, x4, hL, h => by
    obtain ⟨p1, p2⟩ := h a (by simp)
    obtain ⟨y2, y3, y4, e⟩ := cyc_for (wf := wf) (x0 := x0) as (Int.lcm L a.1) (some (.dat (.int a.1))) (some (.dat (.int a.2))) (some (.dat (.int (Int.lcm L a.1)))) (lcm_pos' hL p1) (fun b hb => h b (List.mem_cons_of_mem _ hb))
    refine ⟨y2, y3, y4, ?_⟩
    obtain ⟨j, hj⟩ := Int.dvd_lcm_left L a.1
    have hm := div_gcd_mul hL p1
    have hl : (Int.lcm L a.1 : Int) ≤ L * a.1 := by rw [← hm]; exact Int.mul_le_mul_of_nonneg_right (Int.ediv_le_self _ (by omega)) (by omega)
    have hl0 := lcm_pos' hL p1
    have j0 : 0 < j := by
      by_cases h : 0 < j
      · exact h
      · have : L * j ≤ L * 0 := Int.mul_le_mul_of_nonneg_left (by omega) (by omega)
        omega
    have j1 : j ≤ a.1 := by
      by_cases h : j ≤ a.1
      · exact h
      · have : L * (a.1 + 1) ≤ L * j := Int.mul_le_mul_of_nonneg_left (by omega) (by omega)
        rw [Int.mul_add] at this
        omega
    obtain ⟨d, hd⟩ := Int.eq_ofNat_of_zero_le (a := j - 1) (by omega)
    have e2 : L * (d : Int) = L * j - L := by
      have : (d : Int) = j - 1 := by omega
      rw [this, Int.mul_sub]; omega
    have hloop := cyc_loop (x0 := x0) (x1 := none) (x3 := some (.dat (.int a.2))) hL p1 d wf (by omega) (by omega)
    have e3 : (Int.lcm L a.1 : Int) - L * (d : Int) = L := by omega
    rw [e3] at hloop
    have hb : sSeq (sSet 4 (xD (cV 1))) (sSeq (sWh wf (c2 neD (c2 modD (cV 4) (cV 2)) (cC (.int 0))) (sSet 4 (xD (c2 addD (cV 4) (cV 1))))) (sSet 1 (xD (cV 4)))) [x0, some (.dat (.int L)), some (.dat (.int a.1)), some (.dat (.int a.2)), x4] = .ok .nx [x0, some (.dat (.int (Int.lcm L a.1))), some (.dat (.int a.1)), some (.dat (.int a.2)), some (.dat (.int (Int.lcm L a.1)))] :=
      seq_ok (set_ok (d := .int L) rfl (by simp)) (seq_ok hloop (set_ok (d := .int (Int.lcm L a.1)) rfl (by simp)))
    rw [List.map_cons, forGo]
    have hg : gT (gCons (gN 2) (gCons (gN 3) gNil)) (alarmD a.1 a.2) [x0, some (.dat (.int L)), x2, x3, x4] = .ok [x0, some (.dat (.int L)), some (.dat (.int a.1)), some (.dat (.int a.2)), x4] := rfl
    rw [hg]
    simp only [hb]
    exact e
theorem cyc_ok {wf : Nat} (as : List (Int × Int)) (h : ∀ a ∈ as, 0 < a.1 ∧ a.1 < wf) : p__law_cycle wf [.tuple (as.map fun a => alarmD a.1 a.2)] = .ok (.int (lcmF as 1)) := by
  obtain ⟨y2, y3, y4, e⟩ := cyc_for (wf := wf) (x0 := some (.dat (.tuple (as.map fun a => alarmD a.1 a.2)))) as 1 none none none (by omega) h
  unfold p__law_cycle
  exact run_ret (seq_ok (set_ok (d := .int 1) rfl (by simp [startE])) (seq_ok e (ret_ok rfl)))
theorem lcm_one (p : Int) (h : 0 < p) : (Int.lcm 1 p : Int) = p := by
  simp [Int.lcm]; omega
theorem cyc_two {wf : Nat} {p s q t : Int} (hp : 0 < p) (hq : 0 < q) (pw : p < wf) (qw : q < wf) : p__law_cycle wf [.tuple [alarmD p s, alarmD q t]] = .ok (.int (Int.lcm p q)) := by
  have := cyc_ok (wf := wf) [(p, s), (q, t)] (by simp [hp, hq, pw, qw])
  simp only [List.map_cons, List.map_nil, lcmF, lcm_one p hp] at this
  exact this
end Rq
/-! Rt, part R: rows. -/
namespace Rq
open PySem Rt Pg
abbrev alD (a : Int × Int) : PyData := alarmD a.1 a.2
abbrev rowD (as : List (Int × Int)) : PyData := .tuple (as.map alD)
def Row (as : List (Int × Int)) : Prop := as.length ≤ 6 ∧ ∀ a ∈ as, Al a.1 a.2
/-! ### comprehensions without a test -/
theorem comp_map {α : Type} {vs : List Nat} {src : Exl} {g : Tg} {e : Ex} {r : En} {mk : α → PyData} {is : List α} (hs : src r = .ok (is.map mk)) (hl : is.length ≤ SZ) (r1 : α → En) (f : α → PyData) (h : ∀ i ∈ is, g (mk i) (wipeE r vs) = .ok (r1 i) ∧ e (r1 i) = .ok (f i)) : cComp vs src g tYes e r = .ok (is.map f) := by
  have := comp_ok (t := tYes) (e := e) (vs := vs) (g := g) hs hl r1 (fun _ => true) f (fun i hi => ⟨(h i hi).1, rfl, fun _ => (h i hi).2⟩)
  rw [filt_true] at this
  exact this
/-- the items are only known to be there -/
theorem comp_ex {α β : Type} {vs : List Nat} {src : Exl} {g : Tg} {e : Ex} {r : En} {mk : α → PyData} {mk2 : β → PyData} {P : β → Prop} {is : List α} (hs : src r = .ok (is.map mk)) (hl : is.length ≤ SZ) (r1 : α → En) (h : ∀ i ∈ is, g (mk i) (wipeE r vs) = .ok (r1 i) ∧ ∃ y, e (r1 i) = .ok (mk2 y) ∧ P y) : ∃ ys : List β, ys.length = is.length ∧ (∀ y ∈ ys, P y) ∧ cComp vs src g tYes e r = .ok (ys.map mk2) := by
  have key : ∀ is : List α, (∀ i ∈ is, g (mk i) (wipeE r vs) = .ok (r1 i) ∧ ∃ y, e (r1 i) = .ok (mk2 y) ∧ P y) → ∃ ys : List β, ys.length = is.length ∧ (∀ y ∈ ys, P y) ∧ compGo g tYes e (wipeE r vs) (is.map mk) = .ok (ys.map mk2) := by
    intro is
    induction is with
    | nil => intro _; exact ⟨[], rfl, by simp, rfl⟩
    | cons i is ih =>
      intro h
      obtain ⟨ys, h1, h2, h3⟩ := ih fun j hj => h j (List.mem_cons_of_mem _ hj)
      obtain ⟨e1, y, e2, py⟩ := h i (by simp)
      refine ⟨y :: ys, by simp [h1], ?_, ?_⟩
      · intro z hz
        rcases List.mem_cons.mp hz with rfl | hz
        · exact py
        · exact h2 z hz
      · rw [List.map_cons, compGo, e1]
        simp [tYes, e2] at h3 ⊢
        simp [tYes, h3]
  obtain ⟨ys, h1, h2, h3⟩ := key is h
  refine ⟨ys, h1, h2, ?_⟩
  unfold cComp
  rw [hs]
  have : (ys.map mk2).length ≤ SZ := by rw [List.length_map, h1]; exact hl
  simp only [R.bind_ok, h3, this, if_true]
theorem allD_bools (bs : List Bool) : allD (.list (bs.map .bool)) = .ok (.bool (bs.all id)) := by
  simp [allD, onBools, boolsOf_bools]
theorem anyD_bools (bs : List Bool) : anyD (.list (bs.map .bool)) = .ok (.bool (bs.any id)) := by
  simp [anyD, onBools, boolsOf_bools]
theorem sumD_ints (ns : List Int) : sumD (.list (ns.map .int)) = .ok (.int ns.sum) := by
  simp [sumD, onInts, intsOf_ints]
theorem len_SZ {α : Type} {as : List α} (h : as.length ≤ 6) : as.length ≤ SZ := le_SZ (by omega)
/-! ### judging -/
theorem is_row_ok {wf : Nat} {as : List (Int × Int)} (h : Row as) : p_is_row wf [rowD as] = .ok (.bool true) := by
  unfold p_is_row
  have hc := comp_map (vs := [1]) (src := iVal (cV 0)) (g := gN 1) (e := cCall 1 (p_is_alarm wf) (aCons (cV 1) aNil)) (r := startE 2 [rowD as]) (mk := alD) (is := as) rfl (len_SZ h.1)
    (fun a => [some (.dat (rowD as)), some (.dat (alD a))]) (fun _ => .bool true) (fun a ha => ⟨rfl, by
      have q := h.2 a ha
      have := is_alarm_ok (wf := wf) q.p1 q.p2 q.s0 q.s1
      simp [cCall, aCons, aNil, cV, this]⟩)
  have e : (as.map fun _ => PyData.bool true) = (as.map fun _ => true).map .bool := by simp [List.map_map, Function.comp_def]
  rw [e] at hc
  have hl : (as.length : Int) ≤ 6 := by have := h.1; omega
  refine run_ret (ret_ok (and_ok (a := true) (b := true) rfl fun _ => and_ok (a := true) (b := true) ?_ fun _ => ?_))
  · simp [c2, cLenV, startE, lenD, leD, cC, hl]
  · refine c1_ok (cL_ok hc) ?_
    rw [allD_bools]
    simp
theorem check_row_ok {wf : Nat} {as : List (Int × Int)} (h : Row as) : p_check_row wf [rowD as] = .ok .none := by
  unfold p_check_row runD
  rw [if_no (c1_ok (a := .bool true) (by simp [cCall, aCons, aNil, cV, startE, is_row_ok h]) rfl)]
theorem check_time_ok {wf : Nat} {t : Int} (h : 0 ≤ t) : p_check_time wf [.int t] = .ok .none := by
  have : ¬ t < 0 := by omega
  simp [p_check_time, runD, startE, sIf, sRet, sDrop, sRaise, sSet, sPar, sPar3, sAsg, put, Rt.lift, xD, xO, cV, cC, c1, c2, cT, cAnd, cOr, cIf, cCh, asB, cTup, cLst, cL, cCall, cCall0, cIxV, cLenV, aNil, aCons, oNone, oSome, asI, cSlc, iVal, iRng1, iRng2, itemsD, gN, gT, gCons, gNil, addD, subD, mulD, fdivD, modD, powD, negD, notD, ltD, leD, gtD, geD, isNoneD, notNoneD, isNoneB, isBoolD, notBoolD, idxD, itemAt, lenD, absD, isiD, isiB, max2D, min2D, tupleD, listD, inB, in62, B64, R62, SZ, sNil, L2.atI, L2.ixN, R.bind_ok, R.bind_exc, R.bind_bad, R.nox_ok, R.nox_exc, R.nox_bad, this]
theorem does_ring_ok {wf : Nat} {p s t : Int} (hp : 0 < p) : p_does_ring wf [alarmD p s, .int t] = .ok (.bool (decide (t % p = s))) := by
  unfold p_does_ring
  exact run_ret (ret_ok (c2_ok (c2_ok rfl rfl (modD_ok hp)) rfl (eqD_dec _ _)))
theorem rings_ok {wf : Nat} {p s t : Int} (h : Al p s) (t0 : 0 ≤ t) : p_rings wf [alarmD p s, .int t] = .ok (.bool (decide (t % p = s))) := by
  have := h.p1
  unfold p_rings
  exact run_ret (seq_ok (drop_ok (d := .none) (by simp [cCall, aCons, aNil, cV, startE, check_alarm_ok h.p1 h.p2 h.s0 h.s1])) (seq_ok (drop_ok (d := .none) (by simp [cCall, aCons, aNil, cV, startE, check_time_ok t0])) (ret_ok (by simp [cCall, aCons, aNil, cV, startE, does_ring_ok (wf := wf) (p := p) (s := s) (t := t) (by omega)]))))
theorem next_ring_ok {wf : Nat} {p s t : Int} (h : Al p s) (t0 : 0 ≤ t) : p_next_ring wf [alarmD p s, .int t] = .ok (.int (t + (s - t) % p)) := by
  have := h.p1
  unfold p_next_ring
  exact run_ret (seq_ok (drop_ok (d := .none) (by simp [cCall, aCons, aNil, cV, startE, check_alarm_ok h.p1 h.p2 h.s0 h.s1])) (seq_ok (drop_ok (d := .none) (by simp [cCall, aCons, aNil, cV, startE, check_time_ok t0])) (ret_ok (c2_ok rfl (c2_ok (c2_ok rfl rfl rfl) rfl (modD_ok (by omega))) rfl))))
/-! ### the alarms that ring -/
def heardF (t : Int) : Nat → List (Int × Int) → List Int
  | _, [] => []
  | k, a :: as => if t % a.1 = a.2 then (k : Int) :: heardF t (k + 1) as else heardF t (k + 1) as
theorem find_go {wf : Nat} {x0 : Option Sl} {t : Int} : ∀ (as : List (Int × Int)) (k : Nat), (∀ a ∈ as, Al a.1 a.2) → compGo (gT (gCons (gN 2) (gCons (gN 3) gNil))) (cT (cCall 2 (p_does_ring wf) (aCons (cV 3) (aCons (cV 1) aNil)))) (cV 2) [x0, some (.dat (.int t)), none, none] (enumFrom k (as.map alD)) = .ok ((heardF t k as).map .int)
  | [], k, _ => rfl
  | a :: as, k, h => by
    have ih := find_go (wf := wf) (x0 := x0) (t := t) as (k + 1) fun b hb => h b (List.mem_cons_of_mem _ hb)
    have q := (h a (by simp)).p1
    have hd := does_ring_ok (wf := wf) (p := a.1) (s := a.2) (t := t) (by omega)
    rw [List.map_cons, enumFrom, compGo]
    have e1 : gT (gCons (gN 2) (gCons (gN 3) gNil)) (.tuple [.int (k : Int), alD a]) [x0, some (.dat (.int t)), none, none] = .ok [x0, some (.dat (.int t)), some (.dat (.int (k : Int))), some (.dat (alD a))] := rfl
    have e2 : cT (cCall 2 (p_does_ring wf) (aCons (cV 3) (aCons (cV 1) aNil))) [x0, some (.dat (.int t)), some (.dat (.int (k : Int))), some (.dat (alD a))] = .ok (decide (t % a.1 = a.2)) := cT_ok (by simp [cCall, aCons, aNil, cV, hd])
    rw [e1]
    simp only [R.nox_ok, R.bind_ok, e2]
    by_cases hc : t % a.1 = a.2
    · simp [hc, heardF, ih, cV]
    · simp [hc, heardF, ih]
theorem heardF_len (t : Int) : ∀ (k : Nat) (as : List (Int × Int)), (heardF t k as).length ≤ as.length
  | _, [] => by simp [heardF]
  | k, a :: as => by
    have := heardF_len t (k + 1) as
    unfold heardF; split <;> simp <;> omega
theorem find_ringing_ok {wf : Nat} {as : List (Int × Int)} {t : Int} (h : Row as) : p_find_ringing wf [rowD as, .int t] = .ok (intsD (heardF t 0 as)) := by
  unfold p_find_ringing
  refine run_ret (ret_ok (cL_ok ?_))
  unfold cComp
  have e : iEnum (cV 0) (startE 4 [rowD as, .int t]) = .ok (enumFrom 0 (as.map alD)) := rfl
  have g := find_go (wf := wf) (x0 := some (.dat (rowD as))) (t := t) as 0 h.2
  have e2 : wipeE (startE 4 [rowD as, .int t]) [2, 3] = [some (.dat (rowD as)), some (.dat (.int t)), none, none] := rfl
  have hl : ((heardF t 0 as).map PyData.int).length ≤ SZ := by
    rw [List.length_map]; exact Nat.le_trans (heardF_len t 0 as) (len_SZ h.1)
  rw [e, R.bind_ok, e2, g, R.bind_ok, if_pos hl]
theorem rng2_ok {f g : Ex} {r : En} {a b : Int} (h : f r = .ok (.int a)) (h2 : g r = .ok (.int b)) (a0 : -1000000000 ≤ a) (a1 : a ≤ 1000000000) (b0 : -1000000000 ≤ b) (b1 : b ≤ 1000000000) : iRng2 f g r = .ok ((rangeI a b).map .int) := by
  unfold iRng2
  rw [h, h2]
  simp only [R.bind_ok, in62_small a0 a1, in62_small b0 b1, Bool.and_true, if_true, rangeL_eq]
def dueI (as : List (Int × Int)) (a b : Int) : List Int := (rangeI a b).filter fun t => !decide (heardF t 0 as = [])
theorem ring_times_ok {wf : Nat} {as : List (Int × Int)} {a b : Int} (h : Row as) (a0 : 0 ≤ a) (b0 : 0 ≤ b) (a1 : a ≤ 1000000) (b1 : b ≤ 1000000) (hd : b - a ≤ 1000) : p_ring_times wf [rowD as, .int a, .int b] = .ok (intsD (dueI as a b)) := by
  unfold p_ring_times
  refine run_ret (seq_ok (drop_ok (d := .none) (by simp [cCall, aCons, aNil, cV, startE, check_row_ok h])) (seq_ok (drop_ok (d := .none) (by simp [cCall, aCons, aNil, cV, startE, check_time_ok a0])) (seq_ok (drop_ok (d := .none) (by simp [cCall, aCons, aNil, cV, startE, check_time_ok b0])) (seq_ok (if_no ?_) (ret_ok (cL_ok ?_))))))
  · have : ¬ 1000 < b - a := by omega
    simp [c2, subD, gtD, cV, cC, startE, this]
  · refine comp_ok (mk := .int) (is := rangeI a b) (rng2_ok rfl rfl (by omega) (by omega) (by omega) (by omega)) (le_SZ (by rw [rangeI_length]; omega))
      (fun i => [some (.dat (rowD as)), some (.dat (.int a)), some (.dat (.int b)), some (.dat (.int i))]) (fun t => !decide (heardF t 0 as = [])) .int (fun i hi => ⟨rfl, ?_, fun _ => rfl⟩)
    exact cT_ok (c2_ok (a := intsD (heardF i 0 as)) (by simp [cCall, aCons, aNil, cV, find_ringing_ok h]) rfl (neD_ints_nil _))
theorem ringing_ok {wf : Nat} {as : List (Int × Int)} {t : Int} (h : Row as) (t0 : 0 ≤ t) : p_ringing wf [rowD as, .int t] = .ok (intsD (heardF t 0 as)) := by
  unfold p_ringing
  exact run_ret (seq_ok (drop_ok (d := .none) (by simp [cCall, aCons, aNil, cV, startE, check_row_ok h])) (seq_ok (drop_ok (d := .none) (by simp [cCall, aCons, aNil, cV, startE, check_time_ok t0])) (ret_ok (by simp [cCall, aCons, aNil, cV, startE, find_ringing_ok h]))))
/-! ### the cycle -/
theorem fc_for {wf : Nat} {x0 : Option Sl} (hw : 60 < wf) : ∀ (as : List (Int × Int)) (L : Int) (x2 x3 : Option Sl), 0 < L → (∀ a ∈ as, Al a.1 a.2) → ∃ y2 y3, forGo (gT (gCons (gN 2) (gCons (gN 3) gNil))) (sSet 1 (xD (c2 mulD (c2 fdivD (cV 1) (cCall 2 (p_divisor wf) (aCons (cV 1) (aCons (cV 2) aNil)))) (cV 2)))) (as.map alD) [x0, some (.dat (.int L)), x2, x3] = .ok .nx [x0, some (.dat (.int (lcmF as L))), y2, y3]
  | [], L, x2, x3, _, _ => ⟨x2, x3, rfl⟩
  | a :: as, L, x2, x3, hL, h => by
    have q := h a (by simp)
    have q1 := q.p1; have q2 := q.p2
    obtain ⟨y2, y3, e⟩ := fc_for (x0 := x0) hw as (Int.lcm L a.1) (some (.dat (.int a.1))) (some (.dat (.int a.2))) (lcm_pos' hL (by omega)) (fun b hb => h b (List.mem_cons_of_mem _ hb))
    refine ⟨y2, y3, ?_⟩
    have hd := divisor_ok (wf := wf) (a := L) (b := a.1) (by omega) (by omega) (by omega)
    have hg := gcd_pos (p := L) (q := a.1) hL
    have hgq := gcd_le_right (p := L) (q := a.1) hL (by omega)
    have hm := div_gcd_mul (p := L) (q := a.1) hL (by omega)
    have hB := inB_small (k := a.1) (by omega) (by omega)
    have hb : sSet 1 (xD (c2 mulD (c2 fdivD (cV 1) (cCall 2 (p_divisor wf) (aCons (cV 1) (aCons (cV 2) aNil)))) (cV 2))) [x0, some (.dat (.int L)), some (.dat (.int a.1)), some (.dat (.int a.2))] = .ok .nx [x0, some (.dat (.int (Int.lcm L a.1))), some (.dat (.int a.1)), some (.dat (.int a.2))] := by
      refine set_ok (d := .int (Int.lcm L a.1)) (c2_ok (a := .int (L / (Int.gcd L a.1 : Int))) (b := .int a.1) (c2_ok (a := .int L) (b := .int (Int.gcd L a.1)) rfl ?_ ?_) rfl ?_) (by simp)
      · simp [cCall, aCons, aNil, cV, hd]
      · have : (Int.gcd L a.1 : Int) < B64 := by unfold B64; omega
        generalize (Int.gcd L a.1 : Int) = g at *
        simp [fdivD, hg, this]
      · simp [mulD, hB, hm]
    rw [List.map_cons, forGo]
    have hg2 : gT (gCons (gN 2) (gCons (gN 3) gNil)) (alD a) [x0, some (.dat (.int L)), x2, x3] = .ok [x0, some (.dat (.int L)), some (.dat (.int a.1)), some (.dat (.int a.2))] := rfl
    rw [hg2]
    simp only [hb]
    exact e
theorem find_cycle_ok {wf : Nat} {as : List (Int × Int)} (hw : 60 < wf) (h : ∀ a ∈ as, Al a.1 a.2) : p_find_cycle wf [rowD as] = .ok (.int (lcmF as 1)) := by
  obtain ⟨y2, y3, e⟩ := fc_for (wf := wf) (x0 := some (.dat (rowD as))) hw as 1 none none (by omega) h
  unfold p_find_cycle
  exact run_ret (seq_ok (set_ok (d := .int 1) rfl (by simp [startE])) (seq_ok e (ret_ok rfl)))
theorem cycle_ok {wf : Nat} {as : List (Int × Int)} (hw : 60 < wf) (h : Row as) : p_cycle wf [rowD as] = .ok (.int (lcmF as 1)) := by
  unfold p_cycle
  exact run_ret (seq_ok (drop_ok (d := .none) (by simp [cCall, aCons, aNil, cV, startE, check_row_ok h])) (ret_ok (by simp [cCall, aCons, aNil, cV, startE, find_cycle_ok hw h.2])))
/-! ### counting -/
def cntA (n : Int) (a : Int × Int) : Int := (n - a.2 + a.1 - 1) / a.1
def cntI (as : List (Int × Int)) (n : Int) : Int := (as.map (cntA n)).sum
theorem count_rings_ok {wf : Nat} {as : List (Int × Int)} {t : Int} (h : Row as) (t0 : 0 ≤ t) : p_count_rings wf [rowD as, .int t] = .ok (.int (cntI as t)) := by
  unfold p_count_rings
  refine run_ret (seq_ok (drop_ok (d := .none) (by simp [cCall, aCons, aNil, cV, startE, check_row_ok h])) (seq_ok (drop_ok (d := .none) (by simp [cCall, aCons, aNil, cV, startE, check_time_ok t0])) (ret_ok (c1_ok (cL_ok (comp_map (mk := alD) (is := as) rfl (len_SZ h.1) (fun a => [some (.dat (rowD as)), some (.dat (.int t)), some (.dat (.int a.1)), some (.dat (.int a.2))]) (fun a => .int (cntA t a)) (fun a ha => ⟨rfl, ?_⟩))) ?_))))
  · have q1 := (h.2 a ha).p1
    have q2 := (h.2 a ha).p2
    have e1 : a.1 < B64 := by unfold B64; omega
    have e2 : 0 < a.1 := by omega
    simp [c2, fdivD, subD, addD, cV, cC, e1, e2, cntA]
  · have e : (as.map fun a => PyData.int (cntA t a)) = (as.map (cntA t)).map .int := by simp [List.map_map, Function.comp_def]
    rw [e]
    exact sumD_ints _
theorem cnt_step {p s n : Int} (hp : 0 < p) (s0 : 0 ≤ s) (s1 : s < p) : (n + 1 - s + p - 1) / p = (n - s + p - 1) / p + (if n % p = s then 1 else 0) := by
  have a := Int.mul_ediv_add_emod (n - s) p
  have r0 := Int.emod_nonneg (n - s) (b := p) (by omega)
  have r1 := Int.emod_lt_of_pos (n - s) hp
  have hm : n % p = s ↔ (n - s) % p = 0 := by
    rw [mod_iff hp s0 s1, Int.dvd_iff_emod_eq_zero]
  generalize (n - s) % p = r at *
  generalize (n - s) / p = k at *
  have e1 : (n + 1 - s + p - 1) / p = k + 1 := by
    rw [Int.ediv_eq_iff_of_pos hp]
    have : (k + 1) * p = p * k + p := by rw [Int.add_mul, Int.mul_comm k p]; omega
    have : (k + 1 + 1) * p = p * k + p + p := by rw [Int.add_mul, Int.add_mul, Int.mul_comm k p]; omega
    constructor <;> omega
  by_cases h : r = 0
  · rw [if_pos (hm.mpr h), e1]
    have : (n - s + p - 1) / p = k := by
      rw [Int.ediv_eq_iff_of_pos hp]
      have : k * p = p * k := Int.mul_comm k p
      have : (k + 1) * p = p * k + p := by rw [Int.add_mul, Int.mul_comm k p]; omega
      constructor <;> omega
    omega
  · rw [if_neg (fun z => h (hm.mp z)), e1]
    have : (n - s + p - 1) / p = k + 1 := by
      rw [Int.ediv_eq_iff_of_pos hp]
      have : (k + 1) * p = p * k + p := by rw [Int.add_mul, Int.mul_comm k p]; omega
      have : (k + 1 + 1) * p = p * k + p + p := by rw [Int.add_mul, Int.add_mul, Int.mul_comm k p]; omega
      constructor <;> omega
    omega
theorem cntI_step {as : List (Int × Int)} (h : ∀ a ∈ as, Al a.1 a.2) (n : Int) (k : Nat) : cntI as (n + 1) = cntI as n + ((heardF n k as).length : Int) := by
  induction as generalizing k with
  | nil => rfl
  | cons a as ih =>
    have q := h a (by simp)
    have q1 := q.p1
    have i := ih (fun b hb => h b (List.mem_cons_of_mem _ hb)) (k + 1)
    have c := cnt_step (p := a.1) (s := a.2) (n := n) (by omega) q.s0 q.s1
    unfold cntI at i ⊢
    simp only [List.map_cons, List.sum_cons]
    rw [i]
    unfold cntA
    rw [c]
    by_cases hc : n % a.1 = a.2
    · simp [heardF, hc]; omega
    · simp [heardF, hc]; omega
theorem cntI_zero {as : List (Int × Int)} (h : ∀ a ∈ as, Al a.1 a.2) : cntI as 0 = 0 := by
  induction as with
  | nil => rfl
  | cons a as ih =>
    have q := h a (by simp)
    have q1 := q.p1; have q2 := q.s0; have q3 := q.s1
    have i := ih (fun b hb => h b (List.mem_cons_of_mem _ hb))
    unfold cntI at i ⊢
    simp only [List.map_cons, List.sum_cons]
    rw [i]
    unfold cntA
    have : (0 - a.2 + a.1 - 1) / a.1 = 0 := Int.ediv_eq_zero_of_lt (by omega) (by omega)
    omega
theorem rangeI_succ {lo hi : Int} (h : lo ≤ hi) : rangeI lo (hi + 1) = rangeI lo hi ++ [hi] := by
  refine sorted_ext (rangeI_sorted _ _) ?_ ?_
  · rw [List.pairwise_append]
    refine ⟨rangeI_sorted _ _, by simp, ?_⟩
    intro a ha b hb
    rw [mem_rangeI] at ha
    simp at hb
    omega
  · intro x
    rw [mem_rangeI, List.mem_append, mem_rangeI]
    simp
    omega
theorem cntI_sum {as : List (Int × Int)} (h : ∀ a ∈ as, Al a.1 a.2) (n : Nat) : ((rangeI 0 (n : Int)).map fun t => ((heardF t 0 as).length : Int)).sum = cntI as n := by
  induction n with
  | zero => rw [show ((0 : Nat) : Int) = 0 from rfl, cntI_zero h]; rfl
  | succ n ih =>
    have e : ((n + 1 : Nat) : Int) = (n : Int) + 1 := by omega
    rw [e, rangeI_succ (by omega), List.map_append, List.sum_append, ih, cntI_step h n 0]
    simp
/-! ### the law's own way to hear -/
theorem mem_heardF {t x : Int} : ∀ {as : List (Int × Int)} {k : Nat}, x ∈ heardF t k as ↔ ∃ j, j < as.length ∧ x = (k : Int) + (j : Int) ∧ t % (as.getD j (1, 0)).1 = (as.getD j (1, 0)).2
  | [], k => by simp [heardF]
  | a :: as, k => by
    have ih := mem_heardF (t := t) (x := x) (as := as) (k := k + 1)
    have key : x ∈ heardF t (k + 1) as ↔ ∃ j, j + 1 < (a :: as).length ∧ x = (k : Int) + ((j + 1 : Nat) : Int) ∧ t % ((a :: as).getD (j + 1) (1, 0)).1 = ((a :: as).getD (j + 1) (1, 0)).2 := by
      rw [ih]
      constructor
      · rintro ⟨j, h1, h2, h3⟩
        exact ⟨j, by simp; omega, by omega, by simpa using h3⟩
      · rintro ⟨j, h1, h2, h3⟩
        exact ⟨j, by simp at h1; omega, by omega, by simpa using h3⟩
    unfold heardF
    by_cases hc : t % a.1 = a.2
    · rw [if_pos hc, List.mem_cons, key]
      constructor
      · rintro (h | ⟨j, h1, h2, h3⟩)
        · exact ⟨0, by simp, by omega, by simpa using hc⟩
        · exact ⟨j + 1, h1, h2, h3⟩
      · rintro ⟨j, h1, h2, h3⟩
        cases j with
        | zero => left; omega
        | succ j => right; exact ⟨j, h1, h2, h3⟩
    · rw [if_neg hc, key]
      constructor
      · rintro ⟨j, h1, h2, h3⟩; exact ⟨j + 1, h1, h2, h3⟩
      · rintro ⟨j, h1, h2, h3⟩
        cases j with
        | zero => exact absurd (by simpa using h3) hc
        | succ j => exact ⟨j, h1, h2, h3⟩
theorem heardF_sorted {t : Int} : ∀ (as : List (Int × Int)) (k : Nat), (heardF t k as).Pairwise (· < ·)
  | [], k => by simp [heardF]
  | a :: as, k => by
    have ih := heardF_sorted (t := t) as (k + 1)
    unfold heardF
    split
    · rw [List.pairwise_cons]
      refine ⟨fun x hx => ?_, ih⟩
      obtain ⟨j, _, e, _⟩ := mem_heardF.mp hx
      omega
    · exact ih
theorem heard_ok {wf : Nat} {as : List (Int × Int)} {t : Int} (h : Row as) : p__law_heard wf [rowD as, .int t] = .ok (intsD (heardF t 0 as)) := by
  have hl := h.1
  have e : heardF t 0 as = (rangeI 0 (as.length : Int)).filter fun i => decide (t % (as.getD i.toNat (1, 0)).1 = (as.getD i.toNat (1, 0)).2) := by
    refine sorted_ext (heardF_sorted _ _) ((rangeI_sorted _ _).filter _) fun x => ?_
    rw [mem_heardF, List.mem_filter, mem_rangeI, decide_eq_true_iff]
    constructor
    · rintro ⟨j, h1, h2, h3⟩
      have : x.toNat = j := by omega
      rw [this]
      exact ⟨by omega, h3⟩
    · rintro ⟨h1, h2⟩
      exact ⟨x.toNat, by omega, by omega, h2⟩
  rw [e]
  unfold p__law_heard
  refine run_ret (ret_ok (cL_ok (comp_ok (mk := .int) (is := rangeI 0 (as.length : Int)) (rng1_ok ?_ (by omega) (by omega)) (le_SZ (by rw [rangeI_length]; omega)) (fun i => [some (.dat (rowD as)), some (.dat (.int t)), some (.dat (.int i))]) _ .int (fun i hi => ⟨rfl, ?_, fun _ => rfl⟩))))
  · simp [cLenV, startE, lenD]
  · rw [mem_rangeI] at hi
    obtain ⟨j, rfl⟩ := Int.eq_ofNat_of_zero_le hi.1
    have hj : j < as.length := by omega
    have q := (h.2 as[j] (List.getElem_mem hj)).p1
    have hx : cIxV 0 (cV 2) [some (.dat (rowD as)), some (.dat (.int t)), some (.dat (.int (j : Int)))] = .ok (alD as[j]) := by
      have h0 : ¬ ((j : Int) < 0) := by omega
      simp [cIxV, cV, idxD, itemAt, L2.atI, L2.ixN, h0, hj]
    have hg : as.getD j (1, 0) = as[j] := by simp [List.getD, hj]
    refine cT_ok (c2_ok (c2_ok rfl (c2_ok (b := .int 0) hx rfl rfl) (modD_ok (by omega))) (c2_ok (b := .int 1) hx rfl rfl) ?_)
    simp only [Int.toNat_natCast, hg]
    exact eqD_dec _ _
/-- a drawn row -/
theorem row_ok {wf : Nat} {ns : List Int} (hl : ns.length ≤ 63) {k most : Int} (k0 : 0 ≤ k) (k1 : k < 800) (m0 : 0 ≤ most) (m1 : most ≤ 6) (hw : 1000 < wf) : ∃ as : List (Int × Int), p__law_row wf [.list (ns.map .int), .int k, .int most] = .ok (rowD as) ∧ (as.length : Int) ≤ most ∧ (∀ a ∈ as, a.1 ≤ 12) ∧ Row as := by
  obtain ⟨v, hv, v0, v1⟩ := pick_ok (wf := wf) hl (k := k) (many := most + 1) k0 (by omega) hw (by omega) (by omega)
  obtain ⟨as, h1, h2, h3⟩ := comp_ex (vs := [3]) (src := iRng1 (cCall 3 (p__law_pick wf) (aCons (cV 0) (aCons (cV 1) (aCons (c2 addD (cV 2) (cC (.int 1))) aNil))))) (g := gN 3) (e := cCall 2 (p__law_alarm wf) (aCons (cV 0) (aCons (c2 addD (c2 addD (cV 1) (cC (.int 1))) (c2 mulD (cC (.int 2)) (cV 3))) aNil))) (r := startE 4 [.list (ns.map .int), .int k, .int most]) (mk := .int) (mk2 := alD) (P := fun a => a.1 ≤ 12 ∧ Al a.1 a.2) (is := rangeI 0 v)
    (rng1_ok (by simp [cCall, aCons, aNil, cV, cC, c2, addD, startE, hv]) (by omega) (by omega)) (le_SZ (by rw [rangeI_length]; omega))
    (fun i => [some (.dat (.list (ns.map .int))), some (.dat (.int k)), some (.dat (.int most)), some (.dat (.int i))])
    (fun i hi => ⟨rfl, by
      rw [mem_rangeI] at hi
      obtain ⟨p, s, e, p1, p2, s0, s1⟩ := alarm_ok (wf := wf) hl (k := k + 1 + 2 * i) (by omega) (by omega) hw
      have hB := inB_small (k := i) (by omega) (by omega)
      exact ⟨(p, s), by simp [cCall, aCons, aNil, cV, cC, c2, addD, mulD, hB, e], p2, p1, by show p ≤ 60; omega, s0, s1⟩⟩)
  rw [rangeI_length] at h1
  refine ⟨as, ?_, by omega, fun a ha => (h2 a ha).1, by omega, fun a ha => (h2 a ha).2⟩
  unfold p__law_row
  exact run_ret (ret_ok (c1_ok (cL_ok h3) rfl))
end Rq
/-! Rt, part S: times at which all alarms of a row ring. -/
namespace Rq
open PySem Rt Pg
def Sol (as : List (Int × Int)) (T : Int) : Prop := ∀ a ∈ as, a.1 ∣ T - a.2
def Pos (as : List (Int × Int)) : Prop := ∀ a ∈ as, 0 < a.1
/-! ### the least common multiple of a row -/
theorem lcmF_pos : ∀ (as : List (Int × Int)) (L : Int), 0 < L → Pos as → 0 < lcmF as L
  | [], L, h, _ => h
  | a :: as, L, h, hp => lcmF_pos as _ (lcm_pos' h (hp a (by simp))) fun b hb => hp b (List.mem_cons_of_mem _ hb)
theorem lcmF_dvd {d : Int} : ∀ (as : List (Int × Int)) (L : Int), L ∣ d → (∀ a ∈ as, a.1 ∣ d) → lcmF as L ∣ d
  | [], L, h, _ => h
  | a :: as, L, h, hp => lcmF_dvd as _ (lcm_dvd' h (hp a (by simp))) fun b hb => hp b (List.mem_cons_of_mem _ hb)
theorem dvd_lcmF : ∀ (as : List (Int × Int)) (L : Int), L ∣ lcmF as L ∧ ∀ a ∈ as, a.1 ∣ lcmF as L
  | [], L => ⟨Int.dvd_refl _, by simp⟩
  | a :: as, L => by
    obtain ⟨h1, h2⟩ := dvd_lcmF as (Int.lcm L a.1)
    refine ⟨Int.dvd_trans (Int.dvd_lcm_left L a.1) h1, fun b hb => ?_⟩
    rcases List.mem_cons.mp hb with rfl | hb
    · exact Int.dvd_trans (Int.dvd_lcm_right L b.1) h1
    · exact h2 b hb
theorem eq_of_dvd {a b : Int} (ha : 0 < a) (hb : 0 < b) (h1 : a ∣ b) (h2 : b ∣ a) : a = b := by
  have := Int.le_of_dvd hb h1
  have := Int.le_of_dvd ha h2
  omega
/-- two lists with the same multiples -/
theorem lcmF_eq {as bs : List (Int × Int)} (ha : Pos as) (hb : Pos bs) (h : ∀ d, (∀ a ∈ as, a.1 ∣ d) ↔ ∀ b ∈ bs, b.1 ∣ d) : lcmF as 1 = lcmF bs 1 := by
  refine eq_of_dvd (lcmF_pos _ _ (by omega) ha) (lcmF_pos _ _ (by omega) hb) ?_ ?_
  · exact lcmF_dvd as 1 (Int.one_dvd _) ((h _).mpr (dvd_lcmF bs 1).2)
  · exact lcmF_dvd bs 1 (Int.one_dvd _) ((h _).mp (dvd_lcmF as 1).2)
/-! ### pairs that fit, and all -/
theorem nat_lcm_gcd {a b x : Nat} (ha : 0 < a) (hb : 0 < b) (hx : 0 < x) (h : x ∣ Nat.lcm a b) : x ∣ Nat.lcm (Nat.gcd a x) (Nat.gcd b x) := by
  have u0 : 0 < Nat.gcd a x := Nat.gcd_pos_of_pos_left _ ha
  have v0 : 0 < Nat.gcd b x := Nat.gcd_pos_of_pos_left _ hb
  have e0 : 0 < Nat.gcd (Nat.gcd a x) (Nat.gcd b x) := Nat.gcd_pos_of_pos_left _ u0
  have hm := Nat.gcd_mul_lcm (Nat.gcd a x) (Nat.gcd b x)
  have hm2 := Nat.gcd_mul_lcm a b
  refine Nat.dvd_of_mul_dvd_mul_left e0 ?_
  rw [hm]
  have ed : Nat.gcd (Nat.gcd a x) (Nat.gcd b x) ∣ Nat.gcd a b := Nat.dvd_gcd (Nat.dvd_trans (Nat.gcd_dvd_left _ _) (Nat.gcd_dvd_left _ _)) (Nat.dvd_trans (Nat.gcd_dvd_right _ _) (Nat.gcd_dvd_left _ _))
  have h1 : Nat.gcd (Nat.gcd a x) (Nat.gcd b x) * x ∣ a * b := by rw [← hm2]; exact Nat.mul_dvd_mul ed h
  have h2 : Nat.gcd a x * Nat.gcd b x = Nat.gcd (a * b) (Nat.gcd (Nat.gcd a x) (Nat.gcd b x) * x) := by
    have eu : Nat.gcd (Nat.gcd a x) (Nat.gcd b x) ∣ Nat.gcd a x := Nat.gcd_dvd_left _ _
    have ev : Nat.gcd (Nat.gcd a x) (Nat.gcd b x) ∣ Nat.gcd b x := Nat.gcd_dvd_right _ _
    have ua : Nat.gcd a x ∣ a := Nat.gcd_dvd_left _ _
    have ux : Nat.gcd a x ∣ x := Nat.gcd_dvd_right _ _
    have vb : Nat.gcd b x ∣ b := Nat.gcd_dvd_left _ _
    have vx : Nat.gcd b x ∣ x := Nat.gcd_dvd_right _ _
    have q1 : Nat.gcd (Nat.gcd a x * x) (Nat.gcd b x * x) = Nat.gcd (Nat.gcd a x) (Nat.gcd b x) * x := Nat.gcd_mul_right _ _ _
    have q2 : Nat.gcd (a * Nat.gcd b x) (x * Nat.gcd b x) = Nat.gcd a x * Nat.gcd b x := Nat.gcd_mul_right _ _ _
    have q3 : Nat.gcd (a * b) (a * x) = a * Nat.gcd b x := Nat.gcd_mul_left _ _ _
    refine Nat.dvd_antisymm (Nat.dvd_gcd (Nat.mul_dvd_mul ua vb) ?_) ?_
    · rw [← q1]
      refine Nat.dvd_gcd (Nat.mul_dvd_mul (Nat.dvd_refl _) vx) ?_
      rw [Nat.mul_comm]
      exact Nat.mul_dvd_mul (Nat.dvd_refl _) ux
    · rw [← q2]
      generalize Nat.gcd (Nat.gcd a x) (Nat.gcd b x) = e at eu ev
      refine Nat.dvd_gcd ?_ ?_
      · rw [← q3]
        exact Nat.dvd_gcd (Nat.gcd_dvd_left _ _) (Nat.dvd_trans (Nat.gcd_dvd_right _ _) (Nat.mul_dvd_mul (Nat.dvd_trans eu ua) (Nat.dvd_refl _)))
      · refine Nat.dvd_trans (Nat.gcd_dvd_right _ _) ?_
        rw [Nat.mul_comm]
        exact Nat.mul_dvd_mul (Nat.dvd_refl _) ev
  rw [h2]
  exact Nat.dvd_gcd h1 (Nat.dvd_refl _)
theorem gcd_nat {p q : Int} (hp : 0 < p) (hq : 0 < q) : ∃ a b : Nat, p = a ∧ q = b ∧ 0 < a ∧ 0 < b := by
  obtain ⟨a, rfl⟩ := Int.eq_ofNat_of_zero_le (Int.le_of_lt hp)
  obtain ⟨b, rfl⟩ := Int.eq_ofNat_of_zero_le (Int.le_of_lt hq)
  exact ⟨a, b, rfl, rfl, by omega, by omega⟩
/-- what divides by both parts divides by the whole -/
theorem gcd_lcm_dvd {L p q d : Int} (hL : 0 < L) (hp : 0 < p) (hq : 0 < q) (h1 : (Int.gcd L q : Int) ∣ d) (h2 : (Int.gcd p q : Int) ∣ d) : (Int.gcd (Int.lcm L p : Int) q : Int) ∣ d := by
  obtain ⟨a, b, rfl, rfl, a0, b0⟩ := gcd_nat hL hp
  obtain ⟨c, _, rfl, _, c0, _⟩ := gcd_nat hq hq
  have e1 : Int.lcm (a : Int) (b : Int) = Nat.lcm a b := by simp [Int.lcm]
  rw [e1]
  have e2 : Int.gcd ((Nat.lcm a b : Nat) : Int) (c : Int) = Nat.gcd (Nat.lcm a b) c := by simp [Int.gcd]
  have e3 : Int.gcd (a : Int) (c : Int) = Nat.gcd a c := by simp [Int.gcd]
  have e4 : Int.gcd (b : Int) (c : Int) = Nat.gcd b c := by simp [Int.gcd]
  rw [e2]
  rw [e3] at h1
  rw [e4] at h2
  have h3 := nat_lcm_gcd (x := Nat.gcd (Nat.lcm a b) c) a0 b0 (Nat.gcd_pos_of_pos_right _ c0) (Nat.gcd_dvd_left _ _)
  have h4 : Nat.gcd a (Nat.gcd (Nat.lcm a b) c) ∣ Nat.gcd a c := Nat.dvd_gcd (Nat.gcd_dvd_left _ _) (Nat.dvd_trans (Nat.gcd_dvd_right _ _) (Nat.gcd_dvd_right _ _))
  have h5 : Nat.gcd b (Nat.gcd (Nat.lcm a b) c) ∣ Nat.gcd b c := Nat.dvd_gcd (Nat.gcd_dvd_left _ _) (Nat.dvd_trans (Nat.gcd_dvd_right _ _) (Nat.gcd_dvd_right _ _))
  have k1 : Nat.gcd a c ∣ d.natAbs := Int.ofNat_dvd_left.mp h1
  have k2 : Nat.gcd b c ∣ d.natAbs := Int.ofNat_dvd_left.mp h2
  exact Int.ofNat_dvd_left.mpr (Nat.dvd_trans h3 (Nat.lcm_dvd (Nat.dvd_trans h4 k1) (Nat.dvd_trans h5 k2)))
theorem gcd_lcmF_dvd {q d : Int} (hq : 0 < q) : ∀ (as : List (Int × Int)) (L : Int), 0 < L → Pos as → (Int.gcd L q : Int) ∣ d → (∀ a ∈ as, (Int.gcd a.1 q : Int) ∣ d) → (Int.gcd (lcmF as L) q : Int) ∣ d
  | [], L, _, _, h, _ => h
  | a :: as, L, hL, hp, h, h2 => gcd_lcmF_dvd hq as _ (lcm_pos' hL (hp a (by simp))) (fun b hb => hp b (List.mem_cons_of_mem _ hb)) (gcd_lcm_dvd hL (hp a (by simp)) hq h (h2 a (by simp))) fun b hb => h2 b (List.mem_cons_of_mem _ hb)
def Fit (a b : Int × Int) : Prop := (Int.gcd a.1 b.1 : Int) ∣ a.2 - b.2
theorem fit_comm {a b : Int × Int} (h : Fit a b) : Fit b a := by
  unfold Fit at h ⊢
  rw [Int.gcd_comm]
  have : b.2 - a.2 = -(a.2 - b.2) := by omega
  rw [this]
  exact Int.dvd_neg.mpr h
/-- where every two fit, all ring together at some time -/
theorem crt : ∀ (as : List (Int × Int)), Pos as → as.Pairwise Fit → ∃ T, Sol as T
  | [], _, _ => ⟨0, by intro a ha; simp at ha⟩
  | a :: as, hp, h => by
    rw [List.pairwise_cons] at h
    have hp2 : Pos as := fun b hb => hp b (List.mem_cons_of_mem _ hb)
    obtain ⟨T, hT⟩ := crt as hp2 h.2
    have ha := hp a (by simp)
    have hL := lcmF_pos as 1 (by omega) hp2
    have hg : (Int.gcd (lcmF as 1) a.1 : Int) ∣ T - a.2 := by
      refine gcd_lcmF_dvd ha as 1 (by omega) hp2 (by simp) fun b hb => ?_
      have h1 : (Int.gcd b.1 a.1 : Int) ∣ T - b.2 := Int.dvd_trans (Int.gcd_dvd_left _ _) (hT b hb)
      have h2 : (Int.gcd b.1 a.1 : Int) ∣ b.2 - a.2 := fit_comm (h.1 b hb)
      have := Int.dvd_add h1 h2
      have e : T - b.2 + (b.2 - a.2) = T - a.2 := by omega
      rw [e] at this; exact this
    obtain ⟨z, z1, z2⟩ := solve hL ha hg
    refine ⟨z, fun b hb => ?_⟩
    rcases List.mem_cons.mp hb with rfl | hb
    · exact z2
    · have := Int.dvd_add (Int.dvd_trans ((dvd_lcmF as 1).2 b hb) z1) (hT b hb)
      have e : z - T + (T - b.2) = z - b.2 := by omega
      rw [e] at this; exact this
theorem sol_fit {as : List (Int × Int)} {T : Int} (h : Sol as T) : as.Pairwise Fit := by
  rw [List.pairwise_iff_forall_sublist]
  intro a b hs
  have ha := h a (hs.subset (by simp))
  have hb := h b (hs.subset (by simp))
  exact solve_dvd ha hb
theorem sol_iff {as : List (Int × Int)} {T U : Int} (h : Sol as T) : Sol as U ↔ lcmF as 1 ∣ U - T := by
  constructor
  · intro hu
    refine lcmF_dvd as 1 (Int.one_dvd _) fun a ha => ?_
    have := Int.dvd_sub (hu a ha) (h a ha)
    have e : U - a.2 - (T - a.2) = U - T := by omega
    rw [e] at this; exact this
  · intro hd a ha
    have := Int.dvd_add (Int.dvd_trans ((dvd_lcmF as 1).2 a ha) hd) (h a ha)
    have e : U - T + (T - a.2) = U - a.2 := by omega
    rw [e] at this; exact this
end Rq
/-! Rt, part T: all alarms of a row at once. -/
namespace Rq
open PySem Rt Pg
/-! ### loops that may return -/
theorem for_ret {α : Type} {g : Tg} {b : Ss} {mk : α → PyData} {I : En → Prop} (f : α → Option PyData) : ∀ {is : List α}, (∀ i ∈ is, ∀ r, I r → ∃ r1, g (mk i) r = .ok r1 ∧ ((f i = none ∧ ∃ r2, b r1 = .ok .nx r2 ∧ I r2) ∨ ∃ d r2, f i = some d ∧ b r1 = .ok (.ret d) r2)) →
    ∀ r, I r → (is.findSome? f = none ∧ ∃ r2, forGo g b (is.map mk) r = .ok .nx r2 ∧ I r2) ∨ ∃ d r2, is.findSome? f = some d ∧ forGo g b (is.map mk) r = .ok (.ret d) r2
  | [], _, r, hI => .inl ⟨rfl, r, rfl, hI⟩
  | i :: is, h, r, hI => by
    obtain ⟨r1, e1, ⟨f0, r2, e2, hI2⟩ | ⟨d, r2, f1, e2⟩⟩ := h i (by simp) r hI
    · have ih := for_ret f (fun j hj => h j (List.mem_cons_of_mem _ hj)) r2 hI2
      rw [List.findSome?_cons, f0, List.map_cons, forGo, e1]
      simp only [e2]
      exact ih
    · right
      refine ⟨d, r2, ?_, ?_⟩
      · rw [List.findSome?_cons, f1]
      · rw [List.map_cons, forGo, e1]
        simp only [e2]
def enumI {α : Type} (k : Int) : List α → List (Int × α)
  | [] => []
  | a :: as => (k, a) :: enumI (k + 1) as
theorem enum_eq {α : Type} (f : α → PyData) : ∀ (as : List α) (k : Nat), enumFrom k (as.map f) = (enumI (k : Int) as).map fun p => .tuple [.int p.1, f p.2]
  | [], k => rfl
  | a :: as, k => by
    have := enum_eq f as (k + 1)
    rw [List.map_cons, enumFrom, this]
    rfl
theorem mem_enumI {α : Type} {p : Int × α} : ∀ {as : List α} {k : Int}, p ∈ enumI k as ↔ ∃ j : Nat, as[j]? = some p.2 ∧ p.1 = k + j
  | [], k => by simp [enumI]
  | a :: as, k => by
    have ih := mem_enumI (p := p) (as := as) (k := k + 1)
    unfold enumI
    rw [List.mem_cons, ih]
    constructor
    · rintro (rfl | ⟨j, h1, h2⟩)
      · exact ⟨0, by simp, by simp⟩
      · exact ⟨j + 1, by simpa using h1, by omega⟩
    · rintro ⟨j, h1, h2⟩
      cases j with
      | zero => left; simp at h1 h2; exact Prod.ext h2 h1.symm
      | succ j => right; exact ⟨j, by simpa using h1, by omega⟩
def getA (as : List (Int × Int)) (i : Int) : Int × Int := as.getD i.toNat (1, 0)
theorem getA_at {as : List (Int × Int)} {j : Nat} {a : Int × Int} (h : as[j]? = some a) : getA as (j : Int) = a := by
  simp [getA, List.getD, h]
theorem ix_row {as : List (Int × Int)} {j : Int} (h0 : 0 ≤ j) (h1 : j < as.length) : idxD (rowD as) (.int j) = .ok (alD (getA as j)) ∧ getA as j ∈ as := by
  obtain ⟨n, rfl⟩ := Int.eq_ofNat_of_zero_le h0
  have hn : n < as.length := by omega
  have hg : getA as (n : Int) = as[n] := getA_at (List.getElem?_eq_getElem hn)
  rw [hg]
  have h2 : ¬ ((n : Int) < 0) := by omega
  refine ⟨by simp [idxD, itemAt, L2.atI, L2.ixN, h2, hn], List.getElem_mem hn⟩
def AlA (as : List (Int × Int)) : Prop := ∀ a ∈ as, Al a.1 a.2
theorem AlA.pos {as : List (Int × Int)} (h : AlA as) : Pos as := fun a ha => by have := (h a ha).p1; omega
instance (a b : Int × Int) : Decidable (Fit a b) := by unfold Fit; infer_instance
/-- the first two alarms that do not meet -/
def apF (as : List (Int × Int)) : Option (Int × Int) := (enumI 0 as).findSome? fun p => (rangeI (p.1 + 1) as.length).findSome? fun j => if Fit p.2 (getA as j) then none else some (p.1, j)
def pairD (p : Int × Int) : PyData := .tuple [.int p.1, .int p.2]
def optP : Option (Int × Int) → PyData
  | none => .none
  | some p => pairD p
theorem findSome_map {α β γ : Type} (f : α → Option β) (g : β → γ) (l : List α) : l.findSome? (fun x => (f x).map g) = (l.findSome? f).map g := by
  induction l with
  | nil => rfl
  | cons a l ih =>
    rw [List.findSome?_cons, List.findSome?_cons]
    cases f a with
    | none => simpa using ih
    | some b => rfl
theorem find_apart_ok {wf : Nat} {as : List (Int × Int)} (hw : 60 < wf) (h : AlA as) (hn : as.length ≤ 1000) : p_find_apart wf [rowD as] = .ok (optP (apF as)) := by
  have hin : ∀ (i : Int) (a : Int × Int), a ∈ as → ∀ r, (∃ y, r = [some (.dat (rowD as)), some (.dat (.int i)), some (.dat (alD a)), y]) → ∀ is : List Int, (∀ j ∈ is, 0 ≤ j ∧ j < as.length) →
      (is.findSome? (fun j => (if Fit a (getA as j) then none else some (i, j)).map pairD) = none ∧ ∃ r2, forGo (gN 3) (p_find_apart_b1 wf) (is.map .int) r = .ok .nx r2 ∧ ∃ y, r2 = [some (.dat (rowD as)), some (.dat (.int i)), some (.dat (alD a)), y]) ∨
      ∃ d r2, is.findSome? (fun j => (if Fit a (getA as j) then none else some (i, j)).map pairD) = some d ∧ forGo (gN 3) (p_find_apart_b1 wf) (is.map .int) r = .ok (.ret d) r2 := by
    intro i a ha r hr is his
    refine for_ret (mk := .int) (I := fun r => ∃ y, r = [some (.dat (rowD as)), some (.dat (.int i)), some (.dat (alD a)), y]) _ (fun j hj r hI => ?_) r hr
    obtain ⟨y, rfl⟩ := hI
    obtain ⟨j0, j1⟩ := his j hj
    obtain ⟨e1, hm⟩ := ix_row j0 j1
    have q1 := (h a ha).p1
    have q2 := (h _ hm).p1; have q3 := (h _ hm).p2
    have hd := do_meet_ok (wf := wf) (p := a.1) (s := a.2) (q := (getA as j).1) (t := (getA as j).2) (by omega) (by omega) (by omega)
    have ht : c1 notD (cCall 2 (p_do_meet wf) (aCons (cV 2) (aCons (cIxV 0 (cV 3)) aNil))) [some (.dat (rowD as)), some (.dat (.int i)), some (.dat (alD a)), some (.dat (.int j))] = .ok (.bool (!decide (Fit a (getA as j)))) := by
      refine c1_ok (call2_ok rfl ?_ hd) rfl
      simp only [cIxV, cV, List.getElem?_cons_zero, List.getElem?_cons_succ, R.bind_ok, e1, R.nox_ok]
    refine ⟨_, rfl, ?_⟩
    by_cases hf : Fit a (getA as j)
    · left
      refine ⟨by simp [hf], _, if_no ?_, _, rfl⟩
      simpa [hf] using ht
    · right
      refine ⟨_, _, by simp [hf]; rfl, if_yes (by simpa [hf] using ht) (ret_ok ?_)⟩
      simp [cTup, aCons, aNil, cV, le_SZ, pairD]
  have hout := for_ret (mk := fun p : Int × (Int × Int) => .tuple [.int p.1, alD p.2]) (g := gT (gCons (gN 1) (gCons (gN 2) gNil))) (b := p_find_apart_b2 wf) (I := fun r => ∃ y1 y2 y3, r = [some (.dat (rowD as)), y1, y2, y3])
    (fun p => ((rangeI (p.1 + 1) as.length).findSome? fun j => if Fit p.2 (getA as j) then none else some (p.1, j)).map pairD) (is := enumI 0 as) (fun p hp r hI => by
      obtain ⟨y1, y2, y3, rfl⟩ := hI
      obtain ⟨j, hj, ej⟩ := mem_enumI.mp hp
      have hjl : j < as.length := by
        rcases Nat.lt_or_ge j as.length with q | q
        · exact q
        · rw [List.getElem?_eq_none q] at hj; cases hj
      have ha : p.2 ∈ as := List.mem_of_getElem? hj
      refine ⟨_, rfl, ?_⟩
      have hr : iRng2 (c2 addD (cV 1) (cC (.int 1))) (cLenV 0) [some (.dat (rowD as)), some (.dat (.int p.1)), some (.dat (alD p.2)), y3] = .ok ((rangeI (p.1 + 1) as.length).map .int) :=
        rng2_ok rfl (by simp [cLenV, lenD]) (by omega) (by omega) (by omega) (by omega)
      have e : p_find_apart_b2 wf [some (.dat (rowD as)), some (.dat (.int p.1)), some (.dat (alD p.2)), y3] = forGo (gN 3) (p_find_apart_b1 wf) ((rangeI (p.1 + 1) as.length).map .int) [some (.dat (rowD as)), some (.dat (.int p.1)), some (.dat (alD p.2)), y3] := by
        unfold p_find_apart_b2 sFor
        rw [hr]
        rfl
      rcases hin p.1 p.2 ha _ ⟨y3, rfl⟩ (rangeI (p.1 + 1) as.length) (fun x hx => by rw [mem_rangeI] at hx; omega) with ⟨e1, r2, e2, y, e3⟩ | ⟨d, r2, e1, e2⟩
      · left
        rw [findSome_map] at e1
        refine ⟨e1, r2, e.trans e2, _, _, _, e3⟩
      · right
        rw [findSome_map] at e1
        exact ⟨d, r2, e1, e.trans e2⟩) [some (.dat (rowD as)), none, none, none] ⟨none, none, none, rfl⟩
  have hs : iEnum (cV 0) (startE 4 [rowD as]) = .ok ((enumI 0 as).map fun p => .tuple [.int p.1, alD p.2]) := by
    have := enum_eq alD as 0
    simp only [iEnum, startE, cV]
    show R.ok (enumFrom 0 (as.map alD)) = _
    rw [this]; rfl
  rw [findSome_map] at hout
  unfold p_find_apart
  have hf : sFor (iEnum (cV 0)) (gT (gCons (gN 1) (gCons (gN 2) gNil))) (p_find_apart_b2 wf) (startE 4 [rowD as]) = forGo (gT (gCons (gN 1) (gCons (gN 2) gNil))) (p_find_apart_b2 wf) ((enumI 0 as).map fun p => .tuple [.int p.1, alD p.2]) [some (.dat (rowD as)), none, none, none] := by
    unfold sFor
    rw [hs]; rfl
  rcases hout with ⟨e1, r2, e2, _⟩ | ⟨d, r2, e1, e2⟩
  · have e3 : apF as = none := by
      cases q : apF as with
      | none => rfl
      | some p => unfold apF at q; rw [q] at e1; cases e1
    rw [e3]
    exact run_ret (seq_ok (hf.trans e2) (ret_ok rfl))
  · obtain ⟨p, e3, e4⟩ : ∃ p, apF as = some p ∧ pairD p = d := by
      cases q : apF as with
      | none => unfold apF at q; rw [q] at e1; cases e1
      | some p => unfold apF at q; rw [q] at e1; exact ⟨p, rfl, Option.some.inj e1⟩
    rw [e3]
    show _ = R.ok (pairD p)
    rw [e4]
    exact run_ret (seq_ret (hf.trans e2))
/-! ### whether all meet -/
def AllFit (as : List (Int × Int)) : Prop := as.Pairwise Fit
instance (as : List (Int × Int)) : Decidable (AllFit as) := by unfold AllFit; infer_instance
theorem fits_iff {as : List (Int × Int)} (hp : Pos as) : AllFit as ↔ ∃ T, Sol as T := ⟨crt as hp, fun ⟨_, h⟩ => sol_fit h⟩
theorem apF_none {as : List (Int × Int)} : apF as = none ↔ AllFit as := by
  unfold apF AllFit
  rw [List.findSome?_eq_none_iff, List.pairwise_iff_getElem]
  constructor
  · intro h i j hi hj hij
    have := h ((i : Int), as[i]) (mem_enumI.mpr ⟨i, by simp [hi], by simp⟩)
    rw [List.findSome?_eq_none_iff] at this
    have := this (j : Int) (mem_rangeI.mpr ⟨by omega, by omega⟩)
    rw [getA_at (List.getElem?_eq_getElem hj)] at this
    by_cases hf : Fit as[i] as[j]
    · exact hf
    · simp [hf] at this
  · intro h p hp
    obtain ⟨i, e1, e2⟩ := mem_enumI.mp hp
    rw [List.findSome?_eq_none_iff]
    intro j hj
    rw [mem_rangeI] at hj
    obtain ⟨n, rfl⟩ := Int.eq_ofNat_of_zero_le (a := j) (by omega)
    have hn : n < as.length := by omega
    have hi : i < as.length := by omega
    rw [getA_at (List.getElem?_eq_getElem hn)]
    rw [List.getElem?_eq_getElem hi] at e1
    have := h i n hi hn (by omega)
    rw [Option.some.inj e1] at this
    simp [this]
/-! ### the joined alarm -/
noncomputable def TF (as : List (Int × Int)) : Int := by
  classical
  exact if h : ∃ T, Sol as T then h.choose % lcmF as 1 else 0
theorem TF_spec {as : List (Int × Int)} (hp : Pos as) (h : AllFit as) : Sol as (TF as) ∧ 0 ≤ TF as ∧ TF as < lcmF as 1 := by
  have hL := lcmF_pos as 1 (by omega) hp
  have hx := (fits_iff hp).mp h
  unfold TF
  rw [dif_pos hx]
  refine ⟨?_, Int.emod_nonneg _ (by omega), Int.emod_lt_of_pos _ hL⟩
  refine (sol_iff hx.choose_spec).mpr ?_
  have := Int.mul_ediv_add_emod hx.choose (lcmF as 1)
  exact ⟨-(hx.choose / lcmF as 1), by rw [Int.mul_neg]; omega⟩
theorem TF_uniq {as : List (Int × Int)} {T : Int} (hp : Pos as) (h : Sol as T) (h0 : 0 ≤ T) (h1 : T < lcmF as 1) : TF as = T := by
  obtain ⟨a, b, c⟩ := TF_spec hp ((fits_iff hp).mpr ⟨T, h⟩)
  have := dvd_small ((sol_iff h).mp a) (by omega) (by omega)
  omega
noncomputable def jF (as : List (Int × Int)) : Option (Int × Int) := if AllFit as then some (lcmF as 1, TF as) else none
theorem jF_none {as : List (Int × Int)} : jF as = none ↔ ¬ AllFit as := by
  unfold jF; split <;> simp [*]
theorem jF_at {as : List (Int × Int)} {T : Int} (hp : Pos as) (h : Sol as T) (h0 : 0 ≤ T) (h1 : T < lcmF as 1) : jF as = some (lcmF as 1, T) := by
  unfold jF
  rw [if_pos ((fits_iff hp).mpr ⟨T, h⟩), TF_uniq hp h h0 h1]
theorem jF_congr {as bs : List (Int × Int)} (ha : Pos as) (hb : Pos bs) (h : ∀ T, Sol as T ↔ Sol bs T) : jF as = jF bs := by
  by_cases hx : AllFit as
  · obtain ⟨s1, s2, s3⟩ := TF_spec ha hx
    have s4 := (h _).mp s1
    have La := lcmF_pos as 1 (by omega) ha
    have Lb := lcmF_pos bs 1 (by omega) hb
    have e : lcmF as 1 = lcmF bs 1 := by
      refine eq_of_dvd La Lb ?_ ?_
      · have := (sol_iff s1).mp ((h _).mpr ((sol_iff (U := TF as + lcmF bs 1) s4).mpr ⟨1, by omega⟩))
        rwa [show TF as + lcmF bs 1 - TF as = lcmF bs 1 by omega] at this
      · have := (sol_iff s4).mp ((h _).mp ((sol_iff (U := TF as + lcmF as 1) s1).mpr ⟨1, by omega⟩))
        rwa [show TF as + lcmF as 1 - TF as = lcmF as 1 by omega] at this
    rw [jF_at ha s1 s2 s3, jF_at hb s4 s2 (by omega), e]
  · have hy : ¬ AllFit bs := by
      intro q
      obtain ⟨T, hT⟩ := (fits_iff hb).mp q
      exact hx ((fits_iff ha).mpr ⟨T, (h T).mpr hT⟩)
    rw [jF_none.mpr hx, jF_none.mpr hy]
theorem lcmF_app : ∀ (as bs : List (Int × Int)) (L : Int), lcmF (as ++ bs) L = lcmF bs (lcmF as L)
  | [], bs, L => rfl
  | a :: as, bs, L => lcmF_app as bs _
theorem join_go {wf : Nat} {x0 : Option Sl} {T : Int} (hw : 60 < wf) : ∀ (bs : List (Int × Int)) (L : Int) (y : Option Sl), 0 < L → AlA bs → Sol bs T → ∃ y2, forGo (gN 2) (p_find_joined_b1 wf) (bs.map alD) [x0, some (.dat (alarmD L (T % L))), y] = .ok .nx [x0, some (.dat (alarmD (lcmF bs L) (T % lcmF bs L))), y2]
  | [], L, y, _, _, _ => ⟨y, rfl⟩
  | b :: bs, L, y, hL, h, hT => by
    have q := h b (by simp)
    have q1 := q.p1
    have hl := lcm_pos' (p := L) (q := b.1) hL (by omega)
    obtain ⟨y2, e⟩ := join_go (x0 := x0) hw bs (Int.lcm L b.1) (some (.dat (alD b))) hl (fun a ha => h a (List.mem_cons_of_mem _ ha)) (fun a ha => hT a (List.mem_cons_of_mem _ ha))
    refine ⟨y2, ?_⟩
    have hb := both_ok (wf := wf) (p := L) (s := T % L) (q := b.1) (t := b.2) (T := T % (Int.lcm L b.1 : Int)) hL (Int.emod_nonneg _ (by omega)) (Int.emod_lt_of_pos _ hL) (by omega) q.p2 q.s0 q.s1 hw (Int.emod_nonneg _ (by omega)) (Int.emod_lt_of_pos _ hl)
      (Int.emod_emod_of_dvd _ (Int.dvd_lcm_left L b.1)) (by rw [Int.emod_emod_of_dvd _ (Int.dvd_lcm_right L b.1)]; exact (mod_iff (by omega) q.s0 q.s1).mpr (hT b (by simp)))
    rw [List.map_cons, forGo]
    have hg : gN 2 (alD b) [x0, some (.dat (alarmD L (T % L))), y] = .ok [x0, some (.dat (alarmD L (T % L))), some (.dat (alD b))] := rfl
    have hs : p_find_joined_b1 wf [x0, some (.dat (alarmD L (T % L))), some (.dat (alD b))] = .ok .nx [x0, some (.dat (alarmD (Int.lcm L b.1) (T % (Int.lcm L b.1 : Int)))), some (.dat (alD b))] :=
      set_ok (call2_ok rfl rfl hb) (by simp)
    rw [hg]
    simp only [hs]
    exact e
def optA : Option (Int × Int) → PyData
  | none => .none
  | some p => alD p
theorem find_joined_ok {wf : Nat} {as : List (Int × Int)} (hw : 60 < wf) (h : AlA as) (hn : as.length ≤ 1000) : p_find_joined wf [rowD as] = .ok (optA (jF as)) := by
  have ha := find_apart_ok hw h hn
  unfold p_find_joined
  by_cases hf : AllFit as
  · obtain ⟨s1, s2, s3⟩ := TF_spec h.pos hf
    rw [apF_none.mpr hf] at ha
    obtain ⟨y2, e⟩ := join_go (x0 := some (.dat (rowD as))) (T := TF as) hw as 1 none (by omega) h s1
    rw [Int.emod_one, Int.emod_eq_of_lt s2 s3] at e
    rw [show jF as = some (lcmF as 1, TF as) from if_pos hf]
    exact run_ret (seq_ok (if_no (c1_ok (call1_ok rfl ha) rfl)) (seq_ok (set_ok (d := alarmD 1 0) rfl (by simp [startE])) (seq_ok e (ret_ok rfl))))
  · rw [jF_none.mpr hf]
    cases q : apF as with
    | none => exact absurd (apF_none.mp q) hf
    | some p =>
      rw [q] at ha
      exact run_ret (seq_ret (if_yes (c1_ok (call1_ok rfl ha) rfl) (ret_ok rfl)))
theorem joined_ok {wf : Nat} {as : List (Int × Int)} (hw : 60 < wf) (h : Row as) : p_joined wf [rowD as] = .ok (optA (jF as)) := by
  have := h.1
  unfold p_joined
  exact run_ret (seq_ok (drop_ok (call1_ok rfl (check_row_ok h))) (ret_ok (call1_ok rfl (find_joined_ok hw h.2 (by omega)))))
theorem apart_ok {wf : Nat} {as : List (Int × Int)} (hw : 60 < wf) (h : Row as) : p_apart wf [rowD as] = .ok (optP (apF as)) := by
  have := h.1
  unfold p_apart
  exact run_ret (seq_ok (drop_ok (call1_ok rfl (check_row_ok h))) (ret_ok (call1_ok rfl (find_apart_ok hw h.2 (by omega)))))
theorem isNone_optP (o : Option (Int × Int)) : isNoneD (optP o) = .ok (.bool o.isNone) := by cases o <;> rfl
theorem all_meet_ok {wf : Nat} {as : List (Int × Int)} (hw : 60 < wf) (h : Row as) : p_all_meet wf [rowD as] = .ok (.bool (decide (AllFit as))) := by
  have := h.1
  have e : decide (AllFit as) = (apF as).isNone := by
    by_cases hf : AllFit as
    · rw [apF_none.mpr hf]; simp [hf]
    · cases q : apF as with
      | none => exact absurd (apF_none.mp q) hf
      | some p => simp [hf]
  rw [e]
  unfold p_all_meet
  exact run_ret (seq_ok (drop_ok (call1_ok rfl (check_row_ok h))) (ret_ok (c1_ok (call1_ok rfl (find_apart_ok hw h.2 (by omega))) (isNone_optP _))))
def optI : Option Int → PyData
  | none => .none
  | some p => .int p
theorem first_together_ok {wf : Nat} {as : List (Int × Int)} (hw : 60 < wf) (h : Row as) : p_first_together wf [rowD as] = .ok (optI ((jF as).map (·.2))) := by
  have := h.1
  have hj := find_joined_ok hw h.2 (by omega)
  unfold p_first_together
  refine run_ret (seq_ok (drop_ok (call1_ok rfl (check_row_ok h))) (seq_ok (set_ok (call1_ok rfl hj) (by simp [startE])) (ret_ok ?_)))
  cases jF as <;> rfl
/-! ### small steps -/
theorem seq_to {s t : Ss} {r r1 : En} {Q : En → Prop} (h : s r = .ok .nx r1) (h2 : ∃ r2, t r1 = .ok .nx r2 ∧ Q r2) : ∃ r2, sSeq s t r = .ok .nx r2 ∧ Q r2 := by
  obtain ⟨r2, e, q⟩ := h2
  exact ⟨r2, seq_ok h e, q⟩
theorem seq_ex {s t : Ss} {r : En} {P Q : En → Prop} (h : ∃ r1, s r = .ok .nx r1 ∧ P r1) (h2 : ∀ r1, P r1 → ∃ r2, t r1 = .ok .nx r2 ∧ Q r2) : ∃ r2, sSeq s t r = .ok .nx r2 ∧ Q r2 := by
  obtain ⟨r1, e, p⟩ := h
  exact seq_to e (h2 r1 p)
theorem if_b {t : Ex} {a b : Ss} {r : En} {x : RS} {c : Bool} (h : t r = .ok (.bool c)) (h1 : c = true → a r = x) (h2 : c = false → b r = x) : sIf t a b r = x := by
  unfold sIf cT; rw [h]; cases c
  · simpa [Rt.lift, asB] using h2 rfl
  · simpa [Rt.lift, asB] using h1 rfl
theorem if_ex {t : Ex} {a b : Ss} {r : En} {c : Bool} {Q : En → Prop} (h : t r = .ok (.bool c)) (h1 : c = true → ∃ r2, a r = .ok .nx r2 ∧ Q r2) (h2 : c = false → ∃ r2, b r = .ok .nx r2 ∧ Q r2) : ∃ r2, sIf t a b r = .ok .nx r2 ∧ Q r2 := by
  cases c
  · obtain ⟨r2, e, q⟩ := h2 rfl
    exact ⟨r2, if_b h (fun z => by cases z) (fun _ => e), q⟩
  · obtain ⟨r2, e, q⟩ := h1 rfl
    exact ⟨r2, if_b h (fun _ => e) (fun z => by cases z), q⟩
theorem eqv_al (a b : Int × Int) : PyData.eqv (alD a) (alD b) = decide (a = b) := by
  obtain ⟨a1, a2⟩ := a
  obtain ⟨b1, b2⟩ := b
  by_cases h1 : a1 = b1 <;> by_cases h2 : a2 = b2 <;> simp [PyData.eqv, PyData.eqvAll, h1, h2]
theorem eqD_al (a b : Int × Int) : eqD (alD a) (alD b) = .ok (.bool (decide (a = b))) := by
  unfold eqD
  rw [if_pos (by rfl), eqv_al]
theorem neD_al (a b : Int × Int) : neD (alD a) (alD b) = .ok (.bool (!decide (a = b))) := by
  unfold neD
  rw [if_pos (by rfl), eqv_al]
theorem is_alarm_gen {wf : Nat} {p s : Int} : p_is_alarm wf [alarmD p s] = .ok (.bool (decide (1 ≤ p) && decide (p ≤ 60) && (decide (0 ≤ s) && decide (s ≤ p - 1)))) := by
  by_cases h1 : 1 ≤ p <;> by_cases h2 : p ≤ 60 <;> by_cases h3 : 0 ≤ s <;> by_cases h4 : s ≤ p - 1 <;> simp [p_is_alarm, sSeq, runD, startE, sIf, sRet, sDrop, sRaise, sSet, sPar, sPar3, sAsg, put, Rt.lift, xD, xO, cV, cC, c1, c2, cT, cAnd, cOr, cIf, cCh, asB, cTup, cLst, cL, cCall, cCall0, cIxV, cLenV, aNil, aCons, oNone, oSome, asI, cSlc, iVal, iRng1, iRng2, itemsD, gN, gT, gCons, gNil, addD, subD, mulD, fdivD, modD, powD, negD, notD, ltD, leD, gtD, geD, isNoneD, notNoneD, isNoneB, isBoolD, notBoolD, idxD, itemAt, lenD, absD, isiD, isiB, max2D, min2D, tupleD, listD, inB, in62, B64, R62, SZ, sNil, L2.atI, L2.ixN, R.bind_ok, R.bind_exc, R.bind_bad, R.nox_ok, R.nox_exc, R.nox_bad, is_int_int, neD_int, h1, h2, h3, h4]
theorem is_alarm_none {wf : Nat} : p_is_alarm wf [.none] = .ok (.bool false) := by
  simp [p_is_alarm, sSeq, runD, startE, sIf, sRet, sDrop, sRaise, sSet, sPar, sPar3, sAsg, put, Rt.lift, xD, xO, cV, cC, c1, c2, cT, cAnd, cOr, cIf, cCh, asB, cTup, cLst, cL, cCall, cCall0, cIxV, cLenV, aNil, aCons, oNone, oSome, asI, cSlc, iVal, iRng1, iRng2, itemsD, gN, gT, gCons, gNil, addD, subD, mulD, fdivD, modD, powD, negD, notD, ltD, leD, gtD, geD, isNoneD, notNoneD, isNoneB, isBoolD, notBoolD, idxD, itemAt, lenD, absD, isiD, isiB, max2D, min2D, tupleD, listD, inB, in62, B64, R62, SZ, sNil, L2.atI, L2.ixN, R.bind_ok, R.bind_exc, R.bind_bad, R.nox_ok, R.nox_exc, R.nox_bad]
theorem is_alarm_opt {wf : Nat} {as : List (Int × Int)} (hp : Pos as) {a : Int × Int} (h : jF as = some a) : p_is_alarm wf [alD a] = .ok (.bool (decide (a.1 ≤ 60))) ∧ (a.1 ≤ 60 → Al a.1 a.2) := by
  have hf : AllFit as := by
    by_cases q : AllFit as
    · exact q
    · rw [jF_none.mpr q] at h; cases h
  unfold jF at h
  rw [if_pos hf] at h
  have e := Option.some.inj h
  subst e
  obtain ⟨s1, s2, s3⟩ := TF_spec hp hf
  have hL := lcmF_pos as 1 (by omega) hp
  refine ⟨?_, fun q => ⟨by show 1 ≤ lcmF as 1; omega, q, s2, s3⟩⟩
  rw [is_alarm_gen]
  have a1 : 1 ≤ lcmF as 1 := by omega
  have a2 : TF as ≤ lcmF as 1 - 1 := by omega
  simp [a1, s2, a2]
theorem jF_some {as : List (Int × Int)} (hp : Pos as) {a : Int × Int} (h : jF as = some a) : AllFit as ∧ a.1 = lcmF as 1 ∧ Sol as a.2 ∧ 0 ≤ a.2 ∧ a.2 < a.1 := by
  have hf : AllFit as := by
    by_cases q : AllFit as
    · exact q
    · rw [jF_none.mpr q] at h; cases h
  unfold jF at h
  rw [if_pos hf] at h
  have e := Option.some.inj h
  subst e
  obtain ⟨s1, s2, s3⟩ := TF_spec hp hf
  exact ⟨hf, rfl, s1, s2, s3⟩
/-- all ring at the times of the joined alarm -/
theorem sol_jF {as : List (Int × Int)} (hp : Pos as) {a : Int × Int} (h : jF as = some a) {T : Int} : Sol as T ↔ a.1 ∣ T - a.2 := by
  obtain ⟨_, e, s, _, _⟩ := jF_some hp h
  rw [e]; exact sol_iff s
theorem sol_app {as bs : List (Int × Int)} {T : Int} : Sol (as ++ bs) T ↔ Sol as T ∧ Sol bs T := by
  unfold Sol
  constructor
  · intro h; exact ⟨fun a ha => h a (List.mem_append_left _ ha), fun a ha => h a (List.mem_append_right _ ha)⟩
  · rintro ⟨h1, h2⟩ a ha
    rcases List.mem_append.mp ha with h | h
    · exact h1 a h
    · exact h2 a h
theorem heardF_full {t : Int} : ∀ (as : List (Int × Int)) (k : Nat), AlA as → ((heardF t k as).length = as.length ↔ Sol as t)
  | [], k, _ => by simp [heardF, Sol]
  | a :: as, k, h => by
    have ih := heardF_full (t := t) as (k + 1) fun b hb => h b (List.mem_cons_of_mem _ hb)
    have q := h a (by simp)
    have hl := heardF_len t (k + 1) as
    have q1 := q.p1
    have hm := mod_iff (p := a.1) (s := a.2) (t := t) (by omega) q.s0 q.s1
    have key : Sol (a :: as) t ↔ a.1 ∣ t - a.2 ∧ Sol as t := by
      unfold Sol; simp
    rw [key, ← ih, ← hm]
    have e : heardF t k (a :: as) = if t % a.1 = a.2 then (k : Int) :: heardF t (k + 1) as else heardF t (k + 1) as := rfl
    rw [e]
    split
    · rename_i hc; simp [hc]
    · rename_i hc; simp [hc]; omega
theorem sol_two {a b : Int × Int} {T : Int} : Sol [a, b] T ↔ a.1 ∣ T - a.2 ∧ b.1 ∣ T - b.2 := by
  unfold Sol; simp
theorem cut_take {α : Type} (as : List α) {v : Int} (h0 : 0 ≤ v) : cutL as none (some v) = as.take v.toNat := by
  obtain ⟨n, rfl⟩ := Int.eq_ofNat_of_zero_le h0
  have h2 : ¬ ((n : Int) < 0) := by omega
  simp only [cutL, _root_.HT.sIx, h2, if_false, Int.toNat_natCast, List.drop_zero, Nat.sub_zero]
  rcases Nat.le_total n as.length with q | q
  · rw [Nat.min_eq_left q]
  · rw [Nat.min_eq_right q, List.take_length, List.take_of_length_le q]
theorem cut_drop {α : Type} (as : List α) {v : Int} (h0 : 0 ≤ v) : cutL as (some v) none = as.drop v.toNat := by
  obtain ⟨n, rfl⟩ := Int.eq_ofNat_of_zero_le h0
  have h2 : ¬ ((n : Int) < 0) := by omega
  simp only [cutL, _root_.HT.sIx, h2, if_false, Int.toNat_natCast]
  rcases Nat.le_total n as.length with q | q
  · rw [Nat.min_eq_left q, List.take_of_length_le (by simp)]
  · rw [Nat.min_eq_right q, Nat.sub_self, List.take_zero, List.drop_of_length_le q]
theorem slc_take (as : List (Int × Int)) {v : Int} (h0 : 0 ≤ v) : slcD (rowD as) none (some v) = .ok (rowD (as.take v.toNat)) := by
  simp only [slcD, rowD]
  rw [cut_take _ h0, List.map_take]
theorem slc_drop (as : List (Int × Int)) {v : Int} (h0 : 0 ≤ v) : slcD (rowD as) (some v) none = .ok (rowD (as.drop v.toNat)) := by
  simp only [slcD, rowD]
  rw [cut_drop _ h0, List.map_drop]
theorem rev_row (as : List (Int × Int)) : revD (rowD as) = .ok (rowD as.reverse) := by
  simp [revD, rowD]
theorem add_row {as bs : List (Int × Int)} (h : as.length + bs.length ≤ 1000) : addD (rowD as) (rowD bs) = .ok (rowD (as ++ bs)) := by
  have : as.length + bs.length ≤ SZ := le_SZ (by omega)
  simp [addD, rowD, this]
theorem tup_row1 {f : Ex} {r : En} {a : Int × Int} (h : f r = .ok (alD a)) : cTup (aCons f aNil) r = .ok (rowD [a]) := by
  have : (1 : Nat) ≤ SZ := by decide
  simp [cTup, aCons, aNil, h, this]
theorem tup_row2 {f g : Ex} {r : En} {a b : Int × Int} (h : f r = .ok (alD a)) (h2 : g r = .ok (alD b)) : cTup (aCons f (aCons g aNil)) r = .ok (rowD [a, b]) := by
  have : (2 : Nat) ≤ SZ := by decide
  simp [cTup, aCons, aNil, h, h2, this]
theorem tup_al {f g : Ex} {r : En} {a b : Int} (h : f r = .ok (.int a)) (h2 : g r = .ok (.int b)) : cTup (aCons f (aCons g aNil)) r = .ok (alarmD a b) := by
  have : (2 : Nat) ≤ SZ := by decide
  simp [cTup, aCons, aNil, h, h2, this]
theorem slc_ok {f : Ex} {lo hi : Eo} {r : En} {d e : PyData} {l h : Option Int} (h1 : f r = .ok d) (h2 : lo r = .ok l) (h3 : hi r = .ok h) (h4 : slcD d l h = .ok e) : cSlc f lo hi r = .ok e := by
  simp [cSlc, h1, h2, h3, h4]
theorem and_no {f g : Ex} {r : En} {a : Bool} (h : f r = .ok (.bool a)) (h2 : a = true → g r = .ok (.bool false)) : cAnd f g r = .ok (.bool false) := by
  unfold cAnd; rw [h]; cases a <;> simp [h2]
theorem Row.sub {as bs : List (Int × Int)} (h : Row as) (hl : bs.length ≤ 6) (hs : ∀ b ∈ bs, b ∈ as) : Row bs := ⟨hl, fun b hb => h.2 b (hs b hb)⟩
theorem Row.pos {as : List (Int × Int)} (h : Row as) : Pos as := AlA.pos h.2
end Rq
/-! Rt, part V: the drawing of the later laws. -/
namespace Rq
open PySem Rt Pg
theorem drawn_loop {wf : Nat} {x0 x1 x2 x3 : Option Sl} : ∀ (f a : Nat) (n : Int), a < f → ∃ (n2 a2 : Int), whGo (cAnd (c2 gtD (cV 5) (cC (.int 0))) (c2 gtD (cV 4) (cC (.int 0)))) (p__law_drawn_b1 wf) f [x0, x1, x2, x3, some (.dat (.int a)), some (.dat (.int n))] = .ok .nx [x0, x1, x2, x3, some (.dat (.int a2)), some (.dat (.int n2))] := by
  intro f
  induction f with
  | zero => intro a n h; omega
  | succ f ih =>
    intro a n h
    by_cases hn : 0 < n
    · by_cases ha : a = 0
      · subst ha
        exact ⟨n, 0, by simp [whGo, runD, startE, sIf, sRet, sDrop, sRaise, sSet, sPar, sPar3, sAsg, put, Rt.lift, xD, xO, cV, cC, c1, c2, cT, cAnd, cOr, cIf, cCh, asB, cTup, cLst, cL, cCall, cCall0, cIxV, cLenV, aNil, aCons, oNone, oSome, asI, cSlc, iVal, iRng1, iRng2, itemsD, gN, gT, gCons, gNil, addD, subD, mulD, fdivD, modD, powD, negD, notD, ltD, leD, gtD, geD, isNoneD, notNoneD, isNoneB, isBoolD, notBoolD, idxD, itemAt, lenD, absD, isiD, isiB, max2D, min2D, tupleD, listD, inB, in62, B64, R62, SZ, sNil, L2.atI, L2.ixN, R.bind_ok, R.bind_exc, R.bind_bad, R.nox_ok, R.nox_exc, R.nox_bad, hn]⟩
      · obtain ⟨n2, a2, e⟩ := ih (a - 1) (n / 1000000) (by omega)
        refine ⟨n2, a2, ?_⟩
        have e2 : ((a - 1 : Nat) : Int) = (a : Int) - 1 := by omega
        rw [e2] at e
        simp [whGo, runD, startE, sIf, sRet, sDrop, sRaise, sSet, sPar, sPar3, sAsg, put, Rt.lift, xD, xO, cV, cC, c1, c2, cT, cAnd, cOr, cIf, cCh, asB, cTup, cLst, cL, cCall, cCall0, cIxV, cLenV, aNil, aCons, oNone, oSome, asI, cSlc, iVal, iRng1, iRng2, itemsD, gN, gT, gCons, gNil, addD, subD, mulD, fdivD, modD, powD, negD, notD, ltD, leD, gtD, geD, isNoneD, notNoneD, isNoneB, isBoolD, notBoolD, idxD, itemAt, lenD, absD, isiD, isiB, max2D, min2D, tupleD, listD, inB, in62, B64, R62, SZ, sNil, L2.atI, L2.ixN, R.bind_ok, R.bind_exc, R.bind_bad, R.nox_ok, R.nox_exc, R.nox_bad, hn, Nat.pos_of_ne_zero ha, p__law_drawn_b1, sSeq]
        exact e
    · exact ⟨n, a, by simp [whGo, runD, startE, sIf, sRet, sDrop, sRaise, sSet, sPar, sPar3, sAsg, put, Rt.lift, xD, xO, cV, cC, c1, c2, cT, cAnd, cOr, cIf, cCh, asB, cTup, cLst, cL, cCall, cCall0, cIxV, cLenV, aNil, aCons, oNone, oSome, asI, cSlc, iVal, iRng1, iRng2, itemsD, gN, gT, gCons, gNil, addD, subD, mulD, fdivD, modD, powD, negD, notD, ltD, leD, gtD, geD, isNoneD, notNoneD, isNoneB, isBoolD, notBoolD, idxD, itemAt, lenD, absD, isiD, isiB, max2D, min2D, tupleD, listD, inB, in62, B64, R62, SZ, sNil, L2.atI, L2.ixN, R.bind_ok, R.bind_exc, R.bind_bad, R.nox_ok, R.nox_exc, R.nox_bad, hn]⟩
theorem mul_small {a b : Int} (h : inB a = true ∨ inB b = true) : mulD (.int a) (.int b) = .ok (.int (a * b)) := by
  rcases h with h | h <;> simp [mulD, h]
theorem fdiv_ok {a b : Int} (h : 0 < b) (h2 : b ≤ 1000000000000000000) : fdivD (.int a) (.int b) = .ok (.int (a / b)) := by
  have : b < B64 := by unfold B64; omega
  simp [fdivD, h, this]
theorem drawn_ok {wf : Nat} {ns : List Int} (hl : ns.length ≤ 63) {k many : Int} (k0 : 0 ≤ k) (k1 : k < 2000) (hw : 2000 < wf) (m0 : 0 < many) : ∃ v, p__law_drawn wf [.list (ns.map .int), .int k, .int many] = .ok (.int v) ∧ 0 ≤ v ∧ v < many := by
  have last : ∀ (c : Int) (y4 y5 : Option Sl), ∃ v r, (sSeq (sSet 3 (xD (c2 modD (c2 addD (c2 mulD (c2 modD (cV 3) (cC (.int 2147483563))) (cC (.int 69069))) (c2 mulD (cC (.int 104723)) (c2 addD (cV 1) (cC (.int 1))))) (cC (.int 2147483563)))))
  (sSeq (sSet 3 (xD (c2 modD (c2 addD (c2 mulD (cV 3) (cV 3)) (c2 fdivD (cV 3) (cC (.int 3)))) (cC (.int 2147483399)))))
  (sRet (c2 modD (c2 fdivD (c2 modD (c2 addD (c2 mulD (cV 3) (cV 3)) (c2 fdivD (cV 3) (cC (.int 7)))) (cC (.int 2147483647))) (cC (.int 11))) (cV 2))))) [some (.dat (.list (ns.map .int))), some (.dat (.int k)), some (.dat (.int many)), some (.dat (.int c)), y4, y5] = .ok (.ret (.int v)) r ∧ 0 ≤ v ∧ v < many := by
    intro c y4 y5
    have hb1 : inB 69069 = true := by decide
    have hb2 : inB 104723 = true := by decide
    generalize hv : (c % 2147483563 * 69069 + 104723 * (k + 1)) % 2147483563 = v
    have v0 : 0 ≤ v := by rw [← hv]; exact Int.emod_nonneg _ (by decide)
    have v1 : v < 2147483563 := by rw [← hv]; exact Int.emod_lt_of_pos _ (by decide)
    have v2 : inB v = true := by unfold inB B64; rw [Bool.and_eq_true, decide_eq_true_iff, decide_eq_true_iff]; constructor <;> omega
    generalize hu : (v * v + v / 3) % 2147483399 = u
    have u0 : 0 ≤ u := by rw [← hu]; exact Int.emod_nonneg _ (by decide)
    have u1 : u < 2147483399 := by rw [← hu]; exact Int.emod_lt_of_pos _ (by decide)
    have u2 : inB u = true := by unfold inB B64; rw [Bool.and_eq_true, decide_eq_true_iff, decide_eq_true_iff]; constructor <;> omega
    refine ⟨(u * u + u / 7) % 2147483647 / 11 % many, _, seq_ok (set_ok (d := .int v) (c2_ok (c2_ok (c2_ok (c2_ok rfl rfl (modD_ok (by decide))) rfl (mul_small (.inr hb1))) (c2_ok rfl (c2_ok rfl rfl rfl) (mul_small (.inl hb2))) rfl) rfl ?_) (by simp)) (seq_ok (set_ok (d := .int u) (c2_ok (c2_ok (c2_ok rfl rfl (mul_small (.inl v2))) (c2_ok rfl rfl (fdiv_ok (by decide) (by decide))) rfl) rfl ?_) (by simp)) (ret_ok (c2_ok (c2_ok (c2_ok (c2_ok (c2_ok rfl rfl (mul_small (.inl u2))) (c2_ok rfl rfl (fdiv_ok (by decide) (by decide))) rfl) rfl (modD_ok (by decide))) rfl (fdiv_ok (by decide) (by decide))) rfl (modD_ok m0)))), Int.emod_nonneg _ (by omega), Int.emod_lt_of_pos _ m0⟩
    · rw [modD_ok (by decide), hv]
    · rw [modD_ok (by decide), hu]
  have hb7 : inB 7 = true := by decide
  have hb3 : inB 6553 = true := by decide
  unfold p__law_drawn
  by_cases hn : ns = []
  · subst hn
    obtain ⟨v, r, e, v0, v1⟩ := last (7 * k) none none
    refine ⟨v, run_ret (seq_ok (set_ok (d := .int (7 * k)) (c2_ok rfl rfl (mul_small (.inl hb7))) (by simp [startE])) (seq_ok (if_no (c2_ok rfl rfl (neD_ints_nil []))) e)), v0, v1⟩
  · have hl0 : 0 < ns.length := List.length_pos_iff.mpr hn
    obtain ⟨n, hx⟩ := item_ok ns hn k k0
    have hlen : ∀ y3 y4 y5, cLenV 0 [some (.dat (.list (ns.map .int))), some (.dat (.int k)), some (.dat (.int many)), y3, y4, y5] = .ok (.int ns.length) := fun _ _ _ => by simp [cLenV, lenD]
    have q0 := Int.ediv_nonneg k0 (b := (ns.length : Int)) (by omega)
    have q1 := Int.ediv_le_self (b := (ns.length : Int)) (a := k) k0
    obtain ⟨a, ha⟩ := Int.eq_ofNat_of_zero_le q0
    have hp : ∀ r, c2 powD (cC (.int 10)) (cC (.int 18)) r = .ok (.int 1000000000000000000) := fun r => rfl
    have s1 : sSet 3 (xD (c2 mulD (cC (.int 7)) (cV 1))) (startE 6 [.list (ns.map .int), .int k, .int many]) = .ok .nx [some (.dat (.list (ns.map .int))), some (.dat (.int k)), some (.dat (.int many)), some (.dat (.int (7 * k))), none, none] := set_ok (d := .int (7 * k)) (c2_ok rfl rfl (mul_small (.inl hb7))) (by simp [startE])
    have s2 : sSet 3 (xD (cIxV 0 (c2 modD (cV 1) (cLenV 0)))) [some (.dat (.list (ns.map .int))), some (.dat (.int k)), some (.dat (.int many)), some (.dat (.int (7 * k))), none, none] = .ok .nx [some (.dat (.list (ns.map .int))), some (.dat (.int k)), some (.dat (.int many)), some (.dat (.int n)), none, none] := by
      refine set_ok (d := .int n) ?_ (by simp)
      have e : c2 modD (cV 1) (cLenV 0) [some (.dat (.list (ns.map .int))), some (.dat (.int k)), some (.dat (.int many)), some (.dat (.int (7 * k))), none, none] = .ok (.int (k % ns.length)) := c2_ok rfl (hlen _ _ _) (modD_ok (by omega))
      unfold cIxV
      rw [e]
      simp [idxD, hx]
    have s3 : sSet 4 (xD (c2 fdivD (cV 1) (cLenV 0))) [some (.dat (.list (ns.map .int))), some (.dat (.int k)), some (.dat (.int many)), some (.dat (.int n)), none, none] = .ok .nx [some (.dat (.list (ns.map .int))), some (.dat (.int k)), some (.dat (.int many)), some (.dat (.int n)), some (.dat (.int a)), none] := by
      refine set_ok (d := .int a) (c2_ok rfl (hlen _ _ _) ?_) (by simp)
      rw [fdiv_ok (by omega) (by omega), ha]
    have s5 : ∀ y4 y5, sSet 3 (xD (c2 addD (cV 3) (c2 mulD (cC (.int 6553)) (c2 fdivD (cV 1) (cLenV 0))))) [some (.dat (.list (ns.map .int))), some (.dat (.int k)), some (.dat (.int many)), some (.dat (.int n)), y4, y5] = .ok .nx [some (.dat (.list (ns.map .int))), some (.dat (.int k)), some (.dat (.int many)), some (.dat (.int (n + 6553 * a))), y4, y5] := fun y4 y5 => by
      refine set_ok (d := .int (n + 6553 * a)) (c2_ok rfl (c2_ok rfl (c2_ok rfl (hlen _ _ _) ?_) (mul_small (.inl hb3))) rfl) (by simp)
      rw [fdiv_ok (by omega) (by omega), ha]
    by_cases hc : 1000000000000000000 ≤ n ∧ (a : Int) < 60
    · obtain ⟨n2, a2, hloop⟩ := drawn_loop (wf := wf) (x0 := some (.dat (.list (ns.map .int)))) (x1 := some (.dat (.int k))) (x2 := some (.dat (.int many))) (x3 := some (.dat (.int n))) wf a (n / 1000000000000000000) (by omega)
      have ht : cAnd (c2 geD (cV 3) (c2 powD (cC (.int 10)) (cC (.int 18)))) (c2 ltD (cV 4) (cC (.int 60))) [some (.dat (.list (ns.map .int))), some (.dat (.int k)), some (.dat (.int many)), some (.dat (.int n)), some (.dat (.int a)), none] = .ok (.bool true) := by
        have := and_ok (a := decide (1000000000000000000 ≤ n)) (b := decide ((a : Int) < 60)) (f := c2 geD (cV 3) (c2 powD (cC (.int 10)) (cC (.int 18)))) (g := c2 ltD (cV 4) (cC (.int 60))) (r := [some (.dat (.list (ns.map .int))), some (.dat (.int k)), some (.dat (.int many)), some (.dat (.int n)), some (.dat (.int a)), none]) (c2_ok rfl (hp _) rfl) (fun _ => c2_ok rfl rfl rfl)
        rw [this]; simp [hc.1, hc.2]
      have s4 : sSet 5 (xD (c2 fdivD (cV 3) (c2 powD (cC (.int 10)) (cC (.int 18))))) [some (.dat (.list (ns.map .int))), some (.dat (.int k)), some (.dat (.int many)), some (.dat (.int n)), some (.dat (.int a)), none] = .ok .nx [some (.dat (.list (ns.map .int))), some (.dat (.int k)), some (.dat (.int many)), some (.dat (.int n)), some (.dat (.int a)), some (.dat (.int (n / 1000000000000000000)))] :=
        set_ok (c2_ok rfl (hp _) (fdiv_ok (by decide) (by decide))) (by simp)
      by_cases h2 : 0 < n2
      · refine ⟨n2 % 1000000 % many, run_ret (seq_ok s1 (seq_ret (if_yes (c2_ok rfl rfl (by rw [neD_ints_nil]; simp [hn])) (seq_ok s2 (seq_ok s3 (seq_ret (if_yes ht (seq_ok s4 (seq_ok hloop (if_yes (c2_ok rfl rfl (by simp [gtD, h2])) (ret_ok (c2_ok (c2_ok rfl rfl (modD_ok (by decide))) rfl (modD_ok m0)))))))))))))
          , Int.emod_nonneg _ (by omega), Int.emod_lt_of_pos _ m0⟩
      · obtain ⟨v, r, e, v0, v1⟩ := last (n + 6553 * a) (some (.dat (.int a2))) (some (.dat (.int n2)))
        exact ⟨v, run_ret (seq_ok s1 (seq_ok (if_yes (c2_ok rfl rfl (by rw [neD_ints_nil]; simp [hn])) (seq_ok s2 (seq_ok s3 (seq_ok (if_yes ht (seq_ok s4 (seq_ok hloop (if_no (c2_ok rfl rfl (by simp [gtD, h2])))))) (s5 _ _))))) e)), v0, v1⟩
    · have ht : cAnd (c2 geD (cV 3) (c2 powD (cC (.int 10)) (cC (.int 18)))) (c2 ltD (cV 4) (cC (.int 60))) [some (.dat (.list (ns.map .int))), some (.dat (.int k)), some (.dat (.int many)), some (.dat (.int n)), some (.dat (.int a)), none] = .ok (.bool false) := by
        have := and_ok (a := decide (1000000000000000000 ≤ n)) (b := decide ((a : Int) < 60)) (f := c2 geD (cV 3) (c2 powD (cC (.int 10)) (cC (.int 18)))) (g := c2 ltD (cV 4) (cC (.int 60))) (r := [some (.dat (.list (ns.map .int))), some (.dat (.int k)), some (.dat (.int many)), some (.dat (.int n)), some (.dat (.int a)), none]) (c2_ok rfl (hp _) rfl) (fun _ => c2_ok rfl rfl rfl)
        rw [this]
        by_cases h1 : 1000000000000000000 ≤ n
        · have h2 : ¬ (a : Int) < 60 := fun z => hc ⟨h1, z⟩
          simp [h1, h2]
        · simp [h1]
      obtain ⟨v, r, e, v0, v1⟩ := last (n + 6553 * a) (some (.dat (.int a))) none
      exact ⟨v, run_ret (seq_ok s1 (seq_ok (if_yes (c2_ok rfl rfl (by rw [neD_ints_nil]; simp [hn])) (seq_ok s2 (seq_ok s3 (seq_ok (if_no ht) (s5 _ _))))) e)), v0, v1⟩
theorem alarm2_ok {wf : Nat} {ns : List Int} (hl : ns.length ≤ 63) {k : Int} (k0 : 0 ≤ k) (k1 : k < 1900) (hw : 2000 < wf) : ∃ p s, p__law_alarm_v2 wf [.list (ns.map .int), .int k] = .ok (alarmD p s) ∧ 1 ≤ p ∧ p ≤ 12 ∧ 0 ≤ s ∧ s < p := by
  obtain ⟨v, hv, v0, v1⟩ := drawn_ok (wf := wf) hl (many := 10) k0 (by omega) hw (by omega)
  obtain ⟨p, hp, p1, p2⟩ : ∃ p : Int, idxD (.list [.int 1, .int 2, .int 3, .int 4, .int 6, .int 8, .int 5, .int 12, .int 10, .int 4]) (.int v) = .ok (.int p) ∧ 1 ≤ p ∧ p ≤ 12 := by
    have : v = 0 ∨ v = 1 ∨ v = 2 ∨ v = 3 ∨ v = 4 ∨ v = 5 ∨ v = 6 ∨ v = 7 ∨ v = 8 ∨ v = 9 := by omega
    rcases this with rfl | rfl | rfl | rfl | rfl | rfl | rfl | rfl | rfl | rfl <;> exact ⟨_, rfl, by decide, by decide⟩
  obtain ⟨s, hs, s0, s1⟩ := drawn_ok (wf := wf) hl (k := k + 1) (many := p) (by omega) (by omega) hw (by omega)
  refine ⟨p, s, ?_, p1, p2, s0, s1⟩
  unfold p__law_alarm_v2
  refine run_ret (seq_ok (set_ok (d := .int p) (c2_ok (a := .list [.int 1, .int 2, .int 3, .int 4, .int 6, .int 8, .int 5, .int 12, .int 10, .int 4]) rfl (call3_ok rfl rfl rfl hv) hp) (by simp [startE])) (ret_ok (tup_al rfl (call3_ok rfl (c2_ok rfl rfl rfl) rfl hs))))
theorem row2_ok {wf : Nat} {ns : List Int} (hl : ns.length ≤ 63) {k most : Int} (k0 : 0 ≤ k) (k1 : k < 1800) (m0 : 0 ≤ most) (m1 : most ≤ 6) (hw : 2000 < wf) : ∃ as : List (Int × Int), p__law_row_v2 wf [.list (ns.map .int), .int k, .int most] = .ok (rowD as) ∧ (as.length : Int) ≤ most ∧ (∀ a ∈ as, a.1 ≤ 12) ∧ Row as := by
  obtain ⟨v, hv, v0, v1⟩ := drawn_ok (wf := wf) hl (k := k) (many := most + 1) k0 (by omega) hw (by omega)
  obtain ⟨as, h1, h2, h3⟩ := comp_ex (vs := [3]) (src := iRng1 (cCall 3 (p__law_drawn wf) (aCons (cV 0) (aCons (cV 1) (aCons (c2 addD (cV 2) (cC (.int 1))) aNil))))) (g := gN 3) (e := cCall 2 (p__law_alarm_v2 wf) (aCons (cV 0) (aCons (c2 addD (c2 addD (cV 1) (cC (.int 1))) (c2 mulD (cC (.int 2)) (cV 3))) aNil))) (r := startE 4 [.list (ns.map .int), .int k, .int most]) (mk := .int) (mk2 := alD) (P := fun a => a.1 ≤ 12 ∧ Al a.1 a.2) (is := rangeI 0 v)
    (rng1_ok (call3_ok rfl rfl (c2_ok rfl rfl rfl) hv) (by omega) (by omega)) (le_SZ (by rw [rangeI_length]; omega))
    (fun i => [some (.dat (.list (ns.map .int))), some (.dat (.int k)), some (.dat (.int most)), some (.dat (.int i))])
    (fun i hi => ⟨rfl, by
      rw [mem_rangeI] at hi
      obtain ⟨p, s, e, p1, p2, s0, s1⟩ := alarm2_ok (wf := wf) hl (k := k + 1 + 2 * i) (by omega) (by omega) hw
      have hB := inB_small (k := i) (by omega) (by omega)
      exact ⟨(p, s), call2_ok rfl (c2_ok (c2_ok rfl rfl rfl) (c2_ok rfl rfl (mul_small (.inr hB))) rfl) e, p2, p1, by show p ≤ 60; omega, s0, s1⟩⟩)
  rw [rangeI_length] at h1
  refine ⟨as, ?_, by omega, fun a ha => (h2 a ha).1, by omega, fun a ha => (h2 a ha).2⟩
  unfold p__law_row_v2
  exact run_ret (ret_ok (c1_ok (cL_ok h3) rfl))
end Rq
/-! Rt, part W: rings in windows. -/
namespace Rq
open PySem Rt Pg
/-! ### the greatest of a list -/
theorem max_fold : ∀ (r : List Int) (x : Int), (r.foldl (fun a b => if a < b then b else a) x) ∈ x :: r ∧ ∀ y ∈ x :: r, y ≤ r.foldl (fun a b => if a < b then b else a) x
  | [], x => by simp
  | z :: r, x => by
    rw [List.foldl_cons]
    obtain ⟨h1, h2⟩ := max_fold r (if x < z then z else x)
    constructor
    · rcases List.mem_cons.mp h1 with e | e
      · rw [e]; split <;> simp
      · exact List.mem_cons_of_mem _ (List.mem_cons_of_mem _ e)
    · intro y hy
      have h3 := h2 (if x < z then z else x) (by simp)
      rcases List.mem_cons.mp hy with e | e
      · subst e
        split at h3 <;> rename_i hz <;> simp only [hz, if_true, if_false] at h3 ⊢ <;> omega
      · rcases List.mem_cons.mp e with e | e
        · subst e
          split at h3 <;> rename_i hz <;> simp only [hz, if_true, if_false] at h3 ⊢ <;> omega
        · exact h2 y (List.mem_cons_of_mem _ e)
theorem maxI_some {ns : List Int} (h : ns ≠ []) : ∃ m, maxI ns = some m ∧ m ∈ ns ∧ ∀ y ∈ ns, y ≤ m := by
  cases ns with
  | nil => exact absurd rfl h
  | cons x r => exact ⟨_, rfl, (max_fold r x).1, (max_fold r x).2⟩
theorem maxI_eq {ns : List Int} {m : Int} (h : m ∈ ns) (h2 : ∀ y ∈ ns, y ≤ m) : maxI ns = some m := by
  obtain ⟨k, e, k1, k2⟩ := maxI_some (ns := ns) (by rintro rfl; simp at h)
  have := h2 k k1
  have := k2 m h
  rw [e]; congr 1; omega
theorem maxD_ints {ns : List Int} {m : Int} (h : maxI ns = some m) : maxD (.list (ns.map .int)) = .ok (.int m) := by
  simp [maxD, onInts, intsOf_ints, h, optD]
theorem eqv_int_dec (a b : Int) : PyData.eqv (.int a) (.int b) = decide (a = b) := by
  rw [eqv_int]; by_cases h : a = b <;> simp [h]
theorem findIdx_ints (ns : List Int) (m : Int) : (ns.map PyData.int).findIdx? (fun z => PyData.eqv z (.int m)) = ns.findIdx? (fun z => decide (z = m)) := by
  rw [List.findIdx?_map]
  congr 1
theorem index_ints {ns : List Int} {m : Int} {j : Nat} (h : ns.findIdx? (fun z => decide (z = m)) = some j) : indexL (ns.map .int) (.int m) = .ok (.int j) := by
  unfold indexL
  rw [if_pos (by rw [shaped_ints]; rfl), findIdx_ints, h]
theorem index_mem {ns : List Int} {m : Int} (h : m ∈ ns) : ∃ j : Nat, ns.findIdx? (fun z => decide (z = m)) = some j ∧ j < ns.length ∧ ns[j]? = some m ∧ ∀ i < j, ns[i]? ≠ some m := by
  cases q : ns.findIdx? (fun z => decide (z = m)) with
  | none =>
    rw [List.findIdx?_eq_none_iff] at q
    have := q m h
    simp at this
  | some j =>
    obtain ⟨h1, h2, h3⟩ := List.findIdx?_eq_some_iff_getElem.mp q
    refine ⟨j, rfl, h1, by rw [List.getElem?_eq_getElem h1]; simpa using h2, fun i hi => ?_⟩
    rw [List.getElem?_eq_getElem (by omega)]
    have := h3 i hi
    simpa using this
theorem mth_ok {op : List PyData → PyData → R PyData} {f g : Ex} {r : En} {ds : List PyData} {b d : PyData} (h : f r = .ok (.list ds)) (h2 : g r = .ok b) (h3 : op ds b = .ok d) : cMth op f g r = .ok d := by
  unfold cMth; rw [h]; simp [h2, h3]
/-! ### checks -/
theorem check_number_ok {wf : Nat} {n a b : Int} (h1 : a ≤ n) (h2 : n ≤ b) : p_check_number wf [.int n, .int a, .int b] = .ok .none := by
  unfold p_check_number runD
  rw [if_no (c1_ok (a := .bool true) (call3_ok rfl rfl rfl (by rw [is_int_int]; simp [h1, h2])) rfl)]
theorem check_cycle_ok {wf : Nat} {as : List (Int × Int)} (hw : 60 < wf) (h : Row as) (h5 : lcmF as 1 ≤ 5000) : p_check_cycle wf [rowD as] = .ok .none := by
  unfold p_check_cycle
  have e : ¬ 5000 < lcmF as 1 := by omega
  have := seq_ok (s := sDrop (cCall 1 (p_check_row wf) (aCons (cV 0) aNil))) (drop_ok (r := startE 1 [rowD as]) (call1_ok rfl (check_row_ok h))) (if_no (a := sRaise "TooLarge") (c2_ok (g := cC (.int 5000)) (call1_ok (f1 := cV 0) rfl (find_cycle_ok hw h.2)) rfl (show gtD _ _ = .ok (.bool false) by simp [gtD, e])))
  unfold runD
  rw [this]
/-! ### windows -/
def W (as : List (Int × Int)) (t n : Int) : Int := cntI as (t + n) - cntI as t
theorem rings_before_ok {wf : Nat} {p s t : Int} (h : Al p s) (t0 : 0 ≤ t) : p_rings_before wf [alarmD p s, .int t] = .ok (.int (cntA t (p, s))) := by
  have h1 := h.p1; have h2 := h.p2; have h3 := h.s0; have h4 := h.s1
  unfold p_rings_before
  refine run_ret (ret_ok ?_)
  by_cases hc : s < t
  · simp only [cIf]
    rw [cT_ok (b := true) (c2_ok rfl rfl (by simp [gtD, hc]))]
    simp only [R.bind_ok, if_true]
    exact c2_ok (c2_ok (c2_ok (c2_ok rfl rfl rfl) rfl rfl) rfl rfl) rfl (fdiv_ok (b := p) (by omega) (by omega))
  · have e : cntA t (p, s) = 0 := Int.ediv_eq_zero_of_lt (by show 0 ≤ t - s + p - 1; omega) (by show t - s + p - 1 < p; omega)
    rw [e]
    simp only [cIf]
    rw [cT_ok (b := false) (c2_ok rfl rfl (by simp [gtD, hc]))]
    rfl
theorem sum_sub {α : Type} (f g : α → Int) (l : List α) : (l.map fun a => f a - g a).sum = (l.map f).sum - (l.map g).sum := by
  induction l with
  | nil => rfl
  | cons a l ih => simp [ih]; omega
theorem find_rings_ok {wf : Nat} {as : List (Int × Int)} {t n : Int} (h : Row as) (t0 : 0 ≤ t) (n0 : 0 ≤ n) : p_find_rings wf [rowD as, .int t, .int n] = .ok (.int (W as t n)) := by
  unfold p_find_rings
  refine run_ret (ret_ok (c1_ok (cL_ok (comp_map (mk := alD) (is := as) rfl (len_SZ h.1) (fun a => [some (.dat (rowD as)), some (.dat (.int t)), some (.dat (.int n)), some (.dat (alD a))]) (fun a => .int (cntA (t + n) a - cntA t a)) (fun a ha => ⟨rfl, ?_⟩))) ?_))
  · exact c2_ok (call2_ok rfl (c2_ok rfl rfl rfl) (rings_before_ok (h.2 a ha) (by omega))) (call2_ok rfl rfl (rings_before_ok (h.2 a ha) t0)) rfl
  · have e : (as.map fun a => PyData.int (cntA (t + n) a - cntA t a)) = (as.map fun a => cntA (t + n) a - cntA t a).map .int := by simp [List.map_map, Function.comp_def]
    rw [e, sumD_ints, sum_sub]
    rfl
theorem rings_in_ok {wf : Nat} {as : List (Int × Int)} {t n : Int} (h : Row as) (t0 : 0 ≤ t) (n0 : 1 ≤ n) (n1 : n ≤ 1000) : p_rings_in wf [rowD as, .int t, .int n] = .ok (.int (W as t n)) := by
  unfold p_rings_in
  exact run_ret (seq_ok (drop_ok (call1_ok rfl (check_row_ok h))) (seq_ok (drop_ok (call1_ok rfl (check_time_ok t0))) (seq_ok (drop_ok (call3_ok rfl rfl rfl (check_number_ok n0 n1))) (ret_ok (call3_ok rfl rfl rfl (find_rings_ok h t0 (by omega)))))))
def winI (as : List (Int × Int)) (n : Int) : List Int := (rangeI 0 (lcmF as 1)).map fun t => W as t n
theorem all_windows_ok {wf : Nat} {as : List (Int × Int)} {n : Int} (hw : 60 < wf) (h : Row as) (n0 : 1 ≤ n) (n1 : n ≤ 1000) (h5 : lcmF as 1 ≤ 5000) : p_all_windows wf [rowD as, .int n] = .ok (intsD (winI as n)) := by
  have hL := lcmF_pos as 1 (by omega) h.pos
  unfold p_all_windows
  refine run_ret (seq_ok (drop_ok (call1_ok rfl (check_row_ok h))) (seq_ok (drop_ok (call3_ok rfl rfl rfl (check_number_ok n0 n1))) (seq_ok (drop_ok (call1_ok rfl (check_cycle_ok hw h h5))) (ret_ok (d := intsD (winI as n)) ?_))))
  have hc := comp_map (vs := [2]) (src := iRng1 (cCall 1 (p_find_cycle wf) (aCons (cV 0) aNil))) (g := gN 2) (e := cCall 3 (p_find_rings wf) (aCons (cV 0) (aCons (cV 2) (aCons (cV 1) aNil)))) (r := startE 3 [rowD as, .int n]) (mk := .int) (is := rangeI 0 (lcmF as 1)) (rng1_ok (call1_ok rfl (find_cycle_ok hw h.2)) (by omega) (by omega)) (le_SZ (by rw [rangeI_length]; omega)) (fun t => [some (.dat (rowD as)), some (.dat (.int n)), some (.dat (.int t))]) (fun t => .int (W as t n)) (fun t ht => by
    rw [mem_rangeI] at ht
    exact ⟨rfl, call3_ok rfl rfl rfl (find_rings_ok h ht.1 (by omega))⟩)
  rw [cL_ok hc]
  simp [winI, List.map_map, Function.comp_def]
theorem winI_ne {as : List (Int × Int)} (hp : Pos as) (n : Int) : winI as n ≠ [] := by
  have hL := lcmF_pos as 1 (by omega) hp
  have : W as 0 n ∈ winI as n := List.mem_map.mpr ⟨0, mem_rangeI.mpr ⟨by omega, hL⟩, rfl⟩
  exact List.ne_nil_of_mem this
theorem most_ok {wf : Nat} {as : List (Int × Int)} {n m : Int} (hw : 60 < wf) (h : Row as) (n0 : 1 ≤ n) (n1 : n ≤ 1000) (h5 : lcmF as 1 ≤ 5000) (hm : maxI (winI as n) = some m) : p_most_rings wf [rowD as, .int n] = .ok (.int m) := by
  unfold p_most_rings
  exact run_ret (ret_ok (c1_ok (call2_ok rfl rfl (all_windows_ok hw h n0 n1 h5)) (maxD_ints hm)))
theorem least_rings_ok {wf : Nat} {as : List (Int × Int)} {n m : Int} (hw : 60 < wf) (h : Row as) (n0 : 1 ≤ n) (n1 : n ≤ 1000) (h5 : lcmF as 1 ≤ 5000) (hm : minI (winI as n) = some m) : p_least_rings wf [rowD as, .int n] = .ok (.int m) := by
  unfold p_least_rings
  exact run_ret (ret_ok (c1_ok (call2_ok rfl rfl (all_windows_ok hw h n0 n1 h5)) (minD_ints hm)))
theorem busiest_ok {wf : Nat} {as : List (Int × Int)} {n m : Int} {j : Nat} (hw : 60 < wf) (h : Row as) (n0 : 1 ≤ n) (n1 : n ≤ 1000) (h5 : lcmF as 1 ≤ 5000) (hm : maxI (winI as n) = some m) (hj : (winI as n).findIdx? (fun z => decide (z = m)) = some j) : p_busiest wf [rowD as, .int n] = .ok (.int j) := by
  unfold p_busiest
  exact run_ret (seq_ok (set_ok (call2_ok rfl rfl (all_windows_ok hw h n0 n1 h5)) (by simp [startE])) (ret_ok (mth_ok rfl (c1_ok rfl (maxD_ints hm)) (index_ints hj))))
/-! ### counting again -/
theorem cntA_add {p s n L : Int} (hp : 0 < p) (h : p ∣ L) : cntA (n + L) (p, s) = cntA n (p, s) + L / p := by
  obtain ⟨k, rfl⟩ := h
  unfold cntA
  show (n + p * k - s + p - 1) / p = (n - s + p - 1) / p + p * k / p
  rw [Int.mul_ediv_cancel_left _ (by omega), show n + p * k - s + p - 1 = n - s + p - 1 + p * k by omega, Int.add_mul_ediv_left _ _ (by omega)]
def perI (as : List (Int × Int)) (L : Int) : Int := (as.map fun a => L / a.1).sum
theorem cntI_add : ∀ {as : List (Int × Int)} {L : Int}, Pos as → (∀ a ∈ as, a.1 ∣ L) → ∀ n, cntI as (n + L) = cntI as n + perI as L
  | [], L, _, _, n => rfl
  | a :: as, L, hp, hd, n => by
    have ih := cntI_add (as := as) (L := L) (fun b hb => hp b (List.mem_cons_of_mem _ hb)) (fun b hb => hd b (List.mem_cons_of_mem _ hb)) n
    have := cntA_add (p := a.1) (s := a.2) (n := n) (hp a (by simp)) (hd a (by simp))
    unfold cntI perI at *
    simp only [List.map_cons, List.sum_cons]
    have e : cntA (n + L) a = cntA n a + L / a.1 := this
    omega
theorem cntI_L {as : List (Int × Int)} (h : AlA as) {L : Int} (hd : ∀ a ∈ as, a.1 ∣ L) : cntI as L = perI as L := by
  have := cntI_add h.pos hd 0
  rw [cntI_zero h] at this
  simpa using this
theorem cntI_mono {as : List (Int × Int)} (h : AlA as) {a b : Int} (hab : a ≤ b) : cntI as a ≤ cntI as b := by
  obtain ⟨n, hn⟩ := Int.eq_ofNat_of_zero_le (a := b - a) (by omega)
  have : b = a + n := by omega
  subst this
  clear hn hab
  induction n with
  | zero => simp
  | succ n ih =>
    have := cntI_step h (a + n) 0
    have e : a + ((n + 1 : Nat) : Int) = a + n + 1 := by omega
    rw [e]
    omega
theorem cntI_app (as bs : List (Int × Int)) (n : Int) : cntI (as ++ bs) n = cntI as n + cntI bs n := by
  simp [cntI]
theorem cntI_none {as : List (Int × Int)} (h : AlA as) {t : Int} (n : Nat) : cntI as (t + n) = cntI as t ↔ ∀ u, t ≤ u → u < t + n → heardF u 0 as = [] := by
  induction n with
  | zero => simp; intro u; omega
  | succ n ih =>
    have s := cntI_step h (t + n) 0
    have m := cntI_mono h (a := t) (b := t + n) (by omega)
    have e : t + ((n + 1 : Nat) : Int) = t + n + 1 := by omega
    rw [e]
    constructor
    · intro q u u0 u1
      rcases Int.lt_or_le u (t + n) with c | c
      · exact ih.mp (by omega) u u0 c
      · have : u = t + n := by omega
        subst this
        exact List.eq_nil_of_length_eq_zero (by omega)
    · intro q
      have a := ih.mpr fun u u0 u1 => q u u0 (by omega)
      have b := q (t + n) (by omega) (by omega)
      rw [b] at s
      simp at s
      omega
/-- the cycle divides -/
theorem lcm_dvd_all (as : List (Int × Int)) : ∀ a ∈ as, a.1 ∣ lcmF as 1 := (dvd_lcmF as 1).2
theorem W_per {as : List (Int × Int)} (hp : Pos as) (t n : Int) : W as (t + lcmF as 1) n = W as t n := by
  have h1 := cntI_add hp (lcm_dvd_all as) t
  have h2 := cntI_add hp (lcm_dvd_all as) (t + n)
  unfold W
  rw [show t + lcmF as 1 + n = t + n + lcmF as 1 by omega]
  omega
theorem W_perN {as : List (Int × Int)} (hp : Pos as) (t n : Int) (k : Nat) : W as (t + lcmF as 1 * k) n = W as t n := by
  induction k with
  | zero => simp
  | succ k ih =>
    have e : t + lcmF as 1 * ((k + 1 : Nat) : Int) = t + lcmF as 1 * k + lcmF as 1 := by
      rw [Int.natCast_add, Int.mul_add]; omega
    rw [e, W_per hp, ih]
theorem W_mod {as : List (Int × Int)} (hp : Pos as) {t : Int} (t0 : 0 ≤ t) (n : Int) : W as t n = W as (t % lcmF as 1) n := by
  have hL := lcmF_pos as 1 (by omega) hp
  have e := Int.mul_ediv_add_emod t (lcmF as 1)
  obtain ⟨k, hk⟩ := Int.eq_ofNat_of_zero_le (Int.ediv_nonneg t0 (Int.le_of_lt hL))
  rw [hk] at e
  have := W_perN hp (t % lcmF as 1) n k
  rw [← this]
  congr 1
  omega
theorem W_win {as : List (Int × Int)} (hp : Pos as) {t : Int} (t0 : 0 ≤ t) (n : Int) : W as t n ∈ winI as n := by
  have hL := lcmF_pos as 1 (by omega) hp
  rw [W_mod hp t0]
  exact List.mem_map.mpr ⟨_, mem_rangeI.mpr ⟨Int.emod_nonneg _ (by omega), Int.emod_lt_of_pos _ hL⟩, rfl⟩
/-! ### the times of all rings -/
def timesF (as : List (Int × Int)) : Nat → List Int
  | 0 => []
  | n + 1 => timesF as n ++ List.replicate (heardF (n : Int) 0 as).length (n : Int)
theorem timesF_len {as : List (Int × Int)} (h : AlA as) : ∀ n : Nat, ((timesF as n).length : Int) = cntI as n
  | 0 => by rw [show ((0 : Nat) : Int) = 0 from rfl, cntI_zero h]; rfl
  | n + 1 => by
    have := cntI_step h n 0
    have ih := timesF_len h n
    have e : ((n + 1 : Nat) : Int) = (n : Int) + 1 := by omega
    rw [e, this, timesF]
    simp
    omega
theorem timesF_bd {as : List (Int × Int)} : ∀ (n : Nat) (x : Int), x ∈ timesF as n → 0 ≤ x ∧ x < n
  | 0, x, h => by simp [timesF] at h
  | n + 1, x, h => by
    rw [timesF, List.mem_append] at h
    rcases h with h | h
    · have := timesF_bd n x h; omega
    · have := List.eq_of_mem_replicate h; omega
/-- of the times those below x are the first ones -/
theorem timesF_lt {as : List (Int × Int)} (h : AlA as) {n k : Nat} {t x : Int} (hk : (timesF as n)[k]? = some t) (x0 : 0 ≤ x) (x1 : x ≤ n) : t < x ↔ (k : Int) < cntI as x := by
  obtain ⟨m, rfl⟩ := Int.eq_ofNat_of_zero_le x0
  have hm : m ≤ n := by omega
  clear x0 x1
  induction n with
  | zero => simp [timesF] at hk
  | succ n ih =>
    rw [timesF] at hk
    have hl := timesF_len h n
    rcases Nat.lt_or_ge k (timesF as n).length with c | c
    · rw [List.getElem?_append_left c] at hk
      rcases Nat.lt_or_ge n m with d | d
      · have : m = n + 1 := by omega
        subst this
        have := timesF_bd n t (List.mem_of_getElem? hk)
        have s := cntI_step h n 0
        have e : ((n + 1 : Nat) : Int) = (n : Int) + 1 := by omega
        rw [e]
        constructor <;> intro _ <;> omega
      · exact ih hk d
    · rw [List.getElem?_append_right c] at hk
      have e2 := List.eq_of_mem_replicate (List.mem_of_getElem? hk)
      have hk2 : k - (timesF as n).length < (heardF (n : Int) 0 as).length := by
        rcases Nat.lt_or_ge (k - (timesF as n).length) (heardF (n : Int) 0 as).length with q | q
        · exact q
        · rw [List.getElem?_eq_none (by simpa using q)] at hk; cases hk
      subst e2
      have s := cntI_step h n 0
      rcases Nat.lt_or_ge n m with d | d
      · have : m = n + 1 := by omega
        subst this
        have e : ((n + 1 : Nat) : Int) = (n : Int) + 1 := by omega
        rw [e]
        constructor <;> intro _ <;> omega
      · have := cntI_mono h (a := m) (b := n) (by omega)
        constructor <;> intro _ <;> omega
/-- the times of all rings, cycle after cycle -/
def tauF (as : List (Int × Int)) (k : Nat) : Int := (timesF as (lcmF as 1).toNat).getD (k % (timesF as (lcmF as 1).toNat).length) 0 + ((k / (timesF as (lcmF as 1).toNat).length : Nat) : Int) * lcmF as 1
theorem per_pos {as : List (Int × Int)} (h : AlA as) (hn : as ≠ []) : 0 < cntI as (lcmF as 1) := by
  have hL := lcmF_pos as 1 (by omega) h.pos
  rw [cntI_L h (lcm_dvd_all as)]
  have key : ∀ (bs : List (Int × Int)), (∀ b ∈ bs, 0 < b.1 ∧ b.1 ∣ lcmF as 1) → 0 ≤ perI bs (lcmF as 1) ∧ (bs ≠ [] → 0 < perI bs (lcmF as 1)) := by
    intro bs
    induction bs with
    | nil => intro _; simp [perI]
    | cons b bs ih =>
      intro q
      have i := ih fun c hc => q c (List.mem_cons_of_mem _ hc)
      obtain ⟨q1, q2⟩ := q b (by simp)
      have : 0 < lcmF as 1 / b.1 := Int.ediv_pos_of_pos_of_dvd hL (by omega) q2
      unfold perI at *
      simp only [List.map_cons, List.sum_cons]
      exact ⟨by omega, fun _ => by omega⟩
  exact (key as fun b hb => ⟨h.pos b hb, lcm_dvd_all as b hb⟩).2 hn
theorem cntI_mul {as : List (Int × Int)} (h : AlA as) (t : Int) (k : Nat) : cntI as (t + k * lcmF as 1) = cntI as t + k * cntI as (lcmF as 1) := by
  induction k with
  | zero => simp
  | succ k ih =>
    have := cntI_add h.pos (lcm_dvd_all as) (t + k * lcmF as 1)
    have e : t + ((k + 1 : Nat) : Int) * lcmF as 1 = t + k * lcmF as 1 + lcmF as 1 := by
      rw [Int.natCast_add, Int.add_mul]; omega
    rw [e, this, ih, ← cntI_L h (lcm_dvd_all as), Int.natCast_add, Int.add_mul]
    omega
theorem cntI_nonneg {as : List (Int × Int)} (h : AlA as) {t : Int} (t0 : 0 ≤ t) : 0 ≤ cntI as t := by
  have := cntI_mono h t0
  rw [cntI_zero h] at this
  exact this
theorem tau_lt {as : List (Int × Int)} (h : AlA as) (hn : as ≠ []) (k : Nat) {x : Int} (x0 : 0 ≤ x) : tauF as k < x ↔ (k : Int) < cntI as x := by
  have hL := lcmF_pos as 1 (by omega) h.pos
  have hc := per_pos h hn
  have hl := timesF_len h (lcmF as 1).toNat
  rw [Int.toNat_of_nonneg (Int.le_of_lt hL)] at hl
  unfold tauF
  generalize hM : (timesF as (lcmF as 1).toNat).length = M at *
  have hM0 : 0 < M := by omega
  have hb : k % M < (timesF as (lcmF as 1).toNat).length := by rw [hM]; exact Nat.mod_lt _ hM0
  have hg : (timesF as (lcmF as 1).toNat)[k % M]? = some ((timesF as (lcmF as 1).toNat).getD (k % M) 0) := by
    rw [List.getElem?_eq_getElem hb]; simp [List.getD, hb]
  have hbd := timesF_bd _ _ (List.mem_of_getElem? hg)
  have key := fun (y : Int) (y0 : 0 ≤ y) (y1 : y ≤ ((lcmF as 1).toNat : Int)) => timesF_lt h hg y0 y1
  generalize (timesF as (lcmF as 1).toNat).getD (k % M) 0 = t at *
  have hk := Nat.div_add_mod k M
  have hr := Nat.mod_lt k hM0
  generalize k / M = a at *
  generalize k % M = b at *
  have hx := Int.mul_ediv_add_emod x (lcmF as 1)
  have r0 := Int.emod_nonneg x (b := lcmF as 1) (by omega)
  have r1 := Int.emod_lt_of_pos x hL
  obtain ⟨q, hq⟩ := Int.eq_ofNat_of_zero_le (Int.ediv_nonneg x0 (Int.le_of_lt hL))
  rw [hq] at hx
  have kx := key (x % lcmF as 1) r0 (by omega)
  generalize x % lcmF as 1 = y at *
  have hxy : x = y + q * lcmF as 1 := by rw [Int.mul_comm]; omega
  have cm := cntI_mul h y q
  rw [← hxy] at cm
  have cy0 := cntI_nonneg h r0
  have cy1 := cntI_mono h (a := y) (b := lcmF as 1) (by omega)
  rw [Int.toNat_of_nonneg (Int.le_of_lt hL)] at hbd
  rw [cm, hxy]
  have hk' : (k : Int) = (M : Int) * a + b := by rw [← hk]; simp
  rw [← hl] at cm cy1 ⊢
  generalize lcmF as 1 = L at *
  generalize cntI as y = cy at *
  rcases Nat.lt_trichotomy a q with c | c | c
  · have e1 : (a : Int) * L + L ≤ q * L := by
      have : ((a : Int) + 1) * L ≤ q * L := Int.mul_le_mul_of_nonneg_right (by omega) (by omega)
      rw [Int.add_mul] at this; omega
    have e2 : (M : Int) * a + M ≤ q * M := by
      have : ((a : Int) + 1) * M ≤ q * M := Int.mul_le_mul_of_nonneg_right (by omega) (by omega)
      rw [Int.add_mul, Int.mul_comm (a : Int)] at this; omega
    constructor <;> intro _ <;> omega
  · subst c
    have e2 : (M : Int) * a = a * M := Int.mul_comm _ _
    constructor
    · intro z
      have := kx.mp (by omega)
      omega
    · intro z
      have := kx.mpr (by omega)
      omega
  · have e1 : (q : Int) * L + L ≤ a * L := by
      have : ((q : Int) + 1) * L ≤ a * L := Int.mul_le_mul_of_nonneg_right (by omega) (by omega)
      rw [Int.add_mul] at this; omega
    have e2 : (q : Int) * M + M ≤ M * a := by
      have : ((q : Int) + 1) * M ≤ a * M := Int.mul_le_mul_of_nonneg_right (by omega) (by omega)
      rw [Int.add_mul, Int.mul_comm (a : Int)] at this; omega
    constructor <;> intro _ <;> omega
theorem tau_nonneg {as : List (Int × Int)} (h : AlA as) (hn : as ≠ []) (k : Nat) : 0 ≤ tauF as k := by
  have := tau_lt h hn k (x := 0) (by omega)
  rw [cntI_zero h] at this
  rcases Int.lt_or_le (tauF as k) 0 with c | c
  · have := this.mp c; omega
  · exact c
theorem tau_per {as : List (Int × Int)} (h : AlA as) (hn : as ≠ []) (k q : Nat) : tauF as (k + q * (timesF as (lcmF as 1).toNat).length) = tauF as k + q * lcmF as 1 := by
  have hL := lcmF_pos as 1 (by omega) h.pos
  have hc := per_pos h hn
  have hl := timesF_len h (lcmF as 1).toNat
  rw [Int.toNat_of_nonneg (Int.le_of_lt hL)] at hl
  unfold tauF
  generalize hM : (timesF as (lcmF as 1).toNat).length = M at *
  have hM0 : 0 < M := by omega
  rw [Nat.add_mul_mod_self_right, Nat.add_mul_div_right _ _ hM0, Int.natCast_add, Int.add_mul]
  omega
end Rq
/-! Rt, part X: the length for a number of rings. -/
namespace Rq
open PySem Rt Pg
theorem for_pre {α : Type} {g : Tg} {b : Ss} {mk : α → PyData} {I : List α → En → Prop} {is : List α} (h : ∀ pre x post, is = pre ++ x :: post → ∀ r, I pre r → ∃ r1 r2, g (mk x) r = .ok r1 ∧ b r1 = .ok .nx r2 ∧ I (pre ++ [x]) r2) {r : En} (hI : I [] r) : ∃ r2, forGo g b (is.map mk) r = .ok .nx r2 ∧ I is r2 := by
  have key : ∀ (post pre : List α) (r : En), is = pre ++ post → I pre r → ∃ r2, forGo g b (post.map mk) r = .ok .nx r2 ∧ I is r2 := by
    intro post
    induction post with
    | nil => intro pre r e q; rw [List.append_nil] at e; subst e; exact ⟨r, rfl, q⟩
    | cons x post ih =>
      intro pre r e q
      obtain ⟨r1, r2, e1, e2, q2⟩ := h pre x post e r q
      obtain ⟨r3, e3, q3⟩ := ih (pre ++ [x]) r2 (by rw [e]; simp) q2
      refine ⟨r3, ?_, q3⟩
      rw [List.map_cons, forGo, e1]
      simp only [e2]
      exact e3
  exact key is [] r rfl hI
theorem for_idx {g : Tg} {b : Ss} {I : Nat → En → Prop} (N : Nat) (h : ∀ n < N, ∀ r, I n r → ∃ r1 r2, g (.int n) r = .ok r1 ∧ b r1 = .ok .nx r2 ∧ I (n + 1) r2) {r : En} (hI : I 0 r) : ∃ r2, forGo g b ((rangeI 0 N).map .int) r = .ok .nx r2 ∧ I N r2 := by
  have e : rangeI 0 N = (List.range N).map fun k : Nat => (k : Int) := by simp [rangeI]
  have := for_pre (g := g) (b := b) (mk := fun k : Nat => .int (k : Int)) (I := fun l r => I l.length r) (is := List.range N) (fun pre x post e r q => by
    have hx : x = pre.length := by
      have := congrArg (fun l => l[pre.length]?) e
      simp at this
      have hl : pre.length < N := by
        have := congrArg List.length e
        simp at this; omega
      simpa [hl] using this.symm
    have hl : x < N := by
      have := congrArg List.length e
      simp at this; omega
    obtain ⟨r1, r2, h1, h2, h3⟩ := h x hl r (by rw [hx]; exact q)
    exact ⟨r1, r2, h1, h2, by rw [List.length_append]; simpa [hx] using h3⟩) (r := r) hI
  obtain ⟨r2, h1, h2⟩ := this
  refine ⟨r2, ?_, by simpa using h2⟩
  rw [e, List.map_map]
  exact h1
theorem flat_rep {α : Type} (x : α) (n : Nat) : (List.replicate n [x]).flatten = List.replicate n x := by
  induction n with
  | zero => rfl
  | succ n ih => simp [List.replicate_succ, ih]
theorem rep_ok {k : Int} {d : PyData} (k0 : 0 ≤ k) (k1 : k ≤ 1000) : mulD (.list [d]) (.int k) = .ok (.list (List.replicate k.toNat d)) := by
  simp [mulD, k0, k1, flat_rep]
theorem timesF_le {as : List (Int × Int)} (h : Row as) (n : Nat) : (timesF as n).length ≤ 6 * n := by
  induction n with
  | zero => simp [timesF]
  | succ n ih =>
    have := heardF_len (n : Int) 0 as
    have := h.1
    rw [timesF]
    simp
    omega
theorem ext_ok {i : Nat} {f : Ex} {r : En} {ds es : List PyData} (h : r[i]? = some (some (.own ds))) (h2 : f r = .ok (.list es)) (h3 : ds.length + es.length ≤ SZ) : sExt i f r = .ok .nx (r.set i (some (.own (ds ++ es)))) := by
  unfold sExt; rw [h, h2]; simp [Rt.lift, h3]
theorem app_ok {i : Nat} {f : Ex} {r : En} {ds : List PyData} {d : PyData} (h : r[i]? = some (some (.own ds))) (h2 : f r = .ok d) (h3 : ds.length < SZ) : sApp i f r = .ok .nx (r.set i (some (.own (ds ++ [d])))) := by
  unfold sApp; rw [h, h2]; simp [Rt.lift, h3]
theorem len_times1 {wf : Nat} {as : List (Int × Int)} {c L : Int} (h : Row as) (L0 : 0 ≤ L) (L5 : L ≤ 5000) {x4 x5 x6 x7 x8 : Option Sl} : ∃ y4, forGo (gN 4) (p_length_for_b1 wf) ((rangeI 0 L).map .int) [some (.dat (rowD as)), some (.dat (.int c)), some (.dat (.int L)), some (.own []), x4, x5, x6, x7, x8] = .ok .nx [some (.dat (rowD as)), some (.dat (.int c)), some (.dat (.int L)), some (.own ((timesF as L.toNat).map .int)), y4, x5, x6, x7, x8] := by
  obtain ⟨N, rfl⟩ := Int.eq_ofNat_of_zero_le L0
  obtain ⟨r2, e, y, rfl⟩ := for_idx (g := gN 4) (b := p_length_for_b1 wf) (I := fun n r => ∃ y, r = [some (.dat (rowD as)), some (.dat (.int c)), some (.dat (.int N)), some (.own ((timesF as n).map .int)), y, x5, x6, x7, x8]) N (fun n hn r q => by
    obtain ⟨y, rfl⟩ := q
    have hl := heardF_len (n : Int) 0 as
    have h6 := h.1
    have ht := timesF_le h n
    refine ⟨_, _, rfl, ext_ok (ds := (timesF as n).map .int) (es := List.replicate (heardF (n : Int) 0 as).length (.int n)) rfl ?_ (le_SZ (by simp; omega)), some (.dat (.int n)), ?_⟩
    · refine c2_ok (a := .list [.int n]) (b := .int (heardF (n : Int) 0 as).length) rfl (c1_ok (call2_ok rfl rfl (find_ringing_ok h)) (by simp [lenD])) ?_
      rw [rep_ok (by omega) (by omega)]
      simp
    · simp [timesF]) ⟨x4, rfl⟩
  exact ⟨y, e⟩
theorem ix_own {i : Nat} {g : Ex} {r : En} {ns : List Int} {k : Nat} (h : r[i]? = some (some (.dat (.list (ns.map .int))))) (h2 : g r = .ok (.int k)) (hk : k < ns.length) : cIxV i g r = .ok (.int (ns.getD k 0)) := by
  unfold cIxV
  rw [h]
  have h0 : ¬ ((k : Int) < 0) := by omega
  simp [h2, idxD, itemAt, L2.atI, L2.ixN, h0, hk, List.getD]
theorem enumI_len {α : Type} : ∀ (as : List α) (k : Int), (enumI k as).length = as.length
  | [], _ => rfl
  | a :: as, k => by simp [enumI, enumI_len as]
theorem length_for_ok {wf : Nat} {as : List (Int × Int)} {c : Int} (hw : 60 < wf) (h : Row as) (hn : as ≠ []) (c0 : 1 ≤ c) (c1 : c ≤ 20) (h5 : lcmF as 1 ≤ 5000) :
    ∃ D, p_length_for wf [rowD as, .int c] = .ok (.int D) ∧ 1 ≤ D ∧ D ≤ c * lcmF as 1 ∧ (∀ u, 0 ≤ u → c ≤ W as u D) ∧ (∀ n, n < D → ∃ u, 0 ≤ u ∧ W as u n < c) := by
  have hA : AlA as := h.2
  have hL := lcmF_pos as 1 (by omega) h.pos
  have hc := per_pos hA hn
  have hl := timesF_len hA (lcmF as 1).toNat
  rw [Int.toNat_of_nonneg (Int.le_of_lt hL)] at hl
  have hle := timesF_le h (lcmF as 1).toNat
  have tl := @tau_lt as hA hn
  have tper := tau_per hA hn
  obtain ⟨C, hC⟩ := Int.eq_ofNat_of_zero_le (a := c) (by omega)
  obtain ⟨y4, e1⟩ := len_times1 (wf := wf) (c := c) (L := lcmF as 1) h (by omega) h5 (x4 := none) (x5 := none) (x6 := none) (x7 := none) (x8 := none)
  generalize hT : timesF as (lcmF as 1).toNat = T at *
  have hM0 : 0 < T.length := by omega
  have htau : ∀ k : Nat, tauF as k = T.getD (k % T.length) 0 + ((k / T.length : Nat) : Int) * lcmF as 1 := fun k => by unfold tauF; rw [hT]
  -- the second loop
  have hloop := for_pre (g := gT (gCons (gN 7) (gCons (gN 4) gNil))) (b := p_length_for_b2 wf) (mk := fun p : Int × Int => .tuple [.int p.1, .int p.2]) (is := enumI 0 T)
    (I := fun l r => ∃ y4 y7 y8, r = [some (.dat (rowD as)), some (.dat (.int c)), some (.dat (.int (lcmF as 1))), some (.dat (.list (T.map .int))), y4, some (.dat (.int T.length)), some (.own (l.map fun p => .int (tauF as (p.1.toNat + C) - p.2))), y7, y8])
    (r := [some (.dat (rowD as)), some (.dat (.int c)), some (.dat (.int (lcmF as 1))), some (.dat (.list (T.map .int))), y4, some (.dat (.int T.length)), some (.own []), none, none])
    (fun pre x post e r q => by
      obtain ⟨y4, y7, y8, rfl⟩ := q
      have hx : x ∈ enumI 0 T := by rw [e]; simp
      obtain ⟨j, j1, j2⟩ := mem_enumI.mp hx
      have hj : j < T.length := by
        rcases Nat.lt_or_ge j T.length with q | q
        · exact q
        · rw [List.getElem?_eq_none q] at j1; cases j1
      have hpre : pre.length < SZ := by
        have := congrArg List.length e
        rw [enumI_len] at this
        simp at this
        exact Nat.lt_of_lt_of_le (by omega) (le_SZ (n := T.length) (by omega))
      have hx1 : x.1 + c = ((j + C : Nat) : Int) := by omega
      have e3 : x.1.toNat + C = j + C := by omega
      have hm := Nat.mod_lt (j + C) hM0
      refine ⟨_, _, rfl, seq_ok (set_ok (d := .int ((j + C : Nat) : Int)) (c2_ok rfl rfl (by rw [← hx1]; rfl)) (by simp)) (app_ok (ds := pre.map fun p => .int (tauF as (p.1.toNat + C) - p.2)) (d := .int (tauF as (j + C) - x.2)) rfl (c2_ok (c2_ok (ix_own (k := (j + C) % T.length) rfl (c2_ok rfl rfl ?_) hm) (c2_ok (c2_ok rfl rfl (fdiv_ok (by omega) (by omega))) rfl (mul_small (.inr (inB_small (by omega) (by omega))))) rfl) rfl ?_) (by simpa using hpre)), some (.dat (.int x.2)), some (.dat (.int x.1)), some (.dat (.int ((j + C : Nat) : Int))), ?_⟩
      · rw [modD_ok (by omega)]; simp
      · show R.ok (PyData.int _) = _
        rw [htau]
        simp
      · simp [e3]) ⟨y4, none, none, rfl⟩
  obtain ⟨r2, e2, y4', y7', y8', rfl⟩ := hloop
  have hne : ((enumI 0 T).map fun p : Int × Int => tauF as (p.1.toNat + C) - p.2) ≠ [] := by
    intro z
    have := congrArg List.length z
    rw [List.length_map, enumI_len, List.length_nil] at this
    omega
  obtain ⟨D, eD, D1, D2⟩ := maxI_some hne
  have hdiff : ∀ k : Nat, tauF as (k + C) - tauF as k ≤ D := by
    intro k
    have hm := Nat.mod_lt k hM0
    have hd := Nat.div_add_mod k T.length
    have a1 := tper (k % T.length) (k / T.length)
    have a2 := tper (k % T.length + C) (k / T.length)
    have hk : k % T.length + k / T.length * T.length = k := by rw [Nat.mul_comm]; omega
    have hk2 : k % T.length + C + k / T.length * T.length = k + C := by omega
    rw [hk] at a1
    rw [hk2] at a2
    have a3 : tauF as (k % T.length) = T[k % T.length] := by
      rw [htau, Nat.mod_mod, Nat.div_eq_of_lt hm]; simp [List.getD, hm]
    have := D2 (tauF as (k % T.length + C) - T[k % T.length]) (List.mem_map.mpr ⟨((k % T.length : Nat), T[k % T.length]), mem_enumI.mpr ⟨k % T.length, by simp [hm], by simp⟩, by simp only [Int.toNat_natCast]⟩)
    omega
  obtain ⟨p, hp, pe⟩ := List.mem_map.mp D1
  obtain ⟨j, j1, j2⟩ := mem_enumI.mp hp
  have hj : j < T.length := by
    rcases Nat.lt_or_ge j T.length with q | q
    · exact q
    · rw [List.getElem?_eq_none q] at j1; cases j1
  have hDj : D = tauF as (j + C) - tauF as j := by
    have a3 : tauF as j = p.2 := by
      rw [htau, Nat.mod_eq_of_lt hj, Nat.div_eq_of_lt hj]
      simp [List.getD, j1]
    have : p.1.toNat + C = j + C := by omega
    rw [this] at pe
    omega
  -- (a)
  have hD0 : 0 ≤ D := by
    have t0 := tau_nonneg hA hn (j + C)
    have : ¬ tauF as (j + C) < tauF as j := by
      intro z
      have a := (tl (j + C) (tau_nonneg hA hn j)).mp z
      have b : ¬ ((j : Int) < cntI as (tauF as j)) := fun w => by have := (tl j (tau_nonneg hA hn j)).mpr w; omega
      omega
    omega
  have hge : ∀ u, 0 ≤ u → 1 ≤ cntI as u → c ≤ W as u D := by
    intro u u0 cu
    obtain ⟨k, hk⟩ := Int.eq_ofNat_of_zero_le (a := cntI as u - 1) (by omega)
    have a := (tl k u0).mpr (by omega)
    have b := hdiff k
    have d := (tl (k + C) (x := u + D) (by omega)).mp (by omega)
    unfold W
    omega
  have hall : ∀ u, 0 ≤ u → c ≤ W as u D := by
    intro u u0
    rw [← W_per h.pos]
    refine hge _ (by omega) ?_
    have := cntI_mono hA (a := lcmF as 1) (b := u + lcmF as 1) (by omega)
    omega
  have hmin : ∀ n, n < D → ∃ u, 0 ≤ u ∧ W as u n < c := by
    intro n hnD
    have t0 := tau_nonneg hA hn j
    refine ⟨tauF as j + 1, by omega, ?_⟩
    have a := (tl j (x := tauF as j + 1) (by omega)).mp (by omega)
    have b : ¬ (((j + C : Nat) : Int) < cntI as (tauF as j + D)) := fun w => by
      have := (tl (j + C) (x := tauF as j + D) (by omega)).mpr w
      omega
    have m := cntI_mono hA (a := tauF as j + 1 + n) (b := tauF as j + D) (by omega)
    unfold W
    omega
  have hD1 : 1 ≤ D := by
    rcases Int.lt_or_le D 1 with q | q
    · have := hall 0 (by omega)
      have e : D = 0 := by omega
      subst e
      unfold W at this
      simp at this
      omega
    · exact q
  refine ⟨D, ?_, hD1, ?_, hall, hmin⟩
  · have hb : cOr (c2 eqD (cV 1) (cC (.int 0))) (c2 eqD (cV 0) (cTup aNil)) (startE 9 [rowD as, .int c]) = .ok (.bool false) := by
      refine or_no (c2_ok rfl rfl (by rw [eqD_dec]; simp; omega)) (c2_ok rfl rfl (d := .bool false) ?_)
      cases as with
      | nil => exact absurd rfl hn
      | cons a as =>
        have hs : SeqAt.shaped (rowD (a :: as)) = true := by
          have key : ∀ bs : List (Int × Int), PyData.canLayAll0 (bs.map alD) = true ∧ PyData.depthAll (bs.map alD) ≤ 1 := by
            intro bs
            induction bs with
            | nil => simp [PyData.canLayAll0, PyData.depthAll]
            | cons b bs ih =>
              refine ⟨?_, ?_⟩
              · simp [PyData.canLayAll0, PyData.canLay0, ih.1]
              · have := ih.2
                simp [PyData.depthAll, PyData.depth]
                omega
          have k1 := key (a :: as)
          have k2 := k1.2
          simp only [SeqAt.shaped, PyData.canLay0, PyData.depth, rowD, k1.1]
          simp
          first | omega | (simp at k2; omega) | skip
        have hs2 : SeqAt.shaped (.tuple []) = true := rfl
        unfold eqD
        rw [hs, hs2]
        simp [PyData.eqv, PyData.eqvAll, rowD]
    unfold p_length_for
    refine run_ret (r := [some (.dat (rowD as)), some (.dat (.int c)), some (.dat (.int (lcmF as 1))), some (.dat (.list (T.map .int))), y4', some (.dat (.int T.length)), some (.dat (.list ((enumI 0 T).map fun p => .int (tauF as (p.1.toNat + C) - p.2)))), y7', y8']) (seq_ok (drop_ok (call1_ok rfl (check_row_ok h))) (seq_ok (drop_ok (call3_ok rfl rfl rfl (check_number_ok (by omega) c1))) (seq_ok (drop_ok (call1_ok rfl (check_cycle_ok hw h h5))) (seq_ok (if_no hb) (seq_ok (r1 := [some (.dat (rowD as)), some (.dat (.int c)), some (.dat (.int (lcmF as 1))), some (.own []), none, none, none, none, none]) ?_ (seq_ok (r1 := [some (.dat (rowD as)), some (.dat (.int c)), some (.dat (.int (lcmF as 1))), some (.own (T.map .int)), y4, none, none, none, none]) ?_ (seq_ok (r1 := [some (.dat (rowD as)), some (.dat (.int c)), some (.dat (.int (lcmF as 1))), some (.own (T.map .int)), y4, some (.dat (.int T.length)), some (.own []), none, none]) ?_ (seq_ok (r1 := [some (.dat (rowD as)), some (.dat (.int c)), some (.dat (.int (lcmF as 1))), some (.dat (.list (T.map .int))), y4', some (.dat (.int T.length)), some (.own ((enumI 0 T).map fun p => .int (tauF as (p.1.toNat + C) - p.2))), y7', y8']) ?_ ?_))))))))
    · have e := call1_ok (g := p_find_cycle wf) (f1 := cV 0) (r := startE 9 [rowD as, .int c]) rfl (find_cycle_ok hw h.2)
      unfold sPar xD xO
      rw [e]
      rfl
    · unfold sFor
      rw [rng1_ok (n := lcmF as 1) rfl (by omega) (by omega)]
      exact e1
    · simp [sPar, xD, xO, cLenV, Rt.lift, put, cLst, aNil]
    · have e : iEnum (cV 3) [some (.dat (rowD as)), some (.dat (.int c)), some (.dat (.int (lcmF as 1))), some (.dat (.list (T.map .int))), y4, some (.dat (.int T.length)), some (.own []), none, none] = .ok ((enumI 0 T).map fun p => .tuple [.int p.1, .int p.2]) := by
        have := enum_eq PyData.int T 0
        show R.ok (enumFrom 0 (T.map .int)) = _
        rw [this]; rfl
      show sFor (iEnum (cV 3)) _ _ [some (.dat (rowD as)), some (.dat (.int c)), some (.dat (.int (lcmF as 1))), some (.dat (.list (T.map .int))), y4, some (.dat (.int T.length)), some (.own []), none, none] = _
      unfold sFor
      rw [e]
      exact e2
    · show sRet (Rt.c1 maxD (cV 6)) [some (.dat (rowD as)), some (.dat (.int c)), some (.dat (.int (lcmF as 1))), some (.dat (.list (T.map .int))), y4', some (.dat (.int T.length)), some (.dat (.list ((enumI 0 T).map fun p => .int (tauF as (p.1.toNat + C) - p.2)))), y7', y8'] = _
      refine ret_ok (c1_ok rfl ?_)
      have := maxD_ints eD
      rw [List.map_map] at this
      exact this
  · rcases Int.lt_or_le (c * lcmF as 1) D with q | q
    · obtain ⟨u, u0, uw⟩ := hmin _ q
      have := cntI_mul hA u C
      rw [← hC] at this
      unfold W at uw
      have e : c * 1 ≤ c * cntI as (lcmF as 1) := Int.mul_le_mul_of_nonneg_left (by omega) (by omega)
      omega
    · exact q
theorem shaped_row (as : List (Int × Int)) : SeqAt.shaped (rowD as) = true := by
  have key : ∀ bs : List (Int × Int), PyData.canLayAll0 (bs.map alD) = true ∧ PyData.depthAll (bs.map alD) ≤ 1 := by
    intro bs
    induction bs with
    | nil => simp [PyData.canLayAll0, PyData.depthAll]
    | cons b bs ih =>
      refine ⟨?_, ?_⟩
      · simp [PyData.canLayAll0, PyData.canLay0, ih.1]
      · have := ih.2
        simp [PyData.depthAll, PyData.depth]
        omega
  have k1 := key as
  have k2 := k1.2
  simp only [SeqAt.shaped, PyData.canLay0, PyData.depth, rowD, k1.1]
  simp
  omega
theorem eqv_rows : ∀ (as bs : List (Int × Int)), PyData.eqv (rowD as) (rowD bs) = decide (as = bs) := by
  have key : ∀ (as bs : List (Int × Int)), PyData.eqvAll (as.map alD) (bs.map alD) = decide (as = bs) := by
    intro as
    induction as with
    | nil => intro bs; cases bs <;> simp [PyData.eqvAll]
    | cons a as ih =>
      intro bs
      cases bs with
      | nil => simp [PyData.eqvAll]
      | cons b bs =>
        have e := eqv_al a b
        simp only [List.map_cons, PyData.eqvAll, ih, e]
        by_cases h1 : a = b <;> by_cases h2 : as = bs <;> simp [h1, h2]
  intro as bs
  simp only [rowD, PyData.eqv]
  exact key as bs
theorem eqD_rows (as bs : List (Int × Int)) : eqD (rowD as) (rowD bs) = .ok (.bool (decide (as = bs))) := by
  unfold eqD
  rw [shaped_row, shaped_row, eqv_rows]; rfl
theorem neD_rows (as bs : List (Int × Int)) : neD (rowD as) (rowD bs) = .ok (.bool (!decide (as = bs))) := by
  unfold neD
  rw [shaped_row, shaped_row, eqv_rows]; rfl
theorem length_for_0 {wf : Nat} {as : List (Int × Int)} (hw : 60 < wf) (h : Row as) (h5 : lcmF as 1 ≤ 5000) : p_length_for wf [rowD as, .int 0] = .ok (.int 1) := by
  unfold p_length_for
  refine run_ret (seq_ok (drop_ok (call1_ok rfl (check_row_ok h))) (seq_ok (drop_ok (call3_ok rfl rfl rfl (check_number_ok (by omega) (by omega)))) (seq_ok (drop_ok (call1_ok rfl (check_cycle_ok hw h h5))) (seq_ret (if_yes ?_ (ret_ok ?_))))))
  · exact or_ok (a := true) (b := true) (c2_ok rfl rfl (eqD_dec 0 0)) (fun z => by cases z)
  · simp only [cIf]
    rw [cT_ok (b := true) (c2_ok rfl rfl (eqD_dec 0 0))]
    rfl
theorem length_for_nil {wf : Nat} {c : Int} (hw : 60 < wf) (c0 : 1 ≤ c) (c1 : c ≤ 20) : p_length_for wf [rowD [], .int c] = .ok .none := by
  have h : Row [] := ⟨by simp, by simp⟩
  have h5 : lcmF ([] : List (Int × Int)) 1 ≤ 5000 := by decide
  have e : (c2 eqD (cV 1) (cC (.int 0))) (startE 9 [rowD [], .int c]) = .ok (.bool false) := c2_ok rfl rfl (by rw [eqD_dec]; simp; omega)
  unfold p_length_for
  refine run_ret (seq_ok (drop_ok (call1_ok rfl (check_row_ok h))) (seq_ok (drop_ok (call3_ok rfl rfl rfl (check_number_ok (by omega) (by omega)))) (seq_ok (drop_ok (call1_ok rfl (check_cycle_ok hw h h5))) (seq_ret (if_yes ?_ (ret_ok ?_))))))
  · exact or_ok (a := false) (b := true) e (fun _ => c2_ok rfl rfl (eqD_rows [] []))
  · simp only [cIf]
    rw [cT_ok (b := false) e]
    rfl
theorem ch_le {f g k : Ex} {r : En} {a b c : Int} (h1 : f r = .ok (.int a)) (h2 : g r = .ok (.int b)) (h3 : k r = .ok (.int c)) : cCh leD leD f g k r = .ok (.bool (decide (a ≤ b) && decide (b ≤ c))) := by
  by_cases h : a ≤ b <;> simp [cCh, h1, h2, h3, leD, h]
theorem ch_lt {f g k : Ex} {r : En} {a b c : Int} (h1 : f r = .ok (.int a)) (h2 : g r = .ok (.int b)) (h3 : k r = .ok (.int c)) : cCh leD ltD f g k r = .ok (.bool (decide (a ≤ b) && decide (b < c))) := by
  by_cases h : a ≤ b <;> simp [cCh, h1, h2, h3, leD, ltD, h]
theorem maxI_congr {a b : List Int} (h : ∀ x, x ∈ a ↔ x ∈ b) : maxI a = maxI b := by
  by_cases hn : a = []
  · subst hn
    have : b = [] := by
      cases b with
      | nil => rfl
      | cons y b => have := (h y).mpr (by simp); simp at this
    rw [this]
  · obtain ⟨m, e, m1, m2⟩ := maxI_some hn
    rw [e]
    exact (maxI_eq ((h m).mp m1) fun y hy => m2 y ((h y).mpr hy)).symm
theorem minI_congr {a b : List Int} (h : ∀ x, x ∈ a ↔ x ∈ b) : minI a = minI b := by
  by_cases hn : a = []
  · subst hn
    have : b = [] := by
      cases b with
      | nil => rfl
      | cons y b => have := (h y).mpr (by simp); simp at this
    rw [this]
  · obtain ⟨m, e, m1, m2⟩ := minI_some hn
    rw [e]
    exact (minI_eq ((h m).mp m1) fun y hy => m2 y ((h y).mpr hy)).symm
/-! ### rows moved on by one -/
def movI (as : List (Int × Int)) : List (Int × Int) := as.map fun a => (a.1, (a.2 + 1) % a.1)
theorem movI_row {as : List (Int × Int)} (h : Row as) : Row (movI as) := ⟨by simpa [movI] using h.1, fun b hb => by
  obtain ⟨a, ha, rfl⟩ := List.mem_map.mp hb
  have q := h.2 a ha
  have q1 := q.p1
  exact ⟨q.p1, q.p2, Int.emod_nonneg _ (by omega), Int.emod_lt_of_pos _ (by omega)⟩⟩
theorem lcmF_map (f : Int × Int → Int × Int) (hf : ∀ a, (f a).1 = a.1) : ∀ (as : List (Int × Int)) (L : Int), lcmF (as.map f) L = lcmF as L
  | [], L => rfl
  | a :: as, L => by simp only [List.map_cons, lcmF, hf]; exact lcmF_map f hf as _
theorem movI_lcm (as : List (Int × Int)) : lcmF (movI as) 1 = lcmF as 1 := lcmF_map (fun a => (a.1, (a.2 + 1) % a.1)) (fun _ => rfl) as 1
theorem cntI_mov : ∀ (as : List (Int × Int)), AlA as → ∃ K, ∀ x, cntI (movI as) (x + 1) = cntI as x + K
  | [], _ => ⟨0, fun x => rfl⟩
  | a :: as, h => by
    obtain ⟨K, hK⟩ := cntI_mov as fun b hb => h b (List.mem_cons_of_mem _ hb)
    have q := h a (by simp)
    have q1 := q.p1; have q2 := q.s0; have q3 := q.s1
    have key : ∃ e, ∀ x, cntA (x + 1) (a.1, (a.2 + 1) % a.1) = cntA x a + e := by
      by_cases c : a.2 + 1 < a.1
      · refine ⟨0, fun x => ?_⟩
        rw [Int.emod_eq_of_lt (by omega) c]
        unfold cntA
        show (x + 1 - (a.2 + 1) + a.1 - 1) / a.1 = _
        rw [show x + 1 - (a.2 + 1) + a.1 - 1 = x - a.2 + a.1 - 1 by omega]
        omega
      · have e1 : a.2 + 1 = a.1 := by omega
        refine ⟨1, fun x => ?_⟩
        rw [e1, Int.emod_self]
        unfold cntA
        show (x + 1 - 0 + a.1 - 1) / a.1 = _
        rw [show x + 1 - 0 + a.1 - 1 = x + a.1 * 1 by omega, show x - a.2 + a.1 - 1 = x by omega, Int.add_mul_ediv_left _ _ (by omega)]
    obtain ⟨e, he⟩ := key
    refine ⟨e + K, fun x => ?_⟩
    have := hK x
    have := he x
    unfold cntI movI at *
    simp only [List.map_cons, List.sum_cons] at *
    omega
theorem W_mov {as : List (Int × Int)} (h : AlA as) (t n : Int) : W (movI as) (t + 1) n = W as t n := by
  obtain ⟨K, hK⟩ := cntI_mov as h
  have a := hK t
  have b := hK (t + n)
  unfold W
  rw [show t + 1 + n = t + n + 1 by omega]
  omega
theorem win_mov {as : List (Int × Int)} (h : Row as) (n x : Int) : x ∈ winI (movI as) n ↔ x ∈ winI as n := by
  have hm := movI_row h
  have hL := lcmF_pos as 1 (by omega) h.pos
  constructor
  · intro hx
    obtain ⟨t, ht, rfl⟩ := List.mem_map.mp hx
    rw [mem_rangeI] at ht
    rw [← W_per hm.pos, movI_lcm, show t + lcmF as 1 = t + lcmF as 1 - 1 + 1 by omega, W_mov h.2]
    exact W_win h.pos (by omega) n
  · intro hx
    obtain ⟨t, ht, rfl⟩ := List.mem_map.mp hx
    rw [mem_rangeI] at ht
    rw [← W_mov h.2]
    exact W_win hm.pos (by omega) n
end Rq
/-! Rt, part Y: crowds. -/
namespace Rq
open PySem Rt Pg
abbrev tupI (g : List Int) : PyData := .tuple (g.map .int)
/-! ### groups -/
def subF : Nat → List (List Int)
  | 0 => [[]]
  | n + 1 => subF n ++ (subF n).map fun g => g ++ [(n : Int)]
def groupsF (n : Nat) : List (List Int) := sortT ((subF n).filter fun g => !decide (g = []))
theorem mem_subF {g : List Int} : ∀ {n : Nat}, g ∈ subF n ↔ g.Pairwise (· < ·) ∧ ∀ x ∈ g, 0 ≤ x ∧ x < n
  | 0 => by
    simp only [subF, List.mem_singleton]
    constructor
    · rintro rfl; simp
    · rintro ⟨_, h⟩
      cases g with
      | nil => rfl
      | cons x g => have := h x (by simp); omega
  | n + 1 => by
    have ih := fun g => @mem_subF g n
    simp only [subF, List.mem_append, List.mem_map]
    constructor
    · rintro (h | ⟨g', h, rfl⟩)
      · obtain ⟨h1, h2⟩ := (ih g).mp h
        exact ⟨h1, fun x hx => by have := h2 x hx; omega⟩
      · obtain ⟨h1, h2⟩ := (ih g').mp h
        refine ⟨List.pairwise_append.mpr ⟨h1, by simp, fun a ha b hb => ?_⟩, fun x hx => ?_⟩
        · have := h2 a ha; simp at hb; omega
        · rcases List.mem_append.mp hx with h | h
          · have := h2 x h; omega
          · simp at h; omega
    · rintro ⟨h1, h2⟩
      by_cases hn : (n : Int) ∈ g
      · right
        rcases List.eq_nil_or_concat g with e | ⟨g', y, e⟩
        · subst e; simp at hn
        · rw [List.concat_eq_append] at e
          subst e
          have hy : y = (n : Int) := by
            rcases List.mem_append.mp hn with h | h
            · have := (List.pairwise_append.mp h1).2.2 _ h y (by simp)
              have := h2 y (by simp)
              omega
            · exact (by simpa using h : (n : Int) = y).symm
          subst hy
          refine ⟨g', (ih g').mpr ⟨(List.pairwise_append.mp h1).1, fun x hx => ?_⟩, rfl⟩
          have a := (List.pairwise_append.mp h1).2.2 x hx (n : Int) (by simp)
          have b := h2 x (by simp [hx])
          omega
      · left
        refine (ih g).mpr ⟨h1, fun x hx => ?_⟩
        have b := h2 x hx
        have : x ≠ (n : Int) := fun e => hn (e ▸ hx)
        omega
theorem mem_groupsF {g : List Int} {n : Nat} : g ∈ groupsF n ↔ g ≠ [] ∧ g.Pairwise (· < ·) ∧ ∀ x ∈ g, 0 ≤ x ∧ x < n := by
  unfold groupsF
  have p : g ∈ sortT ((subF n).filter fun g => !decide (g = [])) ↔ g ∈ (subF n).filter fun g => !decide (g = []) := by
    have key : ∀ l : List (List Int), (sortT l).Perm l := by
      intro l
      have ins : ∀ (x : List Int) (l : List (List Int)), (insT x l).Perm (x :: l) := by
        intro x l
        induction l with
        | nil => exact List.Perm.refl _
        | cons y l ih =>
          unfold insT
          split
          · exact (ih.cons y).trans (List.Perm.swap x y l)
          · exact List.Perm.refl _
      induction l with
      | nil => exact List.Perm.refl _
      | cons x l ih => exact (ins x _).trans (ih.cons x)
    exact (key _).mem_iff
  rw [p, List.mem_filter, mem_subF]
  constructor
  · rintro ⟨h1, h2⟩; exact ⟨by simpa using h2, h1⟩
  · rintro ⟨h1, h2⟩; exact ⟨h2, by simpa using h1⟩
theorem all_groups_ok {wf : Nat} {n : Nat} (h : n ≤ 6) : p_all_groups wf [.int n] = .ok (.list ((groupsF n).map tupI)) := by
  have : n = 0 ∨ n = 1 ∨ n = 2 ∨ n = 3 ∨ n = 4 ∨ n = 5 ∨ n = 6 := by omega
  rcases this with rfl | rfl | rfl | rfl | rfl | rfl | rfl <;> kernel_rfl
theorem groupsF_len {n : Nat} (h : n ≤ 6) : (groupsF n).length ≤ 63 := by
  have : n = 0 ∨ n = 1 ∨ n = 2 ∨ n = 3 ∨ n = 4 ∨ n = 5 ∨ n = 6 := by omega
  rcases this with rfl | rfl | rfl | rfl | rfl | rfl | rfl <;> decide +kernel
def chF (as : List (Int × Int)) (g : List Int) : List (Int × Int) := g.map (getA as)
theorem chosen_ok {wf : Nat} {as : List (Int × Int)} {g : List Int} (h : ∀ x ∈ g, 0 ≤ x ∧ x < as.length) (hl : g.length ≤ 1000) : p_chosen wf [rowD as, tupI g] = .ok (rowD (chF as g)) := by
  unfold p_chosen
  have hc := comp_map (vs := [2]) (src := iVal (cV 1)) (g := gN 2) (e := cIxV 0 (cV 2)) (r := startE 3 [rowD as, tupI g]) (mk := .int) (is := g) rfl (le_SZ (by omega)) (fun i => [some (.dat (rowD as)), some (.dat (tupI g)), some (.dat (.int i))]) (fun i => alD (getA as i)) (fun i hi => ⟨rfl, by
    obtain ⟨e1, _⟩ := ix_row (h i hi).1 (h i hi).2
    simp only [cIxV, cV, List.getElem?_cons_zero, List.getElem?_cons_succ, R.bind_ok, e1, R.nox_ok]⟩)
  have e : (g.map fun i => alD (getA as i)) = (chF as g).map alD := by simp [chF, List.map_map, Function.comp_def]
  rw [e] at hc
  exact run_ret (ret_ok (c1_ok (cL_ok hc) rfl))
theorem chF_mem {as : List (Int × Int)} {g : List Int} (h : ∀ x ∈ g, 0 ≤ x ∧ x < as.length) : ∀ a ∈ chF as g, a ∈ as := fun a ha => by
  obtain ⟨x, hx, rfl⟩ := List.mem_map.mp ha
  exact (ix_row (h x hx).1 (h x hx).2).2
def meetF (as : List (Int × Int)) : List (List Int) := (groupsF as.length).filter fun g => decide (AllFit (chF as g))
theorem isNone_apF (as : List (Int × Int)) : isNoneD (optP (apF as)) = .ok (.bool (decide (AllFit as))) := by
  rw [isNone_optP]
  by_cases hf : AllFit as
  · rw [apF_none.mpr hf]; simp [hf]
  · cases q : apF as with
    | none => exact absurd (apF_none.mp q) hf
    | some p => simp [hf]
theorem asc_len {g : List Int} {n : Nat} (h1 : g.Pairwise (· < ·)) (h2 : ∀ x ∈ g, 0 ≤ x ∧ x < n) : g.length ≤ n := by
  induction n generalizing g with
  | zero =>
    cases g with
    | nil => simp
    | cons x g => have := h2 x (by simp); omega
  | succ n ih =>
    rcases List.eq_nil_or_concat g with e | ⟨g', y, e⟩
    · subst e; simp
    · rw [List.concat_eq_append] at e
      subst e
      have := ih (g := g') (List.pairwise_append.mp h1).1 fun x hx => by
        have a := (List.pairwise_append.mp h1).2.2 x hx y (by simp)
        have b := h2 x (by simp [hx])
        have c := h2 y (by simp)
        omega
      simp; omega
theorem group_ok {as : List (Int × Int)} (h : Row as) {g : List Int} (hg : g ∈ groupsF as.length) : g.length ≤ 6 ∧ Row (chF as g) ∧ (∀ x ∈ g, 0 ≤ x ∧ x < as.length) := by
  obtain ⟨h0, h1, h2⟩ := mem_groupsF.mp hg
  have h6 := h.1
  have hl := asc_len h1 h2
  exact ⟨by omega, ⟨by simp [chF]; omega, fun a ha => h.2 a (chF_mem h2 a ha)⟩, h2⟩
theorem meeting_ok {wf : Nat} {as : List (Int × Int)} (hw : 60 < wf) (h : Row as) : p_meeting_groups wf [rowD as] = .ok (.list ((meetF as).map tupI)) := by
  have h6 := h.1
  have hg := groupsF_len h6
  unfold p_meeting_groups
  refine run_ret (ret_ok (cL_ok (comp_ok (mk := tupI) (is := groupsF as.length) ?_ (le_SZ (by omega)) (fun g => [some (.dat (rowD as)), some (.dat (tupI g))]) (fun g => decide (AllFit (chF as g))) tupI (fun g hgm => ⟨rfl, ?_, fun _ => rfl⟩))))
  · have e : cCall 1 (p_all_groups wf) (aCons (cLenV 0) aNil) (startE 2 [rowD as]) = .ok (.list ((groupsF as.length).map tupI)) := call1_ok (a := .int as.length) (by simp [cLenV, startE, lenD]) (all_groups_ok h6)
    unfold iVal
    rw [e]; rfl
  · obtain ⟨l6, hr, hb⟩ := group_ok h hgm
    exact cT_ok (c1_ok (call1_ok (call2_ok rfl rfl (chosen_ok hb (by omega))) (find_apart_ok hw hr.2 (by have := hr.1; omega))) (isNone_apF _))
/-- the greatest crowd -/
def crowdF (as : List (Int × Int)) : Int := (maxI (0 :: (meetF as).map fun g => (g.length : Int))).getD 0
theorem crowd_spec (as : List (Int × Int)) : maxI (0 :: (meetF as).map fun g => (g.length : Int)) = some (crowdF as) ∧ 0 ≤ crowdF as ∧ (∀ g ∈ meetF as, (g.length : Int) ≤ crowdF as) ∧ (crowdF as = 0 ∨ ∃ g ∈ meetF as, (g.length : Int) = crowdF as) := by
  obtain ⟨m, e, m1, m2⟩ := maxI_some (ns := 0 :: (meetF as).map fun g => (g.length : Int)) (by simp)
  unfold crowdF
  rw [e]
  refine ⟨rfl, m2 0 (by simp), fun g hg => m2 _ (List.mem_cons_of_mem _ (List.mem_map.mpr ⟨g, hg, rfl⟩)), ?_⟩
  rcases List.mem_cons.mp m1 with h | h
  · exact .inl h
  · obtain ⟨g, hg, e⟩ := List.mem_map.mp h
    exact .inr ⟨g, hg, e⟩
theorem meetF_len {as : List (Int × Int)} (h : as.length ≤ 6) : (meetF as).length ≤ 63 := Nat.le_trans (List.length_filter_le _ _) (groupsF_len h)
theorem find_crowd_ok {wf : Nat} {as : List (Int × Int)} (hw : 60 < wf) (h : Row as) : p_find_crowd wf [rowD as] = .ok (.int (crowdF as)) := by
  have hm := meetF_len h.1
  unfold p_find_crowd
  have hc := comp_map (vs := [1]) (src := iVal (cCall 1 (p_meeting_groups wf) (aCons (cV 0) aNil))) (g := gN 1) (e := cLenV 1) (r := startE 2 [rowD as]) (mk := tupI) (is := meetF as) (by
    unfold iVal
    rw [call1_ok (a := rowD as) rfl (meeting_ok hw h)]; rfl) (le_SZ (by omega)) (fun g => [some (.dat (rowD as)), some (.dat (tupI g))]) (fun g => .int g.length) (fun g _ => ⟨rfl, by simp [cLenV, lenD]⟩)
  refine run_ret (ret_ok (c1_ok (a := intsD (0 :: (meetF as).map fun g => (g.length : Int))) (c2_ok (a := .list [.int 0]) rfl (cL_ok hc) ?_) (maxD_ints (crowd_spec as).1)))
  have : 1 + (meetF as).length ≤ SZ := le_SZ (by omega)
  simp [addD, this, List.map_map, Function.comp_def]
theorem greatest_ok {wf : Nat} {as : List (Int × Int)} (hw : 60 < wf) (h : Row as) : p_greatest_crowd wf [rowD as] = .ok (.int (crowdF as)) := by
  unfold p_greatest_crowd
  exact run_ret (seq_ok (drop_ok (call1_ok rfl (check_row_ok h))) (ret_ok (call1_ok rfl (find_crowd_ok hw h))))
def bigF (as : List (Int × Int)) : List (List Int) := (meetF as).filter fun g => decide ((g.length : Int) = crowdF as)
theorem find_groups_ok {wf : Nat} {as : List (Int × Int)} (hw : 60 < wf) (h : Row as) : p_find_groups wf [rowD as] = .ok (.list ((bigF as).map tupI)) := by
  have hm := meetF_len h.1
  unfold p_find_groups
  refine run_ret (seq_ok (set_ok (call1_ok rfl (find_crowd_ok hw h)) (by simp [startE])) (ret_ok (cL_ok (comp_ok (mk := tupI) (is := meetF as) ?_ (le_SZ (by omega)) (fun g => [some (.dat (rowD as)), some (.dat (.int (crowdF as))), some (.dat (tupI g))]) (fun g => decide ((g.length : Int) = crowdF as)) tupI (fun g hgm => ⟨rfl, ?_, fun _ => rfl⟩)))))
  · unfold iVal
    rw [call1_ok (a := rowD as) rfl (meeting_ok hw h)]; rfl
  · exact cT_ok (c2_ok (a := .int g.length) (by simp [cLenV, lenD]) rfl (eqD_dec _ _))
theorem largest_ok {wf : Nat} {as : List (Int × Int)} (hw : 60 < wf) (h : Row as) : p_largest_groups wf [rowD as] = .ok (.list ((bigF as).map tupI)) := by
  unfold p_largest_groups
  exact run_ret (seq_ok (drop_ok (call1_ok rfl (check_row_ok h))) (ret_ok (call1_ok rfl (find_groups_ok hw h))))
/-! ### crowds are groups -/
theorem sol_ch {as : List (Int × Int)} {g : List Int} (hA : AlA as) (hb : ∀ x ∈ g, 0 ≤ x ∧ x < as.length) {t : Int} : Sol (chF as g) t ↔ ∀ x ∈ g, x ∈ heardF t 0 as := by
  have key : ∀ x : Int, 0 ≤ x → x < as.length → ((getA as x).1 ∣ t - (getA as x).2 ↔ x ∈ heardF t 0 as) := by
    intro x x0 x1
    obtain ⟨n, rfl⟩ := Int.eq_ofNat_of_zero_le x0
    have q := hA _ (ix_row x0 x1).2
    have q1 := q.p1
    rw [← mod_iff (by omega) q.s0 q.s1, mem_heardF]
    constructor
    · intro h; exact ⟨n, by omega, by simp, by simpa [getA] using h⟩
    · rintro ⟨j, j1, j2, j3⟩
      have : n = j := by omega
      subst this
      simpa [getA] using j3
  constructor
  · intro h x hx
    exact (key x (hb x hx).1 (hb x hx).2).mp (h _ (List.mem_map.mpr ⟨x, hx, rfl⟩))
  · intro h a ha
    obtain ⟨x, hx, rfl⟩ := List.mem_map.mp ha
    exact (key x (hb x hx).1 (hb x hx).2).mpr (h x hx)
theorem heard_bd {as : List (Int × Int)} {t : Int} : ∀ x ∈ heardF t 0 as, 0 ≤ x ∧ x < as.length := fun x hx => by
  obtain ⟨j, j1, j2, _⟩ := mem_heardF.mp hx
  omega
theorem heard_meet {as : List (Int × Int)} (hA : AlA as) {t : Int} (hn : heardF t 0 as ≠ []) : heardF t 0 as ∈ meetF as := by
  unfold meetF
  rw [List.mem_filter]
  refine ⟨mem_groupsF.mpr ⟨hn, heardF_sorted _ _, heard_bd⟩, ?_⟩
  have hp : Pos (chF as (heardF t 0 as)) := fun a ha => hA.pos a (chF_mem heard_bd a ha)
  have := (fits_iff hp).mpr ⟨t, (sol_ch hA heard_bd).mpr fun x hx => hx⟩
  simpa using this
theorem nodup_len : ∀ {g m : List Int}, g.Nodup → (∀ x ∈ g, x ∈ m) → g.length ≤ m.length
  | [], m, _, _ => by simp
  | x :: g, m, hn, h => by
    rw [List.nodup_cons] at hn
    have hx := h x (by simp)
    have := nodup_len (g := g) (m := m.erase x) hn.2 fun y hy => by
      have hy2 := h y (List.mem_cons_of_mem _ hy)
      have : y ≠ x := fun e => hn.1 (e ▸ hy)
      exact (List.mem_erase_of_ne this).mpr hy2
    rw [List.length_erase_of_mem hx] at this
    have : 0 < m.length := List.length_pos_of_mem hx
    simp; omega
theorem asc_sub {g m : List Int} (h1 : g.Pairwise (· < ·)) (h : ∀ x ∈ g, x ∈ m) : g.length ≤ m.length := by
  have hn : g.Nodup := h1.imp fun h e => by omega
  exact nodup_len hn h
theorem heard_mod {as : List (Int × Int)} (t : Int) : ∀ (bs : List (Int × Int)) (k : Nat), (∀ b ∈ bs, b ∈ as) → heardF (t % lcmF as 1) k bs = heardF t k bs
  | [], _, _ => rfl
  | b :: bs, k, h => by
    have ih := heard_mod t bs (k + 1) fun c hc => h c (List.mem_cons_of_mem _ hc)
    have e : t % lcmF as 1 % b.1 = t % b.1 := Int.emod_emod_of_dvd _ (lcm_dvd_all as b (h b (by simp)))
    unfold heardF
    rw [e, ih]
theorem meet_heard {as : List (Int × Int)} (hA : AlA as) {g : List Int} (hg : g ∈ meetF as) : ∃ t, 0 ≤ t ∧ t < lcmF as 1 ∧ ∀ x ∈ g, x ∈ heardF t 0 as := by
  unfold meetF at hg
  rw [List.mem_filter] at hg
  obtain ⟨h0, h1, h2⟩ := mem_groupsF.mp hg.1
  have hp : Pos (chF as g) := fun a ha => hA.pos a (chF_mem h2 a ha)
  obtain ⟨T, hT⟩ := (fits_iff hp).mp (by simpa using hg.2)
  have hL := lcmF_pos as 1 (by omega) hA.pos
  refine ⟨T % lcmF as 1, Int.emod_nonneg _ (by omega), Int.emod_lt_of_pos _ hL, fun x hx => ?_⟩
  rw [heard_mod T as 0 fun b hb => hb]
  exact (sol_ch hA h2).mp hT x hx
theorem crowd_le {as : List (Int × Int)} (hA : AlA as) (t : Int) : ((heardF t 0 as).length : Int) ≤ crowdF as := by
  obtain ⟨_, c0, c1, _⟩ := crowd_spec as
  by_cases hn : heardF t 0 as = []
  · rw [hn]; simpa using c0
  · exact c1 _ (heard_meet hA hn)
theorem crowd_hit {as : List (Int × Int)} (hA : AlA as) : ∃ t, 0 ≤ t ∧ t < lcmF as 1 ∧ ((heardF t 0 as).length : Int) = crowdF as := by
  have hL := lcmF_pos as 1 (by omega) hA.pos
  obtain ⟨_, c0, c1, c2⟩ := crowd_spec as
  rcases c2 with e | ⟨g, hg, e⟩
  · refine ⟨0, by omega, hL, ?_⟩
    have := crowd_le hA 0
    omega
  · obtain ⟨t, t0, t1, ht⟩ := meet_heard hA hg
    have hs : g.Pairwise (· < ·) := by
      unfold meetF at hg
      rw [List.mem_filter] at hg
      exact (mem_groupsF.mp hg.1).2.1
    have := asc_sub hs ht
    have := crowd_le hA t
    exact ⟨t, t0, t1, by omega⟩
theorem crowd_max {as : List (Int × Int)} (hA : AlA as) : maxI ((rangeI 0 (lcmF as 1)).map fun t => ((heardF t 0 as).length : Int)) = some (crowdF as) := by
  obtain ⟨t, t0, t1, e⟩ := crowd_hit hA
  refine maxI_eq (List.mem_map.mpr ⟨t, mem_rangeI.mpr ⟨t0, t1⟩, e⟩) fun y hy => ?_
  obtain ⟨u, _, rfl⟩ := List.mem_map.mp hy
  exact crowd_le hA u
end Rq
/-! Rt, part Z: crowds counted; rows moved on; silence. -/
namespace Rq
open PySem Rt Pg
theorem put_ok {i : Nat} {k e : Ex} {r : En} {ds : List PyData} {d : PyData} {n : Nat} (h : r[i]? = some (some (.own ds))) (h1 : e r = .ok d) (h2 : k r = .ok (.int n)) (h3 : n < ds.length) : sPut i k e r = .ok .nx (r.set i (some (.own (ds.set n d)))) := by
  unfold sPut; rw [h, h1, h2]; simp [Rt.lift, h3]
theorem ix_ownO {i : Nat} {g : Ex} {r : En} {ns : List Int} {k : Nat} (h : r[i]? = some (some (.own (ns.map .int)))) (h2 : g r = .ok (.int k)) (hk : k < ns.length) : cIxV i g r = .ok (.int (ns.getD k 0)) := by
  unfold cIxV
  rw [h]
  have h0 : ¬ ((k : Int) < 0) := by omega
  simp [h2, idxD, itemAt, L2.atI, L2.ixN, h0, hk, List.getD]
/-- the sizes of the crowds of the first times -/
def szF (as : List (Int × Int)) (L : Int) : List Int := (rangeI 0 L).map fun t => ((heardF t 0 as).length : Int)
def cntF (as : List (Int × Int)) (L : Int) : List Int := (List.range (as.length + 1)).map fun (k : Nat) => ((szF as L).count (k : Int) : Int)
theorem szF_succ (as : List (Int × Int)) (n : Nat) : szF as ((n + 1 : Nat) : Int) = szF as n ++ [((heardF n 0 as).length : Int)] := by
  unfold szF
  rw [show ((n + 1 : Nat) : Int) = (n : Int) + 1 by omega, rangeI_succ (by omega), List.map_append]
  rfl
theorem cntF_set (as : List (Int × Int)) (n : Nat) : (cntF as n).set (heardF n 0 as).length ((cntF as n).getD (heardF n 0 as).length 0 + 1) = cntF as ((n + 1 : Nat) : Int) := by
  have hl := heardF_len (n : Int) 0 as
  refine List.ext_getElem? fun i => ?_
  unfold cntF
  rw [szF_succ]
  by_cases hi : i < as.length + 1
  · rw [List.getElem?_set]
    by_cases e : (heardF (n : Int) 0 as).length = i
    · subst e
      simp [hi, List.getElem?_range, List.count_append, List.getD]
    · have e2 : ¬ ((heardF (n : Int) 0 as).length : Int) = (i : Int) := by omega
      simp [e, hi, List.getElem?_range, List.count_append, e2]
  · rw [List.getElem?_eq_none (by simpa using hi), List.getElem?_eq_none (by simpa using hi)]
theorem cntF_zero (as : List (Int × Int)) : cntF as 0 = List.replicate (as.length + 1) 0 := by
  refine List.ext_getElem? fun i => ?_
  unfold cntF szF
  by_cases hi : i < as.length + 1
  · simp [hi, List.getElem?_range, List.getElem?_replicate, rangeI]
  · rw [List.getElem?_eq_none (by simpa using hi), List.getElem?_eq_none (by simpa using hi)]
theorem crowds_ok {wf : Nat} {as : List (Int × Int)} (hw : 60 < wf) (h : Row as) (h5 : lcmF as 1 ≤ 5000) : p_crowds wf [rowD as] = .ok (intsD (cntF as (lcmF as 1))) := by
  have hL := lcmF_pos as 1 (by omega) h.pos
  have h6 := h.1
  have hfc := call1_ok (g := p_find_cycle wf) (f1 := cV 0) (r := [some (.dat (rowD as)), some (.own ((cntF as 0).map .int)), none, none]) rfl (find_cycle_ok hw h.2)
  obtain ⟨N, hN⟩ := Int.eq_ofNat_of_zero_le (Int.le_of_lt hL)
  rw [hN] at hfc ⊢
  obtain ⟨r2, e, y2, y3, rfl⟩ := for_idx (g := gN 2) (b := p_crowds_b1 wf) (I := fun n r => ∃ y2 y3, r = [some (.dat (rowD as)), some (.own ((cntF as n).map .int)), y2, y3]) N (fun n hn r q => by
    obtain ⟨y2, y3, rfl⟩ := q
    have hl := heardF_len (n : Int) 0 as
    have hlen : (heardF (n : Int) 0 as).length < (cntF as n).length := by simp [cntF]; omega
    refine ⟨_, _, rfl, seq_ok (set_ok (d := .int (heardF (n : Int) 0 as).length) (c1_ok (call2_ok rfl rfl (find_ringing_ok h)) (by simp [lenD])) (by simp)) (put_ok (n := (heardF (n : Int) 0 as).length) rfl (c2_ok (ix_ownO (k := (heardF (n : Int) 0 as).length) rfl rfl hlen) rfl rfl) rfl (by simpa using hlen)), some (.dat (.int n)), some (.dat (.int (heardF (n : Int) 0 as).length)), ?_⟩
    rw [← cntF_set, List.map_set]
    rfl) ⟨none, none, rfl⟩
  unfold p_crowds
  refine run_ret (r := [some (.dat (rowD as)), some (.dat (.list ((cntF as N).map .int))), y2, y3]) (seq_ok (drop_ok (call1_ok rfl (check_cycle_ok hw h h5))) (seq_ok (r1 := [some (.dat (rowD as)), some (.own ((cntF as 0).map .int)), none, none]) ?_ (seq_ok (r1 := [some (.dat (rowD as)), some (.own ((cntF as N).map .int)), y2, y3]) ?_ ?_)))
  · have hm : cMulL (cLst (aCons (cC (.int 0)) aNil)) (c2 addD (cLenV 0) (cC (.int 1))) (startE 4 [rowD as]) = .ok ((cntF as 0).map .int) := by
      have e1 : c2 addD (cLenV 0) (cC (.int 1)) (startE 4 [rowD as]) = .ok (.int ((as.length : Int) + 1)) := c2_ok (a := .int as.length) (by simp [cLenV, startE, lenD]) rfl rfl
      have e2 : cLst (aCons (cC (.int 0)) aNil) (startE 4 [rowD as]) = .ok [.int 0] := rfl
      have b1 : (0 : Int) ≤ (as.length : Int) + 1 := by omega
      have b2 : (as.length : Int) + 1 ≤ 1000 := by omega
      have b3 : ((as.length : Int) + 1).toNat = as.length + 1 := by omega
      unfold cMulL
      rw [e1, e2, cntF_zero]
      simp [b1, b2, b3, flat_rep]
    unfold sSet xO
    rw [hm]
    rfl
  · unfold sFor
    rw [rng1_ok hfc (by omega) (by omega)]
    exact e
  · exact (ret_ok (f := cV 1) (r := [some (.dat (rowD as)), some (.dat (.list ((cntF as N).map .int))), y2, y3]) rfl)
/-! ### turning a cycle -/
theorem rangeI_cons {lo hi : Int} (h : lo < hi) : rangeI lo hi = lo :: rangeI (lo + 1) hi := by
  refine sorted_ext (rangeI_sorted _ _) ?_ ?_
  · rw [List.pairwise_cons]
    exact ⟨fun a ha => by rw [mem_rangeI] at ha; omega, rangeI_sorted _ _⟩
  · intro x
    rw [List.mem_cons, mem_rangeI, mem_rangeI]
    omega
theorem rangeI_shift (lo hi k : Int) : rangeI (lo + k) (hi + k) = (rangeI lo hi).map (· + k) := by
  refine sorted_ext (rangeI_sorted _ _) ?_ ?_
  · rw [List.pairwise_map]
    exact (rangeI_sorted lo hi).imp fun h => by omega
  · intro x
    rw [List.mem_map]
    simp only [mem_rangeI]
    constructor
    · intro h; exact ⟨x - k, by omega, by omega⟩
    · rintro ⟨y, h, rfl⟩; omega
theorem rot_perm {α : Type} {f : Int → α} {L : Int} (hL : 0 < L) (hf : ∀ t, f (t + L) = f t) : ∀ b : Nat, ((rangeI 0 L).map fun t => f (t + b)).Perm ((rangeI 0 L).map f)
  | 0 => by simp
  | b + 1 => by
    have ih := rot_perm hL hf b
    refine List.Perm.trans ?_ ih
    have e1 : ((rangeI 0 L).map fun t => f (t + ((b + 1 : Nat) : Int))) = (rangeI 1 (L + 1)).map fun t => f (t + b) := by
      have := rangeI_shift 0 L 1
      rw [show (0 : Int) + 1 = 1 by omega] at this
      rw [this, List.map_map]
      refine List.map_congr_left fun t _ => ?_
      simp only [Function.comp]
      congr 1
      omega
    rw [e1, rangeI_succ (by omega), rangeI_cons (lo := 0) hL, List.map_append, List.map_cons]
    have e2 : f (L + b) = f (0 + b) := by
      rw [show L + (b : Int) = 0 + b + L by omega, hf]
    simp only [List.map_cons, List.map_nil, e2]
    exact List.perm_append_comm (l₁ := (rangeI 1 L).map fun t => f (t + b)) (l₂ := [f (0 + b)])
/-! ### rows moved on -/
def movB (as : List (Int × Int)) (b : Int) : List (Int × Int) := as.map fun a => (a.1, (a.2 + b) % a.1)
theorem movB_row {as : List (Int × Int)} (h : Row as) (b : Int) : Row (movB as b) := ⟨by simpa [movB] using h.1, fun c hc => by
  obtain ⟨a, ha, rfl⟩ := List.mem_map.mp hc
  have q := h.2 a ha
  have q1 := q.p1
  exact ⟨q.p1, q.p2, Int.emod_nonneg _ (by omega), Int.emod_lt_of_pos _ (by omega)⟩⟩
theorem movB_lcm (as : List (Int × Int)) (b : Int) : lcmF (movB as b) 1 = lcmF as 1 := lcmF_map (fun a => (a.1, (a.2 + b) % a.1)) (fun _ => rfl) as 1
theorem movB_heard {b t : Int} : ∀ (as : List (Int × Int)) (k : Nat), AlA as → heardF (t + b) k (movB as b) = heardF t k as
  | [], _, _ => rfl
  | a :: as, k, h => by
    have ih := movB_heard (b := b) (t := t) as (k + 1) fun c hc => h c (List.mem_cons_of_mem _ hc)
    have q := h a (by simp)
    have q1 := q.p1
    have e : (t + b) % a.1 = (a.2 + b) % a.1 ↔ t % a.1 = a.2 := by
      rw [mod_iff (by omega) q.s0 q.s1, Int.emod_eq_emod_iff_emod_sub_eq_zero, Int.dvd_iff_emod_eq_zero, show t + b - (a.2 + b) = t - a.2 by omega]
    have e2 : heardF (t + b) k (movB (a :: as) b) = if (t + b) % a.1 = (a.2 + b) % a.1 then (k : Int) :: heardF (t + b) (k + 1) (movB as b) else heardF (t + b) (k + 1) (movB as b) := rfl
    rw [e2, ih]
    by_cases c : t % a.1 = a.2
    · rw [if_pos (e.mpr c)]; simp [heardF, c]
    · rw [if_neg fun z => c (e.mp z)]; simp [heardF, c]
theorem movB_fit {as : List (Int × Int)} (h : Row as) (b : Int) {g : List Int} (hb : ∀ x ∈ g, 0 ≤ x ∧ x < as.length) : AllFit (chF (movB as b) g) ↔ AllFit (chF as g) := by
  have hm := movB_row h b
  have hb' : ∀ x ∈ g, 0 ≤ x ∧ x < (movB as b).length := by simpa [movB] using hb
  have p1 : Pos (chF (movB as b) g) := fun a ha => hm.pos a (chF_mem hb' a ha)
  have p2 : Pos (chF as g) := fun a ha => h.pos a (chF_mem hb a ha)
  rw [fits_iff p1, fits_iff p2]
  constructor
  · rintro ⟨T, hT⟩
    refine ⟨T - b, ?_⟩
    rw [sol_ch h.2 hb]
    rw [sol_ch hm.2 hb'] at hT
    rw [← movB_heard (b := b) as 0 h.2, show T - b + b = T by omega]
    exact hT
  · rintro ⟨T, hT⟩
    refine ⟨T + b, ?_⟩
    rw [sol_ch hm.2 hb', movB_heard as 0 h.2]
    exact (sol_ch h.2 hb).mp hT
theorem movB_meet {as : List (Int × Int)} (h : Row as) (b : Int) : meetF (movB as b) = meetF as := by
  unfold meetF
  rw [show (movB as b).length = as.length by simp [movB]]
  refine List.filter_congr fun g hg => ?_
  have := movB_fit h b (mem_groupsF.mp hg).2.2
  by_cases c : AllFit (chF as g)
  · simp [c, this.mpr c]
  · have : ¬ AllFit (chF (movB as b) g) := fun z => c (this.mp z)
    simp [c, this]
theorem movB_big {as : List (Int × Int)} (h : Row as) (b : Int) : bigF (movB as b) = bigF as := by
  unfold bigF crowdF
  rw [movB_meet h b]
theorem heard_per {as : List (Int × Int)} (t : Int) : heardF (t + lcmF as 1) 0 as = heardF t 0 as := by
  rw [← heard_mod t as 0 fun b hb => hb, ← heard_mod (t + lcmF as 1) as 0 fun b hb => hb, Int.add_emod_right]
theorem movB_cnt {as : List (Int × Int)} (h : Row as) (b : Nat) : cntF (movB as b) (lcmF as 1) = cntF as (lcmF as 1) := by
  have hL := lcmF_pos as 1 (by omega) h.pos
  have hm := movB_row h b
  have key : (szF (movB as b) (lcmF as 1)).Perm (szF as (lcmF as 1)) := by
    have p := rot_perm (f := fun t => ((heardF t 0 (movB as b)).length : Int)) hL (fun t => by
      have := heard_per (as := movB as b) t
      rw [movB_lcm] at this
      simp only [this]) b
    unfold szF
    refine p.symm.trans ?_
    refine List.Perm.of_eq (List.map_congr_left fun t _ => ?_)
    rw [movB_heard as 0 h.2]
  unfold cntF
  rw [show (movB as b).length = as.length by simp [movB]]
  refine List.map_congr_left fun k _ => ?_
  rw [key.count_eq]
/-! ### lists of groups compared -/
theorem eqv_tup (a b : List Int) : PyData.eqv (tupI a) (tupI b) = decide (a = b) := by
  have h := eqv_ints a b
  simp only [PyData.eqv] at h ⊢
  exact h
theorem shaped_tups (gs : List (List Int)) : SeqAt.shaped (.list (gs.map tupI)) = true := by
  have key : ∀ gs : List (List Int), PyData.canLayAll0 (gs.map tupI) = true ∧ PyData.depthAll (gs.map tupI) ≤ 1 := by
    intro gs
    induction gs with
    | nil => simp [PyData.canLayAll0, PyData.depthAll]
    | cons g gs ih =>
      refine ⟨?_, ?_⟩
      · simp [PyData.canLayAll0, PyData.canLay0, ih.1, canLay_ints]
      · have := ih.2
        simp [PyData.depthAll, PyData.depth, depth_ints]
        omega
  have k1 := key gs
  have k2 := k1.2
  simp only [SeqAt.shaped, PyData.canLay0, PyData.depth, k1.1]
  simp
  omega
theorem eqv_tups (as bs : List (List Int)) : PyData.eqv (.list (as.map tupI)) (.list (bs.map tupI)) = decide (as = bs) := by
  have key : ∀ (as bs : List (List Int)), PyData.eqvAll (as.map tupI) (bs.map tupI) = decide (as = bs) := by
    intro as
    induction as with
    | nil => intro bs; cases bs <;> simp [PyData.eqvAll]
    | cons a as ih =>
      intro bs
      cases bs with
      | nil => simp [PyData.eqvAll]
      | cons b bs =>
        have e := eqv_tup a b
        simp only [List.map_cons, PyData.eqvAll, ih, e]
        by_cases h1 : a = b <;> by_cases h2 : as = bs <;> simp [h1, h2]
  simp only [PyData.eqv]
  exact key as bs
theorem eqD_tups (as bs : List (List Int)) : eqD (.list (as.map tupI)) (.list (bs.map tupI)) = .ok (.bool (decide (as = bs))) := by
  unfold eqD
  rw [shaped_tups, shaped_tups, eqv_tups]; rfl
theorem neD_tups (as bs : List (List Int)) : neD (.list (as.map tupI)) (.list (bs.map tupI)) = .ok (.bool (!decide (as = bs))) := by
  unfold neD
  rw [shaped_tups, shaped_tups, eqv_tups]; rfl
/-! ### silence -/
def silF (as : List (Int × Int)) : Option Int := (rangeI 0 (lcmF as 1)).find? fun t => decide (heardF t 0 as = [])
theorem find_silent_ok {wf : Nat} {as : List (Int × Int)} (hw : 60 < wf) (h : Row as) (h5 : lcmF as 1 ≤ 1000000) : p_find_silent wf [rowD as] = .ok (optI (silF as)) := by
  have hL := lcmF_pos as 1 (by omega) h.pos
  have hout := for_ret (mk := .int) (g := gN 1) (b := p_find_silent_b1 wf) (I := fun r => ∃ y, r = [some (.dat (rowD as)), y]) (fun t : Int => if heardF t 0 as = [] then some (.int t) else none) (is := rangeI 0 (lcmF as 1)) (fun t ht r hI => by
    obtain ⟨y, rfl⟩ := hI
    refine ⟨_, rfl, ?_⟩
    have ht : c2 eqD (cCall 2 (p_find_ringing wf) (aCons (cV 0) (aCons (cV 1) aNil))) (cL (cLst aNil)) [some (.dat (rowD as)), some (.dat (.int t))] = .ok (.bool (decide (heardF t 0 as = []))) := c2_ok (call2_ok rfl rfl (find_ringing_ok h)) rfl (eqD_ints_nil _)
    by_cases c : heardF t 0 as = []
    · right
      exact ⟨.int t, _, by simp [c], if_yes (ht.trans (by simp [c])) (ret_ok rfl)⟩
    · left
      exact ⟨by simp [c], _, if_no (ht.trans (by simp [c])), _, rfl⟩) (startE 2 [rowD as]) ⟨none, rfl⟩
  have hfs : ∀ l : List Int, l.findSome? (fun t : Int => if heardF t 0 as = [] then some (PyData.int t) else none) = (l.find? fun t => decide (heardF t 0 as = [])).map .int := by
    intro l
    induction l with
    | nil => rfl
    | cons x l ih =>
      rw [List.findSome?_cons, List.find?_cons]
      by_cases c : heardF x 0 as = [] <;> simp [c, ih]
  rw [hfs] at hout
  have hr := rng1_ok (call1_ok (g := p_find_cycle wf) (f1 := cV 0) (r := startE 2 [rowD as]) rfl (find_cycle_ok hw h.2)) (by omega) (by omega)
  unfold p_find_silent
  rcases hout with ⟨e1, r2, e2, _⟩ | ⟨d, r2, e1, e2⟩
  · have e3 : silF as = none := by
      unfold silF
      cases q : (rangeI 0 (lcmF as 1)).find? fun t => decide (heardF t 0 as = []) with
      | none => rfl
      | some x => rw [q] at e1; cases e1
    rw [e3]
    exact run_ret (seq_ok (r1 := r2) (by unfold sFor; rw [hr]; exact e2) (ret_ok rfl))
  · obtain ⟨x, e3, e4⟩ : ∃ x, silF as = some x ∧ PyData.int x = d := by
      unfold silF
      cases q : (rangeI 0 (lcmF as 1)).find? fun t => decide (heardF t 0 as = []) with
      | none => rw [q] at e1; cases e1
      | some x => rw [q] at e1; exact ⟨x, rfl, Option.some.inj e1⟩
    rw [e3]
    show _ = R.ok (PyData.int x)
    rw [e4]
    exact run_ret (seq_ret (by unfold sFor; rw [hr]; exact e2))
theorem first_silent_ok {wf : Nat} {as : List (Int × Int)} (hw : 60 < wf) (h : Row as) (h5 : lcmF as 1 ≤ 5000) : p_first_silent wf [rowD as] = .ok (optI (silF as)) := by
  unfold p_first_silent
  exact run_ret (seq_ok (drop_ok (call1_ok rfl (check_cycle_ok hw h h5))) (ret_ok (call1_ok rfl (find_silent_ok hw h (by omega)))))
theorem isNone_optI (o : Option Int) : isNoneD (optI o) = .ok (.bool o.isNone) := by cases o <;> rfl
theorem never_silent_ok {wf : Nat} {as : List (Int × Int)} (hw : 60 < wf) (h : Row as) (h5 : lcmF as 1 ≤ 5000) : p_is_never_silent wf [rowD as] = .ok (.bool (silF as).isNone) := by
  unfold p_is_never_silent
  exact run_ret (seq_ok (drop_ok (call1_ok rfl (check_cycle_ok hw h h5))) (ret_ok (c1_ok (call1_ok rfl (find_silent_ok hw h (by omega))) (isNone_optI _))))
theorem silF_none {as : List (Int × Int)} : silF as = none ↔ ∀ t, 0 ≤ t → t < lcmF as 1 → heardF t 0 as ≠ [] := by
  unfold silF
  rw [List.find?_eq_none]
  constructor
  · intro h t t0 t1; have := h t (mem_rangeI.mpr ⟨t0, t1⟩); simpa using this
  · intro h t ht; rw [mem_rangeI] at ht; simpa using h t ht.1 ht.2
/-! ### the laws' short rows -/
theorem lcm_two {a b : Int × Int} (ha : 0 < a.1) (ha2 : a.1 ≤ 12) (hb : 0 < b.1) (hb2 : b.1 ≤ 12) : lcmF [a, b] 1 ≤ 144 := by
  have e : lcmF [a, b] 1 = (Int.lcm (Int.lcm 1 a.1 : Int) b.1 : Int) := rfl
  rw [e, lcm_one a.1 ha]
  have hm := div_gcd_mul ha hb
  have hg := gcd_pos (p := a.1) (q := b.1) ha
  have h1 : a.1 / (Int.gcd a.1 b.1 : Int) ≤ a.1 := Int.ediv_le_self _ (by omega)
  have h2 : a.1 / (Int.gcd a.1 b.1 : Int) * b.1 ≤ a.1 * b.1 := Int.mul_le_mul_of_nonneg_right h1 (by omega)
  have h3 : a.1 * b.1 ≤ 12 * 12 := Int.mul_le_mul ha2 hb2 (by omega) (by omega)
  omega
theorem lcm_short {as : List (Int × Int)} (h : as.length ≤ 2) (hp : Pos as) (h12 : ∀ a ∈ as, a.1 ≤ 12) : lcmF as 1 ≤ 144 := by
  match as, h with
  | [], _ => show (1 : Int) ≤ 144; omega
  | [a], _ =>
    show (Int.lcm 1 a.1 : Int) ≤ 144
    rw [lcm_one a.1 (hp a (by simp))]
    have := h12 a (by simp); omega
  | [a, b], _ => exact lcm_two (hp a (by simp)) (h12 a (by simp)) (hp b (by simp)) (h12 b (by simp))
theorem sum_add {α : Type} (f g : α → Int) (l : List α) : (l.map fun a => f a + g a).sum = (l.map f).sum + (l.map g).sum := by
  induction l with
  | nil => rfl
  | cons a l ih => simp [ih]; omega
theorem sum_zero {α : Type} (l : List α) : (l.map fun _ => (0 : Int)).sum = 0 := by
  induction l with
  | nil => rfl
  | cons a l ih => simp [ih]
theorem sum_one (f : Int → Int) (x : Nat) : ∀ m : Nat, ((List.range m).map fun k : Nat => f k * (if (k : Int) = (x : Int) then 1 else 0)).sum = if x < m then f x else 0
  | 0 => by simp
  | m + 1 => by
    rw [List.range_succ, List.map_append, List.sum_append, sum_one f x m]
    simp only [List.map_cons, List.map_nil, List.sum_cons, List.sum_nil]
    by_cases h : x < m
    · have : ¬ ((m : Int) = (x : Int)) := by omega
      simp [h, this, show x < m + 1 by omega]
    · by_cases e : x = m
      · subst e; simp
      · have : ¬ ((m : Int) = (x : Int)) := by omega
        simp [h, this, show ¬ x < m + 1 by omega]
theorem sum_count (f : Int → Int) {m : Nat} : ∀ {l : List Int}, (∀ x ∈ l, 0 ≤ x ∧ x < m) → ((List.range m).map fun k : Nat => f k * (l.count (k : Int) : Int)).sum = (l.map f).sum
  | [], _ => by simp [sum_zero]
  | x :: l, h => by
    have ih := sum_count f (l := l) fun y hy => h y (List.mem_cons_of_mem _ hy)
    obtain ⟨n, rfl⟩ := Int.eq_ofNat_of_zero_le (h x (by simp)).1
    have hn := (h (n : Int) (by simp)).2
    have e : ((List.range m).map fun k : Nat => f k * (((n : Int) :: l).count (k : Int) : Int)) = (List.range m).map fun k : Nat => f k * (l.count (k : Int) : Int) + f k * (if (k : Int) = (n : Int) then 1 else 0) := by
      refine List.map_congr_left fun k _ => ?_
      rw [List.count_cons]
      by_cases c : (n : Int) = (k : Int)
      · have c2 : (k : Int) = (n : Int) := c.symm
        simp [c, Int.mul_add]
      · have c2 : ¬ (k : Int) = (n : Int) := fun z => c z.symm
        simp [c, c2]
    rw [e, sum_add, ih, sum_one f n m, if_pos (by omega)]
    simp; omega
theorem szF_bd {as : List (Int × Int)} {L : Int} : ∀ x ∈ szF as L, 0 ≤ x ∧ x < (as.length + 1 : Nat) := fun x hx => by
  obtain ⟨t, _, rfl⟩ := List.mem_map.mp hx
  have := heardF_len t 0 as
  omega
theorem cntF_sum {as : List (Int × Int)} {L : Int} (h : 0 ≤ L) : (cntF as L).sum = L := by
  have := sum_count (fun _ => 1) (m := as.length + 1) (szF_bd (as := as) (L := L))
  unfold cntF
  simp only [Int.one_mul] at this
  rw [this]
  have : ∀ l : List Int, (l.map fun _ => (1 : Int)).sum = l.length := by
    intro l
    induction l with
    | nil => rfl
    | cons a l ih => simp [ih]; omega
  rw [this, szF, List.length_map, rangeI_length]
  omega
theorem cntF_rings {as : List (Int × Int)} (hA : AlA as) {L : Int} (h : 0 ≤ L) : ((List.range (as.length + 1)).map fun k : Nat => (k : Int) * ((szF as L).count (k : Int) : Int)).sum = cntI as L := by
  have := sum_count (fun x => x) (m := as.length + 1) (szF_bd (as := as) (L := L))
  rw [this]
  obtain ⟨n, rfl⟩ := Int.eq_ofNat_of_zero_le h
  have := cntI_sum hA n
  unfold szF
  rw [List.map_id']
  exact this
theorem crowd_cnt {as : List (Int × Int)} (hA : AlA as) : maxI ((rangeI 0 ((as.length : Int) + 1)).filter fun k => decide (0 < (cntF as (lcmF as 1)).getD k.toNat 0)) = some (crowdF as) := by
  have hg : ∀ k : Int, 0 ≤ k → k < (as.length : Int) + 1 → (cntF as (lcmF as 1)).getD k.toNat 0 = ((szF as (lcmF as 1)).count k : Int) := by
    intro k k0 k1
    obtain ⟨n, rfl⟩ := Int.eq_ofNat_of_zero_le k0
    have hn : n < as.length + 1 := by omega
    simp [cntF, List.getD, hn]
  obtain ⟨t, t0, t1, e⟩ := crowd_hit hA
  have hl := heardF_len t 0 as
  refine maxI_eq ?_ fun y hy => ?_
  · rw [List.mem_filter, mem_rangeI]
    refine ⟨by omega, ?_⟩
    rw [hg _ (by omega) (by omega)]
    have : crowdF as ∈ szF as (lcmF as 1) := List.mem_map.mpr ⟨t, mem_rangeI.mpr ⟨t0, t1⟩, e⟩
    have := List.count_pos_iff.mpr this
    simp; omega
  · rw [List.mem_filter, mem_rangeI] at hy
    obtain ⟨⟨y0, y1⟩, y2⟩ := hy
    rw [hg _ y0 y1] at y2
    have : 0 < (szF as (lcmF as 1)).count y := by simpa using y2
    obtain ⟨u, _, rfl⟩ := List.mem_map.mp (List.count_pos_iff.mp this)
    exact crowd_le hA u
/-- the law's row, cut where its cycle is long -/
theorem cut_row {wf : Nat} {as : List (Int × Int)} (hw : 1000 < wf) (h : Row as) (h12 : ∀ a ∈ as, a.1 ≤ 12) {x0 x1 : Option Sl} {y : En} : ∃ bs, (∀ b ∈ bs, b ∈ as) ∧ Row bs ∧ lcmF bs 1 ≤ 500 ∧
    sIf (c2 gtD (cV 3) (cC (.int 500))) (sSeq (sSet 2 (xD (cSlc (cV 2) oNone (oSome (cC (.int 2)))))) (sSet 3 (xD (cCall 1 (p__law_cycle wf) (aCons (cV 2) aNil))))) sNil (x0 :: x1 :: some (.dat (rowD as)) :: some (.dat (.int (lcmF as 1))) :: y) = .ok .nx (x0 :: x1 :: some (.dat (rowD bs)) :: some (.dat (.int (lcmF bs 1))) :: y) := by
  by_cases hc : 500 < lcmF as 1
  · have hR : Row (as.take 2) := h.sub (by have := h.1; simp; omega) fun b hb => List.mem_of_mem_take hb
    have hl := lcm_short (as := as.take 2) (by simp; omega) hR.pos fun a ha => h12 a (List.mem_of_mem_take ha)
    refine ⟨as.take 2, fun b hb => List.mem_of_mem_take hb, hR, by omega, if_yes (c2_ok rfl rfl (by simp [gtD, hc])) (seq_ok (set_ok (slc_ok rfl rfl rfl (slc_take as (by omega))) (by simp)) ?_)⟩
    refine set_ok (d := .int (lcmF (as.take 2) 1)) (call1_ok rfl (cyc_ok (as.take 2) fun a ha => ?_)) (by simp)
    have q := hR.2 a ha
    have := q.p1; have := q.p2
    omega
  · exact ⟨as, fun b hb => hb, h, by omega, if_no (c2_ok rfl rfl (by simp [gtD, hc]))⟩
theorem groups0_ok {wf : Nat} {n : Nat} (h : n ≤ 6) : p__law_groups wf [.int n] = .ok (.list ((subF n).map tupI)) := by
  have : n = 0 ∨ n = 1 ∨ n = 2 ∨ n = 3 ∨ n = 4 ∨ n = 5 ∨ n = 6 := by omega
  rcases this with rfl | rfl | rfl | rfl | rfl | rfl | rfl <;> kernel_rfl
theorem sum_mul {α : Type} (c : Int) (f : α → Int) (l : List α) : (l.map fun a => c * f a).sum = c * (l.map f).sum := by
  induction l with
  | nil => simp
  | cons a l ih => simp [ih, Int.mul_add]
theorem sum_swap {α β : Type} (f : α → β → Int) (l : List α) (m : List β) : (l.map fun a => (m.map fun b => f a b).sum).sum = (m.map fun b => (l.map fun a => f a b).sum).sum := by
  induction l with
  | nil => simp [sum_zero]
  | cons a l ih => simp only [List.map_cons, List.sum_cons, ih, sum_add]
theorem sum_congr {α : Type} {f g : α → Int} {l : List α} (h : ∀ a ∈ l, f a = g a) : (l.map f).sum = (l.map g).sum := by
  rw [List.map_congr_left h]
theorem sum_le {α : Type} {f g : α → Int} {l : List α} (h : ∀ a ∈ l, f a ≤ g a) : (l.map f).sum ≤ (l.map g).sum := by
  induction l with
  | nil => simp
  | cons a l ih =>
    have := h a (by simp)
    have := ih fun b hb => h b (List.mem_cons_of_mem _ hb)
    simp; omega
theorem sum_const {α : Type} (c : Int) (l : List α) : (l.map fun _ => c).sum = c * l.length := by
  induction l with
  | nil => simp
  | cons a l ih => simp [ih, Int.mul_add]; omega
def ifI (p : Prop) [Decidable p] : Int := if p then 1 else 0
/-- the times of an alarm of any period -/
theorem times_mod {p s : Int} (hp : 0 < p) (s0 : 0 ≤ s) (s1 : s < p) : ∀ n : Nat, ((rangeI 0 n).map fun t => ifI (t % p = s)).sum = ((n : Int) - s + p - 1) / p
  | 0 => by
    rw [show ((0 : Nat) : Int) - s + p - 1 = p - 1 - s by omega, Int.ediv_eq_zero_of_lt (by omega) (by omega)]
    rfl
  | n + 1 => by
    have ih := times_mod hp s0 s1 n
    rw [show ((n + 1 : Nat) : Int) = (n : Int) + 1 by omega, rangeI_succ (by omega), List.map_append, List.sum_append, ih, cnt_step hp s0 s1]
    simp [ifI]
theorem times_per {p s L : Int} (hp : 0 < p) (s0 : 0 ≤ s) (s1 : s < p) (hL : 0 ≤ L) (hd : p ∣ L) : ((rangeI 0 L).map fun t => ifI (t % p = s)).sum = L / p := by
  obtain ⟨n, rfl⟩ := Int.eq_ofNat_of_zero_le hL
  rw [times_mod hp s0 s1 n]
  obtain ⟨k, hk⟩ := hd
  rw [hk, Int.mul_ediv_cancel_left _ (by omega), show p * k - s + p - 1 = (p - 1 - s) + p * k by omega, Int.add_mul_ediv_left _ _ (by omega), Int.ediv_eq_zero_of_lt (by omega) (by omega)]
  omega
/-- how often the alarms of a group ring together in a cycle -/
def nF (as : List (Int × Int)) (g : List Int) : Int := if AllFit (chF as g) then lcmF as 1 / lcmF (chF as g) 1 else 0
theorem nF_sum {as : List (Int × Int)} (hA : AlA as) {g : List Int} (hb : ∀ x ∈ g, 0 ≤ x ∧ x < as.length) : nF as g = ((rangeI 0 (lcmF as 1)).map fun t => ifI (∀ x ∈ g, x ∈ heardF t 0 as)).sum := by
  have hL := lcmF_pos as 1 (by omega) hA.pos
  have hp : Pos (chF as g) := fun a ha => hA.pos a (chF_mem hb a ha)
  unfold nF
  by_cases hf : AllFit (chF as g)
  · obtain ⟨s1, s2, s3⟩ := TF_spec hp hf
    have hM := lcmF_pos (chF as g) 1 (by omega) hp
    have hd : lcmF (chF as g) 1 ∣ lcmF as 1 := lcmF_dvd _ 1 (Int.one_dvd _) fun a ha => lcm_dvd_all as a (chF_mem hb a ha)
    rw [if_pos hf, ← times_per hM s2 s3 (Int.le_of_lt hL) hd]
    refine sum_congr fun t _ => ?_
    have : (t % lcmF (chF as g) 1 = TF (chF as g)) ↔ ∀ x ∈ g, x ∈ heardF t 0 as := by
      rw [mod_iff hM s2 s3, ← sol_iff s1, sol_ch hA hb]
    unfold ifI
    simp only [this]
  · rw [if_neg hf]
    have : ∀ t, ¬ ∀ x ∈ g, x ∈ heardF t 0 as := fun t h => hf ((fits_iff hp).mpr ⟨t, (sol_ch hA hb).mpr h⟩)
    unfold ifI
    simp only [this, if_false, sum_zero]
/-- the groups within a set, weighed -/
theorem sub_weigh (w : Int) (S : List Int) : ∀ n : Nat, ((subF (n + 1)).map fun g => ifI (∀ x ∈ g, x ∈ S) * w ^ g.length).sum = ((subF n).map fun g => ifI (∀ x ∈ g, x ∈ S) * w ^ g.length).sum * (1 + ifI ((n : Int) ∈ S) * w) := by
  intro n
  have e : ((subF n).map fun g => ifI (∀ x ∈ g ++ [(n : Int)], x ∈ S) * w ^ (g ++ [(n : Int)]).length) = (subF n).map fun g => (ifI ((n : Int) ∈ S) * w) * (ifI (∀ x ∈ g, x ∈ S) * w ^ g.length) := by
    refine List.map_congr_left fun g _ => ?_
    have : (∀ x ∈ g ++ [(n : Int)], x ∈ S) ↔ (∀ x ∈ g, x ∈ S) ∧ (n : Int) ∈ S := by
      constructor
      · intro h; exact ⟨fun x hx => h x (by simp [hx]), h _ (by simp)⟩
      · rintro ⟨h1, h2⟩ x hx
        rcases List.mem_append.mp hx with h | h
        · exact h1 x h
        · simp at h; rw [h]; exact h2
    rw [List.length_append, List.length_singleton, Int.pow_succ]
    unfold ifI
    by_cases h1 : ∀ x ∈ g, x ∈ S <;> by_cases h2 : (n : Int) ∈ S
    · rw [if_pos (this.mpr ⟨h1, h2⟩), if_pos h2, if_pos h1, Int.one_mul, Int.one_mul, Int.one_mul, Int.mul_comm]
    · rw [if_neg (fun z => h2 (this.mp z).2), if_neg h2]; simp
    · rw [if_neg (fun z => h1 (this.mp z).1), if_neg h1]; simp
    · rw [if_neg (fun z => h1 (this.mp z).1), if_neg h1]; simp
  rw [subF, List.map_append, List.sum_append, List.map_map]
  have e2 : ((subF n).map ((fun g => ifI (∀ x ∈ g, x ∈ S) * w ^ g.length) ∘ fun g => g ++ [(n : Int)])) = (subF n).map fun g => ifI (∀ x ∈ g ++ [(n : Int)], x ∈ S) * w ^ (g ++ [(n : Int)]).length := rfl
  rw [e2, e, sum_mul, Int.mul_add, Int.mul_one, Int.mul_comm (ifI ((n : Int) ∈ S) * w)]
theorem sub_neg (S : List Int) : ∀ n : Nat, ((subF n).map fun g => ifI (∀ x ∈ g, x ∈ S) * (-1) ^ g.length).sum = ifI (∀ i : Nat, i < n → (i : Int) ∉ S)
  | 0 => by simp [subF, ifI]
  | n + 1 => by
    rw [sub_weigh, sub_neg S n]
    unfold ifI
    by_cases h1 : ∀ i : Nat, i < n → (i : Int) ∉ S
    · by_cases h2 : (n : Int) ∈ S
      · have : ¬ ∀ i : Nat, i < n + 1 → (i : Int) ∉ S := fun h => h n (by omega) h2
        simp [h1, h2, this]
      · have : ∀ i : Nat, i < n + 1 → (i : Int) ∉ S := fun i hi => by
          rcases Nat.lt_or_ge i n with c | c
          · exact h1 i c
          · have : i = n := by omega
            rw [this]; exact h2
        rw [if_pos h1, if_neg h2, if_pos this]; simp
    · have : ¬ ∀ i : Nat, i < n + 1 → (i : Int) ∉ S := fun h => h1 fun i hi => h i (by omega)
      rw [if_neg h1, if_neg this]; simp
theorem sub_pos (S : List Int) : ∀ n : Nat, ((subF n).map fun g => ifI (∀ x ∈ g, x ∈ S) * 1 ^ g.length).sum = 2 ^ ((List.range n).filter fun i : Nat => decide ((i : Int) ∈ S)).length
  | 0 => by simp [subF, ifI]
  | n + 1 => by
    rw [sub_weigh, sub_pos S n, List.range_succ, List.filter_append, List.length_append]
    by_cases h2 : (n : Int) ∈ S
    · simp [ifI, h2, Int.pow_succ]
    · simp [ifI, h2]
theorem heard_nil {as : List (Int × Int)} {t : Int} : (∀ i : Nat, i < as.length → (i : Int) ∉ heardF t 0 as) ↔ heardF t 0 as = [] := by
  constructor
  · intro h
    cases q : heardF t 0 as with
    | nil => rfl
    | cons x l =>
      have hx : x ∈ heardF t 0 as := by rw [q]; simp
      obtain ⟨x0, x1⟩ := heard_bd x hx
      obtain ⟨n, rfl⟩ := Int.eq_ofNat_of_zero_le x0
      exact absurd hx (h n (by omega))
  · intro h i _ z; rw [h] at z; simp at z
theorem heard_cnt {as : List (Int × Int)} {t : Int} : ((List.range as.length).filter fun i : Nat => decide ((i : Int) ∈ heardF t 0 as)).length = (heardF t 0 as).length := by
  have e : ((List.range as.length).filter fun i : Nat => decide ((i : Int) ∈ heardF t 0 as)).map (fun i : Nat => (i : Int)) = heardF t 0 as := by
    refine sorted_ext ?_ (heardF_sorted _ _) fun x => ?_
    · rw [List.pairwise_map]
      exact (List.pairwise_lt_range.filter _).imp fun h => by omega
    · rw [List.mem_map]
      constructor
      · rintro ⟨i, hi, rfl⟩
        rw [List.mem_filter] at hi
        simpa using hi.2
      · intro hx
        obtain ⟨x0, x1⟩ := heard_bd x hx
        obtain ⟨n, rfl⟩ := Int.eq_ofNat_of_zero_le x0
        exact ⟨n, by rw [List.mem_filter, List.mem_range]; exact ⟨by omega, by simpa using hx⟩, rfl⟩
  have := congrArg List.length e
  rw [List.length_map] at this
  exact this
theorem sgn_pow : ∀ n : Nat, (-1 : Int) ^ n = if n % 2 = 0 then 1 else -1
  | 0 => rfl
  | n + 1 => by
    rw [Int.pow_succ, sgn_pow n]
    by_cases h : n % 2 = 0
    · rw [if_pos h, if_neg (by omega)]; rfl
    · rw [if_neg h, if_pos (by omega)]; rfl
theorem silent_sum {as : List (Int × Int)} (hA : AlA as) : ((subF as.length).map fun g => (if g.length % 2 = 0 then nF as g else -nF as g)).sum = ((rangeI 0 (lcmF as 1)).map fun t => ifI (heardF t 0 as = [])).sum := by
  have e : ((subF as.length).map fun g => (if g.length % 2 = 0 then nF as g else -nF as g)) = (subF as.length).map fun g => ((rangeI 0 (lcmF as 1)).map fun t => ifI (∀ x ∈ g, x ∈ heardF t 0 as) * (-1) ^ g.length).sum := by
    refine List.map_congr_left fun g hg => ?_
    have := nF_sum hA (mem_subF.mp hg).2
    have e2 : ((rangeI 0 (lcmF as 1)).map fun t => ifI (∀ x ∈ g, x ∈ heardF t 0 as) * (-1) ^ g.length) = (rangeI 0 (lcmF as 1)).map fun t => (-1) ^ g.length * ifI (∀ x ∈ g, x ∈ heardF t 0 as) := List.map_congr_left fun t _ => Int.mul_comm _ _
    rw [e2, sum_mul, ← this, sgn_pow]
    split <;> omega
  rw [e, sum_swap]
  refine sum_congr fun t _ => ?_
  rw [sub_neg]
  unfold ifI
  simp only [heard_nil]
theorem pairs_sum {as : List (Int × Int)} (hA : AlA as) : ((subF as.length).map (nF as)).sum = ((rangeI 0 (lcmF as 1)).map fun t => (2 : Int) ^ (heardF t 0 as).length).sum := by
  have e : ((subF as.length).map (nF as)) = (subF as.length).map fun g => ((rangeI 0 (lcmF as 1)).map fun t => ifI (∀ x ∈ g, x ∈ heardF t 0 as) * 1 ^ g.length).sum := by
    refine List.map_congr_left fun g hg => ?_
    rw [nF_sum hA (mem_subF.mp hg).2]
    refine sum_congr fun t _ => ?_
    rw [Int.one_pow, Int.mul_one]
  rw [e, sum_swap]
  refine sum_congr fun t _ => ?_
  rw [sub_pos, heard_cnt]
theorem cnt_ifI (l : List Int) (k : Int) : (l.count k : Int) = (l.map fun x => ifI (x = k)).sum := by
  induction l with
  | nil => rfl
  | cons x l ih =>
    rw [List.count_cons]
    rw [List.map_cons, List.sum_cons, ← ih]
    by_cases h : x = k
    · rw [show ifI (x = k) = 1 from if_pos h]
      simp [h]; omega
    · rw [show ifI (x = k) = 0 from if_neg h]
      simp [h]
theorem if_expr {t f g : Ex} {r : En} {b : Bool} {d : PyData} (h : t r = .ok (.bool b)) (h1 : b = true → f r = .ok d) (h2 : b = false → g r = .ok d) : cIf t f g r = .ok d := by
  unfold cIf
  rw [cT_ok h]
  cases b
  · simpa using h2 rfl
  · simpa using h1 rfl
theorem subF_len {n : Nat} (h : n ≤ 6) : (subF n).length ≤ 64 := by
  have : n = 0 ∨ n = 1 ∨ n = 2 ∨ n = 3 ∨ n = 4 ∨ n = 5 ∨ n = 6 := by omega
  rcases this with rfl | rfl | rfl | rfl | rfl | rfl | rfl <;> decide +kernel
/-! ### the later laws' own counting -/
theorem heardF_filter {t : Int} : ∀ (as : List (Int × Int)) (k : Nat), (heardF t k as).length = (as.filter fun a => decide (t % a.1 = a.2)).length
  | [], _ => rfl
  | a :: as, k => by
    have ih := heardF_filter (t := t) as (k + 1)
    have e : heardF t k (a :: as) = if t % a.1 = a.2 then (k : Int) :: heardF t (k + 1) as else heardF t (k + 1) as := rfl
    rw [e]
    by_cases c : t % a.1 = a.2
    · simp [c, ih]
    · simp [c, ih]
theorem count_ok {wf : Nat} {as : List (Int × Int)} {t : Int} (h : Row as) : p__law_count wf [rowD as, .int t] = .ok (.int (heardF t 0 as).length) := by
  unfold p__law_count
  refine run_ret (ret_ok (c1_ok (cL_ok (comp_ok (mk := alD) (is := as) rfl (len_SZ h.1) (fun a => [some (.dat (rowD as)), some (.dat (.int t)), some (.dat (.int a.1)), some (.dat (.int a.2))]) (fun a => decide (t % a.1 = a.2)) (fun _ => .int 1) (fun a ha => ⟨rfl, ?_, fun _ => rfl⟩))) ?_))
  · have q := (h.2 a ha).p1
    exact cT_ok (c2_ok (c2_ok rfl rfl (modD_ok (by omega))) rfl (eqD_dec _ _))
  · simp [lenD, heardF_filter]
theorem gcd_loop2 {x0 x1 x2 x3 : Option Sl} {n : Nat} : ∀ (b : Nat) (a : Nat), b ≤ n → ∃ z : Int, whGo (c2 gtD (cV 5) (cC (.int 0))) (sPar 4 5 (xD (cV 5)) (xD (c2 modD (cV 4) (cV 5)))) (n + 1) [x0, x1, x2, x3, some (.dat (.int a)), some (.dat (.int b))] = .ok .nx [x0, x1, x2, x3, some (.dat (.int (Nat.gcd a b))), some (.dat (.int z))] := by
  induction n with
  | zero =>
    intro b a h
    have : b = 0 := by omega
    subst this
    exact ⟨0, by simp [whGo, runD, startE, sIf, sRet, sDrop, sRaise, sSet, sPar, sPar3, sAsg, put, Rt.lift, xD, xO, cV, cC, c1, c2, cT, cAnd, cOr, cIf, cCh, asB, cTup, cLst, cL, cCall, cCall0, cIxV, cLenV, aNil, aCons, oNone, oSome, asI, cSlc, iVal, iRng1, iRng2, itemsD, gN, gT, gCons, gNil, addD, subD, mulD, fdivD, modD, powD, negD, notD, ltD, leD, gtD, geD, isNoneD, notNoneD, isNoneB, isBoolD, notBoolD, idxD, itemAt, lenD, absD, isiD, isiB, max2D, min2D, tupleD, listD, inB, in62, B64, R62, SZ, sNil, L2.atI, L2.ixN, R.bind_ok, R.bind_exc, R.bind_bad, R.nox_ok, R.nox_exc, R.nox_bad]⟩
  | succ n ih =>
    intro b a h
    by_cases hb : b = 0
    · subst hb
      exact ⟨0, by simp [whGo, runD, startE, sIf, sRet, sDrop, sRaise, sSet, sPar, sPar3, sAsg, put, Rt.lift, xD, xO, cV, cC, c1, c2, cT, cAnd, cOr, cIf, cCh, asB, cTup, cLst, cL, cCall, cCall0, cIxV, cLenV, aNil, aCons, oNone, oSome, asI, cSlc, iVal, iRng1, iRng2, itemsD, gN, gT, gCons, gNil, addD, subD, mulD, fdivD, modD, powD, negD, notD, ltD, leD, gtD, geD, isNoneD, notNoneD, isNoneB, isBoolD, notBoolD, idxD, itemAt, lenD, absD, isiD, isiB, max2D, min2D, tupleD, listD, inB, in62, B64, R62, SZ, sNil, L2.atI, L2.ixN, R.bind_ok, R.bind_exc, R.bind_bad, R.nox_ok, R.nox_exc, R.nox_bad]⟩
    · obtain ⟨z, hz⟩ := ih (a % b) b (by have := Nat.mod_lt a (Nat.pos_of_ne_zero hb); omega)
      refine ⟨z, ?_⟩
      rw [whGo]
      have hb' : (0 : Int) < (b : Int) := by omega
      simp only [runD, startE, sIf, sRet, sDrop, sRaise, sSet, sPar, sPar3, sAsg, put, Rt.lift, xD, xO, cV, cC, c1, c2, cT, cAnd, cOr, cIf, cCh, asB, cTup, cLst, cL, cCall, cCall0, cIxV, cLenV, aNil, aCons, oNone, oSome, asI, cSlc, iVal, iRng1, iRng2, itemsD, gN, gT, gCons, gNil, addD, subD, mulD, fdivD, modD, powD, negD, notD, ltD, leD, gtD, geD, isNoneD, notNoneD, isNoneB, isBoolD, notBoolD, idxD, itemAt, lenD, absD, isiD, isiB, max2D, min2D, tupleD, listD, inB, in62, B64, R62, SZ, sNil, L2.atI, L2.ixN, R.bind_ok, R.bind_exc, R.bind_bad, R.nox_ok, R.nox_exc, R.nox_bad, List.getElem?_cons_zero, List.getElem?_cons_succ, hb', decide_true, if_true]
      simp only [List.length_cons, List.length_nil, List.set_cons_zero, List.set_cons_succ]
      have e : ((a : Int) % (b : Int)) = ((a % b : Nat) : Int) := by simp
      simp only [e]
      have g : Nat.gcd a b = Nat.gcd b (a % b) := by rw [Nat.gcd_comm a b, Nat.gcd_rec b a, Nat.gcd_comm]
      rw [g]
      simpa using hz
theorem cyc2_for {wf : Nat} {x0 : Option Sl} (hw : 60 < wf) : ∀ (as : List (Int × Int)) (L : Int) (x2 x3 x4 x5 : Option Sl), 0 < L → AlA as → ∃ y2 y3 y4 y5, forGo (gT (gCons (gN 2) (gCons (gN 3) gNil))) (sSeq (sPar 4 5 (xD (cV 1)) (xD (cV 2)))
    (sSeq (sWh wf (c2 gtD (cV 5) (cC (.int 0))) (sPar 4 5 (xD (cV 5)) (xD (c2 modD (cV 4) (cV 5)))))
    (sSet 1 (xD (c2 mulD (c2 fdivD (cV 1) (cV 4)) (cV 2)))))) (as.map alD) [x0, some (.dat (.int L)), x2, x3, x4, x5] = .ok .nx [x0, some (.dat (.int (lcmF as L))), y2, y3, y4, y5]
  | [], L, x2, x3, x4, x5, _, _ => ⟨x2, x3, x4, x5, rfl⟩
  | a :: as, L, x2, x3, x4, x5, hL, h => by
    have q := h a (by simp)
    have q1 := q.p1; have q2 := q.p2
    obtain ⟨u, rfl⟩ := Int.eq_ofNat_of_zero_le (Int.le_of_lt hL)
    obtain ⟨v, hv⟩ := Int.eq_ofNat_of_zero_le (a := a.1) (by omega)
    obtain ⟨n, rfl⟩ : ∃ n, wf = n + 1 := ⟨wf - 1, by omega⟩
    obtain ⟨z, hz⟩ := gcd_loop2 (x0 := x0) (x1 := some (.dat (.int u))) (x2 := some (.dat (.int a.1))) (x3 := some (.dat (.int a.2))) (n := n) v u (by omega)
    have eg : (Nat.gcd u v : Int) = (Int.gcd (u : Int) a.1 : Int) := by rw [hv]; simp [Int.gcd]
    obtain ⟨y2, y3, y4, y5, e⟩ := cyc2_for (x0 := x0) hw as (Int.lcm u a.1) (some (.dat (.int a.1))) (some (.dat (.int a.2))) (some (.dat (.int (Nat.gcd u v)))) (some (.dat (.int z))) (lcm_pos' hL (by omega)) (fun b hb => h b (List.mem_cons_of_mem _ hb))
    refine ⟨y2, y3, y4, y5, ?_⟩
    have hg := gcd_pos (p := (u : Int)) (q := a.1) hL
    have hgq := gcd_le_right (p := (u : Int)) (q := a.1) hL (by omega)
    have hm := div_gcd_mul (p := (u : Int)) (q := a.1) hL (by omega)
    have hb : (sSeq (sPar 4 5 (xD (cV 1)) (xD (cV 2)))
        (sSeq (sWh (n + 1) (c2 gtD (cV 5) (cC (.int 0))) (sPar 4 5 (xD (cV 5)) (xD (c2 modD (cV 4) (cV 5)))))
        (sSet 1 (xD (c2 mulD (c2 fdivD (cV 1) (cV 4)) (cV 2)))))) [x0, some (.dat (.int u)), some (.dat (.int a.1)), some (.dat (.int a.2)), x4, x5] = .ok .nx [x0, some (.dat (.int (Int.lcm u a.1))), some (.dat (.int a.1)), some (.dat (.int a.2)), some (.dat (.int (Nat.gcd u v))), some (.dat (.int z))] := by
      refine seq_ok (par_ok (d := .int u) (d2 := .int v) rfl (by rw [← hv]; rfl) (by simp) (by simp)) (seq_ok hz (set_ok (d := .int (Int.lcm u a.1)) (c2_ok (c2_ok rfl rfl (fdiv_ok (by rw [eg]; omega) (by rw [eg]; omega))) rfl ?_) (by simp)))
      rw [mul_small (.inr (inB_small (by omega) (by omega))), eg, hm]
    rw [List.map_cons, forGo]
    have hg2 : gT (gCons (gN 2) (gCons (gN 3) gNil)) (alD a) [x0, some (.dat (.int u)), x2, x3, x4, x5] = .ok [x0, some (.dat (.int u)), some (.dat (.int a.1)), some (.dat (.int a.2)), x4, x5] := rfl
    rw [hg2]
    simp only [hb]
    exact e
theorem cyc2_ok {wf : Nat} {as : List (Int × Int)} (hw : 60 < wf) (h : AlA as) : p__law_cycle_v2 wf [rowD as] = .ok (.int (lcmF as 1)) := by
  obtain ⟨y2, y3, y4, y5, e⟩ := cyc2_for (wf := wf) (x0 := some (.dat (rowD as))) hw as 1 none none none none (by omega) h
  unfold p__law_cycle_v2
  exact run_ret (seq_ok (set_ok (d := .int 1) rfl (by simp [startE])) (seq_ok e (ret_ok rfl)))
/-! ### rows whose periods divide 120 -/
theorem alarm2_dvd {wf : Nat} {ns : List Int} (hl : ns.length ≤ 63) {k : Int} (k0 : 0 ≤ k) (k1 : k < 1900) (hw : 2000 < wf) : ∃ p s, p__law_alarm_v2 wf [.list (ns.map .int), .int k] = .ok (alarmD p s) ∧ 1 ≤ p ∧ p ≤ 12 ∧ p ∣ 120 ∧ 0 ≤ s ∧ s < p := by
  obtain ⟨v, hv, v0, v1⟩ := drawn_ok (wf := wf) hl (many := 10) k0 (by omega) hw (by omega)
  obtain ⟨p, hp, p1, p2, p3⟩ : ∃ p : Int, idxD (.list [.int 1, .int 2, .int 3, .int 4, .int 6, .int 8, .int 5, .int 12, .int 10, .int 4]) (.int v) = .ok (.int p) ∧ 1 ≤ p ∧ p ≤ 12 ∧ p ∣ 120 := by
    have : v = 0 ∨ v = 1 ∨ v = 2 ∨ v = 3 ∨ v = 4 ∨ v = 5 ∨ v = 6 ∨ v = 7 ∨ v = 8 ∨ v = 9 := by omega
    rcases this with rfl | rfl | rfl | rfl | rfl | rfl | rfl | rfl | rfl | rfl <;> exact ⟨_, rfl, by decide, by decide, by decide⟩
  obtain ⟨s, hs, s0, s1⟩ := drawn_ok (wf := wf) hl (k := k + 1) (many := p) (by omega) (by omega) hw (by omega)
  refine ⟨p, s, ?_, p1, p2, p3, s0, s1⟩
  unfold p__law_alarm_v2
  refine run_ret (seq_ok (set_ok (d := .int p) (c2_ok (a := .list [.int 1, .int 2, .int 3, .int 4, .int 6, .int 8, .int 5, .int 12, .int 10, .int 4]) rfl (call3_ok rfl rfl rfl hv) hp) (by simp [startE])) (ret_ok (tup_al rfl (call3_ok rfl (c2_ok rfl rfl rfl) rfl hs))))
theorem row2_dvd {wf : Nat} {ns : List Int} (hl : ns.length ≤ 63) {k most : Int} (k0 : 0 ≤ k) (k1 : k < 1800) (m0 : 0 ≤ most) (m1 : most ≤ 6) (hw : 2000 < wf) : ∃ as : List (Int × Int), p__law_row_v2 wf [.list (ns.map .int), .int k, .int most] = .ok (rowD as) ∧ (as.length : Int) ≤ most ∧ (∀ a ∈ as, a.1 ∣ 120) ∧ Row as := by
  obtain ⟨v, hv, v0, v1⟩ := drawn_ok (wf := wf) hl (k := k) (many := most + 1) k0 (by omega) hw (by omega)
  obtain ⟨as, h1, h2, h3⟩ := comp_ex (vs := [3]) (src := iRng1 (cCall 3 (p__law_drawn wf) (aCons (cV 0) (aCons (cV 1) (aCons (c2 addD (cV 2) (cC (.int 1))) aNil))))) (g := gN 3) (e := cCall 2 (p__law_alarm_v2 wf) (aCons (cV 0) (aCons (c2 addD (c2 addD (cV 1) (cC (.int 1))) (c2 mulD (cC (.int 2)) (cV 3))) aNil))) (r := startE 4 [.list (ns.map .int), .int k, .int most]) (mk := .int) (mk2 := alD) (P := fun a => a.1 ∣ 120 ∧ Al a.1 a.2) (is := rangeI 0 v)
    (rng1_ok (call3_ok rfl rfl (c2_ok rfl rfl rfl) hv) (by omega) (by omega)) (le_SZ (by rw [rangeI_length]; omega))
    (fun i => [some (.dat (.list (ns.map .int))), some (.dat (.int k)), some (.dat (.int most)), some (.dat (.int i))])
    (fun i hi => ⟨rfl, by
      rw [mem_rangeI] at hi
      obtain ⟨p, s, e, p1, p2, p3, s0, s1⟩ := alarm2_dvd (wf := wf) hl (k := k + 1 + 2 * i) (by omega) (by omega) hw
      have hB := inB_small (k := i) (by omega) (by omega)
      exact ⟨(p, s), call2_ok rfl (c2_ok (c2_ok rfl rfl rfl) (c2_ok rfl rfl (mul_small (.inr hB))) rfl) e, p3, p1, by show p ≤ 60; omega, s0, s1⟩⟩)
  rw [rangeI_length] at h1
  refine ⟨as, ?_, by omega, fun a ha => (h2 a ha).1, by omega, fun a ha => (h2 a ha).2⟩
  unfold p__law_row_v2
  exact run_ret (ret_ok (c1_ok (cL_ok h3) rfl))
theorem lcm_120 {as : List (Int × Int)} (h : ∀ a ∈ as, a.1 ∣ 120) : lcmF as 1 ≤ 120 := Int.le_of_dvd (by decide) (lcmF_dvd as 1 (by decide) h)
/-! ### values that are refused -/
def badA : List PyData := [.none, .tuple [], alarmD 4 4, alarmD 0 0, alarmD 61 0, alarmD 4 (-1), .tuple [.bool true, .int 0], .list [.int 4, .int 1], .tuple [.int 4, .int 1, .int 0]]
def badR : List PyData := [.none, .list [], .list [alarmD 4 1], .tuple [alarmD 4 4], .tuple [alarmD 0 0], .tuple [alarmD 61 0], .tuple [alarmD 4 (-1)], .tuple [.tuple [.bool true, .int 0]], .tuple [.tuple [.int 4]], .tuple [alarmD 4 1, alarmD 4 1, alarmD 4 1, alarmD 4 1, alarmD 4 1, alarmD 4 1, alarmD 4 1], .tuple [.int 4, .int 1]]
theorem badA_exc {wf : Nat} : ∀ d ∈ badA, p_check_alarm wf [d] = .exc "InvalidAlarm" := by
  intro d hd
  simp only [badA, List.mem_cons, List.not_mem_nil, or_false] at hd
  rcases hd with rfl | rfl | rfl | rfl | rfl | rfl | rfl | rfl | rfl <;> rfl
theorem badR_exc {wf : Nat} : ∀ d ∈ badR, p_check_row wf [d] = .exc "InvalidRow" := by
  intro d hd
  simp only [badR, List.mem_cons, List.not_mem_nil, or_false] at hd
  rcases hd with rfl | rfl | rfl | rfl | rfl | rfl | rfl | rfl | rfl | rfl | rfl <;> rfl
theorem badalarm_ok {wf : Nat} {ns : List Int} (hl : ns.length ≤ 63) {k : Int} (k0 : 0 ≤ k) (k1 : k < 1900) (hw : 2000 < wf) : ∃ d ∈ badA, p__law_badalarm wf [.list (ns.map .int), .int k] = .ok d := by
  obtain ⟨v, hv, v0, v1⟩ := drawn_ok (wf := wf) hl (many := 9) k0 (by omega) hw (by omega)
  obtain ⟨d, hd, e⟩ : ∃ d ∈ badA, idxD (.list badA) (.int v) = .ok d := by
    have : v = 0 ∨ v = 1 ∨ v = 2 ∨ v = 3 ∨ v = 4 ∨ v = 5 ∨ v = 6 ∨ v = 7 ∨ v = 8 := by omega
    rcases this with rfl | rfl | rfl | rfl | rfl | rfl | rfl | rfl | rfl <;> exact ⟨_, by simp [badA], rfl⟩
  refine ⟨d, hd, ?_⟩
  unfold p__law_badalarm
  exact run_ret (ret_ok (c2_ok (a := .list badA) rfl (call3_ok rfl rfl rfl hv) e))
theorem badrow_ok {wf : Nat} {ns : List Int} (hl : ns.length ≤ 63) {k : Int} (k0 : 0 ≤ k) (k1 : k < 1900) (hw : 2000 < wf) : ∃ d ∈ badR, p__law_badrow wf [.list (ns.map .int), .int k] = .ok d := by
  obtain ⟨v, hv, v0, v1⟩ := drawn_ok (wf := wf) hl (many := 11) k0 (by omega) hw (by omega)
  obtain ⟨d, hd, e⟩ : ∃ d ∈ badR, idxD (.list badR) (.int v) = .ok d := by
    have : v = 0 ∨ v = 1 ∨ v = 2 ∨ v = 3 ∨ v = 4 ∨ v = 5 ∨ v = 6 ∨ v = 7 ∨ v = 8 ∨ v = 9 ∨ v = 10 := by omega
    rcases this with rfl | rfl | rfl | rfl | rfl | rfl | rfl | rfl | rfl | rfl | rfl <;> exact ⟨_, by simp [badR], rfl⟩
  refine ⟨d, hd, ?_⟩
  unfold p__law_badrow
  refine run_ret (seq_ok (set_ok (d := .list (badR.take 8)) rfl (by simp [startE])) (seq_ok (set_ok (d := .list badR) rfl (by simp [startE])) (ret_ok ?_)))
  have hx := call3_ok (g := p__law_drawn wf) (f1 := cV 0) (f2 := cV 1) (f3 := cC (.int 11)) (r := [some (.dat (.list (ns.map .int))), some (.dat (.int k)), some (.dat (.list badR))]) rfl rfl rfl hv
  show cIxV 2 _ [some (.dat (.list (ns.map .int))), some (.dat (.int k)), some (.dat (.list badR))] = _
  unfold cIxV
  rw [hx]
  simp [e]
theorem drop_exc {f : Ex} {r : En} {c : Str} (h : f r = .exc c) : sDrop f r = .exc c r := by
  unfold sDrop; rw [h]; rfl
theorem run_exc {n : Nat} {b : Ss} {ds : List PyData} {c : Str} {r : En} (h : b (startE n ds) = .exc c r) : runD n b ds = .exc c := by
  unfold runD; rw [h]
theorem check_two_exc1 {wf : Nat} {a b : PyData} (h : p_check_alarm wf [a] = .exc "InvalidAlarm") : p_check_two wf [a, b] = .exc "InvalidAlarm" := by
  unfold p_check_two
  exact run_exc (seq_exc (drop_exc (call1_ok rfl h)))
theorem check_two_exc2 {wf : Nat} {a b : PyData} (h0 : p_check_alarm wf [a] = .ok .none) (h : p_check_alarm wf [b] = .exc "InvalidAlarm") : p_check_two wf [a, b] = .exc "InvalidAlarm" := by
  unfold p_check_two
  exact run_exc (seq_ok (drop_ok (call1_ok rfl h0)) (drop_exc (call1_ok rfl h)))
theorem try_exc {i : Nat} {m : Str → Option Bool} {b : Ss} {h : Str → Ss} {r r1 : En} {c : Str} {x : PyData} {r2 : En} (h1 : b r = .exc c r1) (h2 : m c = some true) (h3 : i < r1.length) (h4 : h c (r1.set i none) = .ok (.ret x) r2) : sTry i m b h r = .ok (.ret x) r2 := by
  unfold sTry; rw [h1]; simp [h2, h3, h4]
theorem try_ok {i : Nat} {m : Str → Option Bool} {b : Ss} {h : Str → Ss} {r r1 : En} (h1 : b r = .ok .nx r1) : sTry i m b h r = .ok .nx r1 := by
  unfold sTry; rw [h1]
/-! ### naive functions -/
theorem naive_meet_ok {wf : Nat} {p s q t : Int} (h1 : Al p s) (h2 : Al q t) : p_naive_meet wf [alarmD p s, alarmD q t] = .ok (.bool (decide ((Int.gcd p q : Int) ∣ s - t))) := by
  have a1 := h1.p1; have a2 := h1.p2; have b1 := h2.p1; have b2 := h2.p2
  have hpq : p * q ≤ 60 * 60 := Int.mul_le_mul a2 b2 (by omega) (by omega)
  have hpq0 : 0 < p * q := Int.mul_pos (by omega) (by omega)
  unfold p_naive_meet
  refine run_ret (seq_ok (drop_ok (call2_ok rfl rfl (check_two_ok h1.p1 h1.p2 h1.s0 h1.s1 h2.p1 h2.p2 h2.s0 h2.s1))) (ret_ok (c1_ok (cL_ok (comp_map (mk := .int) (is := rangeI 0 (p * q)) (rng1_ok (c2_ok (a := .int p) (b := .int q) rfl rfl (mul_small (.inl (inB_small (by omega) (by omega))))) (by omega) (by omega)) (le_SZ (by rw [rangeI_length]; omega)) (fun x => [some (.dat (alarmD p s)), some (.dat (alarmD q t)), some (.dat (.int x))]) (fun x => .bool (decide (x % p = s) && decide (x % q = t))) (fun x _ => ⟨rfl, and_ok (call2_ok rfl rfl (does_ring_ok (by omega))) fun _ => call2_ok rfl rfl (does_ring_ok (by omega))⟩))) ?_)))
  have e : ((rangeI 0 (p * q)).map fun x => PyData.bool (decide (x % p = s) && decide (x % q = t))) = ((rangeI 0 (p * q)).map fun x => decide (x % p = s) && decide (x % q = t)).map .bool := by simp [List.map_map, Function.comp_def]
  rw [e, anyD_bools]
  congr 2
  rw [Bool.eq_iff_iff, List.any_eq_true, decide_eq_true_iff]
  constructor
  · rintro ⟨b, hb, hb2⟩
    obtain ⟨x, _, rfl⟩ := List.mem_map.mp hb
    simp only [id, Bool.and_eq_true, decide_eq_true_eq] at hb2
    exact solve_dvd ((mod_iff (by omega) h1.s0 h1.s1).mp hb2.1) ((mod_iff (by omega) h2.s0 h2.s1).mp hb2.2)
  · intro hd
    obtain ⟨z, z0, z1, z2, z3⟩ := solve_in (p := p) (q := q) (by omega) (by omega) hd 0
    have hm := div_gcd_mul (p := p) (q := q) (by omega) (by omega)
    have hl : (Int.lcm p q : Int) ≤ p * q := by rw [← hm]; exact Int.mul_le_mul_of_nonneg_right (Int.ediv_le_self _ (by omega)) (by omega)
    refine ⟨true, List.mem_map.mpr ⟨z, mem_rangeI.mpr ⟨z0, by omega⟩, ?_⟩, rfl⟩
    rw [(mod_iff (by omega) h1.s0 h1.s1).mpr z2, (mod_iff (by omega) h2.s0 h2.s1).mpr z3]
    simp
theorem naive_crowd_ok {wf : Nat} {as : List (Int × Int)} (hw : 60 < wf) (h : Row as) (h5 : lcmF as 1 ≤ 5000) : p_naive_crowd wf [rowD as] = .ok (.int (crowdF as)) := by
  have hL := lcmF_pos as 1 (by omega) h.pos
  unfold p_naive_crowd
  refine run_ret (seq_ok (drop_ok (call1_ok rfl (check_row_ok h))) (seq_ok (drop_ok (call1_ok rfl (check_cycle_ok hw h h5))) (ret_ok (c1_ok (cL_ok (comp_map (mk := .int) (is := rangeI 0 (lcmF as 1)) (rng1_ok (call1_ok rfl (find_cycle_ok hw h.2)) (by omega) (by omega)) (le_SZ (by rw [rangeI_length]; omega)) (fun x => [some (.dat (rowD as)), some (.dat (.int x))]) (fun x => .int (heardF x 0 as).length) (fun x _ => ⟨rfl, c1_ok (call2_ok rfl rfl (find_ringing_ok h)) (by simp [lenD])⟩))) ?_))))
  have e : ((rangeI 0 (lcmF as 1)).map fun x => PyData.int ((heardF x 0 as).length : Int)) = ((rangeI 0 (lcmF as 1)).map fun t => ((heardF t 0 as).length : Int)).map .int := by simp [List.map_map, Function.comp_def]
  rw [e]
  exact maxD_ints (crowd_max h.2)
/-! ### the first time of the greatest crowd -/
theorem crowd_pos {as : List (Int × Int)} (hA : AlA as) (hn : as ≠ []) : 1 ≤ crowdF as := by
  cases as with
  | nil => exact absurd rfl hn
  | cons a as =>
    have q := hA a (by simp)
    have q1 := q.p1
    have := crowd_le hA a.2
    have e : heardF a.2 0 (a :: as) = if a.2 % a.1 = a.2 then (0 : Int) :: heardF a.2 1 as else heardF a.2 1 as := rfl
    rw [e, if_pos (Int.emod_eq_of_lt q.s0 q.s1)] at this
    simp at this
    omega
theorem big_group {as : List (Int × Int)} {g : List Int} (hg : g ∈ bigF as) : g ∈ meetF as ∧ (g.length : Int) = crowdF as := by
  unfold bigF at hg
  rw [List.mem_filter] at hg
  exact ⟨hg.1, by simpa using hg.2⟩
theorem crowd_first {as : List (Int × Int)} (h : Row as) (hn : as ≠ []) {j : Nat} (hj : (szF as (lcmF as 1)).findIdx? (fun z => decide (z = crowdF as)) = some j) : minI ((bigF as).map fun g => TF (chF as g)) = some (j : Int) := by
  have hA : AlA as := h.2
  have hL := lcmF_pos as 1 (by omega) h.pos
  obtain ⟨h1, h2, h3⟩ := List.findIdx?_eq_some_iff_getElem.mp hj
  have hlen : (szF as (lcmF as 1)).length = (lcmF as 1).toNat := by unfold szF; rw [List.length_map, rangeI_length]; simp
  have hget : ∀ i : Nat, (hi : i < (szF as (lcmF as 1)).length) → (szF as (lcmF as 1))[i] = ((heardF i 0 as).length : Int) := fun i hi => by
    simp [szF, rangeI]
  rw [hget] at h2
  have h2 : ((heardF j 0 as).length : Int) = crowdF as := by simpa using h2
  have hc := crowd_pos hA hn
  refine minI_eq ?_ fun y hy => ?_
  · have hne : heardF (j : Int) 0 as ≠ [] := fun z => by rw [z] at h2; simp at h2; omega
    have hm := heard_meet hA hne
    refine List.mem_map.mpr ⟨heardF j 0 as, ?_, ?_⟩
    · unfold bigF
      rw [List.mem_filter]
      exact ⟨hm, by simpa using h2⟩
    · have hb := heard_bd (as := as) (t := (j : Int))
      have hp : Pos (chF as (heardF j 0 as)) := fun a ha => h.pos a (chF_mem hb a ha)
      have hs : Sol (chF as (heardF j 0 as)) (j : Int) := (sol_ch hA hb).mpr fun x hx => hx
      obtain ⟨s1, s2, s3⟩ := TF_spec hp ((fits_iff hp).mpr ⟨_, hs⟩)
      have hM := lcmF_pos _ 1 (by omega) hp
      have hle : TF (chF as (heardF j 0 as)) ≤ j := by
        obtain ⟨k, hk⟩ := (sol_iff s1).mp hs
        rcases Int.lt_or_le k 0 with c | c
        · have : lcmF (chF as (heardF j 0 as)) 1 * k ≤ lcmF (chF as (heardF j 0 as)) 1 * (-1) := Int.mul_le_mul_of_nonneg_left (by omega) (by omega)
          omega
        · have : 0 ≤ lcmF (chF as (heardF j 0 as)) 1 * k := Int.mul_nonneg (by omega) c
          omega
      rcases Int.lt_or_le (TF (chF as (heardF j 0 as))) j with c | c
      · exfalso
        obtain ⟨n, hn⟩ := Int.eq_ofNat_of_zero_le s2
        have hin : ∀ x ∈ heardF j 0 as, x ∈ heardF (n : Int) 0 as := by rw [← hn]; exact (sol_ch hA hb).mp s1
        have a1 := asc_sub (heardF_sorted _ _) hin
        have a2 := crowd_le hA (n : Int)
        have a3 := h3 n (by omega)
        rw [hget] at a3
        have : ((heardF n 0 as).length : Int) ≠ crowdF as := by simpa using a3
        omega
      · omega
  · obtain ⟨g, hg, rfl⟩ := List.mem_map.mp hy
    obtain ⟨g1, g2⟩ := big_group hg
    unfold meetF at g1
    rw [List.mem_filter] at g1
    obtain ⟨m0, m1, m2⟩ := mem_groupsF.mp g1.1
    have hp : Pos (chF as g) := fun a ha => h.pos a (chF_mem m2 a ha)
    obtain ⟨s1, s2, s3⟩ := TF_spec hp (by simpa using g1.2)
    have hMd : lcmF (chF as g) 1 ∣ lcmF as 1 := lcmF_dvd _ 1 (Int.one_dvd _) fun a ha => lcm_dvd_all as a (chF_mem m2 a ha)
    have hMle := Int.le_of_dvd hL hMd
    obtain ⟨n, hn⟩ := Int.eq_ofNat_of_zero_le s2
    rw [hn] at s1 s3 ⊢
    have a1 := asc_sub m1 ((sol_ch hA m2).mp s1)
    have a2 := crowd_le hA (n : Int)
    rcases Nat.lt_or_ge n j with c | c
    · have a3 := h3 n c
      rw [hget] at a3
      have : ((heardF n 0 as).length : Int) ≠ crowdF as := by simpa using a3
      omega
    · omega
theorem eqv_row_nil (as : List (Int × Int)) : eqD (rowD as) (.tuple []) = .ok (.bool (decide (as = []))) := eqD_rows as []
theorem crowd_time_ok {wf : Nat} {as : List (Int × Int)} (hw : 60 < wf) (h : Row as) {j : Nat} (hj : (szF as (lcmF as 1)).findIdx? (fun z => decide (z = crowdF as)) = some j) : p_crowd_time wf [rowD as] = .ok (.int j) := by
  have hm := meetF_len h.1
  have hb : (bigF as).length ≤ 63 := Nat.le_trans (List.length_filter_le _ _) hm
  have hc := comp_map (vs := [1]) (src := iVal (cCall 1 (p_find_groups wf) (aCons (cV 0) aNil))) (g := gN 1) (e := c2 idxD (cCall 1 (p_find_joined wf) (aCons (cCall 2 (p_chosen wf) (aCons (cV 0) (aCons (cV 1) aNil))) aNil)) (cC (.int 1))) (r := startE 2 [rowD as]) (mk := tupI) (is := bigF as) (by
    unfold iVal
    rw [call1_ok (a := rowD as) rfl (find_groups_ok hw h)]; rfl) (le_SZ (by omega)) (fun g => [some (.dat (rowD as)), some (.dat (tupI g))]) (fun g => .int (TF (chF as g))) (fun g hg => ⟨rfl, by
      obtain ⟨g1, _⟩ := big_group hg
      unfold meetF at g1
      rw [List.mem_filter] at g1
      obtain ⟨l6, hr, hbd⟩ := group_ok h g1.1
      have hj := find_joined_ok (wf := wf) hw hr.2 (by have := hr.1; omega)
      rw [show jF (chF as g) = some (lcmF (chF as g) 1, TF (chF as g)) from if_pos (by simpa using g1.2)] at hj
      exact c2_ok (call1_ok (call2_ok rfl rfl (chosen_ok hbd (by omega))) hj) rfl rfl⟩)
  unfold p_crowd_time
  refine run_ret (seq_ok (drop_ok (call1_ok rfl (check_row_ok h))) (ret_ok ?_))
  by_cases hn : as = []
  · subst hn
    have e0 : bigF [] = [] := by decide +kernel
    have ej : j = 0 := by
      have : (szF [] (lcmF [] 1)).findIdx? (fun z => decide (z = crowdF [])) = some 0 := by decide +kernel
      rw [this] at hj
      exact (Option.some.inj hj).symm
    subst ej
    rw [e0] at hc
    exact c1_ok (a := intsD [0]) (c2_ok (cL_ok hc) (b := .list [.int 0]) (c2_ok (a := .list [.int 0]) rfl (c2_ok rfl rfl (eqv_row_nil [])) rfl) rfl) (minD_ints (ns := [0]) (by rfl))
  · refine c1_ok (a := intsD ((bigF as).map fun g => TF (chF as g))) (c2_ok (cL_ok hc) (b := .list []) (c2_ok (a := .list [.int 0]) (b := .bool false) rfl (c2_ok rfl rfl (by rw [eqv_row_nil]; simp [hn])) rfl) ?_) (minD_ints (crowd_first h hn hj))
    have : (bigF as).length ≤ SZ := le_SZ (by omega)
    simp [addD, this, List.map_map, Function.comp_def]
/-! ### windows counted minute by minute -/
theorem sum_W {as : List (Int × Int)} (hA : AlA as) (t : Int) : ∀ n : Nat, ((rangeI t (t + n)).map fun u => ((heardF u 0 as).length : Int)).sum = W as t n
  | 0 => by
    have : rangeI t (t + ((0 : Nat) : Int)) = [] := by
      rw [List.eq_nil_iff_forall_not_mem]
      intro x hx
      rw [mem_rangeI] at hx
      omega
    rw [this]; simp [W]
  | n + 1 => by
    have ih := sum_W hA t n
    have s := cntI_step hA (t + n) 0
    rw [show t + ((n + 1 : Nat) : Int) = t + n + 1 by omega, rangeI_succ (by omega), List.map_append, List.sum_append, ih]
    unfold W
    rw [show t + ((n + 1 : Nat) : Int) = t + n + 1 by omega]
    simp
    omega
theorem szF_get {as : List (Int × Int)} {t : Int} (h0 : 0 ≤ t) (h1 : t < lcmF as 1) : (szF as (lcmF as 1)).getD t.toNat 0 = ((heardF t 0 as).length : Int) := by
  obtain ⟨n, rfl⟩ := Int.eq_ofNat_of_zero_le h0
  have : n < (lcmF as 1).toNat := by omega
  simp [szF, rangeI, List.getD, this]
theorem windows_ok {wf : Nat} {as : List (Int × Int)} {n : Int} (hw : 60 < wf) (h : Row as) (h5 : lcmF as 1 ≤ 5000) (n0 : 0 ≤ n) (n1 : n ≤ 1000) : p__law_windows wf [rowD as, .int n] = .ok (intsD (winI as n)) := by
  have hA : AlA as := h.2
  have hL := lcmF_pos as 1 (by omega) h.pos
  obtain ⟨N, hN⟩ := Int.eq_ofNat_of_zero_le (Int.le_of_lt hL)
  obtain ⟨m, rfl⟩ := Int.eq_ofNat_of_zero_le n0
  have hcnt : cL (cComp [6] (iRng1 (cV 2)) (gN 6) tYes (cCall 2 (p__law_count wf) (aCons (cV 0) (aCons (cV 6) aNil)))) [some (.dat (rowD as)), some (.dat (.int m)), some (.dat (.int (lcmF as 1))), none, none, none, none] = .ok (intsD (szF as (lcmF as 1))) := by
    have hc := comp_map (vs := [6]) (src := iRng1 (cV 2)) (g := gN 6) (e := cCall 2 (p__law_count wf) (aCons (cV 0) (aCons (cV 6) aNil))) (r := [some (.dat (rowD as)), some (.dat (.int m)), some (.dat (.int (lcmF as 1))), none, none, none, none]) (mk := .int) (is := rangeI 0 (lcmF as 1)) (rng1_ok rfl (by omega) (by omega)) (le_SZ (by rw [rangeI_length]; omega)) (fun x => [some (.dat (rowD as)), some (.dat (.int m)), some (.dat (.int (lcmF as 1))), none, none, none, some (.dat (.int x))]) (fun x => .int (heardF x 0 as).length) (fun x _ => ⟨rfl, call2_ok rfl rfl (count_ok h)⟩)
    rw [cL_ok hc]
    simp [szF, List.map_map, Function.comp_def]
  have hszl : (szF as (lcmF as 1)).length = (lcmF as 1).toNat := by unfold szF; rw [List.length_map, rangeI_length]; simp
  obtain ⟨r2, e, y5, y6, rfl⟩ := for_idx (g := gN 5) (b := p__law_windows_b1 wf) (I := fun k r => ∃ y5 y6, r = [some (.dat (rowD as)), some (.dat (.int m)), some (.dat (.int (lcmF as 1))), some (.dat (intsD (szF as (lcmF as 1)))), some (.own (((rangeI 0 k).map fun t => W as t m).map .int)), y5, y6]) N (fun k hk r q => by
    obtain ⟨y5, y6, rfl⟩ := q
    refine ⟨_, _, rfl, app_ok (ds := ((rangeI 0 k).map fun t => W as t m).map .int) (d := .int (W as k m)) rfl (c1_ok (cL_ok (comp_map (mk := .int) (is := rangeI k (k + m)) (rng2_ok rfl (c2_ok rfl rfl rfl) (by omega) (by omega) (by omega) (by omega)) (le_SZ (by rw [rangeI_length]; omega)) (fun x => [some (.dat (rowD as)), some (.dat (.int m)), some (.dat (.int (lcmF as 1))), some (.dat (intsD (szF as (lcmF as 1)))), some (.own (((rangeI 0 k).map fun t => W as t m).map .int)), some (.dat (.int k)), some (.dat (.int x))]) (fun x => .int (heardF x 0 as).length) (fun x hx => ⟨rfl, ?_⟩))) ?_) (by rw [List.length_map, List.length_map, rangeI_length]; exact Nat.lt_of_lt_of_le (by omega) (le_SZ (n := 5001) (by omega))), some (.dat (.int k)), y6, ?_⟩
    · have e0 := Int.emod_nonneg x (b := lcmF as 1) (by omega)
      have e1 := Int.emod_lt_of_pos x hL
      obtain ⟨j, hj⟩ := Int.eq_ofNat_of_zero_le e0
      have := ix_own (i := 3) (g := c2 modD (cV 6) (cV 2)) (r := [some (.dat (rowD as)), some (.dat (.int m)), some (.dat (.int (lcmF as 1))), some (.dat (intsD (szF as (lcmF as 1)))), some (.own (((rangeI 0 k).map fun t => W as t m).map .int)), some (.dat (.int k)), some (.dat (.int x))]) (ns := szF as (lcmF as 1)) (k := j) rfl (c2_ok rfl rfl (by rw [modD_ok hL, hj])) (by omega)
      rw [this]
      have g := szF_get (as := as) e0 e1
      rw [heard_mod x as 0 fun b hb => hb, hj] at g
      simp only [Int.toNat_natCast] at g
      rw [g]
    · have e : ((rangeI k (k + m)).map fun x => PyData.int ((heardF x 0 as).length : Int)) = ((rangeI k (k + m)).map fun u => ((heardF u 0 as).length : Int)).map .int := by simp [List.map_map, Function.comp_def]
      rw [e, sumD_ints, sum_W hA]
    · rw [show ((k + 1 : Nat) : Int) = (k : Int) + 1 by omega, rangeI_succ (by omega)]
      simp) (r := [some (.dat (rowD as)), some (.dat (.int m)), some (.dat (.int (lcmF as 1))), some (.dat (intsD (szF as (lcmF as 1)))), some (.own []), none, none]) ⟨none, none, rfl⟩
  unfold p__law_windows
  refine run_ret (r := [some (.dat (rowD as)), some (.dat (.int m)), some (.dat (.int (lcmF as 1))), some (.dat (intsD (szF as (lcmF as 1)))), some (.dat (intsD (winI as m))), y5, y6]) (seq_ok (set_ok (call1_ok rfl (cyc2_ok hw hA)) (by simp [startE])) (seq_ok (set_ok hcnt (by simp [startE])) (seq_ok (r1 := [some (.dat (rowD as)), some (.dat (.int m)), some (.dat (.int (lcmF as 1))), some (.dat (intsD (szF as (lcmF as 1)))), some (.own []), none, none]) rfl (seq_ok (r1 := [some (.dat (rowD as)), some (.dat (.int m)), some (.dat (.int (lcmF as 1))), some (.dat (intsD (szF as (lcmF as 1)))), some (.own (((rangeI 0 N).map fun t => W as t m).map .int)), y5, y6]) ?_ ?_))))
  · unfold sFor
    rw [rng1_ok (n := (N : Int)) (by rw [← hN]; rfl) (by omega) (by omega)]
    exact e
  · have e2 : ((rangeI 0 N).map fun t => W as t m) = winI as m := by unfold winI; rw [hN]
    rw [e2]
    exact (ret_ok (f := cV 4) (r := [some (.dat (rowD as)), some (.dat (.int m)), some (.dat (.int (lcmF as 1))), some (.dat (intsD (szF as (lcmF as 1)))), some (.dat (intsD (winI as m))), y5, y6]) rfl)
/-! ### numbers that are refused -/
def badN (a b : Int) : List PyData := [.none, .int a, .int b, .bool true, .str "1"]
def badT : List PyData := [.none, .int (-1), .bool true, .str "0"]
theorem badT_exc {wf : Nat} : ∀ d ∈ badT, p_check_time wf [d] = .exc "InvalidTime" := by
  intro d hd
  simp only [badT, List.mem_cons, List.not_mem_nil, or_false] at hd
  rcases hd with rfl | rfl | rfl | rfl <;> rfl
theorem badN_exc {wf : Nat} {lo hi : Int} : ∀ d ∈ badN (lo - 1) (hi + 1), p_check_number wf [d, .int lo, .int hi] = .exc "InvalidNumber" := by
  intro d hd
  simp only [badN, List.mem_cons, List.not_mem_nil, or_false] at hd
  have hint : ∀ i : Int, ¬ (lo ≤ i ∧ i ≤ hi) → p_check_number wf [.int i, .int lo, .int hi] = .exc "InvalidNumber" := fun i hi' => by
    unfold p_check_number
    refine run_exc (if_yes (c1_ok (a := .bool false) (call3_ok rfl rfl rfl ?_) rfl) (x := .exc "InvalidNumber" _) rfl)
    rw [is_int_int]
    congr 2
    rw [Bool.eq_false_iff]
    intro z
    simp only [Bool.and_eq_true, decide_eq_true_eq] at z
    exact hi' z
  rcases hd with rfl | rfl | rfl | rfl | rfl
  · rfl
  · exact hint _ (by omega)
  · exact hint _ (by omega)
  · rfl
  · rfl
end Rq
/-! Rt, part U: alarms that are put off. -/
namespace Rq
open PySem Rt Pg
/-! ### sorting -/
theorem mem_insI {x y : Int} : ∀ {l : List Int}, y ∈ insI x l ↔ y = x ∨ y ∈ l
  | [] => by simp [insI]
  | z :: l => by
    unfold insI
    split
    · rw [List.mem_cons, mem_insI, List.mem_cons]
      constructor
      · rintro (h | h | h)
        · exact .inr (.inl h)
        · exact .inl h
        · exact .inr (.inr h)
      · rintro (h | h | h)
        · exact .inr (.inl h)
        · exact .inl h
        · exact .inr (.inr h)
    · rw [List.mem_cons]
theorem insI_lt {x : Int} : ∀ {l : List Int}, l.Pairwise (· < ·) → x ∉ l → (insI x l).Pairwise (· < ·)
  | [], _, _ => by simp [insI]
  | z :: l, h, hx => by
    rw [List.pairwise_cons] at h
    have hz : x ≠ z := fun e => hx (by simp [e])
    have hl : x ∉ l := fun e => hx (by simp [e])
    unfold insI
    split
    · rename_i hlt
      rw [List.pairwise_cons]
      refine ⟨fun y hy => ?_, insI_lt h.2 hl⟩
      rcases mem_insI.mp hy with e | e
      · rw [e]; exact hlt
      · exact h.1 y e
    · rename_i hlt
      rw [List.pairwise_cons]
      refine ⟨fun y hy => ?_, List.pairwise_cons.mpr h⟩
      rcases List.mem_cons.mp hy with e | e
      · rw [e]; omega
      · have := h.1 y e; omega
theorem mem_sortI {y : Int} : ∀ {l : List Int}, y ∈ sortI l ↔ y ∈ l
  | [] => by simp [sortI]
  | x :: l => by
    show y ∈ insI x (sortI l) ↔ _
    rw [mem_insI, mem_sortI, List.mem_cons]
theorem sortI_lt : ∀ {l : List Int}, l.Nodup → (sortI l).Pairwise (· < ·)
  | [], _ => by simp [sortI]
  | x :: l, h => by
    rw [List.nodup_cons] at h
    exact insI_lt (sortI_lt h.2) (fun e => h.1 (mem_sortI.mp e))
theorem sortI_eq {l m : List Int} (hl : l.Nodup) (hm : m.Pairwise (· < ·)) (h : ∀ x, x ∈ l ↔ x ∈ m) : sortI l = m :=
  sorted_ext (sortI_lt hl) hm fun x => by rw [mem_sortI]; exact h x
theorem sorted_ints (l : List Int) : sortedD (.list (l.map .int)) = .ok (.list ((sortI l).map .int)) := by
  simp [sortedD, intsOf_ints]
/-! ### range with a step -/
def rng3I (a b c : Int) : List Int := (List.range ((b - a + c - 1) / c).toNat).map fun (k : Nat) => a + (k : Int) * c
theorem rng3_ok {f g h : Ex} {r : En} {a b c : Int} (h1 : f r = .ok (.int a)) (h2 : g r = .ok (.int b)) (h3 : h r = .ok (.int c)) (a0 : -1000000000 ≤ a) (a1 : a ≤ 1000000000) (b0 : -1000000000 ≤ b) (b1 : b ≤ 1000000000) (c0 : 0 < c) (c1 : c < 1000000000) : iRng3 f g h r = .ok ((rng3I a b c).map .int) := by
  simp [iRng3, h1, h2, h3, in62_small a0 a1, in62_small b0 b1, c0, c1, rng3L, rng3I]
theorem mem_rng3I {a b c x : Int} (hc : 0 < c) : x ∈ rng3I a b c ↔ a ≤ x ∧ x < b ∧ c ∣ x - a := by
  unfold rng3I
  rw [List.mem_map]
  constructor
  · rintro ⟨k, hk, rfl⟩
    rw [List.mem_range] at hk
    have h1 : (k : Int) + 1 ≤ (b - a + c - 1) / c := by omega
    have h2 := (Int.le_ediv_iff_mul_le hc).mp h1
    have h3 : ((k : Int) + 1) * c = (k : Int) * c + c := by rw [Int.add_mul, Int.one_mul]
    have h4 : 0 ≤ (k : Int) * c := Int.mul_nonneg (by omega) (by omega)
    exact ⟨by omega, by omega, ⟨k, by rw [Int.mul_comm c]; omega⟩⟩
  · rintro ⟨h1, h2, z, hz⟩
    have z0 : 0 ≤ z := by
      rcases Int.lt_or_le z 0 with q | q
      · have : c * z ≤ c * (-1) := Int.mul_le_mul_of_nonneg_left (by omega) (by omega)
        omega
      · exact q
    refine ⟨z.toNat, ?_, ?_⟩
    · rw [List.mem_range]
      have : z + 1 ≤ (b - a + c - 1) / c := (Int.le_ediv_iff_mul_le hc).mpr (by rw [Int.add_mul, Int.one_mul, Int.mul_comm z]; omega)
      omega
    · show a + ((z.toNat : Nat) : Int) * c = x
      rw [Int.toNat_of_nonneg z0, Int.mul_comm z]; omega
theorem rng3I_len {a b c : Int} (hc : 0 < c) : ((rng3I a b c).length : Int) ≤ (b - a + c - 1).toNat := by
  unfold rng3I
  rw [List.length_map, List.length_range]
  rcases Int.lt_or_le (b - a + c - 1) 0 with q | q
  · have : (b - a + c - 1) / c < 0 := Int.ediv_neg_of_neg_of_pos q hc
    omega
  · have := Int.ediv_le_self c q
    omega
/-! ### dicts of ints -/
theorem putD_ok {i : Nat} {k e : Ex} {r : En} {ks : List Int} {n : Int} (h : r[i]? = some (some (.dct ks))) (h1 : e r = .ok (.bool true)) (h2 : k r = .ok (.int n)) (h3 : ks.length < SZ) : sPut i k e r = .ok .nx (r.set i (some (.dct (putI ks n)))) := by
  simp [sPut, h, h1, h2, h3, Rt.lift]
theorem mem_putI {ks : List Int} {n x : Int} : x ∈ putI ks n ↔ x = n ∨ x ∈ ks := by
  unfold putI
  split
  · rename_i h
    constructor
    · exact fun q => .inr q
    · rintro (rfl | q)
      · simpa using h
      · exact q
  · rw [List.mem_append, List.mem_singleton, or_comm]
theorem putI_nodup {ks : List Int} {n : Int} (h : ks.Nodup) : (putI ks n).Nodup := by
  unfold putI
  split
  · exact h
  · rename_i hn
    rw [List.nodup_append]
    refine ⟨h, by simp, fun a ha b hb e => hn ?_⟩
    rw [List.mem_singleton] at hb
    rw [← hb, ← e]
    simpa using ha
theorem putI_len (ks : List Int) (n : Int) : (putI ks n).length ≤ ks.length + 1 := by
  unfold putI
  split
  · omega
  · simp
theorem setK_ok {i : Nat} {r : En} (h : i < r.length) : sSet i xK r = .ok .nx (r.set i (some (.dct []))) := by
  simp [sSet, xK, Rt.lift, put, h]
theorem sfor_ok {src : Exl} {g : Tg} {b : Ss} {r : En} {ds : List PyData} {x : RS} (h : src r = .ok ds) (h2 : forGo g b ds r = x) : sFor src g b r = x := by
  unfold sFor; rw [h]; exact h2
theorem call4_ok {g : List PyData → R PyData} {f1 f2 f3 f4 : Ex} {r : En} {a b c e : PyData} {d : R PyData} (h1 : f1 r = .ok a) (h2 : f2 r = .ok b) (h3 : f3 r = .ok c) (h4 : f4 r = .ok e) (h : g [a, b, c, e] = d) : cCall 4 g (aCons f1 (aCons f2 (aCons f3 (aCons f4 aNil)))) r = d := by
  simp [cCall, aCons, aNil, h1, h2, h3, h4, h]
theorem par3_ok {i j k : Nat} {e f g : Ex} {r : En} {d d2 d3 : PyData} (h : e r = .ok d) (h2 : f r = .ok d2) (h3 : g r = .ok d3) (hi : i < r.length) (hj : j < r.length) (hk : k < r.length) : sPar3 i j k (xD e) (xD f) (xD g) r = .ok .nx (((r.set i (some (.dat d))).set j (some (.dat d2))).set k (some (.dat d3))) := by
  simp [sPar3, xD, h, h2, h3, Rt.lift, put, hi, hj, hk]
theorem setO_ok {i : Nat} {f : Exl} {r : En} {ds : List PyData} (h : f r = .ok ds) (hi : i < r.length) : sSet i (xO f) r = .ok .nx (r.set i (some (.own ds))) := by
  simp [sSet, xO, h, Rt.lift, put, hi]
/-! ### delayed times -/
def delB (p s d n x : Int) : Bool := (rangeI 0 (n + 1)).any fun o => decide (0 ≤ x - o * d) && decide ((x - o * d) % p = s)
theorem delB_iff {p s d n x : Int} : delB p s d n x = true ↔ ∃ o, 0 ≤ o ∧ o ≤ n ∧ 0 ≤ x - o * d ∧ (x - o * d) % p = s := by
  unfold delB
  rw [List.any_eq_true]
  constructor
  · rintro ⟨o, ho, h⟩
    rw [mem_rangeI] at ho
    simp only [Bool.and_eq_true, decide_eq_true_eq] at h
    exact ⟨o, by omega, by omega, h.1, h.2⟩
  · rintro ⟨o, h1, h2, h3, h4⟩
    exact ⟨o, mem_rangeI.mpr ⟨h1, by omega⟩, by rw [decide_eq_true h3, decide_eq_true h4]; rfl⟩
def delI (p s d n e : Int) : List Int := (rangeI 0 e).filter (delB p s d n)
theorem od_small {o d : Int} (o0 : 0 ≤ o) (o1 : o ≤ 5) (d0 : 0 ≤ d) (d1 : d ≤ 30) : 0 ≤ o * d ∧ o * d ≤ 150 :=
  ⟨Int.mul_nonneg o0 d0, Int.le_trans (Int.mul_le_mul o1 d1 d0 (by omega)) (by omega)⟩
theorem delayed_in {wf : Nat} {x0 x3 : Option Sl} {d n t : Int} {ks : List Int} (n0 : 0 ≤ n) (n1 : n ≤ 5) (d0 : 1 ≤ d) (d1 : d ≤ 30) (hk : ks.Nodup) (hl : ks.length ≤ 100000) {x6 : Option Sl} :
    ∃ ls y6, p_delayed_times_b2 wf [x0, some (.dat (.int d)), some (.dat (.int n)), x3, some (.dct ks), some (.dat (.int t)), x6] = .ok .nx [x0, some (.dat (.int d)), some (.dat (.int n)), x3, some (.dct ls), some (.dat (.int t)), y6] ∧ ls.Nodup ∧ ls.length ≤ ks.length + 6 ∧ ∀ x, x ∈ ls ↔ x ∈ ks ∨ ∃ o, 0 ≤ o ∧ o ≤ n ∧ x = t + o * d := by
  have hs : iRng1 (c2 addD (cV 2) (cC (.int 1))) [x0, some (.dat (.int d)), some (.dat (.int n)), x3, some (.dct ks), some (.dat (.int t)), x6] = .ok ((rangeI 0 (n + 1)).map .int) := rng1_ok rfl (by omega) (by omega)
  obtain ⟨r2, e, ls, y6, rfl, h1, h2, h3⟩ := for_pre (g := gN 6) (b := p_delayed_times_b1 wf) (mk := .int) (is := rangeI 0 (n + 1))
    (I := fun l r => ∃ ls y6, r = [x0, some (.dat (.int d)), some (.dat (.int n)), x3, some (.dct ls), some (.dat (.int t)), y6] ∧ ls.Nodup ∧ ls.length ≤ ks.length + l.length ∧ ∀ x, x ∈ ls ↔ x ∈ ks ∨ ∃ o ∈ l, x = t + o * d) (fun pre o post e r q => by
      obtain ⟨ls, y6, rfl, h1, h2, h3⟩ := q
      have ho : o ∈ rangeI 0 (n + 1) := by rw [e]; simp
      rw [mem_rangeI] at ho
      have hlen : pre.length ≤ 6 := by
        have := congrArg List.length e
        rw [rangeI_length] at this
        simp at this; omega
      obtain ⟨b1, b2⟩ := od_small (o := o) (d := d) (by omega) (by omega) (by omega) (by omega)
      refine ⟨_, _, rfl, putD_ok (ks := ls) (n := t + o * d) rfl rfl (c2_ok (b := .int (o * d)) rfl (c2_ok rfl rfl (mul_small (.inl (inB_small (by omega) (by omega))))) rfl) (by show _ < 16777216; omega), putI ls (t + o * d), _, rfl, putI_nodup h1, ?_, fun x => ?_⟩
      · have := putI_len ls (t + o * d)
        rw [List.length_append, List.length_singleton]; omega
      · rw [mem_putI, h3]
        constructor
        · rintro (q | q | ⟨o', q1, q2⟩)
          · exact .inr ⟨o, by simp, q⟩
          · exact .inl q
          · exact .inr ⟨o', by simp [q1], q2⟩
        · rintro (q | ⟨o', q1, q2⟩)
          · exact .inr (.inl q)
          · rcases List.mem_append.mp q1 with z | z
            · exact .inr (.inr ⟨o', z, q2⟩)
            · rw [List.mem_singleton] at z
              rw [z] at q2
              exact .inl q2) ⟨ks, x6, rfl, hk, by simp, fun x => by simp⟩
  refine ⟨ls, y6, ?_, h1, ?_, fun x => ?_⟩
  · unfold p_delayed_times_b2 sFor
    rw [hs]
    exact e
  · rw [rangeI_length] at h2; omega
  · rw [h3]
    constructor
    · rintro (q | ⟨o, q1, q2⟩)
      · exact .inl q
      · rw [mem_rangeI] at q1
        exact .inr ⟨o, by omega, by omega, q2⟩
    · rintro (q | ⟨o, q1, q2, q3⟩)
      · exact .inl q
      · exact .inr ⟨o, mem_rangeI.mpr ⟨q1, by omega⟩, q3⟩
theorem delayed_ok {wf : Nat} {p s d n e : Int} (h : Al p s) (n0 : 0 ≤ n) (n1 : n ≤ 5) (d0 : 1 ≤ d) (d1 : d ≤ 30) (e0 : 0 ≤ e) (e1 : e ≤ 1000) : p_delayed_times wf [alarmD p s, .int d, .int n, .int e] = .ok (intsD (delI p s d n e)) := by
  have p1 := h.p1; have p2 := h.p2; have s0 := h.s0; have s1 := h.s1
  have hlr := rng3I_len (a := s) (b := e) (c := p) (by omega)
  obtain ⟨r2, ef, ls, y5, y6, rfl, h1, h2, h3⟩ := for_pre (g := gN 5) (b := p_delayed_times_b2 wf) (mk := .int) (is := rng3I s e p)
    (I := fun l r => ∃ ls y5 y6, r = [some (.dat (alarmD p s)), some (.dat (.int d)), some (.dat (.int n)), some (.dat (.int e)), some (.dct ls), y5, y6] ∧ ls.Nodup ∧ ls.length ≤ 6 * l.length ∧ ∀ x, x ∈ ls ↔ ∃ t ∈ l, ∃ o, 0 ≤ o ∧ o ≤ n ∧ x = t + o * d) (fun pre t post eq r q => by
      obtain ⟨ls, y5, y6, rfl, h1, h2, h3⟩ := q
      have hlen : pre.length ≤ (rng3I s e p).length := by rw [eq]; simp
      obtain ⟨ms, z6, g1, g2, g3, g4⟩ := delayed_in (wf := wf) (x0 := some (.dat (alarmD p s))) (x3 := some (.dat (.int e))) (t := t) (x6 := y6) n0 n1 d0 d1 h1 (by omega)
      refine ⟨_, _, rfl, g1, ms, _, z6, rfl, g2, ?_, fun x => ?_⟩
      · rw [List.length_append, List.length_singleton]; omega
      · rw [g4, h3]
        constructor
        · rintro (⟨t', q1, q2⟩ | q)
          · exact ⟨t', by simp [q1], q2⟩
          · exact ⟨t, by simp, q⟩
        · rintro ⟨t', q1, q2⟩
          rcases List.mem_append.mp q1 with z | z
          · exact .inl ⟨t', z, q2⟩
          · rw [List.mem_singleton] at z
            rw [z] at q2
            exact .inr q2) (r := [some (.dat (alarmD p s)), some (.dat (.int d)), some (.dat (.int n)), some (.dat (.int e)), some (.dct []), none, none]) ⟨[], none, none, rfl, by simp, by simp, fun x => by simp⟩
  have hs : iRng3 (cIxV 0 (cC (.int 1))) (cV 3) (cIxV 0 (cC (.int 0))) [some (.dat (alarmD p s)), some (.dat (.int d)), some (.dat (.int n)), some (.dat (.int e)), some (.dct []), none, none] = .ok ((rng3I s e p).map .int) := rng3_ok rfl rfl rfl (by omega) (by omega) (by omega) (by omega) (by omega) (by omega)
  have hsort : sortI (ls.filter fun x => decide (x < e)) = delI p s d n e := by
    refine sortI_eq (h1.filter _) ((rangeI_sorted 0 e).filter _) fun x => ?_
    unfold delI
    rw [List.mem_filter, List.mem_filter, mem_rangeI, decide_eq_true_iff, delB_iff, h3]
    constructor
    · rintro ⟨⟨t, ht, o, o0, o1, rfl⟩, hx⟩
      rw [mem_rng3I (by omega)] at ht
      obtain ⟨b1, b2⟩ := od_small (o := o) (d := d) (by omega) (by omega) (by omega) (by omega)
      refine ⟨⟨by omega, hx⟩, o, o0, o1, by omega, ?_⟩
      rw [Int.add_sub_cancel]
      exact (mod_iff (by omega) s0 s1).mpr ht.2.2
    · rintro ⟨⟨x0, x1⟩, o, o0, o1, g0, g1⟩
      obtain ⟨b1, b2⟩ := od_small (o := o) (d := d) (by omega) (by omega) (by omega) (by omega)
      refine ⟨⟨x - o * d, ?_, o, o0, o1, by omega⟩, x1⟩
      rw [mem_rng3I (by omega)]
      have hd := (mod_iff (by omega) s0 s1).mp g1
      refine ⟨?_, by omega, hd⟩
      have q1 := Int.emod_add_mul_ediv (x - o * d) p
      have q2 := Int.mul_nonneg (a := p) (b := (x - o * d) / p) (by omega) (Int.ediv_nonneg g0 (by omega))
      omega
  unfold p_delayed_times
  refine run_ret (r := [some (.dat (alarmD p s)), some (.dat (.int d)), some (.dat (.int n)), some (.dat (.int e)), some (.dfz ls), y5, y6]) (seq_ok (drop_ok (call1_ok rfl (check_alarm_ok h.p1 h.p2 h.s0 h.s1))) (seq_ok (drop_ok (call3_ok rfl rfl rfl (check_number_ok d0 d1))) (seq_ok (drop_ok (call3_ok rfl rfl rfl (check_number_ok n0 n1))) (seq_ok (drop_ok (call1_ok rfl (check_time_ok e0))) (seq_ok (if_no (c2_ok rfl rfl (by simp [gtD]; omega))) (seq_ok (setK_ok (by simp [startE])) (seq_ok (r1 := [some (.dat (alarmD p s)), some (.dat (.int d)), some (.dat (.int n)), some (.dat (.int e)), some (.dct ls), y5, y6]) ?_ ?_)))))))
  · exact sfor_ok hs ef
  · refine ret_ok (c1_ok (cL_ok (comp_ok (mk := .int) (is := ls) rfl (le_SZ (by omega)) (fun x => [some (.dat (alarmD p s)), some (.dat (.int d)), some (.dat (.int n)), some (.dat (.int e)), some (.dfz ls), some (.dat (.int x)), y6]) (fun x => decide (x < e)) .int (fun x _ => ⟨rfl, cT_ok (c2_ok rfl rfl rfl), fun _ => rfl⟩))) ?_)
    rw [sorted_ints, hsort]
/-! ### meetings of an alarm that is put off -/
def dmB (p s q t d n : Int) : Bool := (rangeI 0 (n + 1)).any fun o => decide ((Int.gcd p q : Int) ∣ s + o * d - t)
theorem dmB_iff {p s q t d n : Int} : dmB p s q t d n = true ↔ ∃ o, 0 ≤ o ∧ o ≤ n ∧ (Int.gcd p q : Int) ∣ s + o * d - t := by
  unfold dmB
  rw [List.any_eq_true]
  constructor
  · rintro ⟨o, ho, h⟩
    rw [mem_rangeI] at ho
    exact ⟨o, by omega, by omega, of_decide_eq_true h⟩
  · rintro ⟨o, h1, h2, h3⟩
    exact ⟨o, mem_rangeI.mpr ⟨h1, by omega⟩, decide_eq_true h3⟩
theorem do_meet2_ok {wf : Nat} {p s q t d n : Int} (h1 : Al p s) (h2 : Al q t) (hw : 60 < wf) (n0 : 0 ≤ n) (n1 : n ≤ 5) (d0 : 1 ≤ d) (d1 : d ≤ 30) : p_do_meet_v2 wf [alarmD p s, alarmD q t, .int d, .int n] = .ok (.bool (dmB p s q t d n)) := by
  have a1 := h1.p1; have a2 := h1.p2; have b1 := h2.p1; have b2 := h2.p2
  have hg := gcd_pos (p := p) (q := q) (by omega)
  unfold p_do_meet_v2
  refine run_ret (seq_ok (set_ok (call2_ok rfl rfl (divisor_ok (a := p) (b := q) (by omega) (by omega) (by omega))) (by simp [startE])) (ret_ok (c1_ok (cL_ok (comp_map (mk := .int) (is := rangeI 0 (n + 1)) (rng1_ok rfl (by omega) (by omega)) (le_SZ (by rw [rangeI_length]; omega)) (fun x => [some (.dat (alarmD p s)), some (.dat (alarmD q t)), some (.dat (.int d)), some (.dat (.int n)), some (.dat (.int (Int.gcd p q))), some (.dat (.int x))]) (fun o => .bool (decide ((Int.gcd p q : Int) ∣ s + o * d - t))) (fun o ho => ⟨rfl, ?_⟩))) ?_)))
  · rw [mem_rangeI] at ho
    obtain ⟨z1, z2⟩ := od_small (o := o) (d := d) (by omega) (by omega) (by omega) (by omega)
    refine c2_ok (a := .int ((s + o * d - t) % (Int.gcd p q : Int))) (b := .int 0) (c2_ok (a := .int (s + o * d - t)) (b := .int (Int.gcd p q : Int)) (c2_ok (a := .int (s + o * d)) (b := .int t) (c2_ok (a := .int s) (b := .int (o * d)) rfl (c2_ok rfl rfl (mul_small (.inl (inB_small (by omega) (by omega))))) rfl) rfl rfl) rfl (modD_ok hg)) rfl ?_
    rw [eqD_dec]
    congr 2
    rw [decide_eq_decide]
    exact ⟨Int.dvd_of_emod_eq_zero, Int.emod_eq_zero_of_dvd⟩
  · have e : ((rangeI 0 (n + 1)).map fun o => PyData.bool (decide ((Int.gcd p q : Int) ∣ s + o * d - t))) = ((rangeI 0 (n + 1)).map fun o => decide ((Int.gcd p q : Int) ∣ s + o * d - t)).map .bool := by simp [List.map_map, Function.comp_def]
    rw [e, anyD_bools]
    simp [dmB, List.any_map, Function.comp_def]
theorem meet_delayed_ok {wf : Nat} {p s q t d n : Int} (h1 : Al p s) (h2 : Al q t) (hw : 60 < wf) (n0 : 0 ≤ n) (n1 : n ≤ 5) (d0 : 1 ≤ d) (d1 : d ≤ 30) : p_meet_delayed wf [alarmD p s, alarmD q t, .int d, .int n] = .ok (.bool (dmB p s q t d n)) := by
  unfold p_meet_delayed
  exact run_ret (seq_ok (drop_ok (call2_ok rfl rfl (check_two_ok h1.p1 h1.p2 h1.s0 h1.s1 h2.p1 h2.p2 h2.s0 h2.s1))) (seq_ok (drop_ok (call3_ok rfl rfl rfl (check_number_ok d0 d1))) (seq_ok (drop_ok (call3_ok rfl rfl rfl (check_number_ok n0 n1))) (ret_ok (call4_ok rfl rfl rfl rfl (do_meet2_ok h1 h2 hw n0 n1 d0 d1))))))
def hitI (p s q t : Int) : List Int := (rangeI 1 31).filter fun d => dmB p s q t d 1
theorem least_delay_ok {wf : Nat} {p s q t : Int} (h1 : Al p s) (h2 : Al q t) (hw : 60 < wf) : p_least_delay wf [alarmD p s, alarmD q t] = .ok (optI (hitI p s q t).head?) := by
  unfold p_least_delay
  have hc := comp_ok (vs := [3]) (src := iRng2 (cC (.int 1)) (c2 addD (cC (.int 30)) (cC (.int 1)))) (g := gN 3) (t := cT (cCall 4 (p_do_meet_v2 wf) (aCons (cV 0) (aCons (cV 1) (aCons (cV 3) (aCons (cC (.int 1)) aNil)))))) (e := cV 3) (r := [some (.dat (alarmD p s)), some (.dat (alarmD q t)), none, none]) (mk := .int) (is := rangeI 1 31) (rng2_ok rfl rfl (by omega) (by omega) (by omega) (by omega)) (le_SZ (by rw [rangeI_length]; omega)) (fun x => [some (.dat (alarmD p s)), some (.dat (alarmD q t)), none, some (.dat (.int x))]) (fun d => dmB p s q t d 1) .int (fun d hd => ⟨rfl, cT_ok (call4_ok rfl rfl rfl rfl (do_meet2_ok h1 h2 hw (by omega) (by omega) (by rw [mem_rangeI] at hd; omega) (by rw [mem_rangeI] at hd; omega))), fun _ => rfl⟩)
  refine run_ret (seq_ok (drop_ok (call2_ok rfl rfl (check_two_ok h1.p1 h1.p2 h1.s0 h1.s1 h2.p1 h2.p2 h2.s0 h2.s1))) (seq_ok (set_ok (cL_ok hc) (by simp [startE])) (ret_ok (if_expr (b := !decide (hitI p s q t = [])) (c2_ok rfl rfl (neD_ints_nil _)) (fun hb => ?_) fun hb => ?_))))
  · have hne : hitI p s q t ≠ [] := by simpa using hb
    rw [ix_own (ns := hitI p s q t) (k := 0) rfl rfl (List.length_pos_iff.mpr hne)]
    cases e : hitI p s q t with
    | nil => exact absurd e hne
    | cons x l => rfl
  · have hne : hitI p s q t = [] := by simpa using hb
    rw [hne]; rfl
theorem safe_ok {wf : Nat} {p s q t n : Int} (h1 : Al p s) (h2 : Al q t) (hw : 60 < wf) (n0 : 0 ≤ n) (n1 : n ≤ 5) : p_safe_delays wf [alarmD p s, alarmD q t, .int n] = .ok (intsD ((rangeI 1 31).filter fun d => !dmB p s q t d n)) := by
  unfold p_safe_delays
  exact run_ret (seq_ok (drop_ok (call2_ok rfl rfl (check_two_ok h1.p1 h1.p2 h1.s0 h1.s1 h2.p1 h2.p2 h2.s0 h2.s1))) (seq_ok (drop_ok (call3_ok rfl rfl rfl (check_number_ok n0 n1))) (ret_ok (cL_ok (comp_ok (mk := .int) (is := rangeI 1 31) (rng2_ok rfl rfl (by omega) (by omega) (by omega) (by omega)) (le_SZ (by rw [rangeI_length]; omega)) (fun x => [some (.dat (alarmD p s)), some (.dat (alarmD q t)), some (.dat (.int n)), some (.dat (.int x))]) (fun d => !dmB p s q t d n) .int (fun d hd => ⟨rfl, cT_ok (c1_ok (call4_ok rfl rfl rfl rfl (do_meet2_ok h1 h2 hw n0 n1 (by rw [mem_rangeI] at hd; omega) (by rw [mem_rangeI] at hd; omega))) rfl), fun _ => rfl⟩))))))
end Rq
/-! Rt, part I: silence. -/
namespace Rq
open PySem Rt Pg
/-! ### needless alarms -/
def needF (as : List (Int × Int)) : List Int := (rangeI 0 as.length).filter fun k => !(rangeI 0 (lcmF as 1)).any fun t => decide (heardF t 0 as = [k])
theorem inV_ok {i : Nat} {z : Bool} {f : Ex} {r : En} {ks : List Int} {n : Int} (h : r[i]? = some (some (.dfz ks))) (h1 : f r = .ok (.int n)) : cInV i z f r = .ok (.bool (ks.contains n == z)) := by
  simp [cInV, h, h1]
theorem needless_ok {wf : Nat} {as : List (Int × Int)} (hw : 60 < wf) (h : Row as) (h5 : lcmF as 1 ≤ 5000) : p_needless wf [rowD as] = .ok (intsD (needF as)) := by
  have hL := lcmF_pos as 1 (by omega) h.pos
  obtain ⟨r2, ef, ls, y2, y3, rfl, h2, h3⟩ := for_pre (g := gN 2) (b := p_needless_b1 wf) (mk := .int) (is := rangeI 0 (lcmF as 1))
    (I := fun l r => ∃ ls y2 y3, r = [some (.dat (rowD as)), some (.dct ls), y2, y3, none] ∧ ls.length ≤ l.length ∧ ∀ x, x ∈ ls ↔ ∃ t ∈ l, heardF t 0 as = [x]) (fun pre t post eq r q => by
      obtain ⟨ls, y2, y3, rfl, h2, h3⟩ := q
      have hlen : pre.length ≤ (rangeI 0 (lcmF as 1)).length := by rw [eq]; simp
      rw [rangeI_length] at hlen
      have hs : sSet 3 (xD (cCall 2 (p_find_ringing wf) (aCons (cV 0) (aCons (cV 2) aNil)))) [some (.dat (rowD as)), some (.dct ls), some (.dat (.int t)), y3, none] = .ok .nx [some (.dat (rowD as)), some (.dct ls), some (.dat (.int t)), some (.dat (intsD (heardF t 0 as))), none] := set_ok (call2_ok rfl rfl (find_ringing_ok h)) (by simp)
      have ht : c2 eqD (cLenV 3) (cC (.int 1)) [some (.dat (rowD as)), some (.dct ls), some (.dat (.int t)), some (.dat (intsD (heardF t 0 as))), none] = .ok (.bool (decide ((heardF t 0 as).length = 1))) := c2_ok (a := .int (heardF t 0 as).length) (by simp [cLenV, lenD]) rfl (by rw [eqD_dec]; congr 2; rw [decide_eq_decide]; omega)
      by_cases hc : (heardF t 0 as).length = 1
      · obtain ⟨x, hx⟩ := List.length_eq_one_iff.mp hc
        refine ⟨_, _, rfl, seq_ok hs (if_yes (by rw [ht, decide_eq_true hc]) (putD_ok (ks := ls) (n := x) rfl rfl ?_ (by show _ < 16777216; omega))), putI ls x, _, _, rfl, ?_, fun y => ?_⟩
        · rw [hx]; rfl
        · have := putI_len ls x
          rw [List.length_append, List.length_singleton]; omega
        · rw [mem_putI, h3]
          constructor
          · rintro (q | ⟨t', q1, q2⟩)
            · exact ⟨t, by simp, by rw [hx, q]⟩
            · exact ⟨t', by simp [q1], q2⟩
          · rintro ⟨t', q1, q2⟩
            rcases List.mem_append.mp q1 with z | z
            · exact .inr ⟨t', z, q2⟩
            · rw [List.mem_singleton] at z
              rw [z, hx] at q2
              left
              simpa using q2.symm
      · refine ⟨_, _, rfl, seq_ok hs (if_no (by rw [ht, decide_eq_false hc])), ls, _, _, rfl, ?_, fun y => ?_⟩
        · rw [List.length_append, List.length_singleton]; omega
        · rw [h3]
          constructor
          · rintro ⟨t', q1, q2⟩
            exact ⟨t', by simp [q1], q2⟩
          · rintro ⟨t', q1, q2⟩
            rcases List.mem_append.mp q1 with z | z
            · exact ⟨t', z, q2⟩
            · rw [List.mem_singleton] at z
              rw [z] at q2
              exact absurd (by rw [q2]; rfl) hc) (r := [some (.dat (rowD as)), some (.dct []), none, none, none]) ⟨[], none, none, rfl, by simp, fun x => by simp⟩
  have h6 := h.1
  have e : needF as = (rangeI 0 as.length).filter fun k => (ls.contains k == false) := by
    unfold needF
    refine List.filter_congr fun k _ => ?_
    have : ((rangeI 0 (lcmF as 1)).any fun t => decide (heardF t 0 as = [k])) = ls.contains k := by
      rw [Bool.eq_iff_iff, List.any_eq_true, List.contains_iff_mem, h3]
      simp only [decide_eq_true_eq]
    rw [this]
    cases ls.contains k <;> rfl
  unfold p_needless
  refine run_ret (r := [some (.dat (rowD as)), some (.dfz ls), y2, y3, none]) (seq_ok (drop_ok (call1_ok rfl (check_cycle_ok hw h h5))) (seq_ok (setK_ok (by simp [startE])) (seq_ok (sfor_ok (rng1_ok (call1_ok rfl (find_cycle_ok hw h.2)) (by omega) (by omega)) ef) ?_)))
  rw [e]
  exact ret_ok (cL_ok (comp_ok (mk := .int) (is := rangeI 0 as.length) (rng1_ok (by simp [cLenV, lenD, frz1]) (by omega) (by omega)) (le_SZ (by rw [rangeI_length]; omega)) (fun x => [some (.dat (rowD as)), some (.dfz ls), y2, y3, some (.dat (.int x))]) (fun k => ls.contains k == false) .int (fun x _ => ⟨rfl, cT_ok (inV_ok rfl rfl), fun _ => rfl⟩)))
/-! ### neighbours in an ascending list -/
theorem zip_mem {a b : Int} : ∀ {l : List Int}, l.Pairwise (· < ·) → (a, b) ∈ l.zip l.tail → a ∈ l ∧ b ∈ l ∧ a < b ∧ ∀ z ∈ l, z ≤ a ∨ b ≤ z
  | [], _, h => by simp at h
  | [x], _, h => by simp at h
  | x :: y :: l, hp, h => by
    rw [List.pairwise_cons] at hp
    have h : (a, b) ∈ (x, y) :: (y :: l).zip l := h
    rcases List.mem_cons.mp h with e | e
    · cases e
      refine ⟨by simp, by simp, hp.1 _ (by simp), fun z hz => ?_⟩
      rcases List.mem_cons.mp hz with q | q
      · left; omega
      · rcases List.mem_cons.mp q with q | q
        · right; omega
        · have := (List.pairwise_cons.mp hp.2).1 z q
          right; omega
    · obtain ⟨h1, h2, h3, h4⟩ := zip_mem (l := y :: l) hp.2 e
      refine ⟨List.mem_cons_of_mem _ h1, List.mem_cons_of_mem _ h2, h3, fun z hz => ?_⟩
      rcases List.mem_cons.mp hz with q | q
      · have := hp.1 a h1
        left; omega
      · exact h4 z q
theorem zip_next {a : Int} : ∀ {l : List Int}, l.Pairwise (· < ·) → a ∈ l → (∃ y ∈ l, a < y) → ∃ b, (a, b) ∈ l.zip l.tail
  | [], _, h, _ => by cases h
  | [x], _, h, ⟨y, hy, q⟩ => by
    rw [List.mem_singleton] at h hy
    omega
  | x :: y :: l, hp, h, ⟨z, hz, q⟩ => by
    rw [List.pairwise_cons] at hp
    rcases List.mem_cons.mp h with e | e
    · exact ⟨y, by rw [e]; exact List.mem_cons_self⟩
    · have hzy : z ∈ y :: l := by
        rcases List.mem_cons.mp hz with q' | q'
        · have := hp.1 a e; omega
        · exact q'
      obtain ⟨b, hb⟩ := zip_next (l := y :: l) hp.2 e ⟨z, hzy, q⟩
      exact ⟨b, List.mem_cons_of_mem _ hb⟩
/-! ### silence -/
def extF (as : List (Int × Int)) : List Int := dueI as 0 (lcmF as 1) ++ [(dueI as 0 (lcmF as 1)).headD 0 + lcmF as 1]
def gapF (as : List (Int × Int)) : List Int := ((extF as).zip (extF as).tail).map fun p => p.2 - p.1 - 1
def longF (as : List (Int × Int)) : Int := (maxI (gapF as)).getD 0
theorem ring_some {as : List (Int × Int)} (hA : AlA as) (hn : as ≠ []) : ∃ t, 0 ≤ t ∧ t < lcmF as 1 ∧ heardF t 0 as ≠ [] := by
  obtain ⟨t, t0, t1, ht⟩ := crowd_hit hA
  have := crowd_pos hA hn
  exact ⟨t, t0, t1, fun e => by rw [e] at ht; simp at ht; omega⟩
theorem mem_dueI {as : List (Int × Int)} {a b t : Int} : t ∈ dueI as a b ↔ a ≤ t ∧ t < b ∧ heardF t 0 as ≠ [] := by
  unfold dueI
  rw [List.mem_filter, mem_rangeI]
  simp [and_assoc]
theorem dueI_sorted (as : List (Int × Int)) (a b : Int) : (dueI as a b).Pairwise (· < ·) := (rangeI_sorted a b).filter _
theorem head_least {l : List Int} (h : l.Pairwise (· < ·)) (hn : l ≠ []) : l.headD 0 ∈ l ∧ ∀ z ∈ l, l.headD 0 ≤ z := by
  cases l with
  | nil => exact absurd rfl hn
  | cons x l =>
    rw [List.pairwise_cons] at h
    refine ⟨by simp, fun z hz => ?_⟩
    rcases List.mem_cons.mp hz with q | q
    · rw [q]; exact Int.le_refl _
    · have := h.1 z q
      show x ≤ z
      omega
theorem due_ne {as : List (Int × Int)} (hA : AlA as) (hn : as ≠ []) : dueI as 0 (lcmF as 1) ≠ [] := by
  obtain ⟨t, t0, t1, ht⟩ := ring_some hA hn
  exact List.ne_nil_of_mem (mem_dueI.mpr ⟨t0, t1, ht⟩)
theorem extF_sorted {as : List (Int × Int)} (hA : AlA as) (hn : as ≠ []) : (extF as).Pairwise (· < ·) := by
  have hL := lcmF_pos as 1 (by omega) hA.pos
  obtain ⟨h1, h2⟩ := head_least (dueI_sorted as 0 (lcmF as 1)) (due_ne hA hn)
  unfold extF
  rw [List.pairwise_append]
  refine ⟨dueI_sorted _ _ _, by simp, fun a ha b hb => ?_⟩
  rw [List.mem_singleton] at hb
  rw [mem_dueI] at ha h1
  omega
theorem heard_perN {as : List (Int × Int)} (t : Int) : heardF (t % lcmF as 1) 0 as = heardF t 0 as := heard_mod t as 0 fun _ h => h
/-- what stands in the longer list: the ring times from 0 to the first one behind a cycle -/
theorem mem_extF {as : List (Int × Int)} (hA : AlA as) (hn : as ≠ []) {t : Int} : t ∈ extF as ↔ 0 ≤ t ∧ t ≤ (dueI as 0 (lcmF as 1)).headD 0 + lcmF as 1 ∧ heardF t 0 as ≠ [] := by
  have hL := lcmF_pos as 1 (by omega) hA.pos
  obtain ⟨h1, h2⟩ := head_least (dueI_sorted as 0 (lcmF as 1)) (due_ne hA hn)
  generalize hf : (dueI as 0 (lcmF as 1)).headD 0 = f at *
  have h1' := mem_dueI.mp h1
  unfold extF
  rw [hf, List.mem_append, List.mem_singleton, mem_dueI]
  constructor
  · rintro (q | q)
    · exact ⟨q.1, by omega, q.2.2⟩
    · refine ⟨by omega, by omega, ?_⟩
      rw [q, heard_per]; exact h1'.2.2
  · rintro ⟨t0, t1, ht⟩
    by_cases hc : t < lcmF as 1
    · exact .inl ⟨t0, hc, ht⟩
    · right
      have e : heardF (t - lcmF as 1) 0 as = heardF t 0 as := by
        have := heard_per (as := as) (t - lcmF as 1)
        rw [Int.sub_add_cancel] at this
        exact this.symm
      have := h2 (t - lcmF as 1) (mem_dueI.mpr ⟨by omega, by omega, by rw [e]; exact ht⟩)
      omega
theorem gap_ne {as : List (Int × Int)} (hA : AlA as) (hn : as ≠ []) : gapF as ≠ [] := by
  have hL := lcmF_pos as 1 (by omega) hA.pos
  obtain ⟨h1, h2⟩ := head_least (dueI_sorted as 0 (lcmF as 1)) (due_ne hA hn)
  have h1' := mem_dueI.mp h1
  obtain ⟨b, hb⟩ := zip_next (a := (dueI as 0 (lcmF as 1)).headD 0) (extF_sorted hA hn) ((mem_extF hA hn).mpr ⟨h1'.1, by omega, h1'.2.2⟩) ⟨(dueI as 0 (lcmF as 1)).headD 0 + lcmF as 1, by unfold extF; simp, by omega⟩
  exact List.ne_nil_of_mem (List.mem_map.mpr ⟨_, hb, rfl⟩)
theorem long_spec {as : List (Int × Int)} (hA : AlA as) (hn : as ≠ []) : maxI (gapF as) = some (longF as) := by
  obtain ⟨m, e, _⟩ := maxI_some (gap_ne hA hn)
  unfold longF
  rw [e]; rfl
/-- a gap is a silence between two ring times -/
theorem gap_of {as : List (Int × Int)} (hA : AlA as) (hn : as ≠ []) {g : Int} (hg : g ∈ gapF as) : ∃ a b, 0 ≤ a ∧ a < b ∧ b < 2 * lcmF as 1 ∧ g = b - a - 1 ∧ heardF a 0 as ≠ [] ∧ ∀ t, a < t → t < b → heardF t 0 as = [] := by
  have hL := lcmF_pos as 1 (by omega) hA.pos
  obtain ⟨h1, h2⟩ := head_least (dueI_sorted as 0 (lcmF as 1)) (due_ne hA hn)
  have h1' := mem_dueI.mp h1
  obtain ⟨⟨a, b⟩, hz, e⟩ := List.mem_map.mp hg
  obtain ⟨m1, m2, m3, m4⟩ := zip_mem (extF_sorted hA hn) hz
  have m1 := (mem_extF hA hn).mp m1
  have m2 := (mem_extF hA hn).mp m2
  refine ⟨a, b, m1.1, m3, by omega, e.symm, m1.2.2, fun t ta tb => ?_⟩
  by_cases hc : heardF t 0 as = []
  · exact hc
  · rcases m4 t ((mem_extF hA hn).mpr ⟨by omega, by omega, hc⟩) with q | q <;> omega
/-- a silence is not longer than some gap -/
theorem gap_over {as : List (Int × Int)} (hA : AlA as) (hn : as ≠ []) {x c : Int} (x0 : 0 ≤ x) (c0 : 0 < c) (hs : ∀ t, x ≤ t → t < x + c → heardF t 0 as = []) : ∃ g ∈ gapF as, c ≤ g := by
  have hL := lcmF_pos as 1 (by omega) hA.pos
  obtain ⟨h1, h2⟩ := head_least (dueI_sorted as 0 (lcmF as 1)) (due_ne hA hn)
  generalize hf : (dueI as 0 (lcmF as 1)).headD 0 = f at *
  have h1' := mem_dueI.mp h1
  -- moved into the cycle behind the first ring
  obtain ⟨y, y0, y1, hy⟩ : ∃ y, f < y ∧ y ≤ f + lcmF as 1 ∧ ∀ t, y ≤ t → t < y + c → heardF t 0 as = [] := by
    refine ⟨f + 1 + (x - f - 1) % lcmF as 1, ?_, ?_, fun t t0 t1 => ?_⟩
    · have := Int.emod_nonneg (x - f - 1) (b := lcmF as 1) (by omega); omega
    · have := Int.emod_lt_of_pos (x - f - 1) (b := lcmF as 1) hL; omega
    · have hq := Int.emod_add_mul_ediv (x - f - 1) (lcmF as 1)
      have e : heardF t 0 as = heardF (t + lcmF as 1 * ((x - f - 1) / lcmF as 1)) 0 as := by
        rw [← heard_perN t, ← heard_perN (t + lcmF as 1 * ((x - f - 1) / lcmF as 1)), Int.add_mul_emod_self_left]
      rw [e]
      exact hs _ (by omega) (by omega)
  -- the last ring before it
  obtain ⟨a, ha, a1, a2⟩ : ∃ a, a ∈ extF as ∧ a < y ∧ ∀ z ∈ extF as, z < y → z ≤ a := by
    obtain ⟨m, em, m1, m2⟩ := maxI_some (ns := (extF as).filter fun z => decide (z < y)) (List.ne_nil_of_mem (a := f) (List.mem_filter.mpr ⟨(mem_extF hA hn).mpr ⟨h1'.1, by rw [hf]; omega, h1'.2.2⟩, by simpa using y0⟩))
    rw [List.mem_filter, decide_eq_true_iff] at m1
    exact ⟨m, m1.1, m1.2, fun z hz hzy => m2 z (List.mem_filter.mpr ⟨hz, by simpa using hzy⟩)⟩
  have hend : heardF (f + lcmF as 1) 0 as ≠ [] := by rw [heard_per]; exact h1'.2.2
  have hE : f + lcmF as 1 ∈ extF as := (mem_extF hA hn).mpr ⟨by omega, by rw [hf]; exact Int.le_refl _, hend⟩
  have hyE : y < f + lcmF as 1 := by
    rcases Int.lt_or_le y (f + lcmF as 1) with q | q
    · exact q
    · have : y = f + lcmF as 1 := by omega
      exact absurd (hy y (Int.le_refl _) (by omega)) (by rw [this]; exact hend)
  obtain ⟨b, hb⟩ := zip_next (extF_sorted hA hn) ha ⟨_, hE, by omega⟩
  obtain ⟨m1, m2, m3, m4⟩ := zip_mem (extF_sorted hA hn) hb
  refine ⟨b - a - 1, List.mem_map.mpr ⟨_, hb, rfl⟩, ?_⟩
  have hby : y ≤ b := by
    rcases Int.lt_or_le b y with q | q
    · have := a2 b m2 q; omega
    · exact q
  have : y + c ≤ b := by
    rcases Int.lt_or_le b (y + c) with q | q
    · exact absurd (hy b hby q) ((mem_extF hA hn).mp m2).2.2
    · exact q
  omega
theorem times_l_ok {wf : Nat} {as : List (Int × Int)} (hw : 60 < wf) (h : Row as) (h5 : lcmF as 1 ≤ 5000) : p_find_times_l wf [rowD as] = .ok ((dueI as 0 (lcmF as 1)).map .int) := by
  have hL := lcmF_pos as 1 (by omega) h.pos
  unfold p_find_times_l
  exact comp_ok (mk := .int) (is := rangeI 0 (lcmF as 1)) (rng1_ok (call1_ok rfl (find_cycle_ok hw h.2)) (by omega) (by omega)) (le_SZ (by rw [rangeI_length]; omega)) (fun x => [some (.dat (rowD as)), some (.dat (.int x))]) (fun t => !decide (heardF t 0 as = [])) .int (fun x _ => ⟨rfl, cT_ok (c2_ok (call2_ok rfl rfl (find_ringing_ok h)) rfl (neD_ints_nil _)), fun _ => rfl⟩)
theorem callL_ok {g : List PyData → R (List PyData)} {f : Ex} {r : En} {a : PyData} {x : R (List PyData)} (h : f r = .ok a) (h2 : g [a] = x) : cCallL 1 g (aCons f aNil) r = x := by
  simp [cCallL, aCons, aNil, h, h2]
theorem zipL_ints : ∀ l m : List Int, zipL (l.map .int) (m.map .int) = (l.zip m).map fun p => .tuple [.int p.1, .int p.2]
  | [], m => by simp [zipL]
  | x :: l, [] => by simp [zipL]
  | x :: l, y :: m => by simp [zipL, zipL_ints l m]
theorem longest_ok {wf : Nat} {as : List (Int × Int)} (hw : 60 < wf) (h : Row as) (h5 : lcmF as 1 ≤ 5000) (hn : as ≠ []) : p_longest_silence wf [rowD as] = .ok (.int (longF as)) := by
  have hL := lcmF_pos as 1 (by omega) h.pos
  have hd : (dueI as 0 (lcmF as 1)).length ≤ 5000 := Nat.le_trans (List.length_filter_le _ _) (by rw [rangeI_length]; omega)
  have hne := due_ne h.2 hn
  have hE : (extF as).length ≤ 5001 := by unfold extF; simp; omega
  have e0 : (dueI as 0 (lcmF as 1)).getD 0 0 = (dueI as 0 (lcmF as 1)).headD 0 := by cases dueI as 0 (lcmF as 1) <;> rfl
  unfold p_longest_silence
  refine run_ret (r := [some (.dat (rowD as)), some (.dat (intsD (extF as))), none, none]) (seq_ok (if_no (c2_ok rfl rfl (by rw [eqv_row_nil]; simp [hn]))) (seq_ok (drop_ok (call1_ok rfl (check_cycle_ok hw h h5))) (seq_ok (setO_ok (ds := (dueI as 0 (lcmF as 1)).map .int) (callL_ok rfl (times_l_ok hw h h5)) (by simp [startE])) (seq_ok (r1 := [some (.dat (rowD as)), some (.own ((extF as).map .int)), none, none]) ?_ ?_))))
  · have := app_ok (i := 1) (f := c2 addD (cIxV 1 (cC (.int 0))) (cCall 1 (p_find_cycle wf) (aCons (cV 0) aNil))) (r := [some (.dat (rowD as)), some (.own ((dueI as 0 (lcmF as 1)).map .int)), none, none]) (ds := (dueI as 0 (lcmF as 1)).map .int) (d := .int ((dueI as 0 (lcmF as 1)).headD 0 + lcmF as 1)) rfl
      (c2_ok (a := .int ((dueI as 0 (lcmF as 1)).getD 0 0)) (b := .int (lcmF as 1)) (ix_ownO (k := 0) rfl rfl (List.length_pos_iff.mpr hne)) (call1_ok rfl (find_cycle_ok hw h.2)) (by rw [e0]; rfl)) (by show _ < 16777216; simp; omega)
    refine this.trans ?_
    simp [extF]
  · refine ret_ok (r := [some (.dat (rowD as)), some (.dat (intsD (extF as))), none, none]) (c1_ok (cL_ok (comp_map (mk := fun p : Int × Int => .tuple [.int p.1, .int p.2]) (is := (extF as).zip (extF as).tail) ?_ (le_SZ (by simp; omega)) (fun p => [some (.dat (rowD as)), some (.dat (intsD (extF as))), some (.dat (.int p.1)), some (.dat (.int p.2))]) (fun p => .int (p.2 - p.1 - 1)) (fun p _ => ⟨rfl, c2_ok (a := .int (p.2 - p.1)) rfl rfl rfl⟩))) ?_)
    · have hz : iZip (cV 1) (cSlc (cV 1) (oSome (cC (.int 1))) oNone) [some (.dat (rowD as)), some (.dat (intsD (extF as))), none, none] = .ok (zipL ((extF as).map .int) ((extF as).tail.map .int)) := by
        have h1 : cSlc (cV 1) (oSome (cC (.int 1))) oNone [some (.dat (rowD as)), some (.dat (intsD (extF as))), none, none] = .ok (.list ((extF as).tail.map .int)) := slc_ok (d := .list ((extF as).map .int)) (l := some 1) (h := none) rfl rfl rfl (by
          show R.ok (PyData.list (cutL ((extF as).map .int) (some 1) none)) = _
          rw [cut_drop _ (by omega)]
          show R.ok (PyData.list (List.drop 1 _)) = _
          rw [List.drop_one, List.map_tail])
        simp only [iZip, h1, R.bind_ok]
        rfl
      rw [hz, zipL_ints]
    · have e : (((extF as).zip (extF as).tail).map fun p => PyData.int (p.2 - p.1 - 1)) = (gapF as).map .int := by simp [gapF, List.map_map, Function.comp_def]
      rw [e]
      exact maxD_ints (long_spec h.2 hn)
/-! ### silence counted minute by minute -/
def curF (as : List (Int × Int)) : Nat → Int
  | 0 => 0
  | n + 1 => if heardF (n : Int) 0 as = [] then curF as n + 1 else 0
def lonF (as : List (Int × Int)) : Nat → Int
  | 0 => 0
  | n + 1 => if curF as (n + 1) > lonF as n then curF as (n + 1) else lonF as n
theorem cur_spec (as : List (Int × Int)) : ∀ n : Nat, 0 ≤ curF as n ∧ curF as n ≤ n ∧ ∀ t, (n : Int) - curF as n ≤ t → t < n → heardF t 0 as = []
  | 0 => ⟨Int.le_refl _, Int.le_refl _, fun t h1 h2 => by have : curF as 0 = 0 := rfl; omega⟩
  | n + 1 => by
    obtain ⟨h1, h2, h3⟩ := cur_spec as n
    unfold curF
    split
    · rename_i hs
      refine ⟨by omega, by omega, fun t t0 t1 => ?_⟩
      by_cases e : t = n
      · rw [e]; exact hs
      · exact h3 t (by omega) (by omega)
    · exact ⟨by omega, by omega, fun t t0 t1 => by omega⟩
theorem lon_ge (as : List (Int × Int)) : ∀ (n m : Nat), m ≤ n → curF as m ≤ lonF as n
  | 0, m, h => by
    have : m = 0 := by omega
    subst this
    exact Int.le_refl _
  | n + 1, m, h => by
    unfold lonF
    by_cases e : m = n + 1
    · subst e; split <;> omega
    · have := lon_ge as n m (by omega)
      split <;> omega
theorem lon_at (as : List (Int × Int)) : ∀ n : Nat, ∃ m, m ≤ n ∧ lonF as n = curF as m
  | 0 => ⟨0, by omega, rfl⟩
  | n + 1 => by
    obtain ⟨m, h1, h2⟩ := lon_at as n
    unfold lonF
    split
    · exact ⟨n + 1, by omega, rfl⟩
    · exact ⟨m, by omega, h2⟩
theorem cur_gap {as : List (Int × Int)} {a : Nat} (ha : heardF (a : Int) 0 as ≠ []) : ∀ k : Nat, (∀ t, (a : Int) < t → t < (a : Int) + 1 + k → heardF t 0 as = []) → curF as (a + 1 + k) = k
  | 0, _ => by
    show (if heardF (a : Int) 0 as = [] then _ else (0 : Int)) = 0
    rw [if_neg ha]
  | k + 1, h => by
    have ih := cur_gap ha k fun t t0 t1 => h t t0 (by omega)
    show (if heardF ((a + 1 + k : Nat) : Int) 0 as = [] then curF as (a + 1 + k) + 1 else (0 : Int)) = _
    rw [if_pos (h _ (by omega) (by omega)), ih]
    omega
theorem lon_long {as : List (Int × Int)} (hA : AlA as) (hn : as ≠ []) {N : Nat} (hN : (N : Int) = 2 * lcmF as 1) : lonF as N = longF as := by
  have e := long_spec hA hn
  obtain ⟨m, e2, m1, m2⟩ := maxI_some (gap_ne hA hn)
  rw [e] at e2
  have e2 := Option.some.inj e2
  subst e2
  refine Int.le_antisymm ?_ ?_
  · obtain ⟨u, u1, u2⟩ := lon_at as N
    obtain ⟨c1, c2, c3⟩ := cur_spec as u
    rw [u2]
    rcases Int.lt_or_le 0 (curF as u) with q | q
    · obtain ⟨g, g1, g2⟩ := gap_over hA hn (x := u - curF as u) (c := curF as u) (by omega) q (fun t t0 t1 => c3 t t0 (by omega))
      have := m2 g g1
      omega
    · obtain ⟨a, b, a0, ab, _, eg, _⟩ := gap_of hA hn m1
      omega
  · obtain ⟨a, b, a0, ab, b2, eg, ha, hs⟩ := gap_of hA hn m1
    obtain ⟨a', rfl⟩ := Int.eq_ofNat_of_zero_le a0
    obtain ⟨k, hk⟩ := Int.eq_ofNat_of_zero_le (a := b - a' - 1) (by omega)
    have := cur_gap ha k fun t t0 t1 => hs t t0 (by omega)
    have h2 := lon_ge as N (a' + 1 + k) (by omega)
    omega
end Rq
/-! Rt, part G: shifts with which no two alarms meet. -/
namespace Rq
open PySem Rt Pg
theorem run_ex {n : Nat} {b : Ss} {ds : List PyData} {d : PyData} (h : ∃ r, b (startE n ds) = .ok (.ret d) r) : runD n b ds = .ok d := by
  obtain ⟨r, h⟩ := h
  exact run_ret h
theorem seq_rx {s t : Ss} {r r1 : En} {d : PyData} (h : s r = .ok .nx r1) (h2 : ∃ r2, t r1 = .ok (.ret d) r2) : ∃ r2, sSeq s t r = .ok (.ret d) r2 := by
  obtain ⟨r2, h2⟩ := h2
  exact ⟨r2, seq_ok h h2⟩
theorem zipL_row (ps ss : List Int) : zipL (ps.map .int) (ss.map .int) = (ps.zip ss).map alD := zipL_ints ps ss
theorem tzip_ok {d e : PyData} {ps ss : List Int} (h1 : itemsD d = .ok (ps.map .int)) (h2 : itemsD e = .ok (ss.map .int)) : tzipD d e = .ok (rowD (ps.zip ss)) := by
  unfold tzipD
  rw [h1, h2]
  simp only [R.bind_ok, zipL_row]
theorem shaped_tup (g : List Int) : SeqAt.shaped (tupI g) = true := by
  have a := canLay_ints g
  have b := depth_ints g
  simp [SeqAt.shaped, PyData.canLay0, PyData.depth, a, b]
theorem eqD_tup (a b : List Int) : eqD (tupI a) (tupI b) = .ok (.bool (decide (a = b))) := by
  simp [eqD, shaped_tup, eqv_tup]
theorem neD_tup (a b : List Int) : neD (tupI a) (tupI b) = .ok (.bool (!decide (a = b))) := by
  simp [neD, shaped_tup, eqv_tup]
theorem inD_tups (x : List Int) (gs : List (List Int)) : inD (tupI x) (.list (gs.map tupI)) = .ok (.bool (decide (x ∈ gs))) := by
  simp only [inD, shaped_tup, shaped_tups, Bool.and_self, if_true, R.ok.injEq, PyData.bool.injEq]
  rw [List.any_map]
  have : ((fun z => PyData.eqv z (tupI x)) ∘ tupI) = fun g => decide (g = x) := by
    funext g; simp [Function.comp, eqv_tup]
  rw [this]
  rw [Bool.eq_iff_iff]
  simp
/-! ### alarms that do not meet -/
def Apart (as : List (Int × Int)) : Prop := as.Pairwise fun a b => ¬ Fit a b
instance (as : List (Int × Int)) : Decidable (Apart as) := by unfold Apart; infer_instance
theorem heard_in {t : Int} : ∀ {as : List (Int × Int)} {k : Nat}, heardF t k as ≠ [] ↔ ∃ b ∈ as, t % b.1 = b.2
  | [], k => by simp [heardF]
  | a :: as, k => by
    have ih := heard_in (t := t) (as := as) (k := k + 1)
    unfold heardF
    by_cases h : t % a.1 = a.2
    · simp [h]
    · rw [if_neg h, ih]
      simp [h]
theorem apart_heard : ∀ {as : List (Int × Int)}, AlA as → (Apart as ↔ ∀ t k, (heardF t k as).length ≤ 1)
  | [], _ => by simp [Apart, heardF]
  | a :: as, hA => by
    have hA2 : AlA as := fun b hb => hA b (List.mem_cons_of_mem _ hb)
    have ih := apart_heard hA2
    have ha := hA a (by simp)
    unfold Apart at ih ⊢
    rw [List.pairwise_cons, ih]
    constructor
    · rintro ⟨h1, h2⟩ t k
      unfold heardF
      by_cases h : t % a.1 = a.2
      · rw [if_pos h]
        by_cases e : heardF t (k + 1) as = []
        · simp [e]
        · obtain ⟨b, hb, hr⟩ := heard_in.mp e
          have hq := hA2 b hb
          exact absurd (solve_dvd ((mod_iff (by have := ha.p1; omega) ha.s0 ha.s1).mp h) ((mod_iff (by have := hq.p1; omega) hq.s0 hq.s1).mp hr)) (h1 b hb)
      · rw [if_neg h]; exact h2 t (k + 1)
    · intro h
      refine ⟨fun b hb hf => ?_, fun t k => ?_⟩
      · have hq := hA2 b hb
        obtain ⟨z, z1, z2⟩ := solve (p := a.1) (q := b.1) (s := a.2) (t := b.2) (by have := ha.p1; omega) (by have := hq.p1; omega) hf
        have r1 := (mod_iff (by have := ha.p1; omega) ha.s0 ha.s1).mpr z1
        have r2 := (mod_iff (by have := hq.p1; omega) hq.s0 hq.s1).mpr z2
        have := h z 0
        unfold heardF at this
        rw [if_pos r1, List.length_cons] at this
        have e : heardF z (0 + 1) as ≠ [] := heard_in.mpr ⟨b, hb, r2⟩
        have := List.length_pos_iff.mpr e
        omega
      · cases k with
        | zero =>
          have := h t 0
          have e : ∀ (bs : List (Int × Int)) (i j : Nat), (heardF t i bs).length = (heardF t j bs).length := by
            intro bs
            induction bs with
            | nil => intro i j; rfl
            | cons c bs ihb =>
              intro i j
              unfold heardF
              by_cases q : t % c.1 = c.2
              · simp [q, ihb (i + 1) (j + 1)]
              · simp [q, ihb (i + 1) (j + 1)]
          unfold heardF at this
          rw [e as 0 (0 + 1)]
          split at this
          · rw [List.length_cons] at this; omega
          · exact this
        | succ k =>
          have := h t k
          unfold heardF at this
          split at this
          · rw [List.length_cons] at this; omega
          · exact this
theorem apart_any {as : List (Int × Int)} (hA : AlA as) : ((rangeI 0 (lcmF as 1)).any fun t => decide (1 < (heardF t 0 as).length)) = !decide (Apart as) := by
  have hL := lcmF_pos as 1 (by omega) hA.pos
  rw [Bool.eq_iff_iff]
  simp only [List.any_eq_true, mem_rangeI, decide_eq_true_eq, Bool.not_eq_true', decide_eq_false_iff_not]
  rw [apart_heard hA]
  constructor
  · rintro ⟨t, _, ht⟩ h
    have := h t 0; omega
  · intro h
    have : ∃ t k, ¬ (heardF t k as).length ≤ 1 := by
      apply Classical.byContradiction
      intro q
      exact h fun t k => Classical.byContradiction fun z => q ⟨t, k, z⟩
    obtain ⟨t, k, q⟩ := this
    have e : ∀ (bs : List (Int × Int)) (i j : Nat), (heardF t i bs).length = (heardF t j bs).length := by
      intro bs
      induction bs with
      | nil => intro i j; rfl
      | cons c bs ihb =>
        intro i j
        unfold heardF
        by_cases q : t % c.1 = c.2
        · simp [q, ihb (i + 1) (j + 1)]
        · simp [q, ihb (i + 1) (j + 1)]
    refine ⟨t % lcmF as 1, ⟨Int.emod_nonneg _ (by omega), Int.emod_lt_of_pos _ hL⟩, ?_⟩
    rw [heard_perN, e as 0 k]
    omega
/-! ### fits -/
def fitB (as : List (Int × Int)) (a : Int × Int) : Bool := as.all fun b => !decide (Fit b a)
theorem fits_ok {wf : Nat} {as : List (Int × Int)} {a : Int × Int} (hl : as.length ≤ 1000) (hp : Pos as) (ha : 0 < a.1) (hw : a.1 < wf) : p_fits wf [rowD as, alD a] = .ok (.bool (fitB as a)) := by
  unfold p_fits
  have hc := comp_map (vs := [2]) (src := iVal (cV 0)) (g := gN 2) (e := cCall 2 (p_do_meet wf) (aCons (cV 2) (aCons (cV 1) aNil))) (r := startE 3 [rowD as, alD a]) (mk := alD) (is := as) rfl (le_SZ (by omega))
    (fun b => [some (.dat (rowD as)), some (.dat (alD a)), some (.dat (alD b))]) (fun b => .bool (decide (Fit b a))) (fun b hb => ⟨rfl, call2_ok rfl rfl (do_meet_ok (hp b hb) ha hw)⟩)
  have e : (as.map fun b => PyData.bool (decide (Fit b a))) = (as.map fun b => decide (Fit b a)).map .bool := by simp [List.map_map, Function.comp_def]
  rw [e] at hc
  refine run_ret (ret_ok (c1_ok (c1_ok (cL_ok hc) (anyD_bools _)) ?_))
  simp only [notD, R.ok.injEq, PyData.bool.injEq, fitB, List.any_map]
  rw [List.all_eq_not_any_not]
  simp [Function.comp_def]
/-! ### periods -/
def Pd (ps : List Int) : Prop := ps.length ≤ 6 ∧ ∀ p ∈ ps, 1 ≤ p ∧ p ≤ 12
def prodI (ps : List Int) : Int := ps.foldl (· * ·) 1
theorem check_periods_ok {wf : Nat} {ps : List Int} (h : Pd ps) : p_check_periods wf [tupI ps] = .ok .none := by
  unfold p_check_periods
  have hl := h.1
  have hc := comp_map (vs := [1]) (src := iVal (cV 0)) (g := gN 1) (e := cCall 3 (p_is_int wf) (aCons (cV 1) (aCons (cC (.int 1)) (aCons (cC (.int 12)) aNil)))) (r := startE 2 [tupI ps]) (mk := .int) (is := ps) rfl (le_SZ (by omega))
    (fun p => [some (.dat (tupI ps)), some (.dat (.int p))]) (fun _ => .bool true) (fun p hp => ⟨rfl, call3_ok rfl rfl rfl (by rw [is_int_int]; have := h.2 p hp; simp [this.1, this.2])⟩)
  have e : (ps.map fun _ => PyData.bool true) = (ps.map fun _ => true).map .bool := by simp [List.map_map, Function.comp_def]
  rw [e] at hc
  have hif : sIf (cOr (c1 notD (c1 (isiD .tuple) (cV 0))) (cOr (c2 gtD (cLenV 0) (cC (.int 6))) (c1 notD (c1 allD (cL (cComp [1] (iVal (cV 0)) (gN 1) tYes (cCall 3 (p_is_int wf) (aCons (cV 1) (aCons (cC (.int 1)) (aCons (cC (.int 12)) aNil)))))))))) (sRaise "InvalidPeriods") sNil (startE 2 [tupI ps]) = .ok .nx (startE 2 [tupI ps]) := by
    refine if_no (or_no rfl (or_no (c2_ok (a := .int ps.length) (by simp [cLenV, startE, lenD]) rfl ?_) (c1_ok (b := .bool false) (c1_ok (cL_ok hc) (allD_bools _)) ?_)))
    · have : ¬ (6 < (ps.length : Int)) := by omega
      simp [gtD, this]
    · simp [notD]
  unfold runD
  rw [hif]
theorem prod_for {wf : Nat} {x0 : Option Sl} : ∀ (ps : List Int) (m : Int) (x2 : Option Sl), (∀ p ∈ ps, 1 ≤ p ∧ p ≤ 60) → ∃ y2, forGo (gN 2) (p_check_product_b1 wf) (ps.map .int) [x0, some (.dat (.int m)), x2] = .ok .nx [x0, some (.dat (.int (ps.foldl (· * ·) m))), y2]
  | [], m, x2, _ => ⟨x2, rfl⟩
  | p :: ps, m, x2, h => by
    obtain ⟨y2, e⟩ := prod_for (wf := wf) (x0 := x0) ps (m * p) (some (.dat (.int p))) fun q hq => h q (List.mem_cons_of_mem _ hq)
    refine ⟨y2, ?_⟩
    have hp := h p (by simp)
    have e1 : p_check_product_b1 wf [x0, some (.dat (.int m)), some (.dat (.int p))] = .ok .nx [x0, some (.dat (.int (m * p))), some (.dat (.int p))] := by
      unfold p_check_product_b1
      exact set_ok (c2_ok rfl rfl (mul_small (.inr (inB_small (by omega) (by omega))))) (by simp)
    simp only [List.map_cons, forGo, gN, List.length_cons, List.length_nil, List.set_cons_succ, List.set_cons_zero]
    simp only [show (2 : Nat) < 0 + 1 + 1 + 1 from by omega, if_true, e1, List.foldl_cons]
    exact e
theorem check_product_ok {wf : Nat} {d : PyData} {ps : List Int} (hd : itemsD d = .ok (ps.map .int)) (h : ∀ p ∈ ps, 1 ≤ p ∧ p ≤ 60) (hm : prodI ps ≤ 20000) : p_check_product wf [d] = .ok .none := by
  obtain ⟨y2, e⟩ := prod_for (wf := wf) (x0 := some (.dat d)) ps 1 none h
  have hif : sIf (c2 gtD (cV 1) (cC (.int 20000))) (sRaise "TooLarge") sNil [some (.dat d), some (.dat (.int (ps.foldl (· * ·) 1))), y2] = .ok .nx [some (.dat d), some (.dat (.int (ps.foldl (· * ·) 1))), y2] := by
    refine if_no (c2_ok rfl rfl ?_)
    have : ¬ (20000 < ps.foldl (· * ·) 1) := by unfold prodI at hm; omega
    simp [gtD, this]
  have h2 : sSeq (sSet 1 (xD (cC (.int 1)))) (sSeq (sFor (iVal (cV 0)) (gN 2) (p_check_product_b1 wf)) (sIf (c2 gtD (cV 1) (cC (.int 20000))) (sRaise "TooLarge") sNil)) (startE 3 [d]) = .ok .nx [some (.dat d), some (.dat (.int (ps.foldl (· * ·) 1))), y2] := by
    refine seq_ok (set_ok rfl (by simp [startE])) (seq_ok (sfor_ok (ds := ps.map .int) ?_ e) hif)
    show iVal (cV 0) [some (.dat d), some (.dat (.int 1)), none] = _
    simp [iVal, cV, hd]
  unfold p_check_product runD
  rw [h2]
theorem check_both_ok {wf : Nat} {ps : List Int} (h : Pd ps) (hm : prodI ps ≤ 20000) : p_check_both wf [tupI ps] = .ok .none := by
  unfold p_check_both runD
  rw [seq_ok (drop_ok (call1_ok rfl (check_periods_ok h))) (drop_ok (call1_ok rfl (check_product_ok (d := tupI ps) rfl (fun p hp => by have := h.2 p hp; omega) hm)))]
/-! ### all shifts, the good ones -/
theorem snoc_ind {α : Type} {P : List α → Prop} (h0 : P []) (h1 : ∀ l a, P l → P (l ++ [a])) (l : List α) : P l := by
  have key : ∀ l : List α, P l.reverse := by
    intro l
    induction l with
    | nil => exact h0
    | cons a l ih => rw [List.reverse_cons]; exact h1 _ _ ih
  have := key l.reverse
  rwa [List.reverse_reverse] at this
def evSt (f : List (List Int)) (p : Int) : List (List Int) := f.flatMap fun ss => (rangeI 0 p).map fun s => ss ++ [s]
def evF (ps : List Int) : List (List Int) := ps.foldl evSt [[]]
theorem evF_snoc (ps : List Int) (p : Int) : evF (ps ++ [p]) = evSt (evF ps) p := by
  unfold evF
  rw [List.foldl_append]; rfl
def ShB (ps ss : List Int) : Prop := ss.length = ps.length ∧ ∀ a ∈ ps.zip ss, 0 ≤ a.2 ∧ a.2 < a.1
instance (ps ss : List Int) : Decidable (ShB ps ss) := by unfold ShB; infer_instance
theorem zip_snoc {ps ss : List Int} (h : ss.length = ps.length) (p s : Int) : (ps ++ [p]).zip (ss ++ [s]) = ps.zip ss ++ [(p, s)] := by
  rw [List.zip_append h.symm]; rfl
theorem mem_evF (ps : List Int) : ∀ ss, ss ∈ evF ps ↔ ShB ps ss := by
  refine snoc_ind (P := fun ps => ∀ ss, ss ∈ evF ps ↔ ShB ps ss) (fun ss => ?_) (fun ps p ih ss => ?_) ps
  · simp only [evF, List.foldl_nil, List.mem_singleton, ShB, List.zip_nil_left, List.not_mem_nil, false_implies, implies_true, and_true, List.length_nil]
    exact List.length_eq_zero_iff.symm
  · rw [evF_snoc]
    unfold evSt
    simp only [List.mem_flatMap, List.mem_map, mem_rangeI]
    constructor
    · rintro ⟨ss, h1, s, h2, rfl⟩
      have hq := (ih ss).mp h1
      refine ⟨by simp [hq.1], fun a ha => ?_⟩
      rw [zip_snoc hq.1] at ha
      rcases List.mem_append.mp ha with ha | ha
      · exact hq.2 a ha
      · rw [List.mem_singleton.mp ha]; exact h2
    · rintro ⟨h1, h2⟩
      have hne : ss ≠ [] := by intro e; subst e; simp at h1
      obtain ⟨l, s, rfl⟩ : ∃ l s, ss = l ++ [s] := ⟨ss.dropLast, ss.getLast hne, (List.dropLast_concat_getLast hne).symm⟩
      have hl : l.length = ps.length := by simpa using h1
      rw [zip_snoc hl] at h2
      refine ⟨l, (ih l).mpr ⟨hl, fun a ha => h2 a (List.mem_append_left _ ha)⟩, s, h2 (p, s) (List.mem_append_right _ (by simp)), rfl⟩
theorem prodI_snoc (ps : List Int) (p : Int) : prodI (ps ++ [p]) = prodI ps * p := by
  unfold prodI; rw [List.foldl_append]; rfl
theorem flat_len {α β : Type} (f : α → List β) (n : Nat) : ∀ l : List α, (∀ a ∈ l, (f a).length ≤ n) → (l.flatMap f).length ≤ l.length * n
  | [], _ => by simp
  | a :: l, h => by
    have ih := flat_len f n l fun b hb => h b (List.mem_cons_of_mem _ hb)
    have := h a (by simp)
    rw [List.flatMap_cons, List.length_append, List.length_cons, Nat.succ_mul]
    omega
theorem prodI_pos (ps : List Int) : (∀ p ∈ ps, 1 ≤ p) → 1 ≤ prodI ps := by
  refine snoc_ind (P := fun ps => (∀ p ∈ ps, 1 ≤ p) → 1 ≤ prodI ps) (fun _ => by simp [prodI]) (fun ps p ih h => ?_) ps
  have h1 := ih fun q hq => h q (List.mem_append_left _ hq)
  have h2 := h p (by simp)
  rw [prodI_snoc]
  have := Int.mul_le_mul h1 h2 (by omega) (by omega)
  simpa using this
theorem prodI_pre {ps qs : List Int} : (∀ p ∈ ps ++ qs, 1 ≤ p) → prodI ps ≤ prodI (ps ++ qs) := by
  refine snoc_ind (P := fun qs => (∀ p ∈ ps ++ qs, 1 ≤ p) → prodI ps ≤ prodI (ps ++ qs)) (fun _ => by simp) (fun qs q ih h => ?_) qs
  rw [← List.append_assoc] at h ⊢
  have h1 := ih fun p hp => h p (List.mem_append_left _ hp)
  have h2 := h q (by simp)
  have h3 := prodI_pos (ps ++ qs) fun p hp => h p (List.mem_append_left _ hp)
  rw [prodI_snoc]
  have := Int.mul_le_mul (Int.le_refl (prodI (ps ++ qs))) h2 (by omega) (by omega)
  omega
theorem evF_len (ps : List Int) : (∀ p ∈ ps, 1 ≤ p) → ((evF ps).length : Int) ≤ prodI ps := by
  refine snoc_ind (P := fun ps => (∀ p ∈ ps, 1 ≤ p) → ((evF ps).length : Int) ≤ prodI ps) (fun _ => by simp [evF, prodI]) (fun ps p ih h => ?_) ps
  have h1 := ih fun q hq => h q (List.mem_append_left _ hq)
  have h2 := h p (by simp)
  rw [evF_snoc, prodI_snoc]
  have := flat_len (fun ss => (rangeI 0 p).map fun s => ss ++ [s]) p.toNat (evF ps) (fun ss _ => by simp [rangeI_length])
  have h3 : (((evF ps).length * p.toNat : Nat) : Int) = ((evF ps).length : Int) * p := by
    rw [Int.natCast_mul]; congr 1; omega
  have h4 := Int.mul_le_mul_of_nonneg_right h1 (show 0 ≤ p by omega)
  unfold evSt
  omega
def goodF (ps : List Int) : List (List Int) := (evF ps).filter fun ss => decide (Apart (ps.zip ss))
def stF (ps : List Int) (p : Int) (ss : List Int) : List (List Int) := ((rangeI 0 p).filter fun s => fitB (ps.zip ss) (p, s)).map fun s => ss ++ [s]
theorem apart_snoc {as : List (Int × Int)} {a : Int × Int} : Apart (as ++ [a]) ↔ Apart as ∧ fitB as a = true := by
  unfold Apart fitB
  rw [List.pairwise_append]
  simp only [List.pairwise_cons, List.not_mem_nil, false_implies, implies_true, List.Pairwise.nil, and_self, true_and, List.mem_singleton, forall_eq, List.all_eq_true, Bool.not_eq_true', decide_eq_false_iff_not]
theorem zip_pre {ps qs ss : List Int} (h : ss.length = ps.length) : (ps ++ qs).zip ss = ps.zip ss := by
  induction ps generalizing ss with
  | nil => cases ss with
    | nil => simp
    | cons s ss => simp at h
  | cons p ps ih => cases ss with
    | nil => simp at h
    | cons s ss => simp at h ⊢; exact ih h
theorem goodF_snoc (ps : List Int) (p : Int) (qs : List Int) : (goodF ps).flatMap (stF (ps ++ qs) p) = goodF (ps ++ [p]) := by
  unfold goodF
  rw [evF_snoc]
  unfold evSt
  have key : ∀ l : List (List Int), (∀ ss ∈ l, ss.length = ps.length) → (l.filter fun ss => decide (Apart (ps.zip ss))).flatMap (stF (ps ++ qs) p) = (l.flatMap fun ss => (rangeI 0 p).map fun s => ss ++ [s]).filter fun ss => decide (Apart ((ps ++ [p]).zip ss)) := by
    intro l
    induction l with
    | nil => intro _; rfl
    | cons ss l ih =>
      intro h
      have hl := h ss (by simp)
      have ih := ih fun q hq => h q (List.mem_cons_of_mem _ hq)
      rw [List.flatMap_cons, List.filter_append, ← ih, List.filter_map]
      have e : ((fun ss => decide (Apart ((ps ++ [p]).zip ss))) ∘ fun s => ss ++ [s]) = fun s => decide (Apart (ps.zip ss)) && fitB (ps.zip ss) (p, s) := by
        funext s
        simp only [Function.comp, zip_snoc hl]
        rw [Bool.eq_iff_iff]
        simp [apart_snoc]
      rw [e]
      by_cases c : Apart (ps.zip ss)
      · rw [List.filter_cons_of_pos (by simpa using c), List.flatMap_cons]
        simp only [stF, zip_pre hl, c, decide_true, Bool.true_and]
      · rw [List.filter_cons_of_neg (by simpa using c)]
        simp [c]
  exact key _ fun ss hs => ((mem_evF ps ss).mp hs).1
theorem goodF_len {ps : List Int} (h : ∀ p ∈ ps, 1 ≤ p) : ((goodF ps).length : Int) ≤ prodI ps := by
  have := evF_len ps h
  have h2 : (goodF ps).length ≤ (evF ps).length := List.length_filter_le _ _
  omega
theorem enumI_snd {α : Type} : ∀ (as : List α) (k : Int), (enumI k as).map (·.2) = as
  | [], _ => rfl
  | a :: as, k => by simp [enumI, enumI_snd as]
theorem pos_zip {ps ss : List Int} (h : ∀ p ∈ ps, 1 ≤ p) : Pos (ps.zip ss) := fun a ha => by
  have := h a.1 (List.of_mem_zip ha).1
  omega
theorem all_good_in {wf : Nat} {d : PyData} {ps : List Int} {p : Int} {fs : List (List Int)} {x1 x2 x5 x6 x7 : Option Sl} (hd : itemsD d = .ok (ps.map .int)) (h : ∀ q ∈ ps, 1 ≤ q) (hl : ps.length ≤ 6) (p1 : 1 ≤ p) (p12 : p ≤ 12) (hw : 60 < wf) (hf : fs.length ≤ 20000) (hs : ∀ ss ∈ fs, ss.length ≤ 6) :
    ∃ y5 y6 y7, forGo (gN 5) (p_all_good_b1 wf) (fs.map tupI) [some (.dat d), x1, x2, some (.dat (.int p)), some (.own []), x5, x6, x7] = .ok .nx [some (.dat d), x1, x2, some (.dat (.int p)), some (.own ((fs.flatMap (stF ps p)).map tupI)), y5, y6, y7] := by
  have hlen : ∀ ss, (stF ps p ss).length ≤ 12 := fun ss => by
    unfold stF
    rw [List.length_map]
    refine Nat.le_trans (List.length_filter_le _ _) ?_
    rw [rangeI_length]; omega
  obtain ⟨r2, e, y5, y6, y7, rfl⟩ := for_pre (g := gN 5) (b := p_all_good_b1 wf) (mk := tupI) (is := fs)
    (I := fun l r => ∃ y5 y6 y7, r = [some (.dat d), x1, x2, some (.dat (.int p)), some (.own ((l.flatMap (stF ps p)).map tupI)), y5, y6, y7])
    (r := [some (.dat d), x1, x2, some (.dat (.int p)), some (.own []), x5, x6, x7])
    (fun pre ss post e r q => by
      obtain ⟨y5, y6, y7, rfl⟩ := q
      have hss := hs ss (by rw [e]; simp)
      have hpl : pre.length ≤ 20000 := by
        have := congrArg List.length e
        simp at this; omega
      have hn := flat_len (stF ps p) 12 pre fun a _ => hlen a
      have hzl : (ps.zip ss).length ≤ 1000 := by rw [List.length_zip]; omega
      have hc := comp_ok (vs := [7]) (src := iRng1 (cV 3)) (g := gN 7) (t := cT (cCall 2 (p_fits wf) (aCons (cV 6) (aCons (cTup (aCons (cV 3) (aCons (cV 7) aNil))) aNil)))) (e := c2 addD (cV 5) (cTup (aCons (cV 7) aNil)))
        (r := [some (.dat d), x1, x2, some (.dat (.int p)), some (.own ((pre.flatMap (stF ps p)).map tupI)), some (.dat (tupI ss)), some (.dat (rowD (ps.zip ss))), y7]) (mk := .int) (is := rangeI 0 p) (rng1_ok rfl (by omega) (by omega)) (by rw [rangeI_length]; exact le_SZ (by omega))
        (fun s => [some (.dat d), x1, x2, some (.dat (.int p)), some (.own ((pre.flatMap (stF ps p)).map tupI)), some (.dat (tupI ss)), some (.dat (rowD (ps.zip ss))), some (.dat (.int s))]) (fun s => fitB (ps.zip ss) (p, s)) (fun s => tupI (ss ++ [s]))
        (fun s _ => ⟨rfl, cT_ok (call2_ok rfl (tup_al rfl rfl) (fits_ok hzl (pos_zip h) (a := (p, s)) (show 0 < p by omega) (show p < wf by omega))), fun _ => c2_ok rfl rfl (by
          have : ss.length + 1 ≤ SZ := le_SZ (by omega)
          simp [addD, this])⟩)
      refine ⟨_, _, rfl, seq_ok (set_ok (c2_ok rfl rfl (tzip_ok hd rfl)) (by simp)) (ext_ok (ds := (pre.flatMap (stF ps p)).map tupI) rfl (cL_ok hc) ?_), some (.dat (tupI ss)), some (.dat (rowD (ps.zip ss))), y7, ?_⟩
      · have h3 : (((rangeI 0 p).filter fun s => fitB (ps.zip ss) (p, s)).map fun s => tupI (ss ++ [s])).length ≤ 12 := by
          have := hlen ss
          unfold stF at this
          simpa using this
        refine le_SZ ?_
        rw [List.length_map]
        omega
      · simp [stF, List.map_map, Function.comp_def]) ⟨x5, x6, x7, rfl⟩
  exact ⟨y5, y6, y7, e⟩
theorem all_good_ok {wf : Nat} {d : PyData} {ps : List Int} (hd : itemsD d = .ok (ps.map .int)) (h : Pd ps) (hm : prodI ps ≤ 20000) (hw : 60 < wf) : p_all_good wf [d] = .ok (.list ((goodF ps).map tupI)) := by
  have h1 : ∀ q ∈ ps, 1 ≤ q := fun q hq => (h.2 q hq).1
  obtain ⟨r2, e, y2, y3, y4, y5, y6, y7, rfl⟩ := for_pre (g := gT (gCons (gN 2) (gCons (gN 3) gNil))) (b := p_all_good_b2 wf) (mk := fun x : Int × Int => .tuple [.int x.1, .int x.2]) (is := enumI 0 ps)
    (I := fun l r => ∃ y2 y3 y4 y5 y6 y7, r = [some (.dat d), some (.dat (.list ((goodF (l.map (·.2))).map tupI))), y2, y3, y4, y5, y6, y7])
    (r := [some (.dat d), some (.dat (.list [tupI []])), none, none, none, none, none, none])
    (fun pre x post e r q => by
      obtain ⟨y2, y3, y4, y5, y6, y7, rfl⟩ := q
      have es : ps = pre.map (·.2) ++ x.2 :: post.map (·.2) := by
        have := congrArg (List.map (·.2)) e
        rw [enumI_snd] at this
        simpa using this
      have hx := h.2 x.2 (by rw [es]; simp)
      have hpre : ∀ q ∈ pre.map (·.2), 1 ≤ q := fun q hq => h1 q (by rw [es]; exact List.mem_append_left _ hq)
      have hpl : (pre.map (·.2)).length ≤ 6 := by
        have := congrArg List.length es
        have := h.1
        simp at *; omega
      have hfl : (goodF (pre.map (·.2))).length ≤ 20000 := by
        have a := goodF_len hpre
        have b := prodI_pre (ps := pre.map (·.2)) (qs := x.2 :: post.map (·.2)) (by rw [← es]; exact h1)
        rw [← es] at b
        omega
      obtain ⟨z5, z6, z7, e2⟩ := all_good_in (wf := wf) (x1 := some (.dat (.list ((goodF (pre.map (·.2))).map tupI)))) (x2 := some (.dat (.int x.1))) (x5 := y5) (x6 := y6) (x7 := y7) hd h1 h.1 hx.1 hx.2 hw hfl (fun ss hs => by
        have := ((mem_evF _ ss).mp (List.mem_filter.mp hs).1).1
        omega)
      refine ⟨_, [some (.dat d), some (.dat (.list ((goodF ((pre ++ [x]).map (·.2))).map tupI))), some (.dat (.int x.1)), some (.dat (.int x.2)), some (.dat (.list ((goodF ((pre ++ [x]).map (·.2))).map tupI))), z5, z6, z7], rfl, ?_, some (.dat (.int x.1)), some (.dat (.int x.2)), some (.dat (.list ((goodF ((pre ++ [x]).map (·.2))).map tupI))), z5, z6, z7, rfl⟩
      refine seq_ok (setO_ok (ds := []) (by rfl) (by simp)) (seq_ok (sfor_ok (ds := (goodF (pre.map (·.2))).map tupI) (by rfl) e2) ?_)
      have e3 := goodF_snoc (pre.map (·.2)) x.2 (x.2 :: post.map (·.2))
      rw [← es] at e3
      rw [e3, List.map_append]
      rfl) ⟨none, none, none, none, none, none, by simp [goodF, evF, Apart]⟩
  rw [enumI_snd] at e
  unfold p_all_good
  refine run_ret (seq_ok (r1 := [some (.dat d), some (.dat (.list [tupI []])), none, none, none, none, none, none]) (by rfl) (seq_ok (sfor_ok (ds := (enumI 0 ps).map fun x : Int × Int => .tuple [.int x.1, .int x.2]) ?_ e) (ret_ok rfl)))
  show iEnum (cV 0) [some (.dat d), _, none, none, none, none, none, none] = _
  simp only [iEnum, cV, List.getElem?_cons_zero, R.bind_ok, hd, R.nox_ok]
  rw [enum_eq PyData.int ps 0]; rfl
def optT : Option (List Int) → PyData
  | some g => tupI g
  | none => .none
theorem ix_tups {i : Nat} {r : En} {g : List Int} {gs : List (List Int)} (h : r[i]? = some (some (.dat (.list ((g :: gs).map tupI))))) : cIxV i (cC (.int 0)) r = .ok (tupI g) := by
  unfold cIxV
  rw [h]
  simp [cC, idxD, itemAt, L2.atI, L2.ixN]
theorem good_shifts_ok {wf : Nat} {ps : List Int} (h : Pd ps) (hm : prodI ps ≤ 20000) (hw : 60 < wf) : p_good_shifts wf [tupI ps] = .ok (optT (goodF ps).head?) := by
  unfold p_good_shifts
  refine run_ret (seq_ok (drop_ok (call1_ok rfl (check_both_ok h hm))) (seq_ok (set_ok (call1_ok rfl (all_good_ok rfl h hm hw)) (by simp [startE])) (ret_ok (if_expr (b := !decide (goodF ps = [])) (c2_ok rfl rfl (neD_tups _ [])) (fun hb => ?_) fun hb => ?_))))
  · cases e : goodF ps with
    | nil => simp [e] at hb
    | cons g gs => exact ix_tups rfl
  · have hb : goodF ps = [] := by simpa using hb
    rw [hb]; rfl
theorem count_good_ok {wf : Nat} {ps : List Int} (h : Pd ps) (hm : prodI ps ≤ 20000) (hw : 60 < wf) : p_count_good wf [tupI ps] = .ok (.int (goodF ps).length) := by
  unfold p_count_good
  refine run_ret (seq_ok (drop_ok (call1_ok rfl (check_both_ok h hm))) (ret_ok (c1_ok (call1_ok rfl (all_good_ok rfl h hm hw)) ?_)))
  simp [lenD]
theorem enumI_snoc {α : Type} (a : α) : ∀ (as : List α) (k : Int), enumI k (as ++ [a]) = enumI k as ++ [(k + as.length, a)]
  | [], k => by simp [enumI]
  | b :: as, k => by
    have := enumI_snoc a as (k + 1)
    simp only [List.cons_append, enumI, this, List.length_cons]
    have e : k + 1 + (as.length : Int) = k + ((as.length + 1 : Nat) : Int) := by omega
    rw [e]
theorem apart_take (as : List (Int × Int)) : ((enumI 0 as).all fun x => fitB (as.take x.1.toNat) x.2) = decide (Apart as) := by
  refine snoc_ind (P := fun as => ((enumI 0 as).all fun x => fitB (as.take x.1.toNat) x.2) = decide (Apart as)) (by simp [enumI, Apart]) (fun as a ih => ?_) as
  rw [enumI_snoc, List.all_append]
  have e : ((enumI 0 as).all fun x => fitB ((as ++ [a]).take x.1.toNat) x.2) = (enumI 0 as).all fun x => fitB (as.take x.1.toNat) x.2 := by
    rw [Bool.eq_iff_iff]
    simp only [List.all_eq_true]
    refine forall_congr' fun x => imp_congr_right fun hx => ?_
    obtain ⟨j, hj, e⟩ := mem_enumI.mp hx
    have : j < as.length := (List.getElem?_eq_some_iff.mp hj).1
    rw [List.take_append_of_le_length (by omega)]
  rw [e, ih]
  simp only [List.all_cons, List.all_nil, Bool.and_true, Int.zero_add, Int.toNat_natCast, List.take_left]
  rw [Bool.eq_iff_iff]
  simp [apart_snoc]
theorem row_zip {ps ss : List Int} (h : Pd ps) (hs : ShB ps ss) : Row (ps.zip ss) := by
  refine ⟨by rw [List.length_zip]; have := h.1; omega, fun a ha => ?_⟩
  have h1 := h.2 a.1 (List.of_mem_zip ha).1
  have h2 := hs.2 a ha
  exact ⟨h1.1, by omega, h2.1, h2.2⟩
theorem are_good_no {wf : Nat} {ps : List Int} {d : PyData} (h : Pd ps) (hd : isiD .tuple d = .ok (.bool false)) : p_are_good wf [tupI ps, d] = .ok (.bool false) := by
  unfold p_are_good
  refine run_ret (seq_ok (drop_ok (call1_ok rfl (check_periods_ok h))) (seq_ret (if_yes (or_ok (a := true) (b := true) (c1_ok (c1_ok rfl hd) rfl) fun z => by cases z) rfl)))
theorem are_good_ok {wf : Nat} {ps ss : List Int} (h : Pd ps) (hw : 60 < wf) (hl6 : ss.length ≤ 1000) : p_are_good wf [tupI ps, tupI ss] = .ok (.bool (decide (ShB ps ss ∧ Apart (ps.zip ss)))) := by
  unfold p_are_good
  by_cases hl : ss.length = ps.length
  · have hz : (ps.zip ss).length ≤ 6 := by rw [List.length_zip]; have := h.1; omega
    have hc := comp_map (vs := [5, 6]) (src := iZip (cV 0) (cV 1)) (g := gT (gCons (gN 5) (gCons (gN 6) gNil))) (e := cCall 3 (p_is_int wf) (aCons (cV 6) (aCons (cC (.int 0)) (aCons (c2 subD (cV 5) (cC (.int 1))) aNil)))) (r := startE 7 [tupI ps, tupI ss]) (mk := alD) (is := ps.zip ss)
      (by show R.ok (zipL (ps.map .int) (ss.map .int)) = _; rw [zipL_row]) (len_SZ hz) (fun a => [some (.dat (tupI ps)), some (.dat (tupI ss)), none, none, none, some (.dat (.int a.1)), some (.dat (.int a.2))]) (fun a => .bool (decide (0 ≤ a.2) && decide (a.2 ≤ a.1 - 1)))
      (fun a _ => ⟨rfl, call3_ok rfl rfl (c2_ok rfl rfl rfl) (is_int_int _ _ _)⟩)
    have e : ((ps.zip ss).map fun a => PyData.bool (decide (0 ≤ a.2) && decide (a.2 ≤ a.1 - 1))) = ((ps.zip ss).map fun a => decide (0 ≤ a.2) && decide (a.2 ≤ a.1 - 1)).map .bool := by simp [List.map_map, Function.comp_def]
    rw [e] at hc
    have hb : (((ps.zip ss).map fun a => decide (0 ≤ a.2) && decide (a.2 ≤ a.1 - 1)).all id) = decide (ShB ps ss) := by
      rw [Bool.eq_iff_iff]
      simp only [List.all_map, List.all_eq_true, Function.comp, id, Bool.and_eq_true, decide_eq_true_eq, ShB, hl, true_and]
      refine forall_congr' fun a => imp_congr_right fun _ => ?_
      omega
    by_cases hs : ShB ps ss
    · refine run_ex (seq_rx (drop_ok (call1_ok rfl (check_periods_ok h))) (seq_rx (if_no (or_no rfl (c2_ok (a := .int ss.length) (b := .int ps.length) (by simp [cLenV, startE, lenD]) (by simp [cLenV, startE, lenD]) (by rw [neD_dec]; simp [hl])))) ?_))
      refine seq_rx (if_no (c1_ok (c1_ok (cL_ok hc) (allD_bools _)) (by rw [hb]; simp [notD, hs]))) (seq_rx (set_ok (c2_ok rfl rfl (tzip_ok (ps := ps) (ss := ss) rfl rfl)) (by simp [startE])) ⟨_, ret_ok ?_⟩)
      have hR := row_zip h hs
      have hc2 := comp_map (vs := [3, 4]) (src := iEnum (cV 2)) (g := gT (gCons (gN 3) (gCons (gN 4) gNil))) (e := cCall 2 (p_fits wf) (aCons (cSlc (cV 2) oNone (oSome (cV 3))) (aCons (cV 4) aNil))) (r := [some (.dat (tupI ps)), some (.dat (tupI ss)), some (.dat (rowD (ps.zip ss))), none, none, none, none]) (mk := fun x : Int × Int × Int => .tuple [.int x.1, alD x.2]) (is := enumI 0 (ps.zip ss))
        (by show R.ok (enumFrom 0 ((ps.zip ss).map alD)) = _; rw [enum_eq alD (ps.zip ss) 0]; rfl) (by rw [enumI_len]; exact len_SZ hz) (fun x => [some (.dat (tupI ps)), some (.dat (tupI ss)), some (.dat (rowD (ps.zip ss))), some (.dat (.int x.1)), some (.dat (alD x.2)), none, none]) (fun x => .bool (fitB ((ps.zip ss).take x.1.toNat) x.2))
        (fun x hx => ⟨rfl, by
          obtain ⟨j, hj, ej⟩ := mem_enumI.mp hx
          have hm : x.2 ∈ ps.zip ss := List.mem_of_getElem? hj
          have q := hR.2 x.2 hm
          have q1 := q.p1; have q2 := q.p2
          exact call2_ok (slc_ok rfl rfl rfl (slc_take _ (by omega))) rfl (fits_ok (by rw [List.length_take]; omega) (fun a ha => hR.pos a (List.mem_of_mem_take ha)) (by omega) (by omega))⟩)
      have e2 : ((enumI 0 (ps.zip ss)).map fun x => PyData.bool (fitB ((ps.zip ss).take x.1.toNat) x.2)) = ((enumI 0 (ps.zip ss)).map fun x => fitB ((ps.zip ss).take x.1.toNat) x.2).map .bool := by simp [List.map_map, Function.comp_def]
      rw [e2] at hc2
      refine c1_ok (cL_ok hc2) ?_
      rw [allD_bools, List.all_map]
      have := apart_take (ps.zip ss)
      simp only [Function.comp_def, id, this, hs, true_and]
    · refine run_ex (seq_rx (drop_ok (call1_ok rfl (check_periods_ok h))) (seq_rx (if_no (or_no rfl (c2_ok (a := .int ss.length) (b := .int ps.length) (by simp [cLenV, startE, lenD]) (by simp [cLenV, startE, lenD]) (by rw [neD_dec]; simp [hl])))) ?_))
      refine ⟨_, seq_ret (if_yes (c1_ok (c1_ok (cL_ok hc) (allD_bools _)) (by rw [hb]; simp [notD, hs])) (ret_ok ?_))⟩
      simp only [cC, hs, false_and, decide_false]
  · refine run_ret (seq_ok (drop_ok (call1_ok rfl (check_periods_ok h))) (seq_ret (if_yes (or_ok (a := false) (b := true) rfl fun _ => c2_ok (a := .int ss.length) (b := .int ps.length) (by simp [cLenV, startE, lenD]) (by simp [cLenV, startE, lenD]) (by rw [neD_dec]; simp; omega)) (ret_ok ?_))))
    have : ¬ (ShB ps ss ∧ Apart (ps.zip ss)) := fun q => hl q.1.1
    simp only [cC, this, decide_false]
theorem lcm_27720 {as : List (Int × Int)} (h : ∀ a ∈ as, 1 ≤ a.1 ∧ a.1 ≤ 12) : lcmF as 1 ≤ 27720 := Int.le_of_dvd (by decide) (lcmF_dvd as 1 (by decide) fun a ha => by
  have := h a ha
  have : a.1 = 1 ∨ a.1 = 2 ∨ a.1 = 3 ∨ a.1 = 4 ∨ a.1 = 5 ∨ a.1 = 6 ∨ a.1 = 7 ∨ a.1 = 8 ∨ a.1 = 9 ∨ a.1 = 10 ∨ a.1 = 11 ∨ a.1 = 12 := by omega
  rcases this with e | e | e | e | e | e | e | e | e | e | e | e <;> rw [e] <;> decide)
theorem apart2_ok {wf : Nat} {ps ss : List Int} (h : Pd ps) (hs : ShB ps ss) (hw : 60 < wf) : p__law_apart wf [tupI ps, tupI ss] = .ok (.bool (decide (Apart (ps.zip ss)))) := by
  have hR := row_zip h hs
  have hA : AlA (ps.zip ss) := hR.2
  have hL := lcmF_pos (ps.zip ss) 1 (by omega) hR.pos
  have hL2 := lcm_27720 (as := ps.zip ss) fun a ha => h.2 a.1 (List.of_mem_zip ha).1
  unfold p__law_apart
  refine run_ret (seq_ok (set_ok (c2_ok rfl rfl (tzip_ok (ps := ps) (ss := ss) rfl rfl)) (by simp [startE])) (ret_ok ?_))
  have hc := comp_map (vs := [3]) (src := iRng1 (cCall 1 (p__law_cycle wf) (aCons (cV 2) aNil))) (g := gN 3) (e := c2 gtD (c1 lenD (cCall 2 (p__law_heard wf) (aCons (cV 2) (aCons (cV 3) aNil)))) (cC (.int 1))) (r := [some (.dat (tupI ps)), some (.dat (tupI ss)), some (.dat (rowD (ps.zip ss))), none]) (mk := .int) (is := rangeI 0 (lcmF (ps.zip ss) 1))
    (rng1_ok (call1_ok rfl (cyc_ok _ fun a ha => by have q := hR.2 a ha; have := q.p1; have := q.p2; omega)) (by omega) (by omega)) (by rw [rangeI_length]; exact le_SZ (by omega)) (fun t => [some (.dat (tupI ps)), some (.dat (tupI ss)), some (.dat (rowD (ps.zip ss))), some (.dat (.int t))]) (fun t => .bool (decide (1 < (heardF t 0 (ps.zip ss)).length)))
    (fun t _ => ⟨rfl, c2_ok (a := .int (heardF t 0 (ps.zip ss)).length) (c1_ok (call2_ok rfl rfl (heard_ok hR)) (by simp [lenD])) rfl (by simp only [gtD]; congr 2; rw [Bool.eq_iff_iff]; simp; omega)⟩)
  have e : ((rangeI 0 (lcmF (ps.zip ss) 1)).map fun t => PyData.bool (decide (1 < (heardF t 0 (ps.zip ss)).length))) = ((rangeI 0 (lcmF (ps.zip ss) 1)).map fun t => decide (1 < (heardF t 0 (ps.zip ss)).length)).map .bool := by simp [List.map_map, Function.comp_def]
  rw [e] at hc
  refine c1_ok (c1_ok (cL_ok hc) (anyD_bools _)) ?_
  have := apart_any hA
  rw [List.any_map]
  simp only [Function.comp_def, id, this, notD, Bool.not_not]
theorem frz_to {is : List Nat} {s : Ss} {r r' : En} {x : RS} (h : is.foldl (fun r i => frz1 i r) r = r') (h2 : s r' = x) : sFrz is s r = x := by subst h; exact h2
theorem cut_map {α β : Type} (f : α → β) (l : List α) (lo hi : Option Int) : cutL (l.map f) lo hi = (cutL l lo hi).map f := by
  unfold cutL
  rw [List.length_map, List.map_take, List.map_drop]
theorem cut_mem {α : Type} {l : List α} {lo hi : Option Int} {x : α} (h : x ∈ cutL l lo hi) : x ∈ l := by
  unfold cutL at h
  exact List.mem_of_mem_drop (List.mem_of_mem_take h)
theorem acons_ok {f : Ex} {g : Exl} {r : En} {a : PyData} {as : List PyData} (h : f r = .ok a) (h2 : g r = .ok as) : aCons f g r = .ok (a :: as) := by
  unfold aCons; rw [h]; simp only [R.bind_ok, h2]
theorem lst_ok {f : Exl} {r : En} {ds : List PyData} (h : f r = .ok ds) (h2 : ds.length ≤ SZ) : cLst f r = .ok ds := by
  unfold cLst; rw [h]; simp only [R.bind_ok, h2, if_true]
theorem frz_dat {i : Nat} {s : Ss} {r : En} {x : RS} {d : PyData} (h : r[i]? = some (some (.dat d))) (h2 : s r = x) : sFrz [i] s r = x := by
  refine frz_to (r' := r) ?_ h2
  simp only [List.foldl_cons, List.foldl_nil, frz1, h]
theorem frz_own {i : Nat} {s : Ss} {r : En} {x : RS} {ds : List PyData} (h : r[i]? = some (some (.own ds))) (h2 : s (r.set i (some (.dat (.list ds)))) = x) : sFrz [i] s r = x := by
  refine frz_to ?_ h2
  simp only [List.foldl_cons, List.foldl_nil, frz1, h]
end Rq
/-! Rt, part H: sorted sets. -/
namespace Rq
open PySem Rt Pg
theorem dd_mem {α : Type} [BEq α] [LawfulBEq α] {x : α} : ∀ {l : List α}, x ∈ ddp l ↔ x ∈ l
  | [] => by simp [ddp]
  | y :: l => by
    have ih := dd_mem (x := x) (l := l)
    by_cases h : l.contains y = true
    · rw [show ddp (y :: l) = ddp l from if_pos h, ih, List.mem_cons]
      constructor
      · exact .inr
      · intro q
        rcases q with q | q
        · rw [q]; exact List.contains_iff_mem.mp h
        · exact q
    · rw [show ddp (y :: l) = y :: ddp l from if_neg h, List.mem_cons, List.mem_cons, ih]
theorem dd_nodup {α : Type} [BEq α] [LawfulBEq α] : ∀ l : List α, (ddp l).Nodup
  | [] => by simp [ddp]
  | y :: l => by
    by_cases h : l.contains y = true
    · rw [show ddp (y :: l) = ddp l from if_pos h]; exact dd_nodup l
    · rw [show ddp (y :: l) = y :: ddp l from if_neg h]
      exact List.nodup_cons.mpr ⟨fun q => h (List.contains_iff_mem.mpr (dd_mem.mp q)), dd_nodup l⟩
theorem ssetI_ok {ns gs : List Int} (hn : ns.length < 4000) (hg : gs.Pairwise (· < ·)) (h : ∀ x, x ∈ ns ↔ x ∈ gs) : ssetD (.list (ns.map .int)) = .ok (.list (gs.map .int)) := by
  simp only [ssetD, intsOf_ints, hn, if_true]
  rw [sortI_eq (dd_nodup ns) hg fun x => by rw [dd_mem]; exact h x]
/-! ### tuples in order -/
theorem lx_irr : ∀ a : List Int, lexT a a = false
  | [] => rfl
  | x :: a => by simp [lexT, lx_irr a]
theorem lx_tr : ∀ {a b c : List Int}, lexT a b = true → lexT b c = true → lexT a c = true
  | [], [], _, h, _ => by simp [lexT] at h
  | [], _ :: _, [], _, h => by simp [lexT] at h
  | [], _ :: _, _ :: _, _, _ => rfl
  | _ :: _, [], _, h, _ => by simp [lexT] at h
  | _ :: _, _ :: _, [], _, h => by simp [lexT] at h
  | x :: a, y :: b, z :: c, h1, h2 => by
    unfold lexT at h1 h2 ⊢
    by_cases e1 : x = y
    · subst e1
      rw [if_pos rfl] at h1
      by_cases e2 : x = z
      · rw [if_pos e2] at h2 ⊢; exact lx_tr h1 h2
      · rw [if_neg e2] at h2 ⊢; exact h2
    · rw [if_neg e1] at h1
      have h1 : x < y := by simpa using h1
      by_cases e2 : y = z
      · subst e2
        rw [if_neg e1]; simpa using h1
      · rw [if_neg e2] at h2
        have h2 : y < z := by simpa using h2
        have : ¬ x = z := by omega
        rw [if_neg this]
        simp; omega
theorem lx_tot : ∀ {a b : List Int}, a ≠ b → lexT a b = true ∨ lexT b a = true
  | [], [], h => absurd rfl h
  | [], _ :: _, _ => .inl rfl
  | _ :: _, [], _ => .inr rfl
  | x :: a, y :: b, h => by
    unfold lexT
    by_cases e : x = y
    · subst e
      rw [if_pos rfl, if_pos rfl]
      exact lx_tot fun q => h (by rw [q])
    · rw [if_neg e, if_neg (fun q => e q.symm)]
      simp; omega
def SLt (l : List (List Int)) : Prop := l.Pairwise fun a b => lexT a b = true
theorem st_mem {x : List Int} : ∀ {l : List (List Int)}, x ∈ sortT l ↔ x ∈ l := by
  have ins : ∀ (y : List Int) (l : List (List Int)), x ∈ insT y l ↔ x = y ∨ x ∈ l := by
    intro y l
    induction l with
    | nil => simp [insT]
    | cons z l ih =>
      unfold insT
      split
      · rw [List.mem_cons, ih, List.mem_cons]
        constructor
        · rintro (h | h | h)
          · exact .inr (.inl h)
          · exact .inl h
          · exact .inr (.inr h)
        · rintro (h | h | h)
          · exact .inr (.inl h)
          · exact .inl h
          · exact .inr (.inr h)
      · rw [List.mem_cons]
  intro l
  induction l with
  | nil => simp [sortT]
  | cons y l ih =>
    have : sortT (y :: l) = insT y (sortT l) := rfl
    rw [this, ins, ih, List.mem_cons]
theorem ins_slt {x : List Int} : ∀ {l : List (List Int)}, SLt l → x ∉ l → SLt (insT x l)
  | [], _, _ => by simp [insT, SLt]
  | y :: l, h, hx => by
    have h' := List.pairwise_cons.mp h
    unfold insT
    have hxy : x ≠ y := fun e => hx (by simp [e])
    split
    · rename_i c
      have ih := ins_slt (x := x) h'.2 fun q => hx (List.mem_cons_of_mem _ q)
      refine List.pairwise_cons.mpr ⟨fun z hz => ?_, ih⟩
      have mem : z = x ∨ z ∈ l := by
        have ins : ∀ (l : List (List Int)), z ∈ insT x l → z = x ∨ z ∈ l := by
          intro l
          induction l with
          | nil => simp [insT]
          | cons u l ihl =>
            unfold insT
            split
            · intro q
              rcases List.mem_cons.mp q with q | q
              · exact .inr (by simp [q])
              · rcases ihl q with q | q
                · exact .inl q
                · exact .inr (List.mem_cons_of_mem _ q)
            · intro q
              exact List.mem_cons.mp q
        exact ins l hz
      rcases mem with rfl | q
      · exact c
      · exact h'.1 z q
    · rename_i c
      have c2 : lexT x y = true := by
        rcases lx_tot hxy with q | q
        · exact q
        · exact absurd q c
      refine List.pairwise_cons.mpr ⟨fun z hz => ?_, h⟩
      rcases List.mem_cons.mp hz with rfl | q
      · exact c2
      · exact lx_tr c2 (h'.1 z q)
theorem sort_slt : ∀ {l : List (List Int)}, l.Nodup → SLt (sortT l)
  | [], _ => by simp [sortT, SLt]
  | x :: l, h => by
    obtain ⟨h1, h2⟩ := List.nodup_cons.mp h
    exact ins_slt (sort_slt h2) fun q => h1 (st_mem.mp q)
theorem slt_ext : ∀ {a b : List (List Int)}, SLt a → SLt b → (∀ x, x ∈ a ↔ x ∈ b) → a = b
  | [], [], _, _, _ => rfl
  | [], y :: b, _, _, h => by have := (h y).mpr (by simp); simp at this
  | x :: a, [], _, _, h => by have := (h x).mp (by simp); simp at this
  | x :: a, y :: b, ha, hb, h => by
    have ha' := List.pairwise_cons.mp ha
    have hb' := List.pairwise_cons.mp hb
    have no : ∀ {p q : List Int}, lexT p q = true → lexT q p = true → False := fun h1 h2 => by
      have := lx_tr h1 h2
      rw [lx_irr] at this; cases this
    have e : x = y := by
      rcases List.mem_cons.mp ((h x).mp (by simp)) with q | q
      · exact q
      · rcases List.mem_cons.mp ((h y).mpr (by simp)) with q2 | q2
        · exact q2.symm
        · exact (no (hb'.1 x q) (ha'.1 y q2)).elim
    subst e
    congr 1
    refine slt_ext ha'.2 hb'.2 fun z => ⟨fun hz => ?_, fun hz => ?_⟩
    · rcases List.mem_cons.mp ((h z).mp (List.mem_cons_of_mem _ hz)) with q | q
      · subst q; exact (no (ha'.1 z hz) (ha'.1 z hz)).elim
      · exact q
    · rcases List.mem_cons.mp ((h z).mpr (List.mem_cons_of_mem _ hz)) with q | q
      · subst q; exact (no (hb'.1 z hz) (hb'.1 z hz)).elim
      · exact q
theorem slt_nodup {l : List (List Int)} (h : SLt l) : l.Nodup := h.imp fun {a b} q e => by
  subst e
  rw [lx_irr] at q; cases q
theorem tupsOf_tups : ∀ ts : List (List Int), tupsOf (ts.map tupI) = some ts
  | [] => rfl
  | t :: ts => by simp [tupsOf, intsOf_ints, tupsOf_tups ts]
theorem nodup_le {α : Type} [DecidableEq α] : ∀ (l D : List α), l.Nodup → (∀ x ∈ l, x ∈ D) → l.length ≤ D.length
  | [], _, _, _ => Nat.zero_le _
  | x :: l, D, hn, h => by
    obtain ⟨h1, h2⟩ := List.nodup_cons.mp hn
    have hx := h x (by simp)
    have ih := nodup_le l (D.erase x) h2 fun y hy => (List.mem_erase_of_ne (fun e : y = x => h1 (e ▸ hy))).mpr (h y (List.mem_cons_of_mem _ hy))
    have e := List.length_erase_of_mem hx
    have := List.length_pos_of_mem hx
    rw [List.length_cons]; omega
theorem ssetT_ok {ts gs : List (List Int)} (hg : SLt gs) (hl : gs.length < 63) (hb : gs.length ≤ 1 ∨ ∀ t ∈ ts, t ≠ []) (h : ∀ x, x ∈ ts ↔ x ∈ gs) : ssetD (.list (ts.map tupI)) = .ok (.list (gs.map tupI)) := by
  have hlen : (ddp ts).length = gs.length := by
    refine Nat.le_antisymm (nodup_le _ _ (dd_nodup ts) fun x hx => (h x).mp (dd_mem.mp hx)) (nodup_le _ _ (slt_nodup hg) fun x hx => dd_mem.mpr ((h x).mpr hx))
  have hs : sortT (ddp ts) = gs := slt_ext (sort_slt (dd_nodup ts)) hg fun x => by rw [st_mem, dd_mem]; exact h x
  cases ts with
  | nil =>
    have : gs = [] := by
      cases gs with
      | nil => rfl
      | cons g gs => have := (h g).mpr (by simp); simp at this
    subst this
    rfl
  | cons t ts =>
    have e1 : intsOf ((t :: ts).map tupI) = none := rfl
    have hc : (decide ((ddp (t :: ts)).length < 63) && (decide ((ddp (t :: ts)).length ≤ 1) || (t :: ts).all fun t => !t.isEmpty)) = true := by
      rw [hlen]
      simp only [Bool.and_eq_true, Bool.or_eq_true, decide_eq_true_eq]
      refine ⟨hl, ?_⟩
      rcases hb with hb | hb
      · exact .inl hb
      · refine .inr (List.all_eq_true.mpr fun x hx => ?_)
        have := hb x hx
        cases x with
        | nil => exact absurd rfl this
        | cons _ _ => rfl
    unfold ssetD
    simp only [e1, tupsOf_tups, hc, if_true, hs]
theorem groups_slt {n : Nat} (h : n ≤ 6) : SLt (groupsF n) := by
  have : n = 0 ∨ n = 1 ∨ n = 2 ∨ n = 3 ∨ n = 4 ∨ n = 5 ∨ n = 6 := by omega
  unfold SLt
  rcases this with rfl | rfl | rfl | rfl | rfl | rfl | rfl <;> decide +kernel
theorem inD_ints (x : Int) (l : List Int) : inD (.int x) (.list (l.map .int)) = .ok (.bool (decide (x ∈ l))) := by
  simp only [inD, shaped_int, shaped_ints, Bool.and_self, if_true, R.ok.injEq, PyData.bool.injEq]
  rw [List.any_map]
  have : ((fun z => PyData.eqv z (.int x)) ∘ PyData.int) = fun g => decide (g = x) := by
    funext g; simp [Function.comp, eqv_int_dec]
  rw [this, Bool.eq_iff_iff]
  simp
theorem item_nat {ds : List PyData} {n : Nat} {d : PyData} (h : ds[n]? = some d) : itemAt ds (n : Int) = .ok d := by
  obtain ⟨h1, h2⟩ := List.getElem?_eq_some_iff.mp h
  have h3 : ¬ ((n : Int) < 0) := by omega
  simp [itemAt, L2.atI, L2.ixN, h1, h2, h3]
/-- the times at which all ring -/
theorem full_eq {as : List (Int × Int)} (h : Row as) : ((rangeI 0 (lcmF as 1)).filter fun t => decide ((heardF t 0 as).length = as.length)) = (jF as).toList.map (·.2) := by
  have hp := h.pos
  have hL := lcmF_pos as 1 (by omega) hp
  cases e : jF as with
  | none =>
    have hn := jF_none.mp e
    refine List.filter_eq_nil_iff.mpr fun t _ q => hn ?_
    exact (fits_iff hp).mpr ⟨t, (heardF_full as 0 h.2).mp (by simpa using q)⟩
  | some a =>
    obtain ⟨f1, f2, f3, f4, f5⟩ := jF_some hp e
    refine sorted_ext ((rangeI_sorted _ _).filter _) (by simp) fun t => ?_
    simp only [List.mem_filter, mem_rangeI, decide_eq_true_eq, Option.toList_some, List.map_cons, List.map_nil, List.mem_singleton]
    rw [heardF_full as 0 h.2, sol_jF hp e]
    constructor
    · rintro ⟨⟨t0, t1⟩, hd⟩
      have := dvd_small hd (by omega) (by omega)
      omega
    · intro q
      subst q
      exact ⟨⟨f4, by omega⟩, by simp⟩
theorem full_ne {as : List (Int × Int)} : (!decide ((jF as).toList.map (·.2) = [])) = decide (AllFit as) := by
  by_cases c : AllFit as
  · have : jF as ≠ none := fun e => jF_none.mp e c
    cases q : jF as with
    | none => exact absurd q this
    | some a => simp [c]
  · rw [jF_none.mpr c]; simp [c]
/-- two alarms are heard together exactly if they fit -/
theorem two_heard {as : List (Int × Int)} (hA : AlA as) {k j : Int} (k0 : 0 ≤ k) (k1 : k < as.length) (j0 : 0 ≤ j) (j1 : j < as.length) : (∃ t, (0 ≤ t ∧ t < lcmF as 1) ∧ k ∈ heardF t 0 as ∧ j ∈ heardF t 0 as) ↔ Fit (getA as k) (getA as j) := by
  have hL := lcmF_pos as 1 (by omega) hA.pos
  have hb : ∀ x ∈ [k, j], 0 ≤ x ∧ x < as.length := fun x hx => by
    simp only [List.mem_cons, List.not_mem_nil, or_false] at hx
    rcases hx with rfl | rfl
    · exact ⟨k0, k1⟩
    · exact ⟨j0, j1⟩
  have hp : Pos (chF as [k, j]) := fun a ha => hA.pos a (chF_mem hb a ha)
  have e : AllFit (chF as [k, j]) ↔ Fit (getA as k) (getA as j) := by simp [AllFit, chF]
  rw [← e, fits_iff hp]
  constructor
  · rintro ⟨t, _, h1, h2⟩
    refine ⟨t, (sol_ch hA hb).mpr fun x hx => ?_⟩
    simp only [List.mem_cons, List.not_mem_nil, or_false] at hx
    rcases hx with rfl | rfl
    · exact h1
    · exact h2
  · rintro ⟨T, hT⟩
    have := (sol_ch hA hb).mp hT
    refine ⟨T % lcmF as 1, ⟨Int.emod_nonneg _ (by omega), Int.emod_lt_of_pos _ hL⟩, ?_⟩
    rw [heard_perN]
    exact ⟨this k (by simp), this j (by simp)⟩
def prsF (as : List (Int × Int)) : List (Int × Int) := (rangeI 0 as.length).flatMap fun k => ((rangeI (k + 1) as.length).filter fun j => !decide (Fit (getA as k) (getA as j))).map fun j => (k, j)
theorem enum_rng (as : List (Int × Int)) : enumI 0 as = (rangeI 0 as.length).map fun k => (k, getA as k) := by
  refine snoc_ind (P := fun as : List (Int × Int) => enumI 0 as = (rangeI 0 as.length).map fun k => (k, getA as k)) (by rfl) (fun as a ih => ?_) as
  rw [enumI_snoc, ih]
  have e : ((as ++ [a]).length : Int) = (as.length : Int) + 1 := by simp
  rw [e, rangeI_succ (by omega), List.map_append]
  congr 1
  · refine List.map_congr_left fun k hk => ?_
    rw [mem_rangeI] at hk
    have : k.toNat < as.length := by omega
    simp only [getA, List.getD_eq_getElem?_getD, List.getElem?_append_left this]
  · simp [getA]
theorem prs_head (as : List (Int × Int)) : (prsF as).head? = apF as := by
  unfold prsF apF
  rw [List.head?_flatMap, enum_rng, List.findSome?_map]
  congr 1
  funext k
  rw [List.head?_map, List.head?_filter]
  simp only [Function.comp]
  generalize rangeI (k + 1) as.length = l
  induction l with
  | nil => rfl
  | cons j l ih =>
    rw [List.find?_cons, List.findSome?_cons]
    by_cases c : Fit (getA as k) (getA as j)
    · simp [c, ih]
    · simp [c]
theorem prs_nil {as : List (Int × Int)} : prsF as = [] ↔ AllFit as := by
  rw [← apF_none, ← prs_head]
  cases prsF as <;> simp
/-- the greatest groups are the greatest crowds that are heard -/
theorem big_mem {as : List (Int × Int)} (hA : AlA as) {g : List Int} : g ∈ bigF as ↔ g ≠ [] ∧ (g.length : Int) = crowdF as ∧ ∃ t, (0 ≤ t ∧ t < lcmF as 1) ∧ heardF t 0 as = g := by
  constructor
  · intro hg
    obtain ⟨g1, g2⟩ := big_group hg
    obtain ⟨t, t0, t1, ht⟩ := meet_heard hA g1
    have g3 := g1
    unfold meetF at g3
    rw [List.mem_filter] at g3
    obtain ⟨m0, m1, m2⟩ := mem_groupsF.mp g3.1
    refine ⟨m0, g2, t, ⟨t0, t1⟩, ?_⟩
    have hc := crowd_le hA t
    refine sorted_ext (heardF_sorted _ _) m1 fun x => ⟨fun hx => ?_, ht x⟩
    apply Classical.byContradiction
    intro hn
    have hx2 : ∀ y ∈ x :: g, y ∈ heardF t 0 as := fun y hy => by
      rcases List.mem_cons.mp hy with rfl | hy
      · exact hx
      · exact ht y hy
    have hnd : (x :: g).Nodup := List.nodup_cons.mpr ⟨hn, m1.imp fun h e => by omega⟩
    have := nodup_len hnd hx2
    simp at this
    omega
  · rintro ⟨h0, h1, t, _, rfl⟩
    unfold bigF
    rw [List.mem_filter]
    exact ⟨heard_meet hA h0, by simpa using h1⟩
theorem big_slt {as : List (Int × Int)} (h : as.length ≤ 6) : SLt (bigF as) := by
  unfold bigF meetF
  exact ((groups_slt h).filter _).filter _
theorem groups_few {n : Nat} (h : n ≤ 4) : (groupsF n).length ≤ 15 := by
  have : n = 0 ∨ n = 1 ∨ n = 2 ∨ n = 3 ∨ n = 4 := by omega
  rcases this with rfl | rfl | rfl | rfl | rfl <;> decide +kernel
def basF (b : Int) (as : List (Int × Int)) : List (Int × Int) := (as.take 3).map (fun a => (a.1, b % a.1)) ++ as.drop 3
theorem bas_row {b : Int} {as : List (Int × Int)} (h : Row as) (h12 : ∀ a ∈ as, a.1 ≤ 12) : Row (basF b as) ∧ (basF b as).length = as.length ∧ ∀ a ∈ basF b as, a.1 ≤ 12 := by
  have hl : (basF b as).length = as.length := by
    unfold basF
    rw [List.length_append, List.length_map, List.length_take, List.length_drop]; omega
  have key : ∀ a ∈ basF b as, Al a.1 a.2 ∧ a.1 ≤ 12 := fun a ha => by
    unfold basF at ha
    rcases List.mem_append.mp ha with ha | ha
    · obtain ⟨c, hc, rfl⟩ := List.mem_map.mp ha
      have q := h.2 c (List.mem_of_mem_take hc)
      have q1 := q.p1
      exact ⟨⟨q.p1, q.p2, Int.emod_nonneg _ (by omega), Int.emod_lt_of_pos _ (by omega)⟩, h12 c (List.mem_of_mem_take hc)⟩
    · exact ⟨h.2 a (List.mem_of_mem_drop ha), h12 a (List.mem_of_mem_drop ha)⟩
  exact ⟨⟨by rw [hl]; exact h.1, fun a ha => (key a ha).1⟩, hl, fun a ha => (key a ha).2⟩
theorem notInD_ints (x : Int) (l : List Int) : notInD (.int x) (.list (l.map .int)) = .ok (.bool (!decide (x ∈ l))) := by
  simp only [notInD, shaped_int, shaped_ints, Bool.and_self, if_true, R.ok.injEq, PyData.bool.injEq]
  rw [List.any_map]
  have : ((fun z => PyData.eqv z (.int x)) ∘ PyData.int) = fun g => decide (g = x) := by
    funext g; simp [Function.comp, eqv_int_dec]
  rw [this]
  congr 1
  rw [Bool.eq_iff_iff]
  simp
theorem heard_one {p s x : Int} : heardF x 0 [(p, s)] ≠ [] ↔ x % p = s := by
  rw [heard_in]; simp
theorem del_zero {p s d e : Int} : delI p s d 0 e = dueI [(p, s)] 0 e := by
  unfold delI dueI
  refine List.filter_congr fun x hx => ?_
  rw [mem_rangeI] at hx
  rw [Bool.eq_iff_iff, delB_iff]
  have : (!decide (heardF x 0 [(p, s)] = [])) = true ↔ x % p = s := by
    rw [← heard_one]; simp
  rw [this]
  constructor
  · rintro ⟨o, o0, o1, _, h⟩
    have : o = 0 := by omega
    subst this
    simpa using h
  · intro h
    exact ⟨0, by omega, by omega, by omega, by simpa using h⟩
theorem dm_zero {p s q t d : Int} : dmB p s q t d 0 = decide ((Int.gcd p q : Int) ∣ s - t) := by
  rw [Bool.eq_iff_iff, dmB_iff]
  simp only [decide_eq_true_eq]
  constructor
  · rintro ⟨o, o0, o1, h⟩
    have : o = 0 := by omega
    subst this
    simpa using h
  · intro h
    exact ⟨0, by omega, by omega, by simpa using h⟩
theorem dm_meet {p s q t d n : Int} (n0 : 0 ≤ n) (h : (Int.gcd p q : Int) ∣ s - t) : dmB p s q t d n = true :=
  dmB_iff.mpr ⟨0, by omega, n0, by simpa using h⟩
theorem dm_mono {p s q t d n m : Int} (h : n ≤ m) (hd : dmB p s q t d n = true) : dmB p s q t d m = true := by
  obtain ⟨o, o0, o1, q⟩ := dmB_iff.mp hd
  exact dmB_iff.mpr ⟨o, o0, by omega, q⟩
theorem dm_shift {p s q t d n : Int} : dmB p s q t (d + p) n = dmB p s q t d n := by
  rw [Bool.eq_iff_iff, dmB_iff, dmB_iff]
  have key : ∀ o : Int, ((Int.gcd p q : Int) ∣ s + o * (d + p) - t) ↔ (Int.gcd p q : Int) ∣ s + o * d - t := fun o => by
    have e : s + o * (d + p) - t = (s + o * d - t) + o * p := by rw [Int.mul_add]; omega
    rw [e]
    have hp : (Int.gcd p q : Int) ∣ o * p := Int.dvd_trans (Int.gcd_dvd_left p q) (Int.dvd_mul_left o p)
    constructor
    · intro h
      have := Int.dvd_sub h hp
      rwa [Int.add_sub_cancel] at this
    · intro h; exact Int.dvd_add h hp
  constructor
  · rintro ⟨o, h1, h2, h3⟩; exact ⟨o, h1, h2, (key o).mp h3⟩
  · rintro ⟨o, h1, h2, h3⟩; exact ⟨o, h1, h2, (key o).mpr h3⟩
theorem least_zero {p s q t : Int} (hp : 0 < p) : (0 < leastI p s q t) ↔ ¬ (Int.gcd p q : Int) ∣ s - t := by
  have hg := gcd_pos (p := p) (q := q) hp
  have h0 := Int.emod_nonneg (s - t) (show (Int.gcd p q : Int) ≠ 0 by omega)
  have h1 := Int.emod_lt_of_pos (s - t) hg
  unfold leastI
  constructor
  · intro h hd
    have := Int.emod_eq_zero_of_dvd hd
    rw [this] at h
    split at h <;> omega
  · intro h
    have : (s - t) % (Int.gcd p q : Int) ≠ 0 := fun z => h (Int.dvd_of_emod_eq_zero z)
    split <;> omega
theorem least_hitI {p s q t L : Int} (hp : 0 < p) (hq : 0 < q) (hm : ¬ (Int.gcd p q : Int) ∣ s - t) (L0 : 0 ≤ L) (h : dmB p s q t L 1 = true) : leastI p s q t ≤ L := by
  obtain ⟨o, o0, o1, h⟩ := dmB_iff.mp h
  have : o = 0 ∨ o = 1 := by omega
  rcases this with rfl | rfl
  · exact absurd (by simpa using h) hm
  · obtain ⟨z, z1, z2⟩ := solve (p := p) (q := q) (s := s + L) (t := t) hp hq (by simpa using h)
    have := least_le (p := p) (q := q) (s := s) (t := t) (x := z - L) (y := z) hp hq (by
      have e : z - L - s = z - (s + L) := by omega
      rw [e]; exact z1) z2
    have e : z - L - z = -L := by omega
    rw [e] at this
    unfold ab at this
    split at this <;> omega
theorem lcm_60 {p q : Int} (p1 : 1 ≤ p) (p2 : p ≤ 12) (p3 : p ∣ 120) (q1 : 1 ≤ q) (q2 : q ≤ 12) (q3 : q ∣ 120) : (Int.lcm p q : Int) ≤ 60 := by
  have key : ∀ z : Int, 1 ≤ z → z ≤ 12 → z ∣ 120 → z ∈ ([1, 2, 3, 4, 5, 6, 8, 10, 12] : List Int) := by
    intro z z1 z2 z3
    have : z = 1 ∨ z = 2 ∨ z = 3 ∨ z = 4 ∨ z = 5 ∨ z = 6 ∨ z = 7 ∨ z = 8 ∨ z = 9 ∨ z = 10 ∨ z = 11 ∨ z = 12 := by omega
    rcases this with rfl | rfl | rfl | rfl | rfl | rfl | rfl | rfl | rfl | rfl | rfl | rfl <;> first | decide | (exact absurd z3 (by decide))
  have all : ∀ a ∈ ([1, 2, 3, 4, 5, 6, 8, 10, 12] : List Int), ∀ b ∈ ([1, 2, 3, 4, 5, 6, 8, 10, 12] : List Int), (Int.lcm a b : Int) ≤ 60 := by decide
  exact all p (key p p1 p2 p3) q (key q q1 q2 q3)
/-- a meeting shows up before 250 -/
theorem del_hit {p s q t d n e : Int} (h1 : Al p s) (h2 : Al q t) (hl : (Int.lcm p q : Int) ≤ 60) (n1 : n ≤ 5) (d0 : 1 ≤ d) (d1 : d ≤ 30) (he : 250 < e) (hm : dmB p s q t d n = true) : ∃ x ∈ delI p s d n e, x % q = t := by
  have a1 := h1.p1; have b1 := h2.p1
  obtain ⟨o, o0, o1, h⟩ := dmB_iff.mp hm
  obtain ⟨z1, z2⟩ := od_small (o := o) (d := d) (by omega) (by omega) (by omega) (by omega)
  obtain ⟨x, x0, x1, hx, hy⟩ := solve_in (p := p) (q := q) (s := s + o * d) (t := t) (by omega) (by omega) h (o * d)
  refine ⟨x, List.mem_filter.mpr ⟨mem_rangeI.mpr ⟨by omega, by omega⟩, delB_iff.mpr ⟨o, o0, o1, by omega, ?_⟩⟩, (mod_iff (by omega) h2.s0 h2.s1).mpr hy⟩
  refine (mod_iff (by omega) h1.s0 h1.s1).mpr ?_
  have e : x - o * d - s = x - (s + o * d) := by omega
  rw [e]; exact hx
theorem del_met {p s q t d n e x : Int} (h1 : Al p s) (h2 : Al q t) (hx : x ∈ delI p s d n e) (hr : x % q = t) : dmB p s q t d n = true := by
  have a1 := h1.p1; have b1 := h2.p1
  obtain ⟨o, o0, o1, _, h⟩ := delB_iff.mp (List.mem_filter.mp hx).2
  refine dmB_iff.mpr ⟨o, o0, o1, ?_⟩
  refine solve_dvd (z := x) ?_ ((mod_iff (by omega) h2.s0 h2.s1).mp hr)
  have := (mod_iff (by omega) h1.s0 h1.s1).mp h
  have e : x - (s + o * d) = x - o * d - s := by omega
  rw [e]; exact this
theorem not_ok' {f : Ex} {r : En} (h : f r = .ok (.bool true)) : c1 notD f r = .ok (.bool false) := c1_ok h rfl
theorem not_ok {f : Ex} {r : En} {b : Bool} (h : f r = .ok (.bool b)) : c1 notD f r = .ok (.bool (!b)) := c1_ok h rfl
def hitS (p s q t n : Int) : List Int := (rangeI 1 31).filter fun d => !dmB p s q t d n
theorem law_safe_ok {wf : Nat} {p s q t d n : Int} (h1 : Al p s) (h2 : Al q t) (hw : 60 < wf) (n0 : 0 ≤ n) (n1 : n ≤ 5) (d0 : 1 ≤ d) (d1 : d ≤ 30) : p__law_safe wf [alarmD p s, alarmD q t, .int d, .int n, .bool (dmB p s q t d n)] = .ok (.bool true) := by
  have a1 := h1.p1; have a2 := h1.p2; have b1 := h2.p1
  have hsafe := safe_ok (wf := wf) h1 h2 hw n0 n1
  have hsafe1 := safe_ok (wf := wf) (n := 1) h1 h2 hw (by omega) (by omega)
  have hleast := least_delay_ok (wf := wf) h1 h2 hw
  have hmem : ∀ {m x : Int}, x ∈ ((rangeI 1 31).filter fun d => !dmB p s q t d m) ↔ (1 ≤ x ∧ x < 31) ∧ dmB p s q t x m = false := fun {m x} => by
    rw [List.mem_filter, mem_rangeI]; simp
  generalize hS : ((rangeI 1 31).filter fun d => !dmB p s q t d n) = S at hsafe
  have hSm : ∀ {x : Int}, x ∈ S ↔ (1 ≤ x ∧ x < 31) ∧ dmB p s q t x n = false := fun {x} => by rw [← hS]; exact hmem
  have hSs : S.Pairwise (· < ·) := by rw [← hS]; exact (rangeI_sorted 1 31).filter _
  have hSl : S.length ≤ 30 := by
    rw [← hS]
    refine Nat.le_trans (List.length_filter_le _ _) ?_
    rw [rangeI_length]; decide
  have hh : ∀ x, (hitI p s q t).head? = some x → (1 ≤ x ∧ x < 31) ∧ dmB p s q t x 1 = true ∧ ∀ y, 1 ≤ y → y < x → dmB p s q t y 1 = false := fun x hx => by
    have hm : x ∈ hitI p s q t := List.mem_of_mem_head? hx
    unfold hitI at hm hx
    rw [List.mem_filter, mem_rangeI] at hm
    refine ⟨hm.1, hm.2, fun y y1 y2 => ?_⟩
    rw [List.head?_filter] at hx
    have := List.find?_eq_some_iff_append.mp hx
    obtain ⟨_, as, bs, e, h⟩ := this
    have hy : y ∈ rangeI 1 31 := mem_rangeI.mpr ⟨y1, by omega⟩
    have hs := rangeI_sorted 1 31
    rw [e] at hy hs
    have hs2 := List.pairwise_append.mp hs
    rcases List.mem_append.mp hy with hy | hy
    · have := h y hy
      simpa using this
    · rcases List.mem_cons.mp hy with hy | hy
      · omega
      · have := (List.pairwise_cons.mp hs2.2.1).1 y hy
        omega
  have hloop : ∃ y6, forGo (gN 6) (p__law_safe_b1 wf) (S.map .int) [some (.dat (alarmD p s)), some (.dat (alarmD q t)), some (.dat (.int d)), some (.dat (.int n)), some (.dat (.bool (dmB p s q t d n))), some (.dat (intsD S)), none, none] = .ok .nx [some (.dat (alarmD p s)), some (.dat (alarmD q t)), some (.dat (.int d)), some (.dat (.int n)), some (.dat (.bool (dmB p s q t d n))), some (.dat (intsD S)), y6, none] := by
    obtain ⟨r2, e, y6, rfl⟩ := for_inv (g := gN 6) (b := p__law_safe_b1 wf) (I := fun r => ∃ y6, r = [some (.dat (alarmD p s)), some (.dat (alarmD q t)), some (.dat (.int d)), some (.dat (.int n)), some (.dat (.bool (dmB p s q t d n))), some (.dat (intsD S)), y6, none]) (ds := S.map .int) (fun x hx r hI => by
      obtain ⟨y6, rfl⟩ := hI
      obtain ⟨z, hz, rfl⟩ := List.mem_map.mp hx
      obtain ⟨⟨z1, z2⟩, z3⟩ := hSm.mp hz
      refine ⟨_, _, rfl, seq_ok (if_no (by
        have := call4_ok (g := p_meet_delayed wf) (f1 := cV 0) (f2 := cV 1) (f3 := cV 6) (f4 := cV 3) (r := [some (.dat (alarmD p s)), some (.dat (alarmD q t)), some (.dat (.int d)), some (.dat (.int n)), some (.dat (.bool (dmB p s q t d n))), some (.dat (intsD S)), some (.dat (.int z)), none]) rfl rfl rfl rfl (meet_delayed_ok h1 h2 hw n0 n1 z1 (by omega))
        rw [z3] at this; exact this)) (if_no (and_no (a := decide (z + p ≤ 30)) (c2_ok (c2_ok rfl rfl rfl) rfl rfl) fun c => c2_ok (c2_ok rfl rfl rfl) rfl ?_)), _, rfl⟩
      have c : z + p ≤ 30 := by simpa using c
      rw [notInD_ints]
      have : z + p ∈ S := hSm.mpr ⟨⟨by omega, by omega⟩, by rw [dm_shift]; exact z3⟩
      simp [this]) _ ⟨none, rfl⟩
    exact ⟨y6, e⟩
  obtain ⟨y6, hloop⟩ := hloop
  unfold p__law_safe
  refine run_ex (seq_rx (set_ok (d := intsD S) (call3_ok rfl rfl rfl hsafe) (by simp [startE])) (seq_rx (if_no (or_no (c2_ok (c2_ok rfl rfl (inD_ints d S)) rfl ?_) (c2_ok rfl (c1_ok rfl (ssetI_ok (ns := S) (gs := S) (by omega) hSs fun x => Iff.rfl)) (by rw [neD_ints]; simp)))) (seq_rx (sfor_ok (ds := S.map .int) (by rfl) hloop) (seq_rx (set_ok (call2_ok rfl rfl hleast) (by simp)) ?_))))
  · have e : decide (d ∈ S) = !dmB p s q t d n := by
      cases c : dmB p s q t d n with
      | true =>
        have : d ∉ S := fun q => by rw [(hSm.mp q).2] at c; cases c
        simp [this]
      | false =>
        have : d ∈ S := hSm.mpr ⟨⟨d0, by omega⟩, c⟩
        simp [this]
    rw [e, eqD_bool]
    cases dmB p s q t d n <;> rfl
  · have hm := meet_ok (wf := wf) h1 h2 hw
    have hd := least_ok (wf := wf) h1 h2 hw
    have hf : ∃ fm, p_first_meeting wf [alarmD p s, alarmD q t] = .ok fm ∧ isNoneB fm = !decide ((Int.gcd p q : Int) ∣ s - t) := by
      by_cases c : (Int.gcd p q : Int) ∣ s - t
      · obtain ⟨T, T0, T1, h3, h4⟩ := solve_in (p := p) (q := q) (s := s) (t := t) (by omega) (by omega) c 0
        exact ⟨_, first_meeting_ok h1 h2 hw T0 (by omega) ((mod_iff (by omega) h1.s0 h1.s1).mpr h3) ((mod_iff (by omega) h2.s0 h2.s1).mpr h4), by simp [isNoneB, c]⟩
      · exact ⟨_, first_meeting_no h1 h2 hw c, by simp [isNoneB, c]⟩
    obtain ⟨fm, hf1, hf2⟩ := hf
    have hz := least_zero (p := p) (s := s) (q := q) (t := t) (by omega)
    have tail : ∀ (L : PyData) (hL : (L = .none) ∨ ∃ x, L = .int x ∧ (hitI p s q t).head? = some x), sSeq (sIf (cAnd (c1 notNoneD (cV 7)) (cOr (c1 (notBoolD true) (cCall 4 (p_meet_delayed wf) (aCons (cV 0) (aCons (cV 1) (aCons (cV 7) (aCons (cC (.int 1)) aNil)))))) (c1 notD (cCh leD leD (cC (.int 1)) (cV 7) (cC (.int 30)))))) (sRet (cC (.bool false))) sNil)
        (sSeq (sIf (cAnd (c1 notNoneD (cV 7)) (cAnd (c2 gtD (cV 7) (cC (.int 1))) (c2 notInD (cC (.int 1)) (cCall 3 (p_safe_delays wf) (aCons (cV 0) (aCons (cV 1) (aCons (cC (.int 1)) aNil))))))) (sRet (cC (.bool false))) sNil)
        (sSeq (sIf (c2 neD (c1 isNoneD (cCall 2 (p_first_meeting wf) (aCons (cV 0) (aCons (cV 1) aNil)))) (c2 gtD (cCall 2 (p_least_distance wf) (aCons (cV 0) (aCons (cV 1) aNil))) (cC (.int 0)))) (sRet (cC (.bool false))) sNil)
        (sRet (cOr (cCall 2 (p_meet wf) (aCons (cV 0) (aCons (cV 1) aNil))) (cOr (c1 isNoneD (cV 7)) (c1 notD (c2 ltD (cV 7) (cCall 2 (p_least_distance wf) (aCons (cV 0) (aCons (cV 1) aNil)))))))))) [some (.dat (alarmD p s)), some (.dat (alarmD q t)), some (.dat (.int d)), some (.dat (.int n)), some (.dat (.bool (dmB p s q t d n))), some (.dat (intsD S)), y6, some (.dat L)] = .ok (.ret (.bool true)) [some (.dat (alarmD p s)), some (.dat (alarmD q t)), some (.dat (.int d)), some (.dat (.int n)), some (.dat (.bool (dmB p s q t d n))), some (.dat (intsD S)), y6, some (.dat L)] := by
      intro L hL
      have third : sIf (c2 neD (c1 isNoneD (cCall 2 (p_first_meeting wf) (aCons (cV 0) (aCons (cV 1) aNil)))) (c2 gtD (cCall 2 (p_least_distance wf) (aCons (cV 0) (aCons (cV 1) aNil))) (cC (.int 0)))) (sRet (cC (.bool false))) sNil [some (.dat (alarmD p s)), some (.dat (alarmD q t)), some (.dat (.int d)), some (.dat (.int n)), some (.dat (.bool (dmB p s q t d n))), some (.dat (intsD S)), y6, some (.dat L)] = .ok .nx [some (.dat (alarmD p s)), some (.dat (alarmD q t)), some (.dat (.int d)), some (.dat (.int n)), some (.dat (.bool (dmB p s q t d n))), some (.dat (intsD S)), y6, some (.dat L)] := by
        refine if_no (c2_ok (c1_ok (call2_ok rfl rfl hf1) rfl) (c2_ok (call2_ok rfl rfl hd) rfl rfl) ?_)
        rw [neD_bool, hf2]
        by_cases c : (Int.gcd p q : Int) ∣ s - t
        · have : ¬ 0 < leastI p s q t := fun z => hz.mp z c
          simp [c, this]
        · have := hz.mpr c
          simp [c, this]
      rcases hL with rfl | ⟨x, rfl, hx⟩
      · refine seq_ok (if_no (and_no (a := false) rfl fun z => by cases z)) (seq_ok (if_no (and_no (a := false) rfl fun z => by cases z)) (seq_ok third (ret_ok ?_)))
        have := or_ok (f := cCall 2 (p_meet wf) (aCons (cV 0) (aCons (cV 1) aNil))) (g := cOr (c1 isNoneD (cV 7)) (c1 notD (c2 ltD (cV 7) (cCall 2 (p_least_distance wf) (aCons (cV 0) (aCons (cV 1) aNil)))))) (r := [some (.dat (alarmD p s)), some (.dat (alarmD q t)), some (.dat (.int d)), some (.dat (.int n)), some (.dat (.bool (dmB p s q t d n))), some (.dat (intsD S)), y6, some (.dat .none)]) (b := true) (call2_ok rfl rfl hm) fun _ => or_ok (a := true) (b := true) rfl fun z => by cases z
        simpa using this
      · obtain ⟨⟨x1, x2⟩, x3, x4⟩ := hh x hx
        refine seq_ok (if_no (and_no (a := true) rfl fun _ => or_no (c1_ok (call4_ok rfl rfl rfl rfl (meet_delayed_ok h1 h2 hw (by omega) (by omega) x1 (by omega))) (by rw [x3]; rfl)) (c1_ok (ch_le rfl rfl rfl) ?_))) (seq_ok (if_no (and_no (a := true) rfl fun _ => and_no (a := decide (1 < x)) (c2_ok rfl rfl rfl) fun c => c2_ok rfl (call3_ok rfl rfl rfl hsafe1) ?_)) (seq_ok third (ret_ok ?_)))
        · have y1 : x ≤ 30 := by omega
          simp [notD, x1, y1]
        · have c : 1 < x := by simpa using c
          rw [notInD_ints]
          have : (1 : Int) ∈ ((rangeI 1 31).filter fun d => !dmB p s q t d 1) := hmem.mpr ⟨⟨by omega, by omega⟩, x4 1 (by omega) c⟩
          simp [this]
        · by_cases c : (Int.gcd p q : Int) ∣ s - t
          · rw [show decide ((Int.gcd p q : Int) ∣ s - t) = true by simp [c]] at hm
            exact or_ok (a := true) (b := true) (call2_ok rfl rfl hm) fun z => by cases z
          · rw [show decide ((Int.gcd p q : Int) ∣ s - t) = false by simp [c]] at hm
            refine or_ok (a := false) (b := true) (call2_ok rfl rfl hm) fun _ => or_ok (a := false) (b := true) rfl fun _ => c1_ok (c2_ok rfl (call2_ok rfl rfl hd) rfl) ?_
            have := least_hitI (p := p) (q := q) (by omega) (by omega) c (by omega) x3
            have : ¬ x < leastI p s q t := by omega
            simp [notD, this]
    refine ⟨_, tail _ ?_⟩
    cases (hitI p s q t).head? with
    | none => exact .inl rfl
    | some x => exact .inr ⟨x, rfl, rfl⟩
end Rq
/-! Rt, part K: covering. -/
namespace Rq
open PySem Rt Pg
/-- c silent times one behind the other -/
def Sil (as : List (Int × Int)) (c : Int) : Prop := ∃ x, 0 ≤ x ∧ ∀ t, x ≤ t → t < x + c → heardF t 0 as = []
theorem long_mem {as : List (Int × Int)} (hA : AlA as) (hn : as ≠ []) : longF as ∈ gapF as ∧ ∀ g ∈ gapF as, g ≤ longF as := by
  obtain ⟨m, e, m1, m2⟩ := maxI_some (gap_ne hA hn)
  rw [long_spec hA hn] at e
  cases e
  exact ⟨m1, m2⟩
theorem long_nonneg {as : List (Int × Int)} (hA : AlA as) (hn : as ≠ []) : 0 ≤ longF as := by
  obtain ⟨a, b, _, h, _, e, _⟩ := gap_of hA hn (long_mem hA hn).1
  omega
theorem long_iff {as : List (Int × Int)} (hA : AlA as) (hn : as ≠ []) {c : Int} (c0 : 0 < c) : c ≤ longF as ↔ Sil as c := by
  obtain ⟨h1, h2⟩ := long_mem hA hn
  constructor
  · intro h
    obtain ⟨a, b, a0, ab, _, e, _, hs⟩ := gap_of hA hn h1
    exact ⟨a + 1, by omega, fun t t0 t1 => hs t (by omega) (by omega)⟩
  · rintro ⟨x, x0, hs⟩
    obtain ⟨g, hg, hc⟩ := gap_over hA hn x0 c0 hs
    have := h2 g hg
    omega
theorem long_le {as bs : List (Int × Int)} (hA : AlA as) (ha : as ≠ []) (hB : AlA bs) (hb : bs ≠ []) (h : ∀ c, 0 < c → Sil as c → Sil bs c) : longF as ≤ longF bs := by
  rcases Int.lt_or_le 0 (longF as) with q | q
  · exact (long_iff hB hb q).mpr (h _ q ((long_iff hA ha q).mp (Int.le_refl _)))
  · have := long_nonneg hB hb; omega
theorem heard_all {as : List (Int × Int)} {t : Int} : heardF t 0 as = [] ↔ ∀ a ∈ as, t % a.1 ≠ a.2 := by
  have := heard_in (t := t) (as := as) (k := 0)
  constructor
  · intro h a ha e
    exact this.mpr ⟨a, ha, e⟩ h
  · intro h
    apply Classical.byContradiction
    intro q
    obtain ⟨b, hb, e⟩ := this.mp q
    exact h b hb e
theorem sil_sub {as bs : List (Int × Int)} (h : ∀ b ∈ bs, b ∈ as) {c : Int} (hs : Sil as c) : Sil bs c := by
  obtain ⟨x, x0, q⟩ := hs
  exact ⟨x, x0, fun t t0 t1 => heard_all.mpr fun b hb => heard_all.mp (q t t0 t1) b (h b hb)⟩
theorem long_sub {as bs : List (Int × Int)} (hA : AlA as) (hb : bs ≠ []) (h : ∀ b ∈ bs, b ∈ as) : longF as ≤ longF bs := by
  have ha : as ≠ [] := fun e => by
    obtain ⟨b, hb⟩ := List.exists_mem_of_ne_nil _ hb
    have := h b hb
    rw [e] at this; cases this
  exact long_le hA ha (fun b hb => hA b (h b hb)) hb fun c _ => sil_sub h
theorem long_same {as bs : List (Int × Int)} (hA : AlA as) (ha : as ≠ []) (h : ∀ b, b ∈ bs ↔ b ∈ as) : longF as = longF bs := by
  have hb : bs ≠ [] := fun e => by
    obtain ⟨a, q⟩ := List.exists_mem_of_ne_nil _ ha
    have := (h a).mpr q
    rw [e] at this; cases this
  exact Int.le_antisymm (long_sub hA hb fun b q => (h b).mp q) (long_sub (fun b q => hA b ((h b).mp q)) ha fun b q => (h b).mpr q)
theorem sil_any {as : List (Int × Int)} (hA : AlA as) {c x : Int} (h : ∀ t, x ≤ t → t < x + c → heardF t 0 as = []) : Sil as c := by
  have hL := lcmF_pos as 1 (by omega) hA.pos
  refine ⟨x % lcmF as 1, Int.emod_nonneg _ (by omega), fun t t0 t1 => ?_⟩
  have hq := Int.emod_add_mul_ediv x (lcmF as 1)
  have e : heardF t 0 as = heardF (t + lcmF as 1 * (x / lcmF as 1)) 0 as := by
    rw [← heard_perN t, ← heard_perN (t + lcmF as 1 * (x / lcmF as 1)), Int.add_mul_emod_self_left]
  rw [e]
  exact h _ (by omega) (by omega)
theorem long_mov {as : List (Int × Int)} (h : Row as) (ha : as ≠ []) (b : Int) : longF (movB as b) = longF as := by
  have hA : AlA as := h.2
  have hB : AlA (movB as b) := (movB_row h b).2
  have hb : movB as b ≠ [] := by unfold movB; simpa using ha
  refine Int.le_antisymm (long_le hB hb hA ha fun c _ hs => ?_) (long_le hA ha hB hb fun c _ hs => ?_)
  · obtain ⟨x, x0, q⟩ := hs
    refine sil_any hA (x := x - b) fun t t0 t1 => ?_
    rw [← movB_heard (b := b) (t := t) as 0 hA]
    exact q _ (by omega) (by omega)
  · obtain ⟨x, x0, q⟩ := hs
    refine sil_any hB (x := x + b) fun t t0 t1 => ?_
    have := movB_heard (b := b) (t := t - b) as 0 hA
    rw [show t - b + b = t by omega] at this
    rw [this]
    exact q _ (by omega) (by omega)
theorem long_lt {as : List (Int × Int)} (hA : AlA as) {a : Int × Int} (ha : a ∈ as) : longF as ≤ a.1 - 1 := by
  have hn : as ≠ [] := List.ne_nil_of_mem ha
  have q := hA a ha
  have q1 := q.p1
  rcases Int.lt_or_le (longF as) a.1 with c | c
  · omega
  · obtain ⟨x, x0, hs⟩ := (long_iff hA hn (by omega)).mp c
    have := heard_all.mp (hs (x + (a.2 - x) % a.1) (by have := Int.emod_nonneg (a.2 - x) (b := a.1) (by omega); omega) (by have := Int.emod_lt_of_pos (a.2 - x) (b := a.1) (by omega); omega)) a ha
    exfalso
    apply this
    rw [Int.add_emod_emod]
    have e : x + (a.2 - x) = a.2 := by omega
    rw [e]
    exact Int.emod_eq_of_lt q.s0 q.s1
/-! ### short periods -/
structure Sp (ps : List Int) : Prop where
  l1 : 1 ≤ ps.length
  l4 : ps.length ≤ 4
  b : ∀ p ∈ ps, 1 ≤ p ∧ p ≤ 8
theorem Sp.pd {ps : List Int} (h : Sp ps) : Pd ps := ⟨by have := h.l4; omega, fun p hp => by have := h.b p hp; omega⟩
theorem lcm_840 {as : List (Int × Int)} (h : ∀ a ∈ as, 1 ≤ a.1 ∧ a.1 ≤ 8) : lcmF as 1 ≤ 840 := Int.le_of_dvd (by decide) (lcmF_dvd as 1 (by decide) fun a ha => by
  have := h a ha
  have : a.1 = 1 ∨ a.1 = 2 ∨ a.1 = 3 ∨ a.1 = 4 ∨ a.1 = 5 ∨ a.1 = 6 ∨ a.1 = 7 ∨ a.1 = 8 := by omega
  rcases this with e | e | e | e | e | e | e | e <;> rw [e] <;> decide)
theorem zip_ne {ps ss : List Int} (h : 1 ≤ ps.length) (hs : ss.length = ps.length) : ps.zip ss ≠ [] := fun e => by
  have := congrArg List.length e
  rw [List.length_zip, hs, Nat.min_self, List.length_nil] at this
  omega
theorem check_short_ok {wf : Nat} {ps : List Int} (h : Sp ps) : p_check_short wf [tupI ps] = .ok .none := by
  have h1 := h.l1; have h4 := h.l4
  have hc := comp_map (vs := [1]) (src := iVal (cV 0)) (g := gN 1) (e := cCall 3 (p_is_int wf) (aCons (cV 1) (aCons (cC (.int 1)) (aCons (cC (.int 8)) aNil)))) (r := startE 2 [tupI ps]) (mk := .int) (is := ps) rfl (le_SZ (by omega))
    (fun p => [some (.dat (tupI ps)), some (.dat (.int p))]) (fun _ => .bool true) (fun p hp => ⟨rfl, call3_ok rfl rfl rfl (by rw [is_int_int]; have := h.b p hp; simp [this.1, this.2])⟩)
  have e : (ps.map fun _ => PyData.bool true) = (ps.map fun _ => true).map .bool := by simp [List.map_map, Function.comp_def]
  rw [e] at hc
  unfold p_check_short runD
  rw [seq_ok (r1 := startE 2 [tupI ps]) (if_no (or_no rfl (c1_ok (ch_le (b := (ps.length : Int)) rfl (by simp [cLenV, startE, lenD]) rfl) ?_))) (if_no (c1_ok (b := .bool false) (c1_ok (cL_ok hc) (allD_bools _)) ?_))]
  · have a1 : (1 : Int) ≤ ps.length := by omega
    have a2 : (ps.length : Int) ≤ 4 := by omega
    simp [notD, a1, a2]
  · simp [notD]
theorem prod2_for {wf : Nat} {x0 : Option Sl} : ∀ (ps : List Int) (m : Int) (x2 : Option Sl), (∀ p ∈ ps, 1 ≤ p ∧ p ≤ 8) → ∃ y2, forGo (gN 2) (p_check_product_v2_b1 wf) (ps.map .int) [x0, some (.dat (.int m)), x2] = .ok .nx [x0, some (.dat (.int (ps.foldl (· * ·) m))), y2]
  | [], m, x2, _ => ⟨x2, rfl⟩
  | p :: ps, m, x2, h => by
    obtain ⟨y2, e⟩ := prod2_for (wf := wf) (x0 := x0) ps (m * p) (some (.dat (.int p))) fun q hq => h q (List.mem_cons_of_mem _ hq)
    refine ⟨y2, ?_⟩
    have hp := h p (by simp)
    have e1 : p_check_product_v2_b1 wf [x0, some (.dat (.int m)), some (.dat (.int p))] = .ok .nx [x0, some (.dat (.int (m * p))), some (.dat (.int p))] := by
      unfold p_check_product_v2_b1
      exact set_ok (c2_ok rfl rfl (mul_small (.inr (inB_small (by omega) (by omega))))) (by simp)
    simp only [List.map_cons, forGo, gN, List.length_cons, List.length_nil, List.set_cons_succ, List.set_cons_zero]
    simp only [show (2 : Nat) < 0 + 1 + 1 + 1 from by omega, if_true, e1, List.foldl_cons]
    exact e
theorem check_product2 {wf : Nat} {ps : List Int} (h : Sp ps) : p_check_product_v2 wf [tupI ps] = if prodI ps ≤ 600 then .ok .none else .exc "TooLarge" := by
  obtain ⟨y2, e⟩ := prod2_for (wf := wf) (x0 := some (.dat (tupI ps))) ps 1 none h.b
  have hm : prodI ps = ps.foldl (· * ·) 1 := rfl
  have hif : sIf (c2 gtD (cV 1) (cC (.int 600))) (sRaise "TooLarge") sNil [some (.dat (tupI ps)), some (.dat (.int (ps.foldl (· * ·) 1))), y2] = if prodI ps ≤ 600 then .ok .nx [some (.dat (tupI ps)), some (.dat (.int (ps.foldl (· * ·) 1))), y2] else .exc "TooLarge" [some (.dat (tupI ps)), some (.dat (.int (ps.foldl (· * ·) 1))), y2] := by
    by_cases c : prodI ps ≤ 600
    · rw [if_pos c]
      refine if_no (c2_ok rfl rfl ?_)
      have : ¬ (600 < ps.foldl (· * ·) 1) := by rw [← hm]; omega
      simp [gtD, this]
    · rw [if_neg c]
      refine if_yes (c2_ok rfl rfl ?_) rfl
      have : 600 < ps.foldl (· * ·) 1 := by rw [← hm]; omega
      simp [gtD, this]
  have h2 := seq_ok (s := sDrop (cCall 1 (p_check_short wf) (aCons (cV 0) aNil))) (r := startE 3 [tupI ps]) (drop_ok (call1_ok rfl (check_short_ok h))) (seq_ok (s := sSet 1 (xD (cC (.int 1)))) (set_ok rfl (by simp [startE])) (seq_ok (sfor_ok (src := iVal (cV 0)) (ds := ps.map .int) (by rfl) e) hif))
  unfold p_check_product_v2 runD
  rw [h2]
  by_cases c : prodI ps ≤ 600
  · rw [if_pos c, if_pos c]
  · rw [if_neg c, if_neg c]
def lgF (ps ss : List Int) : Int := longF (ps.zip ss)
theorem lzip_ok {d e : PyData} {ps ss : List Int} (h1 : itemsD d = .ok (ps.map .int)) (h2 : itemsD e = .ok (ss.map .int)) : lzipD d e = .ok (.list ((ps.zip ss).map alD)) := by
  unfold lzipD
  rw [h1, h2]
  simp only [R.bind_ok, zipL_row]
theorem silence_of_ok {wf : Nat} {ps ss : List Int} (h : Sp ps) (hs : ShB ps ss) (hw : 60 < wf) : p_silence_of wf [tupI ps, tupI ss] = .ok (.int (lgF ps ss)) := by
  have hR := row_zip h.pd hs
  have h5 := lcm_840 (as := ps.zip ss) fun a ha => h.b a.1 (List.of_mem_zip ha).1
  unfold p_silence_of
  exact run_ret (ret_ok (call1_ok (c1_ok (c2_ok rfl rfl (lzip_ok (ps := ps) (ss := ss) rfl rfl)) rfl) (longest_ok hw hR (by omega) (zip_ne h.l1 hs.1))))
theorem mem_zip_swap {ps ss : List Int} {a : Int × Int} : (a.2, a.1) ∈ ps.zip ss ↔ a ∈ ss.zip ps := by
  induction ps generalizing ss with
  | nil => simp
  | cons p ps ih =>
    cases ss with
    | nil => simp
    | cons s ss =>
      simp only [List.zip_cons_cons, List.mem_cons, ih]
      constructor
      · rintro (h | h)
        · left
          have h1 := congrArg Prod.fst h
          have h2 := congrArg Prod.snd h
          exact Prod.ext h2 h1
        · exact .inr h
      · rintro (h | h)
        · left; rw [h]
        · exact .inr h
theorem are_shifts_ok {wf : Nat} {ps ss : List Int} (hl4 : ps.length ≤ 4) : p_are_shifts wf [tupI ps, tupI ss] = .ok (.bool (decide (ShB ps ss))) := by
  unfold p_are_shifts
  by_cases hl : ss.length = ps.length
  · have hc := comp_map (vs := [2, 3]) (src := iZip (cV 1) (cV 0)) (g := gT (gCons (gN 2) (gCons (gN 3) gNil))) (e := cCall 3 (p_is_int wf) (aCons (cV 2) (aCons (cC (.int 0)) (aCons (c2 subD (cV 3) (cC (.int 1))) aNil)))) (r := startE 4 [tupI ps, tupI ss]) (mk := alD) (is := ss.zip ps)
      (by show R.ok (zipL (ss.map .int) (ps.map .int)) = _; rw [zipL_row]) (le_SZ (by rw [List.length_zip]; omega)) (fun a => [some (.dat (tupI ps)), some (.dat (tupI ss)), some (.dat (.int a.1)), some (.dat (.int a.2))]) (fun a => .bool (decide (0 ≤ a.1) && decide (a.1 ≤ a.2 - 1)))
      (fun a _ => ⟨rfl, call3_ok rfl rfl (c2_ok rfl rfl rfl) (is_int_int _ _ _)⟩)
    have e : ((ss.zip ps).map fun a => PyData.bool (decide (0 ≤ a.1) && decide (a.1 ≤ a.2 - 1))) = ((ss.zip ps).map fun a => decide (0 ≤ a.1) && decide (a.1 ≤ a.2 - 1)).map .bool := by simp [List.map_map, Function.comp_def]
    rw [e] at hc
    refine run_ret (seq_ok (if_no (or_no rfl (c2_ok (a := .int ss.length) (b := .int ps.length) (by simp [cLenV, startE, lenD]) (by simp [cLenV, startE, lenD]) (by rw [neD_dec]; simp [hl])))) (ret_ok (c1_ok (cL_ok hc) ?_)))
    rw [allD_bools]
    congr 2
    rw [Bool.eq_iff_iff]
    simp only [List.all_map, List.all_eq_true, Function.comp, id, Bool.and_eq_true, decide_eq_true_eq, ShB, hl, true_and]
    constructor
    · intro q a ha
      have := q (a.2, a.1) (mem_zip_swap.mp ha)
      omega
    · intro q a ha
      have := q (a.2, a.1) (mem_zip_swap.mpr ha)
      have h1 : 0 ≤ a.1 := this.1
      have h2 : a.1 < a.2 := this.2
      omega
  · refine run_ret (seq_ret (if_yes (or_ok (a := false) (b := true) rfl fun _ => c2_ok (a := .int ss.length) (b := .int ps.length) (by simp [cLenV, startE, lenD]) (by simp [cLenV, startE, lenD]) (by rw [neD_dec]; simp; omega)) (ret_ok ?_)))
    have : ¬ ShB ps ss := fun q => hl q.1
    simp only [cC, this, decide_false]
theorem are_shifts_no {wf : Nat} {ps : List Int} {d : PyData} (hd : isiD .tuple d = .ok (.bool false)) : p_are_shifts wf [tupI ps, d] = .ok (.bool false) := by
  unfold p_are_shifts
  exact run_ret (seq_ret (if_yes (or_ok (a := true) (b := true) (c1_ok (c1_ok rfl hd) rfl) fun z => by cases z) rfl))
theorem do_cover_ok {wf : Nat} {ps ss : List Int} {n : Int} (h : Sp ps) (n0 : 0 ≤ n) (n8 : n ≤ 8) (hw : 60 < wf) : p_do_cover wf [tupI ps, tupI ss, .int n] = .ok (.bool (decide (ShB ps ss) && decide (lgF ps ss ≤ n))) := by
  unfold p_do_cover
  refine run_ret (seq_ok (drop_ok (call1_ok rfl (check_short_ok h))) (seq_ok (drop_ok (call3_ok rfl rfl rfl (check_number_ok n0 n8))) (ret_ok (and_ok (call2_ok rfl rfl (are_shifts_ok h.l4)) fun c => c2_ok (call2_ok rfl rfl (silence_of_ok h (by simpa using c) hw)) rfl rfl))))
theorem do_cover_no {wf : Nat} {ps : List Int} {d : PyData} {n : Int} (h : Sp ps) (n0 : 0 ≤ n) (n8 : n ≤ 8) (hd : isiD .tuple d = .ok (.bool false)) : p_do_cover wf [tupI ps, d, .int n] = .ok (.bool false) := by
  unfold p_do_cover
  refine run_ret (seq_ok (drop_ok (call1_ok rfl (check_short_ok h))) (seq_ok (drop_ok (call3_ok rfl rfl rfl (check_number_ok n0 n8))) (ret_ok (and_ok (a := false) (b := false) (call2_ok rfl rfl (are_shifts_no hd)) fun c => by cases c))))
/-! ### the best shifts -/
theorem comp2_ok {α β : Type} {vs vs1 : List Nat} {src src1 : Exl} {g g1 : Tg} {e : Ex} {r : En} {mk : α → PyData} {mk1 : β → PyData} {is : List α} (hs : src r = .ok (is.map mk)) (r1 : α → En) (es : α → List β) (r2 : α → β → En) (f : α → β → PyData)
    (h : ∀ i ∈ is, g (mk i) (wipeE r vs) = .ok (r1 i) ∧ src1 (r1 i) = .ok ((es i).map mk1) ∧ ∀ j ∈ es i, g1 (mk1 j) (wipeE (r1 i) vs1) = .ok (r2 i j) ∧ e (r2 i j) = .ok (f i j)) (hl : (is.flatMap fun i => (es i).map (f i)).length ≤ SZ) :
    cComp2 vs vs1 src g tYes src1 g1 tYes e r = .ok (is.flatMap fun i => (es i).map (f i)) := by
  have key : ∀ l : List α, (∀ i ∈ l, i ∈ is) → comp2Go vs1 g tYes src1 g1 tYes e (wipeE r vs) (l.map mk) = .ok (l.flatMap fun i => (es i).map (f i)) := by
    intro l
    induction l with
    | nil => intro _; rfl
    | cons i l ih =>
      intro hl
      obtain ⟨h1, h2, h3⟩ := h i (hl i (by simp))
      have ih := ih fun j hj => hl j (List.mem_cons_of_mem _ hj)
      have hg := comp_go (g := g1) (t := tYes) (e := e) (r := wipeE (r1 i) vs1) (mk := mk1) (r2 i) (fun _ => true) (f i) (is := es i) fun j hj => ⟨(h3 j hj).1, rfl, fun _ => (h3 j hj).2⟩
      rw [filt_true] at hg
      rw [List.map_cons, comp2Go, h1]
      simp only [R.nox_ok, R.bind_ok, tYes, if_true, h2]
      rw [hg]
      simp only [R.bind_ok]
      rw [ih]
      simp
  unfold cComp2
  rw [hs]
  simp only [R.bind_ok]
  rw [key is fun _ h => h]
  simp only [R.bind_ok, hl, if_true]
def fbF (ps : List Int) : List (List Int) := (ps.drop 1).foldl evSt [[0]]
def bestF (ps : List Int) : Int × List Int := match fbF ps with
  | [] => (0, [])
  | s :: l => minP (lgF ps s, s) (l.map fun x => (lgF ps x, x))
theorem fold_len (n : Nat) : ∀ (qs : List Int) (f : List (List Int)), (∀ ss ∈ f, ss.length = n) → ∀ ss ∈ qs.foldl evSt f, ss.length = n + qs.length
  | [], f, h, ss, hs => by simpa using h ss hs
  | q :: qs, f, h, ss, hs => by
    have := fold_len (n + 1) qs (evSt f q) (fun tt ht => by
      unfold evSt at ht
      obtain ⟨u, hu, ht⟩ := List.mem_flatMap.mp ht
      obtain ⟨s, _, rfl⟩ := List.mem_map.mp ht
      simp [h u hu]) ss hs
    simp only [List.length_cons]; omega
theorem mem_fb {p : Int} (hp : 1 ≤ p) : ∀ (qs : List Int) (ss : List Int), ss ∈ qs.foldl evSt [[0]] ↔ ShB (p :: qs) ss ∧ ss.head? = some 0 := by
  intro qs
  refine snoc_ind (P := fun qs => ∀ ss, ss ∈ qs.foldl evSt [[0]] ↔ ShB (p :: qs) ss ∧ ss.head? = some 0) (fun ss => ?_) (fun qs q ih ss => ?_) qs
  · simp only [List.foldl_nil, List.mem_singleton]
    constructor
    · rintro rfl
      exact ⟨⟨rfl, by simp; omega⟩, rfl⟩
    · rintro ⟨⟨h1, _⟩, h3⟩
      match ss, h1 with
      | [s], _ =>
        simp at h3
        rw [h3]
  · rw [List.foldl_append, List.foldl_cons, List.foldl_nil]
    unfold evSt
    simp only [List.mem_flatMap, List.mem_map, mem_rangeI]
    have ec : p :: (qs ++ [q]) = (p :: qs) ++ [q] := rfl
    constructor
    · rintro ⟨ss, h1, s, h2, rfl⟩
      obtain ⟨hq, hh⟩ := (ih ss).mp h1
      refine ⟨⟨by simp [hq.1], fun a ha => ?_⟩, ?_⟩
      · rw [ec, zip_snoc hq.1] at ha
        rcases List.mem_append.mp ha with ha | ha
        · exact hq.2 a ha
        · rw [List.mem_singleton.mp ha]; exact h2
      · rw [List.head?_append, hh]; rfl
    · rintro ⟨⟨h1, h2⟩, h3⟩
      have hne : ss ≠ [] := by intro e; subst e; simp at h1
      obtain ⟨l, s, rfl⟩ : ∃ l s, ss = l ++ [s] := ⟨ss.dropLast, ss.getLast hne, (List.dropLast_concat_getLast hne).symm⟩
      have hl : l.length = (p :: qs).length := by simpa using h1
      rw [ec, zip_snoc hl] at h2
      refine ⟨l, (ih l).mpr ⟨⟨hl, fun a ha => h2 a (List.mem_append_left _ ha)⟩, ?_⟩, s, h2 (q, s) (List.mem_append_right _ (by simp)), rfl⟩
      cases l with
      | nil => simp at hl
      | cons x l => simpa using h3
theorem mem_fbF {ps : List Int} (h : Sp ps) {ss : List Int} : ss ∈ fbF ps ↔ ShB ps ss ∧ ss.head? = some 0 := by
  have h1 := h.l1
  cases ps with
  | nil => simp at h1
  | cons p qs => exact mem_fb (h.b p (by simp)).1 qs ss
theorem lt_irr (p : Int × List Int) : ltP p p = false := by simp [ltP, lx_irr]
theorem lt_tr {p q r : Int × List Int} (h1 : ltP p q = true) (h2 : ltP q r = true) : ltP p r = true := by
  unfold ltP at *
  by_cases e1 : p.1 = q.1
  · rw [if_pos e1] at h1
    by_cases e2 : q.1 = r.1
    · rw [if_pos e2] at h2
      rw [if_pos (e1.trans e2)]
      exact lx_tr h1 h2
    · rw [if_neg e2] at h2
      rw [if_neg (by omega)]
      simp at h2 ⊢; omega
  · rw [if_neg e1] at h1
    have h1 : p.1 < q.1 := by simpa using h1
    by_cases e2 : q.1 = r.1
    · rw [if_neg (by omega)]; simp; omega
    · rw [if_neg e2] at h2
      have h2 : q.1 < r.1 := by simpa using h2
      rw [if_neg (by omega)]; simp; omega
theorem lt_tot {p q : Int × List Int} (h : p ≠ q) : ltP p q = true ∨ ltP q p = true := by
  unfold ltP
  by_cases e : p.1 = q.1
  · rw [if_pos e, if_pos e.symm]
    exact lx_tot fun z => h (Prod.ext e z)
  · rw [if_neg e, if_neg (fun z => e z.symm)]
    simp; omega
theorem minP_spec : ∀ (ps : List (Int × List Int)) (p : Int × List Int), minP p ps ∈ p :: ps ∧ ∀ y ∈ p :: ps, ltP y (minP p ps) = false
  | [], p => by simp [minP, lt_irr]
  | q :: ps, p => by
    have ih := minP_spec ps (if ltP q p then q else p)
    have e : minP p (q :: ps) = minP (if ltP q p then q else p) ps := rfl
    rw [e]
    obtain ⟨h1, h2⟩ := ih
    have h0 := h2 _ List.mem_cons_self
    have key : ∀ y, ltP y (minP (if ltP q p then q else p) ps) = true → y = q ∨ y = p → False := fun y hy hc => by
      by_cases c : ltP q p = true
      · rw [if_pos c] at h0 hy
        rcases hc with rfl | rfl
        · rw [h0] at hy; cases hy
        · rw [lt_tr c hy] at h0; cases h0
      · rw [if_neg c] at h0 hy
        rcases hc with rfl | rfl
        · by_cases e : y = p
          · subst e; rw [h0] at hy; cases hy
          · rcases lt_tot e with z | z
            · exact c z
            · rw [lt_tr z hy] at h0; cases h0
        · rw [h0] at hy; cases hy
    refine ⟨?_, fun y hy => ?_⟩
    · rcases List.mem_cons.mp h1 with z | z
      · rw [z]; split <;> simp
      · exact List.mem_cons_of_mem _ (List.mem_cons_of_mem _ z)
    · cases hb : ltP y (minP (if ltP q p then q else p) ps) with
      | false => rfl
      | true =>
        rcases List.mem_cons.mp hy with z | z
        · exact (key y hb (.inr z)).elim
        · rcases List.mem_cons.mp z with z | z
          · exact (key y hb (.inl z)).elim
          · rw [h2 y (List.mem_cons_of_mem _ z)] at hb; cases hb
theorem fbF_ne {ps : List Int} (h : Sp ps) : fbF ps ≠ [] := by
  have : ps.map (fun _ => (0 : Int)) ∈ fbF ps := (mem_fbF h).mpr ⟨⟨by simp, fun a ha => by
    obtain ⟨h1, h2⟩ := List.of_mem_zip ha
    obtain ⟨_, _, e⟩ := List.mem_map.mp h2
    have := h.b a.1 h1
    omega⟩, by
      have := h.l1
      cases ps with
      | nil => simp at this
      | cons p ps => rfl⟩
  exact List.ne_nil_of_mem this
theorem best_mem {ps : List Int} (h : Sp ps) : (bestF ps).2 ∈ fbF ps ∧ (bestF ps).1 = lgF ps (bestF ps).2 ∧ ∀ ss ∈ fbF ps, ltP (lgF ps ss, ss) (bestF ps) = false := by
  cases e : fbF ps with
  | nil => exact absurd e (fbF_ne h)
  | cons s l =>
    have eb : bestF ps = minP (lgF ps s, s) (l.map fun x => (lgF ps x, x)) := by unfold bestF; rw [e]
    obtain ⟨h1, h2⟩ := minP_spec (l.map fun x => (lgF ps x, x)) (lgF ps s, s)
    rw [← eb] at h1 h2
    have hm : (lgF ps s, s) :: (l.map fun x => (lgF ps x, x)) = (s :: l).map fun x => (lgF ps x, x) := rfl
    rw [hm] at h1 h2
    obtain ⟨x, hx, ex⟩ := List.mem_map.mp h1
    refine ⟨by rw [← ex]; exact hx, by rw [← ex], fun ss hs => h2 _ (List.mem_map.mpr ⟨ss, hs, rfl⟩)⟩
/-- moved so that the first shift is nought -/
theorem move0 {ps ss : List Int} (h : Sp ps) (hs : ShB ps ss) : ∃ tt ∈ fbF ps, lgF ps tt = lgF ps ss := by
  have h1 := h.l1
  have hR := row_zip h.pd hs
  have hne := zip_ne h.l1 hs.1
  cases ps with
  | nil => simp at h1
  | cons p qs =>
    cases ss with
    | nil => have := hs.1; simp at this
    | cons s rs =>
      have hp := h.b p (by simp)
      have hs0 := hs.2 (p, s) (by simp)
      refine ⟨((p :: qs).zip (s :: rs)).map fun a => (a.2 + -s) % a.1, ?_, ?_⟩
      · refine (mem_fbF h).mpr ⟨⟨?_, fun a ha => ?_⟩, ?_⟩
        · have := hs.1
          simp at this ⊢; omega
        · have key : ∀ (us vs : List Int), us.length = vs.length → ∀ a ∈ us.zip ((us.zip vs).map fun a => (a.2 + -s) % a.1), 1 ≤ a.1 → 0 ≤ a.2 ∧ a.2 < a.1 := by
            intro us
            induction us with
            | nil => intro vs _ a ha; simp at ha
            | cons u us ih =>
              intro vs hl a ha h1
              cases vs with
              | nil => simp at hl
              | cons v vs =>
                simp only [List.zip_cons_cons, List.map_cons, List.mem_cons] at ha
                rcases ha with rfl | ha
                · exact ⟨Int.emod_nonneg _ (by simp at h1; omega), Int.emod_lt_of_pos _ (by simp at h1; omega)⟩
                · exact ih vs (by simpa using hl) a ha h1
          exact key _ _ hs.1.symm a ha (h.b a.1 (List.of_mem_zip ha).1).1
        · simp
          rw [Int.add_right_neg]
          rfl
      · have key : ∀ (us vs : List Int), us.length = vs.length → us.zip ((us.zip vs).map fun a => (a.2 + -s) % a.1) = movB (us.zip vs) (-s) := by
          intro us
          induction us with
          | nil => intro vs _; simp [movB]
          | cons u us ih =>
            intro vs hl
            cases vs with
            | nil => simp at hl
            | cons v vs =>
              have := ih vs (by simpa using hl)
              simp only [List.zip_cons_cons, List.map_cons, movB] at this ⊢
              rw [this]
        unfold lgF
        rw [key _ _ hs.1.symm, long_mov hR hne]
theorem best_spec {ps : List Int} (h : Sp ps) : ShB ps (bestF ps).2 ∧ (bestF ps).2.head? = some 0 ∧ (bestF ps).1 = lgF ps (bestF ps).2 ∧ ∀ ss, ShB ps ss → (bestF ps).1 ≤ lgF ps ss ∧ (lgF ps ss = (bestF ps).1 → lexT ss (bestF ps).2 = false) := by
  obtain ⟨h1, h2, h3⟩ := best_mem h
  obtain ⟨m1, m2⟩ := (mem_fbF h).mp h1
  refine ⟨m1, m2, h2, fun ss hs => ?_⟩
  have hle : (bestF ps).1 ≤ lgF ps ss := by
    obtain ⟨tt, t1, t2⟩ := move0 h hs
    have := h3 tt t1
    unfold ltP at this
    split at this
    · rename_i e; simp at e; omega
    · simp at this; omega
  refine ⟨hle, fun e => ?_⟩
  have hp := h.l1
  cases ss with
  | nil => have := hs.1; simp at this; omega
  | cons s rs =>
    by_cases s0 : s = 0
    · have := h3 (s :: rs) ((mem_fbF h).mpr ⟨hs, by rw [s0]; rfl⟩)
      unfold ltP at this
      rw [if_pos e] at this
      exact this
    · cases hb : (bestF ps).2 with
      | nil => rw [hb] at m2; simp at m2
      | cons b bs =>
        rw [hb] at m2
        simp at m2
        subst m2
        cases ps with
        | nil => simp at hp
        | cons p qs =>
          have := (hs.2 (p, s) (by simp)).1
          unfold lexT
          rw [if_neg s0]
          simp; omega
theorem prsOf_map : ∀ l : List (Int × List Int), prsOf (l.map prD) = some l
  | [] => rfl
  | p :: l => by
    have ih := prsOf_map l
    show (match intsOf (p.2.map .int) with | some n => (prsOf (l.map prD)).map ((p.1, n) :: ·) | none => none) = _
    rw [intsOf_ints, ih]; rfl
theorem prd_fb {p : Int} {qs : List Int} (hb : ∀ q ∈ p :: qs, 1 ≤ q) : ((qs.foldl evSt [[0]]).length : Int) ≤ prodI (p :: qs) := by
  have key : ∀ (l : List Int), (∀ q ∈ l, 1 ≤ q) → ((l.foldl evSt [[0]]).length : Int) ≤ prodI l := by
    intro l
    refine snoc_ind (P := fun l => (∀ q ∈ l, 1 ≤ q) → ((l.foldl evSt [[0]]).length : Int) ≤ prodI l) (fun _ => by simp [prodI]) (fun l q ih h => ?_) l
    have h1 := ih fun x hx => h x (List.mem_append_left _ hx)
    have h2 := h q (by simp)
    rw [List.foldl_append, List.foldl_cons, List.foldl_nil, prodI_snoc]
    have := flat_len (fun ss => (rangeI 0 q).map fun s => ss ++ [s]) q.toNat (l.foldl evSt [[0]]) (fun ss _ => by simp [rangeI_length])
    have h3 : (((l.foldl evSt [[0]]).length * q.toNat : Nat) : Int) = ((l.foldl evSt [[0]]).length : Int) * q := by
      rw [Int.natCast_mul]; congr 1; omega
    have h4 := Int.mul_le_mul_of_nonneg_right h1 (show 0 ≤ q by omega)
    have h5 : (evSt (l.foldl evSt [[0]]) q).length ≤ (l.foldl evSt [[0]]).length * q.toNat := this
    generalize l.foldl evSt [[0]] = f at *
    generalize evSt f q = f2 at *
    omega
  have h1 := key qs fun q hq => hb q (List.mem_cons_of_mem _ hq)
  have e : prodI (p :: qs) = p * prodI qs := by
    have : ∀ (l : List Int) (m : Int), l.foldl (· * ·) m = m * l.foldl (· * ·) 1 := by
      intro l
      induction l with
      | nil => intro m; simp
      | cons x l ih => intro m; rw [List.foldl_cons, List.foldl_cons, ih (m * x), ih (1 * x), Int.one_mul, Int.mul_assoc]
    unfold prodI
    rw [List.foldl_cons, this qs (1 * p), Int.one_mul]
  have hp := hb p (by simp)
  have h2 := prodI_pos qs fun q hq => hb q (List.mem_cons_of_mem _ hq)
  rw [e]
  have := Int.mul_le_mul_of_nonneg_right hp (show 0 ≤ prodI qs by omega)
  omega
theorem find_best_ok {wf : Nat} {ps : List Int} (h : Sp ps) (hm : prodI ps ≤ 600) (hw : 60 < wf) : p_find_best wf [tupI ps] = .ok (prD (bestF ps)) := by
  have h1 : ∀ q ∈ ps, 1 ≤ q := fun q hq => (h.b q hq).1
  have hl4 := h.l4
  have hfl : ∀ pre post : List Int, ps.drop 1 = pre ++ post → (pre.foldl evSt [[0]]).length ≤ 600 := fun pre post e => by
    have hl1 := h.l1
    cases ps with
    | nil => simp at hl1
    | cons p qs =>
      have e : qs = pre ++ post := by simpa using e
      have a := prd_fb (p := p) (qs := pre) fun q hq => h1 q (by
        rw [e]
        rcases List.mem_cons.mp hq with z | z
        · simp [z]
        · exact List.mem_cons_of_mem _ (List.mem_append_left _ z))
      have b := prodI_pre (ps := p :: pre) (qs := post) (by rw [List.cons_append, ← e]; exact h1)
      rw [List.cons_append, ← e] at b
      omega
  obtain ⟨r2, e, y2, y3, y4, rfl⟩ := for_pre (g := gN 2) (b := p_find_best_b1 wf) (mk := .int) (is := ps.drop 1) (I := fun l r => ∃ y2 y3 y4, r = [some (.dat (tupI ps)), some (.dat (.list ((l.foldl evSt [[0]]).map tupI))), y2, y3, y4, none])
    (r := [some (.dat (tupI ps)), some (.dat (.list [tupI [0]])), none, none, none, none])
    (fun pre q post eq r hI => by
      obtain ⟨y2, y3, y4, rfl⟩ := hI
      have hq := h.b q (List.mem_of_mem_drop (by rw [eq]; simp : q ∈ ps.drop 1))
      have hl := hfl pre (q :: post) eq
      have hl2 := hfl (pre ++ [q]) post (by rw [eq]; simp)
      have hpl : pre.length ≤ 4 := by
        have := congrArg List.length eq
        rw [List.length_drop] at this
        simp at this; omega
      have hss : ∀ ss ∈ pre.foldl evSt [[0]], ss.length ≤ 5 := fun ss hs => by
        have := fold_len 1 pre [[0]] (by simp) ss hs
        omega
      have hc := comp2_ok (vs := [3, 4]) (vs1 := [4]) (src := iVal (cV 1)) (g := gN 3) (src1 := iRng1 (cV 2)) (g1 := gN 4) (e := c2 addD (cV 3) (cTup (aCons (cV 4) aNil))) (r := [some (.dat (tupI ps)), some (.dat (.list ((pre.foldl evSt [[0]]).map tupI))), some (.dat (.int q)), y3, y4, none]) (mk := tupI) (mk1 := .int) (is := pre.foldl evSt [[0]]) (by rfl)
        (fun ss => [some (.dat (tupI ps)), some (.dat (.list ((pre.foldl evSt [[0]]).map tupI))), some (.dat (.int q)), some (.dat (tupI ss)), none, none]) (fun _ => rangeI 0 q) (fun ss s => [some (.dat (tupI ps)), some (.dat (.list ((pre.foldl evSt [[0]]).map tupI))), some (.dat (.int q)), some (.dat (tupI ss)), some (.dat (.int s)), none]) (fun ss s => tupI (ss ++ [s]))
        (fun ss hs => ⟨rfl, rng1_ok rfl (by omega) (by omega), fun s _ => ⟨rfl, c2_ok rfl rfl (by
          have := hss ss hs
          have : ss.length + 1 ≤ SZ := le_SZ (by omega)
          simp [addD, this])⟩⟩) (by
          refine le_SZ ?_
          have e2 : ((pre.foldl evSt [[0]]).flatMap fun ss => (rangeI 0 q).map fun s => tupI (ss ++ [s])) = (((pre ++ [q]).foldl evSt [[0]]).map tupI) := by
            rw [List.foldl_append, List.foldl_cons, List.foldl_nil]
            unfold evSt
            simp [List.map_flatMap, List.map_map, Function.comp_def]
          rw [e2, List.length_map]
          omega)
      refine ⟨_, _, rfl, set_ok (cL_ok hc) (by simp), some (.dat (.int q)), y3, y4, ?_⟩
      rw [List.foldl_append, List.foldl_cons, List.foldl_nil]
      unfold evSt
      simp [List.map_flatMap, List.map_map, Function.comp_def]) ⟨none, none, none, rfl⟩
  have hfl0 : (fbF ps).length ≤ 600 := hfl (ps.drop 1) [] (by simp)
  have hc := comp_map (vs := [5]) (src := iVal (cV 1)) (g := gN 5) (e := cTup (aCons (cCall 2 (p_silence_of wf) (aCons (cV 0) (aCons (cV 5) aNil))) (aCons (cV 5) aNil))) (r := [some (.dat (tupI ps)), some (.dat (.list ((fbF ps).map tupI))), y2, y3, y4, none]) (mk := tupI) (is := fbF ps) (by rfl) (le_SZ (by omega))
    (fun ss => [some (.dat (tupI ps)), some (.dat (.list ((fbF ps).map tupI))), y2, y3, y4, some (.dat (tupI ss))]) (fun ss => prD (lgF ps ss, ss)) (fun ss hs => ⟨rfl, by
      unfold cTup
      rw [acons_ok (call2_ok rfl rfl (silence_of_ok h ((mem_fbF h).mp hs).1 hw)) (acons_ok (a := tupI ss) rfl rfl)]
      rfl⟩)
  unfold p_find_best
  refine run_ret (seq_ok (r1 := [some (.dat (tupI ps)), some (.dat (.list [tupI [0]])), none, none, none, none]) (by rfl) (seq_ok (sfor_ok (ds := (ps.drop 1).map .int) ?_ e) (ret_ok (c1_ok (cL_ok hc) ?_))))
  · unfold iVal
    have : slcD (tupI ps) (some 1) none = .ok (tupI (ps.drop 1)) := by
      simp only [slcD, tupI]
      rw [cut_drop _ (by decide)]
      simp [List.map_drop]
    rw [slc_ok rfl rfl rfl this]; rfl
  · have em : ((fbF ps).map fun ss => prD (lgF ps ss, ss)) = ((fbF ps).map fun ss => (lgF ps ss, ss)).map prD := by simp [List.map_map, Function.comp_def]
    rw [em]
    cases ef : fbF ps with
    | nil => exact absurd ef (fbF_ne h)
    | cons s l =>
      have ei : intsOf (((s :: l).map fun ss => (lgF ps ss, ss)).map prD) = none := rfl
      have eb : bestF ps = minP (lgF ps s, s) (l.map fun x => (lgF ps x, x)) := by unfold bestF; rw [ef]
      have ep := prsOf_map ((s :: l).map fun ss => (lgF ps ss, ss))
      rw [eb]
      unfold minD
      dsimp only
      rw [ei]
      dsimp only
      rw [ep]
      rfl
theorem least_silence_ok {wf : Nat} {ps : List Int} (h : Sp ps) (hm : prodI ps ≤ 600) (hw : 60 < wf) : p_least_silence wf [tupI ps] = .ok (.int (bestF ps).1) := by
  unfold p_least_silence
  refine run_ret (seq_ok (drop_ok (call1_ok rfl (by rw [check_product2 h, if_pos hm]))) (ret_ok (c2_ok (call1_ok rfl (find_best_ok h hm hw)) rfl rfl)))
theorem covering_ok {wf : Nat} {ps : List Int} (h : Sp ps) (hm : prodI ps ≤ 600) (hw : 60 < wf) : p_covering_shifts wf [tupI ps] = .ok (tupI (bestF ps).2) := by
  unfold p_covering_shifts
  refine run_ret (seq_ok (drop_ok (call1_ok rfl (by rw [check_product2 h, if_pos hm]))) (ret_ok (c2_ok (call1_ok rfl (find_best_ok h hm hw)) rfl rfl)))
theorem fewest_ok {wf : Nat} {p n : Int} (p1 : 1 ≤ p) (p2 : p ≤ 60) (n0 : 0 ≤ n) (n1 : n ≤ 60) : p_fewest_alike wf [.int p, .int n] = .ok (.int ((p + n) / (n + 1))) := by
  unfold p_fewest_alike
  exact run_ret (seq_ok (drop_ok (call3_ok rfl rfl rfl (check_number_ok p1 p2))) (seq_ok (drop_ok (call3_ok rfl rfl rfl (check_number_ok n0 n1))) (ret_ok (c2_ok (c2_ok rfl rfl rfl) (c2_ok rfl rfl rfl) (fdiv_ok (by omega) (by omega))))))
theorem tup_ok {f : Exl} {r : En} {ds : List PyData} (h : f r = .ok ds) (h2 : ds.length ≤ SZ) : cTup f r = .ok (.tuple ds) := by
  unfold cTup; rw [h]; simp only [R.bind_ok, h2, if_true]
theorem val_ok {f : Ex} {r : En} {d : PyData} {ds : List PyData} (h : f r = .ok d) (h2 : itemsD d = .ok ds) : iVal f r = .ok ds := by
  unfold iVal; rw [h]; simp only [R.bind_ok, h2, R.nox_ok]
theorem cur_le {as : List (Int × Int)} (hA : AlA as) (hn : as ≠ []) (u : Nat) : curF as u ≤ longF as := by
  obtain ⟨c1, c2, c3⟩ := cur_spec as u
  rcases Int.lt_or_le 0 (curF as u) with q | q
  · exact (long_iff hA hn q).mpr ⟨u - curF as u, by omega, fun t t0 t1 => c3 t t0 (by omega)⟩
  · have := long_nonneg hA hn; omega
def lnF (as : List (Int × Int)) : Nat → Int
  | 0 => 0
  | n + 1 => if (if 8 < n then curF as (n + 1) else 0) > lnF as n then (if 8 < n then curF as (n + 1) else 0) else lnF as n
theorem ln_ge (as : List (Int × Int)) : ∀ (N n : Nat), n < N → 8 < n → curF as (n + 1) ≤ lnF as N
  | 0, n, h, _ => by omega
  | N + 1, n, h, h8 => by
    unfold lnF
    by_cases e : n = N
    · subst e
      rw [if_pos h8]
      split <;> omega
    · have := ln_ge as N n (by omega) h8
      split <;> omega
theorem ln_le {as : List (Int × Int)} (hA : AlA as) (hn : as ≠ []) : ∀ N : Nat, lnF as N ≤ longF as
  | 0 => long_nonneg hA hn
  | N + 1 => by
    have ih := ln_le hA hn N
    have h0 := long_nonneg hA hn
    have hc := cur_le hA hn (N + 1)
    unfold lnF
    repeat (first | split | omega)
theorem ln_long {as : List (Int × Int)} (hA : AlA as) (hn : as ≠ []) {N : Nat} (hN : (N : Int) = 2 * lcmF as 1 + 9) : lnF as N = longF as := by
  have hL := lcmF_pos as 1 (by omega) hA.pos
  refine Int.le_antisymm (ln_le hA hn N) ?_
  obtain ⟨a, b, a0, ab, b2, eg, ha, hs⟩ := gap_of hA hn (long_mem hA hn).1
  obtain ⟨m, m0, m1, m2⟩ : ∃ m : Int, 0 ≤ m ∧ 8 < b - 1 + lcmF as 1 * m ∧ b - 1 + lcmF as 1 * m < 2 * lcmF as 1 + 9 := by
    by_cases c : 8 < b - 1
    · exact ⟨0, by omega, by omega, by omega⟩
    · have h1 := Int.mul_ediv_add_emod (8 - (b - 1)) (lcmF as 1)
      have h2 := Int.emod_nonneg (8 - (b - 1)) (b := lcmF as 1) (by omega)
      have h3 := Int.emod_lt_of_pos (8 - (b - 1)) hL
      have h4 := Int.ediv_nonneg (a := 8 - (b - 1)) (b := lcmF as 1) (by omega) (by omega)
      refine ⟨(8 - (b - 1)) / lcmF as 1 + 1, by omega, ?_, ?_⟩
      · rw [Int.mul_add, Int.mul_one]; omega
      · rw [Int.mul_add, Int.mul_one]; omega
  have hLm : 0 ≤ lcmF as 1 * m := Int.mul_nonneg (by omega) m0
  have per : ∀ t : Int, heardF (t + lcmF as 1 * m) 0 as = heardF t 0 as := fun t => by
    rw [← heard_perN t, ← heard_perN (t + lcmF as 1 * m), Int.add_mul_emod_self_left]
  obtain ⟨a', ha'⟩ := Int.eq_ofNat_of_zero_le (a := a + lcmF as 1 * m) (by omega)
  obtain ⟨k, hk⟩ := Int.eq_ofNat_of_zero_le (a := b - a - 1) (by omega)
  have hg := cur_gap (as := as) (a := a') (by rw [← ha', per]; exact ha) k fun t t0 t1 => by
    have := hs (t - lcmF as 1 * m) (by omega) (by omega)
    rw [← per, Int.sub_add_cancel] at this
    exact this
  have h2 := ln_ge as N (a' + k) (by omega) (by omega)
  rw [show a' + k + 1 = a' + 1 + k by omega, hg] at h2
  omega
theorem law_silence_ok {wf : Nat} {as : List (Int × Int)} (hw : 60 < wf) (h : Row as) (hn : as ≠ []) (h5 : lcmF as 1 ≤ 5000) : p__law_silence wf [rowD as] = .ok (.int (longF as)) := by
  have hL := lcmF_pos as 1 (by omega) h.pos
  obtain ⟨N, hN⟩ := Int.eq_ofNat_of_zero_le (a := 2 * lcmF as 1 + 9) (by omega)
  obtain ⟨r2, e, y4, rfl⟩ := for_idx (g := gN 4) (b := p__law_silence_b1 wf) (I := fun n r => ∃ y4, r = [some (.dat (rowD as)), some (.dat (.int (lcmF as 1))), some (.dat (.int (lnF as n))), some (.dat (.int (curF as n))), y4]) N
    (fun n hn r hI => by
      obtain ⟨y4, rfl⟩ := hI
      have e1 : cIf (c2 eqD (cCall 2 (p__law_count wf) (aCons (cV 0) (aCons (cV 4) aNil))) (cC (.int 0))) (c2 addD (cV 3) (cC (.int 1))) (cC (.int 0)) [some (.dat (rowD as)), some (.dat (.int (lcmF as 1))), some (.dat (.int (lnF as n))), some (.dat (.int (curF as n))), some (.dat (.int n))] = .ok (.int (curF as (n + 1))) := by
        refine if_expr (b := decide (heardF (n : Int) 0 as = [])) (c2_ok (call2_ok rfl rfl (count_ok h)) rfl ?_) (fun c => ?_) fun c => ?_
        · rw [eqD_dec]
          have : (((heardF (n : Int) 0 as).length : Int) = 0) ↔ heardF (n : Int) 0 as = [] := by
            rw [← List.length_eq_zero_iff]; omega
          simp only [this]
        · have c : heardF (n : Int) 0 as = [] := by simpa using c
          rw [show curF as (n + 1) = curF as n + 1 from if_pos c]; rfl
        · have c : ¬ heardF (n : Int) 0 as = [] := by simpa using c
          rw [show curF as (n + 1) = 0 from if_neg c]; rfl
      refine ⟨_, _, rfl, seq_ok (set_ok e1 (by simp)) (set_ok (d := .int (lnF as (n + 1))) (c2_ok rfl (if_expr (b := decide (8 < n)) (d := .int (if 8 < n then curF as (n + 1) else 0)) (c2_ok rfl rfl ?_) (fun c => ?_) fun c => ?_) rfl) (by simp)), some (.dat (.int n)), rfl⟩
      · simp only [gtD]
        congr 2
        rw [decide_eq_decide]
        omega
      · have c : 8 < n := by simpa using c
        rw [if_pos c]; rfl
      · have c : ¬ 8 < n := by simpa using c
        rw [if_neg c]; rfl) (r := [some (.dat (rowD as)), some (.dat (.int (lcmF as 1))), some (.dat (.int 0)), some (.dat (.int 0)), none]) ⟨none, rfl⟩
  unfold p__law_silence
  refine run_ret (seq_ok (r1 := [some (.dat (rowD as)), some (.dat (.int (lcmF as 1))), some (.dat (.int 0)), some (.dat (.int 0)), none]) (par3_ok (call1_ok rfl (cyc2_ok hw h.2)) rfl rfl (by simp [startE]) (by simp [startE]) (by simp [startE])) (seq_ok (sfor_ok (rng1_ok (n := (N : Int)) (c2_ok (c2_ok rfl rfl (mul_small (.inl (by decide)))) rfl (by rw [← hN]; rfl)) (by omega) (by omega)) e) (ret_ok ?_)))
  rw [← ln_long h.2 hn hN.symm]; rfl
theorem prod_pow {B : Int} (hB : 1 ≤ B) (ps : List Int) : (∀ p ∈ ps, 1 ≤ p ∧ p ≤ B) → prodI ps ≤ B ^ ps.length := by
  refine snoc_ind (P := fun ps => (∀ p ∈ ps, 1 ≤ p ∧ p ≤ B) → prodI ps ≤ B ^ ps.length) (fun _ => by simp [prodI]) (fun ps p ih h => ?_) ps
  have h1 := ih fun q hq => h q (List.mem_append_left _ hq)
  have h2 := h p (by simp)
  have h3 := prodI_pos ps fun q hq => (h q (List.mem_append_left _ hq)).1
  rw [prodI_snoc, List.length_append, List.length_singleton, Int.pow_succ]
  exact Int.mul_le_mul h1 h2.2 (by omega) (by omega)
theorem ev_slt (ps : List Int) : SLt (evF ps) := by
  refine snoc_ind (P := fun ps => SLt (evF ps)) (by simp [evF, SLt]) (fun ps p ih => ?_) ps
  rw [evF_snoc]
  have hlen : ∀ ss ∈ evF ps, ss.length = ps.length := fun ss hs => ((mem_evF ps ss).mp hs).1
  have one : ∀ (l m : List Int) (s t : Int), l.length = m.length → lexT (l ++ [s]) (m ++ [t]) = if l = m then decide (s < t) else lexT l m := by
    intro l
    induction l with
    | nil =>
      intro m s t h
      cases m with
      | nil => simp [lexT]; intro e; omega
      | cons _ _ => simp at h
    | cons x l ihl =>
      intro m s t h
      cases m with
      | nil => simp at h
      | cons y m =>
        have := ihl m s t (by simpa using h)
        simp only [List.cons_append, lexT, this]
        by_cases e : x = y
        · simp [e]
        · simp [e]
  unfold SLt evSt
  rw [List.pairwise_flatMap]
  refine ⟨fun ss _ => ?_, ?_⟩
  · rw [List.pairwise_map]
    refine (rangeI_sorted 0 p).imp fun {a b} hab => ?_
    rw [one ss ss a b rfl, if_pos rfl]
    simpa using hab
  · refine ih.imp_of_mem fun {ss tt} h1 h2 hlt x hx y hy => ?_
    obtain ⟨s, _, rfl⟩ := List.mem_map.mp hx
    obtain ⟨t, _, rfl⟩ := List.mem_map.mp hy
    have hne : ss ≠ tt := fun e => by
      subst e
      rw [lx_irr] at hlt; cases hlt
    rw [one ss tt s t ((hlen ss h1).trans (hlen tt h2).symm), if_neg hne]
    exact hlt
/-- the first of the least silences is the best -/
theorem best_first {ps : List Int} (h : Sp ps) {j : Nat} (hj : ((evF ps).map (lgF ps)).findIdx? (fun z => decide (z = (bestF ps).1)) = some j) : (evF ps)[j]? = some (bestF ps).2 := by
  obtain ⟨b1, b2, b3, b4⟩ := best_spec h
  obtain ⟨h1, h2, h3⟩ := List.findIdx?_eq_some_iff_getElem.mp hj
  have hl : j < (evF ps).length := by simpa using h1
  rw [List.getElem?_eq_getElem hl]
  have hb : (bestF ps).2 ∈ evF ps := (mem_evF ps _).mpr b1
  obtain ⟨i, hi, ei⟩ := List.mem_iff_getElem.mp hb
  have he : lgF ps (evF ps)[j] = (bestF ps).1 := by
    have := h2
    simpa using this
  have hej := (mem_evF ps _).mp (List.getElem_mem hl)
  have hn := (b4 _ hej).2 he
  rcases Nat.lt_trichotomy i j with q | q | q
  · have := h3 i q
    rw [List.getElem_map, ei, ← b3] at this
    simp at this
  · subst q; rw [ei]
  · have := (List.pairwise_iff_getElem.mp (ev_slt ps)) j i hl hi q
    rw [ei, hn] at this
    cases this
theorem pick_item {ds : List PyData} {v : Int} (v0 : 0 ≤ v) (v1 : v < ds.length) : ∃ d ∈ ds, idxD (.list ds) (.int v) = .ok d := by
  obtain ⟨n, rfl⟩ := Int.eq_ofNat_of_zero_le v0
  have hn : n < ds.length := by omega
  exact ⟨ds[n], List.getElem_mem hn, item_nat (List.getElem?_eq_getElem hn)⟩
theorem mul4 {n : Nat} (h : n ≤ 3) : (4 : Int) ^ n ≤ 64 := by
  have : n = 0 ∨ n = 1 ∨ n = 2 ∨ n = 3 := by omega
  rcases this with rfl | rfl | rfl | rfl <;> decide
theorem periods_ok {wf : Nat} {ns : List Int} (hl : ns.length ≤ 63) (hw2 : 2000 < wf) {B : Int} (B1 : 1 ≤ B) (B2 : B ≤ 5) {r : En} {j : Nat} (h0 : r[0]? = some (some (.dat (.list (ns.map .int))))) (hj : j < r.length) (hj0 : j ≠ 0) :
    ∃ ps, Sp ps ∧ ps.length ≤ 3 ∧ (∀ p ∈ ps, 1 ≤ p ∧ p ≤ B) ∧ c1 tupleD (cL (cComp [j] (iRng1 (c2 addD (cC (.int 1)) (cCall 3 (p__law_drawn wf) (aCons (cV 0) (aCons (cC (.int 1)) (aCons (cC (.int 3)) aNil)))))) (gN j) tYes (c2 addD (cC (.int 1)) (cCall 3 (p__law_drawn wf) (aCons (cV 0) (aCons (c2 addD (cC (.int 10)) (cV j)) (aCons (cC (.int B)) aNil))))))) r = .ok (tupI ps) := by
  obtain ⟨v, e1, v0, v1⟩ := drawn_ok (wf := wf) hl (k := 1) (many := 3) (by omega) (by omega) hw2 (by omega)
  have hwipe : wipeE r [j] = r.set j none := rfl
  obtain ⟨ps, p1, p2, p3⟩ := comp_ex (vs := [j]) (src := iRng1 (c2 addD (cC (.int 1)) (cCall 3 (p__law_drawn wf) (aCons (cV 0) (aCons (cC (.int 1)) (aCons (cC (.int 3)) aNil)))))) (g := gN j) (e := c2 addD (cC (.int 1)) (cCall 3 (p__law_drawn wf) (aCons (cV 0) (aCons (c2 addD (cC (.int 10)) (cV j)) (aCons (cC (.int B)) aNil))))) (r := r) (mk := .int) (mk2 := .int) (P := fun p => 1 ≤ p ∧ p ≤ B) (is := rangeI 0 (1 + v))
    (rng1_ok (c2_ok rfl (call3_ok (a := .list (ns.map .int)) (by simp [cV, h0]) rfl rfl e1) rfl) (by omega) (by omega)) (by rw [rangeI_length]; exact le_SZ (by omega))
    (fun k => (r.set j none).set j (some (.dat (.int k)))) (fun k hk => ⟨by simp [hwipe, gN, hj], by
      rw [mem_rangeI] at hk
      obtain ⟨w, e2, w0, w1⟩ := drawn_ok (wf := wf) hl (k := 10 + k) (many := B) (by omega) (by omega) hw2 (by omega)
      refine ⟨1 + w, c2_ok rfl (call3_ok (a := .list (ns.map .int)) ?_ (c2_ok rfl (b := .int k) ?_ rfl) rfl e2) rfl, by omega, by omega⟩
      · simp [cV, hj0, Ne.symm hj0, h0]
      · simp [cV, hj]⟩)
  rw [rangeI_length] at p1
  refine ⟨ps, ⟨by omega, by omega, fun p hp => by have := p2 p hp; omega⟩, by omega, p2, c1_ok (cL_ok p3) rfl⟩
end Rq
namespace Rq
open PySem Rt Pg
/-- the items are only known to be there, each in its place -/
theorem comp_ex2 {α β : Type} {vs : List Nat} {src : Exl} {g : Tg} {e : Ex} {r : En} {mk : α → PyData} {mk2 : β → PyData} {P : α → β → Prop} {is : List α} (hs : src r = .ok (is.map mk)) (hl : is.length ≤ SZ) (r1 : α → En) (h : ∀ i ∈ is, g (mk i) (wipeE r vs) = .ok (r1 i) ∧ ∃ y, e (r1 i) = .ok (mk2 y) ∧ P i y) : ∃ ys : List β, ys.length = is.length ∧ (∀ q ∈ is.zip ys, P q.1 q.2) ∧ cComp vs src g tYes e r = .ok (ys.map mk2) := by
  have key : ∀ is : List α, (∀ i ∈ is, g (mk i) (wipeE r vs) = .ok (r1 i) ∧ ∃ y, e (r1 i) = .ok (mk2 y) ∧ P i y) → ∃ ys : List β, ys.length = is.length ∧ (∀ q ∈ is.zip ys, P q.1 q.2) ∧ compGo g tYes e (wipeE r vs) (is.map mk) = .ok (ys.map mk2) := by
    intro is
    induction is with
    | nil => intro _; exact ⟨[], rfl, by simp, rfl⟩
    | cons i is ih =>
      intro h
      obtain ⟨ys, h1, h2, h3⟩ := ih fun j hj => h j (List.mem_cons_of_mem _ hj)
      obtain ⟨e1, y, e2, py⟩ := h i (by simp)
      refine ⟨y :: ys, by simp [h1], ?_, ?_⟩
      · intro z hz
        rw [List.zip_cons_cons] at hz
        rcases List.mem_cons.mp hz with rfl | hz
        · exact py
        · exact h2 z hz
      · rw [List.map_cons, compGo, e1]
        simp [tYes, e2] at h3 ⊢
        simp [tYes, h3]
  obtain ⟨ys, h1, h2, h3⟩ := key is h
  refine ⟨ys, h1, h2, ?_⟩
  unfold cComp
  rw [hs]
  have : (ys.map mk2).length ≤ SZ := by rw [List.length_map, h1]; exact hl
  simp only [R.bind_ok, h3, this, if_true]
theorem enum_snd {α : Type} : ∀ (as : List α) (k : Int), (enumI k as).map (·.2) = as
  | [], _ => rfl
  | a :: as, k => by rw [enumI, List.map_cons, enum_snd as]
theorem zip_enum {α β : Type} (as : List α) (ys : List β) (k : Int) : as.zip ys = ((enumI k as).zip ys).map fun q => (q.1.2, q.2) := by
  conv => lhs; rw [← enum_snd as k]
  rw [List.zip_map_left]; rfl
theorem ltD_tup (a b : List Int) : ltD (tupI a) (tupI b) = .ok (.bool (lexT a b)) := by
  simp [ltD, tupI, intsOf_ints]
theorem minD_tup {ns : List Int} {m : Int} (h : minI ns = some m) : minD (tupI ns) = .ok (.int m) := by
  simp [minD, tupI, intsOf_ints, h, optD]
theorem min_ex : ∀ {ns : List Int}, ns ≠ [] → ∃ m ∈ ns, ∀ y ∈ ns, m ≤ y
  | [], h => absurd rfl h
  | [a], _ => ⟨a, by simp, by simp⟩
  | a :: b :: l, _ => by
    obtain ⟨m, h1, h2⟩ := min_ex (ns := b :: l) (by simp)
    by_cases c : a ≤ m
    · refine ⟨a, by simp, fun y hy => ?_⟩
      rcases List.mem_cons.mp hy with rfl | hy
      · omega
      · have := h2 y hy; omega
    · refine ⟨m, List.mem_cons_of_mem _ h1, fun y hy => ?_⟩
      rcases List.mem_cons.mp hy with rfl | hy
      · omega
      · exact h2 y hy
theorem zip_rev {ps ss : List Int} (h : ss.length = ps.length) : ps.reverse.zip ss.reverse = (ps.zip ss).reverse := by
  rw [List.zip_eq_zipWith, List.zip_eq_zipWith, List.reverse_zipWith h.symm]
theorem rev_le {ps : List Int} (h : Sp ps) : (bestF ps.reverse).1 ≤ (bestF ps).1 := by
  have h2 : Sp ps.reverse := ⟨by simpa using h.l1, by simpa using h.l4, fun p hp => h.b p (by simpa using hp)⟩
  obtain ⟨b1, b2, b3, b4⟩ := best_spec h
  obtain ⟨c1, c2, c3, c4⟩ := best_spec h2
  have hz := zip_rev b1.1
  have hr : ShB ps.reverse (bestF ps).2.reverse := ⟨by simpa using b1.1, fun a ha => by
    rw [hz] at ha
    exact b1.2 a (by simpa using ha)⟩
  have := (c4 _ hr).1
  have e : lgF ps.reverse (bestF ps).2.reverse = lgF ps (bestF ps).2 := by
    unfold lgF
    rw [hz]
    exact (long_same (row_zip h.pd b1).2 (zip_ne h.l1 b1.1) fun b => by simp).symm
  omega
theorem more_le {ps : List Int} (h : Sp ps) (h3 : ps.length ≤ 3) {q : Int} (q1 : 1 ≤ q) (q2 : q ≤ 8) : (bestF (ps ++ [q])).1 ≤ (bestF ps).1 := by
  have h2 : Sp (ps ++ [q]) := ⟨by simp, by simp; omega, fun p hp => by
    rcases List.mem_append.mp hp with hp | hp
    · exact h.b p hp
    · simp at hp; omega⟩
  obtain ⟨b1, b2, b3, b4⟩ := best_spec h
  obtain ⟨c1, c2, c3, c4⟩ := best_spec h2
  have hz := zip_snoc b1.1 q 0
  have hr : ShB (ps ++ [q]) ((bestF ps).2 ++ [0]) := ⟨by simpa using b1.1, fun a ha => by
    rw [hz] at ha
    rcases List.mem_append.mp ha with ha | ha
    · exact b1.2 a ha
    · simp at ha; subst ha; simp; omega⟩
  have := (c4 _ hr).1
  have e : lgF (ps ++ [q]) ((bestF ps).2 ++ [0]) ≤ lgF ps (bestF ps).2 := by
    unfold lgF
    refine long_sub (row_zip h2.pd hr).2 (zip_ne h.l1 b1.1) fun b hb => ?_
    rw [hz]
    exact List.mem_append_left _ hb
  omega
theorem alike_dec : ∀ p ∈ ([1, 2, 3, 4] : List Int), ∀ k ∈ ([1, 2, 3] : List Nat), 0 ≤ (bestF (List.replicate k p)).1 ∧ (bestF (List.replicate k p)).1 ≤ 3 ∧ (p + (bestF (List.replicate k p)).1) / ((bestF (List.replicate k p)).1 + 1) ≤ k ∧ (1 < k → (bestF (List.replicate k p)).1 ≤ (bestF (List.replicate (k - 1) p)).1) ∧ ∀ n ∈ ([0, 1, 2, 3] : List Int), n < p → ((p + n) / (n + 1) ≤ k ↔ (bestF (List.replicate k p)).1 ≤ n) := by decide +kernel
end Rq
namespace K58
open PySem Rt Rq Pg
theorem law_true : ∀ ns : List Int, ns.length ≤ 63 → p_law WFN [.list (ns.map .int)] = .ok (.bool true) := by
  intro ns hl
  have hw2 : 2000 < WFN := by decide
  generalize WFN = wf at hw2
  have hw : 60 < wf := by omega
  obtain ⟨ps, hS, hl3, hb, eP⟩ := periods_ok (wf := wf) hl hw2 (B := 5) (by omega) (by omega) (r := startE 14 [.list (ns.map .int)]) (j := 5) rfl (by simp [startE]) (by omega)
  have p5 : ∀ n : Nat, n ≤ 3 → (5 : Int) ^ n ≤ 125 := fun n h => by
    have : n = 0 ∨ n = 1 ∨ n = 2 ∨ n = 3 := by omega
    rcases this with rfl | rfl | rfl | rfl <;> decide
  have hm6 : prodI ps ≤ 600 := by have := Int.le_trans (prod_pow (by omega) ps hb) (p5 _ hl3); omega
  have hl1 := hS.l1
  obtain ⟨b1, b2, b3, b4⟩ := best_spec hS
  have hrow : ∀ (r : En) (j : Nat) (ss : List Int), r.length = 14 → r[1]? = some (some (.dat (tupI ps))) → r[j]? = some (some (.dat (tupI ss))) → ShB ps ss → c1 tupleD (cL (cComp [8, 12] (iZip (cV 1) (cV j)) (gT (gCons (gN 8) (gCons (gN 12) gNil))) tYes (cTup (aCons (cV 8) (aCons (cV 12) aNil))))) r = .ok (rowD (ps.zip ss)) := by
    intro r j ss hr h1 hj hs
    have hwipe : wipeE r [8, 12] = (r.set 12 none).set 8 none := rfl
    have hc := comp_map (vs := [8, 12]) (src := iZip (cV 1) (cV j)) (g := gT (gCons (gN 8) (gCons (gN 12) gNil))) (e := cTup (aCons (cV 8) (aCons (cV 12) aNil))) (r := r) (mk := alD) (is := ps.zip ss)
      (by
        have e1 : cV 1 r = .ok (tupI ps) := by simp [cV, h1]
        have e2 : cV j r = .ok (tupI ss) := by simp [cV, hj]
        unfold iZip
        rw [e1, e2]
        show R.ok (zipL (ps.map .int) (ss.map .int)) = _
        rw [zipL_row]) (le_SZ (by rw [List.length_zip]; omega)) (fun a => (((r.set 12 none).set 8 none).set 8 (some (.dat (.int a.1)))).set 12 (some (.dat (.int a.2)))) alD (fun a _ => ⟨by
          rw [hwipe]
          simp [alD, gT, gCons, gN, gNil, hr], tup_al (by simp [cV, hr]) (by simp [cV, hr])⟩)
    exact c1_ok (cL_ok hc) rfl
  have hlong : ∀ ss, ShB ps ss → p_longest_silence wf [rowD (ps.zip ss)] = .ok (.int (lgF ps ss)) := fun ss hs => by
    have h5 := lcm_840 (as := ps.zip ss) fun a ha => hS.b a.1 (List.of_mem_zip ha).1
    exact longest_ok hw (row_zip hS.pd hs) (by omega) (zip_ne hS.l1 hs.1)
  have hn0 : 0 ≤ (bestF ps).1 := by rw [b3]; exact long_nonneg (row_zip hS.pd b1).2 (zip_ne hS.l1 b1.1)
  have hnp : ∀ p ∈ ps, (bestF ps).1 ≤ p - 1 := fun p hp => by
    rw [b3]
    obtain ⟨j, hj, rfl⟩ := List.getElem_of_mem hp
    have hj2 : j < (bestF ps).2.length := by rw [b1.1]; exact hj
    exact long_lt (a := (ps[j], (bestF ps).2[j])) (row_zip hS.pd b1).2 (List.mem_iff_getElem.mpr ⟨j, by rw [List.length_zip]; omega, by simp⟩)
  obtain ⟨m, hm1, hm2⟩ := min_ex (ns := ps) (fun e => by rw [e] at hl1; simp at hl1)
  have hmb := hb m hm1
  have hnm := hnp m hm1
  obtain ⟨v, ev, v0, v1⟩ := drawn_ok (wf := wf) hl (k := 50) (many := 4) (by omega) (by omega) hw2 (by omega)
  obtain ⟨w, ew, w0, w1⟩ := drawn_ok (wf := wf) hl (k := 51) (many := 3) (by omega) (by omega) hw2 (by omega)
  obtain ⟨k, hk⟩ := Int.eq_ofNat_of_zero_le (a := 1 + w) (by omega)
  have hk1 : 1 ≤ k := by omega
  have hk3 : k ≤ 3 := by omega
  obtain ⟨a0, a3, af, am, an⟩ := alike_dec (1 + v) (by simp; omega) k (by simp; omega)
  have hmulk : ∀ j : Nat, 1 ≤ j → j ≤ 3 → mulD (.tuple [.int (1 + v)]) (.int j) = .ok (tupI (List.replicate j (1 + v))) := fun j h1 h2 => by
    have e1 : (1 : Int) ≤ j := by omega
    have e2 : (j : Int) ≤ 1000 := by omega
    simp [mulD, e1, e2, tupI]
  have hSk : ∀ j : Nat, 1 ≤ j → j ≤ 3 → Sp (List.replicate j (1 + v)) ∧ prodI (List.replicate j (1 + v)) ≤ 600 := fun j h1 h2 => by
    have hb : ∀ p ∈ List.replicate j (1 + v), 1 ≤ p ∧ p ≤ 5 := fun p hp => by have := List.eq_of_mem_replicate hp; omega
    refine ⟨⟨by simpa using h1, by simp; omega, fun p hp => by have := hb p hp; omega⟩, ?_⟩
    have := Int.le_trans (prod_pow (by omega) _ hb) (p5 _ (by simpa using h2))
    omega
  have hal : ∀ j : Nat, 1 ≤ j → j ≤ 3 → p_least_silence wf [tupI (List.replicate j (1 + v))] = .ok (.int (bestF (List.replicate j (1 + v))).1) := fun j h1 h2 => least_silence_ok (hSk j h1 h2).1 (hSk j h1 h2).2 hw
  have hix0 : ∀ ss : List Int, ss.head? = some 0 → ∀ r : En, r[3]? = some (some (.dat (tupI ss))) → cIxV 3 (cC (.int 0)) r = .ok (.int 0) := fun ss h r hr => by
    cases ss with
    | nil => cases h
    | cons x l =>
      cases h
      simp [cIxV, cC, hr, tupI, idxD, itemAt, L2.atI, L2.ixN]
  unfold p_law
  refine run_ex (seq_rx (set_ok eP (by simp [startE])) (seq_rx (r1 := [some (.dat (.list (ns.map .int))), some (.dat (tupI ps)), some (.dat (.int (bestF ps).1)), some (.dat (tupI (bestF ps).2)), none, none, none, none, none, none, none, none, none, none]) (par_ok (call1_ok rfl (least_silence_ok hS hm6 hw)) (call1_ok rfl (covering_ok hS hm6 hw)) (by simp [startE]) (by simp [startE])) ?_))
  refine seq_rx (r1 := [some (.dat (.list (ns.map .int))), some (.dat (tupI ps)), some (.dat (.int (bestF ps).1)), some (.dat (tupI (bestF ps).2)), some (.dat (rowD (ps.zip (bestF ps).2))), none, none, none, none, none, none, none, none, none]) (set_ok (hrow _ 3 _ rfl rfl rfl b1) (by simp)) ?_
  refine seq_rx (if_no (or_no (c2_ok (call1_ok rfl (hlong _ b1)) rfl (by rw [neD_dec, b3]; simp)) (or_no (c2_ok (a := .int 0) ?_ rfl (by rw [neD_dec]; rfl)) (c1_ok (call3_ok rfl rfl rfl (do_cover_ok hS hn0 (by omega) hw)) ?_)))) ?_
  · exact hix0 _ b2 _ rfl
  · have e : (decide (ShB ps (bestF ps).2) && decide (lgF ps (bestF ps).2 ≤ (bestF ps).1)) = true := by
      simp [b1, b3]
    rw [e]; rfl
  refine seq_rx (if_no (and_no (a := decide (0 < (bestF ps).1)) (c2_ok rfl rfl rfl) fun c => ?_)) ?_
  · simp at c
    rw [call3_ok (c := .int ((bestF ps).1 - 1)) rfl rfl (c2_ok rfl rfl rfl) (do_cover_ok hS (by omega) (by omega) hw)]
    have e : decide (lgF ps (bestF ps).2 ≤ (bestF ps).1 - 1) = false := by
      rw [b3]; simp; omega
    rw [e, Bool.and_false]
  obtain ⟨r3, e3, y5, y6, y7, rfl⟩ := for_seq (src := iRng1 (cC (.int 6))) (g := gN 5) (b := p_law_b1 wf) (ds := (rangeI 0 6).map .int) (r := [some (.dat (.list (ns.map .int))), some (.dat (tupI ps)), some (.dat (.int (bestF ps).1)), some (.dat (tupI (bestF ps).2)), some (.dat (rowD (ps.zip (bestF ps).2))), none, none, none, none, none, none, none, none, none]) (I := fun r => ∃ y5 y6 y7, r = [some (.dat (.list (ns.map .int))), some (.dat (tupI ps)), some (.dat (.int (bestF ps).1)), some (.dat (tupI (bestF ps).2)), some (.dat (rowD (ps.zip (bestF ps).2))), y5, y6, y7, none, none, none, none, none, none]) (rng1_ok rfl (by omega) (by omega))
    (fun d hd r hI => by
      obtain ⟨y5, y6, y7, rfl⟩ := hI
      obtain ⟨i, hi, rfl⟩ := List.mem_map.mp hd
      rw [mem_rangeI] at hi
      obtain ⟨ss, s1, s2, s3⟩ := comp_ex2 (vs := [13, 8]) (src := iEnum (cV 1)) (g := gT (gCons (gN 13) (gCons (gN 8) gNil))) (e := cCall 3 (p__law_drawn wf) (aCons (cV 0) (aCons (c2 addD (c2 addD (cC (.int 20)) (c2 mulD (cC (.int 4)) (cV 5))) (cV 13)) (aCons (cV 8) aNil)))) (r := [some (.dat (.list (ns.map .int))), some (.dat (tupI ps)), some (.dat (.int (bestF ps).1)), some (.dat (tupI (bestF ps).2)), some (.dat (rowD (ps.zip (bestF ps).2))), some (.dat (.int i)), y6, y7, none, none, none, none, none, none]) (mk := fun p : Int × Int => .tuple [.int p.1, .int p.2]) (mk2 := .int) (P := fun q y => 0 ≤ y ∧ y < q.2) (is := enumI 0 ps)
        (by show R.ok (enumFrom 0 (ps.map .int)) = _; rw [enum_eq]; rfl) (le_SZ (by have := congrArg List.length (enum_snd ps 0); simp at this; omega)) (fun q => [some (.dat (.list (ns.map .int))), some (.dat (tupI ps)), some (.dat (.int (bestF ps).1)), some (.dat (tupI (bestF ps).2)), some (.dat (rowD (ps.zip (bestF ps).2))), some (.dat (.int i)), y6, y7, some (.dat (.int q.2)), none, none, none, none, some (.dat (.int q.1))]) (fun q hq => ⟨rfl, by
          obtain ⟨j, hj, hq1⟩ := mem_enumI.mp hq
          have hjl : j < ps.length := by
            rcases Nat.lt_or_ge j ps.length with h | h
            · exact h
            · rw [List.getElem?_eq_none h] at hj; cases hj
          have hqb := hb q.2 (List.mem_of_getElem? hj)
          obtain ⟨y, ey, y0, y1⟩ := drawn_ok (wf := wf) hl (k := 20 + 4 * i + q.1) (many := q.2) (by omega) (by omega) hw2 (by omega)
          exact ⟨y, call3_ok rfl (c2_ok (c2_ok rfl (c2_ok rfl rfl rfl) rfl) rfl rfl) rfl ey, y0, y1⟩⟩)
      have hs : ShB ps ss := ⟨by have := congrArg List.length (enum_snd ps 0); simp at this; omega, fun a ha => by
        rw [zip_enum ps ss 0] at ha
        obtain ⟨q, hq, rfl⟩ := List.mem_map.mp ha
        exact s2 q hq⟩
      have h4 := b4 ss hs
      refine ⟨_, _, rfl, seq_ok (set_ok (d := tupI ss) (c1_ok (cL_ok s3) rfl) (by simp)) (seq_ok (r1 := [some (.dat (.list (ns.map .int))), some (.dat (tupI ps)), some (.dat (.int (bestF ps).1)), some (.dat (tupI (bestF ps).2)), some (.dat (rowD (ps.zip (bestF ps).2))), some (.dat (.int i)), some (.dat (tupI ss)), some (.dat (rowD (ps.zip ss))), none, none, none, none, none, none]) (set_ok (hrow _ 6 ss rfl rfl rfl hs) (by simp)) (seq_ok (if_no (c2_ok (call1_ok rfl (hlong ss hs)) rfl (by simp [ltD]; omega))) (seq_ok (if_no (c2_ok (call3_ok rfl rfl rfl (do_cover_ok hS hn0 (by omega) hw)) (c2_ok (call1_ok rfl (hlong ss hs)) rfl (eqD_dec _ _)) ?_)) (if_no (and_no (c2_ok (call1_ok rfl (hlong ss hs)) rfl (eqD_dec _ _)) fun c => c2_ok rfl rfl ?_))))), _, _, _, rfl⟩
      · rw [neD_bool]
        have : decide (lgF ps ss ≤ (bestF ps).1) = decide (lgF ps ss = (bestF ps).1) := by rw [decide_eq_decide]; omega
        simp [hs, this]
      · rw [ltD_tup, h4.2 (by simpa using c)]) ⟨none, none, none, rfl⟩
  refine seq_rx e3 ?_
  refine seq_rx (if_no (or_no (c2_ok rfl (c2_ok (c1_ok rfl (minD_tup (minI_eq hm1 hm2))) rfl rfl) (by simp [gtD]; omega)) (and_no (a := decide (ps.length < 3)) (c2_ok (a := .int ps.length) (by simp [cLenV, lenD]) rfl (by simp only [ltD]; congr 2; rw [decide_eq_decide]; omega)) fun c => ?_))) ?_
  · have c : ps.length < 3 := by simpa using c
    have hS2 : Sp (ps ++ [5]) := ⟨by simp, by simp; omega, fun p hp => by
      rcases List.mem_append.mp hp with hp | hp
      · exact hS.b p hp
      · simp at hp; omega⟩
    have hm7 := Int.le_trans (prod_pow (by omega) (ps ++ [5]) fun p hp => by
      rcases List.mem_append.mp hp with hp | hp
      · exact hb p hp
      · simp at hp; omega) (p5 _ (by simp; omega))
    have hle := more_le hS hl3 (q := 5) (by omega) (by omega)
    refine c2_ok (call1_ok (c2_ok rfl (b := tupI [5]) (by rfl) (d := tupI (ps ++ [5])) ?_) (least_silence_ok hS2 (by omega) hw)) rfl (by simp [gtD]; omega)
    have : ps.length + 1 ≤ SZ := le_SZ (by omega)
    simp [addD, this]
  refine seq_rx (if_no (c2_ok (call1_ok (c1_ok rfl (b := tupI ps.reverse) (by simp [revD, tupI])) (least_silence_ok (ps := ps.reverse) ?_ ?_ hw)) rfl ?_)) ?_
  · exact ⟨by simpa using hl1, by simp; omega, fun p hp => hS.b p (by simpa using hp)⟩
  · have := Int.le_trans (prod_pow (by omega) ps.reverse fun p hp => hb p (by simpa using hp)) (p5 _ (by simpa using hl3))
    omega
  · have h1 := rev_le hS
    have h2 := rev_le (ps := ps.reverse) ⟨by simpa using hl1, by simp; omega, fun p hp => hS.b p (by simpa using hp)⟩
    rw [List.reverse_reverse] at h2
    rw [neD_dec]
    simp; omega
  refine seq_rx (r1 := [some (.dat (.list (ns.map .int))), some (.dat (tupI ps)), some (.dat (.int (bestF ps).1)), some (.dat (tupI (bestF ps).2)), some (.dat (rowD (ps.zip (bestF ps).2))), y5, y6, y7, some (.dat (.int (1 + v))), some (.dat (.int k)), none, none, none, none]) (par_ok (d := .int (1 + v)) (d2 := .int k) (c2_ok rfl (call3_ok rfl rfl rfl ev) rfl) (c2_ok rfl (call3_ok rfl rfl rfl ew) (by rw [← hk]; rfl)) (by simp) (by simp)) ?_
  refine seq_rx (r1 := [some (.dat (.list (ns.map .int))), some (.dat (tupI ps)), some (.dat (.int (bestF ps).1)), some (.dat (tupI (bestF ps).2)), some (.dat (rowD (ps.zip (bestF ps).2))), y5, y6, y7, some (.dat (.int (1 + v))), some (.dat (.int k)), some (.dat (.int (bestF (List.replicate k (1 + v))).1)), none, none, none]) (set_ok (call1_ok (c2_ok (a := .tuple [.int (1 + v)]) (by rfl) rfl (hmulk k hk1 hk3)) (hal k hk1 hk3)) (by simp)) ?_
  refine seq_rx (if_no (c2_ok (call2_ok rfl rfl (fewest_ok (by omega) (by omega) a0 (by omega))) rfl (by simp only [gtD]; congr 2; simp; omega))) ?_
  refine seq_rx (if_no (and_no (a := decide (1 < k)) (c2_ok rfl rfl (by simp only [gtD]; congr 2; rw [decide_eq_decide]; omega)) fun c => ?_)) ?_
  · have c : 1 < k := by simpa using c
    refine c2_ok (call1_ok (c2_ok (a := .tuple [.int (1 + v)]) (by rfl) (c2_ok rfl rfl (d := .int ((k - 1 : Nat) : Int)) ?_) (hmulk (k - 1) (by omega) (by omega))) (hal (k - 1) (by omega) (by omega))) rfl ?_
    · show R.ok (PyData.int ((k : Int) - 1)) = _
      rw [Int.ofNat_sub (by omega)]; rfl
    · have := am c
      simp [ltD]; omega
  obtain ⟨r8, e8, y11, rfl⟩ := for_seq (src := iRng1 (cV 8)) (g := gN 11) (b := p_law_b2 wf) (ds := (rangeI 0 (1 + v)).map .int) (r := [some (.dat (.list (ns.map .int))), some (.dat (tupI ps)), some (.dat (.int (bestF ps).1)), some (.dat (tupI (bestF ps).2)), some (.dat (rowD (ps.zip (bestF ps).2))), y5, y6, y7, some (.dat (.int (1 + v))), some (.dat (.int k)), some (.dat (.int (bestF (List.replicate k (1 + v))).1)), none, none, none]) (I := fun r => ∃ y11, r = [some (.dat (.list (ns.map .int))), some (.dat (tupI ps)), some (.dat (.int (bestF ps).1)), some (.dat (tupI (bestF ps).2)), some (.dat (rowD (ps.zip (bestF ps).2))), y5, y6, y7, some (.dat (.int (1 + v))), some (.dat (.int k)), some (.dat (.int (bestF (List.replicate k (1 + v))).1)), y11, none, none]) (rng1_ok rfl (by omega) (by omega))
    (fun d hd r hI => by
      obtain ⟨y11, rfl⟩ := hI
      obtain ⟨i, hi, rfl⟩ := List.mem_map.mp hd
      rw [mem_rangeI] at hi
      refine ⟨_, _, rfl, if_no (c2_ok (c2_ok (call2_ok rfl rfl (fewest_ok (by omega) (by omega) hi.1 (by omega))) rfl rfl) (c2_ok rfl rfl rfl) ?_), _, rfl⟩
      have := an i (by simp; omega) hi.2
      rw [neD_bool]
      have e : decide ((1 + v + i) / (i + 1) ≤ (k : Int)) = decide ((bestF (List.replicate k (1 + v))).1 ≤ i) := by rw [decide_eq_decide]; exact this
      rw [e]; simp) ⟨none, rfl⟩
  refine seq_rx e8 ?_
  refine ⟨_, ret_ok (and_ok (a := true) (b := true) (c2_ok (call2_ok rfl rfl (fewest_ok (by omega) (by omega) (by omega) (by omega))) rfl ?_) fun _ => c2_ok (call2_ok rfl rfl (fewest_ok (by omega) (by omega) (by omega) (by omega))) rfl ?_)⟩
  · rw [eqD_dec]; rfl
  · have : (1 + v + 60) / (60 + 1) = 1 := by omega
    rw [eqD_dec, this]; rfl
end K58
/-! Rt, part B1: data on the abstract heap, what is kept, the readings of data. -/
namespace Rt
open PySem PySem.Spec PyProof.Rows L2

mutual
inductive Dd (H : Hp) : V → PyData → Prop
  | non : Dd H .non .none
  | bl (b : Bool) : Dd H (.bl b) (.bool b)
  | int (i : Int) : Dd H (.int i) (.int i)
  | str (x : Str) : Dd H (.str x) (.str x)
  | lst {a : Addr} {xs : List V} {ds : List PyData} : Rd H a (.lst xs) → DdA H xs ds → Dd H (.ref a) (.list ds)
  | tup {a : Addr} {xs : List V} {ds : List PyData} : Rd H a (.tup xs) → DdA H xs ds → Dd H (.ref a) (.tuple ds)
inductive DdA (H : Hp) : List V → List PyData → Prop
  | nil : DdA H [] []
  | cons {v : V} {vs : List V} {d : PyData} {ds : List PyData} : Dd H v d → DdA H vs ds → DdA H (v :: vs) (d :: ds)
end
theorem Rd.mono {H H' : Hp} {a : Addr} {u : HO} (s : Same H H') (r : Rd H a u) : Rd H' a u := by
  rcases r with r | ⟨o, r⟩
  · exact .inl (s _ _ r)
  · exact .inr ⟨o, s _ _ r⟩
mutual
theorem Dd.mono {H H' : Hp} (s : Same H H') : ∀ (d : PyData) (v : V), Dd H v d → Dd H' v d
  | .none, _, h => by cases h; exact .non
  | .bool _, _, h => by cases h; exact .bl _
  | .int _, _, h => by cases h; exact .int _
  | .str _, _, h => by cases h; exact .str _
  | .list ds, _, h => by cases h with | lst r a => exact .lst (Rd.mono s r) (DdA.mono s ds _ a)
  | .tuple ds, _, h => by cases h with | tup r a => exact .tup (Rd.mono s r) (DdA.mono s ds _ a)
  | .dict _, _, h => by cases h
theorem DdA.mono {H H' : Hp} (s : Same H H') : ∀ (ds : List PyData) (vs : List V), DdA H vs ds → DdA H' vs ds
  | [], _, h => by cases h; exact .nil
  | d :: ds, _, h => by cases h with | cons a b => exact .cons (Dd.mono s d _ a) (DdA.mono s ds _ b)
end
mutual
theorem Dd.dp {K : PySem.W.Frag} {H : Hp} : ∀ (d : PyData) (v : V), Dd H v d → Dp K H v d
  | .none, _, h => by cases h; exact .non
  | .bool _, _, h => by cases h; exact .bl _
  | .int _, _, h => by cases h; exact .int _
  | .str _, _, h => by cases h; exact .str _
  | .list ds, _, h => by cases h with | lst r a => exact .lst (.inl r) (DdA.dp ds _ a)
  | .tuple ds, _, h => by cases h with | tup r a => exact .tup (.inl r) (DdA.dp ds _ a)
  | .dict _, _, h => by cases h
theorem DdA.dp {K : PySem.W.Frag} {H : Hp} : ∀ (ds : List PyData) (vs : List V), DdA H vs ds → DpAll K H vs ds
  | [], _, h => by cases h; exact .nil
  | d :: ds, _, h => by cases h with | cons a b => exact .cons (Dd.dp d _ a) (DdA.dp ds _ b)
end
theorem DdA.len {H : Hp} : ∀ {ds : List PyData} {vs : List V}, DdA H vs ds → vs.length = ds.length
  | [], _, h => by cases h; rfl
  | d :: ds, _, h => by cases h with | cons a b => simp [DdA.len b]
theorem DdA.get {H : Hp} : ∀ {ds : List PyData} {vs : List V} {i : Nat} {d : PyData}, DdA H vs ds → ds[i]? = some d → ∃ v, vs[i]? = some v ∧ Dd H v d
  | [], _, _, _, h, e => by simp at e
  | d :: ds, _, 0, _, h, e => by
    cases h with | cons a b => simp at e; subst e; exact ⟨_, rfl, a⟩
  | d :: ds, _, i + 1, _, h, e => by
    cases h with | cons a b => exact DdA.get (i := i) b (by simpa using e)
theorem DdA.getV {H : Hp} : ∀ {ds : List PyData} {vs : List V} {i : Nat} {v : V}, DdA H vs ds → vs[i]? = some v → ∃ d, ds[i]? = some d ∧ Dd H v d
  | [], _, _, _, h, e => by cases h; simp at e
  | d :: ds, _, 0, _, h, e => by
    cases h with | cons a b => simp at e; subst e; exact ⟨_, rfl, a⟩
  | d :: ds, _, i + 1, _, h, e => by
    cases h with | cons a b => exact DdA.getV (i := i) b (by simpa using e)
theorem DdA.app {H : Hp} : ∀ {ds es : List PyData} {vs us : List V}, DdA H vs ds → DdA H us es → DdA H (vs ++ us) (ds ++ es)
  | [], _, _, _, h, q => by cases h; exact q
  | d :: ds, _, _, _, h, q => by cases h with | cons a b => exact .cons a (DdA.app b q)
theorem DdA.one {H : Hp} {v : V} {d : PyData} (h : Dd H v d) : DdA H [v] [d] := .cons h .nil
theorem DdA.take {H : Hp} : ∀ {ds : List PyData} {vs : List V} (n : Nat), DdA H vs ds → DdA H (vs.take n) (ds.take n)
  | [], _, n, h => by cases h; simpa using DdA.nil
  | d :: ds, _, 0, h => by simpa using DdA.nil
  | d :: ds, _, n + 1, h => by cases h with | cons a b => exact .cons a (DdA.take n b)
theorem DdA.drop {H : Hp} : ∀ {ds : List PyData} {vs : List V} (n : Nat), DdA H vs ds → DdA H (vs.drop n) (ds.drop n)
  | [], _, n, h => by cases h; simpa using DdA.nil
  | d :: ds, _, 0, h => h
  | d :: ds, _, n + 1, h => by cases h with | cons a b => exact DdA.drop n b
theorem DdA.rep {H : Hp} {ds : List PyData} {vs : List V} (h : DdA H vs ds) : ∀ n : Nat, DdA H (List.replicate n vs).flatten (List.replicate n ds).flatten
  | 0 => .nil
  | n + 1 => by
    rw [List.replicate_succ, List.replicate_succ, List.flatten_cons, List.flatten_cons]
    exact h.app (DdA.rep h n)
theorem DdA.set {H : Hp} {v : V} {d : PyData} (hd : Dd H v d) : ∀ {ds : List PyData} {vs : List V} (n : Nat), DdA H vs ds → DdA H (vs.set n v) (ds.set n d)
  | [], _, n, h => by cases h; exact .nil
  | _ :: ds, _, 0, h => by cases h with | cons a b => exact .cons hd b
  | _ :: ds, _, n + 1, h => by cases h with | cons a b => exact .cons a (DdA.set hd n b)
theorem DdA.ints {H : Hp} : ∀ {ds : List PyData} {vs : List V} {ns : List Int}, DdA H vs ds → intsOf ds = some ns → vs = ns.map V.int
  | [], _, ns, h, e => by
    cases h
    have e : [] = ns := Option.some.inj e
    subst e; rfl
  | d :: ds, _, ns, h, e => by
    cases h with
    | cons a b =>
      cases d <;> try (simp [intsOf] at e; done)
      cases a
      rename_i i
      cases q : intsOf ds with
      | none => simp [intsOf, q] at e
      | some ms =>
        simp [intsOf, q] at e
        subst e
        rw [DdA.ints b q]; rfl
theorem DdA.bools {H : Hp} : ∀ {ds : List PyData} {vs : List V} {ns : List Bool}, DdA H vs ds → boolsOf ds = some ns → vs = ns.map V.bl
  | [], _, ns, h, e => by
    cases h
    have e : [] = ns := Option.some.inj e
    subst e; rfl
  | d :: ds, _, ns, h, e => by
    cases h with
    | cons a b =>
      cases d <;> try (simp [boolsOf] at e; done)
      cases a
      rename_i i
      cases q : boolsOf ds with
      | none => simp [boolsOf, q] at e
      | some ms =>
        simp [boolsOf, q] at e
        subst e
        rw [DdA.bools b q]; rfl

/-! ### what grows -/
structure Ext (F H F' H' : Hp) : Prop where
  ff : Same F F'
  hh : Same H H'
  sub : Same F' H'
  out : ∀ a, H a ≠ none → F a = none → F' a = none
theorem Ext.refl {F H : Hp} (s : Same F H) : Ext F H F H := ⟨Same.refl _, Same.refl _, s, fun _ _ h => h⟩
theorem Same.some_ne {H H' : Hp} (s : Same H H') {a : Addr} (h : H a ≠ none) : H' a ≠ none := by
  cases q : H a with
  | none => exact absurd q h
  | some o => rw [s a o q]; simp
theorem Ext.trans {F H F1 H1 F2 H2 : Hp} (a : Ext F H F1 H1) (b : Ext F1 H1 F2 H2) : Ext F H F2 H2 :=
  ⟨a.ff.trans b.ff, a.hh.trans b.hh, b.sub, fun x h n => b.out x (Same.some_ne a.hh h) (a.out x h n)⟩
theorem same_upd {H : Hp} {p : Addr} {o : HO} (h : H p = none) : Same H (upd H p o) := fun b x e => by
  rw [upd_ne (ne_of_none e h)]
  exact e
theorem Ext.new {F H : Hp} {p : Addr} {o : HO} (s : Same F H) (h : H p = none) : Ext F H (upd F p o) (upd H p o) := by
  refine ⟨same_upd (Same.free s h), same_upd h, fun b x e => ?_, fun a q n => ?_⟩
  · by_cases hb : b = p
    · subst hb; rw [upd_same] at e ⊢; exact e
    · rw [upd_ne hb] at e ⊢; exact s _ _ e
  · have hne : a ≠ p := fun e => q (by rw [e]; exact h)
    rw [upd_ne hne]; exact n
/-- a new thing that stays out of what is frozen -/
theorem Ext.newO {F H : Hp} {p : Addr} {o : HO} (s : Same F H) (h : H p = none) : Ext F H F (upd H p o) :=
  ⟨Same.refl _, same_upd h, s.trans (same_upd h), fun _ _ n => n⟩

/-! ### slots -/
/-- a dict's entries by its keys: all values True -/
def dkO (ks : List Int) : HO := .dK (ks.map fun k => ((Sum.inl k : Key), V.bl true))
def SlOk (F H : Hp) (v : V) : Sl → Prop
  | .dat d => Dd F v d
  | .dct ks => ∃ a, v = .ref a ∧ F a = none ∧ H a = some (dkO ks)
  | .dfz ks => ∃ a od, v = .ref a ∧ F a = some (.frz od (dkO ks))
  | .own ds => ∃ a vs, v = .ref a ∧ F a = none ∧ H a = some (.lst vs) ∧ DdA F vs ds
def isOwn : Option (Option Sl) → Bool
  | some (some (.own _)) => true
  | some (some (.dct _)) => true
  | _ => false
structure Rel (F H : Hp) (σ : L2.St) (r : En) : Prop where
  sub : Same F H
  len : r.length = σ.length
  at_ : ∀ (i : Nat) (s : Sl), r[i]? = some (some s) → ∃ v, σ[i]? = some (some v) ∧ SlOk F H v s
  apart : ∀ (i j : Nat) (v : V), i ≠ j → σ[i]? = some (some v) → σ[j]? = some (some v) → isOwn r[i]? = true → isOwn r[j]? = true → False
theorem SlOk.ext {F H F' H' : Hp} {v : V} {s : Sl} (e : Ext F H F' H') (h : SlOk F H v s) : SlOk F' H' v s := by
  cases s with
  | dat d => exact Dd.mono e.ff _ _ h
  | own ds =>
    obtain ⟨a, vs, rfl, hf, hh, hd⟩ := h
    exact ⟨a, vs, rfl, e.out a (by rw [hh]; simp) hf, e.hh _ _ hh, DdA.mono e.ff _ _ hd⟩
  | dct ks =>
    obtain ⟨a, rfl, hf, hh⟩ := h
    exact ⟨a, rfl, e.out a (by rw [hh]; simp) hf, e.hh _ _ hh⟩
  | dfz ks =>
    obtain ⟨a, od, rfl, hf⟩ := h
    exact ⟨a, od, rfl, e.ff _ _ hf⟩
theorem Rel.ext {F H F' H' : Hp} {σ : L2.St} {r : En} (x : Rel F H σ r) (e : Ext F H F' H') : Rel F' H' σ r :=
  ⟨e.sub, x.len, fun i s q => let ⟨v, h1, h2⟩ := x.at_ i s q; ⟨v, h1, h2.ext e⟩, x.apart⟩

/-! ### readings of data -/
section
variable (mg : Str → Option Value) (W : WX)
def Want {α : Type} (σ : L2.St) (F H : Hp) (x : R α) (k : α → Prop) : Prop := match x with
  | .ok a => k a
  | .exc c => ∀ C F' H', Ext F H F' H' → mg c = some (.ref C) → W (.ref C) none σ H'
  | .bad => False
def tD (f : Ex) : TE := fun σ H Q => ∃ r F, Rel F H σ r ∧ Want mg W σ F H (f r) fun d => ∀ v F' H', Ext F H F' H' → Dd F' v d → Q v H'
def tDT (f : En → R Bool) : TT := fun σ H Q => ∃ r F, Rel F H σ r ∧ Want mg W σ F H (f r) fun b => ∀ F' H', Ext F H F' H' → Q b H'
def tDA (f : Exl) : TA := fun σ H Q => ∃ r F, Rel F H σ r ∧ Want mg W σ F H (f r) fun ds => ∀ vs F' H', Ext F H F' H' → DdA F' vs ds → Q vs H'
/-- a new list, not frozen yet -/
def tDL (f : Exl) : TE := fun σ H Q => ∃ r F, Rel F H σ r ∧ Want mg W σ F H (f r) fun ds => ∀ a vs F' H', Ext F H F' H' → H a = none → F' a = none → H' a = some (.lst vs) → DdA F' vs ds → Q (.ref a) H'
end
section
variable {mg : Str → Option Value} {W : WX} {σ : L2.St} {F H F1 H1 : Hp} {r : En}
theorem Want.mono {α : Type} {x : R α} {k k' : α → Prop} (e : Ext F H F1 H1) (h : Want mg W σ F H x k) (hk : ∀ a, k a → k' a) : Want mg W σ F1 H1 x k' := by
  cases x with
  | ok a => exact hk a h
  | exc c => exact fun C F' H' e' m => h C F' H' (e.trans e') m
  | bad => exact h
theorem Want.at {α : Type} {x : R α} {k : α → Prop} (e : Ext F H F1 H1) (h : Want mg W σ F H x k) : Want mg W σ F1 H1 x k := h.mono e fun _ q => q
/-- one step of a reading: what the rest wants, behind it -/
theorem tD_seq {α : Type} {f : Ex} {g : PyData → R α} {k : α → Prop} {Q : VK} (rel : Rel F H σ r) (w : Want mg W σ F H ((f r).bind g) k)
    (h : ∀ d v F1 H1, f r = .ok d → Ext F H F1 H1 → Rel F1 H1 σ r → Dd F1 v d → Want mg W σ F1 H1 (g d) k → Q v H1) : tD mg W f σ H Q := by
  refine ⟨r, F, rel, ?_⟩
  cases q : f r with
  | ok d =>
    rw [q] at w
    exact fun v F1 H1 e hd => h d v F1 H1 q e (rel.ext e) hd (Want.at e w)
  | exc c => rw [q] at w; exact w
  | bad => rw [q] at w; exact w
theorem tDT_seq {α : Type} {f : En → R Bool} {g : Bool → R α} {k : α → Prop} {Q : Bool → Hp → Prop} (rel : Rel F H σ r) (w : Want mg W σ F H ((f r).bind g) k)
    (h : ∀ b F1 H1, f r = .ok b → Ext F H F1 H1 → Rel F1 H1 σ r → Want mg W σ F1 H1 (g b) k → Q b H1) : tDT mg W f σ H Q := by
  refine ⟨r, F, rel, ?_⟩
  cases q : f r with
  | ok d =>
    rw [q] at w
    exact fun F1 H1 e => h d F1 H1 q e (rel.ext e) (Want.at e w)
  | exc c => rw [q] at w; exact w
  | bad => rw [q] at w; exact w
theorem tDA_seq {α : Type} {f : Exl} {g : List PyData → R α} {k : α → Prop} {Q : List V → Hp → Prop} (rel : Rel F H σ r) (w : Want mg W σ F H ((f r).bind g) k)
    (h : ∀ ds vs F1 H1, f r = .ok ds → Ext F H F1 H1 → Rel F1 H1 σ r → DdA F1 vs ds → Want mg W σ F1 H1 (g ds) k → Q vs H1) : tDA mg W f σ H Q := by
  refine ⟨r, F, rel, ?_⟩
  cases q : f r with
  | ok d =>
    rw [q] at w
    exact fun v F1 H1 e hd => h d v F1 H1 q e (rel.ext e) hd (Want.at e w)
  | exc c => rw [q] at w; exact w
  | bad => rw [q] at w; exact w
theorem Want.nox {α : Type} {x : R α} {k : α → Prop} (w : Want mg W σ F H x.nox k) : ∃ a, x = .ok a ∧ k a := by
  cases x with
  | ok a => exact ⟨a, rfl, w⟩
  | exc c => exact w.elim
  | bad => exact w.elim
end
theorem PE.wk {X : Cx} {e : Expr} {t t' : TE} (h : PE X e t) (w : ∀ σ H Q, t' σ H Q → t σ H Q) : PE X e t' := ⟨fun pins s σ H Q I q => h.run pins s σ H Q I (w _ _ _ q)⟩
theorem PT.wk {X : Cx} {e : Expr} {t t' : TT} (h : PT X e t) (w : ∀ σ H Q, t' σ H Q → t σ H Q) : PT X e t' := ⟨fun pins s σ H Q I q => h.run pins s σ H Q I (w _ _ _ q)⟩
theorem PA.wk {X : Cx} {e : List Expr} {t t' : TA} (h : PA X e t) (w : ∀ σ H Q, t' σ H Q → t σ H Q) : PA X e t' := ⟨fun pos pins s σ H Q I q => h.run pos pins s σ H Q I (w _ _ _ q)⟩
theorem PS.wk {X : Cx} {e : Stmt} {t t' : TS} (h : PS X e t) (w : ∀ D σ H, t' D σ H → t D σ H) : PS X e t' := ⟨fun pins s σ H D I q => h.run pins s σ H D I (w _ _ _ q)⟩
theorem PSs.wk {X : Cx} {e : List Stmt} {t t' : TS} (h : PSs X e t) (w : ∀ D σ H, t' D σ H → t D σ H) : PSs X e t' := ⟨fun pins s σ H D I q => h.run pins s σ H D I (w _ _ _ q)⟩
theorem PE.no {X : Cx} {e : Expr} {mg : Str → Option Value} {W : WX} : PE X e (tD mg W cBad) := ⟨fun pins s σ H Q I q => by obtain ⟨_, _, _, w⟩ := q; exact w.elim⟩
end Rt
/-! Rt, part B2: operators, comparisons, subscripts, built-in calls, on data. -/
namespace Rt
open PySem PySem.Spec PyProof.Rows L2

def rD2 (o : PyData → PyData → R PyData) : R2 := fun x y H Q => ∃ F d e z, Same F H ∧ Dd F x d ∧ Dd F y e ∧ o d e = .ok z ∧ ∀ v F' H', Ext F H F' H' → Dd F' v z → Q v H'
def rD1 (o : PyData → R PyData) : V → Hp → VK → Prop := fun x H Q => ∃ F d z, Same F H ∧ Dd F x d ∧ o d = .ok z ∧ ∀ v F' H', Ext F H F' H' → Dd F' v z → Q v H'
def rDc1 (o : PyData → R PyData) : List V → Hp → VK → Prop := fun xs H Q => ∃ x, xs = [x] ∧ rD1 o x H Q
def rDc2 (o : PyData → PyData → R PyData) : List V → Hp → VK → Prop := fun xs H Q => ∃ x y, xs = [x, y] ∧ rD2 o x y H Q
section
variable {X : Cx} {pins : List (Addr × Obj)} {σ : L2.St} {H F : Hp} {s : Shared}
theorem lstR {l : Addr} {xs : List V} (I : Inv X pins σ H s) (hH : Rd H l (.lst xs)) : xs.length ≤ sizeLine ∧ ∃ (its : List Value) (n : Nat), Vals xs its ∧ xs.length = its.length ∧ s.heap.get? l = some { cls := .type "list", data := .seq its.toArray n } := by
  obtain ⟨z, its, n, rv, e⟩ := hH.ok I.hok
  exact ⟨z, its, n, rv, rv.length, e⟩
/-- list + list, either one frozen or not -/
theorem cat_rd {l b : Addr} {xs zs : List V} {Q : VK} (I : Inv X pins σ H s) (h1 : Rd H l (.lst xs)) (h2 : Rd H b (.lst zs)) (hz : xs.length + zs.length ≤ sizeLine)
    (q : ∀ p, H p = none → Q (.ref p) (upd H p (.lst (xs ++ zs)))) : wpAny (model X.prog X.w) X.A (binaryOp .Add (.ref l) (.ref b)) (EP X pins σ Q) X.xe s := by
  obtain ⟨_, its, n, rv, hl, e⟩ := lstR I h1
  obtain ⟨_, jts, m, rw', hm, e2⟩ := lstR I h2
  refine PySem.P.add_list e e2 ?_ (by rw [List.size_toArray, List.size_toArray]; omega)
  rw [show its.toArray ++ jts.toArray = (its ++ jts).toArray by simp]
  exact ⟨.ref _, _, I.lnew (t' := s.toks) (rv.append rw') (by rw [List.length_append]; omega), rfl, q _ I.fresh⟩
/-- extend by a list, the latter frozen or not -/
theorem ext_rd {l b : Addr} {xs zs : List V} {Q : VK} (I : Inv X pins σ H s) (hH : H l = some (.lst xs)) (h2 : Rd H b (.lst zs)) (hz : xs.length + zs.length ≤ sizeLine)
    (q : Q .non (upd H l (.lst (xs ++ zs)))) : wpAny (model X.prog X.w) X.A (call (.builtin "list.extend") [.ref l, .ref b]) (EP X pins σ Q) X.xe s := by
  obtain ⟨_, its, n, rv, hl, e⟩ := I.lstM hH
  obtain ⟨_, jts, m, rw', hm, e2⟩ := lstR I h2
  have c1 : its.toArray.size + jts.toArray.size ≤ sizeLine := by rw [List.size_toArray, List.size_toArray]; omega
  have c2 : ¬ (!its.toArray.isEmpty && Builtin.List.listTooLong (its.toArray.size + jts.toArray.size)) = true := by
    rw [notLongL c1, Bool.and_false]; decide
  refine call_meets F.slot_list_extend ⟨_, e, rfl⟩ F.entry_list_extend (F.args_list_extend_2 _ _)
    (AutoSeq1.list_extend_list_list_0 l its.toArray n b jts.toArray m c2 (by rw [List.size_toArray]; omega) (by omega)) ⟨e, e2, ?_⟩
  exact ⟨.non, _, I.lset (its' := its ++ jts) hH e (by simp) (rv.append rw') (by rw [List.length_append]; omega), rfl, q⟩
/-- list * int, the list frozen or not -/
theorem rep_rd {l : Addr} {xs : List V} {k : Int} {t : Tok} {Q : VK} (I : Inv X pins σ H s) (hH : Rd H l (.lst xs)) (h1 : -(2 ^ 63) ≤ k) (h2 : k < 2 ^ 63) (hz : xs.length * k.toNat ≤ sizeLine)
    (q : ∀ p, H p = none → Q (.ref p) (upd H p (.lst (List.replicate k.toNat xs).flatten))) : wpAny (model X.prog X.w) X.A (binaryOp .Mult (.ref l) (.int k t)) (EP X pins σ Q) X.xe s := by
  obtain ⟨_, its, n, rv, hl, e⟩ := lstR I hH
  have c1 : its.toArray.size * k.toNat ≤ sizeLine := by
    rw [List.size_toArray, ← hl]; exact hz
  have c2 : ¬ its.toArray.size * k.toNat > (2 ^ 63 - 1) / 8 := by
    have : (sizeLine : Nat) ≤ (2 ^ 63 - 1) / 8 := by decide
    omega
  have c3 : ¬ (!Builtin.List.listFitsIndex k) = true := by
    rw [fitsIndex_both h1 h2]; decide
  have c4 : ¬ Builtin.List.listTooLong (its.toArray.size * k.toNat) = true := by
    rw [notLongL c1]; decide
  have f0 : ∀ m : Nat, List.foldl (fun x1 x2 => x1 ++ x2) #[] (List.replicate m its.toArray) = (List.replicate m its).flatten.toArray := fun m => by
    simpa using foldl_rep its m []
  have c5 : List.foldl (fun x1 x2 => x1 ++ x2) #[] (List.replicate (if its.toArray.isEmpty = true then 0 else k.toNat) its.toArray) = (List.replicate k.toNat its).flatten.toArray := by
    rw [f0]
    cases its with
    | nil => simp
    | cons a r' => simp
  have w1 := AutoListH.list___mul___list_int_3 l its.toArray n k t c3 c2 c4
  refine wpAny_binaryOp_repeat_ref (T := "list") (U := "int") (by decide) ⟨_, e, rfl⟩ (fun s' => typeIs_int s' k t) noFill_list_mul F.fills_int_mul F.slot_int_rmul repeat_list F.slot_int_index.lookup
    (call_meets F.slot_int_rmul (typeIs_int s k t) F.entry_int_rmul (F.args_int_rmul_2 _ _) (int___rmul___int_list k t l its.toArray n)
      ⟨e, rfl, ⟨_, e, rfl⟩, call_meets F.slot_list_mul ⟨_, e, rfl⟩ F.entry_list_mul (F.args_list_mul_2 _ _) w1 ⟨e, ?_⟩⟩)
  rw [c5]
  exact ⟨.ref _, _, I.lnew (t' := s.toks) (rv.rep k.toNat) (by rw [PyProof.Rows.lm_len_rep_flat, Nat.mul_comm]; exact hz), rfl, q _ I.fresh⟩
end
theorem sz_eq : (SZ : Nat) = sizeLine := by rfl
section
variable {X : Cx}
theorem dop_add : OpR X (binaryOp .Add) (rD2 addD) := by
  intro pins s σ H x y v u Q I rx ry h
  obtain ⟨F, d, e, z, sub, hd, he, ho, q⟩ := h
  cases hd with
  | int i =>
    cases he with
    | int j =>
      simp only [addD, R.ok.injEq] at ho; subst ho
      exact op_add pins s σ H _ _ v u Q I rx ry ⟨i, j, rfl, rfl, q _ F H (Ext.refl sub) (.int _)⟩
    | _ => simp [addD] at ho
  | lst h1 a1 =>
    cases he with
    | lst h2 a2 =>
      simp only [addD] at ho
      split at ho
      · rename_i hle
        simp only [R.ok.injEq] at ho; subst ho
        cases rx; cases ry
        refine cat_rd I (Rd.mono sub h1) (Rd.mono sub h2) (by rw [a1.len, a2.len]; exact hle) fun p np => ?_
        exact q _ _ _ (Ext.new sub np) (.lst (Rd.of upd_same) ((DdA.mono (same_upd (Same.free sub np)) _ _ a1).app (DdA.mono (same_upd (Same.free sub np)) _ _ a2)))
      · cases ho
    | _ => simp [addD] at ho
  | tup h1 a1 =>
    cases he with
    | tup h2 a2 =>
      simp only [addD] at ho
      split at ho
      · rename_i hle
        simp only [R.ok.injEq] at ho; subst ho
        refine op_catA pins s σ H _ _ v u Q I rx ry ⟨_, _, _, _, rfl, rfl, .inl (Rd.mono sub h1), .inl (Rd.mono sub h2), by rw [a1.len, a2.len]; exact hle, fun e => ?_, fun _ e => ?_, fun _ _ p np => ?_⟩
        · subst e; cases a1
          exact q _ F H (Ext.refl sub) (.tup h2 a2)
        · subst e; cases a2
          rw [List.append_nil] at q
          exact q _ F H (Ext.refl sub) (.tup h1 a1)
        · exact q _ _ _ (Ext.new sub np) (.tup (Rd.of upd_same) ((DdA.mono (same_upd (Same.free sub np)) _ _ a1).app (DdA.mono (same_upd (Same.free sub np)) _ _ a2)))
      · cases ho
    | _ => simp [addD] at ho
  | _ => cases he <;> simp [addD] at ho
theorem dop_sub : OpR X (binaryOp .Sub) (rD2 subD) := by
  intro pins s σ H x y v u Q I rx ry h
  obtain ⟨F, d, e, z, sub, hd, he, ho, q⟩ := h
  cases hd <;> cases he <;> simp [subD] at ho
  subst ho
  exact op_sub pins s σ H _ _ v u Q I rx ry ⟨_, _, rfl, rfl, q _ F H (Ext.refl sub) (.int _)⟩
theorem tuple_mul_one (l : Addr) (items : Array Value) (n : Nat) (dd : Option Addr) (sl : Array (Option Value)) (u : Tok) :
    Meets (Builtin.«tuple.__mul__» ⟨[.ref l, .int 1 u], []⟩) (fun _ R s => s.heap.get? l = some { cls := .type "tuple", dict := dd, data := .seq items n, slots := sl } ∧ R (.ok (.ret (Value.ref l))) s) :=
  .of_wp fun prog w A R s h => by
    obtain ⟨hp, g, d, tk, os⟩ := s
    obtain ⟨hl, h⟩ := h
    have f1 := AutoSeq1.idx_int
    wp_walk using AutoSeq1.wpAny_loadPart' hl
    exact ⟨_, rfl, h⟩
theorem op_mulT1 {pins : List (Addr × Obj)} {s : Shared} {σ : L2.St} {H : Hp} {l : Addr} {xs : List V} {t : Tok} {Q : VK} (I : Inv X pins σ H s) (hT : SqT X.K H l xs) (q : Q (.ref l) H) : wpAny (model X.prog X.w) X.A (binaryOp .Mult (.ref l) (.int 1 t)) (EP X pins σ Q) X.xe s := by
  obtain ⟨its, r, ⟨⟨cls, dd, data, sl⟩, ho, hc, n, hd⟩, hs⟩ := I.tuple hT
  simp only at hc hd
  subst hc hd
  refine wpAny_binaryOp_repeat_ref (T := "tuple") (U := "int") (by decide) ⟨_, ho, rfl⟩ (fun s' => typeIs_int s' 1 t) noFill_tuple_mul F.fills_int_mul F.slot_int_rmul repeat_tuple F.slot_int_index.lookup
    (call_meets F.slot_int_rmul (typeIs_int s 1 t) F.entry_int_rmul (F.args_int_rmul_2 _ _) (int_rmul_tuple 1 t l its.toArray n dd sl)
      ⟨ho, rfl, ⟨_, ho, rfl⟩, call_meets F.slot_tuple_mul ⟨_, ho, rfl⟩ F.entry_tuple_mul (F.args_tuple_mul_2 _ _) (tuple_mul_one l its.toArray n dd sl t) ⟨ho, ?_⟩⟩)
  exact ⟨.ref l, H, I, rfl, q⟩
theorem inB_iff {a : Int} (h : inB a = true) : -(2 ^ 64) < a ∧ a < 2 ^ 64 := by
  unfold inB B64 at h
  simp only [Bool.and_eq_true, decide_eq_true_eq] at h
  omega
theorem dop_mul : OpR X (binaryOp .Mult) (rD2 mulD) := by
  intro pins s σ H x y v u Q I rx ry h
  obtain ⟨F, d, e, z, sub, hd, he, ho, q⟩ := h
  cases he with
  | bl bb =>
    cases hd with
    | lst h1 a1 =>
      simp only [mulD, R.ok.injEq] at ho; subst ho
      refine op_mul_lb pins s σ H _ _ v u Q I rx ry ⟨_, _, bb, rfl, rfl, .inl (Rd.mono sub h1), fun p np => ?_⟩
      refine q _ _ _ (Ext.new sub np) (.lst (Rd.of upd_same) ?_)
      cases bb
      · exact .nil
      · exact DdA.mono (same_upd (Same.free sub np)) _ _ a1
    | _ => simp [mulD] at ho
  | int j =>
    cases hd with
    | int i =>
      simp only [mulD] at ho
      split at ho
      · rename_i hb
        simp only [R.ok.injEq] at ho; subst ho
        refine op_mul pins s σ H _ _ v u Q I rx ry ⟨i, j, rfl, rfl, ?_, q _ F H (Ext.refl sub) (.int _)⟩
        rcases Bool.or_eq_true_iff.mp hb with hb | hb
        · exact .inl (inB_iff hb)
        · exact .inr (inB_iff hb)
      · cases ho
    | lst h1 a1 =>
      simp only [mulD] at ho
      split at ho
      · rename_i hb
        simp only [Bool.and_eq_true, decide_eq_true_eq] at hb
        simp only [R.ok.injEq] at ho; subst ho
        obtain ⟨⟨b1, b2⟩, b3⟩ := hb
        have hlen := a1.len
        rename_i xs ds
        have hz : xs.length * j.toNat ≤ sizeLine := by
          have h3 : xs.length * j.toNat ≤ 1000 * 1000 := Nat.mul_le_mul (by omega) (by omega)
          have h4 : (1000 * 1000 : Nat) ≤ sizeLine := by decide
          omega
        have fin : ∀ p, H p = none → Q (.ref p) (upd H p (.lst (List.replicate j.toNat xs).flatten)) := fun p np =>
          q _ _ _ (Ext.new sub np) (.lst (Rd.of upd_same) (DdA.mono (same_upd (Same.free sub np)) _ _ (a1.rep j.toNat)))
        cases rx
        obtain ⟨t, rfl⟩ := ry
        exact rep_rd I (Rd.mono sub h1) (by omega) (by omega) hz fin
      · cases ho
    | tup h1 a1 =>
      simp only [mulD] at ho
      split at ho
      · rename_i hb
        simp only [Bool.and_eq_true, decide_eq_true_eq] at hb
        simp only [R.ok.injEq] at ho; subst ho
        obtain ⟨⟨⟨b1, b2⟩, b3⟩, b4⟩ := hb
        have hlen := a1.len
        rename_i xs ds
        have hne : xs ≠ [] := fun e => by
          subst e
          cases a1
          simp at b4
        by_cases j1 : j = 1
        · subst j1
          cases rx
          obtain ⟨t, rfl⟩ := ry
          refine op_mulT1 I (.inl (Rd.mono sub h1)) (q _ F H (Ext.refl sub) (.tup h1 ?_))
          have e : (List.replicate (Int.toNat 1) ds).flatten = ds := by simp
          rw [e]; exact a1
        refine op_repT pins s σ H _ _ v u Q I rx ry ⟨_, j, xs, rfl, rfl, .inl (Rd.mono sub h1), hne, by omega, b2, by omega, fun p np => ?_⟩
        exact q _ _ _ (Ext.new sub np) (.tup (Rd.of upd_same) (DdA.mono (same_upd (Same.free sub np)) _ _ (a1.rep j.toNat)))
      · cases ho
    | _ => simp [mulD] at ho
  | _ => cases hd <;> simp [mulD] at ho
theorem dop_fdiv : OpR X (binaryOp .FloorDiv) (rD2 fdivD) := by
  intro pins s σ H x y v u Q I rx ry h
  obtain ⟨F, d, e, z, sub, hd, he, ho, q⟩ := h
  cases hd <;> cases he <;> simp only [fdivD, reduceCtorEq] at ho
  rename_i i j
  split at ho
  · rename_i hb
    unfold B64 at hb
    simp only [Bool.and_eq_true, decide_eq_true_eq] at hb
    simp only [R.ok.injEq] at ho; subst ho
    exact op_fdivW pins s σ H _ _ v u Q I rx ry ⟨i, j, rfl, rfl, wide_div (b := 64) hb.1 (by omega) (by decide) (by decide), q _ F H (Ext.refl sub) (.int _)⟩
  · cases ho
theorem dop_mod : OpR X (binaryOp .Mod) (rD2 modD) := by
  intro pins s σ H x y v u Q I rx ry h
  obtain ⟨F, d, e, z, sub, hd, he, ho, q⟩ := h
  cases hd <;> cases he <;> simp only [modD, reduceCtorEq] at ho
  rename_i i j
  split at ho
  · rename_i hb
    simp only [decide_eq_true_eq] at hb
    simp only [R.ok.injEq] at ho; subst ho
    exact op_mod pins s σ H _ _ v u Q I rx ry ⟨i, j, rfl, rfl, hb, q _ F H (Ext.refl sub) (.int _)⟩
  · cases ho
theorem dop_pow : OpR X (binaryOp .Pow) (rD2 powD) := by
  intro pins s σ H x y v u Q I rx ry h
  obtain ⟨F, d, e, z, sub, hd, he, ho, q⟩ := h
  cases hd <;> cases he <;> simp only [powD, reduceCtorEq] at ho
  rename_i i j
  split at ho
  · rename_i hb
    simp only [Bool.and_eq_true, decide_eq_true_eq] at hb
    simp only [R.ok.injEq] at ho; subst ho
    have hi := inB_iff hb.2
    exact op_pow pins s σ H _ _ v u Q I rx ry ⟨i, j, rfl, rfl, ⟨hb.1.1, by omega, by omega⟩, q _ F H (Ext.refl sub) (.int _)⟩
  · cases ho
theorem dop_bin {op : Operator} {f : PyData → PyData → R PyData} (h : binOf op = some f) : OpR X (binaryOp op) (rD2 f) := by
  cases op <;> simp [binOf] at h <;> subst h
  · exact dop_add
  · exact dop_sub
  · exact dop_mul
  · exact dop_mod
  · exact dop_pow
  · exact dop_fdiv
theorem dun_neg : UnR X (unaryOp .USub) (rD1 negD) := by
  intro pins s σ H x v Q I rx h
  obtain ⟨F, d, z, sub, hd, ho, q⟩ := h
  cases hd <;> simp [negD] at ho
  subst ho
  exact un_neg pins s σ H _ v Q I rx ⟨_, rfl, q _ F H (Ext.refl sub) (.int _)⟩
/-! ### comparisons -/
theorem dop_eq (hu : X.A.units + 64 < cLine) : OpR X (compareOp .Eq) (rD2 eqD) := by
  intro pins s σ H x y v u Q I rx ry h
  obtain ⟨F, d, e, z, sub, hd, he, ho, q⟩ := h
  unfold eqD at ho
  split at ho
  · rename_i hb
    simp only [Bool.and_eq_true] at hb
    simp only [R.ok.injEq] at ho; subst ho
    exact op_eqD hu pins s σ H _ _ v u Q I rx ry ⟨d, e, Dd.dp _ _ (Dd.mono sub _ _ hd), Dd.dp _ _ (Dd.mono sub _ _ he), hb.1, hb.2, q _ F H (Ext.refl sub) (.bl _)⟩
  · cases ho
theorem dop_ne (hu : X.A.units + 64 < cLine) : OpR X (compareOp .NotEq) (rD2 neD) := by
  intro pins s σ H x y v u Q I rx ry h
  obtain ⟨F, d, e, z, sub, hd, he, ho, q⟩ := h
  unfold neD at ho
  split at ho
  · rename_i hb
    simp only [Bool.and_eq_true] at hb
    simp only [R.ok.injEq] at ho; subst ho
    exact op_neD hu pins s σ H _ _ v u Q I rx ry ⟨d, e, Dd.dp _ _ (Dd.mono sub _ _ hd), Dd.dp _ _ (Dd.mono sub _ _ he), hb.1, hb.2, q _ F H (Ext.refl sub) (.bl _)⟩
  · cases ho
theorem dop_in (hu : X.A.units + 65 < cLine) : OpR X (compareOp .In) (rD2 inD) := by
  intro pins s σ H x y v u Q I rx ry h
  obtain ⟨F, d, e, z, sub, hd, he, ho, q⟩ := h
  cases e <;> simp only [inD, reduceCtorEq] at ho
  rename_i ds
  split at ho
  · rename_i hb
    simp only [Bool.and_eq_true] at hb
    simp only [R.ok.injEq] at ho; subst ho
    exact op_inD hu pins s σ H _ _ v u Q I rx ry ⟨d, ds, Dd.dp _ _ (Dd.mono sub _ _ hd), Dd.dp _ _ (Dd.mono sub _ _ he), hb.1, hb.2, q _ F H (Ext.refl sub) (.bl _)⟩
  · cases ho
theorem dop_notIn (hu : X.A.units + 65 < cLine) : OpR X (compareOp .NotIn) (rD2 notInD) := by
  intro pins s σ H x y v u Q I rx ry h
  obtain ⟨F, d, e, z, sub, hd, he, ho, q⟩ := h
  cases e <;> simp only [notInD, reduceCtorEq] at ho
  rename_i ds
  split at ho
  · rename_i hb
    simp only [Bool.and_eq_true] at hb
    simp only [R.ok.injEq] at ho; subst ho
    exact op_notInD hu pins s σ H _ _ v u Q I rx ry ⟨d, ds, Dd.dp _ _ (Dd.mono sub _ _ hd), Dd.dp _ _ (Dd.mono sub _ _ he), hb.1, hb.2, q _ F H (Ext.refl sub) (.bl _)⟩
  · cases ho
theorem lexT_ht : ∀ a b : List Int, HT.lexLt a b = lexT a b
  | [], [] => rfl
  | [], _ :: _ => rfl
  | _ :: _, [] => rfl
  | x :: a, y :: b => by rw [HT.lexLt_cons]; unfold lexT; rw [lexT_ht a b]
theorem dop_lt (hu : X.A.units + 65 < cLine) : OpR X (compareOp .Lt) (rD2 ltD) := by
  intro pins s σ H x y v u Q I rx ry h
  obtain ⟨F, d, e, z, sub, hd, he, ho, q⟩ := h
  cases hd with
  | int i =>
    cases he with
    | int j =>
      simp only [ltD, R.ok.injEq] at ho; subst ho
      exact op_lt pins s σ H _ _ v u Q I rx ry ⟨_, _, rfl, rfl, q _ F H (Ext.refl sub) (.bl _)⟩
    | _ => simp [ltD] at ho
  | tup h1 a1 =>
    cases he with
    | tup h2 a2 =>
      simp only [ltD] at ho
      split at ho
      · rename_i n m e1 e2
        simp only [R.ok.injEq] at ho; subst ho
        have q1 := a1.ints e1
        have q2 := a2.ints e2
        subst q1; subst q2
        rw [← lexT_ht] at q
        exact op_ltT (by omega) pins s σ H _ _ v u Q I rx ry ⟨_, _, n, m, rfl, rfl, .inl (Rd.mono sub h1), .inl (Rd.mono sub h2), q _ F H (Ext.refl sub) (.bl _)⟩
      · cases ho
    | _ => simp [ltD] at ho
  | _ => cases he <;> simp [ltD] at ho
theorem dop_le : OpR X (compareOp .LtE) (rD2 leD) := by
  intro pins s σ H x y v u Q I rx ry h
  obtain ⟨F, d, e, z, sub, hd, he, ho, q⟩ := h
  cases hd <;> cases he <;> simp [leD] at ho
  subst ho
  exact op_le pins s σ H _ _ v u Q I rx ry ⟨_, _, rfl, rfl, q _ F H (Ext.refl sub) (.bl _)⟩
theorem dop_gt : OpR X (compareOp .Gt) (rD2 gtD) := by
  intro pins s σ H x y v u Q I rx ry h
  obtain ⟨F, d, e, z, sub, hd, he, ho, q⟩ := h
  cases hd <;> cases he <;> simp [gtD] at ho
  subst ho
  exact op_gt pins s σ H _ _ v u Q I rx ry ⟨_, _, rfl, rfl, q _ F H (Ext.refl sub) (.bl _)⟩
theorem dop_ge : OpR X (compareOp .GtE) (rD2 geD) := by
  intro pins s σ H x y v u Q I rx ry h
  obtain ⟨F, d, e, z, sub, hd, he, ho, q⟩ := h
  cases hd <;> cases he <;> simp [geD] at ho
  subst ho
  exact op_ge pins s σ H _ _ v u Q I rx ry ⟨_, _, rfl, rfl, q _ F H (Ext.refl sub) (.bl _)⟩
theorem dop_cmp {op : CmpOp} {f : PyData → PyData → R PyData} (hu : X.A.units + 65 < cLine) (h : cmpOf op = some f) : OpR X (compareOp op) (rD2 f) := by
  cases op <;> simp [cmpOf] at h <;> subst h
  · exact dop_eq (by omega)
  · exact dop_ne (by omega)
  · exact dop_lt hu
  · exact dop_le
  · exact dop_gt
  · exact dop_ge
  · exact dop_in hu
  · exact dop_notIn hu
theorem dop_ord {op : CmpOp} {f : PyData → PyData → R PyData} (hu : X.A.units + 65 < cLine) (h : ordOf op = some f) : OpR X (compareOp op) (rD2 f) := by
  cases op <;> simp [ordOf] at h <;> subst h
  · exact dop_lt hu
  · exact dop_le
  · exact dop_gt
  · exact dop_ge
/-! ### subscripts -/
theorem atI_dd {F : Hp} {ds : List PyData} {vs : List V} {i : Int} {d : PyData} (a : DdA F vs ds) (h : atI ds i = some d) : ∃ v, atI vs i = some v ∧ Dd F v d := by
  unfold atI at h ⊢
  rw [a.len]
  cases e : ixN ds.length i with
  | none => rw [e] at h; cases h
  | some j =>
    rw [e] at h
    exact a.get (i := j) h
theorem itemAt_ok {ds : List PyData} {i : Int} {z : PyData} (h : itemAt ds i = .ok z) : atI ds i = some z := by
  unfold itemAt at h
  split at h
  · rename_i e; cases h; exact e
  · cases h
theorem dix : IxR X (rD2 idxD) := by
  intro value slice pins s σ H x y v u Q I rx ry h hs
  obtain ⟨F, d, e, z, sub, hd, he, ho, q⟩ := h
  cases he with
  | int i =>
    cases hd with
    | lst h1 a1 =>
      obtain ⟨w, e1, e2⟩ := atI_dd a1 (itemAt_ok ho)
      exact ix_list value slice pins s σ H _ _ v u Q I rx ry ⟨_, _, i, w, rfl, rfl, .inl (Rd.mono sub h1), e1, q _ F H (Ext.refl sub) e2⟩ hs
    | tup h1 a1 =>
      obtain ⟨w, e1, e2⟩ := atI_dd a1 (itemAt_ok ho)
      exact ix_tup value slice pins s σ H _ _ v u Q I rx ry ⟨_, _, i, w, rfl, rfl, .inl (Rd.mono sub h1), e1, q _ F H (Ext.refl sub) e2⟩ hs
    | _ => simp [idxD] at ho
  | _ => cases hd <;> simp [idxD] at ho
theorem cut_dd {F : Hp} {ds : List PyData} {vs : List V} {lo hi : Option Int} (a : DdA F vs ds) : DdA F (cutV vs lo hi) (cutL ds lo hi) := by
  unfold cutV cutL
  rw [a.len]
  exact (a.drop _).take _
def rDs : V → Option Int → Option Int → Hp → VK → Prop := fun x lo hi H Q => ∃ F d z, Same F H ∧ Dd F x d ∧ slcD d lo hi = .ok z ∧ ∀ v F' H', Ext F H F' H' → Dd F' v z → Q v H'
theorem dsl : SlR X rDs := by
  intro pins s σ H x v vl vu lo hi sl Q I rx hs pl pu h
  obtain ⟨F, d, z, sub, hd, ho, q⟩ := h
  cases hd with
  | lst h1 a1 =>
    simp only [slcD, R.ok.injEq] at ho; subst ho
    refine sl_list pins s σ H _ v vl vu lo hi sl Q I rx hs pl pu ⟨_, _, rfl, .inl (Rd.mono sub h1), fun p np => ?_⟩
    exact q _ _ _ (Ext.new sub np) (.lst (Rd.of upd_same) (DdA.mono (same_upd (Same.free sub np)) _ _ (cut_dd a1)))
  | tup h1 a1 =>
    simp only [slcD, R.ok.injEq] at ho; subst ho
    refine sl_tupA pins s σ H _ v vl vu lo hi sl Q I rx hs pl pu ⟨_, _, rfl, .inl (Rd.mono sub h1), fun hw => ?_, fun _ p np => ?_⟩
    · rename_i ds
      refine q _ F H (Ext.refl sub) (.tup h1 ?_)
      have e : cutL ds lo hi = ds := by
        unfold cutL
        rw [← a1.len, hw.1, hw.2, Nat.sub_zero, List.drop_zero, a1.len, List.take_length]
      rw [e]; exact a1
    · exact q _ _ _ (Ext.new sub np) (.tup (Rd.of upd_same) (DdA.mono (same_upd (Same.free sub np)) _ _ (cut_dd a1)))
  | _ => simp [slcD] at ho
/-! ### built-in calls -/
theorem dc_len : CallR X (.builtin "len") (rDc1 lenD) := by
  intro pins s σ H xs us Q I rv h
  obtain ⟨x, rfl, F, d, z, sub, hd, ho, q⟩ := h
  cases hd with
  | lst h1 a1 =>
    simp only [lenD, R.ok.injEq] at ho; subst ho
    rw [← a1.len] at q
    exact call_len_seq pins s σ H _ us Q I rv ⟨_, _, rfl, .inl (.inl (Rd.mono sub h1)), q _ F H (Ext.refl sub) (.int _)⟩
  | tup h1 a1 =>
    simp only [lenD, R.ok.injEq] at ho; subst ho
    rw [← a1.len] at q
    exact call_len_seq pins s σ H _ us Q I rv ⟨_, _, rfl, .inr (.inl (Rd.mono sub h1)), q _ F H (Ext.refl sub) (.int _)⟩
  | _ => simp [lenD] at ho
theorem dc_abs : CallR X (.builtin "abs") (rDc1 absD) := by
  intro pins s σ H xs us Q I rv h
  obtain ⟨x, rfl, F, d, z, sub, hd, ho, q⟩ := h
  cases hd <;> simp [absD] at ho
  subst ho
  exact call_abs pins s σ H _ us Q I rv ⟨_, rfl, q _ F H (Ext.refl sub) (.int _)⟩
theorem onInts_ok {f : List Int → R PyData} {d z : PyData} (h : onInts f d = .ok z) : ∃ ds ns, d = .list ds ∧ intsOf ds = some ns ∧ f ns = .ok z := by
  cases d <;> simp only [onInts, reduceCtorEq] at h
  rename_i ds
  split at h
  · rename_i ns e
    exact ⟨ds, ns, rfl, e, h⟩
  · cases h
theorem onBools_ok {f : List Bool → PyData} {d z : PyData} (h : onBools f d = .ok z) : ∃ ds ns, d = .list ds ∧ boolsOf ds = some ns ∧ f ns = z := by
  cases d <;> simp only [onBools, reduceCtorEq] at h
  rename_i ds
  split at h
  · rename_i ns e
    exact ⟨ds, ns, rfl, e, R.ok.inj h⟩
  · cases h
theorem dc_sum (hc : X.calm = true) : CallR X (.builtin "sum") (rDc1 sumD) := by
  intro pins s σ H xs us Q I rv h
  obtain ⟨x, rfl, F, d, z, sub, hd, ho, q⟩ := h
  obtain ⟨ds, ns, rfl, e1, e2⟩ := onInts_ok ho
  simp only [R.ok.injEq] at e2; subst e2
  cases hd with
  | lst h1 a1 =>
    have e3 := a1.ints e1; subst e3
    exact cr_sum hc pins s σ H _ us Q I rv ⟨_, ns, rfl, .inl (Rd.mono sub h1), q _ F H (Ext.refl sub) (.int _)⟩
theorem maxI_spec : ∀ (r : List Int) (x : Int), (r.foldl (fun a b => if a < b then b else a) x ∈ x :: r) ∧ ∀ y ∈ x :: r, y ≤ r.foldl (fun a b => if a < b then b else a) x
  | [], x => by simp
  | b :: r, x => by
    have ih := maxI_spec r (if x < b then b else x)
    rw [List.foldl_cons]
    have k1 : x ≤ (if x < b then b else x) := by split <;> omega
    have k2 : b ≤ (if x < b then b else x) := by split <;> omega
    have k3 : (if x < b then b else x) ∈ x :: b :: r := by split <;> simp
    generalize (if x < b then b else x) = c at *
    have h0 := ih.2 c (List.mem_cons_self)
    refine ⟨?_, fun y hy => ?_⟩
    · rcases List.mem_cons.mp ih.1 with h | h
      · rw [h]; exact k3
      · exact List.mem_cons_of_mem _ (List.mem_cons_of_mem _ h)
    · rcases List.mem_cons.mp hy with h | h
      · subst h; omega
      · rcases List.mem_cons.mp h with h | h
        · subst h; omega
        · exact ih.2 y (List.mem_cons_of_mem _ h)
theorem minI_spec : ∀ (r : List Int) (x : Int), (r.foldl (fun a b => if b < a then b else a) x ∈ x :: r) ∧ ∀ y ∈ x :: r, r.foldl (fun a b => if b < a then b else a) x ≤ y
  | [], x => by simp
  | b :: r, x => by
    have ih := minI_spec r (if b < x then b else x)
    rw [List.foldl_cons]
    have k1 : (if b < x then b else x) ≤ x := by split <;> omega
    have k2 : (if b < x then b else x) ≤ b := by split <;> omega
    have k3 : (if b < x then b else x) ∈ x :: b :: r := by split <;> simp
    generalize (if b < x then b else x) = c at *
    have h0 := ih.2 c (List.mem_cons_self)
    refine ⟨?_, fun y hy => ?_⟩
    · rcases List.mem_cons.mp ih.1 with h | h
      · rw [h]; exact k3
      · exact List.mem_cons_of_mem _ (List.mem_cons_of_mem _ h)
    · rcases List.mem_cons.mp hy with h | h
      · subst h; omega
      · rcases List.mem_cons.mp h with h | h
        · subst h; omega
        · exact ih.2 y (List.mem_cons_of_mem _ h)
theorem dc_max (hc : X.calm = true) : CallR X (.builtin "max") (rDc1 maxD) := by
  intro pins s σ H xs us Q I rv h
  obtain ⟨x, rfl, F, d, z, sub, hd, ho, q⟩ := h
  obtain ⟨ds, ns, rfl, e1, e2⟩ := onInts_ok ho
  cases ns with
  | nil => simp [maxI, optD] at e2
  | cons n ns =>
    simp only [maxI, optD, R.ok.injEq] at e2; subst e2
    cases hd with
    | lst h1 a1 =>
      have e3 := a1.ints e1; subst e3
      have sp := maxI_spec ns n
      refine cr_max hc pins s σ H _ us Q I rv ⟨_, n :: ns, rfl, .inl (Rd.mono sub h1), by simp, fun m hm hle => ?_⟩
      have e : m = ns.foldl (fun a b => if a < b then b else a) n := Int.le_antisymm (sp.2 m hm) (hle _ sp.1)
      rw [e]
      exact q _ F H (Ext.refl sub) (.int _)
theorem intsOf_eq : ∀ {ds : List PyData} {ns : List Int}, intsOf ds = some ns → ds = ns.map .int
  | [], ns, h => by
    have h : [] = ns := Option.some.inj h
    subst h; rfl
  | d :: ds, ns, h => by
    cases d <;> try (simp [intsOf] at h; done)
    cases q : intsOf ds with
    | none => simp [intsOf, q] at h
    | some ms =>
      simp [intsOf, q] at h
      subst h
      rw [intsOf_eq q]; rfl
theorem prsOf_eq : ∀ {ds : List PyData} {ps : List (Int × List Int)}, prsOf ds = some ps → ds = ps.map prD
  | [], ps, h => by
    have h : [] = ps := Option.some.inj h
    subst h; rfl
  | d :: ds, ps, h => by
    unfold prsOf at h
    split at h
    · rename_i q; cases q
    · rename_i a es r q
      cases q
      split at h
      · rename_i n e1
        cases q : prsOf ds with
        | none => rw [q] at h; cases h
        | some qs =>
          rw [q] at h
          have h : (a, n) :: qs = ps := Option.some.inj h
          subst h
          rw [prsOf_eq q, intsOf_eq e1]; rfl
      · cases h
    · cases h
theorem dLt_ints : ∀ a b : List Int, PyProof.Rows.lexLt PyProof.Rows.itemOrd (PySem.W.keyToksAll (a.map .int)) (PySem.W.keyToksAll (b.map .int)) = lexT a b
  | [], [] => by decide
  | [], y :: b => by simp [PySem.W.keyToksAll, PyProof.Rows.lexLt, PyProof.Rows.itemLt, lexT]
  | x :: a, [] => by simp [PySem.W.keyToksAll, PyProof.Rows.lexLt, PyProof.Rows.itemLt, lexT]
  | x :: a, y :: b => by
    by_cases e : x = y
    · rw [List.map_cons, List.map_cons, PySem.W.dataLt_all_yes rfl (by simp [PyData.eqv, e]), dLt_ints a b]
      exact (if_pos e).symm
    · rw [List.map_cons, List.map_cons, PySem.W.dataLt_all_no rfl (by simp [PyData.eqv, e]), PySem.W.dataLt_int]
      exact (if_neg e).symm
theorem alike_ints : ∀ a b : List Int, PySem.W.alikeAll (a.map .int) (b.map .int) = true
  | [], _ => by cases ‹List Int› <;> rfl
  | _ :: _, [] => rfl
  | x :: a, y :: b => by simp [PySem.W.alikeAll, PySem.W.alike, alike_ints a b]
theorem alike_pr (p q : Int × List Int) : PySem.W.alike (prD p) (prD q) = true := by
  simp [prD, PySem.W.alike, PySem.W.alikeAll, alike_ints]
theorem eqvA_ints : ∀ a b : List Int, PyData.eqvAll (a.map .int) (b.map .int) = decide (a = b)
  | [], [] => by simp [PyData.eqvAll]
  | [], _ :: _ => by simp [PyData.eqvAll]
  | _ :: _, [] => by simp [PyData.eqvAll]
  | x :: a, y :: b => by
    simp only [List.map_cons, PyData.eqvAll, eqvA_ints a b, PyData.eqv]
    by_cases h1 : x = y <;> by_cases h2 : a = b <;> simp [h1, h2]
theorem lexT_self : ∀ a : List Int, lexT a a = false
  | [] => rfl
  | x :: a => by simp [lexT, lexT_self a]
theorem dLt_pr (p q : Int × List Int) : PySem.W.dataLt (prD p) (prD q) = ltP p q := by
  unfold prD ltP
  rw [PySem.W.dataLt_tuple]
  by_cases e : p.1 = q.1
  · rw [PySem.W.dataLt_all_yes rfl (by simp [PyData.eqv, e]), if_pos e]
    by_cases e2 : p.2 = q.2
    · rw [PySem.W.dataLt_all_yes (by simp [PySem.W.alike, alike_ints]) (by simp [PyData.eqv, eqvA_ints, e2]), e2, lexT_self]
      decide
    · rw [PySem.W.dataLt_all_no (by simp [PySem.W.alike, alike_ints]) (by simp [PyData.eqv, eqvA_ints, e2]), PySem.W.dataLt_tuple, dLt_ints]
  · rw [PySem.W.dataLt_all_no rfl (by simp [PyData.eqv, e]), PySem.W.dataLt_int, if_neg e]
theorem minD_pr (p : Int × List Int) (ps : List (Int × List Int)) : PySem.W.minD (prD p) (ps.map prD) = prD (minP p ps) := by
  unfold PySem.W.minD minP
  induction ps generalizing p with
  | nil => rfl
  | cons q ps ih =>
    simp only [List.map_cons, List.foldl_cons, dLt_pr]
    rw [← ih]
    split <;> rfl
theorem canLay_pr (p : Int × List Int) : PyData.canLay0 (prD p) = true := by
  have key : ∀ l : List Int, PyData.canLayAll0 (l.map .int) = true := by
    intro l
    induction l with
    | nil => rfl
    | cons x l ih => simp [PyData.canLayAll0, PyData.canLay0, ih]
  simp [prD, PyData.canLay0, PyData.canLayAll0, key]
theorem depth_pr : ∀ ps : List (Int × List Int), PyData.depthAll (ps.map prD) ≤ 2
  | [] => by simp [PyData.depthAll]
  | p :: ps => by
    have key : ∀ l : List Int, PyData.depthAll (l.map .int) = 0 := by
      intro l
      induction l with
      | nil => rfl
      | cons x l ih => simp [PyData.depthAll, PyData.depth, ih]
    have ih := depth_pr ps
    simp [PyData.depthAll, PyData.depth, prD, key]
    omega
theorem minD_is (n : Int) (ns : List Int) : PySem.W.minD (.int n) (ns.map .int) = .int (ns.foldl (fun a b => if b < a then b else a) n) := by
  unfold PySem.W.minD
  induction ns generalizing n with
  | nil => rfl
  | cons k ns ih =>
    simp only [List.map_cons, List.foldl_cons, PySem.W.dataLt_int, decide_eq_true_eq]
    rw [← ih]
    split <;> rfl
theorem dc_min (hc : X.calm = true) (hu : X.A.units + 65 < cLine) : CallR X (.builtin "min") (rDc1 minD) := by
  intro pins s σ H xs us Q I rv h
  obtain ⟨x, rfl, F, d, z, sub, hd, ho, q⟩ := h
  cases hd with
  | lst h1 a1 =>
    simp only [minD] at ho
    split at ho
    · rename_i ns e1
      cases ns with
      | nil => simp [minI, optD] at ho
      | cons n ns =>
        simp only [minI, optD, R.ok.injEq] at ho; subst ho
        have e3 := a1.ints e1; subst e3
        have sp := minI_spec ns n
        refine cr_min hc pins s σ H _ us Q I rv ⟨_, n :: ns, rfl, .inl (Rd.mono sub h1), by simp, fun m hm hle => ?_⟩
        have e : m = ns.foldl (fun a b => if b < a then b else a) n := Int.le_antisymm (hle _ sp.1) (sp.2 m hm)
        rw [e]
        exact q _ F H (Ext.refl sub) (.int _)
    · split at ho
      · rename_i p ps e1
        have e2 := prsOf_eq e1
        subst e2
        simp only [R.ok.injEq] at ho; subst ho
        rename_i l vs _
        have := Vals.ref1 rv
        subst this
        obtain ⟨its, rvs, pl, hz⟩ := I.list (.inl (Rd.mono sub h1))
        obtain ⟨as, ra⟩ := Dp.readsAll I _ _ its (DdA.dp _ _ (DdA.mono sub _ _ a1)) rvs
        refine PySem.W.min_list_data (I.ok.hd hc) pl.isList (x := prD p) (xs := ps.map prD) (as := as) (by simpa using ra) ⟨fun x hx y hy => ?_, fun x hx => ?_⟩ (by have := depth_pr (p :: ps); simp only [List.map_cons] at this; omega) fun i v h' tk bs hv rd kp => ?_
        · obtain ⟨p1, _, rfl⟩ := List.mem_map.mp (show x ∈ (p :: ps).map prD from hx)
          obtain ⟨p2, _, rfl⟩ := List.mem_map.mp (show y ∈ (p :: ps).map prD from hy)
          exact alike_pr p1 p2
        · obtain ⟨p1, _, rfl⟩ := List.mem_map.mp (show x ∈ (p :: ps).map prD from hx)
          intro e; cases e
        · have hv2 : its[i]? = some v := by simpa using hv
          have vat : ∀ {xs : List V} {us : List Value} {i : Nat} {u : Value}, Vals xs us → us[i]? = some u → ∃ x, xs[i]? = some x ∧ RelV x u := by
            intro xs us i u r
            induction r generalizing i with
            | nil => intro h; simp at h
            | cons r t ih =>
              intro h
              cases i with
              | zero => have h := Option.some.inj h; exact ⟨_, rfl, h ▸ r⟩
              | succ i => exact ih (by simpa using h)
          obtain ⟨x, hx, rx⟩ := vat rvs hv2
          obtain ⟨d, hd, dx⟩ := a1.getV hx
          obtain ⟨as2, r2⟩ := Dp.reads I d x v (Dd.dp _ _ (Dd.mono sub _ _ dx)) rx
          have I2 : Inv X pins σ H { s with heap := h', toks := tk } := I.kept kp
          have hc0 : PyData.canLay0 d = true := by
            obtain ⟨p1, _, rfl⟩ := List.mem_map.mp (List.mem_of_getElem? hd)
            exact canLay_pr p1
          have ed := ((Reads.keeps kp r2).unique _ _ rd).1
          rw [minD_pr] at ed
          subst ed
          exact ⟨x, H, I2, rx, q x F H (Ext.refl sub) dx⟩
      · cases ho
  | tup h1 a1 =>
    simp only [minD] at ho
    split at ho
    · rename_i ns e1
      cases ns with
      | nil => simp [minI, optD] at ho
      | cons n ns =>
        simp only [minI, optD, R.ok.injEq] at ho; subst ho
        have e2 := intsOf_eq e1
        subst e2
        have e3 := a1.ints e1; subst e3
        rename_i l _
        have := Vals.ref1 rv
        subst this
        obtain ⟨its, rvs, pl, hz⟩ := I.tuple (.inl (Rd.mono sub h1))
        obtain ⟨as, ra⟩ := Dp.readsAll I _ _ its (DdA.dp _ _ (DdA.mono sub _ _ a1)) rvs
        have dz : ∀ l : List Int, PyData.depthAll (l.map .int) = 0 := by
          intro l
          induction l with
          | nil => rfl
          | cons x l ih => simp [PyData.depthAll, PyData.depth, ih]
        refine PySem.W.min_tuple_data (I.ok.hd hc) pl (x := .int n) (xs := ns.map .int) (as := as) (by simpa using ra) ⟨fun x hx y hy => ?_, fun x hx => ?_⟩ (by have := dz (n :: ns); simp only [List.map_cons] at this; rw [this]; omega) fun i v h' tk bs hv rd kp => ?_
        · obtain ⟨p1, _, rfl⟩ := List.mem_map.mp (show x ∈ (n :: ns).map .int from hx)
          obtain ⟨p2, _, rfl⟩ := List.mem_map.mp (show y ∈ (n :: ns).map .int from hy)
          rfl
        · obtain ⟨p1, _, rfl⟩ := List.mem_map.mp (show x ∈ (n :: ns).map .int from hx)
          intro e; cases e
        · have I2 : Inv X pins σ H { s with heap := h', toks := tk } := I.kept kp
          have em := minD_is n ns
          rw [em] at rd
          cases rd with
          | int i t => exact ⟨.int _, H, I2, ⟨t, rfl⟩, q _ F H (Ext.refl sub) (.int _)⟩
    · cases ho
  | _ => simp [minD] at ho
theorem dc_all (hc : X.calm = true) : CallR X (.builtin "all") (rDc1 allD) := by
  intro pins s σ H xs us Q I rv h
  obtain ⟨x, rfl, F, d, z, sub, hd, ho, q⟩ := h
  obtain ⟨ds, bs, rfl, e1, rfl⟩ := onBools_ok ho
  cases hd with
  | lst h1 a1 =>
    have e3 := a1.bools e1; subst e3
    exact cr_all hc pins s σ H _ us Q I rv ⟨_, bs, rfl, .inl (Rd.mono sub h1), q _ F H (Ext.refl sub) (.bl _)⟩
theorem dc_any (hc : X.calm = true) : CallR X (.builtin "any") (rDc1 anyD) := by
  intro pins s σ H xs us Q I rv h
  obtain ⟨x, rfl, F, d, z, sub, hd, ho, q⟩ := h
  obtain ⟨ds, bs, rfl, e1, rfl⟩ := onBools_ok ho
  cases hd with
  | lst h1 a1 =>
    have e3 := a1.bools e1; subst e3
    exact cr_any hc pins s σ H _ us Q I rv ⟨_, bs, rfl, .inl (Rd.mono sub h1), q _ F H (Ext.refl sub) (.bl _)⟩
theorem dc_max2 (hc : X.calm = true) : CallR X (.builtin "max") (rDc2 max2D) := by
  intro pins s σ H xs us Q I rv h
  obtain ⟨x, y, rfl, F, d, e, z, sub, hd, he, ho, q⟩ := h
  cases hd <;> cases he <;> simp only [max2D, reduceCtorEq, R.ok.injEq] at ho
  subst ho
  exact call_max2 hc pins s σ H _ us Q I rv ⟨_, _, rfl, q _ F H (Ext.refl sub) (.int _)⟩
theorem dc_min2 (hc : X.calm = true) : CallR X (.builtin "min") (rDc2 min2D) := by
  intro pins s σ H xs us Q I rv h
  obtain ⟨x, y, rfl, F, d, e, z, sub, hd, he, ho, q⟩ := h
  cases hd <;> cases he <;> simp only [min2D, reduceCtorEq, R.ok.injEq] at ho
  subst ho
  exact call_min2 hc pins s σ H _ us Q I rv ⟨_, _, rfl, q _ F H (Ext.refl sub) (.int _)⟩
theorem dc_tuple : CallR X (.type "tuple") (rDc1 tupleD) := by
  intro pins s σ H xs us Q I rv h
  obtain ⟨x, rfl, F, d, z, sub, hd, ho, q⟩ := h
  cases hd with
  | lst h1 a1 =>
    simp only [tupleD, R.ok.injEq] at ho; subst ho
    refine call_tuple_of pins s σ H _ us Q I rv ⟨_, _, rfl, .inl ⟨.inl (Rd.mono sub h1), fun p np => ?_⟩⟩
    exact q _ _ _ (Ext.new sub np) (.tup (Rd.of upd_same) (DdA.mono (same_upd (Same.free sub np)) _ _ a1))
  | tup h1 a1 =>
    simp only [tupleD, R.ok.injEq] at ho; subst ho
    exact call_tuple_of pins s σ H _ us Q I rv ⟨_, _, rfl, .inr ⟨.inl (Rd.mono sub h1), q _ F H (Ext.refl sub) (.tup h1 a1)⟩⟩
  | _ => simp [tupleD] at ho
theorem dc_list : CallR X (.type "list") (rDc1 listD) := by
  intro pins s σ H xs us Q I rv h
  obtain ⟨x, rfl, F, d, z, sub, hd, ho, q⟩ := h
  cases hd with
  | lst h1 a1 =>
    simp only [listD, R.ok.injEq] at ho; subst ho
    refine call_list_of pins s σ H _ us Q I rv ⟨_, _, rfl, .inl (.inl (Rd.mono sub h1)), fun p np => ?_⟩
    exact q _ _ _ (Ext.new sub np) (.lst (Rd.of upd_same) (DdA.mono (same_upd (Same.free sub np)) _ _ a1))
  | tup h1 a1 =>
    simp only [listD, R.ok.injEq] at ho; subst ho
    refine call_list_of pins s σ H _ us Q I rv ⟨_, _, rfl, .inr (.inl (Rd.mono sub h1)), fun p np => ?_⟩
    exact q _ _ _ (Ext.new sub np) (.lst (Rd.of upd_same) (DdA.mono (same_upd (Same.free sub np)) _ _ a1))
  | _ => simp [listD] at ho
end
end Rt
/-! Rt, part C1: enumerate over a tuple. -/
namespace Rt
open PySem PySem.Spec PyProof.Rows L2
section
open PySem.AutoSeq1 (wpAny_loadPart')
theorem meets_enum1 {v : Value} {o : Obj} {G : Heap → Prop} (B : Begins v o G) :
    Meets (Builtin.«enumerate.__new__» ⟨[.type "enumerate", v], []⟩) (fun _ R s => G s.heap ∧
      R (.ok (.ret (.ref (s.heap.push o).objs.size))) { s with heap := (s.heap.push o).push { cls := .type "enumerate", data := .fields #[.none, .bool false, .ref s.heap.objs.size, rawInt 0, .none, .none] } }) :=
  .of_wp fun prog w A R s h => by
    obtain ⟨hp, g, d, tk, os⟩ := s
    obtain ⟨h1, h⟩ := h
    have sb := sub_enumerate
    have go : ∀ {A' : Around} {E : Value → Shared → Prop} {Q : Value → Shared → Prop}, Q (.ref hp.objs.size) ⟨hp.push o, g, d, tk, os⟩ → wpAny (model prog w) A' (pyIter v) Q E ⟨hp, g, d, tk, os⟩ :=
      fun q => B.iter prog w _ _ ⟨hp, g, d, tk, os⟩ _ h1 q
    wp_walk using go
    refine wpAny_stack_any fun st => wpAny_pure ?_
    split
    · rename_i c _ _ _ _ _
      cases (c == Value.type "enumerate") <;> (wp_walk using go; exact ⟨_, rfl, h⟩)
    · wp_walk using go
      exact ⟨_, rfl, h⟩
end
section
variable {prog : Program} {w : World} {A : Around} {E : Value → Shared → Prop} {s : Shared}
theorem enum1_begins {v : Value} {o : Obj} {G : Heap → Prop} {Q : Value → Shared → Prop} (B : Begins v o G) (h1 : G s.heap)
    (h : ∀ h', IsEnum h' (s.heap.objs.size + 1) s.heap.objs.size 0 .none → h'.get? s.heap.objs.size = some o → h'.objs.size = s.heap.objs.size + 2 →
      (∀ b o, s.heap.get? b = some o → h'.get? b = some o) → Q (.ref (s.heap.objs.size + 1)) { s with heap := h' }) :
    wpAny (model prog w) A (call (.type "enumerate") [v]) Q E s := by
  refine callType_new F.called_enumerate (by decide) (F.typeCall_enumerate_1 _) (F.newCall_enumerate_1 _) (fun obj => F.args_object_init_2 obj _) F.entry_enumerate_new
    (meets_enum1 B) ⟨h1, ?_⟩
  have hz : (s.heap.push o).objs.size = s.heap.objs.size + 1 := Heap.size_push ..
  show _ ∧ _
  rw [hz]
  have he : IsEnum ((s.heap.push o).push { cls := .type "enumerate", data := .fields #[.none, .bool false, .ref s.heap.objs.size, rawInt 0, .none, .none] }) (s.heap.objs.size + 1) s.heap.objs.size 0 .none := by
    have := Heap.get?_push_size (s.heap.push o) (o := { cls := .type "enumerate", data := .fields #[.none, .bool false, .ref s.heap.objs.size, rawInt 0, .none, .none] }) rfl
    rw [hz] at this; exact this
  exact ⟨⟨_, he, rfl⟩, h _ he (Heap.get?_push_of_some _ (Heap.get?_push_size _ B.free)) (by rw [Heap.size_push, hz]) fun b o x => Heap.get?_push_of_some _ (Heap.get?_push_of_some _ x)⟩
end
/-- the tuple at a, each item in a new pair -/
def ItE (a : Addr) (xs : List V) : It :=
  ⟨fun i H => Rd H a (.tup xs) ∧ ∃ x, xs[i]? = some x, fun i H v H' => ∃ T x, v = .ref T ∧ H T = none ∧ H' = upd H T (.tup [.int (i : Nat), x]) ∧ xs[i]? = some x, fun i H => Rd H a (.tup xs) ∧ xs.length ≤ i⟩
theorem rd_ne {H : Hp} {a b : Addr} {u : HO} (h : Rd H a u) (n : H b = none) : a ≠ b := by
  intro e; subst e
  rcases h with h | ⟨o, h⟩ <;> (rw [n] at h; cases h)
theorem turn_enumT {P : Program} {w : World} {K : PySem.W.Frag} {elts : List Expr} {kk : Nat} {tpos : Pos} (a e it : Addr) (xs : List V) :
    Turn P w K (.Tuple elts kk tpos) (ItE a xs) [e, it] e (fun i h => (∃ old, IsEnum h e it ((i : Nat) : Int) old) ∧ h.IsTupleIter it a i ∧ e ≠ it ∧ i ≤ xs.length) where
  mem := by simp
  obj := fun i h st b hb => by
    obtain ⟨⟨old, he⟩, ⟨o, ho, hc, hd⟩, _⟩ := st
    rcases (by simpa using hb : b = e ∨ b = it) with z | z
    · rw [z]; exact ⟨_, he, fun v q => nomatch q⟩
    · rw [z]; exact ⟨o, ho, fun v q => by rw [hd] at q; cases q⟩
  keep := fun i h h' st k => let ⟨⟨old, he⟩, hi, hne⟩ := st; ⟨⟨old, k e (by simp) _ he⟩, hi.at fun o q => k it (by simp) o q, hne⟩
  item := by
    intro X hP hw hK hc i pins s σ H E I hf st hg
    subst hP hw hK
    obtain ⟨⟨old, he⟩, hit, hne, hle⟩ := st
    obtain ⟨hq, x, hx⟩ := hg
    obtain ⟨its, rv, p, hz⟩ := I.tuple (X := X) (.inl hq)
    obtain ⟨u, hu, ru⟩ := rv.get hx
    have hel : e < s.heap.objs.size := Heap.lt_size he
    have hil : it < s.heap.objs.size := by
      obtain ⟨_, q, _⟩ := hit
      exact Heap.lt_size q
    have nia : a ≠ it := rd_ne hq (hf it (by simp)).1
    have nea : a ≠ e := rd_ne hq (hf e (by simp)).1
    have D := Draws.tuple (prog := X.prog) (w := X.w) (A := X.A.in1) (I.ok.hd hc) it a nia its.toArray
    have hlt : i < its.toArray.size := by
      have := (List.getElem?_eq_some_iff.mp hx).1
      rw [List.size_toArray, ← rv.length]; exact this
    refine wpAny_pyNext_enum_itemD D he ⟨hit, p⟩ hlt hne (by simp; exact ⟨hne, fun z => nea z.symm⟩) fun y h' tk hy ho hit' hT hsz hk => ?_
    have ey : y = u := by
      have : its.toArray[i]? = some u := by simpa using hu
      rw [this] at hy; exact (Option.some.inj hy).symm
    subst ey
    refine ⟨_, rfl, wpAny_letOwnedTupleGo_enum (s := { s with heap := h', toks := tk + 1 }) ho fun h'' he' sb => ?_⟩
    have hT2 : h''.get? s.heap.objs.size = some { cls := .type "tuple", data := .seq #[.int i tk, y] } := (sb.2 _ (Nat.ne_of_gt hel)).trans hT
    have new : ObjOk X.prog X.w (upd H s.heap.objs.size (.tup [.int (i : Nat), x])) h'' s.heap.objs.size (.tup [.int (i : Nat), x]) :=
      ⟨by show 2 ≤ sizeLine; decide, [.int i tk, y], .cons ⟨_, rfl⟩ (.cons ru .nil), ⟨_, hT2, rfl, _, rfl⟩⟩
    have I1 : Inv X pins σ (upd H s.heap.objs.size (.tup [.int (i : Nat), x])) { s with heap := h'', toks := tk + 1 } :=
      I.turnedNew (ch := [e, it]) (fun b ob hb q => (sb.2 b (fun z => hb (by simp [z]))).trans (hk b ob (fun z => hb (by simp [z])) (fun z => hb (by simp [z])) q)) hf (Nat.le_refl _) new
    refine ⟨.ref s.heap.objs.size, _, I1, rfl, ⟨_, x, rfl, I.hok.fresh (Nat.le_refl _), rfl, hx⟩, ⟨⟨y, ?_⟩, hit'.1.at fun o q => (sb.2 it (Ne.symm hne)).trans q, hne, (List.getElem?_eq_some_iff.mp hx).1⟩, fun b hb => ?_⟩
    · have e1 : ((i + 1 : Nat) : Int) = (i : Int) + 1 := by omega
      rw [e1]; exact he'
    · have hb' : b < s.heap.objs.size := by
        rcases (by simpa using hb : b = e ∨ b = it) with z | z
        · rw [z]; exact hel
        · rw [z]; exact hil
      rw [upd_ne (Nat.ne_of_lt hb')]
      exact (hf b hb).1
  done := by
    intro X hP hw hK hc i pins s σ H E I hf st hg
    subst hP hw hK
    obtain ⟨⟨old, he⟩, hit, hne, hle⟩ := st
    obtain ⟨hq, hx⟩ := hg
    obtain ⟨its, rv, p, hz⟩ := I.tuple (X := X) (.inl hq)
    obtain ⟨f0, f1, f2, f3, f4, f5⟩ := hf it (by simp)
    have nia : a ≠ it := rd_ne hq f0
    have D := Draws.tuple (prog := X.prog) (w := X.w) (A := X.A.in1) (I.ok.hd hc) it a nia its.toArray
    have ei : i = its.toArray.size := by
      rw [List.size_toArray, ← rv.length]; omega
    subst ei
    exact wpAny_pyNext_enum_endD D he ⟨hit, p⟩ fun h' eb => ⟨rfl, I.turned (t' := s.toks) (fun b o hb q => eb b o hb q) f0 f1 f3 f4 f5⟩
  self := fun A i s Q E st h => let ⟨⟨_, he⟩, _⟩ := st; wpAny_pyIter_enum he h
def iEnumT (ta : TA) : TI := fun σ H R => ta σ H fun vs H1 => ∃ a xs, vs = [.ref a] ∧ Rd H1 a (.tup xs) ∧ R (ItE a xs) H1
theorem pi_enumT {X : Cx} {e : Expr} {ta : TA} {p pos tpos : Pos} {elts : List Expr} {kk : Nat} (hg : Gl X "enumerate") (hm : X.mg "enumerate" = none) (ha : PA X [e] ta) (hs : starEach [e] X.env = [(false, eval e X.env)]) :
    PI X (.Tuple elts kk tpos) (.Call (.Name "enumerate" p) [e] [] pos) (iEnumT ta) := by
  refine ⟨fun pins s σ H R I h => ?_⟩
  refine Call_ (ld_blt I hg hm boot_enumerate (PyProof.Rows.callWith_type1 (thn (ha.run pos pins s σ H _ I h) fun us s1 ⟨vs, H1, I1, r1, q1⟩ => ?_) hs rfl))
  obtain ⟨a, xs, ex, hq, q⟩ := q1
  subst ex
  cases r1 with
  | cons r rr =>
    cases rr
    cases r
    obtain ⟨its, rv, p', hz⟩ := I1.tuple (X := X) (.inl hq)
    refine enum1_begins (begins_tuple a its.toArray) p' fun h' he hit hsz hk => wpAny_pyIter_enum he ?_
    have I2 : Inv X pins σ H1 { s1 with heap := h' } := I1.kept (t' := s1.toks) hk
    refine ⟨s1.heap.objs.size + 1, [s1.heap.objs.size + 1, s1.heap.objs.size], _, _, H1, rfl, I2, turn_enumT a (s1.heap.objs.size + 1) s1.heap.objs.size xs, ⟨⟨.none, he⟩, ⟨_, hit, rfl, rfl⟩, Nat.succ_ne_self _, Nat.zero_le _⟩, fun b hb => ?_, q⟩
    have hle : s1.heap.objs.size ≤ b := by
      rcases (by simpa using hb : b = s1.heap.objs.size + 1 ∨ b = s1.heap.objs.size) with z | z
      · rw [z]; exact Nat.le_add_right _ _
      · rw [z]; exact Nat.le_refl _
    exact I1.fpOk hle (I1.hok.fresh hle)
end Rt
/-! Rt, part B3: a def's promise, what a context must fit, expressions. -/
namespace Rt
open PySem PySem.Spec PyProof.Rows L2

/-- a def's promise by a function on data -/
def spD (mg : Str → Option Value) (n : Nat) (g : List PyData → R PyData) : Sp := fun vs H Q E => vs.length = n ∧ ∃ F ds, Same F H ∧ DdA F vs ds ∧
  Want mg (fun cls d _ H' => E cls d H') [] F H (g ds) fun d => ∀ v F' H', Ext F H F' H' → Dd F' v d → Q v H'
/-- an exception's class of the program's own -/
structure ExcOk (K : PySem.W.Frag) (mg : Str → Option Value) (x : Str) : Prop where
  ex : ∃ (C : Addr), mg x = some (.ref C) ∧ PySem.W.excIn K C He.veBase "ValueError.__new__" = true ∧ PySem.W.keepIn K (.ref C) = true ∧ PySem.W.subIn K (.ref C) (.type "BaseException") = some true ∧ PySem.W.typeIn K (.ref C) = some (.type "type")
structure IssOk (K : PySem.W.Frag) (mg : Str → Option Value) (x y : Str) (b : Bool) : Prop where
  ex : ∃ (C D : Addr), mg x = some (.ref C) ∧ mg y = some (.ref D) ∧ PySem.W.exmOne K (.ref C) (.ref D) = some b ∧ PySem.W.kitOne K (.ref C) (.ref D) = some b ∧ ExcC K C
/-- a def's promise that gives a new list -/
def spL (mg : Str → Option Value) (n : Nat) (g : List PyData → R (List PyData)) : Sp := fun vs H Q E => vs.length = n ∧ ∃ F ds, Same F H ∧ DdA F vs ds ∧
  Want mg (fun cls d _ H' => E cls d H') [] F H (g ds) fun es => ∀ a us F' H', Ext F H F' H' → H a = none → F' a = none → H' a = some (.lst us) → DdA F' us es → Q (.ref a) H'
structure TabOk (X : Cx) (T : Tab) (lv : Nat) : Prop where
  fn : ∀ x n g, T.fns.lookup x = some (n, g) → ∃ f fd ps, ps.length = n ∧ X.mg x = some (.ref f) ∧ PySem.W.keepIn X.K (.ref f) = true ∧ Binds X.K fd ps [] ∧
    FnOk X.prog X.w X.K X.mg X.base (L2.CX X.prog X.w) lv f fd ps (spD X.mg n g)
  con : ∀ x d, T.con.lookup x = some d → ∃ u v, X.mg x = some u ∧ RelV v u ∧ ∀ H, Dd H v d
  blt : ∀ x, T.blt.contains x = true → X.mg x = none
  exs : ∀ x, T.exs.contains x = true → ExcOk X.K X.mg x
  iss : ∀ x y b, T.iss.lookup (x, y) = some b → IssOk X.K X.mg x y b
  fnl : ∀ x n g, T.fnl.lookup x = some (n, g) → ∃ f fd ps, ps.length = n ∧ X.mg x = some (.ref f) ∧ PySem.W.keepIn X.K (.ref f) = true ∧ Binds X.K fd ps [] ∧
    FnOk X.prog X.w X.K X.mg X.base (L2.CX X.prog X.w) lv f fd ps (spL X.mg n g)
structure Fits (X : Cx) (c : Cc) (W : WX) (lv : Nat) : Prop where
  hN : X.N = c.N
  nd : c.N.Nodup
  sc : X.env.scope = c.sc
  calm : X.calm = true
  tk : Takes X W
  own : PassesOwn (model X.prog X.w) X.A X.env X.xe
  top : ∀ x, c.cw x = true → X.fn x = true
  tab : TabOk X c.T lv
  room : Room lv X.A
section
variable {X : Cx} {c : Cc} {W : WX} {lv : Nat}
theorem Fits.un (Ft : Fits X c W lv) : X.A.units + 65 < cLine := by have := Ft.room.un; omega
theorem find_slot {N : List Str} {x : Str} {i : Nat} (h : N.findIdx? (· == x) = some i) : N[i]? = some x := by
  obtain ⟨h1, h2, _⟩ := List.findIdx?_eq_some_iff_getElem.mp h
  rw [List.getElem?_eq_getElem h1]
  exact congrArg some (by simpa using h2)
theorem Cc.slot_ok {x : Str} {i : Nat} (h : c.slot x = some i) : c.N[i]? = some x ∧ Vis c.sc x := by
  unfold Cc.slot at h
  split at h
  · rename_i e; exact ⟨find_slot h, .inl e⟩
  · rename_i e; exact ⟨find_slot h, .inr (.inl e)⟩
  · rename_i e; exact ⟨find_slot h, .inr (.inr e)⟩
  · cases h
theorem okName_parts {x : Str} (h : okName x = true) : (x == ("__debug__" : Str)) = false ∧ (x == ("__classdict__" : Str)) = false ∧ x ≠ "__name__" := by
  unfold okName at h
  simp only [Bool.and_eq_true, Bool.not_eq_true'] at h
  exact ⟨h.1.1, h.1.2, by have := h.2; simpa using this⟩
theorem Fits.gl (Ft : Fits X c W lv) {x : Str} (h : c.isGl x = true) : Gl X x := by
  unfold Cc.isGl at h
  unfold Gl Env.kindOf
  rw [Ft.sc]
  split at h
  · rename_i e; exact e
  · cases h
theorem pd_slot (Ft : Fits X c W lv) {x : Str} {i : Nat} {pos : Pos} (ho : okName x = true) (h : c.slot x = some i) : PE X (.Name x pos) (tVar i) := by
  obtain ⟨h1, h2⟩ := Cc.slot_ok h
  obtain ⟨o1, o2, _⟩ := okName_parts ho
  exact pe_var (by rw [Ft.hN]; exact h1) (by rw [Ft.sc]; exact h2) o1 o2
theorem pd_name (Ft : Fits X c W lv) (x : Str) (pos : Pos) : PE X (.Name x pos) (tD X.mg W (nameE c x)) := by
  unfold nameE
  split
  · rename_i ho
    split
    · rename_i i e
      refine PE.wk (pd_slot Ft ho e) fun σ H Q q => ?_
      obtain ⟨r, F, rel, w⟩ := q
      unfold cV at w
      split at w
      · rename_i d e2
        obtain ⟨v, e3, e4⟩ := rel.at_ i _ e2
        exact ⟨v, e3, w v F H (Ext.refl rel.sub) e4⟩
      · exact w.elim
    · split
      · rename_i hg
        split
        · rename_i d e
          obtain ⟨u, v, e1, e2, e3⟩ := Ft.tab.con x d e
          refine PE.wk (pe_glob (Ft.gl hg) e1 e2 (okName_parts ho).1) fun σ H Q q => ?_
          obtain ⟨r, F, rel, w⟩ := q
          exact w v F H (Ext.refl rel.sub) (e3 F)
        · exact PE.no
      · exact PE.no
  · exact PE.no
def Both (X : Cx) (W : WX) (e : Expr) (f : Ex) : Prop := PE X e (tD X.mg W f) ∧ (okTest e = true → PT X e (tDT X.mg W (cT f)))
theorem PT.no {e : Expr} {mg : Str → Option Value} : PT X e (tDT mg W (cT cBad)) := ⟨fun pins s σ H Q I q => by obtain ⟨_, _, _, w⟩ := q; exact w.elim⟩
theorem Both.no {e : Expr} : Both X W e cBad := ⟨PE.no, fun _ => PT.no⟩
/-- a test's reading from a value's -/
theorem tDT_of {mg : Str → Option Value} {f : Ex} {σ : L2.St} {H : Hp} {Q : Bool → Hp → Prop} (h : tDT mg W (cT f) σ H Q) : tD mg W f σ H fun x H' => ∃ k, x = .bl k ∧ Q k H' := by
  obtain ⟨r, F, rel, w⟩ := h
  refine ⟨r, F, rel, ?_⟩
  unfold cT at w
  cases q : f r with
  | ok d =>
    rw [q] at w
    obtain ⟨b, e1, e2⟩ := Want.nox w
    intro v F' H' ex hd
    cases d <;> simp only [asB, reduceCtorEq, R.ok.injEq] at e1
    subst e1
    cases hd
    exact ⟨_, rfl, e2 F' H' ex⟩
  | exc x => rw [q] at w; exact w
  | bad => rw [q] at w; exact w
theorem pt_of {e : Expr} {t : TE} {f : Ex} (h : PT X e (tTest t)) (w : ∀ σ H Q, tD X.mg W f σ H Q → t σ H Q) : PT X e (tDT X.mg W (cT f)) :=
  PT.wk h fun σ H Q q => w _ _ _ (tDT_of q)
/-- an expression whose truth is that of its value -/
theorem Both.val {e : Expr} {f : Ex} (h : PE X e (tD X.mg W f)) (he : ∀ whole, isTrue e X.env whole = (do let v ← whole; standAt e.pos; holding [v] (truthy v))) : Both X W e f :=
  ⟨h, fun _ => PT.wk (pt_val h he) fun σ H Q q => tDT_of q⟩
/-! ### operators -/
theorem t_c2 {mg : Str → Option Value} {o : PyData → PyData → R PyData} {f g : Ex} {σ : L2.St} {H : Hp} {Q : VK} (h : tD mg W (c2 o f g) σ H Q) : tOp (rD2 o) (tD mg W f) (tD mg W g) σ H Q := by
  obtain ⟨r, F, rel, w⟩ := h
  refine tD_seq rel w fun d v F1 H1 _ e1 rel1 h1 w1 => ?_
  refine tD_seq rel1 w1 fun d2 v2 F2 H2 _ e2 rel2 h2 w2 => ?_
  obtain ⟨z, e3, k⟩ := Want.nox w2
  exact ⟨F2, d, d2, z, rel2.sub, Dd.mono e2.ff _ _ h1, h2, e3, fun v3 F3 H3 e4 h3 => k v3 F3 H3 ((e1.trans e2).trans e4) h3⟩
theorem t_c1 {mg : Str → Option Value} {o : PyData → R PyData} {f : Ex} {σ : L2.St} {H : Hp} {Q : VK} (h : tD mg W (c1 o f) σ H Q) : tUn (rD1 o) (tD mg W f) σ H Q := by
  obtain ⟨r, F, rel, w⟩ := h
  refine tD_seq rel w fun d v F1 H1 _ e1 rel1 h1 w1 => ?_
  obtain ⟨z, e3, k⟩ := Want.nox w1
  exact ⟨F1, d, z, rel1.sub, h1, e3, fun v3 F3 H3 e4 h3 => k v3 F3 H3 (e1.trans e4) h3⟩
theorem pd_bin {a b : Expr} {op : Operator} {o : PyData → PyData → R PyData} {f g : Ex} {pos : Pos} (h : binOf op = some o) (ha : PE X a (tD X.mg W f)) (hb : PE X b (tD X.mg W g)) : PE X (.BinOp a op b pos) (tD X.mg W (c2 o f g)) :=
  PE.wk (pe_op (dop_bin h) ha hb) fun _ _ _ q => t_c2 q
theorem pd_neg {a : Expr} {f : Ex} {pos : Pos} (ha : PE X a (tD X.mg W f)) : PE X (.UnaryOp .USub a pos) (tD X.mg W (c1 negD f)) :=
  PE.wk (pe_un dun_neg ha) fun _ _ _ q => t_c1 q
theorem both_cmp {a b : Expr} {op : CmpOp} {o : PyData → PyData → R PyData} {f g : Ex} {pos : Pos} (hu : X.A.units + 65 < cLine) (h : cmpOf op = some o) (hm : behindInMarks op b = false) (ha : PE X a (tD X.mg W f)) (hb : PE X b (tD X.mg W g)) :
    Both X W (.Compare a [op] [b] pos) (c2 o f g) :=
  ⟨PE.wk (pe_cmpR (dop_cmp hu h) ha hb hm) fun _ _ _ q => t_c2 q, fun _ => pt_of (pt_cmpR (dop_cmp hu h) ha hb hm) fun _ _ _ q => t_c2 q⟩
theorem isNone_dd {F : Hp} {v : V} {d : PyData} (h : Dd F v d) : isNoneB d = decide (v = .non) := by
  cases h <;> simp [isNoneB]
theorem both_isN {a : Expr} {f : Ex} {pos p2 : Pos} {j : Nat} (ha : PE X a (tD X.mg W f)) : Both X W (.Compare a [.Is] [.Constant .none j p2] pos) (c1 isNoneD f) := by
  have key : ∀ (σ : L2.St) (H : Hp) (Q : VK), tD X.mg W (c1 isNoneD f) σ H Q → tOp (fun x y H Q => y = .non ∧ Q (.bl (decide (x = .non))) H) (tD X.mg W f) (tC .non) σ H Q := fun σ H Q q => by
    obtain ⟨r, F, rel, w⟩ := q
    refine tD_seq rel w fun d v F1 H1 _ e1 rel1 h1 w1 => ⟨rfl, ?_⟩
    rw [← isNone_dd h1]
    exact w1 _ F1 H1 e1 (.bl _)
  exact ⟨PE.wk (pe_cmpR op_isN ha pe_non (nomark _)) key, fun _ => pt_of (pt_cmpR op_isN ha pe_non (nomark _)) key⟩
theorem both_notN {a : Expr} {f : Ex} {pos p2 : Pos} {j : Nat} (ha : PE X a (tD X.mg W f)) : Both X W (.Compare a [.IsNot] [.Constant .none j p2] pos) (c1 notNoneD f) := by
  have key : ∀ (σ : L2.St) (H : Hp) (Q : VK), tD X.mg W (c1 notNoneD f) σ H Q → tOp (fun x y H Q => y = .non ∧ Q (.bl (!decide (x = .non))) H) (tD X.mg W f) (tC .non) σ H Q := fun σ H Q q => by
    obtain ⟨r, F, rel, w⟩ := q
    refine tD_seq rel w fun d v F1 H1 _ e1 rel1 h1 w1 => ⟨rfl, ?_⟩
    rw [← isNone_dd h1]
    exact w1 _ F1 H1 e1 (.bl _)
  exact ⟨PE.wk (pe_cmpR op_notN ha pe_non (nomark _)) key, fun _ => pt_of (pt_cmpR op_notN ha pe_non (nomark _)) key⟩
theorem both_isB {a : Expr} {f : Ex} {pos p2 : Pos} {j : Nat} {b : Bool} (ha : PE X a (tD X.mg W f)) : Both X W (.Compare a [.Is] [.Constant (.bool b) j p2] pos) (c1 (isBoolD b) f) := by
  have key : ∀ (σ : L2.St) (H : Hp) (Q : VK), tD X.mg W (c1 (isBoolD b) f) σ H Q → tOp rIsB (tD X.mg W f) (tC (.bl b)) σ H Q := fun σ H Q q => by
    obtain ⟨r, F, rel, w⟩ := q
    refine tD_seq rel w fun d v F1 H1 _ e1 rel1 h1 w1 => ?_
    obtain ⟨z, e3, k⟩ := Want.nox w1
    cases h1 <;> simp only [isBoolD, reduceCtorEq, R.ok.injEq] at e3
    subst e3
    exact ⟨_, b, rfl, rfl, k _ F1 H1 e1 (.bl _)⟩
  exact ⟨PE.wk (pe_cmpR op_isBl ha pe_bl (nomark _)) key, fun _ => pt_of (pt_cmpR op_isBl ha pe_bl (nomark _)) key⟩
theorem both_notB {a : Expr} {f : Ex} {pos p2 : Pos} {j : Nat} {b : Bool} (ha : PE X a (tD X.mg W f)) : Both X W (.Compare a [.IsNot] [.Constant (.bool b) j p2] pos) (c1 (notBoolD b) f) := by
  have key : ∀ (σ : L2.St) (H : Hp) (Q : VK), tD X.mg W (c1 (notBoolD b) f) σ H Q → tOp rNotB (tD X.mg W f) (tC (.bl b)) σ H Q := fun σ H Q q => by
    obtain ⟨r, F, rel, w⟩ := q
    refine tD_seq rel w fun d v F1 H1 _ e1 rel1 h1 w1 => ?_
    obtain ⟨z, e3, k⟩ := Want.nox w1
    cases h1 <;> simp only [notBoolD, reduceCtorEq, R.ok.injEq] at e3
    subst e3
    exact ⟨_, b, rfl, rfl, k _ F1 H1 e1 (.bl _)⟩
  exact ⟨PE.wk (pe_cmpR op_notBl ha pe_bl (nomark _)) key, fun _ => pt_of (pt_cmpR op_notBl ha pe_bl (nomark _)) key⟩
theorem marks2 {o1 o2 : CmpOp} {b d : Expr} {g : PyData → PyData → R PyData} (h2 : ordOf o2 = some g) : lastMarks [o1, o2] [b, d] = false := by
  show behindInMarks o2 d = false
  refine nomark d ?_ ?_
  · intro e; subst e; simp [ordOf] at h2
  · intro e; subst e; simp [ordOf] at h2
theorem both_chain {a b d : Expr} {o1 o2 : CmpOp} {u v : PyData → PyData → R PyData} {f g k : Ex} {pos : Pos} (hu : X.A.units + 65 < cLine) (h1 : ordOf o1 = some u) (h2 : ordOf o2 = some v) (ha : PE X a (tD X.mg W f)) (hb : PE X b (tD X.mg W g)) (hd : PE X d (tD X.mg W k)) :
    Both X W (.Compare a [o1, o2] [b, d] pos) (cCh u v f g k) := by
  have key : ∀ (σ : L2.St) (H : Hp) (Q : VK), tD X.mg W (cCh u v f g k) σ H Q → tChain (rD2 u) (rD2 v) (tD X.mg W f) (tD X.mg W g) (tD X.mg W k) σ H Q := fun σ H Q q => by
    obtain ⟨r, F, rel, w⟩ := q
    refine tD_seq rel w fun x xv F1 H1 _ e1 rel1 hx w1 => ?_
    refine tD_seq rel1 w1 fun y yv F2 H2 _ e2 rel2 hy w2 => ?_
    cases q : u x y with
    | ok z =>
      rw [q] at w2
      refine ⟨F2, x, y, z, rel2.sub, Dd.mono e2.ff _ _ hx, hy, q, fun zv F3 H3 e3 hz => ?_⟩
      have w2 : Want X.mg W σ F2 H2 (match z with | .bool true => (k r).bind fun e => (v y e).nox | .bool false => .ok (.bool false) | _ => .bad) _ := w2
      cases hz with
      | bl bb =>
        cases bb with
        | true =>
          refine ⟨true, rfl, ?_⟩
          rw [if_pos rfl]
          refine tD_seq (rel2.ext e3) (Want.at e3 w2) fun m mv F4 H4 _ e4 rel4 hm w4 => ?_
          obtain ⟨z2, e5, kk⟩ := Want.nox w4
          exact ⟨F4, y, m, z2, rel4.sub, Dd.mono (e3.trans e4).ff _ _ hy, hm, e5, fun v3 F5 H5 e6 h3 => kk v3 F5 H5 ((((e1.trans e2).trans e3).trans e4).trans e6) h3⟩
        | false =>
          refine ⟨false, rfl, ?_⟩
          rw [if_neg (by decide)]
          exact w2 _ F3 H3 ((e1.trans e2).trans e3) (.bl _)
      | _ => exact w2.elim
    | exc x => rw [q] at w2; exact w2.elim
    | bad => rw [q] at w2; exact w2.elim
  exact ⟨PE.wk (pe_chain (dop_ord hu h1) (dop_ord hu h2) ha hb hd (marks2 h2)) key, fun _ => pt_of (pt_chain (dop_ord hu h1) (dop_ord hu h2) ha hb hd (marks2 h2)) key⟩
/-! ### and, or, not -/
theorem cT_not {f : Ex} {r : En} : cT (c1 notD f) r = (cT f r).bind fun b => .ok (!b) := by
  unfold cT c1
  cases f r with
  | ok d => cases d <;> rfl
  | exc x => rfl
  | bad => rfl
theorem both_not {a : Expr} {f : Ex} {pos : Pos} (ok : okTest a = true) (ha : Both X W a f) : Both X W (.UnaryOp .Not a pos) (c1 notD f) := by
  refine ⟨PE.wk (pe_not ha.1) fun σ H Q q => ?_, fun _ => PT.wk (pt_not (ha.2 ok)) fun σ H Q q => ?_⟩
  · obtain ⟨r, F, rel, w⟩ := q
    refine tD_seq rel w fun d v F1 H1 _ e1 rel1 h1 w1 => ?_
    obtain ⟨z, e3, k⟩ := Want.nox w1
    cases h1 <;> simp only [notD, reduceCtorEq, R.ok.injEq] at e3
    subst e3
    exact ⟨_, rfl, k _ F1 H1 e1 (.bl _)⟩
  · obtain ⟨r, F, rel, w⟩ := q
    rw [cT_not] at w
    exact tDT_seq rel w fun b F1 H1 _ e1 rel1 w1 => w1 F1 H1 e1
theorem cT_and {f g : Ex} {r : En} : cT (cAnd f g) r = (cT f r).bind fun b => if b then cT g r else .ok false := by
  unfold cT cAnd
  cases f r with
  | ok d => cases d with
    | bool b => cases b <;> rfl
    | _ => rfl
  | exc x => rfl
  | bad => rfl
theorem cT_or {f g : Ex} {r : En} : cT (cOr f g) r = (cT f r).bind fun b => if b then .ok true else cT g r := by
  unfold cT cOr
  cases f r with
  | ok d => cases d with
    | bool b => cases b <;> rfl
    | _ => rfl
  | exc x => rfl
  | bad => rfl
theorem t_andV {mg : Str → Option Value} {f g : Ex} {σ : L2.St} {H : Hp} {Q : VK} (h : tD mg W (cAnd f g) σ H Q) : tAndV (tD mg W f) (tD mg W g) σ H Q := by
  obtain ⟨r, F, rel, w⟩ := h
  refine tD_seq rel w fun d v F1 H1 _ e1 rel1 h1 w1 => ?_
  cases h1 with
  | bl b =>
    refine ⟨b, rfl, ?_⟩
    cases b with
    | true => rw [if_pos rfl]; exact ⟨r, F1, rel1, w1.mono (Ext.refl rel1.sub) fun d k v F2 H2 e2 hd => k v F2 H2 (e1.trans e2) hd⟩
    | false => rw [if_neg (by decide)]; exact w1 _ F1 H1 e1 (.bl _)
  | _ => exact w1.elim
theorem t_orV {mg : Str → Option Value} {f g : Ex} {σ : L2.St} {H : Hp} {Q : VK} (h : tD mg W (cOr f g) σ H Q) : tOrV (tD mg W f) (tD mg W g) σ H Q := by
  obtain ⟨r, F, rel, w⟩ := h
  refine tD_seq rel w fun d v F1 H1 _ e1 rel1 h1 w1 => ?_
  cases h1 with
  | bl b =>
    refine ⟨b, rfl, ?_⟩
    cases b with
    | false => rw [if_neg (by decide)]; exact ⟨r, F1, rel1, w1.mono (Ext.refl rel1.sub) fun d k v F2 H2 e2 hd => k v F2 H2 (e1.trans e2) hd⟩
    | true => rw [if_pos rfl]; exact w1 _ F1 H1 e1 (.bl _)
  | _ => exact w1.elim
theorem t_andT {mg : Str → Option Value} {f g : Ex} {σ : L2.St} {H : Hp} {Q : Bool → Hp → Prop} (h : tDT mg W (cT (cAnd f g)) σ H Q) : tAnd (tDT mg W (cT f)) (tDT mg W (cT g)) σ H Q := by
  obtain ⟨r, F, rel, w⟩ := h
  rw [cT_and] at w
  refine tDT_seq rel w fun b F1 H1 _ e1 rel1 w1 => ?_
  cases b with
  | true => rw [if_pos rfl]; exact ⟨r, F1, rel1, Want.mono (Ext.refl rel1.sub) w1 fun d k F2 H2 e2 => k F2 H2 (e1.trans e2)⟩
  | false => rw [if_neg (by decide)]; exact w1 F1 H1 e1
theorem t_orT {mg : Str → Option Value} {f g : Ex} {σ : L2.St} {H : Hp} {Q : Bool → Hp → Prop} (h : tDT mg W (cT (cOr f g)) σ H Q) : tOr (tDT mg W (cT f)) (tDT mg W (cT g)) σ H Q := by
  obtain ⟨r, F, rel, w⟩ := h
  rw [cT_or] at w
  refine tDT_seq rel w fun b F1 H1 _ e1 rel1 w1 => ?_
  cases b with
  | false => rw [if_neg (by decide)]; exact ⟨r, F1, rel1, Want.mono (Ext.refl rel1.sub) w1 fun d k F2 H2 e2 => k F2 H2 (e1.trans e2)⟩
  | true => rw [if_pos rfl]; exact w1 F1 H1 e1
theorem pd_bool {op : BoolOp} {r : Expr → Ex} {pos : Pos} (h : ∀ e, Both X W e (r e)) : ∀ es : List Expr, es.all okTest = true → PE X (.BoolOp op es pos) (tD X.mg W (boolE op r es)) ∧ (es ≠ [] → PW X (.BoolOp op es pos) (tDT X.mg W (cT (boolE op r es))))
  | [], _ => ⟨PE.no, fun z => absurd rfl z⟩
  | [a], ok => by
    have o1 : okTest a = true := by simpa using ok
    cases op with
    | And => exact ⟨pe_one (h a).1, fun _ => pw_and1 ((h a).2 o1)⟩
    | Or => exact ⟨pe_one (h a).1, fun _ => pw_or1 ((h a).2 o1)⟩
  | a :: b :: es, ok => by
    have o1 : okTest a = true := by simp at ok; exact ok.1
    have o2 : (b :: es).all okTest = true := by simp at ok ⊢; exact ok.2
    have ih := pd_bool h (b :: es) o2 (op := op) (pos := pos)
    cases op with
    | And => exact ⟨PE.wk (pe_and (h a).1 ih.1) fun _ _ _ q => t_andV q, fun _ => ⟨fun wh pins s σ H Q I q => (pw_and ((h a).2 o1) (ih.2 (by simp))).run wh pins s σ H Q I (t_andT q)⟩⟩
    | Or => exact ⟨PE.wk (pe_or (h a).1 ih.1) fun _ _ _ q => t_orV q, fun _ => ⟨fun wh pins s σ H Q I q => (pw_or ((h a).2 o1) (ih.2 (by simp))).run wh pins s σ H Q I (t_orT q)⟩⟩
theorem both_bool {op : BoolOp} {r : Expr → Ex} {pos : Pos} (h : ∀ e, Both X W e (r e)) (es : List Expr) (ok : es.all okTest = true) : Both X W (.BoolOp op es pos) (boolE op r es) := by
  refine ⟨(pd_bool h es ok).1, fun _ => ?_⟩
  cases es with
  | nil => exact PT.no
  | cons a es => exact PW.pt ((pd_bool h (a :: es) ok).2 (by simp))
theorem pd_if {t a b : Expr} {k f g : Ex} {pos : Pos} (ht : PT X t (tDT X.mg W (cT k))) (ha : PE X a (tD X.mg W f)) (hb : PE X b (tD X.mg W g)) : PE X (.IfExp t a b pos) (tD X.mg W (cIf k f g)) := by
  refine PE.wk (pe_ifExp ht ha hb) fun σ H Q q => ?_
  obtain ⟨r, F, rel, w⟩ := q
  refine tDT_seq rel w fun z F1 H1 _ e1 rel1 w1 => ?_
  cases z with
  | true => rw [if_pos rfl]; exact ⟨r, F1, rel1, Want.mono (Ext.refl rel1.sub) w1 fun d k v F2 H2 e2 hd => k v F2 H2 (e1.trans e2) hd⟩
  | false => rw [if_neg (by decide)]; exact ⟨r, F1, rel1, Want.mono (Ext.refl rel1.sub) w1 fun d k v F2 H2 e2 hd => k v F2 H2 (e1.trans e2) hd⟩
/-! ### argument lists, displays, calls -/
theorem star_cons {e : Expr} {es : List Expr} {env : Env} (h : isStar e = false) : starEach (e :: es) env = (false, eval e env) :: starEach es env := by
  cases e <;> first | rfl | cases h
theorem star_all {env : Env} {pos : Pos} : ∀ es : List Expr, es.any isStar = false → (backTo pos (starEach es env)).any (·.1) = false
  | [], _ => rfl
  | e :: es, h => by
    simp only [List.any_cons, Bool.or_eq_false_iff] at h
    rw [star_cons h.1]
    have ih := star_all (env := env) (pos := pos) es h.2
    show (false || (backTo pos (starEach es env)).any (·.1)) = false
    rw [ih]; rfl
theorem pa_args {r : Expr → Ex} (h : ∀ e, PE X e (tD X.mg W (r e))) : ∀ es : List Expr, es.any isStar = false → PA X es (tDA X.mg W (argsE r es))
  | [], _ => PA.wk pa_nil fun σ H Q q => by
    obtain ⟨r, F, rel, w⟩ := q
    exact w [] F H (Ext.refl rel.sub) .nil
  | e :: es, hs => by
    simp only [List.any_cons, Bool.or_eq_false_iff] at hs
    refine PA.wk (pa_cons (h e) (pa_args h es hs.2) (star_cons hs.1)) fun σ H Q q => ?_
    obtain ⟨r, F, rel, w⟩ := q
    refine tD_seq rel w fun d v F1 H1 _ e1 rel1 h1 w1 => ?_
    refine tDA_seq rel1 w1 fun ds vs F2 H2 _ e2 rel2 h2 w2 => ?_
    exact w2 (v :: vs) F2 H2 (e1.trans e2) (.cons (Dd.mono e2.ff _ _ h1) h2)
theorem pa_any {r : Expr → Ex} (h : ∀ e, PE X e (tD X.mg W (r e))) (es : List Expr) : PA X es (tDA X.mg W (args r es)) := by
  unfold args
  split
  · exact ⟨fun pos pins s σ H Q I q => by obtain ⟨_, _, _, w⟩ := q; exact w.elim⟩
  · rename_i hs
    exact pa_args h es (by simpa using hs)
theorem pd_tup {r : Expr → Ex} {es : List Expr} {k : Nat} {pos : Pos} (h : ∀ e, PE X e (tD X.mg W (r e))) : PE X (.Tuple es k pos) (tD X.mg W (cTup (args r es))) := by
  refine PE.wk (pe_tup (pa_any h es)) fun σ H Q q => ?_
  obtain ⟨r, F, rel, w⟩ := q
  refine tDA_seq rel w fun ds vs F1 H1 _ e1 rel1 h1 w1 => ?_
  split at w1
  · rename_i hle
    refine ⟨by rw [h1.len]; exact hle, fun p np => ?_⟩
    exact w1 _ _ _ (e1.trans (Ext.new rel1.sub np)) (.tup (Rd.of upd_same) (DdA.mono (same_upd (Same.free rel1.sub np)) _ _ h1))
  · exact w1.elim
/-- a new list, told with its place -/
theorem pl_lst {r : Expr → Ex} {es : List Expr} {pos : Pos} (h : ∀ e, PE X e (tD X.mg W (r e))) : PE X (.List es pos) (tDL X.mg W (cLst (args r es))) := by
  refine PE.wk (pe_lst (pa_any h es)) fun σ H Q q => ?_
  obtain ⟨r, F, rel, w⟩ := q
  refine tDA_seq rel w fun ds vs F1 H1 _ e1 rel1 h1 w1 => ?_
  split at w1
  · rename_i hle
    refine ⟨by rw [h1.len]; exact hle, fun p np => ?_⟩
    exact w1 p vs F1 _ (e1.trans (Ext.newO rel1.sub np)) (Same.free e1.hh np) (Same.free rel1.sub np) upd_same h1
  · exact w1.elim
/-- frozen at once -/
theorem t_ofL {mg : Str → Option Value} {f : Exl} {σ : L2.St} {H : Hp} {Q : VK} (q : tD mg W (cL f) σ H Q) : tDL mg W f σ H Q := by
  obtain ⟨r, F, rel, w⟩ := q
  refine ⟨r, F, rel, ?_⟩
  unfold cL at w
  cases q : f r with
  | ok ds =>
    rw [q] at w
    intro a vs F' H' e1 n1 n2 hh hd
    refine w (.ref a) (upd F' a (.lst vs)) H' ⟨e1.ff.trans (same_upd n2), e1.hh, fun b o eb => ?_, fun b hb nb => ?_⟩ (.lst (Rd.of upd_same) (DdA.mono (same_upd n2) _ _ hd))
    · by_cases hba : b = a
      · subst hba; rw [upd_same] at eb; cases eb; exact hh
      · rw [upd_ne hba] at eb; exact e1.sub _ _ eb
    · have hba : b ≠ a := fun z => hb (by rw [z]; exact n1)
      rw [upd_ne hba]; exact e1.out b hb nb
  | exc x => rw [q] at w; exact w
  | bad => rw [q] at w; exact w
theorem pd_ofL {e : Expr} {f : Exl} (h : PE X e (tDL X.mg W f)) : PE X e (tD X.mg W (cL f)) := PE.wk h fun _ _ _ q => t_ofL q
theorem pd_call (Ft : Fits X c W lv) {x : Str} {n : Nat} {g : List PyData → R PyData} {r : Expr → Ex} {es : List Expr} {p pos : Pos} (hx : c.isGl x = true) (ho : okName x = true) (hf : c.T.fns.lookup x = some (n, g)) (hne : es ≠ [])
    (h : ∀ e, PE X e (tD X.mg W (r e))) : PE X (.Call (.Name x p) es [] pos) (tD X.mg W (cCall n g (args r es))) := by
  by_cases hs : es.any isStar = true
  · refine ⟨fun pins s σ H Q I q => ?_⟩
    obtain ⟨r', F, rel, w⟩ := q
    unfold cCall args at w
    rw [if_pos hs] at w
    exact w.elim
  · have hs : es.any isStar = false := by simpa using hs
    cases es with
    | nil => exact absurd rfl hne
    | cons e es =>
      have hs' := hs
      simp only [List.any_cons, Bool.or_eq_false_iff] at hs'
      obtain ⟨f, fd, ps, hl, e1, e2, e3, e4⟩ := Ft.tab.fn x n g hf
      refine PE.wk (pe_callS (E := WE W) e4 Ft.room (Ft.gl hx) e1 e2 e3 (fun σ => passAt Ft.tk σ) (pa_any h (e :: es)) (okName_parts ho).1 (star_cons hs'.1) (star_all es hs'.2)) fun σ H Q q => ?_
      obtain ⟨r', F, rel, w⟩ := q
      refine tDA_seq rel w fun ds vs F1 H1 _ e1 rel1 h1 w1 => ?_
      split at w1
      · rename_i hn
        refine ⟨by rw [h1.len]; exact hn, F1, ds, rel1.sub, h1, ?_⟩
        cases q : g ds with
        | ok d => rw [q] at w1; exact fun v F2 H2 e5 hd => w1 v F2 H2 (e1.trans e5) hd
        | exc x => rw [q] at w1; exact w1
        | bad => rw [q] at w1; exact w1
      · exact w1.elim
/-- .. of a def that gives a new list -/
theorem pl_call (Ft : Fits X c W lv) {x : Str} {n : Nat} {g : List PyData → R (List PyData)} {r : Expr → Ex} {e : Expr} {es : List Expr} {p pos : Pos} (hx : c.isGl x = true) (ho : okName x = true) (hf : c.T.fnl.lookup x = some (n, g)) (hs : (e :: es).any isStar = false)
    (h : ∀ e, PE X e (tD X.mg W (r e))) : PE X (.Call (.Name x p) (e :: es) [] pos) (tDL X.mg W (cCallL n g (argsE r (e :: es)))) := by
  have hs' := hs
  simp only [List.any_cons, Bool.or_eq_false_iff] at hs'
  obtain ⟨f, fd, ps, hl, e1, e2, e3, e4⟩ := Ft.tab.fnl x n g hf
  refine PE.wk (pe_callS (E := WE W) e4 Ft.room (Ft.gl hx) e1 e2 e3 (fun σ => passAt Ft.tk σ) (pa_args h (e :: es) hs) (okName_parts ho).1 (star_cons hs'.1) (star_all es hs'.2)) fun σ H Q q => ?_
  obtain ⟨r', F, rel, w⟩ := q
  refine tDA_seq rel w fun ds vs F1 H1 _ e1 rel1 h1 w1 => ?_
  split at w1
  · rename_i hn
    refine ⟨by rw [h1.len]; exact hn, F1, ds, rel1.sub, h1, ?_⟩
    cases q : g ds with
    | ok d => rw [q] at w1; exact fun a us F2 H2 e5 n1 n2 hh hd => w1 a us F2 H2 (e1.trans e5) (Same.free e1.hh n1) n2 hh hd
    | exc x => rw [q] at w1; exact w1
    | bad => rw [q] at w1; exact w1
  · exact w1.elim
theorem pd_call0 (Ft : Fits X c W lv) {x : Str} {n : Nat} {g : List PyData → R PyData} {p pos : Pos} (hx : c.isGl x = true) (ho : okName x = true) (hf : c.T.fns.lookup x = some (n, g)) :
    PE X (.Call (.Name x p) [] [] pos) (tD X.mg W (cCall0 n g)) := by
  obtain ⟨f, fd, ps, hl, e1, e2, e3, e4⟩ := Ft.tab.fn x n g hf
  refine PE.wk (pe_call0 (E := E0) e4 Ft.room (Ft.gl hx) e1 e2 e3 .nil passL (okName_parts ho).1) fun σ H Q q => ?_
  obtain ⟨r', F, rel, w⟩ := q
  unfold cCall0 at w
  split at w
  · rename_i hn
    obtain ⟨d, e5, k⟩ := Want.nox w
    refine ⟨by simp [hn], F, [], rel.sub, .nil, ?_⟩
    rw [e5]
    exact k
  · exact w.elim
/-! ### built-ins -/
theorem t_cb1 {mg : Str → Option Value} {o : PyData → R PyData} {f : Ex} {σ : L2.St} {H : Hp} {Q : VK} (h : tD mg W (c1 o f) σ H Q) : tCB (rDc1 o) (tCons (tD mg W f) tNil) σ H Q := by
  obtain ⟨r, F, rel, w⟩ := h
  refine tD_seq rel w fun d v F1 H1 _ e1 rel1 h1 w1 => ?_
  obtain ⟨z, e3, k⟩ := Want.nox w1
  exact ⟨v, rfl, F1, d, z, rel1.sub, h1, e3, fun v3 F3 H3 e4 h3 => k v3 F3 H3 (e1.trans e4) h3⟩
theorem t_cb2 {mg : Str → Option Value} {o : PyData → PyData → R PyData} {f g : Ex} {σ : L2.St} {H : Hp} {Q : VK} (h : tD mg W (c2 o f g) σ H Q) : tCB (rDc2 o) (tCons (tD mg W f) (tCons (tD mg W g) tNil)) σ H Q := by
  obtain ⟨r, F, rel, w⟩ := h
  refine tD_seq rel w fun d v F1 H1 _ e1 rel1 h1 w1 => ?_
  refine tD_seq rel1 w1 fun d2 v2 F2 H2 _ e2 rel2 h2 w2 => ?_
  obtain ⟨z, e3, k⟩ := Want.nox w2
  exact ⟨v, v2, rfl, F2, d, d2, z, rel2.sub, Dd.mono e2.ff _ _ h1, h2, e3, fun v3 F3 H3 e4 h3 => k v3 F3 H3 ((e1.trans e2).trans e4) h3⟩
theorem pd_b1 {x : Str} {id : String} {o : PyData → R PyData} {e : Expr} {f : Ex} {p pos : Pos} (hc : CallR X (.builtin id) (rDc1 o)) (hg : Gl X x) (hm : X.mg x = none) (hv : bootBuiltins x = some (.builtin id)) (hn : x ≠ "__name__") (hd : (x == ("__debug__" : Str)) = false)
    (hs : isStar e = false) (h : PE X e (tD X.mg W f)) : PE X (.Call (.Name x p) [e] [] pos) (tD X.mg W (c1 o f)) :=
  PE.wk (pe_callB hc hg hm hv (pa_cons h pa_nil (star_cons hs)) hn hd (star_cons hs) rfl) fun _ _ _ q => t_cb1 q
theorem pd_t1 {x : Str} {id : String} {o : PyData → R PyData} {e : Expr} {f : Ex} {p pos : Pos} (hc : CallR X (.type id) (rDc1 o)) (hg : Gl X x) (hm : X.mg x = none) (hv : bootBuiltins x = some (.type id)) (hn : x ≠ "__name__") (hd : (x == ("__debug__" : Str)) = false)
    (hs : isStar e = false) (h : PE X e (tD X.mg W f)) : PE X (.Call (.Name x p) [e] [] pos) (tD X.mg W (c1 o f)) :=
  PE.wk (pe_callTy hc hg hm hv (pa_cons h pa_nil (star_cons hs)) hn hd (star_cons hs) rfl) fun _ _ _ q => t_cb1 q
theorem pd_b2 {x : Str} {id : String} {o : PyData → PyData → R PyData} {e e2 : Expr} {f g : Ex} {p pos : Pos} (hc : CallR X (.builtin id) (rDc2 o)) (hg : Gl X x) (hm : X.mg x = none) (hv : bootBuiltins x = some (.builtin id)) (hn : x ≠ "__name__") (hd : (x == ("__debug__" : Str)) = false)
    (hs : isStar e = false) (hs2 : isStar e2 = false) (h : PE X e (tD X.mg W f)) (h2 : PE X e2 (tD X.mg W g)) : PE X (.Call (.Name x p) [e, e2] [] pos) (tD X.mg W (c2 o f g)) :=
  PE.wk (pe_callB hc hg hm hv (pa_cons h (pa_cons h2 pa_nil (star_cons hs2)) (star_cons hs)) hn hd (star_cons hs) (star_all [e2] (by simp [hs2]))) fun _ _ _ q => t_cb2 q
/-- len of a slot -/
theorem pd_lenV (Ft : Fits X c W lv) {y : Str} {i : Nat} {p p2 pos : Pos} (ho : okName y = true) (hi : c.slot y = some i) (hg : Gl X "len") (hm : X.mg "len" = none) : PE X (.Call (.Name "len" p) [.Name y p2] [] pos) (tD X.mg W (cLenV i)) := by
  refine PE.wk (pe_callB call_len_seq hg hm PySem.boot_len (pa_cons (pd_slot Ft ho hi) pa_nil)) fun σ H Q q => ?_
  obtain ⟨r, F, rel, w⟩ := q
  unfold cLenV at w
  split at w
  · rename_i d e
    obtain ⟨v, e1, e2⟩ := rel.at_ i _ e
    obtain ⟨z, e3, k⟩ := Want.nox w
    refine ⟨v, e1, ?_⟩
    cases e2 with
    | lst h1 a1 =>
      simp only [lenD, R.ok.injEq] at e3; subst e3
      rw [← a1.len] at k
      exact ⟨_, _, rfl, .inl (.inl (Rd.mono rel.sub h1)), k _ F H (Ext.refl rel.sub) (.int _)⟩
    | tup h1 a1 =>
      simp only [lenD, R.ok.injEq] at e3; subst e3
      rw [← a1.len] at k
      exact ⟨_, _, rfl, .inr (.inl (Rd.mono rel.sub h1)), k _ F H (Ext.refl rel.sub) (.int _)⟩
    | _ => simp [lenD] at e3
  · rename_i ds e
    obtain ⟨v, e1, a, vs, rfl, n1, h1, a1⟩ := rel.at_ i _ e
    rw [← a1.len] at w
    exact ⟨_, e1, _, _, rfl, .inl (.inl (Rd.of h1)), w _ F H (Ext.refl rel.sub) (.int _)⟩
  · exact w.elim
/-- an item of a slot -/
theorem pd_ixV (Ft : Fits X c W lv) {y : Str} {i : Nat} {k : Expr} {g : Ex} {p pos : Pos} (ho : okName y = true) (hi : c.slot y = some i) (hk : PE X k (tD X.mg W g)) (hs : PlainIx k) : PE X (.Subscript (.Name y p) k pos) (tD X.mg W (cIxV i g)) := by
  refine ⟨fun pins s σ H Q I q => ?_⟩
  obtain ⟨r, F, rel, w⟩ := q
  unfold cIxV at w
  split at w
  · rename_i d e
    obtain ⟨v, e1, e2⟩ := rel.at_ i _ e
    refine (pe_ix dix (pd_slot Ft ho hi) hk hs).run pins s σ H Q I ⟨v, e1, ?_⟩
    refine tD_seq rel w fun kd kv F1 H1 _ ex1 rel1 h1 w1 => ?_
    obtain ⟨z, e3, kk⟩ := Want.nox w1
    exact ⟨F1, d, kd, z, rel1.sub, Dd.mono ex1.ff _ _ e2, h1, e3, fun v3 F3 H3 e4 h3 => kk v3 F3 H3 (ex1.trans e4) h3⟩
  · rename_i ds e
    obtain ⟨v, e1, a, vs, rfl, n1, h1, a1⟩ := rel.at_ i _ e
    refine (pe_ix ix_list (pd_slot Ft ho hi) hk hs).run pins s σ H Q I ⟨_, e1, ?_⟩
    refine tD_seq rel w fun kd kv F1 H1 _ ex1 rel1 hk1 w1 => ?_
    obtain ⟨z, e3, kk⟩ := Want.nox w1
    cases hk1 <;> simp only [idxD, reduceCtorEq] at e3
    obtain ⟨v2, e5, e6⟩ := atI_dd (DdA.mono ex1.ff _ _ a1) (itemAt_ok e3)
    exact ⟨_, _, _, v2, rfl, rfl, .inl (Rd.of (ex1.hh _ _ h1)), e5, kk v2 F1 H1 ex1 e6⟩
  · exact w.elim
theorem dslot_ok {y : Str} {i : Nat} (h : c.dslot y = some i) : okName y = true ∧ c.slot y = some i ∧ c.mu.contains (1000 + i) = true := by
  unfold Cc.dslot at h
  split at h
  · rename_i ho
    split at h
    · rename_i j ej
      split at h
      · rename_i hm
        have := Option.some.inj h
        subst this
        exact ⟨ho, ej, hm⟩
      · cases h
    · cases h
  · cases h
theorem valV_dk (n : Int) : ∀ ks : List Int, (valV (ks.map fun k => ((Sum.inl k : Key), V.bl true)) (Sum.inl n)).isSome = ks.contains n
  | [] => rfl
  | k :: ks => by
    rw [List.map_cons, List.contains_cons]
    by_cases h : k = n
    · subst h
      rw [valV_pos rfl]; simp
    · rw [valV_neg (fun e => h (by cases e; rfl)), valV_dk n ks]
      have : (n == k) = false := by simpa using fun e => h e.symm
      rw [this, Bool.false_or]
/-- k in x, k not in x, x a dict -/
theorem both_inV (Ft : Fits X c W lv) {a : Expr} {y : Str} {i : Nat} {f : Ex} {p pos : Pos} (hd : c.dslot y = some i) (ha : PE X a (tD X.mg W f)) : Both X W (.Compare a [.In] [.Name y p] pos) (cInV i true f) ∧ Both X W (.Compare a [.NotIn] [.Name y p] pos) (cInV i false f) := by
  obtain ⟨ho, hi, _⟩ := dslot_ok hd
  have hu : X.A.units + 1 < cLine := by have := Ft.un; omega
  have hv := pd_slot Ft (pos := p) ho hi
  have key : ∀ (z : Bool) (σ : L2.St) (H : Hp) (Q : VK), tD X.mg W (cInV i z f) σ H Q → tD X.mg W f σ H fun y H1 => tVar i σ H1 fun x H2 => ∃ a o, x = .ref a ∧ DGet H2 a y o ∧ Q (.bl (o.isSome == z)) H2 := fun z σ H Q q => by
    obtain ⟨r, F, rel, w⟩ := q
    refine tD_seq rel w fun d v F1 H1 hfr e1 rel1 h1 w1 => ?_
    clear hfr
    split at w1
    · rename_i ks n q
      obtain ⟨v2, e3, a, od, rfl, hF⟩ := rel1.at_ i _ q
      cases h1
      refine ⟨_, e3, a, _, rfl, .inl ⟨_, .inl n, .inr ⟨od, rel1.sub _ _ hF⟩, rfl, rfl⟩, ?_⟩
      rw [valV_dk]
      exact w1 _ F1 H1 e1 (.bl _)
    · exact w1.elim
  have kT : ∀ (σ : L2.St) (H : Hp) (Q : VK), tD X.mg W (cInV i true f) σ H Q → tDIn (tD X.mg W f) (tVar i) σ H Q := fun σ H Q q => by
    have := key true σ H Q q
    simp only [beq_true] at this; exact this
  have kF : ∀ (σ : L2.St) (H : Hp) (Q : VK), tD X.mg W (cInV i false f) σ H Q → tDNotIn (tD X.mg W f) (tVar i) σ H Q := fun σ H Q q => by
    have := key false σ H Q q
    simp only [beq_false] at this; exact this
  exact ⟨⟨PE.wk (pe_cmp (pc_din hu ha hv) rfl) kT, fun _ => PT.wk (pt_cmp (pc_din hu ha hv) rfl) fun σ H Q q => kT _ _ _ (tDT_of q)⟩,
    ⟨PE.wk (pe_cmp (pc_dnotin hu ha hv) rfl) kF, fun _ => PT.wk (pt_cmp (pc_dnotin hu ha hv) rfl) fun σ H Q q => kF _ _ _ (tDT_of q)⟩⟩
theorem plain_ix {k : Expr} (h : ∀ lo hi p, k ≠ .Slice lo hi none p) : PlainIx k := by
  intro o i
  cases k <;> try rfl
  rename_i lo hi st p
  cases st with
  | none => exact absurd rfl (h lo hi p)
  | some e => rfl
theorem po_opt {r : Expr → Ex} (h : ∀ e, PE X e (tD X.mg W (r e))) : ∀ o : Option Expr, PO X o (fun σ H Q => ∃ rr F, Rel F H σ rr ∧ Want X.mg W σ F H (sliceO r o rr) fun i => ∀ F' H', Ext F H F' H' → Q i H')
  | none => ⟨fun pins s σ H Q I q => by
    obtain ⟨rr, F, rel, w⟩ := q
    exact po_none.run pins s σ H Q I (w F H (Ext.refl rel.sub))⟩
  | some e => ⟨fun pins s σ H Q I q => by
    obtain ⟨rr, F, rel, w⟩ := q
    refine (po_some (h e)).run pins s σ H Q I ?_
    refine tD_seq rel w fun d v F1 H1 _ e1 rel1 h1 w1 => ?_
    obtain ⟨z, e3, k⟩ := Want.nox w1
    cases h1 <;> simp only [asI, reduceCtorEq, R.ok.injEq] at e3
    subst e3
    exact ⟨_, rfl, k F1 H1 e1⟩⟩
theorem pd_slice {r : Expr → Ex} {v : Expr} {lo hi : Option Expr} {p2 pos : Pos} (h : ∀ e, PE X e (tD X.mg W (r e))) : PE X (.Subscript v (.Slice lo hi none p2) pos) (tD X.mg W (cSlc (r v) (sliceO r lo) (sliceO r hi))) := by
  refine PE.wk (pe_slice dsl (h v) (po_opt h lo) (po_opt h hi)) fun σ H Q q => ?_
  obtain ⟨rr, F, rel, w⟩ := q
  refine tD_seq rel w fun d v F1 H1 _ e1 rel1 h1 w1 => ?_
  refine ⟨rr, F1, rel1, ?_⟩
  cases q1 : sliceO r lo rr with
  | exc x => rw [q1] at w1; exact w1
  | bad => rw [q1] at w1; exact w1
  | ok l =>
    rw [q1] at w1
    intro F2 H2 e2
    have w2 := Want.at e2 w1
    refine ⟨rr, F2, rel1.ext e2, ?_⟩
    cases q2 : sliceO r hi rr with
    | exc x => rw [R.bind_ok, q2] at w2; exact w2
    | bad => rw [R.bind_ok, q2] at w2; exact w2
    | ok l2 =>
      rw [R.bind_ok, q2] at w2
      intro F3 H3 e3
      obtain ⟨z, e4, k⟩ := Want.nox (Want.at e3 w2)
      exact ⟨F3, d, z, (rel1.ext e2 |>.ext e3).sub, Dd.mono (e2.trans e3).ff _ _ h1, e4, fun v3 F4 H4 e5 h3 => k v3 F4 H4 (((e1.trans e2).trans e3).trans e5) h3⟩
/-- isinstance(e, T), T a built-in class -/
def tyName : Ty → String
  | .int => "int" | .bool => "bool" | .tuple => "tuple" | .list => "list" | .str => "str"
theorem tyOf_boot {y : Str} {t : Ty} (h : tyOf y = some t) : bootBuiltins y = some (.type (tyName t)) := by
  unfold tyOf at h
  split at h
  · rename_i e; subst e; cases h; decide +kernel
  split at h
  · rename_i e; subst e; cases h; decide +kernel
  split at h
  · rename_i e; subst e; cases h; decide +kernel
  split at h
  · rename_i e; subst e; cases h; decide +kernel
  split at h
  · rename_i e; subst e; cases h; decide +kernel
  · cases h
theorem isi_dd {K : PySem.W.Frag} {F H : Hp} {v : V} {d : PyData} {t : Ty} (sub : Same F H) (h : Dd F v d) : ∃ u, TyX K H v u ∧ PySem.W.kitOne K u (.type (tyName t)) = some (isiB t d) := by
  cases h with
  | non => refine ⟨_, .base .non, kit_ty ?_⟩; cases t <;> (simp only [isiB, tyName]; decide +kernel)
  | bl b => refine ⟨_, .base (.bl b), kit_ty ?_⟩; cases t <;> (simp only [isiB, tyName]; decide +kernel)
  | int i => refine ⟨_, .base (.int i), kit_ty ?_⟩; cases t <;> (simp only [isiB, tyName]; decide +kernel)
  | str x => refine ⟨_, .base (.str x), kit_ty ?_⟩; cases t <;> (simp only [isiB, tyName]; decide +kernel)
  | lst r a =>
    rcases Rd.mono sub r with r | ⟨o, r⟩
    · refine ⟨_, .base (.lst r), kit_ty ?_⟩; cases t <;> (simp only [isiB, tyName]; decide +kernel)
    · refine ⟨_, .base (.frz r), kit_ty ?_⟩; cases t <;> (simp only [isiB, tyName]; decide +kernel)
  | tup r a =>
    rcases Rd.mono sub r with r | ⟨o, r⟩
    · refine ⟨_, .base (.tup r), kit_ty ?_⟩; cases t <;> (simp only [isiB, tyName]; decide +kernel)
    · refine ⟨_, .fTuple r, kit_ty ?_⟩; cases t <;> (simp only [isiB, tyName]; decide +kernel)
theorem pd_isi {e : Expr} {f : Ex} {y : Str} {t : Ty} {p p2 pos : Pos} (hg : Gl X "isinstance") (hm : X.mg "isinstance" = none) (hgy : Gl X y) (hmy : X.mg y = none) (hoy : okName y = true) (ht : tyOf y = some t) (hs : isStar e = false) (h : PE X e (tD X.mg W f)) :
    PE X (.Call (.Name "isinstance" p) [e, .Name y p2] [] pos) (tD X.mg W (c1 (isiD t) f)) := by
  obtain ⟨o1, _, o3⟩ := okName_parts hoy
  have hT : PE X (.Name y p2) (tC (.ty (tyName t))) := pe_bltn hgy hmy (tyOf_boot ht) rfl o3 o1
  refine PE.wk (pe_callB call_isi hg hm boot_isinstance (pa_cons h (pa_cons hT pa_nil) (star_cons hs)) (by decide) (by decide) (star_cons hs) rfl) fun σ H Q q => ?_
  obtain ⟨r, F, rel, w⟩ := q
  refine tD_seq rel w fun d v F1 H1 _ e1 rel1 h1 w1 => ?_
  obtain ⟨z, e3, k⟩ := Want.nox w1
  have ez : z = .bool (isiB t d) := by
    cases d <;> simp only [isiD, reduceCtorEq, R.ok.injEq] at e3 <;> exact e3.symm
  subst ez
  obtain ⟨u, hu1, hu2⟩ := isi_dd (K := X.K) (t := t) rel1.sub h1
  exact ⟨v, _, u, _, _, rfl, .ty _, hu1, hu2, k _ F1 H1 e1 (.bl _)⟩
end
end Rt
/-! Rt, part B4: what is walked, targets, comprehensions, the evaluator of expressions is right. -/
namespace Rt
open PySem PySem.Spec PyProof.Rows L2

/-! ### slots set -/
theorem Rel.none {F H : Hp} {σ : L2.St} {r : En} (x : Rel F H σ r) (i : Nat) : Rel F H (σ.set i none) (r.set i none) := by
  refine ⟨x.sub, by simp [x.len], fun j s q => ?_, fun j k v hjk h1 h2 o1 o2 => ?_⟩
  · by_cases hj : i = j
    · subst hj
      by_cases hl : i < r.length
      · rw [List.getElem?_set_self hl] at q; cases q
      · rw [List.getElem?_eq_none (by simpa using hl)] at q; cases q
    · rw [List.getElem?_set_ne hj] at q ⊢
      exact x.at_ j s q
  · have gone : ∀ {m : Nat} {w : V}, (σ.set i Option.none)[m]? = some (some w) → m ≠ i := fun {m w} h e => by
      subst e
      by_cases hl : m < σ.length
      · rw [List.getElem?_set_self hl] at h; cases h
      · rw [List.getElem?_eq_none (by simpa using hl)] at h; cases h
    have n1 := gone h1
    have n2 := gone h2
    rw [List.getElem?_set_ne (Ne.symm n1)] at h1 o1
    rw [List.getElem?_set_ne (Ne.symm n2)] at h2 o2
    exact x.apart j k v hjk h1 h2 o1 o2
theorem Rel.wipe {F H : Hp} {σ : L2.St} {r : En} (x : Rel F H σ r) : ∀ vs : List Nat, Rel F H (L2.wipe σ vs) (wipeE r vs)
  | [] => x
  | v :: vs => (x.wipe vs).none v
/-- a slot stored: data, or a list of its own that no other slot bears -/
theorem Rel.put {F H : Hp} {σ : L2.St} {r : En} {i : Nat} {v : V} {s : Sl} (x : Rel F H σ r) (hi : i < r.length) (hs : SlOk F H v s)
    (ha : isOwn (some (some s)) = true → ∀ j, j ≠ i → σ[j]? = some (some v) → isOwn r[j]? = true → False) : Rel F H (σ.set i (some v)) (r.set i (some s)) := by
  have hi2 : i < σ.length := by rw [← x.len]; exact hi
  refine ⟨x.sub, by simp [x.len], fun j t q => ?_, fun j k w hjk h1 h2 o1 o2 => ?_⟩
  · by_cases hj : i = j
    · subst hj
      rw [List.getElem?_set_self hi] at q
      rw [List.getElem?_set_self hi2]
      have : s = t := by simpa using q
      subst this
      exact ⟨v, rfl, hs⟩
    · rw [List.getElem?_set_ne hj] at q ⊢
      exact x.at_ j t q
  · by_cases hj : i = j
    · subst hj
      rw [List.getElem?_set_self hi2] at h1
      rw [List.getElem?_set_self hi] at o1
      have : v = w := by simpa using h1
      subst this
      rw [List.getElem?_set_ne hjk] at h2 o2
      exact ha o1 k (Ne.symm hjk) h2 o2
    · rw [List.getElem?_set_ne hj] at h1 o1
      by_cases hk : i = k
      · subst hk
        rw [List.getElem?_set_self hi2] at h2
        rw [List.getElem?_set_self hi] at o2
        have : v = w := by simpa using h2
        subst this
        exact ha o2 j (Ne.symm hj) h1 o1
      · rw [List.getElem?_set_ne hk] at h2 o2
        exact x.apart j k w hjk h1 h2 o1 o2
theorem Rel.dat {F H : Hp} {σ : L2.St} {r : En} {i : Nat} {v : V} {d : PyData} (x : Rel F H σ r) (hi : i < r.length) (hd : Dd F v d) : Rel F H (σ.set i (some v)) (r.set i (some (.dat d))) :=
  x.put hi hd fun z => by simp [isOwn] at z

/-! ### targets -/
def Chg (ws : List Nat) (σ σ' : L2.St) : Prop := σ'.length = σ.length ∧ ∀ i, i ∉ ws → σ'[i]? = σ[i]?
theorem Chg.trans {ws us : List Nat} {σ σ1 σ2 : L2.St} (a : Chg ws σ σ1) (b : Chg us σ1 σ2) : Chg (ws ++ us) σ σ2 :=
  ⟨b.1.trans a.1, fun i hi => by
    rw [List.mem_append, not_or] at hi
    rw [b.2 i hi.2, a.2 i hi.1]⟩
def tDG (ws : List Nat) (g : Tg) : TG := fun v σ H Q => ∃ r F d r', Rel F H σ r ∧ Dd F v d ∧ g d r = .ok r' ∧ ∀ σ', (∀ H0, Rel F H0 σ r → Rel F H0 σ' r') → Chg ws σ σ' → Q σ' H
def tDGs (ws : List Nat) (g : Tgs) : TGs := fun vs σ H Q => ∃ r F ds r', Rel F H σ r ∧ DdA F vs ds ∧ g ds r = .ok r' ∧ ∀ σ', (∀ H0, Rel F H0 σ r → Rel F H0 σ' r') → Chg ws σ σ' → Q σ' H
theorem PG.wk {X : Cx} {e : Expr} {t t' : TG} (h : PG X e t) (w : ∀ v σ H Q, t' v σ H Q → t v σ H Q) : PG X e t' := ⟨fun pins s σ H v u Q I rv q => h.run pins s σ H v u Q I rv (w _ _ _ _ q)⟩
theorem PGs.wk {X : Cx} {e : List Expr} {t t' : TGs} (h : PGs X e t) (w : ∀ v σ H Q, t' v σ H Q → t v σ H Q) : PGs X e t' := ⟨fun pins s σ H v u Q I rv q => h.run pins s σ H v u Q I rv (w _ _ _ _ q)⟩
section
variable {X : Cx} {c : Cc} {W : WX} {lv : Nat}
theorem Cc.slotW_ok {x : Str} {i : Nat} (h : c.slotW x = some i) : c.N[i]? = some x ∧ (c.sc.names.lookup x = some .local ∨ (c.sc.names.lookup x = some .cell ∧ c.cw x = true)) := by
  unfold Cc.slotW at h
  split at h
  · rename_i e; exact ⟨find_slot h, .inl e⟩
  · rename_i e
    split at h
    · rename_i ht; exact ⟨find_slot h, .inr ⟨e, ht⟩⟩
    · cases h
  · cases h
theorem pg_slot (Ft : Fits X c W lv) {x : Str} {i : Nat} {pos : Pos} (h : c.slotW x = some i) : PG X (.Name x pos) (gName i) := by
  obtain ⟨h1, h2⟩ := Cc.slotW_ok h
  refine pg_name (by rw [Ft.hN]; exact Ft.nd) (by rw [Ft.hN]; exact h1) ?_ ?_
  · rw [Ft.sc]
    rcases h2 with e | ⟨e, _⟩
    · exact .inl e
    · exact .inr e
  · rcases h2 with e | ⟨e, ht⟩
    · exact .inr (by rw [Ft.sc]; exact e)
    · exact .inl (Ft.top x ht)
theorem no_star_tg {env : Env} : ∀ es : List Expr, es.any isStar = false → (assignEach es env).findIdx? (·.1) = none ∧ (assignEach es env).length = es.length
  | [], _ => ⟨rfl, rfl⟩
  | e :: es, h => by
    simp only [List.any_cons, Bool.or_eq_false_iff] at h
    obtain ⟨i1, i2⟩ := no_star_tg (env := env) es h.2
    have hc : assignEach (e :: es) env = (false, assign e env) :: assignEach es env := by
      cases e <;> first | rfl | cases h.1
    rw [hc]
    refine ⟨?_, by simp [i2]⟩
    rw [List.findIdx?_cons]
    simp [i1]
theorem pg_tgt (Ft : Fits X c W lv) : ∀ (n : Nat) (e : Expr), PG X e (tDG (tslots c n e) (tgtE c n e))
  | 0, e => ⟨fun pins s σ H v u Q I rv q => by obtain ⟨_, _, _, _, _, _, z, _⟩ := q; cases z⟩
  | n + 1, e => by
    have bad : ∀ {e : Expr} {ws : List Nat}, PG X e (tDG ws gBad) := fun {e ws} => ⟨fun pins s σ H v u Q I rv q => by obtain ⟨_, _, _, _, _, _, z, _⟩ := q; cases z⟩
    cases e with
    | Name x pos =>
      show PG X (.Name x pos) (tDG (c.slotW x).toList (if okName x then (match c.slotW x with | some i => gN i | none => gBad) else gBad))
      split
      · split
        · rename_i i e
          refine PG.wk (pg_slot Ft e) fun v σ H Q q => ?_
          obtain ⟨r, F, d, r', rel, hd, hg, k⟩ := q
          unfold gN at hg
          split at hg
          · rename_i hi
            have : r' = r.set i (some (.dat d)) := (R.ok.inj hg).symm
            subst this
            refine k _ (fun H0 x => x.dat hi hd) ⟨by simp, fun j hj => ?_⟩
            have : i ≠ j := fun z => hj (by simp [e, z])
            rw [List.getElem?_set_ne this]
          · cases hg
        · exact bad
      · exact bad
    | Tuple es kk pos =>
      show PG X (.Tuple es kk pos) (tDG (es.flatMap fun e => tslots c n e) (if es.any isStar then gBad else gT (es.foldr (fun e h => gCons (tgtE c n e) h) gNil)))
      split
      · exact bad
      · rename_i hs
        have hs : es.any isStar = false := by simpa using hs
        have all : ∀ es : List Expr, es.any isStar = false → PGs X es (tDGs (es.flatMap fun e => tslots c n e) (es.foldr (fun e h => gCons (tgtE c n e) h) gNil)) := by
          intro es
          induction es with
          | nil =>
            intro _
            refine PGs.wk pgs_nil fun vs σ H Q q => ?_
            obtain ⟨r, F, ds, r', rel, hd, hg, k⟩ := q
            cases ds with
            | nil =>
              cases hd
              have : r' = r := (R.ok.inj hg).symm
              subst this
              exact ⟨rfl, k σ (fun _ x => x) ⟨rfl, fun _ _ => rfl⟩⟩
            | cons _ _ => cases hg
          | cons e es ih =>
            intro h
            simp only [List.any_cons, Bool.or_eq_false_iff] at h
            refine PGs.wk (pgs_cons (pg_tgt Ft n e) (ih h.2) (by cases e <;> first | rfl | cases h.1)) fun vs σ H Q q => ?_
            obtain ⟨r, F, ds, r', rel, hd, hg, k⟩ := q
            cases ds with
            | nil => cases hg
            | cons d ds =>
              cases hd with
              | cons h1 h2 =>
                have hg : ((tgtE c n e d r).bind fun r1 => es.foldr (fun e h => gCons (tgtE c n e) h) gNil ds r1) = .ok r' := hg
                cases q : tgtE c n e d r with
                | ok r1 =>
                  rw [q] at hg
                  refine ⟨_, _, rfl, r, F, d, r1, rel, h1, q, fun σ1 rel1 c1 => ?_⟩
                  refine ⟨r1, F, ds, r', rel1 _ rel, h2, hg, fun σ2 rel2 c2 => k σ2 (fun H0 x => rel2 H0 (rel1 H0 x)) ?_⟩
                  rw [List.flatMap_cons]
                  exact c1.trans c2
                | exc x => rw [q] at hg; cases hg
                | bad => rw [q] at hg; cases hg
        obtain ⟨n1, n2⟩ := no_star_tg (env := X.env) es hs
        refine PG.wk (pg_tup Ft.calm (all es hs) n2 n1) fun v σ H Q q => ?_
        obtain ⟨r, F, d, r', rel, hd, hg, k⟩ := q
        cases hd with
        | tup h1 a1 =>
          have hg : es.foldr (fun e h => gCons (tgtE c n e) h) gNil _ r = .ok r' := hg
          have len_ok : ∀ (es : List Expr) (ds : List PyData) (r r' : En), es.foldr (fun e h => gCons (tgtE c n e) h) gNil ds r = .ok r' → ds.length = es.length := by
            intro es
            induction es with
            | nil =>
              intro ds r r' h
              cases ds with
              | nil => rfl
              | cons _ _ => cases h
            | cons e es ih =>
              intro ds r r' h
              cases ds with
              | nil => cases h
              | cons d ds =>
                have h : ((tgtE c n e d r).bind fun r1 => es.foldr (fun e h => gCons (tgtE c n e) h) gNil ds r1) = .ok r' := h
                cases q : tgtE c n e d r with
                | ok r1 => rw [q] at h; simp [ih ds r1 r' h]
                | exc x => rw [q] at h; cases h
                | bad => rw [q] at h; cases h
          exact ⟨_, _, rfl, .inl (Rd.mono rel.sub h1), by rw [a1.len]; exact len_ok _ _ _ _ hg, r, F, _, r', rel, a1, hg, k⟩
        | _ => cases hg
    | _ => exact bad

/-! ### what is walked -/
def ItD (F : Hp) (J : It) (ds : List PyData) : Prop := ∀ (i : Nat) (F' H : Hp), Same F F' → Same F' H →
  (∀ d, ds[i]? = some d → J.go i H ∧ ∀ x H', J.yld i H x H' → ∃ F'', Ext F' H F'' H' ∧ Dd F'' x d) ∧ (ds.length ≤ i → J.stop i H)
def tDI (mg : Str → Option Value) (W : WX) (f : Exl) : TI := fun σ H R => ∃ r F, Rel F H σ r ∧ Want mg W σ F H (f r) fun ds => ∀ J F' H', Ext F H F' H' → ItD F' J ds → R J H'
theorem PI.no {tg e : Expr} {mg : Str → Option Value} : PI X tg e (tDI mg W iBad) := ⟨fun pins s σ H R I q => by obtain ⟨_, _, _, w⟩ := q; exact w.elim⟩
theorem it_list {F : Hp} {K : PySem.W.Frag} {a : Addr} {xs : List V} {ds : List PyData} (h : Rd F a (.lst xs)) (hd : DdA F xs ds) : ItD F (Itl K a) ds := by
  intro i F' H s1 s2
  have hq : SqL K H a xs := .inl (Rd.mono (s1.trans s2) h)
  refine ⟨fun d e => ?_, fun hl => ⟨xs, hq, by rw [hd.len]; exact hl⟩⟩
  obtain ⟨v, e1, e2⟩ := hd.get e
  refine ⟨⟨xs, v, hq, e1⟩, fun x H' y => ?_⟩
  obtain ⟨rfl, y⟩ := y
  have ex := y xs hq
  rw [e1] at ex
  have : v = x := by simpa using ex
  subst this
  exact ⟨F', Ext.refl s2, Dd.mono s1 _ _ e2⟩
end
end Rt
/-! Rt, part B5: walks, comprehensions, the evaluator of expressions. -/
namespace Rt
open PySem PySem.Spec PyProof.Rows L2
section
variable {X : Cx} {c : Cc} {W : WX} {lv : Nat} {F : Hp} {K : PySem.W.Frag} {a b : Addr} {xs ys : List V} {ds es : List PyData}
theorem it_tup (h : Rd F a (.tup xs)) (hd : DdA F xs ds) : ItD F (Itt K a) ds := by
  intro i F' H s1 s2
  have hq : SqT K H a xs := .inl (Rd.mono (s1.trans s2) h)
  refine ⟨fun d e => ?_, fun hl => ⟨xs, hq, by rw [hd.len]; exact hl⟩⟩
  obtain ⟨v, e1, e2⟩ := hd.get e
  refine ⟨⟨xs, v, hq, e1⟩, fun x H' y => ?_⟩
  obtain ⟨rfl, y⟩ := y
  have ex := y xs hq
  rw [e1] at ex
  have : v = x := by simpa using ex
  subst this
  exact ⟨F', Ext.refl s2, Dd.mono s1 _ _ e2⟩
theorem it_range (lo hi : Int) : ItD F (Itr lo (hi - lo).toNat) (rangeL lo hi) := by
  intro i F' H s1 s2
  refine ⟨fun d e => ?_, fun hl => ?_⟩
  · unfold rangeL at e
    rw [List.getElem?_map] at e
    by_cases hi : i < (hi - lo).toNat
    · rw [List.getElem?_range hi] at e
      have : PyData.int (lo + (i : Int)) = d := by simpa using e
      subst this
      exact ⟨hi, fun x H' y => by
        obtain ⟨rfl, rfl⟩ := y
        exact ⟨F', Ext.refl s2, .int _⟩⟩
    · rw [List.getElem?_eq_none (by simpa using hi)] at e
      cases e
  · unfold rangeL at hl
    simp at hl
    show (hi - lo).toNat ≤ i
    omega
theorem enum_get : ∀ (ds : List PyData) (k i : Nat) (d : PyData), (enumFrom k ds)[i]? = some d → ∃ e, ds[i]? = some e ∧ d = .tuple [.int ((k + i : Nat) : Int), e]
  | [], k, i, d, h => by simp [enumFrom] at h
  | x :: r, k, 0, d, h => by
    simp [enumFrom] at h
    exact ⟨x, rfl, by rw [← h]; simp⟩
  | x :: r, k, i + 1, d, h => by
    obtain ⟨e, e1, e2⟩ := enum_get r (k + 1) i d (by simpa [enumFrom] using h)
    refine ⟨e, by simpa using e1, ?_⟩
    rw [e2]
    have : k + 1 + i = k + (i + 1) := by omega
    rw [this]
theorem enum_len : ∀ (ds : List PyData) (k : Nat), (enumFrom k ds).length = ds.length
  | [], _ => rfl
  | x :: r, k => by simp [enumFrom, enum_len r (k + 1)]
theorem pair_new {F H : Hp} {T : Addr} {x y : V} {d e : PyData} (s : Same F H) (n : H T = none) (hx : Dd F x d) (hy : Dd F y e) : Ext F H (upd F T (.tup [x, y])) (upd H T (.tup [x, y])) ∧ Dd (upd F T (.tup [x, y])) (.ref T) (.tuple [d, e]) := by
  refine ⟨Ext.new s n, .tup (Rd.of upd_same) ?_⟩
  have m := same_upd (o := .tup [x, y]) (Same.free s n)
  exact .cons (Dd.mono m _ _ hx) (.cons (Dd.mono m _ _ hy) .nil)
theorem it_enumL (h : Rd F a (.lst xs)) (hd : DdA F xs ds) : ItD F (Ite K a) (enumFrom 0 ds) := by
  intro i F' H s1 s2
  have hq : SqL K H a xs := .inl (Rd.mono (s1.trans s2) h)
  refine ⟨fun d e => ?_, fun hl => ⟨xs, hq, by rw [hd.len]; rw [enum_len] at hl; exact hl⟩⟩
  obtain ⟨e0, e1, e2⟩ := enum_get ds 0 i d e
  subst e2
  obtain ⟨v, e3, e4⟩ := hd.get e1
  refine ⟨⟨xs, v, hq, e3⟩, fun x H' y => ?_⟩
  obtain ⟨T, w, rfl, nT, rfl, y⟩ := y
  have ex := y xs hq
  rw [e3] at ex
  have : v = w := by simpa using ex
  subst this
  obtain ⟨p1, p2⟩ := pair_new (x := .int ((i : Nat) : Int)) (y := v) s2 nT (.int _) (Dd.mono s1 _ _ e4)
  refine ⟨_, p1, ?_⟩
  rw [Nat.zero_add]
  exact p2
theorem it_enumT (h : Rd F a (.tup xs)) (hd : DdA F xs ds) : ItD F (ItE a xs) (enumFrom 0 ds) := by
  intro i F' H s1 s2
  have hq : Rd H a (.tup xs) := Rd.mono (s1.trans s2) h
  refine ⟨fun d e => ?_, fun hl => ⟨hq, by rw [hd.len]; rw [enum_len] at hl; exact hl⟩⟩
  obtain ⟨e0, e1, e2⟩ := enum_get ds 0 i d e
  subst e2
  obtain ⟨v, e3, e4⟩ := hd.get e1
  refine ⟨⟨hq, v, e3⟩, fun x H' y => ?_⟩
  obtain ⟨T, w, rfl, nT, rfl, ex⟩ := y
  rw [e3] at ex
  have : v = w := by simpa using ex
  subst this
  obtain ⟨p1, p2⟩ := pair_new (x := .int ((i : Nat) : Int)) (y := v) s2 nT (.int _) (Dd.mono s1 _ _ e4)
  refine ⟨_, p1, ?_⟩
  rw [Nat.zero_add]
  exact p2
theorem zip_get : ∀ (ds es : List PyData) (i : Nat) (d : PyData), (zipL ds es)[i]? = some d → ∃ x y, ds[i]? = some x ∧ es[i]? = some y ∧ d = .tuple [x, y]
  | [], es, i, d, h => by simp [zipL] at h
  | x :: r, [], i, d, h => by simp [zipL] at h
  | x :: r, y :: s, 0, d, h => by
    simp [zipL] at h
    exact ⟨x, y, rfl, rfl, h.symm⟩
  | x :: r, y :: s, i + 1, d, h => by
    obtain ⟨x', y', e1, e2, e3⟩ := zip_get r s i d (by simpa [zipL] using h)
    exact ⟨x', y', by simpa using e1, by simpa using e2, e3⟩
theorem zip_len : ∀ (ds es : List PyData), (zipL ds es).length = min ds.length es.length
  | [], es => by simp [zipL]
  | x :: r, [] => by simp [zipL]
  | x :: r, y :: s => by simp [zipL, zip_len r s]
theorem it_zipL (h : Rd F a (.lst xs)) (hd : DdA F xs ds) (h' : Rd F b (.lst ys)) (hd' : DdA F ys es) : ItD F (Itz K a b) (zipL ds es) := by
  intro i F' H s1 s2
  have hq : SqL K H a xs := .inl (Rd.mono (s1.trans s2) h)
  have hq' : SqL K H b ys := .inl (Rd.mono (s1.trans s2) h')
  refine ⟨fun d e => ?_, fun hl => ⟨xs, ys, hq, hq', by rw [hd.len, hd'.len]; rw [zip_len] at hl; omega⟩⟩
  obtain ⟨d1, d2, e1, e2, e3⟩ := zip_get ds es i d e
  subst e3
  obtain ⟨v, f1, g1⟩ := hd.get e1
  obtain ⟨u, f2, g2⟩ := hd'.get e2
  refine ⟨⟨xs, ys, v, u, hq, hq', f1, f2⟩, fun x H' y => ?_⟩
  obtain ⟨T, w, z, rfl, nT, rfl, y1, y2⟩ := y
  have ex := y1 xs hq
  have ey := y2 ys hq'
  rw [f1] at ex
  rw [f2] at ey
  have t1 : v = w := by simpa using ex
  have t2 : u = z := by simpa using ey
  subst t1 t2
  obtain ⟨p1, p2⟩ := pair_new s2 nT (Dd.mono s1 _ _ g1) (Dd.mono s1 _ _ g2)
  exact ⟨_, p1, p2⟩
theorem it_zipT (h : Rd F a (.tup xs)) (hd : DdA F xs ds) (h' : Rd F b (.tup ys)) (hd' : DdA F ys es) : ItD F (RZ.ItzT K a b) (zipL ds es) := by
  intro i F' H s1 s2
  have hq : SqT K H a xs := .inl (Rd.mono (s1.trans s2) h)
  have hq' : SqT K H b ys := .inl (Rd.mono (s1.trans s2) h')
  refine ⟨fun d e => ?_, fun hl => ⟨xs, ys, hq, hq', by rw [hd.len, hd'.len]; rw [zip_len] at hl; omega⟩⟩
  obtain ⟨d1, d2, e1, e2, e3⟩ := zip_get ds es i d e
  subst e3
  obtain ⟨v, f1, g1⟩ := hd.get e1
  obtain ⟨u, f2, g2⟩ := hd'.get e2
  refine ⟨⟨xs, ys, v, u, hq, hq', f1, f2⟩, fun x H' y => ?_⟩
  obtain ⟨T, w, z, rfl, nT, rfl, y1, y2⟩ := y
  have ex := y1 xs hq
  have ey := y2 ys hq'
  rw [f1] at ex
  rw [f2] at ey
  have t1 : v = w := by simpa using ex
  have t2 : u = z := by simpa using ey
  subst t1 t2
  obtain ⟨p1, p2⟩ := pair_new s2 nT (Dd.mono s1 _ _ g1) (Dd.mono s1 _ _ g2)
  exact ⟨_, p1, p2⟩

theorem pi_val {tg e : Expr} {f : Ex} (h : PE X e (tD X.mg W f)) : PI X tg e (tDI X.mg W (iVal f)) := by
  refine ⟨fun pins s σ H R I q => ?_⟩
  obtain ⟨r, F, rel, w⟩ := q
  unfold iVal at w
  cases q : f r with
  | exc x =>
    rw [q] at w
    refine (pi_list h).run pins s σ H R I ⟨r, F, rel, ?_⟩
    rw [q]; exact w
  | bad => rw [q] at w; exact w.elim
  | ok d =>
    rw [q] at w
    obtain ⟨ds, e1, k⟩ := Want.nox w
    cases d <;> simp only [itemsD, reduceCtorEq, Rt.R.ok.injEq] at e1
    · subst e1
      refine (pi_list h).run pins s σ H R I ⟨r, F, rel, ?_⟩
      rw [q]
      intro v F1 H1 ex hd
      cases hd with
      | lst h1 a1 => exact ⟨_, rfl, ⟨_, .inl (Rd.mono ex.sub h1)⟩, k _ F1 H1 ex (it_list h1 a1)⟩
    · subst e1
      refine (pi_tup h).run pins s σ H R I ⟨r, F, rel, ?_⟩
      rw [q]
      intro v F1 H1 ex hd
      cases hd with
      | tup h1 a1 => exact ⟨_, rfl, ⟨_, .inl (Rd.mono ex.sub h1)⟩, k _ F1 H1 ex (it_tup h1 a1)⟩
theorem PI.wk {tg e : Expr} {t t' : TI} (h : PI X tg e t) (w : ∀ σ H R, t' σ H R → t σ H R) : PI X tg e t' := ⟨fun pins s σ H R I q => h.run pins s σ H R I (w _ _ _ q)⟩
theorem in62_iff {a : Int} (h : in62 a = true) : -(2 ^ 62) ≤ a ∧ a < 2 ^ 62 := by
  unfold in62 R62 at h
  simp only [Bool.and_eq_true, decide_eq_true_eq] at h
  omega
theorem pi_rng1 {tg e : Expr} {f : Ex} {p pos : Pos} (hg : Gl X "range") (hm : X.mg "range" = none) (hs : isStar e = false) (h : PE X e (tD X.mg W f)) : PI X tg (.Call (.Name "range" p) [e] [] pos) (tDI X.mg W (iRng1 f)) := by
  refine PI.wk (pi_range1 hg hm (pa_cons h pa_nil (star_cons hs)) (star_cons hs)) fun σ H R q => ?_
  obtain ⟨r, F, rel, w⟩ := q
  refine tD_seq rel w fun d v F1 H1 _ e1 rel1 h1 w1 => ?_
  cases h1 with
  | int n =>
    have w1 : Want X.mg W σ F1 H1 (if in62 n then .ok (rangeL 0 n) else .bad) _ := w1
    split at w1
    · rename_i hb
      obtain ⟨b1, b2⟩ := in62_iff hb
      refine ⟨n, rfl, b1, b2, w1 _ F1 H1 e1 ?_⟩
      have := it_range (F := F1) 0 n
      simpa using this
    · exact w1.elim
  | _ => exact w1.elim
theorem pi_rng2 {tg e e2 : Expr} {f g : Ex} {p pos : Pos} (hg : Gl X "range") (hm : X.mg "range" = none) (hs : isStar e = false) (hs2 : isStar e2 = false) (h : PE X e (tD X.mg W f)) (h2 : PE X e2 (tD X.mg W g)) :
    PI X tg (.Call (.Name "range" p) [e, e2] [] pos) (tDI X.mg W (iRng2 f g)) := by
  refine PI.wk (pi_range2 hg hm (pa_cons h (pa_cons h2 pa_nil (star_cons hs2)) (star_cons hs)) (by rw [star_cons hs, star_cons hs2]; rfl) (star_cons hs2)) fun σ H R q => ?_
  obtain ⟨r, F, rel, w⟩ := q
  refine tD_seq rel w fun d v F1 H1 _ e1 rel1 h1 w1 => ?_
  refine tD_seq rel1 w1 fun d2 v2 F2 H2 _ e2 rel2 h2 w2 => ?_
  cases h1 with
  | int n =>
    cases h2 with
    | int m =>
      have w2 : Want X.mg W σ F2 H2 (if in62 n && in62 m then .ok (rangeL n m) else .bad) _ := w2
      split at w2
      · rename_i hb
        simp only [Bool.and_eq_true] at hb
        obtain ⟨b1, b2⟩ := in62_iff hb.1
        obtain ⟨b3, b4⟩ := in62_iff hb.2
        exact ⟨_, _, rfl, ⟨b1, b2, b3, b4⟩, w2 _ F2 H2 (e1.trans e2) (it_range _ _)⟩
      · exact w2.elim
    | _ => exact w2.elim
  | _ => cases h2 <;> exact w2.elim
theorem it_rng3 (lo st : Int) (n : Nat) : ItD F (Itc lo st n) (rng3L lo st n) := by
  intro i F' H s1 s2
  refine ⟨fun d e => ?_, fun hl => ?_⟩
  · unfold rng3L at e
    rw [List.getElem?_map] at e
    by_cases hi : i < n
    · rw [List.getElem?_range hi] at e
      have : PyData.int (lo + (i : Int) * st) = d := by simpa using e
      subst this
      exact ⟨hi, fun x H' y => by
        obtain ⟨rfl, rfl⟩ := y
        exact ⟨F', Ext.refl s2, .int _⟩⟩
    · rw [List.getElem?_eq_none (by simpa using hi)] at e
      cases e
  · unfold rng3L at hl
    simp at hl
    show n ≤ i
    omega
theorem rgc_pos {a b c : Int} (ha : in62 a = true) (hb : in62 b = true) (hc : 0 < c) (hc2 : c < 1000000000) : RgC a b c ((b - a + c - 1) / c).toNat := by
  obtain ⟨a1, a2⟩ := in62_iff ha
  obtain ⟨b1, b2⟩ := in62_iff hb
  have hsz : Builtin.Range.rangeSize a b c = (((b - a + c - 1) / c).toNat : Int) := by
    unfold Builtin.Range.rangeSize
    rw [if_pos hc]
    split
    · have e : b - a + c - 1 = b - a - 1 + c * 1 := by omega
      rw [e, Int.add_mul_ediv_left _ _ (by omega)]
      have := Int.ediv_nonneg (a := b - a - 1) (b := c) (by omega) (by omega)
      omega
    · have : (b - a + c - 1) / c ≤ 0 := by
        have h1 : (b - a + c - 1) / c ≤ (c - 1) / c := Int.ediv_le_ediv hc (by omega)
        rw [Int.ediv_eq_zero_of_lt (a := c - 1) (by omega) (by omega)] at h1
        exact h1
      omega
  refine ⟨by omega, by omega, ?_, hsz⟩
  unfold Builtin.Range.small
  have hd0 : 0 ≤ Builtin.Range.rangeSize a b c ∧ Builtin.Range.rangeSize a b c < 2 ^ 63 := by
    refine ⟨by omega, ?_⟩
    unfold Builtin.Range.rangeSize
    rw [if_pos hc]
    split
    · have := Int.ediv_le_self (a := b - a - 1) c (by omega)
      omega
    · omega
  simp only [Builtin.Range.rangeFitsLong, Bool.and_eq_true, Bool.or_eq_true, decide_eq_true_eq, beq_iff_eq, gt_iff_lt, hc, if_true]
  generalize Builtin.Range.rangeSize a b c = n at *
  omega
theorem pi_rng3 {tg e e2 e3 : Expr} {f g k : Ex} {p pos : Pos} (hg : Gl X "range") (hm : X.mg "range" = none) (hs : isStar e = false) (hs2 : isStar e2 = false) (hs3 : isStar e3 = false) (h : PE X e (tD X.mg W f)) (h2 : PE X e2 (tD X.mg W g)) (h3 : PE X e3 (tD X.mg W k)) :
    PI X tg (.Call (.Name "range" p) [e, e2, e3] [] pos) (tDI X.mg W (Rt.iRng3 f g k)) := by
  refine PI.wk (pi_range3 hg hm (pa_cons h (pa_cons h2 (pa_cons h3 pa_nil (star_cons hs3)) (star_cons hs2)) (star_cons hs)) (star_cons hs) (star_all [e2, e3] (by simp [hs2, hs3]))) fun σ H R q => ?_
  obtain ⟨r, F, rel, w⟩ := q
  refine tD_seq rel w fun d v F1 H1 _ e1 rel1 h1 w1 => ?_
  refine tD_seq rel1 w1 fun d2 v2 F2 H2 _ e2 rel2 h2 w2 => ?_
  refine tD_seq rel2 w2 fun d3 v3 F3 H3 _ e3 rel3 h3 w3 => ?_
  cases h1 with
  | int a =>
    cases h2 with
    | int b =>
      cases h3 with
      | int c =>
        have w3 : Want X.mg W σ F3 H3 (if in62 a && in62 b && decide (0 < c) && decide (c < 1000000000) then .ok (rng3L a c ((b - a + c - 1) / c).toNat) else .bad) _ := w3
        split at w3
        · rename_i hb
          simp only [Bool.and_eq_true, decide_eq_true_eq] at hb
          exact ⟨a, b, c, _, rfl, rgc_pos hb.1.1.1 hb.1.1.2 hb.1.2 hb.2, w3 _ F3 H3 ((e1.trans e2).trans e3) (it_rng3 _ _ _)⟩
        · exact w3.elim
      | _ => exact w3.elim
    | _ => cases h3 <;> exact w3.elim
  | _ => cases h2 <;> cases h3 <;> exact w3.elim
theorem pi_en {tg e : Expr} {f : Ex} {p pos : Pos} (ht : isTupE tg = true) (hg : Gl X "enumerate") (hm : X.mg "enumerate" = none) (hs : isStar e = false) (h : PE X e (tD X.mg W f)) : PI X tg (.Call (.Name "enumerate" p) [e] [] pos) (tDI X.mg W (Rt.iEnum f)) := by
  cases tg <;> try (cases ht; done)
  refine ⟨fun pins s σ H R I q => ?_⟩
  obtain ⟨r, F, rel, w⟩ := q
  unfold Rt.iEnum at w
  cases q : f r with
  | exc x =>
    rw [q] at w
    refine (pi_enum hg hm (pa_cons h pa_nil (star_cons hs)) (star_cons hs)).run pins s σ H R I ⟨r, F, rel, ?_⟩
    rw [q]; exact w
  | bad => rw [q] at w; exact w.elim
  | ok d =>
    rw [q] at w
    have w : Want X.mg W σ F H ((itemsD d).nox.bind fun ds => .ok (enumFrom 0 ds)) _ := w
    cases d with
    | list ds =>
      refine (pi_enum hg hm (pa_cons h pa_nil (star_cons hs)) (star_cons hs)).run pins s σ H R I ⟨r, F, rel, ?_⟩
      rw [q]
      intro v F1 H1 ex hd
      cases hd with
      | lst h1 a1 => exact ⟨_, _, rfl, .inl (Rd.mono ex.sub h1), w _ F1 H1 ex (it_enumL h1 a1)⟩
    | tuple ds =>
      refine (pi_enumT hg hm (pa_cons h pa_nil (star_cons hs)) (star_cons hs)).run pins s σ H R I ⟨r, F, rel, ?_⟩
      rw [q]
      intro v F1 H1 ex hd
      cases hd with
      | tup h1 a1 => exact ⟨_, _, rfl, Rd.mono ex.sub h1, w _ F1 H1 ex (it_enumT h1 a1)⟩
    | _ => exact w.elim
theorem pi_zp {tg e e2 : Expr} {f g : Ex} {p pos : Pos} (ht : isTupE tg = true) (hg : Gl X "zip") (hm : X.mg "zip" = none) (hs : isStar e = false) (hs2 : isStar e2 = false) (h : PE X e (tD X.mg W f)) (h2 : PE X e2 (tD X.mg W g)) :
    PI X tg (.Call (.Name "zip" p) [e, e2] [] pos) (tDI X.mg W (Rt.iZip f g)) := by
  cases tg <;> try (cases ht; done)
  refine PI.wk (RZ.pi_zipA hg hm (pa_cons h (pa_cons h2 pa_nil (star_cons hs2)) (star_cons hs)) (star_cons hs) (star_all [e2] (by simp [hs2]))) fun σ H R q => ?_
  obtain ⟨r, F, rel, w⟩ := q
  refine tD_seq rel w fun d v F1 H1 _ e1 rel1 h1 w1 => ?_
  refine tD_seq rel1 w1 fun d2 v2 F2 H2 _ e2 rel2 h2 w2 => ?_
  cases h1 with
  | lst r1 a1 =>
    cases h2 with
    | lst r2 a2 =>
      exact ⟨_, _, _, _, rfl, .inl ⟨.inl (Rd.mono (e2.ff.trans e2.sub) r1), .inl (Rd.mono e2.sub r2), w2 _ F2 H2 (e1.trans e2) (it_zipL (Rd.mono e2.ff r1) (DdA.mono e2.ff _ _ a1) r2 a2)⟩⟩
    | _ => exact w2.elim
  | tup r1 a1 =>
    cases h2 with
    | tup r2 a2 =>
      exact ⟨_, _, _, _, rfl, .inr ⟨.inl (Rd.mono (e2.ff.trans e2.sub) r1), .inl (Rd.mono e2.sub r2), w2 _ F2 H2 (e1.trans e2) (it_zipT (Rd.mono e2.ff r1) (DdA.mono e2.ff _ _ a1) r2 a2)⟩⟩
    | _ => exact w2.elim
  | _ => cases h2 <;> exact w2.elim
theorem it_keys {od : Obj} {ks : List Int} (h : F a = some (.frz od (dkO ks))) : ItD F (Itk a od (ks.map fun k => ((Sum.inl k : Key), V.bl true))) (ks.map .int) := by
  intro i F' H s1 s2
  have hq : H a = some (.frz od (.dK (ks.map fun k => ((Sum.inl k : Key), V.bl true)))) := s2 _ _ (s1 _ _ h)
  refine ⟨fun d e => ?_, fun hl => ⟨hq, by simpa using hl⟩⟩
  rw [List.getElem?_map] at e
  obtain ⟨k, e1, e2⟩ := Option.map_eq_some_iff.mp e
  subst e2
  have hi : i < ks.length := (List.getElem?_eq_some_iff.mp e1).1
  refine ⟨⟨hq, by simpa using hi⟩, fun x H' y => ?_⟩
  obtain ⟨rfl, k', v, e3, rfl⟩ := y
  rw [List.getElem?_map, e1] at e3
  have e3 := Option.some.inj e3
  have : (Sum.inl k : Key) = k' := congrArg Prod.fst e3
  subst this
  exact ⟨F', Ext.refl s2, .int _⟩
theorem pi_keyV (Ft : Fits X c W lv) {tg : Expr} {y : Str} {i : Nat} {p : Pos} (hd : c.dslot y = some i) : PI X tg (.Name y p) (tDI X.mg W (iKeyV i)) := by
  obtain ⟨ho, hi, _⟩ := dslot_ok hd
  refine PI.wk (pi_keys (pd_slot Ft (pos := p) ho hi)) fun σ H R q => ?_
  obtain ⟨r, F, rel, w⟩ := q
  unfold iKeyV at w
  split at w
  · rename_i ks e
    obtain ⟨v2, e3, a, od, rfl, hF⟩ := rel.at_ i _ e
    exact ⟨_, e3, a, od, rfl, .inl ⟨_, rel.sub _ _ hF, w _ F H (Ext.refl rel.sub) (it_keys hF)⟩⟩
  · exact w.elim
theorem Fits.free (Ft : Fits X c W lv) {x : Str} (h : c.free x = true) : Gl X x ∧ X.mg x = none ∧ okName x = true := by
  unfold Cc.free at h
  simp only [Bool.and_eq_true] at h
  exact ⟨Ft.gl h.1.1, Ft.tab.blt x h.1.2, h.2⟩
theorem pi_src (Ft : Fits X c W lv) {r : Expr → Ex} (h : ∀ e, PE X e (tD X.mg W (r e))) (tg it : Expr) : PI X tg it (tDI X.mg W (srcE c r tg it)) := by
  unfold srcE
  split
  · split
    · rename_i hf
      simp only [Bool.and_eq_true, Bool.not_eq_true'] at hf
      obtain ⟨f1, f2, f3⟩ := Ft.free hf.1
      split
      · rename_i e; subst e; exact pi_rng1 f1 f2 hf.2 (h _)
      · split
        · rename_i e; subst e
          split
          · rename_i ht; exact pi_en ht f1 f2 hf.2 (h _)
          · exact PI.no
        · exact pi_val (h _)
    · exact pi_val (h _)
  · split
    · rename_i hf
      simp only [Bool.and_eq_true, Bool.not_eq_true'] at hf
      obtain ⟨f1, f2, f3⟩ := Ft.free hf.1.1
      split
      · rename_i e; subst e; exact pi_rng2 f1 f2 hf.1.2 hf.2 (h _) (h _)
      · split
        · rename_i e; subst e
          split
          · rename_i ht; exact pi_zp ht f1 f2 hf.1.2 hf.2 (h _) (h _)
          · exact PI.no
        · exact pi_val (h _)
    · exact pi_val (h _)
  · split
    · rename_i hf
      simp only [Bool.and_eq_true, Bool.not_eq_true', beq_iff_eq] at hf
      obtain ⟨⟨⟨⟨hf, hx⟩, s1⟩, s2⟩, s3⟩ := hf
      subst hx
      obtain ⟨f1, f2, f3⟩ := Ft.free hf
      exact pi_rng3 f1 f2 s1 s2 s3 (h _) (h _) (h _)
    · exact pi_val (h _)
  · exact PI.no
  · split
    · rename_i i e; exact pi_keyV Ft e
    · exact pi_val (h _)
  · exact pi_val (h _)
/-- no set's display is walked -/
theorem src_set {r : Expr → Ex} {tg it : Expr} {rr : En} {x : List PyData} (h : srcE c r tg it rr = .ok x) : ∀ (env : Env) v, foldedSetIterable it env v = pure v := by
  intro env v
  cases it <;> first | rfl | (simp [srcE, iBad] at h)
end
end Rt
/-! Rt, part C2: reversed slices, methods of lists. -/
namespace Rt
open PySem PySem.Spec PyProof.Rows L2
section
variable {prog : Program} {w : World} {A : Around} {E : Value → Shared → Prop} {s : Shared}
theorem fm_some {α β : Type} {f : α → Option β} {g : α → β} : ∀ {l : List α}, (∀ x ∈ l, f x = some (g x)) → l.filterMap f = l.map g
  | [], _ => rfl
  | x :: l, h => by
    rw [List.filterMap_cons, h x (by simp), List.map_cons, fm_some fun y hy => h y (List.mem_cons_of_mem _ hy)]
theorem rev_pick (xs : Array Value) : ((List.range xs.size).filterMap fun (m : Nat) => xs[((xs.size : Int) - 1 + (m : Int) * (-1)).toNat]?).toArray = xs.toList.reverse.toArray := by
  congr 1
  obtain ⟨l⟩ := xs
  simp only [List.size_toArray]
  have e : ∀ m ∈ List.range l.length, (l.toArray[((l.length : Int) - 1 + (m : Int) * (-1)).toNat]?) = some (l.reverse.getD m .none) := by
    intro m hm
    rw [List.mem_range] at hm
    have e1 : ((l.length : Int) - 1 + (m : Int) * (-1)).toNat = l.length - 1 - m := by omega
    rw [e1]
    have h1 : l.length - 1 - m < l.length := by omega
    simp [List.getD, List.getElem?_reverse, hm, h1]
  refine (fm_some e).trans ?_
  refine List.ext_getElem? fun i => ?_
  by_cases hi : i < l.length
  · simp [hi, List.getD]
  · rw [List.getElem?_eq_none (by simp; omega), List.getElem?_eq_none (by simp; omega)]
theorem places_rev (n : Nat) : Builtin.Slice.slicePlaces ((n : Int) - 1) (-1) (-1) = n := by
  unfold Builtin.Slice.slicePlaces
  rw [if_neg (by decide)]
  split
  · have : (-(-1 : Int)) = 1 := rfl
    rw [this, Int.ediv_one]
    omega
  · omega
theorem applied_rev {sl : Addr} {vl vu : Value} {t : Tok} {n : Nat} {Q : Int × Int × Nat → Shared → Prop} (hs : s.heap.IsSliceOf sl vl vu (.int (-1) t)) (pl : IsPart vl none) (pu : IsPart vu none)
    (h : Q ((n : Int) - 1, -1, n) s) : wpAny (model prog w) A (Builtin.Slice.sliceApplied (.ref sl) (pure (n : Int))) Q E s := by
  obtain ⟨os, hos, hcs, hds⟩ := id hs
  unfold Builtin.Slice.sliceApplied Builtin.Slice.sliceFields
  refine wpAny_bind (wpAny_bind (wpAny_field hos hds (x := vl) rfl ?_))
  refine wpAny_bind (wpAny_field hos hds (x := vu) rfl ?_)
  refine wpAny_bind (wpAny_field hos hds (x := .int (-1) t) rfl (wpAny_pure ?_))
  refine wpAny_bind (slicePart_int ?_)
  show wpAny _ _ (if ((-1 : Int) == 0) = true then _ else _) _ _ s
  rw [if_neg (by decide)]
  refine wpAny_bind (HT.slicePart_ pl ?_)
  refine wpAny_bind (HT.slicePart_ pu ?_)
  refine wpAny_bind (wpAny_pure ?_)
  have e : Builtin.Slice.sliceAdjust none none (-1) (n : Int) = ((n : Int) - 1, -1) := rfl
  show wpAny _ _ (match Builtin.Slice.sliceAdjust none none (-1) (n : Int) with | (lo, hi) => pure (lo, (-1 : Int), Builtin.Slice.slicePlaces lo hi (-1))) _ _ s
  rw [e]
  show wpAny _ _ (pure ((n : Int) - 1, (-1 : Int), Builtin.Slice.slicePlaces ((n : Int) - 1) (-1) (-1))) _ _ s
  rw [places_rev]
  exact wpAny_pure h
theorem tuple_rev {t sl : Addr} {items : Array Value} {vl vu : Value} {k : Tok} {Q : Value → Shared → Prop} (ht : IsTup s.heap t items) (hs : s.heap.IsSliceOf sl vl vu (.int (-1) k)) (pl : IsPart vl none) (pu : IsPart vu none)
    (h : Q (.ref s.heap.objs.size) { s with heap := s.heap.push { cls := .type "tuple", data := .seq items.toList.reverse.toArray } }) (hsz : items.size ≤ sizeLine) : wpAny (model prog w) A (getItem (.ref t) (.ref sl)) Q E s := by
  have hok : sizeOk (.seq items.toList.reverse.toArray) := by
    show items.toList.reverse.toArray.size ≤ sizeLine
    simpa using hsz
  obtain ⟨os, hos, hcs, hds⟩ := id hs
  have hT : s.TypeIs (.ref sl) "slice" := ⟨os, hos, hcs⟩
  unfold getItem
  try with_reducible refine wpAny_holding ?_
  first | refine wpAny_bind (wpAny_pure ?_) | skip
  refine wpAny_bind (wpAny_sequenceKey ht.typeIs (by decide) ?_)
  refine wpAny_bind (wpAny_callSpecial?_slot (name := Str.ofString "__getitem__") ht.typeIs PyProof.Rows.slot_tuple_getitem ?_)
  refine wpAny_call_entry PyProof.Rows.slot_tuple_getitem ht.typeIs entry_tuple_getitem ?_ (args_tuple_getitem _ _)
  show wpAny _ _ (Builtin.Tuple.tupleItemsOf (.ref t) >>= _) _ _ s
  refine wpAny_bind (tupleItemsOf_ ht ?_)
  refine wpAny_bind (wpAny_typeOf hT ?_)
  rw [if_pos (by decide)]
  refine wpAny_bind (applied_rev hs pl pu ?_)
  have hno : ¬ ((((items.size : Int) - 1 == 0 && (-1 : Int) == 1 && items.size == items.size)) = true) := by
    intro q
    rw [Bool.and_eq_true, Bool.and_eq_true] at q
    exact absurd q.1.2 (by decide)
  show wpAny _ _ (if (((items.size : Int) - 1 == 0 && (-1 : Int) == 1 && items.size == items.size)) = true then _ else _) _ _ s
  rw [if_neg hno, rev_pick]
  first
    | exact wpAny_bind (m := Builtin.Tuple.tupleExact _) (wpAny_newObj_type (wpAny_pure ⟨_, rfl, wpAny_pure h⟩) hok)
    | exact wpAny_bind (m := Builtin.Tuple.tupleExact _) (wpAny_newObj_type (wpAny_bind (wpAny_pure (wpAny_pure ⟨_, rfl, wpAny_pure h⟩))) hok)
    | exact wpAny_bind (wpAny_bind (m := Builtin.Tuple.tupleExact _) (wpAny_newObj_type (wpAny_pure (wpAny_pure ⟨_, rfl, wpAny_pure h⟩)) hok))
    | exact wpAny_bind (wpAny_bind (m := Builtin.Tuple.tupleExact _) (wpAny_newObj_type (wpAny_pure ⟨_, rfl, wpAny_pure h⟩) hok))
end
section
variable {X : Cx} {c : Cc} {W : WX} {lv : Nat}
theorem DdA.rev {F : Hp} : ∀ {ds : List PyData} {vs : List V}, DdA F vs ds → DdA F vs.reverse ds.reverse
  | _, _, .nil => .nil
  | _, _, .cons h t => by
    rw [List.reverse_cons, List.reverse_cons]
    exact (DdA.rev t).app (DdA.one h)
theorem pd_rev {e : Expr} {f : Ex} {k : Nat} {p1 p2 p3 pos : Pos} (he : PE X e (tD X.mg W f)) : PE X (.Subscript e (.Slice none none (some (.UnaryOp .USub (.Constant (.int 1) k p1) p2)) p3) pos) (tD X.mg W (c1 revD f)) := by
  refine ⟨fun pins s σ H Q I h => ?_⟩
  have h0 := t_c1 h
  refine Subscript_ (thn (he.run pins s σ H _ I h0) fun v s1 ⟨x, H1, I1, r1, q1⟩ => ?_)
  obtain ⟨F, d, z, sub, hd, ho, q⟩ := q1
  have hst : PO X (some (.UnaryOp .USub (.Constant (.int 1) k p1) p2)) (tPart (tUn (rU fun i => .int (-i)) (tC (.int 1)))) :=
    po_some (pe_un un_neg pe_int)
  refine wpAny_Slice (thn (po_none.run pins s1 σ H1 (fun o H2 => o = none ∧ H2 = H1) I1 ⟨rfl, rfl⟩) ?_)
  intro vl s2 ⟨l, H2, I2, pl, el, e2⟩
  subst el e2
  refine thn (po_none.run pins s2 σ H2 (fun o H3 => o = none ∧ H3 = H2) I2 ⟨rfl, rfl⟩) ?_
  intro vu s3 ⟨u, H3, I3, pu, eu, e3⟩
  subst eu e3
  refine thn (hst.run pins s3 σ H3 (fun o H4 => o = some (-1) ∧ H4 = H3) I3 ⟨1, rfl, -1, rfl, rfl, rfl⟩) ?_
  intro vs s4 ⟨o, H4, I4, ps, eo, e4⟩
  subst eo e4
  have I5 : Inv X pins σ H4 { s4 with heap := s4.heap.push { cls := .type "slice", data := .fields #[vl, vu, vs] } } :=
    I4.kept (t' := s4.toks) fun b ob q => Heap.get?_push_of_some _ q
  cases hd with
  | lst hl a1 =>
    simp only [revD, R.ok.injEq] at ho; subst ho
    cases r1
    obtain ⟨its, r, ht, hz⟩ := I5.list (.inl (Rd.mono sub hl))
    have hlen := r.length
    show wpAny (model X.prog X.w) X.A (subscriptTail e (.Slice none none (some (.UnaryOp .USub (.Constant (.int 1) k p1) p2)) p3) (.ref _) (.ref s4.heap.objs.size)) (EP X pins σ Q) X.xe _
    refine tail_any (ops := [.ref _, .ref s4.heap.objs.size]) ht.isList.typeIs (PySem.slot_list_getitem.lookup) ?_ (by with_unfolding_all rfl)
    refine wpAny_getItem_list_slice ht.isList (Heap.IsSliceOf.new _ vl vu vs) pl pu ps (by decide) ?_ (by rw [List.size_toArray]; omega)
    rw [PySem.W.krv_pick]
    have nf := I5.hok.fresh (Nat.le_refl _)
    refine ⟨.ref _, _, I5.laid (t' := s4.toks) (o := .lst (List.reverse _)) (fun b ob q => Heap.get?_push_of_some _ q) (Nat.le_refl _) ⟨by rw [List.length_reverse]; exact hz, _, 0, r.reverse, Heap.get?_push_size _ rfl⟩, rfl, ?_⟩
    exact q _ _ _ (Ext.new sub nf) (.lst (Rd.of upd_same) (DdA.mono (same_upd (Same.free sub nf)) _ _ a1.rev))
  | tup hl a1 =>
    simp only [revD, R.ok.injEq] at ho; subst ho
    cases r1
    obtain ⟨its, r, ht, hz⟩ := I5.tuple (.inl (Rd.mono sub hl))
    have hlen := r.length
    cases ps with
    | int _ t =>
      show wpAny (model X.prog X.w) X.A (subscriptTail e (.Slice none none (some (.UnaryOp .USub (.Constant (.int 1) k p1) p2)) p3) (.ref _) (.ref s4.heap.objs.size)) (EP X pins σ Q) X.xe _
      refine tail_any (ops := [.ref _, .ref s4.heap.objs.size]) ht.typeIs (PyProof.Rows.slot_tuple_getitem.lookup) ?_ (by with_unfolding_all rfl)
      refine tuple_rev ht (Heap.IsSliceOf.new _ vl vu _) pl pu ?_ (by rw [List.size_toArray]; omega)
      have nf := I5.hok.fresh (Nat.le_refl _)
      refine ⟨.ref _, _, I5.laid (t' := s4.toks) (o := .tup (List.reverse _)) (fun b ob q => Heap.get?_push_of_some _ q) (Nat.le_refl _) ⟨by rw [List.length_reverse]; exact hz, _, r.reverse, IsTup.new _ _⟩, rfl, ?_⟩
      exact q _ _ _ (Ext.new sub nf) (.tup (Rd.of upd_same) (DdA.mono (same_upd (Same.free sub nf)) _ _ a1.rev))
  | _ => simp [revD] at ho
/-! ### methods of a list -/
def rMth (op : List PyData → PyData → R PyData) : V → List V → Hp → VK → Prop := fun x xs H Q => ∃ F ds y d z, xs = [y] ∧ Same F H ∧ Dd F x (.list ds) ∧ Dd F y d ∧ op ds d = .ok z ∧ ∀ v F' H', Ext F H F' H' → Dd F' v z → Q v H'
theorem mt_index (hu : X.A.units + 65 < cLine) : MtR X "list.index" (rMth indexL) := by
  intro pins s σ H x xs v us Q I rx rxs h
  obtain ⟨F, ds, y, d, z, rfl, sub, hx, hy, ho, q⟩ := h
  unfold indexL at ho
  split at ho
  · rename_i hb
    simp only [Bool.and_eq_true] at hb
    split at ho
    · rename_i j e
      cases ho
      obtain ⟨h1, h2, h3⟩ := List.findIdx?_eq_some_iff_getElem.mp e
      have hx2 := Dd.dp (K := X.K) _ _ (Dd.mono sub _ _ hx)
      cases hx with
      | lst hl a1 =>
        refine mt_indexD hu pins s σ H _ _ v us Q I rx rxs ⟨_, y, d, ds, j, ds[j], rfl, rfl, hx2, Dd.dp _ _ (Dd.mono sub _ _ hy), hb.1, hb.2, List.getElem?_eq_getElem h1, h2, fun m z' hm hz' => ?_, q _ F H (Ext.refl sub) (.int _)⟩
        have hml : m < ds.length := by omega
        rw [List.getElem?_eq_getElem hml] at hz'
        cases hz'
        have := h3 m hm
        simpa using this
    · cases ho
  · cases ho
theorem mt_count : MtR X "list.count" (rMth countL) := by
  intro pins s σ H x xs v us Q I rx rxs h
  obtain ⟨F, ds, y, d, z, rfl, sub, hx, hy, ho, q⟩ := h
  cases hy with
  | int k =>
    simp only [countL] at ho
    split at ho
    · rename_i ns e
      cases ho
      cases hx with
      | lst hl a1 =>
        have := a1.ints e
        subst this
        exact mt_lcount pins s σ H _ _ v us Q I rx rxs ⟨_, ns, k, rfl, rfl, .inl (Rd.mono sub hl), q _ F H (Ext.refl sub) (.int _)⟩
    · cases ho
  | _ => simp [countL] at ho
theorem t_mth {K : PySem.W.Frag} {mg : Str → Option Value} {op : List PyData → PyData → R PyData} {f g : Ex} {σ : L2.St} {H : Hp} {Q : VK} (h : tD mg W (cMth op f g) σ H Q) : tBM K "list" (rMth op) (tD mg W f) (tCons (tD mg W g) tNil) σ H Q := by
  obtain ⟨r, F, rel, w⟩ := h
  refine tD_seq rel w fun d v F1 H1 _ e1 rel1 h1 w1 => ?_
  cases h1 with
  | lst hl a1 =>
    refine ⟨.inl ⟨rfl, _, .inl (Rd.mono rel1.sub hl)⟩, ?_⟩
    refine tD_seq rel1 w1 fun d2 v2 F2 H2 _ e2 rel2 h2 w2 => ?_
    obtain ⟨z, e3, k⟩ := Want.nox w2
    exact ⟨F2, _, v2, d2, z, rfl, rel2.sub, Dd.mono e2.ff _ _ (.lst hl a1), h2, e3, fun v3 F3 H3 e4 h3 => k v3 F3 H3 ((e1.trans e2).trans e4) h3⟩
  | _ => exact w1.elim
theorem base_ok {o : Expr} {m : Str} {env : Env} (h : isCall0 o = false) : attributeBase o m env (eval o env) = eval o env := by
  unfold attributeBase
  split
  · rename_i id p pos
    simp [isCall0] at h
  · rfl
theorem few1 {e : Expr} {cp : Pos} {env : Env} (h : isStar e = false) : ((backTo cp (starEach [e] env)).all (fun x => !x.1) && (backToKw cp (keywordEach [] env)).all (fun x => x.1.isSome) && decide ([e].length + ([] : List Keyword).length + (if ([] : List Keyword).isEmpty then 0 else 1) < 30)) = true := by
  rw [star_cons h]; rfl
theorem pd_mth (hu : X.A.units + 65 < cLine) {o e : Expr} {m : Str} {op : List PyData → PyData → R PyData} {f g : Ex} {ap cp : Pos} (hm : mthOf m = some op) (hb : isCall0 o = false) (hs : isStar e = false) (hl : (ap.endLine == cp.line) = true)
    (ho : PE X o (tD X.mg W f)) (he : PE X e (tD X.mg W g)) : PE X (.Call (.Attribute o m ap) [e] [] cp) (tD X.mg W (cMth op f g)) := by
  unfold mthOf at hm
  split at hm
  · rename_i hx; subst hx; cases hm
    exact PE.wk (pe_bm PySem.F.plainAttrs_list PySem.F.slot_list_index PySem.F.type_list_index (mt_index hu) ho (pa_cons he pa_nil (star_cons hs)) (base_ok hb) (few1 hs) hl (star_cons hs) rfl) fun _ _ _ q => t_mth q
  · split at hm
    · rename_i hx; subst hx; cases hm
      exact PE.wk (pe_bm PySem.F.plainAttrs_list PySem.F.slot_list_count PySem.F.type_list_count mt_count ho (pa_cons he pa_nil (star_cons hs)) (base_ok hb) (few1 hs) hl (star_cons hs) rfl) fun _ _ _ q => t_mth q
    · cases hm
end
end Rt
/-! Rt, part C3: sorted of ints and of tuples of ints. -/
namespace Rt
theorem lexT_irr : ∀ a : List Int, lexT a a = false
  | [] => rfl
  | x :: a => by simp [lexT, lexT_irr a]
theorem lexT_asym : ∀ a b : List Int, lexT a b = true → lexT b a = false
  | [], [], h => by simp [lexT] at h
  | [], _ :: _, h => rfl
  | _ :: _, [], h => by simp [lexT] at h
  | x :: a, y :: b, h => by
    simp only [lexT] at h ⊢
    by_cases e : x = y
    · subst e; simp at h ⊢; exact lexT_asym a b h
    · rw [if_neg e] at h
      rw [if_neg (Ne.symm e)]
      simp at h ⊢; omega
theorem lexT_tr : ∀ a b c : List Int, lexT b a = false → lexT c b = false → lexT c a = false
  | a, b, [], h1, h2 => by
    cases b with
    | nil => cases a with
      | nil => rfl
      | cons _ _ => simp [lexT] at h1
    | cons _ _ => simp [lexT] at h2
  | [], b, z :: c, h1, h2 => rfl
  | x :: a, [], z :: c, h1, h2 => by simp [lexT] at h1
  | x :: a, y :: b, z :: c, h1, h2 => by
    simp only [lexT] at *
    by_cases e1 : y = x
    · subst e1
      by_cases e2 : z = y
      · subst e2; simp at *; exact lexT_tr a b c h1 h2
      · rw [if_neg e2] at h2 ⊢; exact h2
    · rw [if_neg e1] at h1
      by_cases e2 : z = y
      · subst e2; rw [if_neg e1]; exact h1
      · rw [if_neg e2] at h2
        simp at h1 h2
        have e3 : ¬ z = x := by omega
        rw [if_neg e3]; simp; omega
theorem lexT_eq : ∀ a b : List Int, lexT a b = false → lexT b a = false → a = b
  | [], [], _, _ => rfl
  | [], _ :: _, h, _ => by simp [lexT] at h
  | _ :: _, [], _, h => by simp [lexT] at h
  | x :: a, y :: b, h1, h2 => by
    simp only [lexT] at h1 h2
    by_cases e : x = y
    · subst e; simp at h1 h2; rw [lexT_eq a b h1 h2]
    · rw [if_neg e] at h1
      rw [if_neg (Ne.symm e)] at h2
      simp at h1 h2; omega
theorem insI_perm (x : Int) : ∀ l, (insI x l).Perm (x :: l)
  | [] => List.Perm.refl _
  | y :: l => by
    unfold insI
    split
    · exact ((insI_perm x l).cons y).trans (List.Perm.swap x y l)
    · exact List.Perm.refl _
theorem sortI_perm : ∀ l, (sortI l).Perm l
  | [] => List.Perm.refl _
  | x :: l => (insI_perm x _).trans ((sortI_perm l).cons x)
theorem insI_sorted (x : Int) : ∀ l, l.Pairwise (· ≤ ·) → (insI x l).Pairwise (· ≤ ·)
  | [], _ => by simp [insI]
  | y :: l, h => by
    rw [List.pairwise_cons] at h
    unfold insI
    split
    · rename_i c
      rw [List.pairwise_cons]
      refine ⟨fun z hz => ?_, insI_sorted x l h.2⟩
      rcases List.mem_cons.mp ((insI_perm x l).mem_iff.mp hz) with e | e
      · omega
      · exact h.1 z e
    · rename_i c
      rw [List.pairwise_cons, List.pairwise_cons]
      refine ⟨fun z hz => ?_, h⟩
      rcases List.mem_cons.mp hz with e | e
      · omega
      · have := h.1 z e; omega
theorem sortI_sorted : ∀ l, (sortI l).Pairwise (· ≤ ·)
  | [] => List.Pairwise.nil
  | x :: l => insI_sorted x _ (sortI_sorted l)
theorem insT_perm (x : List Int) : ∀ l, (insT x l).Perm (x :: l)
  | [] => List.Perm.refl _
  | y :: l => by
    unfold insT
    split
    · exact ((insT_perm x l).cons y).trans (List.Perm.swap x y l)
    · exact List.Perm.refl _
theorem sortT_perm : ∀ l, (sortT l).Perm l
  | [] => List.Perm.refl _
  | x :: l => (insT_perm x _).trans ((sortT_perm l).cons x)
def SrtT (l : List (List Int)) : Prop := l.Pairwise fun a b => lexT b a = false
theorem insT_sorted (x : List Int) : ∀ l, SrtT l → SrtT (insT x l)
  | [], _ => by simp [insT, SrtT]
  | y :: l, h => by
    unfold SrtT at *
    rw [List.pairwise_cons] at h
    unfold insT
    split
    · rename_i c
      rw [List.pairwise_cons]
      refine ⟨fun z hz => ?_, insT_sorted x l h.2⟩
      rcases List.mem_cons.mp ((insT_perm x l).mem_iff.mp hz) with e | e
      · subst e; exact lexT_asym _ _ c
      · exact h.1 z e
    · rename_i c
      have c : lexT y x = false := by simpa using c
      rw [List.pairwise_cons, List.pairwise_cons]
      refine ⟨fun z hz => ?_, h⟩
      rcases List.mem_cons.mp hz with e | e
      · subst e; exact c
      · exact lexT_tr _ _ _ c (h.1 z e)
theorem sortT_sorted : ∀ l, SrtT (sortT l)
  | [] => List.Pairwise.nil
  | x :: l => insT_sorted x _ (sortT_sorted l)
theorem uniq_sorted {α : Type} {le : α → α → Prop} (anti : ∀ a b, le a b → le b a → a = b) : ∀ {l m : List α}, l.Pairwise le → m.Pairwise le → l.Perm m → l = m
  | [], m, _, _, h => (List.Perm.eq_nil h.symm).symm
  | x :: l, [], _, _, h => absurd h.length_eq (by simp)
  | x :: l, y :: m, hl, hm, h => by
    rw [List.pairwise_cons] at hl hm
    have e : x = y := by
      rcases List.mem_cons.mp (h.mem_iff.mp (List.mem_cons_self (a := x) (l := l))) with e | hx
      · exact e
      · rcases List.mem_cons.mp (h.mem_iff.mpr (List.mem_cons_self (a := y) (l := m))) with e | hy
        · exact e.symm
        · exact anti _ _ (hl.1 y hy) (hm.1 x hx)
    subst e
    rw [uniq_sorted anti hl.2 hm.2 h.cons_inv]
theorem sortI_uniq {l m : List Int} (h : m.Pairwise (· ≤ ·)) (p : m.Perm l) : m = sortI l :=
  uniq_sorted (le := fun a b : Int => a ≤ b) (fun a b h1 h2 => Int.le_antisymm h1 h2) h (sortI_sorted l) (p.trans (sortI_perm l).symm)
theorem sortT_uniq {l m : List (List Int)} (h : SrtT m) (p : m.Perm l) : m = sortT l :=
  uniq_sorted (le := fun a b => lexT b a = false) (fun a b h1 h2 => lexT_eq a b h2 h1) h (sortT_sorted l) (p.trans (sortT_perm l).symm)
end Rt
namespace RtS
open PySem PySem.Spec PyProof.Rows Srt SrtO
section
variable {prog : Program} {w : World} {A : Around} {E : Value → Shared → Prop} {s : Shared} {Q : Bool → Shared → Prop}
theorem lex_any {b : Bool} : ∀ {xs ys : List Value} {ns ms : List Int} (i : Nat), IntsAre xs ns → IntsAre ys ms → Q (Rt.lexT ns ms) s → PySem.W.KatLex prog w A b (decide (xs.length < ys.length)) Q (xs.zip ys) i s
  | [], [], _, _, i, .nil, .nil, h => by
    exact PySem.W.kat_nil (by simpa [Rt.lexT] using h)
  | [], _ :: ys, _, _, i, .nil, .cons m u r, h => by
    exact PySem.W.kat_nil (by simpa [Rt.lexT] using h)
  | _ :: xs, [], _, _, i, .cons n t r, .nil, h => by
    exact PySem.W.kat_nil (by simpa [Rt.lexT] using h)
  | _ :: xs, _ :: ys, _, _, i, .cons n t r, .cons m u r2, h => by
    rename_i ns ms
    rw [List.zip_cons_cons]
    have e : decide ((Value.int n t :: xs).length < (Value.int m u :: ys).length) = decide (xs.length < ys.length) := by simp
    rw [e]
    refine PySem.W.kat_cons (SeqAt.EqAt.int_int n t m u prog w _ _ ?_)
    refine PySem.W.kat_go (fun e1 => ?_) (fun e1 => ?_)
    · have ex : n = m := by simpa using e1
      refine PySem.W.kat_yes (lex_any (i + 1) r r2 ?_)
      simpa [Rt.lexT, ex] using h
    · have ex : ¬ n = m := by simpa using e1
      refine PySem.W.kat_no (TS.oneLt_ints _ ?_)
      simpa [Rt.lexT, ex] using h
def ltL (h : Heap) (v u : Value) : Bool := Rt.lexT (TS.intsOf h v) (TS.intsOf h u)
theorem swoL (h : Heap) : Swo (ltL h) := ⟨fun x y => Rt.lexT_asym _ _, fun x y z => Rt.lexT_tr _ _ _⟩
def Tups (h : Heap) (vs : List Value) : Prop := ∀ v ∈ vs, ∃ ns, TS.TupInts h v ns ∧ ns ≠ []
theorem cmpL {h0 : Heap} {vs : List Value} (hx : Tups s.heap vs) (he : ∀ v ∈ vs, TS.intsOf h0 v = TS.intsOf s.heap v) : Cmp prog w A s (tuples' true) (fun p => p.1 ∈ vs) (lt2 (ltL h0)) := by
  intro p q hm hm'
  obtain ⟨ns, tp, _⟩ := hx _ hm
  obtain ⟨ms, tq, _⟩ := hx _ hm'
  show wpAny (model prog w) A (keyLt' (tuples' true) p.1 q.1) (fun r s' => s' = s ∧ r = ltL h0 p.1 q.1) (fun _ _ => False) s
  have e1 : ltL h0 p.1 q.1 = Rt.lexT ns ms := by
    unfold ltL
    rw [he _ hm, he _ hm', tp.ints, tq.ints]
  rw [e1]
  obtain ⟨a, xs, e2, ⟨o, ho, hc, n, hdt⟩, i⟩ := tp
  obtain ⟨a', ys, e3, ⟨o', ho', hc', n', hdt'⟩, i'⟩ := tq
  rw [e2, e3]
  refine PySem.W.kat_lt ho hdt ho' hdt' ?_
  have z : decide (xs.size < ys.size) = decide (xs.toList.length < ys.toList.length) := by simp
  rw [z]
  exact lex_any 0 i i' ⟨rfl, rfl⟩
theorem firstsL {h : Heap} : ∀ {vs : List Value}, Tups h vs → ∃ fs : List Value, PySem.W.KatTups h vs fs ∧ fs.length = vs.length ∧ ∀ f ∈ fs, ∃ x t, f = Value.int x t
  | [], _ => ⟨[], PySem.W.KatTups.nil, rfl, fun _ hm => by simp at hm⟩
  | v :: vs, hp => by
    obtain ⟨fs, h1, h2, h3⟩ := firstsL (vs := vs) fun v' hm => hp v' (List.mem_cons_of_mem _ hm)
    obtain ⟨ns, ⟨a, xs, rfl, ⟨o, ho, hc, n, hdt⟩, i⟩, hn⟩ := hp v (List.mem_cons_self ..)
    cases q : xs.toList with
    | nil => rw [q] at i; cases i; exact absurd rfl hn
    | cons y ys =>
      rw [q] at i
      cases i with
      | cons m t r =>
        refine ⟨.int m t :: fs, PySem.W.KatTups.cons ho hc hdt ?_ h1, by simp [h2], fun f hm => ?_⟩
        · have z := congrArg (fun l : List Value => l[0]?) q
          simpa using z
        · rcases List.mem_cons.mp hm with rfl | hm
          · exact ⟨m, t, rfl⟩
          · exact h3 f hm
theorem sortableL {h0 : Heap} {a : Addr} {vs : List Value} (h1 : 0 < vs.length) (hx : Tups s.heap vs) (he : ∀ v ∈ vs, TS.intsOf h0 v = TS.intsOf s.heap v) (ha : ∀ o, s.heap.get? a = some o → o.cls ≠ .type "tuple") : SortableO prog w A s a vs (ltL h0) := by
  intro h' keep
  have kk : ∀ v ∈ vs, ∀ ns, TS.TupInts s.heap v ns → TS.TupInts h' v ns := fun v hm ns t => t.keeps fun b o e c => keep b o (fun z => by subst z; exact ha o e c) e
  have hx' : Tups h' vs := fun v hm => by
    obtain ⟨ns, t, n⟩ := hx v hm
    exact ⟨ns, kk v hm ns t, n⟩
  have he' : ∀ v ∈ vs, TS.intsOf h0 v = TS.intsOf h' v := fun v hm => by
    obtain ⟨ns, t, n⟩ := hx v hm
    rw [he v hm, t.ints, (kk v hm ns t).ints]
  obtain ⟨fs, f1, f2, f3⟩ := firstsL hx'
  refine ⟨tuples' true, fun Q E hq => ?_, cmpL hx' he'⟩
  refine PySem.W.kat_kind (T := .type "int") f1 (by omega) (fun f hm => ?_) (by rfl) ?_
  · obtain ⟨x, t, rfl⟩ := f3 f hm
    exact PySem.W.Looks.now
  · have e : (Value.type "int" != Value.type "tuple") = true := by first | decide +kernel | rfl | decide
    rw [e]
    exact hq
end
end RtS
namespace Rt
open PySem PySem.Spec PyProof.Rows L2
theorem tupsOf_dd {F : Hp} : ∀ {ds : List PyData} {vs : List V} {ts : List (List Int)}, DdA F vs ds → tupsOf ds = some ts → ds = ts.map (fun t => .tuple (t.map .int)) ∧ ∀ v ∈ vs, ∃ a t, t ∈ ts ∧ v = .ref a ∧ Rd F a (.tup (t.map V.int))
  | [], _, ts, h, e => by
    cases h
    have e : [] = ts := Option.some.inj e
    subst e; exact ⟨rfl, by simp⟩
  | d :: ds, _, ts, h, e => by
    cases h with
    | cons a b =>
      cases d <;> try (simp [tupsOf] at e; done)
      rename_i es
      cases q1 : intsOf es with
      | none => simp [tupsOf, q1] at e
      | some n =>
        cases q2 : tupsOf ds with
        | none => simp [tupsOf, q1, q2] at e
        | some t =>
          simp [tupsOf, q1, q2] at e
          subst e
          obtain ⟨i1, i2⟩ := tupsOf_dd b q2
          cases a with
          | tup r1 a1 =>
            have e3 := a1.ints q1
            subst e3
            have e4 : es = n.map .int := by
              have key : ∀ (es : List PyData) (n : List Int), intsOf es = some n → es = n.map .int := by
                intro es
                induction es with
                | nil => intro n h; have h : [] = n := Option.some.inj h; subst h; rfl
                | cons x es ih =>
                  intro n h
                  cases x <;> try (simp [intsOf] at h; done)
                  rename_i i
                  cases q : intsOf es with
                  | none => simp [intsOf, q] at h
                  | some ms =>
                    simp [intsOf, q] at h
                    subst h
                    rw [ih ms q]; rfl
              exact key es n q1
            refine ⟨by rw [i1, e4]; rfl, fun v hv => ?_⟩
            rcases List.mem_cons.mp hv with e | hv
            · exact ⟨_, n, by simp, e, r1⟩
            · obtain ⟨a, t', m1, m2, m3⟩ := i2 v hv
              exact ⟨a, t', List.mem_cons_of_mem _ m1, m2, m3⟩
section
variable {X : Cx}
theorem dc_sorted : CallR X (.builtin "sorted") (rDc1 sortedD) := by
  intro pins s σ H xs us Q I rv h
  obtain ⟨x, rfl, F, d, z, sub, hd, ho, q⟩ := h
  cases d <;> simp only [sortedD, reduceCtorEq] at ho
  rename_i ds
  cases hd with
  | lst h1 a1 =>
    rename_i a vs
    split at ho
    · rename_i ns e1
      simp only [R.ok.injEq] at ho; subst ho
      have e3 := a1.ints e1; subst e3
      refine cr_sortedI pins s σ H _ us Q I rv ⟨_, ns, rfl, .inl (Rd.mono sub h1), fun ns' p pm sr np => ?_⟩
      rw [sortI_uniq sr pm]
      refine q _ _ _ (Ext.new sub np) (.lst (Rd.of upd_same) ?_)
      have dd : ∀ (G : Hp) (ns : List Int), DdA G (ns.map V.int) (ns.map PyData.int) := fun G ns => by
        induction ns with
        | nil => exact .nil
        | cons n ns ih => exact .cons (.int n) ih
      exact dd _ _
    · split at ho
      · rename_i ts e1
        split at ho
        · rename_i hne
          simp only [R.ok.injEq] at ho; subst ho
          obtain ⟨t1, t2⟩ := tupsOf_dd a1 e1
          have hs : SqL X.K H a vs := .inl (Rd.mono sub h1)
          obtain ⟨its, rvs, hl, hz⟩ := I.list hs
          rw [Vals.ref1 rv]
          obtain ⟨e2, e3⟩ := bkV_refs rvs fun x m => by
            obtain ⟨b, t, _, e, _⟩ := t2 x m
            exact ⟨b, e⟩
          have hx : RtS.Tups s.heap its := fun v hv => by
            obtain ⟨b, rfl⟩ := e3 v hv
            have hm : V.ref b ∈ vs := by rw [e2]; exact List.mem_map.mpr ⟨_, hv, rfl⟩
            obtain ⟨b', t, mt, e, rd⟩ := t2 _ hm
            cases e
            refine ⟨t, tupI_raw I (.inl (Rd.mono sub rd)), fun z => ?_⟩
            have := List.all_eq_true.mp hne t mt
            rw [z] at this; cases this
          have hdat : ∀ v ∈ its, Dd F (bkV v) (.tuple ((TS.intsOf s.heap v).map .int)) := fun v hv => by
            obtain ⟨b, rfl⟩ := e3 v hv
            have hm : V.ref b ∈ vs := by rw [e2]; exact List.mem_map.mpr ⟨_, hv, rfl⟩
            obtain ⟨b', t, mt, e, rd⟩ := t2 _ hm
            cases e
            rw [(tupI_raw I (.inl (Rd.mono sub rd))).ints]
            refine .tup rd ?_
            have dd : ∀ (ns : List Int), DdA F (ns.map V.int) (ns.map PyData.int) := fun ns => by
              induction ns with
              | nil => exact .nil
              | cons n ns ih => exact .cons (.int n) ih
            exact dd _
          have hints : its.map (TS.intsOf s.heap) = ts := by
            have key : ∀ (its : List Value) (ds : List PyData) (ts : List (List Int)), DdA F (its.map bkV) ds → (∀ v ∈ its, Dd F (bkV v) (.tuple ((TS.intsOf s.heap v).map .int))) → ds = ts.map (fun t => .tuple (t.map .int)) → its.map (TS.intsOf s.heap) = ts := by
              intro its
              induction its with
              | nil =>
                intro ds ts h _ e
                cases h
                cases ts with
                | nil => rfl
                | cons _ _ => cases e
              | cons v its ih =>
                intro ds ts h hv e
                cases ts with
                | nil => subst e; cases h
                | cons t ts =>
                  subst e
                  cases h with
                  | cons p r =>
                    have := ih _ ts r (fun u hu => hv u (List.mem_cons_of_mem _ hu)) rfl
                    rw [List.map_cons, this]
                    congr 1
                    have p2 := hv v List.mem_cons_self
                    have inj : ∀ {v : V} {a b : List Int}, Dd F v (.tuple (a.map .int)) → Dd F v (.tuple (b.map .int)) → a = b := by
                      intro v a b h1 h2
                      cases h1 with
                      | tup r1 d1 =>
                        cases h2 with
                        | tup r2 d2 =>
                          have gi : ∀ ns : List Int, intsOf (ns.map .int) = some ns := fun ns => by
                            induction ns with
                            | nil => rfl
                            | cons n ns ih => simp [intsOf, ih]
                          have x1 := d1.ints (gi a)
                          have x2 := d2.ints (gi b)
                          have same : ∀ {u w : List V} {p : Addr}, Rd F p (.tup u) → Rd F p (.tup w) → u = w := by
                            intro u w p r1 r2
                            rcases r1 with r1 | ⟨o1, r1⟩ <;> rcases r2 with r2 | ⟨o2, r2⟩ <;> rw [r1] at r2 <;> cases r2 <;> rfl
                          have x3 := same r1 r2
                          rw [x1, x2] at x3
                          exact (List.map_inj_right (fun x y h => by cases h; rfl)).mp x3
                    exact inj p2 p
            rw [e2] at a1
            exact key its ds ts a1 hdat t1
          refine SrtO.sorted_ord (RtS.swoL s.heap) hl.isList (by rw [← rvs.length]; exact hz) (fun h2 h₁ a' ha' kk => ?_) fun out o1 o2 => ?_
          · have kp : ∀ v ∈ its, ∀ ns, TS.TupInts s.heap v ns → TS.TupInts h₁ v ns := fun v hm ns t => t.keeps fun b o e c => (kk b o e).2
            refine RtS.sortableL (s := { s with heap := h₁ }) (by omega) (fun v hm => ?_) (fun v hm => ?_) fun o e => ?_
            · obtain ⟨ns, t, n⟩ := hx v hm
              exact ⟨ns, kp v hm ns t, n⟩
            · obtain ⟨ns, t, n⟩ := hx v hm
              rw [t.ints, (kp v hm ns t).ints]
            · have e' : some o = some (seqObj "list" its.toArray 0) := e.symm.trans ha'
              cases e'
              intro c
              exact absurd (Value.type.inj c) (by decide)
          · obtain ⟨ep, he'⟩ := PyProof.Rows.sortedAll_at s.heap its out.toArray
            have h3 : ∀ u ∈ out, ∃ a, u = Value.ref a := fun u hu => e3 u (o2.perm.mem_iff.mp hu)
            have hp : (out.map bkV).Perm vs := by rw [e2]; exact o2.perm.map bkV
            have hlen : (out.map bkV).length ≤ sizeLine := by rw [hp.length_eq]; exact hz
            have hout : out.map (TS.intsOf s.heap) = sortT ts := by
              refine sortT_uniq (List.pairwise_map.mpr o1) ?_
              rw [← hints]
              exact o2.perm.map _
            have np : H (s.heap.objs.size + 1) = none := I.hok.fresh (Nat.le_succ _)
            refine ⟨.ref _, upd H (s.heap.objs.size + 1) (.lst (out.map bkV)), I.laid (t' := s.toks) (fun _ _ => PyProof.Rows.sortedAll_old) (Nat.le_succ _) ⟨hlen, out, ep, bkV_vals h3, he'⟩, rfl, q _ _ _ (Ext.new sub np) (.lst (Rd.of upd_same) ?_)⟩
            refine DdA.mono (same_upd (Same.free sub np)) _ _ ?_
            rw [← hout, List.map_map]
            have key : ∀ l : List Value, (∀ v ∈ l, v ∈ its) → DdA F (l.map bkV) (l.map ((fun t : List Int => PyData.tuple (t.map .int)) ∘ TS.intsOf s.heap)) := by
              intro l
              induction l with
              | nil => intro _; exact .nil
              | cons v l ih => intro hv; exact .cons (hdat v (hv v List.mem_cons_self)) (ih fun u hu => hv u (List.mem_cons_of_mem _ hu))
            exact key out fun v hv => o2.perm.mem_iff.mp hv
        · cases ho
      · cases ho
end
end Rt
/-! Rt, part C4: zip(a, b) drawn from lists and tuples, tuple(zip(a, b)), list(zip(a, b)). -/
namespace Rz
open PySem PySem.Spec PyProof.Rows
section
variable {prog : Program} {w : World} {A : Around} {E : Value → Shared → Prop} {s : Shared}
theorem alive_at {a : Addr} {Q : Option Obj → Shared → Prop} (h : Q (s.heap.get? a) s) : wpAny (model prog w) A (loadIfAlive a) Q E s := fun _ _ _ => h
end
abbrev IsZ (h : Heap) (z TI TO : Addr) (a : Value) (f : Bool) : Prop := h.get? z = some { cls := .type "zip", dict := none, data := .fields #[a, .bool f, .bool false, .ref TI, .ref TO], slots := #[] }
/-- what field 0 may hold between two turns -/
def Rest (a : Value) : Prop := a = .none ∨ ∃ T : Nat, a = rawInt T
structure ZA (z TI TO i1 i2 : Addr) (fp1 fp2 : List Addr) : Prop where
  TIz : TI ≠ z
  TOz : TO ≠ z
  i1z : i1 ≠ z
  i2z : i2 ≠ z
  TITO : TI ≠ TO
  TIi1 : TI ≠ i1
  TIi2 : TI ≠ i2
  TOi1 : TO ≠ i1
  TOi2 : TO ≠ i2
  i12 : i1 ≠ i2
  z1 : z ∉ fp1
  z2 : z ∉ fp2
  t1 : TO ∉ fp1
  t2 : TO ∉ fp2
  o1 : i2 ∉ fp1
  o2 : i1 ∉ fp2
def ZSt (z TI TO i1 i2 : Addr) (St1 St2 : Nat → Heap → Prop) (i : Nat) (h : Heap) : Prop :=
  ∃ a f, Rest a ∧ IsZ h z TI TO a f ∧ IsPair h TI (.ref i1) (.ref i2) ∧ (∃ x y, IsPair h TO x y) ∧ St1 i h ∧ St2 i h
section
variable {prog : Program} {w : World} {A : Around} {E : Value → Shared → Prop} {s : Shared} {z TI TO i1 i2 : Addr} {fp1 fp2 : List Addr} {n1 n2 i : Nat} {P1 P2 : Nat → Value → Prop} {St1 St2 : Nat → Heap → Prop}
theorem free_or {a : Value} {f : Bool} {Q : Bool → Shared → Prop} (hz : IsZ s.heap z TI TO a f) (ha : Rest a) (hT : Q true s) (hF : ∀ h' f', IsZ h' z TI TO a f' → Heap.SameBut z s.heap h' → Q false { s with heap := h' }) :
    wpAny (model prog w) A (Builtin.SmallTypes.ownedTupleIsFree (.ref z)) Q E s := by
  unfold Builtin.SmallTypes.ownedTupleIsFree
  rcases ha with rfl | ⟨T, rfl⟩
  · exact wpAny_bind (wpAny_field hz rfl (x := .none) rfl (wpAny_pure hT))
  · refine wpAny_bind (wpAny_field hz rfl (x := rawInt T) rfl ?_)
    show wpAny _ _ (loadIfAlive ((T : Int).toNat) >>= _) _ _ _
    refine wpAny_bind (alive_at ?_)
    cases s.heap.get? ((T : Int).toNat) with
    | none => exact wpAny_pure hT
    | some o =>
      simp only [Option.isNone_some, Bool.false_eq_true, if_false]
      refine wpAny_bind (wpAny_field hz rfl (x := .bool f) rfl ?_)
      cases f with
      | true =>
        rw [if_neg (show ¬ ((Value.bool true != Value.bool true) = true) from Bool.false_ne_true)]
        exact wpAny_pure (hF s.heap true hz (Heap.SameBut.refl _ _))
      | false =>
        rw [if_pos (show (Value.bool false != Value.bool true) = true from rfl)]
        exact wpAny_bind (wpAny_setField_rec hz (by simp) fun h₁ hz₁ hs₁ => wpAny_pure (hF h₁ true hz₁ hs₁))
theorem St_but {St : Nat → Heap → Prop} {it b : Addr} {fp : List Addr} {n : Nat} {P : Nat → Value → Prop} {h h' : Heap} (D : Draws prog w A it fp n P St) (hb : b ∉ fp) (hs : Heap.SameBut b h h') {k : Nat} (st : St k h) : St k h' :=
  D.frame _ _ _ st fun c hc o e => hs.extBut c o (fun q => hb (q ▸ hc)) e
theorem zip_item {Q : Value → Shared → Prop} (D1 : Draws prog w A i1 fp1 n1 P1 St1) (D2 : Draws prog w A i2 fp2 n2 P2 St2) (Z : ZA z TI TO i1 i2 fp1 fp2) (hi1 : i < n1) (hi2 : i < n2) (st : ZSt z TI TO i1 i2 St1 St2 i s.heap)
    (hQ : ∀ x y h' tk, P1 i x → P2 i y → ZSt z TI TO i1 i2 St1 St2 (i + 1) h' → IsPair h' s.heap.objs.size x y → h'.objs.size = s.heap.objs.size + 1 →
      (∀ c o, c ≠ z → c ≠ TO → c ≠ i1 → c ≠ i2 → s.heap.get? c = some o → h'.get? c = some o) → Q (.ref s.heap.objs.size) { s with heap := h', toks := tk }) :
    wpAny (model prog w) A (Builtin.«zip.__next__» ⟨[.ref z], []⟩) (fun fin s' => ∃ v, fin = .done (.ret v) ∧ Q v s') E s := by
  obtain ⟨a, f, ha, hz, hTI, ⟨x0, y0, hTO⟩, s1, s2⟩ := st
  show wpAny _ _ (field (.ref z) 2 >>= _) _ _ _
  refine wpAny_bind (wpAny_field hz rfl (x := .bool false) rfl ?_)
  show wpAny _ _ (field (.ref z) 3 >>= _) _ _ _
  refine wpAny_bind (wpAny_field hz rfl (x := .ref TI) rfl ?_)
  refine wpAny_bind (wpAny_seqItems hTI rfl ?_)
  show wpAny _ _ (Builtin.SmallTypes.ownedTupleIsFree (.ref z) >>= _) _ _ _
  refine wpAny_bind (free_or hz ha ?_ fun h₁ f' hz₁ hs₁ => ?_)
  · simp only [if_true]
    refine wpAny_bind (wpAny_rule ?_)
    refine wpAny_bind (wpAny_field hz rfl (x := .ref TO) rfl ?_)
    refine wpAny_bind (wpAny_setField_rec hz (by simp) fun h₁ hz₁ hs₁ => ?_)
    replace hz₁ : IsZ h₁ z TI TO .ellipsis f := hz₁
    refine wpAny_bind ?_
    simp only [List.zipIdx_cons, List.zipIdx_nil, List.forIn_cons, List.forIn_nil]
    refine wpAny_bind (wpAny_bind (wpAny_onRaise ?_))
    show wpAny _ _ (Builtin.SmallTypes.nextOf (.ref i1) >>= _) _ _ _
    refine wpAny_bind (D1.item i { s with heap := h₁ } _ _ hi1 (St_but D1 Z.z1 hs₁ s1) fun x h₂ tk₂ hP1 s1₂ hs₂ => wpAny_pure ?_)
    have hTO₂ : IsPair h₂ TO x0 y0 := hs₂.extBut _ _ Z.TOi1 (hs₁.extBut _ _ Z.TOz hTO)
    refine wpAny_bind (wpAny_seqItems hTO₂ rfl ?_)
    refine wpAny_bind (wpAny_updateSeq_pair (s := { s with heap := h₂, toks := tk₂ }) hTO₂ fun h₃ hTO₃ hs₃ => ?_)
    replace hTO₃ : IsPair h₃ TO x y0 := hTO₃
    refine wpAny_bind (wpAny_letGo (wpAny_pure ?_))
    refine wpAny_bind (wpAny_bind (wpAny_onRaise ?_))
    show wpAny _ _ (Builtin.SmallTypes.nextOf (.ref i2) >>= _) _ _ _
    refine wpAny_bind (D2.item i { s with heap := h₃, toks := tk₂ } _ _ hi2 (St_but D2 Z.t2 hs₃ (St_but D2 Z.o2 hs₂ (St_but D2 Z.z2 hs₁ s2))) fun y h₄ tk₄ hP2 s2₄ hs₄ => wpAny_pure ?_)
    have hTO₄ : IsPair h₄ TO x y0 := hs₄.extBut _ _ Z.TOi2 hTO₃
    refine wpAny_bind (wpAny_seqItems hTO₄ rfl ?_)
    refine wpAny_bind (wpAny_updateSeq_pair (s := { s with heap := h₄, toks := tk₄ }) hTO₄ fun h₅ hTO₅ hs₅ => ?_)
    replace hTO₅ : IsPair h₅ TO x y := hTO₅
    refine wpAny_bind (wpAny_letGo (wpAny_pure (wpAny_pure ?_)))
    refine wpAny_bind (wpAny_seqItems hTO₅ rfl ?_)
    refine wpAny_bind (wpAny_newTuple ?_)
    have hsz : h₅.objs.size = s.heap.objs.size := by rw [hs₅.1, hs₄.1, hs₃.1, hs₂.1, hs₁.1]
    have hz₅ : IsZ h₅ z TI TO .ellipsis f := hs₅.extBut _ _ Z.TOz.symm (hs₄.extBut _ _ Z.i2z.symm (hs₃.extBut _ _ Z.TOz.symm (hs₂.extBut _ _ Z.i1z.symm hz₁)))
    have hzlt : z < h₅.objs.size := Heap.lt_size hz₅
    show wpAny _ _ (Builtin.SmallTypes.ownedTupleHandOut (.ref z) (.ref h₅.objs.size) >>= _) _ _ _
    refine wpAny_bind ?_
    unfold Builtin.SmallTypes.ownedTupleHandOut
    have hz₆ : IsZ (h₅.push { cls := .type "tuple", data := .seq #[x, y] }) z TI TO .ellipsis f := Heap.get?_push_of_some _ hz₅
    refine wpAny_bind (wpAny_setField_rec hz₆ (by simp) fun h₇ hz₇ hs₇ => ?_)
    replace hz₇ : IsZ h₇ z TI TO (rawInt h₅.objs.size) f := hz₇
    refine wpAny_setField_rec hz₇ (by simp) fun h₈ hz₈ hs₈ => ?_
    replace hz₈ : IsZ h₈ z TI TO (rawInt h₅.objs.size) false := hz₈
    have up : ∀ c o, c ≠ z → h₅.get? c = some o → h₈.get? c = some o := fun c o c1 e => hs₈.extBut _ _ c1 (hs₇.extBut _ _ c1 (Heap.get?_push_of_some _ e))
    have hT₈ : IsPair h₈ h₅.objs.size x y := hs₈.extBut _ _ (Nat.ne_of_gt hzlt) (hs₇.extBut _ _ (Nat.ne_of_gt hzlt) (Heap.get?_push_size _ rfl))
    have hz8 : h₈.objs.size = h₅.objs.size + 1 := by rw [hs₈.1, hs₇.1, Heap.size_push]
    have hTI₅ : IsPair h₅ TI (.ref i1) (.ref i2) := hs₅.extBut _ _ Z.TITO (hs₄.extBut _ _ Z.TIi2 (hs₃.extBut _ _ Z.TITO (hs₂.extBut _ _ Z.TIi1 (hs₁.extBut _ _ Z.TIz hTI))))
    have s1₈ : St1 (i + 1) h₈ := D1.frame _ _ _ (St_but D1 Z.t1 hs₅ (St_but D1 Z.o1 hs₄ (St_but D1 Z.t1 hs₃ s1₂))) fun b hb o e => up b o (fun q => Z.z1 (q ▸ hb)) e
    have s2₈ : St2 (i + 1) h₈ := D2.frame _ _ _ (St_but D2 Z.t2 hs₅ s2₄) fun b hb o e => up b o (fun q => Z.z2 (q ▸ hb)) e
    refine wpAny_pure ⟨_, rfl, ?_⟩
    show Q (.ref h₅.objs.size) _
    have st' : ZSt z TI TO i1 i2 St1 St2 (i + 1) h₈ := ⟨_, _, .inr ⟨_, rfl⟩, hz₈, up _ _ Z.TIz hTI₅, ⟨x, y, up _ _ Z.TOz hTO₅⟩, s1₈, s2₈⟩
    rw [hsz] at hT₈ hz8 ⊢
    exact hQ x y h₈ tk₄ hP1 hP2 st' hT₈ hz8 fun c o c1 c2 c3 c4 e => up c o c1 (hs₅.extBut _ _ c2 (hs₄.extBut _ _ c4 (hs₃.extBut _ _ c2 (hs₂.extBut _ _ c3 (hs₁.extBut _ _ c1 e)))))
  · simp only [Bool.false_eq_true, if_false]
    refine wpAny_bind ?_
    rw [← Array.forIn_toList]
    simp only [List.forIn_cons, List.forIn_nil]
    refine wpAny_bind (wpAny_bind (wpAny_holding ?_))
    show wpAny _ _ (Builtin.SmallTypes.nextOf (.ref i1) >>= _) _ _ _
    refine wpAny_bind (D1.item i { s with heap := h₁ } _ _ hi1 (St_but D1 Z.z1 hs₁ s1) fun x h₂ tk₂ hP1 s1₂ hs₂ => wpAny_pure ?_)
    refine wpAny_pure ?_
    refine wpAny_bind (wpAny_bind (wpAny_holding ?_))
    show wpAny _ _ (Builtin.SmallTypes.nextOf (.ref i2) >>= _) _ _ _
    refine wpAny_bind (D2.item i { s with heap := h₂, toks := tk₂ } _ _ hi2 (St_but D2 Z.o2 hs₂ (St_but D2 Z.z2 hs₁ s2)) fun y h₃ tk₃ hP2 s2₃ hs₃ => wpAny_pure ?_)
    refine wpAny_pure (wpAny_pure ?_)
    show wpAny _ _ (newTuple [x, y] >>= _) _ _ _
    refine wpAny_bind (wpAny_newTuple ?_)
    have hsz : h₃.objs.size = s.heap.objs.size := by rw [hs₃.1, hs₂.1, hs₁.1]
    have hz₃ : IsZ h₃ z TI TO a f' := hs₃.extBut _ _ Z.i2z.symm (hs₂.extBut _ _ Z.i1z.symm hz₁)
    have hk : ∀ c o, c ≠ z → c ≠ i1 → c ≠ i2 → s.heap.get? c = some o → h₃.get? c = some o := fun c o c1 c2 c3 e => hs₃.extBut _ _ c3 (hs₂.extBut _ _ c2 (hs₁.extBut _ _ c1 e))
    have s1₃ : St1 (i + 1) h₃ := St_but D1 Z.o1 hs₃ s1₂
    refine wpAny_pure ⟨_, rfl, ?_⟩
    show Q (.ref h₃.objs.size) _
    have hp : IsPair (h₃.push { cls := .type "tuple", data := .seq #[x, y] }) h₃.objs.size x y := Heap.get?_push_size _ rfl
    have hz4 : (h₃.push { cls := .type "tuple", data := .seq #[x, y] }).objs.size = h₃.objs.size + 1 := Heap.size_push ..
    have st' : ZSt z TI TO i1 i2 St1 St2 (i + 1) (h₃.push { cls := .type "tuple", data := .seq #[x, y] }) := ⟨a, f', ha, Heap.get?_push_of_some _ hz₃, Heap.get?_push_of_some _ (hk _ _ Z.TIz Z.TIi1 Z.TIi2 hTI), ⟨x0, y0, Heap.get?_push_of_some _ (hk _ _ Z.TOz Z.TOi1 Z.TOi2 hTO)⟩, D1.frame _ _ _ s1₃ fun b _ o e => Heap.get?_push_of_some _ e, D2.frame _ _ _ s2₃ fun b _ o e => Heap.get?_push_of_some _ e⟩
    rw [hsz] at hp hz4 ⊢
    exact hQ x y _ tk₃ hP1 hP2 st' hp hz4 fun c o c1 _ c3 c4 e => Heap.get?_push_of_some _ (hk c o c1 c3 c4 e)
theorem zip_end {Q : Fin → Shared → Prop} (D1 : Draws prog w A i1 fp1 n1 P1 St1) (D2 : Draws prog w A i2 fp2 n2 P2 St2) (Z : ZA z TI TO i1 i2 fp1 fp2) (hend : i = n1 ∨ (i < n1 ∧ i = n2)) (st : ZSt z TI TO i1 i2 St1 St2 i s.heap)
    (hE : ∀ h' e tk, (∀ c o, c ≠ z → c ≠ TO → c ≠ i1 → c ≠ i2 → s.heap.get? c = some o → h'.get? c = some o) → (∃ o, h'.get? e = some o ∧ o.cls = .type "StopIteration") → E (.ref e) { s with heap := h', toks := tk }) :
    wpAny (model prog w) A (Builtin.«zip.__next__» ⟨[.ref z], []⟩) Q E s := by
  obtain ⟨a, f, ha, hz, hTI, ⟨x0, y0, hTO⟩, s1, s2⟩ := st
  show wpAny _ _ (field (.ref z) 2 >>= _) _ _ _
  refine wpAny_bind (wpAny_field hz rfl (x := .bool false) rfl ?_)
  show wpAny _ _ (field (.ref z) 3 >>= _) _ _ _
  refine wpAny_bind (wpAny_field hz rfl (x := .ref TI) rfl ?_)
  refine wpAny_bind (wpAny_seqItems hTI rfl ?_)
  show wpAny _ _ (Builtin.SmallTypes.ownedTupleIsFree (.ref z) >>= _) _ _ _
  refine wpAny_bind (free_or hz ha ?_ fun h₁ f' hz₁ hs₁ => ?_)
  · simp only [if_true]
    refine wpAny_bind (wpAny_rule ?_)
    refine wpAny_bind (wpAny_field hz rfl (x := .ref TO) rfl ?_)
    refine wpAny_bind (wpAny_setField_rec hz (by simp) fun h₁ hz₁ hs₁ => ?_)
    replace hz₁ : IsZ h₁ z TI TO .ellipsis f := hz₁
    refine wpAny_bind ?_
    simp only [List.zipIdx_cons, List.zipIdx_nil, List.forIn_cons, List.forIn_nil]
    refine wpAny_bind (wpAny_bind (wpAny_onRaise ?_))
    show wpAny _ _ (Builtin.SmallTypes.nextOf (.ref i1) >>= _) _ _ _
    rcases hend with rfl | ⟨hi1, rfl⟩
    · refine wpAny_bind (D1.done { s with heap := h₁ } _ _ (St_but D1 Z.z1 hs₁ s1) fun h₂ e hs₂ he => ?_)
      obtain ⟨oe, hoe, hce⟩ := he
      have hz₂ : IsZ h₂ z TI TO .ellipsis f := hs₂ _ _ Z.i1z.symm hz₁
      have hez : e ≠ z := fun x => by subst x; rw [hz₂] at hoe; cases hoe; simp at hce
      exact wpAny_setField_rec (s := { s with heap := h₂ }) hz₂ (by simp) fun h₃ _ hs₃ => hE h₃ e _ (fun c o c1 _ c3 _ x => hs₃.extBut _ _ c1 (hs₂ _ _ c3 (hs₁.extBut _ _ c1 x))) ⟨oe, hs₃.extBut _ _ hez hoe, hce⟩
    · refine wpAny_bind (D1.item i { s with heap := h₁ } _ _ hi1 (St_but D1 Z.z1 hs₁ s1) fun x h₂ tk₂ hP1 s1₂ hs₂ => wpAny_pure ?_)
      have hTO₂ : IsPair h₂ TO x0 y0 := hs₂.extBut _ _ Z.TOi1 (hs₁.extBut _ _ Z.TOz hTO)
      refine wpAny_bind (wpAny_seqItems hTO₂ rfl ?_)
      refine wpAny_bind (wpAny_updateSeq_pair (s := { s with heap := h₂, toks := tk₂ }) hTO₂ fun h₃ hTO₃ hs₃ => ?_)
      refine wpAny_bind (wpAny_letGo (wpAny_pure ?_))
      refine wpAny_bind (wpAny_bind (wpAny_onRaise ?_))
      show wpAny _ _ (Builtin.SmallTypes.nextOf (.ref i2) >>= _) _ _ _
      refine wpAny_bind (D2.done { s with heap := h₃, toks := tk₂ } _ _ (St_but D2 Z.t2 hs₃ (St_but D2 Z.o2 hs₂ (St_but D2 Z.z2 hs₁ s2))) fun h₄ e hs₄ he => ?_)
      obtain ⟨oe, hoe, hce⟩ := he
      have hz₄ : IsZ h₄ z TI TO .ellipsis f := hs₄ _ _ Z.i2z.symm (hs₃.extBut _ _ Z.TOz.symm (hs₂.extBut _ _ Z.i1z.symm hz₁))
      have hez : e ≠ z := fun x => by subst x; rw [hz₄] at hoe; cases hoe; simp at hce
      exact wpAny_setField_rec (s := { s with heap := h₄, toks := tk₂ }) hz₄ (by simp) fun h₅ _ hs₅ => hE h₅ e _ (fun c o c1 c2 c3 c4 x => hs₅.extBut _ _ c1 (hs₄ _ _ c4 (hs₃.extBut _ _ c2 (hs₂.extBut _ _ c3 (hs₁.extBut _ _ c1 x))))) ⟨oe, hs₅.extBut _ _ hez hoe, hce⟩
  · simp only [Bool.false_eq_true, if_false]
    refine wpAny_bind ?_
    rw [← Array.forIn_toList]
    simp only [List.forIn_cons, List.forIn_nil]
    refine wpAny_bind (wpAny_bind (wpAny_holding ?_))
    show wpAny _ _ (Builtin.SmallTypes.nextOf (.ref i1) >>= _) _ _ _
    rcases hend with rfl | ⟨hi1, rfl⟩
    · refine wpAny_bind (D1.done { s with heap := h₁ } _ _ (St_but D1 Z.z1 hs₁ s1) fun h₂ e hs₂ he => ?_)
      exact hE h₂ e _ (fun c o c1 _ c3 _ x => hs₂ _ _ c3 (hs₁.extBut _ _ c1 x)) he
    · refine wpAny_bind (D1.item i { s with heap := h₁ } _ _ hi1 (St_but D1 Z.z1 hs₁ s1) fun x h₂ tk₂ hP1 s1₂ hs₂ => wpAny_pure ?_)
      refine wpAny_pure ?_
      refine wpAny_bind (wpAny_bind (wpAny_holding ?_))
      show wpAny _ _ (Builtin.SmallTypes.nextOf (.ref i2) >>= _) _ _ _
      refine wpAny_bind (D2.done { s with heap := h₂, toks := tk₂ } _ _ (St_but D2 Z.o2 hs₂ (St_but D2 Z.z2 hs₁ s2)) fun h₃ e hs₃ he => ?_)
      exact hE h₃ e _ (fun c o c1 _ c3 c4 x => hs₃ _ _ c4 (hs₂.extBut _ _ c3 (hs₁.extBut _ _ c1 x))) he
theorem zst_type {h : Heap} (st : ZSt z TI TO i1 i2 St1 St2 i h) : ∃ o, h.get? z = some o ∧ o.cls = .type "zip" := by
  obtain ⟨a, f, _, hz, _⟩ := st
  exact ⟨_, hz, rfl⟩
theorem next_item {Q : Option Value → Shared → Prop} (D1 : Draws prog w A.in1 i1 fp1 n1 P1 St1) (D2 : Draws prog w A.in1 i2 fp2 n2 P2 St2) (Z : ZA z TI TO i1 i2 fp1 fp2) (hi1 : i < n1) (hi2 : i < n2) (st : ZSt z TI TO i1 i2 St1 St2 i s.heap)
    (hQ : ∀ x y h' tk, P1 i x → P2 i y → ZSt z TI TO i1 i2 St1 St2 (i + 1) h' → IsPair h' s.heap.objs.size x y → h'.objs.size = s.heap.objs.size + 1 →
      (∀ c o, c ≠ z → c ≠ TO → c ≠ i1 → c ≠ i2 → s.heap.get? c = some o → h'.get? c = some o) → Q (some (.ref s.heap.objs.size)) { s with heap := h', toks := tk }) :
    wpAny (model prog w) A (pyNext (.ref z)) Q E s := by
  have hT : s.TypeIs (.ref z) "zip" := zst_type st
  unfold pyNext
  exact wpAny_bind (wpAny_attempt (wpAny_callSpecial?_slot (name := Str.ofString "__next__") hT F.slot_zip_next
    (wpAny_call_entry F.slot_zip_next hT F.entry_zip_next
      (zip_item D1 D2 Z hi1 hi2 st fun x y h' tk a1 a2 a3 a4 a5 a6 => wpAny_pure (hQ x y h' tk a1 a2 a3 a4 a5 a6)) (F.args_zip_next_1 _))))
theorem next_end {Q : Option Value → Shared → Prop} (D1 : Draws prog w A.in1 i1 fp1 n1 P1 St1) (D2 : Draws prog w A.in1 i2 fp2 n2 P2 St2) (Z : ZA z TI TO i1 i2 fp1 fp2) (hend : i = n1 ∨ (i < n1 ∧ i = n2)) (st : ZSt z TI TO i1 i2 St1 St2 i s.heap)
    (hQ : ∀ h' tk, (∀ c o, c ≠ z → c ≠ TO → c ≠ i1 → c ≠ i2 → s.heap.get? c = some o → h'.get? c = some o) → Q none { s with heap := h', toks := tk }) : wpAny (model prog w) A (pyNext (.ref z)) Q E s := by
  have hT : s.TypeIs (.ref z) "zip" := zst_type st
  unfold pyNext
  refine wpAny_bind (wpAny_attempt (wpAny_callSpecial?_slot (name := Str.ofString "__next__") hT F.slot_zip_next
    (wpAny_call_entry F.slot_zip_next hT F.entry_zip_next (zip_end D1 D2 Z hend st fun h' e tk hk he => ?_) (F.args_zip_next_1 _))))
  obtain ⟨o, ho, hc⟩ := he
  refine wpAny_bind (wpAny_isInstance (T := "StopIteration") (b := true) ⟨o, ho, hc⟩ isSubtype_stop ?_)
  exact wpAny_pure (hQ _ _ hk)
end
/-- the pairs that were made -/
structure MadeZ (P1 P2 : Nat → Value → Prop) (lo : Addr) (h : Heap) (as : List Addr) : Prop where
  rise : as.Pairwise (· < ·)
  above : ∀ a ∈ as, lo ≤ a
  pairs : ∀ (j : Nat) (a : Addr), as[j]? = some a → ∃ x y, P1 j x ∧ P2 j y ∧ IsPair h a x y
section
variable {prog : Program} {w : World} {A : Around} {E : Value → Shared → Prop} {s : Shared} {z TI TO i1 i2 S : Addr} {fp1 fp2 : List Addr} {n1 n2 : Nat} {P1 P2 : Nat → Value → Prop} {St1 St2 : Nat → Heap → Prop} {R : Result → Shared → Prop}
structure SA (S z TI TO i1 i2 : Addr) (fp1 fp2 : List Addr) (lo : Addr) : Prop where
  Sz : S ≠ z
  STI : S ≠ TI
  STO : S ≠ TO
  Si1 : S ≠ i1
  Si2 : S ≠ i2
  S1 : S ∉ fp1
  S2 : S ∉ fp2
  lS : S < lo
  lz : z < lo
  lTO : TO < lo
  l1 : i1 < lo
  l2 : i2 < lo
theorem ZSt.up {h : Heap} {i : Nat} {f : Obj → Obj} (D1 : Draws prog w A i1 fp1 n1 P1 St1) (D2 : Draws prog w A i2 fp2 n2 P2 St2) {lo : Addr} (Y : SA S z TI TO i1 i2 fp1 fp2 lo) (st : ZSt z TI TO i1 i2 St1 St2 i h) : ZSt z TI TO i1 i2 St1 St2 i (h.update S f) := by
  have up : ∀ b o, b ≠ S → h.get? b = some o → (h.update S f).get? b = some o := fun b o hb e => (Heap.get?_update_other _ _ (Ne.symm hb)).trans e
  obtain ⟨a, g, ha, hz, hTI, ⟨x, y, hTO⟩, s1, s2⟩ := st
  exact ⟨a, g, ha, up _ _ Y.Sz.symm hz, up _ _ Y.STI.symm hTI, ⟨x, y, up _ _ Y.STO.symm hTO⟩, D1.frame _ _ _ s1 fun b hb o e => up b o (fun q => Y.S1 (q ▸ hb)) e, D2.frame _ _ _ s2 fun b hb o e => up b o (fun q => Y.S2 (q ▸ hb)) e⟩
theorem loopZ (D1 : Draws prog w A.in1.in1 i1 fp1 n1 P1 St1) (D2 : Draws prog w A.in1.in1 i2 fp2 n2 P2 St2) (Z : ZA z TI TO i1 i2 fp1 fp2) {lo : Addr} (Y : SA S z TI TO i1 i2 fp1 fp2 lo) {n : Nat} (hmin : n = min n1 n2) (hn : n ≤ sizeLine) (res : Value) {h₁ : Heap}
    (hR : ∀ h' tk acc c as, (∀ b o, b ≠ S → b ≠ z → b ≠ TO → b ≠ i1 → b ≠ i2 → h₁.get? b = some o → h'.get? b = some o) → h'.get? S = some { cls := .type "list", dict := none, data := .seq acc c, slots := #[] } → as.length = n → MadeZ P1 P2 lo h' as →
      acc.toList = as.map Value.ref → R (.ok (.ret res)) { s with heap := h', toks := tk }) :
    ∀ (k i : Nat) (h : Heap) (tk c : Nat) (acc : Array Value) (as : List Addr), n - i = k → i ≤ n → ZSt z TI TO i1 i2 St1 St2 i h → (∀ b o, b ≠ S → b ≠ z → b ≠ TO → b ≠ i1 → b ≠ i2 → h₁.get? b = some o → h.get? b = some o) →
      h.get? S = some { cls := .type "list", dict := none, data := .seq acc c, slots := #[] } → acc.toList = as.map Value.ref → as.length = i → MadeZ P1 P2 lo h as → lo ≤ h.objs.size →
      codeAny (model prog w) A (.builtin "list.extend.loop" ⟨[.ref S, .ref z, res], []⟩) R { s with heap := h, toks := tk } := by
  have off : ∀ {a : Addr}, lo ≤ a → a ≠ S ∧ a ≠ z ∧ a ≠ TO ∧ a ≠ i1 ∧ a ≠ i2 := fun {a} ha => by
    exact ⟨Nat.ne_of_gt (Nat.lt_of_lt_of_le Y.lS ha), Nat.ne_of_gt (Nat.lt_of_lt_of_le Y.lz ha), Nat.ne_of_gt (Nat.lt_of_lt_of_le Y.lTO ha), Nat.ne_of_gt (Nat.lt_of_lt_of_le Y.l1 ha), Nat.ne_of_gt (Nat.lt_of_lt_of_le Y.l2 ha)⟩
  intro k
  induction k with
  | zero =>
    intro i h tk c acc as hk hi hst hkeep hS hacc hal hG hlo
    refine codeAny_builtin PySem.F.entry_extend_loop ?_
    rw [Around.under_plainId PySem.F.plain_extend_loop _]
    show wpAny _ A.in1 (pyNext (.ref z) >>= _) _ _ _
    refine wpAny_bind (next_end (s := { s with heap := h, toks := tk }) D1 D2 Z (by omega) hst fun h' tk' he => ?_)
    refine wpAny_pure (hR h' tk' acc c as (fun b o h1 h2 h3 h4 h5 e => he b o h2 h3 h4 h5 (hkeep b o h1 h2 h3 h4 h5 e)) (he S _ Y.Sz Y.STO Y.Si1 Y.Si2 hS) (by omega) ⟨hG.rise, hG.above, fun j a hj => ?_⟩ hacc)
    obtain ⟨x, y, p1, p2, e3⟩ := hG.pairs j a hj
    obtain ⟨_, q2, q3, q4, q5⟩ := off (hG.above a (List.mem_of_getElem? hj))
    exact ⟨x, y, p1, p2, he a _ q2 q3 q4 q5 e3⟩
  | succ k ih =>
    intro i h tk c acc as hk hi hst hkeep hS hacc hal hG hlo
    have hsz : acc.size = i := by rw [← Array.length_toList, hacc, List.length_map, hal]
    refine codeAny_builtin PySem.F.entry_extend_loop ?_
    rw [Around.under_plainId PySem.F.plain_extend_loop _]
    show wpAny _ A.in1 (pyNext (.ref z) >>= _) _ _ _
    refine wpAny_bind (next_item (s := { s with heap := h, toks := tk }) D1 D2 Z (by omega) (by omega) hst fun x y h' tk' p1 p2 hst' ht hz' hkp => ?_)
    dsimp only at ht hz' hkp ⊢
    have hS' := hkp S _ Y.Sz Y.STO Y.Si1 Y.Si2 hS
    have up : ∀ b o, b ≠ S → h'.get? b = some o → (h'.update S (Obj.mapSeq (·.push (Value.ref h.objs.size)))).get? b = some o := fun b o hb e => (Heap.get?_update_other _ _ (Ne.symm hb)).trans e
    have hnew := off hlo
    show wpAny _ A.in1 (updateSeq S (·.push (Value.ref h.objs.size)) >>= _) _ _ _
    refine wpAny_bind ?_
    refine wpAny_updateSeq hS' rfl (wpAny_pure ⟨plainId_quiet PySem.F.plain_extend_loop _, ih (i + 1) _ tk' _ (acc.push (Value.ref h.objs.size)) (as ++ [h.objs.size]) (by omega) (by omega) (hst'.up D1 D2 Y)
      (fun b o h1 h2 h3 h4 h5 e => up b o h1 (hkp b o h2 h3 h4 h5 (hkeep b o h1 h2 h3 h4 h5 e))) (Heap.get?_update_self _ hS' rfl) (by rw [Array.toList_push, hacc, List.map_append]; rfl) (by rw [List.length_append, hal]; rfl) ⟨?_, ?_, ?_⟩ ?_⟩) (by rw [hsz]; omega) (by show (acc.push (Value.ref h.objs.size)).size ≤ sizeLine + 1; rw [Array.size_push, hsz]; omega)
    · refine List.pairwise_append.mpr ⟨hG.rise, List.pairwise_singleton _ _, fun a ha b hb => ?_⟩
      rw [List.mem_singleton.mp hb]
      obtain ⟨j, hj⟩ := List.mem_iff_getElem?.mp ha
      obtain ⟨_, _, _, _, e⟩ := hG.pairs j a hj
      exact Heap.lt_size e
    · intro a ha
      rcases List.mem_append.mp ha with ha | ha
      · exact hG.above a ha
      · rw [List.mem_singleton.mp ha]; exact hlo
    · intro j b hj
      rcases Nat.lt_trichotomy j as.length with h1 | h1 | h1
      · rw [List.getElem?_append_left h1] at hj
        obtain ⟨x', y', q1, q2, e3⟩ := hG.pairs j b hj
        obtain ⟨o1, o2, o3, o4, o5⟩ := off (hG.above b (List.mem_of_getElem? hj))
        exact ⟨x', y', q1, q2, up b _ o1 (hkp b _ o2 o3 o4 o5 e3)⟩
      · subst h1
        have hb : h.objs.size = b := by simpa using hj
        subst hb
        rw [← hal] at p1 p2
        exact ⟨x, y, p1, p2, up _ _ hnew.1 ht⟩
      · have hnone : (as ++ [h.objs.size])[j]? = none := List.getElem?_eq_none (by rw [List.length_append, List.length_singleton]; omega)
        rw [hnone] at hj; cases hj
    · have e : (h'.update S (Obj.mapSeq (·.push (Value.ref h.objs.size)))).get? h.objs.size = _ := up _ _ hnew.1 ht
      exact Nat.le_trans hlo (Nat.le_of_lt (Heap.lt_size e))
theorem nolen_zip : typeLookup (.type "zip") "__len__" = pure none := by rw [typeLookup_type, builtinLookup_eq_fast]; kernel_rfl
theorem nohint_zip : typeLookup (.type "zip") "__length_hint__" = pure none := by rw [typeLookup_type, builtinLookup_eq_fast]; kernel_rfl
theorem iter_zip {Q : Value → Shared → Prop} (hT : s.TypeIs (.ref z) "zip") (h : Q (.ref z) s) : wpAny (model prog w) A (pyIter (.ref z)) Q E s := by
  refine wpAny_pyIter_slot hT F.slot_zip_iter (wpAny_call_entry F.slot_zip_iter hT F.entry_zip_iter ?_ (F.args_zip_iter_1 _))
  show wpAny _ _ (ret (.ref z)) _ _ s
  exact wpAny_pure ⟨_, rfl, "zip", _, hT, F.slot_zip_next.lookup, h⟩
theorem extZ (D1 : Draws prog w A.in1.in1 i1 fp1 n1 P1 St1) (D2 : Draws prog w A.in1.in1 i2 fp2 n2 P2 St2) (Z : ZA z TI TO i1 i2 fp1 fp2) (Y : SA S z TI TO i1 i2 fp1 fp2 s.heap.objs.size) {n : Nat} (hmin : n = min n1 n2) (hn : n ≤ sizeLine) (res : Value) (c₀ : Nat)
    (st : ZSt z TI TO i1 i2 St1 St2 0 s.heap) (hS : s.heap.get? S = some { cls := .type "list", data := .seq #[] c₀ })
    (hR : ∀ h' tk acc c as, (∀ b o, b ≠ S → b ≠ z → b ≠ TO → b ≠ i1 → b ≠ i2 → s.heap.get? b = some o → h'.get? b = some o) → h'.get? S = some { cls := .type "list", dict := none, data := .seq acc c, slots := #[] } → as.length = n → MadeZ P1 P2 s.heap.objs.size h' as →
      acc.toList = as.map Value.ref → R (.ok (.ret res)) { s with heap := h', toks := tk }) :
    wpAny (model prog w) A.in1 (Builtin.List.listExtendWith (.ref S) (.ref z) res)
      (fun fin s' => match fin with | .done f => R (.ok f) s' | .again c' => c'.quiet = true ∧ codeAny (model prog w) A c' R s') (fun e s' => R (.error e) s') s := by
  have hT : s.TypeIs (.ref z) "zip" := zst_type st
  unfold Builtin.List.listExtendWith
  refine wpAny_bind (wpAny_typeOf (T := "zip") hT ?_)
  have h1 : Builtin.List.listSameRef (.ref S) (.ref z) = false := by simp [Builtin.List.listSameRef, Y.Sz]
  have h2 : (Value.type "zip" == Value.type "list") = false := by decide
  have h3 : (Value.type "zip" == Value.type "tuple") = false := by decide
  simp only [h1, h2, h3, Bool.or_false, Bool.false_eq_true, if_false]
  refine wpAny_bind (iter_zip hT ?_)
  refine wpAny_bind (wpAny_holding ?_)
  unfold Builtin.List.listLengthHint
  refine wpAny_bind (wpAny_specialOf hT nolen_zip ?_)
  show wpAny _ A.in1 (specialOf (Value.ref z) (Str.ofString "__length_hint__") >>= _) _ _ _
  refine wpAny_bind (wpAny_specialOf hT nohint_zip ?_)
  refine wpAny_pure ?_
  show wpAny _ A.in1 (rule "list.extend.makes-room" >>= fun _ => Builtin.List.listTouch (.ref S) >>= fun _ =>
    again (.builtin "list.extend.loop" ⟨[.ref S, .ref z, res], []⟩)) _ _ _
  refine wpAny_bind (wpAny_rule ?_)
  refine wpAny_bind ?_
  show wpAny _ A.in1 (updateSeq S (·.push .none) >>= fun _ => updateSeq S (·.pop)) _ _ _
  refine wpAny_bind (wpAny_updateSeq hS rfl ?_)
  have hS₂ := Heap.get?_update_self (Obj.mapSeq (·.push Value.none)) hS rfl
  refine wpAny_updateSeq hS₂ rfl ?_
  have hS₃ := Heap.get?_update_self (Obj.mapSeq (·.pop)) hS₂ rfl
  have oth : ∀ b o, b ≠ S → s.heap.get? b = some o → ((s.heap.update S (Obj.mapSeq (·.push Value.none))).update S (Obj.mapSeq (·.pop))).get? b = some o :=
    fun b o hb e => (Heap.get?_update_other _ _ (Ne.symm hb)).trans ((Heap.get?_update_other _ _ (Ne.symm hb)).trans e)
  refine wpAny_pure ⟨plainId_quiet F.plain_extend_loop _, loopZ (s := s) (h₁ := s.heap) D1 D2 Z Y hmin hn res hR n 0 _ s.toks _ #[] [] (by omega) (Nat.zero_le _) ((st.up D1 D2 Y).up D1 D2 Y) (fun b o hb _ _ _ _ e => oth b o hb e) hS₃ rfl rfl ⟨List.Pairwise.nil, (fun _ ha => nomatch ha), (fun j a hj => by simp at hj)⟩ ?_⟩
  show s.heap.objs.size ≤ ((s.heap.update S (Obj.mapSeq (·.push Value.none))).update S (Obj.mapSeq (·.pop))).objs.size
  have e1 : ∀ (h : Heap) (f : Obj → Obj), (h.update S f).objs.size = h.objs.size := fun h f => (Heap.SameBut.update ..).1
  rw [e1, e1]
  exact Nat.le_refl _
/-- all that the zip stands on lies below lo -/
structure Low (z TI TO i1 i2 : Addr) (fp1 fp2 : List Addr) (lo : Addr) : Prop where
  z : z < lo
  TI : TI < lo
  TO : TO < lo
  i1 : i1 < lo
  i2 : i2 < lo
  f1 : ∀ b ∈ fp1, b < lo
  f2 : ∀ b ∈ fp2, b < lo
theorem Low.sa {lo : Addr} (L : Low z TI TO i1 i2 fp1 fp2 lo) : SA lo z TI TO i1 i2 fp1 fp2 (lo + 1) :=
  ⟨Nat.ne_of_gt L.z, Nat.ne_of_gt L.TI, Nat.ne_of_gt L.TO, Nat.ne_of_gt L.i1, Nat.ne_of_gt L.i2, fun h => Nat.lt_irrefl _ (L.f1 _ h), fun h => Nat.lt_irrefl _ (L.f2 _ h), Nat.lt_succ_self _, Nat.lt_succ_of_lt L.z, Nat.lt_succ_of_lt L.TO, Nat.lt_succ_of_lt L.i1, Nat.lt_succ_of_lt L.i2⟩
theorem ZSt.push {h : Heap} {i : Nat} {o : Obj} (D1 : Draws prog w A i1 fp1 n1 P1 St1) (D2 : Draws prog w A i2 fp2 n2 P2 St2) (st : ZSt z TI TO i1 i2 St1 St2 i h) : ZSt z TI TO i1 i2 St1 St2 i (h.push o) := by
  obtain ⟨a, g, ha, hz, hTI, ⟨x, y, hTO⟩, s1, s2⟩ := st
  exact ⟨a, g, ha, Heap.get?_push_of_some _ hz, Heap.get?_push_of_some _ hTI, ⟨x, y, Heap.get?_push_of_some _ hTO⟩, D1.frame _ _ _ s1 fun b hb o e => Heap.get?_push_of_some _ e, D2.frame _ _ _ s2 fun b hb o e => Heap.get?_push_of_some _ e⟩
theorem collectZ {Q : List Value → Shared → Prop} (D1 : Draws prog w A.in1.in1 i1 fp1 n1 P1 St1) (D2 : Draws prog w A.in1.in1 i2 fp2 n2 P2 St2) (Z : ZA z TI TO i1 i2 fp1 fp2) (L : Low z TI TO i1 i2 fp1 fp2 s.heap.objs.size) {n : Nat} (hmin : n = min n1 n2) (hn : n ≤ sizeLine)
    (st : ZSt z TI TO i1 i2 St1 St2 0 s.heap)
    (h : ∀ h' tk as, (∀ b o, b ≠ z → b ≠ TO → b ≠ i1 → b ≠ i2 → s.heap.get? b = some o → h'.get? b = some o) → as.length = n → MadeZ P1 P2 s.heap.objs.size h' as → Q (as.map Value.ref) { s with heap := h', toks := tk }) :
    wpAny (model prog w) A (collect (.ref z)) Q E s := by
  unfold collect
  refine wpAny_bind (wpAny_runValue (codeAny_builtin F.entry_proto_collect ?_))
  rw [Around.under_plainId F.plain_proto_collect _]
  show wpAny _ A.in1 (newList [] >>= fun l => again (.builtin "list.__iadd__" ⟨[l, .ref z], []⟩)) _ _ s
  refine wpAny_bind (wpAny_newObj_type ?_)
  refine wpAny_pure ⟨plainId_quiet F.plain_list_iadd _, codeAny_builtin F.entry_list_iadd ?_⟩
  rw [Around.under_plainId F.plain_list_iadd _]
  have hS₁ : (s.heap.push { cls := .type "list", data := .seq ([] : List Value).toArray }).get? s.heap.objs.size = some { cls := .type "list", data := .seq #[] 0 } := Heap.get?_push_size _ rfl
  have hsz : (s.heap.push { cls := .type "list", data := .seq ([] : List Value).toArray }).objs.size = s.heap.objs.size + 1 := Heap.size_push ..
  show wpAny _ A.in1 (Builtin.List.listExtendWith (.ref s.heap.objs.size) (.ref z) (.ref s.heap.objs.size)) _ _ _
  have key := extZ (prog := prog) (w := w) (A := A) (s := { s with heap := s.heap.push { cls := .type "list", data := .seq ([] : List Value).toArray } }) (S := s.heap.objs.size)
    (R := fun (q : Result) (s' : Shared) => ∃ (h' : Heap) (tk : Nat) (acc' : Array Value) (c' : Nat) (as : List Addr), q = .ok (.ret (.ref s.heap.objs.size)) ∧ s' = { s with heap := h', toks := tk } ∧
      (∀ b o, b ≠ z → b ≠ TO → b ≠ i1 → b ≠ i2 → s.heap.get? b = some o → h'.get? b = some o) ∧ h'.get? s.heap.objs.size = some { cls := .type "list", dict := none, data := .seq acc' c', slots := #[] } ∧ as.length = n ∧ MadeZ P1 P2 s.heap.objs.size h' as ∧ acc'.toList = as.map Value.ref)
    D1 D2 Z (by show SA _ _ _ _ _ _ _ _ (s.heap.push _).objs.size; rw [hsz]; exact L.sa) hmin hn (.ref s.heap.objs.size) 0 (st.push D1 D2) hS₁
    (fun h' tk acc' c' as hk hS' hl hG hacc => ⟨h', tk, acc', c', as, rfl, rfl, fun b o b1 b2 b3 b4 e => hk b o (Nat.ne_of_lt (Heap.lt_size e)) b1 b2 b3 b4 (Heap.get?_push_of_some _ e), hS', hl, ⟨hG.rise, fun a ha => Nat.le_trans (by show s.heap.objs.size ≤ (s.heap.push _).objs.size; rw [hsz]; exact Nat.le_succ _) (hG.above a ha), hG.pairs⟩, hacc⟩)
  refine wpAny_mono key (fun fin s' x => ?_) fun e s' x => ?_
  · cases fin with
    | done f =>
      obtain ⟨h', tk, acc', c', as, e, rfl, hk, hS', hl, hG, hacc⟩ := x
      cases e
      show wpAny _ A (load s.heap.objs.size >>= _) _ _ _
      refine wpAny_bind (wpAny_load hS' ?_)
      refine wpAny_pure ?_
      show Q acc'.toList _
      rw [hacc]
      exact h h' tk as hk hl hG
    | again c₁ =>
      refine ⟨x.1, codeAny_mono x.2 fun q s₂ y => ?_⟩
      obtain ⟨h', tk, acc', c', as, rfl, rfl, hk, hS', hl, hG, hacc⟩ := y
      show wpAny _ A (load s.heap.objs.size >>= _) _ _ _
      refine wpAny_bind (wpAny_load hS' ?_)
      refine wpAny_pure ?_
      show Q acc'.toList _
      rw [hacc]
      exact h h' tk as hk hl hG
  · obtain ⟨_, _, _, _, _, e', _⟩ := x
    cases e'
theorem tuple_new_zip {Q₁ : Value → Shared → Prop} (D1 : Draws prog w A.in1.in1.in1 i1 fp1 n1 P1 St1) (D2 : Draws prog w A.in1.in1.in1 i2 fp2 n2 P2 St2) (Z : ZA z TI TO i1 i2 fp1 fp2) (L : Low z TI TO i1 i2 fp1 fp2 s.heap.objs.size) {n : Nat} (hmin : n = min n1 n2) (hn : n ≤ sizeLine)
    (st : ZSt z TI TO i1 i2 St1 St2 0 s.heap)
    (h : ∀ h' tk as, (∀ b o, b ≠ z → b ≠ TO → b ≠ i1 → b ≠ i2 → s.heap.get? b = some o → h'.get? b = some o) → as.length = n → MadeZ P1 P2 s.heap.objs.size h' as →
      Q₁ (.ref h'.objs.size) { s with heap := h'.push { cls := .type "tuple", data := .seq (as.map Value.ref).toArray }, toks := tk }) :
    codeAny (model prog w) A (.call (.builtin "tuple.__new__") ⟨[.type "tuple", .ref z], []⟩) (wants Q₁ E) s := by
  refine codeAny_of_tree ?_
  show wpAny _ A.in1 (do checkBuiltinCall "tuple.__new__" ⟨[.type "tuple", .ref z], []⟩; again (.builtin "tuple.__new__" ⟨[.type "tuple", .ref z], []⟩)) _ _ s
  refine wpAny_bind (wpAny_of_eq (F.newCall_tuple_1 _) (wpAny_pure ⟨plainId_quiet F.plain_tuple_new _, codeAny_builtin F.entry_tuple_new ?_⟩))
  rw [Around.under_plainId F.plain_tuple_new _]
  have hsub := sub_tuple_self
  have hinit := init_tuple_lookup
  have hmh := madeHere_tuple
  have hTI : s.TypeIs (.ref z) "zip" := zst_type st
  wp_walk using wpAny_typeOf hTI, collectZ (A := A.in1) D1 D2 Z L hmin hn st
  intro h' tk as hk hl hG
  show wpAny _ _ (Builtin.Tuple.tupleExact (as.map Value.ref).toArray >>= fun v => ret v) _ _ _
  unfold Builtin.Tuple.tupleExact
  refine wpAny_bind (wpAny_newObj_type ?_ (by show (as.map Value.ref).toArray.size ≤ sizeLine; simp; omega))
  exact wpAny_pure (h h' tk as hk hl hG)
theorem call_tuple_zip {Q : Value → Shared → Prop} (D1 : Draws prog w A.in1.in1.in1.in1 i1 fp1 n1 P1 St1) (D2 : Draws prog w A.in1.in1.in1.in1 i2 fp2 n2 P2 St2) (Z : ZA z TI TO i1 i2 fp1 fp2) (L : Low z TI TO i1 i2 fp1 fp2 s.heap.objs.size) {n : Nat} (hmin : n = min n1 n2) (hn : n ≤ sizeLine)
    (st : ZSt z TI TO i1 i2 St1 St2 0 s.heap)
    (h : ∀ h' tk as, (∀ b o, b ≠ z → b ≠ TO → b ≠ i1 → b ≠ i2 → s.heap.get? b = some o → h'.get? b = some o) → as.length = n → MadeZ P1 P2 s.heap.objs.size h' as →
      Q (.ref h'.objs.size) { s with heap := h'.push { cls := .type "tuple", data := .seq (as.map Value.ref).toArray }, toks := tk }) :
    wpAny (model prog w) A (call (.type "tuple") [.ref z]) Q E s := by
  refine callType_codes (Q₁ := fun obj s₁ => s₁.TypeIs obj "tuple" ∧ Q obj s₁) F.called_tuple (F.typeCall_tuple_1 _) F.entry_object_init
    (tuple_new_zip (A := A.in1) D1 D2 Z L hmin hn st fun h' tk as hk hl hG => ⟨⟨_, Heap.get?_push_size _ rfl, rfl⟩, h h' tk as hk hl hG⟩) fun obj s₁ h₁ => ?_
  exact ⟨h₁.1, F.args_object_init_2 obj _, object_init_meets F.called_tuple.init.lookup F.called_tuple.made (by decide) prog w A.in1 _ s₁ ⟨h₁.1, rfl, h₁.2⟩⟩
theorem list_init_zip (D1 : Draws prog w A.in1.in1 i1 fp1 n1 P1 St1) (D2 : Draws prog w A.in1.in1 i2 fp2 n2 P2 St2) (Z : ZA z TI TO i1 i2 fp1 fp2) (Y : SA S z TI TO i1 i2 fp1 fp2 s.heap.objs.size) {n : Nat} (hmin : n = min n1 n2) (hn : n ≤ sizeLine)
    (st : ZSt z TI TO i1 i2 St1 St2 0 s.heap) (hS : s.heap.get? S = some { cls := .type "list", data := .seq #[] })
    (hR : ∀ h' tk acc c as, (∀ b o, b ≠ S → b ≠ z → b ≠ TO → b ≠ i1 → b ≠ i2 → s.heap.get? b = some o → h'.get? b = some o) → h'.get? S = some { cls := .type "list", dict := none, data := .seq acc c, slots := #[] } → as.length = n → MadeZ P1 P2 s.heap.objs.size h' as →
      acc.toList = as.map Value.ref → R (.ok (.ret .none)) { s with heap := h', toks := tk }) :
    wpAny (model prog w) A.in1 (Builtin.«list.__init__» ⟨[.ref S, .ref z], []⟩)
      (fun fin s' => match fin with | .done f => R (.ok f) s' | .again c' => c'.quiet = true ∧ codeAny (model prog w) A c' R s') (fun e s' => R (.error e) s') s := by
  show wpAny _ A.in1 (do let old ← Builtin.List.listItems (.ref S); Builtin.List.listUpdate (.ref S) (fun _ => #[]); letGo old.toList.reverse; Builtin.List.listExtendWith (.ref S) (.ref z) .none) _ _ s
  refine wpAny_bind ?_
  unfold Builtin.List.listItems
  refine wpAny_bind (wpAny_seqItems hS rfl (wpAny_pure ?_))
  show wpAny _ A.in1 (updateSeq S (fun _ => #[]) >>= fun _ => letGo (#[] : Array Value).toList.reverse >>= fun _ => Builtin.List.listExtendWith (.ref S) (.ref z) .none) _ _ s
  refine wpAny_bind (wpAny_updateSeq hS rfl ?_)
  have hS₂ := Heap.get?_update_self (Obj.mapSeq (fun _ => (#[] : Array Value))) hS rfl
  have e1 : (s.heap.update S (Obj.mapSeq (fun _ => (#[] : Array Value)))).objs.size = s.heap.objs.size := (Heap.SameBut.update ..).1
  have oth : ∀ b o, b ≠ S → s.heap.get? b = some o → (s.heap.update S (Obj.mapSeq (fun _ => (#[] : Array Value)))).get? b = some o :=
    fun b o hb e => (Heap.get?_update_other _ _ (Ne.symm hb)).trans e
  refine wpAny_bind (wpAny_letGo ?_)
  refine extZ (s := { s with heap := s.heap.update S (Obj.mapSeq (fun _ => (#[] : Array Value))) }) D1 D2 Z (by show SA _ _ _ _ _ _ _ _ (s.heap.update S _).objs.size; rw [e1]; exact Y) hmin hn .none _ (st.up D1 D2 Y) hS₂ fun h' tk acc c as hk hS' hl hG hacc => ?_
  refine hR h' tk acc c as (fun b o h1 h2 h3 h4 h5 e => hk b o h1 h2 h3 h4 h5 (oth b o h1 e)) hS' hl ?_ hacc
  have hG' : MadeZ P1 P2 (s.heap.update S (Obj.mapSeq (fun _ => (#[] : Array Value)))).objs.size h' as := hG
  rw [e1] at hG'
  exact hG'
theorem call_list_zip {Q : Value → Shared → Prop} (D1 : Draws prog w A.in1.in1.in1 i1 fp1 n1 P1 St1) (D2 : Draws prog w A.in1.in1.in1 i2 fp2 n2 P2 St2) (Z : ZA z TI TO i1 i2 fp1 fp2) (L : Low z TI TO i1 i2 fp1 fp2 s.heap.objs.size) {n : Nat} (hmin : n = min n1 n2) (hn : n ≤ sizeLine)
    (st : ZSt z TI TO i1 i2 St1 St2 0 s.heap)
    (h : ∀ h' tk acc c as, (∀ b o, b ≠ z → b ≠ TO → b ≠ i1 → b ≠ i2 → s.heap.get? b = some o → h'.get? b = some o) → h'.get? s.heap.objs.size = some { cls := .type "list", dict := none, data := .seq acc c, slots := #[] } → as.length = n → MadeZ P1 P2 (s.heap.objs.size + 1) h' as →
      acc.toList = as.map Value.ref → Q (.ref s.heap.objs.size) { s with heap := h', toks := tk }) :
    wpAny (model prog w) A (call (.type "list") [.ref z]) Q E s := by
  refine callType_codes (Q₁ := fun obj s₁ => obj = .ref s.heap.objs.size ∧ s₁ = { s with heap := s.heap.push { cls := .type "list", data := .seq #[] } }) F.called_list (F.typeCall_list_1 _) F.entry_list_init
    (code_list_new _ ⟨rfl, rfl⟩) fun obj s₁ h₁ => ?_
  obtain ⟨rfl, rfl⟩ := h₁
  have hS : (s.heap.push { cls := .type "list", data := .seq #[] }).get? s.heap.objs.size = some { cls := .type "list", data := .seq #[] } := Heap.get?_push_size _ rfl
  have hsz : (s.heap.push { cls := .type "list", data := .seq #[] }).objs.size = s.heap.objs.size + 1 := Heap.size_push ..
  refine ⟨⟨_, hS, rfl⟩, F.args_list_init_2 _ _, list_init_zip (A := A.in1) (s := { s with heap := s.heap.push { cls := .type "list", data := .seq #[] } }) D1 D2 Z (by show SA _ _ _ _ _ _ _ _ (s.heap.push _).objs.size; rw [hsz]; exact L.sa) hmin hn (st.push D1 D2) hS fun h' tk acc c as hk hS' hl hG hacc => ?_⟩
  have hG' : MadeZ P1 P2 (s.heap.push { cls := .type "list", data := .seq #[] }).objs.size h' as := hG
  rw [hsz] at hG'
  exact ⟨rfl, h h' tk acc c as (fun b o b1 b2 b3 b4 e => hk b o (Nat.ne_of_lt (Heap.lt_size e)) b1 b2 b3 b4 (Heap.get?_push_of_some _ e)) hS' hl hG' hacc⟩
end
/-! ### zip(a, b), a and b lists or tuples -/
/-- a list or a tuple with its items, and the iterator of it -/
structure Src where
  cls : String
  it : String
def sL : Src := ⟨"list", "list_iterator"⟩
def sT : Src := ⟨"tuple", "tuple_iterator"⟩
abbrev itO (c : Src) (l : Addr) : Obj := { cls := .type c.it, data := .fields #[.ref l, .int 0 0] }
def Holds (c : Src) (h : Heap) (l : Addr) (xs : Array Value) : Prop := (c = sL ∧ h.IsList l xs) ∨ (c = sT ∧ h.IsTuple l xs)
theorem Holds.push {c : Src} {h : Heap} {l : Addr} {xs : Array Value} {o : Obj} (x : Holds c h l xs) : Holds c (h.push o) l xs := by
  rcases x with ⟨e, q⟩ | ⟨e, q⟩
  · exact .inl ⟨e, q.push _⟩
  · exact .inr ⟨e, Heap.IsTuple.push q _⟩
theorem iter_src {prog : Program} {w : World} {A : Around} {E : Value → Shared → Prop} {s : Shared} {c : Src} {l : Addr} {xs : Array Value} {Q : Value → Shared → Prop} (h : Holds c s.heap l xs) (hQ : Q (.ref s.heap.objs.size) { s with heap := s.heap.push (itO c l) }) :
    wpAny (model prog w) A (pyIter (.ref l)) Q E s := by
  rcases h with ⟨rfl, q⟩ | ⟨rfl, q⟩
  · exact wpAny_pyIter_list q hQ
  · exact wpAny_pyIter_tuple q hQ
abbrev zH2 (h : Heap) (c d : Src) (l1 l2 : Addr) : Heap := (h.push (itO c l1)).push (itO d l2)
abbrev zH3 (h : Heap) (c d : Src) (l1 l2 : Addr) : Heap := (zH2 h c d l1 l2).push { cls := .type "tuple", data := .seq #[.ref h.objs.size, .ref (h.push (itO c l1)).objs.size] }
abbrev zH4 (h : Heap) (c d : Src) (l1 l2 : Addr) : Heap := (zH3 h c d l1 l2).push { cls := .type "tuple", data := .seq #[.none, .none] }
abbrev zH5 (h : Heap) (c d : Src) (l1 l2 : Addr) : Heap := (zH4 h c d l1 l2).push { cls := .type "zip", data := .fields #[.none, .bool false, .bool false, .ref (zH2 h c d l1 l2).objs.size, .ref (zH3 h c d l1 l2).objs.size] }
theorem meets_zip (c d : Src) (l1 l2 : Addr) (xs ys : Array Value) :
    Meets (Builtin.«zip.__new__» ⟨[.type "zip", .ref l1, .ref l2], []⟩) (fun _ R s => Holds c s.heap l1 xs ∧ Holds d s.heap l2 ys ∧
      R (.ok (.ret (.ref (zH4 s.heap c d l1 l2).objs.size))) { s with heap := zH5 s.heap c d l1 l2 }) :=
  .of_wp fun prog w A R s h => by
    obtain ⟨hp, g, dd, tk, os⟩ := s; obtain ⟨hl1, hl2, h⟩ := h
    have hsub := sub_zip
    have hL1 : Holds c (Shared.heap ⟨hp, g, dd, tk, os⟩) l1 xs := hl1
    have hL2 : Holds d (Shared.heap ⟨hp.push (itO c l1), g, dd, tk, os⟩) l2 ys := Holds.push hl2
    wp_walk using iter_src hL1, iter_src hL2
    exact ⟨_, rfl, h⟩
def StS (c : Src) (it l : Addr) (xs : Array Value) (i : Nat) (h : Heap) : Prop := (c = sL ∧ h.IsListIter it l i ∧ h.IsList l xs) ∨ (c = sT ∧ h.IsTupleIter it l i ∧ h.IsTuple l xs)
theorem sL_ne : sL ≠ sT := by
  intro e
  have := congrArg Src.cls e
  exact absurd this (by decide)
theorem drawsS {prog : Program} {w : World} {A : Around} {c : Src} (hh : A.handled = none) (it l : Addr) (hne : l ≠ it) (xs : Array Value) (hc : c = sL ∨ c = sT) : Draws prog w A it [it, l] xs.size (fun i v => xs[i]? = some v) (StS c it l xs) := by
  rcases hc with rfl | rfl
  · have D := Draws.list (prog := prog) (w := w) hh it l hne xs
    have e : ∀ i h, StS sL it l xs i h ↔ (h.IsListIter it l i ∧ h.IsList l xs) := fun i h => ⟨fun q => by
      rcases q with ⟨_, q⟩ | ⟨z, _⟩
      · exact q
      · exact absurd z sL_ne, fun q => .inl ⟨rfl, q⟩⟩
    have e2 : StS sL it l xs = fun i h => h.IsListIter it l i ∧ h.IsList l xs := funext fun i => funext fun h => propext (e i h)
    rw [e2]; exact D
  · have D := Draws.tuple (prog := prog) (w := w) hh it l hne xs
    have e : ∀ i h, StS sT it l xs i h ↔ (h.IsTupleIter it l i ∧ h.IsTuple l xs) := fun i h => ⟨fun q => by
      rcases q with ⟨z, _⟩ | ⟨_, q⟩
      · exact absurd z.symm sL_ne
      · exact q, fun q => .inr ⟨rfl, q⟩⟩
    have e2 : StS sT it l xs = fun i h => h.IsTupleIter it l i ∧ h.IsTuple l xs := funext fun i => funext fun h => propext (e i h)
    rw [e2]; exact D
theorem StS.start {c : Src} {h h' : Heap} {it l : Addr} {xs : Array Value} (x : Holds c h l xs) (hk : ∀ b o, h.get? b = some o → h'.get? b = some o) (hi : h'.get? it = some (itO c l)) : StS c it l xs 0 h' := by
  rcases x with ⟨rfl, q⟩ | ⟨rfl, q⟩
  · exact .inl ⟨rfl, ⟨_, hi, rfl, rfl⟩, q.at fun o e => hk l o e⟩
  · exact .inr ⟨rfl, ⟨_, hi, rfl, rfl⟩, by obtain ⟨o, ho, r⟩ := q; exact ⟨o, hk l o ho, r⟩⟩
theorem Holds.lt {c : Src} {h : Heap} {l : Addr} {xs : Array Value} (x : Holds c h l xs) : l < h.objs.size := by
  rcases x with ⟨_, o, ho, _⟩ | ⟨_, o, ho, _⟩
  · exact Heap.lt_size ho
  · exact Heap.lt_size ho
theorem Holds.kind {c : Src} {h : Heap} {l : Addr} {xs : Array Value} (x : Holds c h l xs) : c = sL ∨ c = sT := by
  rcases x with ⟨e, _⟩ | ⟨e, _⟩
  · exact .inl e
  · exact .inr e
section
variable {prog : Program} {w : World} {A : Around} {E : Value → Shared → Prop} {s : Shared}
theorem call_zipG {c d : Src} {l1 l2 : Addr} {xs ys : Array Value} {Q : Value → Shared → Prop} (hl1 : Holds c s.heap l1 xs) (hl2 : Holds d s.heap l2 ys)
    (h : ∀ h', ZSt (s.heap.objs.size + 4) (s.heap.objs.size + 2) (s.heap.objs.size + 3) s.heap.objs.size (s.heap.objs.size + 1) (StS c s.heap.objs.size l1 xs) (StS d (s.heap.objs.size + 1) l2 ys) 0 h' → h'.objs.size = s.heap.objs.size + 5 →
      (∀ c o, s.heap.get? c = some o → h'.get? c = some o) → Q (.ref (s.heap.objs.size + 4)) { s with heap := h' }) :
    wpAny (model prog w) A (call (.type "zip") [.ref l1, .ref l2]) Q E s := by
  refine callType_new F.called_zip (by decide) (F.typeCall_zip_2 _ _) (F.newCall_zip_2 _ _) (fun obj => F.args_object_init_3 obj _ _) F.entry_zip_new
    (meets_zip c d l1 l2 xs ys) ⟨hl1, hl2, ?_⟩
  have z1 : (s.heap.push (itO c l1)).objs.size = s.heap.objs.size + 1 := Heap.size_push ..
  have z2 : (zH2 s.heap c d l1 l2).objs.size = s.heap.objs.size + 2 := by rw [Heap.size_push, z1]
  have z3 : (zH3 s.heap c d l1 l2).objs.size = s.heap.objs.size + 3 := by rw [Heap.size_push, z2]
  have z4 : (zH4 s.heap c d l1 l2).objs.size = s.heap.objs.size + 4 := by rw [Heap.size_push, z3]
  have z5 : (zH5 s.heap c d l1 l2).objs.size = s.heap.objs.size + 5 := by rw [Heap.size_push, z4]
  have g5 : (zH5 s.heap c d l1 l2).get? (zH4 s.heap c d l1 l2).objs.size = some _ := Heap.get?_push_size _ rfl
  have g4 : (zH5 s.heap c d l1 l2).get? (zH3 s.heap c d l1 l2).objs.size = some _ := Heap.get?_push_of_some _ (Heap.get?_push_size _ rfl)
  have g3 : (zH5 s.heap c d l1 l2).get? (zH2 s.heap c d l1 l2).objs.size = some _ := Heap.get?_push_of_some _ (Heap.get?_push_of_some _ (Heap.get?_push_size _ rfl))
  have g2 : (zH5 s.heap c d l1 l2).get? (s.heap.push (itO c l1)).objs.size = some _ := Heap.get?_push_of_some _ (Heap.get?_push_of_some _ (Heap.get?_push_of_some _ (Heap.get?_push_size _ rfl)))
  have g1 : (zH5 s.heap c d l1 l2).get? s.heap.objs.size = some _ := Heap.get?_push_of_some _ (Heap.get?_push_of_some _ (Heap.get?_push_of_some _ (Heap.get?_push_of_some _ (Heap.get?_push_size _ rfl))))
  have kp : ∀ b o, s.heap.get? b = some o → (zH5 s.heap c d l1 l2).get? b = some o := fun b o x =>
    Heap.get?_push_of_some _ (Heap.get?_push_of_some _ (Heap.get?_push_of_some _ (Heap.get?_push_of_some _ (Heap.get?_push_of_some _ x))))
  show _ ∧ _
  rw [z2, z3, z4] at g5
  rw [z1, z2] at g3
  rw [z3] at g4
  rw [z1] at g2
  rw [z4]
  exact ⟨⟨_, g5, rfl⟩, h _ ⟨_, _, .inl rfl, g5, g3, ⟨_, _, g4⟩, StS.start hl1 kp g1, StS.start hl2 kp g2⟩ z5 kp⟩
end
end Rz
/-! Rt, part C5: tuple(zip(a, b)), list(zip(a, b)) over the abstract heap. -/
namespace Rz
open PySem PySem.Spec PyProof.Rows L2
theorem vals_refs : ∀ as : List Addr, Vals (as.map V.ref) (as.map Value.ref)
  | [] => .nil
  | _ :: as => .cons rfl (vals_refs as)
theorem vals_at : ∀ {xs : List V} {us : List Value} {i : Nat} {u : Value}, Vals xs us → us[i]? = some u → ∃ x, xs[i]? = some x ∧ RelV x u
  | _, _, i, u, .nil, h => by simp at h
  | _, _, 0, u, .cons r t, h => by
    have h := Option.some.inj h
    exact ⟨_, rfl, h ▸ r⟩
  | _, _, i + 1, u, .cons r t, h => vals_at (i := i) t (by simpa using h)
theorem rise_inj {as : List Addr} (h : as.Pairwise (· < ·)) {i j : Nat} {a : Addr} (hi : as[i]? = some a) (hj : as[j]? = some a) : i = j := by
  obtain ⟨h1, e1⟩ := List.getElem?_eq_some_iff.mp hi
  obtain ⟨h2, e2⟩ := List.getElem?_eq_some_iff.mp hj
  rw [List.pairwise_iff_getElem] at h
  rcases Nat.lt_trichotomy i j with q | q | q
  · have := h i j h1 h2 q
    rw [e1, e2] at this
    exact absurd this (Nat.lt_irrefl _)
  · exact q
  · have := h j i h2 h1 q
    rw [e1, e2] at this
    exact absurd this (Nat.lt_irrefl _)
def SqA (K : PySem.W.Frag) (H : Hp) (a : Addr) (xs : List V) : Prop := SqL K H a xs ∨ SqT K H a xs
section
variable {X : Cx} {pins : List (Addr × Obj)} {s : Shared} {σ : L2.St} {H : Hp} {pa pb : Addr} {xs ys : List V}
theorem holds_of (I : Inv X pins σ H s) (h : SqA X.K H pa xs) : ∃ (c : Src) (its : List Value), Vals xs its ∧ Holds c s.heap pa its.toArray ∧ xs.length ≤ sizeLine := by
  rcases h with h | h
  · obtain ⟨its, rv, p, hz⟩ := I.list h
    exact ⟨sL, its, rv, .inl ⟨rfl, p.isList⟩, hz⟩
  · obtain ⟨its, rv, p, hz⟩ := I.tuple h
    exact ⟨sT, its, rv, .inr ⟨rfl, p⟩, hz⟩
/-- the pairs that were made, tracked -/
def Prs (xs ys : List V) (H H3 : Hp) (as : List Addr) : Prop := (∀ b o, H b = some o → H3 b = some o) ∧ as.length = min xs.length ys.length ∧ ∀ (j : Nat) (a : Addr), as[j]? = some a → H a = none ∧ ∃ u v, xs[j]? = some u ∧ ys[j]? = some v ∧ H3 a = some (.tup [u, v])
theorem track {its its2 : List Value} {h' : Heap} {tk : Nat} {as : List Addr} {lo : Addr} (I : Inv X pins σ H s) (rx : Vals xs its) (ry : Vals ys its2) (hk : ∀ b o, s.heap.get? b = some o → h'.get? b = some o) (hlo : s.heap.objs.size ≤ lo)
    (hl : as.length = min its.toArray.size its2.toArray.size) (hG : MadeZ (fun i v => its.toArray[i]? = some v) (fun i v => its2.toArray[i]? = some v) lo h' as) : ∃ H3, Inv X pins σ H3 { s with heap := h', toks := tk } ∧ Prs xs ys H H3 as := by
  have I1 : Inv X pins σ H { s with heap := h', toks := tk } := I.kept (t' := tk) hk
  have nd : as.Nodup := hG.rise.imp fun {a b} h => Nat.ne_of_lt h
  have hit : ∀ (j : Nat) (a : Addr), as[j]? = some a → ∃ u v, xs[j]? = some u ∧ ys[j]? = some v ∧ ∀ H2, ObjOk X.prog X.w H2 h' a (.tup [u, v]) := fun j a hj => by
    obtain ⟨x, y, h1, h2, h3⟩ := hG.pairs j a hj
    obtain ⟨u, e1, r1⟩ := vals_at rx (by simpa using h1)
    obtain ⟨v, e2, r2⟩ := vals_at ry (by simpa using h2)
    exact ⟨u, v, e1, e2, fun H2 => ⟨by show 2 ≤ sizeLine; decide, [x, y], .cons r1 (.cons r2 .nil), ⟨_, h3, rfl, _, rfl⟩⟩⟩
  have fresh : ∀ a ∈ as, H a = none := fun a ha => I.hok.fresh (Nat.le_trans hlo (hG.above a ha))
  obtain ⟨H3, I3, e3, q3⟩ := L2.DX.takeT (P := fun a vs => ∃ (j : Nat) (u v : V), as[j]? = some a ∧ xs[j]? = some u ∧ ys[j]? = some v ∧ vs = [u, v]) I as H I1 nd (fun a ha => by
    obtain ⟨j, hj⟩ := List.mem_iff_getElem?.mp ha
    obtain ⟨u, v, h1, h2, h3⟩ := hit j a hj
    exact ⟨Nat.le_trans hlo (hG.above a ha), fresh a ha, [u, v], ⟨j, u, v, hj, h1, h2, rfl⟩, h3⟩)
  refine ⟨H3, I3, e3, by rw [hl, rx.length, ry.length]; simp, fun j a hj => ?_⟩
  have ha := List.mem_of_getElem? hj
  obtain ⟨vs, ⟨j', u, v, h1, h2, h3, rfl⟩, h4⟩ := q3 a ha
  have := rise_inj hG.rise h1 hj
  subst this
  exact ⟨fresh a ha, u, v, h2, h3, h4⟩
theorem za (z l1 l2 : Nat) (h1 : l1 < z) (h2 : l2 < z) : ZA (z + 4) (z + 2) (z + 3) z (z + 1) [z, l1] [z + 1, l2] where
  TIz := fun h => absurd (show ((z + 2 : Nat)) = (z + 4 : Nat) from h) (by omega)
  TOz := fun h => absurd (show ((z + 3 : Nat)) = (z + 4 : Nat) from h) (by omega)
  i1z := fun h => absurd (show ((z : Nat)) = (z + 4 : Nat) from h) (by omega)
  i2z := fun h => absurd (show ((z + 1 : Nat)) = (z + 4 : Nat) from h) (by omega)
  TITO := fun h => absurd (show ((z + 2 : Nat)) = (z + 3 : Nat) from h) (by omega)
  TIi1 := fun h => absurd (show ((z + 2 : Nat)) = (z : Nat) from h) (by omega)
  TIi2 := fun h => absurd (show ((z + 2 : Nat)) = (z + 1 : Nat) from h) (by omega)
  TOi1 := fun h => absurd (show ((z + 3 : Nat)) = (z : Nat) from h) (by omega)
  TOi2 := fun h => absurd (show ((z + 3 : Nat)) = (z + 1 : Nat) from h) (by omega)
  i12 := fun h => absurd (show ((z : Nat)) = (z + 1 : Nat) from h) (by omega)
  z1 := fun h => by
      rcases List.mem_cons.mp h with h | h
      · exact absurd (show ((z + 4 : Nat)) = (z : Nat) from h) (by omega)
      · exact absurd (show ((z + 4 : Nat)) = (l1 : Nat) from List.mem_singleton.mp h) (by omega)
  z2 := fun h => by
      rcases List.mem_cons.mp h with h | h
      · exact absurd (show ((z + 4 : Nat)) = (z + 1 : Nat) from h) (by omega)
      · exact absurd (show ((z + 4 : Nat)) = (l2 : Nat) from List.mem_singleton.mp h) (by omega)
  t1 := fun h => by
      rcases List.mem_cons.mp h with h | h
      · exact absurd (show ((z + 3 : Nat)) = (z : Nat) from h) (by omega)
      · exact absurd (show ((z + 3 : Nat)) = (l1 : Nat) from List.mem_singleton.mp h) (by omega)
  t2 := fun h => by
      rcases List.mem_cons.mp h with h | h
      · exact absurd (show ((z + 3 : Nat)) = (z + 1 : Nat) from h) (by omega)
      · exact absurd (show ((z + 3 : Nat)) = (l2 : Nat) from List.mem_singleton.mp h) (by omega)
  o1 := fun h => by
      rcases List.mem_cons.mp h with h | h
      · exact absurd (show ((z + 1 : Nat)) = (z : Nat) from h) (by omega)
      · exact absurd (show ((z + 1 : Nat)) = (l1 : Nat) from List.mem_singleton.mp h) (by omega)
  o2 := fun h => by
      rcases List.mem_cons.mp h with h | h
      · exact absurd (show ((z : Nat)) = (z + 1 : Nat) from h) (by omega)
      · exact absurd (show ((z : Nat)) = (l2 : Nat) from List.mem_singleton.mp h) (by omega)
theorem zlow (z l1 l2 : Nat) (h1 : l1 < z) (h2 : l2 < z) : Low (z + 4) (z + 2) (z + 3) z (z + 1) [z, l1] [z + 1, l2] (z + 5) where
  z := (show (z + 4 : Nat) < (z + 5 : Nat) by omega)
  TI := (show (z + 2 : Nat) < (z + 5 : Nat) by omega)
  TO := (show (z + 3 : Nat) < (z + 5 : Nat) by omega)
  i1 := (show (z : Nat) < (z + 5 : Nat) by omega)
  i2 := (show (z + 1 : Nat) < (z + 5 : Nat) by omega)
  f1 := fun b h => by
      rcases List.mem_cons.mp h with h | h
      · rw [h]; exact (show ((z : Nat)) < (z + 5 : Nat) by omega)
      · rw [List.mem_singleton.mp h]; exact (show ((l1 : Nat)) < (z + 5 : Nat) by omega)
  f2 := fun b h => by
      rcases List.mem_cons.mp h with h | h
      · rw [h]; exact (show ((z + 1 : Nat)) < (z + 5 : Nat) by omega)
      · rw [List.mem_singleton.mp h]; exact (show ((l2 : Nat)) < (z + 5 : Nat) by omega)
theorem trackP {its its2 : List Value} {hf : Heap} {tk : Nat} {as : List Addr} {lo p : Addr} {u : HO} (I : Inv X pins σ H s) (rx : Vals xs its) (ry : Vals ys its2) (hk : ∀ b o, s.heap.get? b = some o → hf.get? b = some o) (hlo : s.heap.objs.size ≤ lo) (hp : s.heap.objs.size ≤ p) (hpa : p ∉ as)
    (hu : ∀ H2, ObjOk X.prog X.w H2 hf p u) (hl : as.length = min its.toArray.size its2.toArray.size) (hG : MadeZ (fun i v => its.toArray[i]? = some v) (fun i v => its2.toArray[i]? = some v) lo hf as) :
    ∃ H3, Inv X pins σ H3 { s with heap := hf, toks := tk } ∧ Prs xs ys H H3 as ∧ H p = none ∧ H3 p = some u := by
  have I1 : Inv X pins σ H { s with heap := hf, toks := tk } := I.kept (t' := tk) hk
  have np : H p = none := I.hok.fresh hp
  have I2 : Inv X pins σ (upd H p u) { s with heap := hf, toks := tk } := I1.take (h' := hf) (t' := tk) (fun b ob _ e => e) (I.fpOk hp np) (hu _)
  have nd : as.Nodup := hG.rise.imp fun {a b} h => Nat.ne_of_lt h
  have hit : ∀ (j : Nat) (a : Addr), as[j]? = some a → ∃ u v, xs[j]? = some u ∧ ys[j]? = some v ∧ ∀ H2, ObjOk X.prog X.w H2 hf a (.tup [u, v]) := fun j a hj => by
    obtain ⟨x, y, h1, h2, h3⟩ := hG.pairs j a hj
    obtain ⟨u, e1, r1⟩ := vals_at rx (by simpa using h1)
    obtain ⟨v, e2, r2⟩ := vals_at ry (by simpa using h2)
    exact ⟨u, v, e1, e2, fun H2 => ⟨by show 2 ≤ sizeLine; decide, [x, y], .cons r1 (.cons r2 .nil), ⟨_, h3, rfl, _, rfl⟩⟩⟩
  have fresh : ∀ a ∈ as, H a = none := fun a ha => I.hok.fresh (Nat.le_trans hlo (hG.above a ha))
  obtain ⟨H3, I3, e3, q3⟩ := L2.DX.takeT (P := fun a vs => ∃ (j : Nat) (u v : V), as[j]? = some a ∧ xs[j]? = some u ∧ ys[j]? = some v ∧ vs = [u, v]) I as (upd H p u) I2 nd (fun a ha => by
    obtain ⟨j, hj⟩ := List.mem_iff_getElem?.mp ha
    obtain ⟨u, v, h1, h2, h3⟩ := hit j a hj
    exact ⟨Nat.le_trans hlo (hG.above a ha), by rw [upd_ne (fun z => hpa (by rw [← z]; exact ha))]; exact fresh a ha, [u, v], ⟨j, u, v, hj, h1, h2, rfl⟩, h3⟩)
  refine ⟨H3, I3, ⟨fun b o e => e3 b o (by rw [upd_ne (ne_of_none e np)]; exact e), by rw [hl, rx.length, ry.length]; simp, fun j a hj => ?_⟩, np, e3 _ _ upd_same⟩
  have ha := List.mem_of_getElem? hj
  obtain ⟨vs, ⟨j', u, v, h1, h2, h3, rfl⟩, h4⟩ := q3 a ha
  have := rise_inj hG.rise h1 hj
  subst this
  exact ⟨fresh a ha, u, v, h2, h3, h4⟩
end
section
variable {X : Cx} {pins : List (Addr × Obj)} {s : Shared} {σ : L2.St} {H : Hp}
theorem boot_zipT : bootBuiltins ("zip" : Str) = some (.type "zip") := by decide +kernel
theorem boot_tupT : bootBuiltins ("tuple" : Str) = some (.type "tuple") := by decide +kernel
theorem boot_lstT : bootBuiltins ("list" : Str) = some (.type "list") := by decide +kernel
/-- tuple(zip(a, b)) -/
def tTZ (K : PySem.W.Frag) (mk : List V → HO) (tA : TA) : TE := fun σ H Q => tA σ H fun vs H2 => ∃ pa pb xs ys, vs = [V.ref pa, V.ref pb] ∧ SqA K H2 pa xs ∧ SqA K H2 pb ys ∧
  ∀ H3 as p, Prs xs ys H2 H3 as → H2 p = none → p ∉ as → H3 p = some (mk (as.map V.ref)) → Q (.ref p) H3
theorem refs2 {pa pb : Addr} {us : List Value} (r : Vals [V.ref pa, V.ref pb] us) : us = [Value.ref pa, Value.ref pb] := by
  cases r with
  | cons r1 r =>
    cases r with
    | cons r2 r =>
      cases r; cases r1; cases r2; rfl
theorem pe_tupzip {a b : Expr} {tA : TA} {p p2 q pos : Pos} (hc : X.calm = true) (hg : Gl X "tuple") (hm : X.mg "tuple" = none) (hg2 : Gl X "zip") (hm2 : X.mg "zip" = none) (hA : PA X [a, b] tA)
    (he : starEach [a, b] X.env = (false, eval a X.env) :: starEach [b] X.env) (hpl : (backTo q (starEach [b] X.env)).any (·.1) = false) : PE X (.Call (.Name "tuple" p) [.Call (.Name "zip" p2) [a, b] [] q] [] pos) (tTZ X.K .tup tA) := by
  refine ⟨fun pins s σ H Q I h => ?_⟩
  refine wpAny_Call_Name_kw (ld_blt I hg hm boot_tupT ?_)
  refine PyProof.Rows.callWith_type1 (PyProof.Rows.args_cons ?_ rfl) rfl rfl
  refine wpAny_Call_Name_kw (ld_blt I hg2 hm2 boot_zipT ?_)
  refine PyProof.Rows.callWith_type1 (thn (hA.run q pins s σ H _ I h) fun us s1 ⟨vs, H1, I1, r1, q1⟩ => ?_) he hpl
  obtain ⟨pa, pb, xs, ys, rfl, h1, h2, q1⟩ := q1
  have := refs2 r1
  subst this
  obtain ⟨c, its, rx, hl1, z1⟩ := holds_of I1 h1
  obtain ⟨d, its2, ry, hl2, z2⟩ := holds_of I1 h2
  refine call_zipG hl1 hl2 fun h' st hsz hk => ?_
  refine PyProof.Rows.args_nil ?_
  have hd := I1.ok.hd hc
  have hn1 : its.toArray.size = xs.length := by rw [List.size_toArray, rx.length]
  have hn2 : its2.toArray.size = ys.length := by rw [List.size_toArray, ry.length]
  have hd4 : X.A.in1.in1.in1.in1.handled = none := by simp [hd]
  refine call_tuple_zip (s := { s1 with heap := h' }) (drawsS hd4 s1.heap.objs.size pa (Nat.ne_of_lt hl1.lt) its.toArray hl1.kind) (drawsS hd4 (s1.heap.objs.size + 1) pb (Nat.ne_of_lt (Nat.lt_succ_of_lt hl2.lt)) its2.toArray hl2.kind) (za _ _ _ hl1.lt hl2.lt)
    (by show Low _ _ _ _ _ _ _ h'.objs.size; rw [hsz]; exact zlow _ _ _ hl1.lt hl2.lt) (n := min its.toArray.size its2.toArray.size) rfl (Nat.le_trans (Nat.min_le_left _ _) (by omega)) st fun hf tk as hk2 hlen hG => ?_
  have hk3 : ∀ b o, s1.heap.get? b = some o → hf.get? b = some o := fun b o e => by
    have hb := Heap.lt_size e
    refine hk2 b o ?_ ?_ ?_ ?_ (hk b o e)
    · exact Nat.ne_of_lt (Nat.lt_of_lt_of_le hb (Nat.le_add_right _ _))
    · exact Nat.ne_of_lt (Nat.lt_of_lt_of_le hb (Nat.le_add_right _ _))
    · exact Nat.ne_of_lt hb
    · exact Nat.ne_of_lt (Nat.lt_of_lt_of_le hb (Nat.le_add_right _ _))
  have hlo : s1.heap.objs.size ≤ h'.objs.size := by rw [hsz]; exact Nat.le_add_right _ _
  have lt_hf : ∀ a ∈ as, a < hf.objs.size := fun a ha => by
    obtain ⟨j, hj⟩ := List.mem_iff_getElem?.mp ha
    obtain ⟨x, y, _, _, h3⟩ := hG.pairs j a hj
    exact Heap.lt_size h3
  have hG2 : MadeZ (fun i v => its.toArray[i]? = some v) (fun i v => its2.toArray[i]? = some v) h'.objs.size (hf.push { cls := .type "tuple", data := .seq (as.map Value.ref).toArray }) as :=
    ⟨hG.rise, hG.above, fun j a hj => by
      obtain ⟨x, y, p1, p2, p3⟩ := hG.pairs j a hj
      exact ⟨x, y, p1, p2, Heap.get?_push_of_some _ p3⟩⟩
  have hsz2 : s1.heap.objs.size ≤ hf.objs.size := by
    obtain ⟨_, _, _, _, hTI, _, _, _⟩ := st
    have e2 := hk2 _ _ (Nat.ne_of_lt (Nat.lt_succ_of_lt (Nat.lt_succ_self _))) (Nat.ne_of_lt (Nat.lt_succ_self _)) (Nat.ne_of_gt (Nat.lt_succ_of_lt (Nat.lt_succ_self _))) (Nat.ne_of_gt (Nat.lt_succ_self _)) hTI
    exact Nat.le_of_lt (Nat.lt_of_le_of_lt (Nat.le_add_right _ 2) (Heap.lt_size e2))
  obtain ⟨H3, I3, pr, np, hp3⟩ := trackP (tk := tk) (p := hf.objs.size) (u := .tup (as.map V.ref)) I1 rx ry (fun b o e => Heap.get?_push_of_some _ (hk3 b o e)) hlo hsz2 (fun hin => absurd (lt_hf _ hin) (Nat.lt_irrefl _))
    (fun H2 => ⟨by rw [List.length_map, hlen]; omega, as.map Value.ref, vals_refs as, ⟨_, Heap.get?_push_size _ rfl, rfl, _, rfl⟩⟩) hlen hG2
  exact ⟨.ref hf.objs.size, H3, I3, rfl, q1 H3 as _ pr np (fun hin => absurd (lt_hf _ hin) (Nat.lt_irrefl _)) hp3⟩
theorem pe_lstzip {a b : Expr} {tA : TA} {p p2 q pos : Pos} (hc : X.calm = true) (hg : Gl X "list") (hm : X.mg "list" = none) (hg2 : Gl X "zip") (hm2 : X.mg "zip" = none) (hA : PA X [a, b] tA)
    (he : starEach [a, b] X.env = (false, eval a X.env) :: starEach [b] X.env) (hpl : (backTo q (starEach [b] X.env)).any (·.1) = false) : PE X (.Call (.Name "list" p) [.Call (.Name "zip" p2) [a, b] [] q] [] pos) (tTZ X.K .lst tA) := by
  refine ⟨fun pins s σ H Q I h => ?_⟩
  refine wpAny_Call_Name_kw (ld_blt I hg hm boot_lstT ?_)
  refine PyProof.Rows.callWith_type1 (PyProof.Rows.args_cons ?_ rfl) rfl rfl
  refine wpAny_Call_Name_kw (ld_blt I hg2 hm2 boot_zipT ?_)
  refine PyProof.Rows.callWith_type1 (thn (hA.run q pins s σ H _ I h) fun us s1 ⟨vs, H1, I1, r1, q1⟩ => ?_) he hpl
  obtain ⟨pa, pb, xs, ys, rfl, h1, h2, q1⟩ := q1
  have := refs2 r1
  subst this
  obtain ⟨c, its, rx, hl1, z1⟩ := holds_of I1 h1
  obtain ⟨d, its2, ry, hl2, z2⟩ := holds_of I1 h2
  refine call_zipG hl1 hl2 fun h' st hsz hk => ?_
  refine PyProof.Rows.args_nil ?_
  have hd := I1.ok.hd hc
  have hn1 : its.toArray.size = xs.length := by rw [List.size_toArray, rx.length]
  have hn2 : its2.toArray.size = ys.length := by rw [List.size_toArray, ry.length]
  have hd3 : X.A.in1.in1.in1.handled = none := by simp [hd]
  refine call_list_zip (s := { s1 with heap := h' }) (drawsS hd3 s1.heap.objs.size pa (Nat.ne_of_lt hl1.lt) its.toArray hl1.kind) (drawsS hd3 (s1.heap.objs.size + 1) pb (Nat.ne_of_lt (Nat.lt_succ_of_lt hl2.lt)) its2.toArray hl2.kind) (za _ _ _ hl1.lt hl2.lt)
    (by show Low _ _ _ _ _ _ _ h'.objs.size; rw [hsz]; exact zlow _ _ _ hl1.lt hl2.lt) (n := min its.toArray.size its2.toArray.size) rfl (Nat.le_trans (Nat.min_le_left _ _) (by omega)) st fun hf tk acc cc as hk2 hS hlen hG hacc => ?_
  have hk3 : ∀ b o, s1.heap.get? b = some o → hf.get? b = some o := fun b o e => by
    have hb := Heap.lt_size e
    refine hk2 b o ?_ ?_ ?_ ?_ (hk b o e)
    · exact Nat.ne_of_lt (Nat.lt_of_lt_of_le hb (Nat.le_add_right _ _))
    · exact Nat.ne_of_lt (Nat.lt_of_lt_of_le hb (Nat.le_add_right _ _))
    · exact Nat.ne_of_lt hb
    · exact Nat.ne_of_lt (Nat.lt_of_lt_of_le hb (Nat.le_add_right _ _))
  have hlo : s1.heap.objs.size ≤ h'.objs.size := by rw [hsz]; exact Nat.le_add_right _ _
  have npa : h'.objs.size ∉ as := fun hin => absurd (hG.above _ hin) (Nat.not_succ_le_self _)
  have eacc : acc = (as.map Value.ref).toArray := by rw [← hacc]
  obtain ⟨H3, I3, pr, np, hp3⟩ := trackP (tk := tk) (p := h'.objs.size) (u := .lst (as.map V.ref)) I1 rx ry hk3 (Nat.le_trans hlo (Nat.le_succ _)) hlo npa
    (fun H2 => ⟨by rw [List.length_map, hlen]; omega, as.map Value.ref, cc, vals_refs as, by rw [← eacc]; exact hS⟩) hlen hG
  exact ⟨.ref h'.objs.size, H3, I3, rfl, q1 H3 as _ pr np npa hp3⟩
end
end Rz
/-! Rt, part C6: tuple(zip(a, b)), list(zip(a, b)) on data. -/
namespace Rt
open PySem PySem.Spec PyProof.Rows L2
theorem DdA.of_get {F : Hp} : ∀ {vs : List V} {ds : List PyData}, vs.length = ds.length → (∀ (j : Nat) (v : V) (d : PyData), vs[j]? = some v → ds[j]? = some d → Dd F v d) → DdA F vs ds
  | [], [], _, _ => .nil
  | [], _ :: _, h, _ => by simp at h
  | _ :: _, [], h, _ => by simp at h
  | v :: vs, d :: ds, h, q => .cons (q 0 v d rfl rfl) (DdA.of_get (by simpa using h) fun j u e h1 h2 => q (j + 1) u e (by simpa using h1) (by simpa using h2))
theorem items_dd {F : Hp} {v : V} {d : PyData} {x : List PyData} (h : Dd F v d) (e : itemsD d = .ok x) : ∃ a vs, v = .ref a ∧ (Rd F a (.lst vs) ∨ Rd F a (.tup vs)) ∧ DdA F vs x := by
  cases h with
  | lst r a => simp only [itemsD, R.ok.injEq] at e; subst e; exact ⟨_, _, rfl, .inl r, a⟩
  | tup r a => simp only [itemsD, R.ok.injEq] at e; subst e; exact ⟨_, _, rfl, .inr r, a⟩
  | _ => simp [itemsD] at e
theorem sqa_of {K : PySem.W.Frag} {F H : Hp} {a : Addr} {vs : List V} (sub : Same F H) (h : Rd F a (.lst vs) ∨ Rd F a (.tup vs)) : Rz.SqA K H a vs := by
  rcases h with h | h
  · exact .inl (.inl (Rd.mono sub h))
  · exact .inr (.inl (Rd.mono sub h))
/-- the pairs that were made, and what holds them, as data -/
theorem zip_new {F H H3 : Hp} {xs ys : List V} {x y : List PyData} {as : List Addr} {p : Addr} {o : HO} (sub : Same F H) (hx : DdA F xs x) (hy : DdA F ys y) (pr : Rz.Prs xs ys H H3 as) (np : H p = none) (npa : p ∉ as) (hp : H3 p = some o) :
    ∃ F3, Ext F H F3 H3 ∧ F3 p = some o ∧ DdA F3 (as.map V.ref) (zipL x y) := by
  obtain ⟨g, hl, q⟩ := pr
  have fr : ∀ a ∈ as, H a = none := fun a ha => by
    obtain ⟨j, hj⟩ := List.mem_iff_getElem?.mp ha
    exact (q j a hj).1
  have ff : ∀ b, F b ≠ none → ¬ (b ∈ as ∨ b = p) := fun b hb h => by
    have hH : H b ≠ none := Same.some_ne sub hb
    rcases h with h | h
    · exact hH (fr b h)
    · subst h; exact hH np
  have hs : Same F (fun b => if b ∈ as ∨ b = p then H3 b else F b) := fun b o e => by
    show (if b ∈ as ∨ b = p then H3 b else F b) = some o
    rw [if_neg (ff b (by rw [e]; simp))]; exact e
  refine ⟨fun b => if b ∈ as ∨ b = p then H3 b else F b, ⟨hs, g, fun b o e => ?_, fun a h n => ?_⟩, ?_, ?_⟩
  · have e : (if b ∈ as ∨ b = p then H3 b else F b) = some o := e
    split at e
    · exact e
    · exact g b o (sub b o e)
  · show (if a ∈ as ∨ a = p then H3 a else F a) = none
    rw [if_neg ?_]
    · exact n
    · intro z
      rcases z with z | z
      · exact h (fr a z)
      · subst z; exact h np
  · show (if p ∈ as ∨ p = p then H3 p else F p) = some o
    rw [if_pos (.inr rfl)]; exact hp
  · refine DdA.of_get (by rw [List.length_map, hl, zip_len, hx.len, hy.len]) fun j v d h1 h2 => ?_
    rw [List.getElem?_map] at h1
    cases ha : as[j]? with
    | none => rw [ha] at h1; cases h1
    | some a =>
      rw [ha] at h1
      have h1 : V.ref a = v := Option.some.inj h1
      subst h1
      obtain ⟨_, u, w, e1, e2, e3⟩ := q j a ha
      obtain ⟨dx, dy, f1, f2, rfl⟩ := zip_get x y j d h2
      obtain ⟨u', g1, k1⟩ := hx.get f1
      obtain ⟨w', g2, k2⟩ := hy.get f2
      rw [e1] at g1; rw [e2] at g2
      cases g1; cases g2
      refine .tup (Rd.of ?_) (.cons (Dd.mono hs _ _ k1) (.cons (Dd.mono hs _ _ k2) .nil))
      show (if a ∈ as ∨ a = p then H3 a else F a) = _
      rw [if_pos (.inl (List.mem_of_getElem? ha))]; exact e3
section
variable {X : Cx} {c : Cc} {W : WX} {lv : Nat}
theorem t_zip {K : PySem.W.Frag} {mk : List V → HO} {mk2 : List PyData → PyData} {op : PyData → PyData → R PyData} {mg : Str → Option Value} {f g : Ex} {σ : L2.St} {H : Hp} {Q : VK} (ho : ∀ a b, op a b = (itemsD a).bind fun x => (itemsD b).bind fun y => .ok (mk2 (zipL x y)))
    (hm : ∀ F a vs ds, F a = some (mk vs) → DdA F vs ds → Dd F (.ref a) (mk2 ds)) (q : tD mg W (c2 op f g) σ H Q) : Rz.tTZ K mk (tCons (tD mg W f) (tCons (tD mg W g) tNil)) σ H Q := by
  obtain ⟨r, F, rel, w⟩ := q
  refine tD_seq rel w fun d v F1 H1 _ e1 rel1 h1 w1 => ?_
  refine tD_seq rel1 w1 fun d2 v2 F2 H2 _ e2 rel2 h2 w2 => ?_
  obtain ⟨z, e3, k⟩ := Want.nox w2
  rw [ho] at e3
  cases i1 : itemsD d with
  | ok x =>
    rw [i1, R.bind_ok] at e3
    cases i2 : itemsD d2 with
    | ok y =>
      rw [i2, R.bind_ok] at e3
      cases e3
      obtain ⟨a, xs, rfl, ra, da⟩ := items_dd (Dd.mono e2.ff _ _ h1) i1
      obtain ⟨b, ys, rfl, rb, db⟩ := items_dd h2 i2
      refine ⟨a, b, xs, ys, rfl, sqa_of rel2.sub ra, sqa_of rel2.sub rb, fun H3 as p pr np npa hp => ?_⟩
      obtain ⟨F3, ex, fp, fd⟩ := zip_new rel2.sub da db pr np npa hp
      exact k _ F3 H3 ((e1.trans e2).trans ex) (hm F3 p _ _ fp fd)
    | exc c => rw [i2] at e3; cases e3
    | bad => rw [i2] at e3; cases e3
  | exc c => rw [i1] at e3; cases e3
  | bad => rw [i1] at e3; cases e3
theorem pd_tupzip {a b : Expr} {f g : Ex} {p p2 q pos : Pos} (hc : X.calm = true) (hg : Gl X "tuple") (hm : X.mg "tuple" = none) (hg2 : Gl X "zip") (hm2 : X.mg "zip" = none) (ha : PE X a (tD X.mg W f)) (hb : PE X b (tD X.mg W g)) (sa : isStar a = false) (sb : isStar b = false) :
    PE X (.Call (.Name "tuple" p) [.Call (.Name "zip" p2) [a, b] [] q] [] pos) (tD X.mg W (c2 tzipD f g)) :=
  PE.wk (Rz.pe_tupzip hc hg hm hg2 hm2 (pa_cons ha (pa_cons hb pa_nil (star_cons sb)) (star_cons sa)) (star_cons sa) (star_all [b] (by simp [sb]))) fun _ _ _ q => t_zip (mk2 := .tuple) (fun _ _ => rfl) (fun F a vs ds h h2 => .tup (Rd.of h) h2) q
theorem pd_lstzip {a b : Expr} {f g : Ex} {p p2 q pos : Pos} (hc : X.calm = true) (hg : Gl X "list") (hm : X.mg "list" = none) (hg2 : Gl X "zip") (hm2 : X.mg "zip" = none) (ha : PE X a (tD X.mg W f)) (hb : PE X b (tD X.mg W g)) (sa : isStar a = false) (sb : isStar b = false) :
    PE X (.Call (.Name "list" p) [.Call (.Name "zip" p2) [a, b] [] q] [] pos) (tD X.mg W (c2 lzipD f g)) :=
  PE.wk (Rz.pe_lstzip hc hg hm hg2 hm2 (pa_cons ha (pa_cons hb pa_nil (star_cons sb)) (star_cons sa)) (star_cons sa) (star_all [b] (by simp [sb]))) fun _ _ _ q => t_zip (mk2 := .list) (fun _ _ => rfl) (fun F a vs ds h h2 => .lst (Rd.of h) h2) q
end
end Rt
/-! Rt, part C7: set(list) by its loop; sorted(set(list)). -/
namespace Rs
open PySem PySem.Spec PyProof.Rows L2
abbrev sO (w : World) : Obj := { cls := .type "set", dict := none, data := .set #[] 0 (.fresh 0 0 (!w.params.followText "set-order")) }
abbrev lIt (l : Addr) : Obj := { cls := .type "list_iterator", data := .fields #[.ref l, .int 0 0] }
section
variable {P : Program} {w : World} {A : Around} {E : Value → Shared → Prop} {s : Shared}
theorem set_by_loop {l : Addr} {xs : Array Value} {K : Heap → Nat → Prop} {Q : Value → Shared → Prop} (hl : s.heap.IsList l xs)
    (loop : codeAny (model P w) A.in1.in1 (.builtin "set.update.loop" ⟨[.ref s.heap.objs.size, .ref (s.heap.push (sO w)).objs.size], []⟩)
      (fun r s2 => r = .ok (.ret .none) ∧ ∃ h' tk, s2 = { s with heap := h', toks := tk } ∧ K h' tk) { s with heap := (s.heap.push (sO w)).push (lIt l) })
    (h : ∀ h' tk, K h' tk → Q (.ref s.heap.objs.size) { s with heap := h', toks := tk }) : wpAny (model P w) A (call (.type "set") [.ref l]) Q E s := by
  obtain ⟨c, tl, mro⟩ := F.called_set.mro
  have m1 := F.called_set.made
  have m2 := F.called_set.sub
  refine wpAny_call (codeAny_of_tree (show wpAny _ _ (callAny (.type "set") _) _ _ _ from wpAny_pure ⟨Code.quiet_builtin _ (by decide +kernel), codeAny_builtin F.entry_type_call ?_⟩))
  rw [Around.under_plain (weight_type_call_type "set" [.ref l] []) rfl]
  have m3 := F.called_set.notType
  have m4 := F.called_set.canCreate
  have m5 := F.typeCall_set_1 (.ref l)
  repeat (any_goals (first | assumption | wp_step))
  refine codeAny_mono (code_set_led1 (.ref l) (E := E) (Q₁ := fun x s1 => x = .ref s.heap.objs.size ∧ s1 = { s with heap := s.heap.push (sO w) }) ⟨rfl, rfl⟩) fun r s1 hr => ?_
  cases r with
  | error e => exact hr
  | ok f =>
    cases f with
    | ret x =>
      obtain ⟨rfl, rfl⟩ := hr
      have g0 : (s.heap.push (sO w)).get? s.heap.objs.size = some (sO w) := Heap.get?_push_size _ rfl
      have ty : Shared.TypeIs { s with heap := s.heap.push (sO w) } (.ref s.heap.objs.size) "set" := ⟨_, g0, rfl⟩
      have m6 := F.called_set.init.lookup
      have m7 := F.called_set.init.bind (.ref s.heap.objs.size)
      repeat (any_goals (first | assumption | wp_step))
      refine codeAny_mono (codeAny_call_builtin (R := wants (fun v s2 => v = .none ∧ ∃ h' tk, s2 = { s with heap := h', toks := tk } ∧ K h' tk) E) F.called_set.init.plain F.entry_set_init (check_set_init_1 ty ?_)) fun r2 s2 hr2 => ?_
      · obtain ⟨⟨k1, k2, k3, k4⟩, g1, q1, nn, q2⟩ := hl
        simp only at q1 q2
        subst q1; subst q2
        have g2 : (s.heap.push (sO w)).get? l = some { cls := .type "list", dict := k2, data := .seq xs nn, slots := k4 } := Heap.get?_push_of_some _ g1
        have n1 := F.sub_list_set
        have n2 := F.sub_list_frozenset
        have n3 : (Value.type "list" == Value.type "dict") = false := by decide
        have isl : (s.heap.push (sO w)).IsList l xs := ⟨_, g2, rfl, nn, rfl⟩
        unfold Builtin.«set.__init__» noKeywords Builtin.Frozenset.updateFrom
        generalize hI : pyIter = itf
        wp_walk
        subst hI
        refine wpAny_pyIter_list isl (wpAny_bind (wpAny_runValue ?_))
        refine codeAny_mono loop fun r3 s3 hr3 => ?_
        obtain ⟨rfl, h', tk, rfl, k⟩ := hr3
        refine wpAny_pure ?_
        show wpAny _ _ (ret Value.none) _ _ _
        exact wpAny_pure ⟨rfl, h', tk, rfl, k⟩
      · cases r2 with
        | error e => exact hr2
        | ok f2 =>
          cases f2 with
          | ret v =>
            obtain ⟨rfl, h', tk, rfl, k⟩ := hr2
            repeat (any_goals (first | assumption | wp_step))
            exact h _ _ k
          | _ => exact hr2.elim
    | _ => exact hr.elim
end
end Rs
/-! Rt, part C8: sorted(set(list)) of ints, of tuples of ints. -/
namespace Rs
open PySem PySem.Spec PyProof.Rows L2
theorem mem_ddp {α : Type} [BEq α] [LawfulBEq α] {x : α} : ∀ {l : List α}, x ∈ Rt.ddp l ↔ x ∈ l
  | [] => by simp [Rt.ddp]
  | y :: l => by
    unfold Rt.ddp
    split
    · rename_i h
      rw [mem_ddp, List.mem_cons]
      constructor
      · exact .inr
      · rintro (rfl | q)
        · exact List.contains_iff_mem.mp h
        · exact q
    · rw [List.mem_cons, List.mem_cons, mem_ddp]
theorem nodup_ddp {α : Type} [BEq α] [LawfulBEq α] : ∀ l : List α, (Rt.ddp l).Nodup
  | [] => by simp [Rt.ddp]
  | y :: l => by
    unfold Rt.ddp
    split
    · exact nodup_ddp l
    · rename_i h
      refine List.nodup_cons.mpr ⟨fun q => h (List.contains_iff_mem.mpr (mem_ddp.mp q)), nodup_ddp l⟩
theorem nodup_len {α : Type} [DecidableEq α] : ∀ (l D : List α), l.Nodup → (∀ x ∈ l, x ∈ D) → l.length ≤ D.length
  | [], _, _, _ => Nat.zero_le _
  | x :: l, D, hn, h => by
    obtain ⟨h1, h2⟩ := List.nodup_cons.mp hn
    have hx := h x (by simp)
    have ih := nodup_len l (D.erase x) h2 fun y hy => (List.mem_erase_of_ne (fun e : y = x => h1 (e ▸ hy))).mpr (h y (List.mem_cons_of_mem _ hy))
    have e := List.length_erase_of_mem hx
    have := List.length_pos_of_mem hx
    rw [List.length_cons]; omega
section
variable {P : Program} {w : World} {A : Around} {E : Value → Shared → Prop} {s : Shared}
theorem below_size (h : Heap) (b : Addr) (hb : h.objs.size ≤ b) : h.get? b = none := by
  cases q : h.get? b with
  | none => rfl
  | some o => exact absurd (Nat.lt_of_lt_of_le (Heap.lt_size q) hb) (Nat.lt_irrefl _)
/-- set(list of ints) -/
theorem set_ints {l : Addr} {xs : Array Value} (ns : List Int) {Q : Value → Shared → Prop} (hh : A.handled = none) (hl : s.heap.IsList l xs) (hi : IntsAre xs.toList ns) (hb : ns.length + 1 < scanBound)
    (h : ∀ (h' : Heap) (tk c : Nat), SetR w h' s.heap.objs.size (fun j => decide (j ∈ ns)) c → c ≤ ns.length → (∀ b o, s.heap.get? b = some o → h'.get? b = some o) → Q (.ref s.heap.objs.size) { s with heap := h', toks := tk }) :
    wpAny (model P w) A (call (.type "set") [.ref l]) Q E s := by
  have hsz : xs.size = ns.length := by
    have q := IntsAre.length hi
    rwa [Array.length_toList] at q
  have hlt : l < s.heap.objs.size := by obtain ⟨o, ho, _⟩ := hl; exact Heap.lt_size ho
  have hp : (s.heap.push (sO w)).objs.size = s.heap.objs.size + 1 := Heap.size_push ..
  refine set_by_loop (K := fun h' tk => ∃ c, SetR w h' s.heap.objs.size (fun j => decide (j ∈ ns)) c ∧ c ≤ ns.length ∧ ∀ b o, s.heap.get? b = some o → h'.get? b = some o) hl ?_ fun h' tk ⟨c, k1, k2, k3⟩ => h h' tk c k1 k2 k3
  refine set_update_ints (A := A.in1.in1) ((Walks.list (by simp [hh]) _ l (by rw [hp]; exact Nat.ne_of_lt (Nat.lt_succ_of_lt hlt)) xs).toS) s.heap.objs.size (by
      rw [hp]; simp only [List.mem_cons, List.not_mem_nil, or_false, not_or]
      exact ⟨Nat.ne_of_lt (Nat.lt_succ_self _), Nat.ne_of_gt hlt⟩) ns hsz hb (fun i v hv => ?_) xs.size 0 _ (by omega) (Nat.zero_le _)
    ⟨⟨_, Heap.get?_push_size _ rfl, rfl, rfl⟩, (Heap.IsList.push (Heap.IsList.push hl _) _)⟩ ⟨0, Nat.le_refl 0, setR_new_at (Heap.get?_push_of_some _ (Heap.get?_push_size _ rfl))⟩ fun s' c hm hc hS => ?_
  · have hi2 : i < ns.length := by rw [← hsz]; exact (Array.getElem?_eq_some_iff.mp hv).1
    obtain ⟨t, e⟩ := PyProof.Rows.IntsAre.int_at hi i v (by rw [Array.getElem?_toList]; exact hv)
    refine ⟨ns[i], t, List.getElem?_eq_getElem hi2, ?_⟩
    rw [e, List.getD_eq_getElem?_getD, List.getElem?_eq_getElem hi2] <;> rfl
  · obtain ⟨h', g2, d2, tk, os2⟩ := s'
    have q1 : g2 = s.gens := hm.gens
    have q2 : d2 = s.drawn := hm.drawn
    have q3 : os2 = s.os := hm.os
    subst q1; subst q2; subst q3
    refine ⟨rfl, h', tk, rfl, c, hS, by rw [← hsz]; exact hc, fun b o e => ?_⟩
    have b0 := Heap.lt_size e
    refine hm.heap b o ?_ (Heap.get?_push_of_some _ (Heap.get?_push_of_some _ e))
    rw [hp]; simp only [List.mem_cons, List.not_mem_nil, or_false, not_or]
    exact ⟨Nat.ne_of_lt b0, Nat.ne_of_lt (Nat.lt_succ_of_lt b0)⟩
/-- the loop over tuples: the distinct ones are few -/
theorem loop_tups {I : Addr} {fp wr : List Addr} {G : Array GenState → Array GenState → Prop} {n : Nat} {Pv : Nat → Value → Prop} {St : Nat → Shared → Prop} {R : Result → Shared → Prop} (W : WalksS P w A.in1 I fp wr G n Pv St) (S : Addr) (nS : S ∉ fp) (ks : List (Addr × List Int)) (hn : n = ks.length)
    (few : ∀ L : List (Addr × List Int), (L.map (·.2)).Nodup → (∀ p ∈ L, p ∈ ks) → L.length + 1 < 64) (hv : ∀ i v, Pv i v → ∃ p, ks[i]? = some p ∧ v = .ref p.1) (h0 : Heap) (tp : ∀ p ∈ ks, IsT P w h0 p.2 p.1) (f0 : h0.get? S = none) (f1 : ∀ b ∈ wr, h0.get? b = none) (hu : A.in1.units < cLine) :
    ∀ (m i : Nat) (s : Shared), m + i = n → St i s → (∀ b o, h0.get? b = some o → s.heap.get? b = some o) → (∃ L es ep t, SetTR P w s.heap S L es ep t ∧ Got ks i L) →
      (∀ s2 L es ep t, Moved (S :: wr) G s s2 → SetTR P w s2.heap S L es ep t → Got ks n L → (∀ b o, h0.get? b = some o → s2.heap.get? b = some o) → R (.ok (.ret .none)) s2) →
      codeAny (model P w) A (.builtin "set.update.loop" ⟨[.ref S, .ref I], []⟩) R s := by
  have nw : S ∉ wr := fun q => nS (W.sub _ q)
  have up : ∀ b ∈ wr, b ∈ S :: wr := fun b q => List.mem_cons_of_mem _ q
  have go : ∀ {s s2 : Shared}, Moved wr G s s2 → (∀ b o, h0.get? b = some o → s.heap.get? b = some o) → ∀ b o, h0.get? b = some o → s2.heap.get? b = some o := fun hm q b o e => hm.heap b o (fun z => by rw [f1 b z] at e; cases e) (q b o e)
  have inks : ∀ {i : Nat} {L : List (Addr × List Int)}, Got ks i L → ∀ p ∈ L, p ∈ ks := fun g p hp => List.mem_of_mem_take (g.sub p hp)
  intro m
  induction m with
  | zero =>
    intro i s hm st kp ⟨L, es, ep, t, T, g⟩ fin
    have : i = n := by omega
    subst this
    refine codeAny_builtin F.entry_set_update_loop ?_
    rw [Around.under_plainId F.plain_set_update_loop _]
    show wpAny _ A.in1 (pyNext (.ref I) >>= _) _ _ s
    refine wpAny_bind (W.done s _ _ st fun s2 mv => ?_)
    show wpAny _ A.in1 (ret Value.none) _ _ s2
    exact wpAny_pure (fin s2 L es ep t (mv.mono up) (T.keep (fun o e => mv.heap S o nw e) fun p hp => isT_keep (tp p (inks g p hp)) (go mv kp)) g (go mv kp))
  | succ m ih =>
    intro i s hm st kp ⟨L, es, ep, t, T, g⟩ fin
    refine codeAny_builtin F.entry_set_update_loop ?_
    rw [Around.under_plainId F.plain_set_update_loop _]
    show wpAny _ A.in1 (pyNext (.ref I) >>= _) _ _ s
    refine wpAny_bind (W.item i s _ _ (by omega) st fun v s2 pv st2 mv => ?_)
    obtain ⟨p, hp, rfl⟩ := hv i v pv
    have kp2 := go mv kp
    have T2 : SetTR P w s2.heap S L es ep t := T.keep (fun o e => mv.heap S o nw e) fun q hq => isT_keep (tp q (inks g q hq)) kp2
    have it := isT_keep (tp p (List.mem_of_getElem? hp)) kp2
    show wpAny _ A.in1 (holding [Value.ref p.1] (setAdd S (.ref p.1)) >>= _) _ _ s2
    refine wpAny_bind (wpAny_holding ?_)
    unfold setAdd
    refine wpAny_holding (wpAny_bind (wpAny_pyHash_tuple hu it ?_))
    refine add_at (s := { s2 with toks := s2.toks + (p.2.length + 1) }) T2 it hu (few L T.nd (inks g)) fun b h2 L2 es2 ep2 t2 sb T3 c1 c2 => ?_
    have g2 : Got ks (i + 1) L2 := by
      by_cases c : p.2 ∈ L.map (·.2)
      · rw [c1 c]; exact g.same hp c
      · exact g.more hp (c2 c)
    have kp3 : ∀ b o, h0.get? b = some o → h2.get? b = some o := fun b o e => (sb.2 b (fun z => by rw [z, f0] at e; cases e)).trans (kp2 b o e)
    refine wpAny_pure ⟨plainId_quiet F.plain_set_update_loop _, ih (i + 1) _ (by omega) (W.frame _ s2 _ _ st2 (Nat.le_add_right _ _) fun b hb o e => ?_) kp3 ⟨L2, es2, ep2, t2, T3, g2⟩ fun s3 L3 es3 ep3 t3 mv3 T4 g3 kp4 => ?_⟩
    · rw [sb.2 b (fun z : b = S => nS (z ▸ hb))]; exact e
    · refine fin s3 L3 es3 ep3 t3 (Moved.trans W.gtrans ((mv.mono up).then_heap (Nat.le_add_right _ _) fun b o hb e => ?_) mv3) T4 g3 kp4
      rw [sb.2 b (fun z : b = S => hb (by rw [z]; exact List.mem_cons_self))]; exact e
/-- set(list of tuples of ints), few of them distinct -/
theorem set_tups {l : Addr} {xs : Array Value} (ks : List (Addr × List Int)) {Q : Value → Shared → Prop} (hh : A.handled = none) (hl : s.heap.IsList l xs) (hx : xs.toList = ks.map fun p => Value.ref p.1) (tp : ∀ p ∈ ks, IsT P w s.heap p.2 p.1)
    (few : ∀ L : List (Addr × List Int), (L.map (·.2)).Nodup → (∀ p ∈ L, p ∈ ks) → L.length + 1 < 64) (hu : A.units + 3 < cLine)
    (h : ∀ (h' : Heap) (tk : Nat) L es ep t, SetTR P w h' s.heap.objs.size L es ep t → Got ks ks.length L → (∀ b o, s.heap.get? b = some o → h'.get? b = some o) → Q (.ref s.heap.objs.size) { s with heap := h', toks := tk }) :
    wpAny (model P w) A (call (.type "set") [.ref l]) Q E s := by
  have hsz : xs.size = ks.length := by
    have q := congrArg List.length hx
    rwa [Array.length_toList, List.length_map] at q
  have hlt : l < s.heap.objs.size := by obtain ⟨o, ho, _⟩ := hl; exact Heap.lt_size ho
  have hp : (s.heap.push (sO w)).objs.size = s.heap.objs.size + 1 := Heap.size_push ..
  refine set_by_loop (K := fun h' tk => ∃ L es ep t, SetTR P w h' s.heap.objs.size L es ep t ∧ Got ks ks.length L ∧ ∀ b o, s.heap.get? b = some o → h'.get? b = some o) hl ?_ fun h' tk ⟨L, es, ep, t, k1, k2, k3⟩ => h h' tk L es ep t k1 k2 k3
  refine loop_tups (A := A.in1.in1) ((Walks.list (by simp [hh]) _ l (by rw [hp]; exact Nat.ne_of_lt (Nat.lt_succ_of_lt hlt)) xs).toS) s.heap.objs.size (by
      rw [hp]; simp only [List.mem_cons, List.not_mem_nil, or_false, not_or]
      exact ⟨Nat.ne_of_lt (Nat.lt_succ_self _), Nat.ne_of_gt hlt⟩) ks hsz few (fun i v hv => ?_) s.heap tp (below_size _ _ (Nat.le_refl _)) (fun b hb => below_size _ b (by
      rw [List.mem_singleton.mp hb, hp]; exact Nat.le_succ _)) hu xs.size 0 _ (by omega)
    ⟨⟨_, Heap.get?_push_size _ rfl, rfl, rfl⟩, (Heap.IsList.push (Heap.IsList.push hl _) _)⟩ (fun b o e => Heap.get?_push_of_some _ (Heap.get?_push_of_some _ e)) ⟨[], #[], 0, _, setTR_fresh (Heap.get?_push_of_some _ (Heap.get?_push_size _ rfl)), Got.zero ks⟩ fun s' L es ep t hm T g kp => ?_
  · have q : xs.toList[i]? = some v := by rw [Array.getElem?_toList]; exact hv
    rw [hx, List.getElem?_map] at q
    cases e : ks[i]? with
    | none => rw [e] at q; cases q
    | some p => rw [e] at q; exact ⟨p, rfl, (Option.some.inj q).symm⟩
  · obtain ⟨h', g2, d2, tk, os2⟩ := s'
    have q1 : g2 = s.gens := hm.gens
    have q2 : d2 = s.drawn := hm.drawn
    have q3 : os2 = s.os := hm.os
    subst q1; subst q2; subst q3
    rw [hsz] at g
    exact ⟨rfl, h', tk, rfl, L, es, ep, t, T, g, kp⟩
/-- sorted(set) under an order of its values -/
theorem sorted_any {a : Addr} {es : Array (Int × Value)} {ep : Nat} {t : SetTable} {ltv : Value → Value → Bool} {Q : Value → Shared → Prop} (O : SrtO.Swo ltv) (hh : A.handled = none) (ha : SetAt s.heap a es ep t) (hf : t.fits es.size = true) (hsz : es.size < scanBound) (r : Ris t.place.toList)
    (hl : w.params.followText "set-order" = true ∨ t.led = true)
    (hS : ∀ (s1 : Shared) (vs : List Value), vs.Perm (es.toList.map (·.2)) → 2 ≤ vs.length → (∀ b o, s.heap.get? b = some o → s1.heap.get? b = some o) → SrtO.SortableO P w A.in1.in1 { s1 with heap := s1.heap.push (seqObj "list" vs.toArray 0) } s1.heap.objs.size vs ltv)
    (hQ : ∀ s2 p (out : List Value) (c : Nat), (∀ b o, s.heap.get? b = some o → s2.heap.get? b = some o) → s2.gens = s.gens → s2.os = s.os → s.heap.objs.size ≤ p → s2.heap.get? p = some (seqObj "list" out.toArray c) → SrtO.Srtd ltv out → out.Perm (es.toList.map (·.2)) → Q (.ref p) s2) :
    wpAny (model P w) A (call (.builtin "sorted") [.ref a]) Q E s := by
  refine Calls.call_function_entry kind_sorted plain_sorted entry_sorted (args_sorted1 _) ?_
  unfold Builtin.«sorted»
  refine wpAny_bind (m := checkCount "sorted" 1 1 _) (wpAny_pure (wpAny_bind (collect_set (A := A.in1) hh ha hf hsz r hl fun s1 vs k1 z1 g1 o1 pm => ?_)))
  have hn : vs.length ≤ sizeLine := by
    rw [pm.length_eq, List.length_map, Array.length_toList, sizeLine_eq]
    unfold scanBound at hsz
    omega
  refine wpAny_bind (wpAny_newList ?_ hn)
  have hL : (s1.heap.push (seqObj "list" vs.toArray 0)).get? s1.heap.objs.size = some (seqObj "list" vs.toArray 0) := Heap.get?_push_size _ rfl
  refine wpAny_bind (wpAny_holding (wpAny_call_entry slot_list_sort ⟨_, hL, rfl⟩ entry_list_sort (SrtO.list_sort_ord O hL hn (fun h2 => hS s1 vs pm h2 k1) fun out q1 q2 => ⟨_, rfl, ?_⟩) (args_list_sort _)))
  obtain ⟨c, hc⟩ := sortedHeap_at (vs := vs) (out := out.toArray) hL
  refine wpAny_pure ⟨_, rfl, hQ _ s1.heap.objs.size out c (fun b u e => ?_) g1 o1 z1 hc q1 (q2.perm.trans pm)⟩
  have e1 := k1 b u e
  have lt := Heap.lt_size e1
  show (sortedHeap (s1.heap.push (seqObj "list" vs.toArray 0)) s1.heap.objs.size vs out.toArray).get? b = some u
  rw [sortedHeap_old (Nat.ne_of_lt lt) (by rw [size_push']; exact Nat.lt_succ_of_lt lt)]
  exact Heap.get?_push_of_some _ e1
end
section
variable {X : Cx} {pins : List (Addr × Obj)} {σ : L2.St} {H : Hp} {s s' : Shared}
theorem laid_any {p : Addr} {u : HO} (I : Inv X pins σ H s) (k : ∀ b o, s.heap.get? b = some o → s'.heap.get? b = some o) (g : s'.gens = s.gens) (o : s'.os = s.os) (hp : s.heap.objs.size ≤ p) (new : ObjOk X.prog X.w (upd H p u) s'.heap p u) : Inv X pins σ (upd H p u) s' := by
  have J : Inv X pins σ (upd H p u) { s with heap := s'.heap, gens := s'.gens, drawn := s'.drawn, toks := s'.toks } := I.call (ch := []) (Un.laid k hp (I.hok.fresh hp)) (I.hok.laid k hp new) (by rw [g]; exact I.bare) (fun _ z => nomatch z)
  have e : s' = { s with heap := s'.heap, gens := s'.gens, drawn := s'.drawn, toks := s'.toks } := by
    obtain ⟨h1, g1, d1, t1, o1⟩ := s'
    have o : o1 = s.os := o
    subst o; rfl
  rw [e]; exact J
end
end Rs
namespace Rt
open PySem PySem.Spec PyProof.Rows L2
/-- tuples of ints, with their places -/
theorem tups_ks {F : Hp} : ∀ {ds : List PyData} {vs : List V} {ts : List (List Int)}, DdA F vs ds → tupsOf ds = some ts → ∃ ks : List (Addr × List Int), vs = ks.map (fun p => V.ref p.1) ∧ ts = ks.map (·.2) ∧ ∀ p ∈ ks, Rd F p.1 (.tup (p.2.map V.int))
  | [], _, ts, h, e => by
    cases h
    have e : [] = ts := Option.some.inj e
    subst e; exact ⟨[], rfl, rfl, by simp⟩
  | d :: ds, _, ts, h, e => by
    cases h with
    | cons a b =>
      cases d <;> try (simp [tupsOf] at e; done)
      rename_i es
      cases q1 : intsOf es with
      | none => simp [tupsOf, q1] at e
      | some n =>
        cases q2 : tupsOf ds with
        | none => simp [tupsOf, q1, q2] at e
        | some us =>
          simp [tupsOf, q1, q2] at e
          subst e
          obtain ⟨ks, e1, e2, e3⟩ := tups_ks b q2
          cases a with
          | tup r d =>
            rename_i ad xs
            have := d.ints q1
            subst this
            exact ⟨(ad, n) :: ks, by simp [e1], by simp [e2], fun p hp => by
              rcases List.mem_cons.mp hp with rfl | hp
              · exact r
              · exact e3 p hp⟩
theorem ints_data {F : Hp} : ∀ ns : List Int, DdA F (ns.map V.int) (ns.map .int)
  | [] => .nil
  | n :: ns => .cons (.int n) (ints_data ns)
section
variable {X : Cx} {c : Cc} {W : WX} {lv : Nat}
theorem boot_setT : bootBuiltins ("set" : Str) = some (.type "set") := by decide +kernel
theorem boot_sortedB : bootBuiltins ("sorted" : Str) = some (.builtin "sorted") := by decide +kernel
theorem pd_sset {a : Expr} {f : Ex} {p p2 q pos : Pos} (hc : X.calm = true) (hu : X.A.units + 65 < cLine) (hg : Gl X "sorted") (hm : X.mg "sorted" = none) (hg2 : Gl X "set") (hm2 : X.mg "set" = none) (ha : PE X a (tD X.mg W f)) (sa : isStar a = false) :
    PE X (.Call (.Name "sorted" p) [.Call (.Name "set" p2) [a] [] q] [] pos) (tD X.mg W (c1 ssetD f)) := by
  refine ⟨fun pins s σ H Q I h => ?_⟩
  refine wpAny_Call_Name_kw (ld_blt I hg hm boot_sortedB ?_)
  refine PyProof.Rows.callWith_builtin1 (PyProof.Rows.args_cons ?_ rfl) rfl rfl
  refine wpAny_Call_Name_kw (ld_blt I hg2 hm2 boot_setT ?_)
  have hA : PA X [a] (tCons (tD X.mg W f) tNil) := pa_cons ha pa_nil (star_cons sa)
  have key : tCons (tD X.mg W f) tNil σ H fun vs H1 => ∃ v F1 d z, vs = [v] ∧ Same F1 H1 ∧ Dd F1 v d ∧ ssetD d = .ok z ∧ ∀ u F2 H2, Ext F1 H1 F2 H2 → Dd F2 u z → Q u H2 := by
    obtain ⟨r, F, rel, w⟩ := h
    refine tD_seq rel w fun d v F1 H1 _ e1 rel1 h1 w1 => ?_
    obtain ⟨z, e3, k⟩ := Want.nox w1
    exact ⟨v, F1, d, z, rfl, rel1.sub, h1, e3, fun u F2 H2 e4 h3 => k u F2 H2 (e1.trans e4) h3⟩
  refine PyProof.Rows.callWith_type1 (thn (hA.run q pins s σ H _ I key) fun us s1 ⟨vs, H1, I1, r1, q1⟩ => ?_) (star_cons sa) rfl
  obtain ⟨v, F1, d, z, rfl, sub, hd, ez, k⟩ := q1
  have hh := I1.ok.hd hc
  cases hd with
  | lst r b =>
    rename_i l xs ds
    have := Vals.ref1 r1
    subst this
    obtain ⟨its, rv, pl, hz⟩ := I1.list (.inl (Rd.mono sub r))
    simp only [ssetD] at ez
    split at ez
    · rename_i ns e1
      split at ez
      · rename_i hlen
        cases ez
        have e2 := b.ints e1
        subst e2
        have hi := rv.ints
        refine Rs.set_ints ns hh pl.isList (by simpa using hi) (by unfold scanBound; omega) fun h' tk n S hn kp => ?_
        refine PyProof.Rows.args_nil ?_
        obtain ⟨o, es, ep, t, ho, hex, hdat, g, nd, hmm, hb, hf, hsz, hr, hl⟩ := S
        have I2 : Inv X pins σ H1 { s1 with heap := h', toks := tk } := I1.kept kp
        have allInt : ∀ v ∈ es.toList.map (·.2), ∃ i t, v = Value.int i t := fun v hv => by
          obtain ⟨e, he, rfl⟩ := List.mem_map.mp hv
          obtain ⟨i, t, e1, _⟩ := g e he
          exact ⟨i, t, e1⟩
        refine Rs.sorted_any (s := { s1 with heap := h', toks := tk }) SrtO.swo_int hh ⟨o, ho, hex.1, hdat⟩ hf hb hr hl (fun s2 vs pm h2 _ => SrtO.ints_sortable (SrtO.ints_iv fun v hv => allInt v (pm.mem_iff.mp hv)) h2) fun s2 p out cc kp2 g2 o2 hp hget hs pm => ?_
        have hI : IntsAre out (out.map SrtO.iv) := SrtO.ints_iv fun v hv => allInt v (pm.mem_iff.mp hv)
        have ek : (es.toList.map (·.2)).map SrtO.iv = es.toList.map keyOf := by
          rw [List.map_map]
          refine List.map_congr_left fun e he => ?_
          obtain ⟨i, t, e1, _⟩ := g e he
          simp [Function.comp, e1, SrtO.iv, keyOf]
        have pk : (out.map SrtO.iv).Perm (es.toList.map keyOf) := by rw [← ek]; exact pm.map _
        have hsrt : (out.map SrtO.iv).Pairwise (· ≤ ·) := List.pairwise_map.mpr (hs.imp fun {x y} h => Int.not_lt.mp (of_decide_eq_false (p := SrtO.iv y < SrtO.iv x) h))
        have eout : out.map SrtO.iv = sortI (ddp ns) := by
          refine sortI_uniq hsrt ((List.perm_ext_iff_of_nodup (pk.nodup_iff.mpr nd) (Rs.nodup_ddp ns)).mpr fun x => ?_)
          rw [pk.mem_iff, ← hmm x, Rs.mem_ddp]
          simp
        have hol : out.length ≤ sizeLine := by
          rw [pm.length_eq, List.length_map, Array.length_toList, sizeLine_eq]
          unfold scanBound at hb; omega
        have hv : Vals ((sortI (ddp ns)).map V.int) out := by rw [← eout]; exact vals_of_ints hI
        have np : H1 p = none := I2.hok.fresh hp
        refine ⟨.ref p, upd H1 p (.lst ((sortI (ddp ns)).map V.int)), Rs.laid_any I2 kp2 g2 o2 hp ⟨?_, out, cc, hv, hget⟩, rfl, k _ _ _ (Ext.new sub np) (.lst (Rd.of upd_same) (ints_data _))⟩
        rw [hv.length]; exact hol
      · cases ez
    · split at ez
      · rename_i ts e1
        split at ez
        · rename_i hb
          cases ez
          simp only [Bool.and_eq_true, Bool.or_eq_true, decide_eq_true_eq] at hb
          obtain ⟨ks, e2, e3, e4⟩ := tups_ks b e1
          have hsq : ∀ p ∈ ks, SqT X.K H1 p.1 (p.2.map V.int) := fun p hp => .inl (Rd.mono sub (e4 p hp))
          subst e2
          have few : ∀ L : List (Addr × List Int), (L.map (·.2)).Nodup → (∀ p ∈ L, p ∈ ks) → L.length + 1 < 64 := fun L nd hL => by
            have := Rs.nodup_len (L.map (·.2)) (ddp ts) nd fun x hx => by
              obtain ⟨p, hp, rfl⟩ := List.mem_map.mp hx
              exact Rs.mem_ddp.mpr (by rw [e3]; exact List.mem_map.mpr ⟨p, hL p hp, rfl⟩)
            rw [List.length_map] at this
            have := hb.1
            omega
          refine Rs.set_tups (P := X.prog) (w := X.w) ks hh pl.isList (by simpa using refs_of_vals rv) (fun p hp => I1.isT (hsq p hp)) few (by omega) fun h' tk L es ep t T g kp => ?_
          refine PyProof.Rows.args_nil ?_
          have I2 : Inv X pins σ H1 { s1 with heap := h', toks := tk } := I1.kept kp
          obtain ⟨o, ho, hex, hdat⟩ := T.ob
          have tfits := SetTR.fits (s := { s1 with heap := h', toks := tk }) T
          have tsize := SetTR.size (s := { s1 with heap := h', toks := tk }) T
          have hes : es.toList.map (·.2) = L.map fun q => Value.ref q.1 := by
            rw [T.rows]; unfold rowsOf; rw [List.map_map]; rfl
          have sub2 : ∀ p ∈ L, p ∈ ks := fun p hp => List.mem_of_mem_take (g.sub p hp)
          have tin : ∀ q ∈ L, TS.TupInts h' (.ref q.1) q.2 := fun q hq => tupInts_of (P := X.prog) (w := X.w) (T.tup q hq)
          have hmem : ∀ x, x ∈ L.map (·.2) ↔ x ∈ ddp ts := fun x => by
            rw [Rs.mem_ddp, e3]
            constructor
            · intro hx
              obtain ⟨p, hp, rfl⟩ := List.mem_map.mp hx
              exact List.mem_map.mpr ⟨p, sub2 p hp, rfl⟩
            · intro hx
              obtain ⟨p, hp, rfl⟩ := List.mem_map.mp hx
              exact g.all p (by rw [List.take_length]; exact hp)
          have pL : (L.map (·.2)).Perm (ddp ts) := (List.perm_ext_iff_of_nodup T.nd (Rs.nodup_ddp ts)).mpr hmem
          refine Rs.sorted_any (s := { s1 with heap := h', toks := tk }) (RtS.swoL h') hh ⟨o, ho, hex.1, hdat⟩ tfits (by have := T.few; unfold scanBound; omega) T.tab.ris T.led (fun s2 vs pm h2 kp2 => ?_) fun s2 p out cc kp2 g2 o2 hp hget hs pm => ?_
          · rw [hes] at pm
            have hl2 : 2 ≤ (ddp ts).length := by
              rw [← pL.length_eq, List.length_map]
              have := pm.length_eq
              rw [List.length_map] at this
              omega
            have hne : ∀ q ∈ L, q.2 ≠ [] := fun q hq e => by
              rcases hb.2 with hb2 | hb2
              · omega
              · have := List.all_eq_true.mp hb2 q.2 (by rw [e3]; exact List.mem_map.mpr ⟨q, sub2 q hq, rfl⟩)
                rw [e] at this
                simp at this
            have tk2 : ∀ q ∈ L, TS.TupInts (s2.heap.push (seqObj "list" vs.toArray 0)) (.ref q.1) q.2 := fun q hq => (tin q hq).keeps fun b o e _ => Heap.get?_push_of_some _ (kp2 b o e)
            refine RtS.sortableL (by omega) (fun v hv => ?_) (fun v hv => ?_) fun o e => ?_
            · obtain ⟨q, hq, rfl⟩ := List.mem_map.mp (pm.mem_iff.mp hv)
              exact ⟨q.2, tk2 q hq, hne q hq⟩
            · obtain ⟨q, hq, rfl⟩ := List.mem_map.mp (pm.mem_iff.mp hv)
              rw [(tin q hq).ints, (tk2 q hq).ints]
            · have e' : some o = some (seqObj "list" vs.toArray 0) := e.symm.trans (Heap.get?_push_size _ rfl)
              cases e'
              intro c
              exact absurd (Value.type.inj c) (by decide)
          · rw [hes] at pm
            have ord : ∀ l : List Value, (∀ v ∈ l, ∃ q ∈ L, v = Value.ref q.1) → ∃ L1 : List (Addr × List Int), l = L1.map (fun q => Value.ref q.1) ∧ ∀ q ∈ L1, q ∈ L := by
              intro l
              induction l with
              | nil => intro _; exact ⟨[], rfl, by simp⟩
              | cons v l ih =>
                intro hv
                obtain ⟨q, hq, rfl⟩ := hv v (by simp)
                obtain ⟨L1, x1, x2⟩ := ih fun u hu => hv u (List.mem_cons_of_mem _ hu)
                exact ⟨q :: L1, by simp [x1], fun y hy => by
                  rcases List.mem_cons.mp hy with rfl | hy
                  · exact hq
                  · exact x2 y hy⟩
            obtain ⟨L1, x1, x2⟩ := ord out fun v hv => by
              obtain ⟨q, hq, e⟩ := List.mem_map.mp (pm.mem_iff.mp hv)
              exact ⟨q, hq, e.symm⟩
            subst x1
            have pk : (L1.map (·.2)).Perm (L.map (·.2)) := by
              have y := pm.map (TS.intsOf h')
              rw [List.map_map, List.map_map] at y
              have y1 : L1.map (TS.intsOf h' ∘ fun q => Value.ref q.1) = L1.map (·.2) := List.map_congr_left fun q hq => (tin q (x2 q hq)).ints
              have y2 : L.map (TS.intsOf h' ∘ fun q => Value.ref q.1) = L.map (·.2) := List.map_congr_left fun q hq => (tin q hq).ints
              rw [y1, y2] at y; exact y
            have esrt : L1.map (·.2) = sortT (ddp ts) := by
              refine sortT_uniq ?_ (pk.trans pL)
              refine List.pairwise_map.mpr ((List.pairwise_map.mp hs).imp_of_mem fun {x y} hx hy hh => ?_)
              have hh : RtS.ltL h' (Value.ref y.1) (Value.ref x.1) = false := hh
              unfold RtS.ltL at hh
              rw [(tin y (x2 y hy)).ints, (tin x (x2 x hx)).ints] at hh
              exact hh
            have np : H1 p = none := I2.hok.fresh hp
            have hol : (L1.map fun q => V.ref q.1).length ≤ sizeLine := by
              rw [List.length_map]
              have y := pk.length_eq
              have := T.few
              rw [List.length_map, List.length_map] at y
              rw [sizeLine_eq]; omega
            refine ⟨.ref p, upd H1 p (.lst (L1.map fun q => V.ref q.1)), Rs.laid_any I2 kp2 g2 o2 hp ⟨hol, L1.map (fun q => Value.ref q.1), cc, vals_of_refs L1, hget⟩, rfl, k _ _ _ (Ext.new sub np) (.lst (Rd.of upd_same) ?_)⟩
            rw [← esrt, List.map_map]
            refine DdA.mono (same_upd (Same.free sub np)) _ _ ?_
            have fin : ∀ l : List (Addr × List Int), (∀ q ∈ l, q ∈ ks) → DdA F1 (l.map fun q => V.ref q.1) (l.map ((fun t : List Int => PyData.tuple (t.map .int)) ∘ (·.2))) := by
              intro l
              induction l with
              | nil => intro _; exact .nil
              | cons q l ih => intro hq; exact .cons (.tup (e4 q (hq q (by simp))) (ints_data _)) (ih fun y hy => hq y (List.mem_cons_of_mem _ hy))
            exact fin L1 fun q hq => sub2 q (x2 q hq)
        · cases ez
      · cases ez
  | _ => simp [ssetD] at ez
end
end Rt
/-! Rt, part B6: comprehensions; the evaluator of expressions is right. -/
namespace Rt
open PySem PySem.Spec PyProof.Rows L2
abbrev W0 : WX := fun _ _ _ _ => False
section
variable {X : Cx} {c : Cc} {W : WX} {lv : Nat}
theorem Fits.blk (Ft : Fits X c W lv) (scope : Scope) (s : Shared) (H : Hp) (C : Addr) (cl : List (Str × Addr)) (fp : List Addr) : Fits (X.blk s H scope (compEnvC scope cl C X.env) fp) (c.inner scope) W0 lv where
  hN := Ft.hN
  nd := Ft.nd
  sc := by
    show relabel scope X.env = relS scope c.sc
    rw [← Ft.sc]; rfl
  calm := Ft.calm
  tk := takes0
  own := PassesOwn.never
  top := fun x z => z
  tab := ⟨Ft.tab.fn, Ft.tab.con, Ft.tab.blt, Ft.tab.exs, Ft.tab.iss, Ft.tab.fnl⟩
  room := Ft.room
theorem wipe_at {σ : L2.St} {i : Nat} : ∀ {vs : List Nat}, i ∈ vs → (L2.wipe σ vs)[i]? = if i < σ.length then some none else none
  | [], h => by simp at h
  | v :: vs, h => by
    unfold L2.wipe
    by_cases hv : v = i
    · subst hv
      by_cases hl : v < σ.length
      · rw [List.getElem?_set_self (by rw [wipe_length]; exact hl), if_pos hl]
      · rw [List.getElem?_eq_none (by rw [List.length_set, wipe_length]; omega), if_neg hl]
    · rw [List.getElem?_set_ne hv]
      exact wipe_at ((List.mem_cons.mp h).resolve_left (Ne.symm hv))
theorem wipe_eq {ws vs : List Nat} {σ σ' : L2.St} (h : Chg ws (L2.wipe σ vs) σ') (hs : ∀ i ∈ ws, i ∈ vs) : L2.wipe σ' vs = L2.wipe σ vs := by
  have hl : σ'.length = σ.length := by rw [h.1, wipe_length]
  refine List.ext_getElem? fun i => ?_
  by_cases hi : i ∈ vs
  · rw [wipe_at hi, wipe_at hi, hl]
  · rw [wipe_out hi, h.2 i fun z => hi (hs i z)]
theorem pts_of {r : Expr → Ex} {ifs : List Expr} {t : En → R Bool} (h : ∀ e, Both X W e (r e)) (ht : testsE r ifs = some t) : PTs X ifs (tDT X.mg W t) := by
  cases ifs with
  | nil =>
    have e : Rt.tYes = t := Option.some.inj ht
    subst e
    exact ⟨fun pins s σ H Q I q => by
      obtain ⟨rr, F, rel, w⟩ := q
      exact pts_nil.run pins s σ H Q I (w F H (Ext.refl rel.sub))⟩
  | cons e es =>
    cases es with
    | nil =>
      simp only [testsE] at ht
      split at ht
      · rename_i hok
        have e' := Option.some.inj ht
        subst e'
        exact pts_one ((h e).2 hok)
      · cases ht
    | cons _ _ => simp [testsE] at ht
theorem compGo_noexc {g : Tg} {t : En → R Bool} {el : Ex} {r : En} : ∀ (l : List PyData) (x : Str), compGo g t el r l ≠ .exc x
  | [], x, z => by cases z
  | d :: l, x, z => by
    unfold compGo at z
    cases q1 : g d r with
    | exc _ => rw [q1] at z; cases z
    | bad => rw [q1] at z; cases z
    | ok r1 =>
      rw [q1] at z
      simp only [R.nox_ok, R.bind_ok] at z
      cases q2 : t r1 with
      | exc _ => rw [q2] at z; cases z
      | bad => rw [q2] at z; cases z
      | ok b =>
        rw [q2] at z
        simp only [R.nox_ok, R.bind_ok] at z
        cases b with
        | false => exact compGo_noexc l x (by simpa using z)
        | true =>
          simp only [if_true] at z
          cases q3 : el r1 with
          | exc _ => rw [q3] at z; cases z
          | bad => rw [q3] at z; cases z
          | ok y =>
            rw [q3] at z
            simp only [R.nox_ok, R.bind_ok] at z
            cases q4 : compGo g t el r l with
            | exc x' => exact compGo_noexc l x' q4
            | bad => rw [q4] at z; cases z
            | ok ys => rw [q4] at z; cases z
/-- the loop of a comprehension: the list at D grows; the base knows nothing of D -/
theorem comp_loop {mg : Str → Option Value} {g : Tg} {t : En → R Bool} {el : Ex} {vs ws : List Nat} {σ : L2.St} {F1 H1 Fs Hs : Hp} {rr : En} {J : It} {ds ys0 zs : List PyData} {acc0 : List V} {D : Addr} {Nx : Hp → Prop} (hws : ∀ i ∈ ws, i ∈ vs) (rel : Rel F1 H1 σ rr) (itd : ItD Fs J ds) (nD : H1 D = none) (ex0 : Ext F1 H1 Fs Hs)
    (nF0 : Fs D = none) (hD0 : Hs D = some (.lst acc0)) (dd0 : DdA Fs acc0 ys0) (hgo0 : compGo g t el (wipeE rr vs) ds = .ok zs) (hlen : ys0.length + zs.length ≤ SZ)
    (fin : ∀ F' H' acc, Ext F1 H1 F' H' → Same Fs F' → F' D = none → H' D = some (.lst acc) → DdA F' acc (ys0 ++ zs) → Nx H') :
    ∃ W1 : Nat → Nat → Hp → Prop, (∃ m, W1 0 m Hs) ∧ ∀ j k H, W1 j k H → (J.stop j H ∧ Nx H) ∨ (J.go j H ∧ ∃ Nx1 : Hp → Prop, (∀ H', Nx1 H' → ∃ k', k' < k ∧ W1 (j + 1) k' H') ∧ ∀ x H', J.yld j H x H' → tDG ws g x (L2.wipe σ vs) H' fun σ3 H5 => L2.wipe σ3 vs = L2.wipe σ vs ∧ tDT mg W0 t σ3 H5 fun b H6 =>
        if b = true then tD mg W0 el σ3 H6 fun y H7 => ∃ acc, H7 D = some (.lst acc) ∧ acc.length < sizeLine ∧ Nx1 (upd H7 D (.lst (acc ++ [y]))) else Nx1 H6) := by
  refine ⟨fun i m H' => m = ds.length - i ∧ i ≤ ds.length ∧ ∃ F' acc ys1 ys2, Ext F1 H1 F' H' ∧ Same Fs F' ∧ F' D = none ∧ H' D = some (.lst acc) ∧ DdA F' acc ys1 ∧ compGo g t el (wipeE rr vs) (ds.drop i) = .ok ys2 ∧ ys1 ++ ys2 = ys0 ++ zs, ⟨ds.length, by simp, Nat.zero_le _, Fs, acc0, ys0, zs, ex0, Same.refl _, nF0, hD0, dd0, hgo0, rfl⟩, ?_⟩
  rintro i m H' ⟨rfl, hile, F', acc, ys1, ys2, ex, sF, nF, hD, dd, hgo, happ⟩
  obtain ⟨it1, it2⟩ := itd i F' H' sF ex.sub
  by_cases hlt : i < ds.length
  · have hd := List.getElem?_eq_getElem hlt
    obtain ⟨go, yl⟩ := it1 _ hd
    rw [List.drop_eq_getElem_cons hlt] at hgo
    refine .inr ⟨go, fun H'' => ∃ F'' acc ys1 ys2, Ext F1 H1 F'' H'' ∧ Same Fs F'' ∧ F'' D = none ∧ H'' D = some (.lst acc) ∧ DdA F'' acc ys1 ∧ compGo g t el (wipeE rr vs) (ds.drop (i + 1)) = .ok ys2 ∧ ys1 ++ ys2 = ys0 ++ zs, fun H'' hN => ⟨ds.length - (i + 1), by omega, rfl, hlt, hN⟩, fun x H2 y => ?_⟩
    obtain ⟨F2, ex2, hx⟩ := yl x H2 y
    unfold compGo at hgo
    cases q3 : g ds[i] (wipeE rr vs) with
    | exc _ => rw [q3] at hgo; cases hgo
    | bad => rw [q3] at hgo; cases hgo
    | ok r1 =>
      rw [q3] at hgo
      simp only [R.nox_ok, R.bind_ok] at hgo
      have relA := (rel.ext (ex.trans ex2)).wipe vs
      refine ⟨wipeE rr vs, F2, ds[i], r1, relA, hx, q3, fun σ2 rel2 chg => ⟨wipe_eq chg hws, ?_⟩⟩
      have rel2 := rel2 _ relA
      refine ⟨r1, F2, rel2, ?_⟩
      cases q4 : t r1 with
      | exc _ => rw [q4] at hgo; cases hgo
      | bad => rw [q4] at hgo; cases hgo
      | ok b =>
        rw [q4] at hgo
        simp only [R.nox_ok, R.bind_ok] at hgo
        intro F3 H3 ex3
        have nF2 : F2 D = none := ex2.out D (by rw [hD]; simp) nF
        have nF3 : F3 D = none := ex3.out D (by rw [ex2.hh _ _ hD]; simp) nF2
        cases b with
        | false =>
          rw [if_neg (by decide)] at hgo ⊢
          exact ⟨F3, acc, ys1, ys2, (ex.trans ex2).trans ex3, sF.trans (ex2.trans ex3).ff, nF3, ex3.hh _ _ (ex2.hh _ _ hD), DdA.mono (ex2.trans ex3).ff _ _ dd, hgo, happ⟩
        | true =>
          rw [if_pos rfl] at hgo ⊢
          refine ⟨r1, F3, rel2.ext ex3, ?_⟩
          cases q5 : el r1 with
          | exc _ => rw [q5] at hgo; cases hgo
          | bad => rw [q5] at hgo; cases hgo
          | ok z =>
            rw [q5] at hgo
            simp only [R.nox_ok, R.bind_ok] at hgo
            intro v F4 H4 ex4 hv
            have hD4 : H4 D = some (.lst acc) := ex4.hh _ _ (ex3.hh _ _ (ex2.hh _ _ hD))
            have nF4 : F4 D = none := ex4.out D (by rw [ex3.hh _ _ (ex2.hh _ _ hD)]; simp) nF3
            cases q6 : compGo g t el (wipeE rr vs) (ds.drop (i + 1)) with
            | exc _ => rw [q6] at hgo; cases hgo
            | bad => rw [q6] at hgo; cases hgo
            | ok ys3 =>
              rw [q6] at hgo
              have e3 : z :: ys3 = ys2 := R.ok.inj hgo
              subst e3
              have exB := ((ex.trans ex2).trans ex3).trans ex4
              refine ⟨acc, hD4, ?_, F4, acc ++ [v], ys1 ++ [z], ys3, ⟨exB.ff, fun b o eb => ?_, fun b o eb => ?_, exB.out⟩, sF.trans ((ex2.trans ex3).trans ex4).ff, nF4, upd_same, ?_, rfl, ?_⟩
              · rw [dd.len]
                have : ys1.length + (ys3.length + 1) = ys0.length + zs.length := by rw [← List.length_append, ← happ]; simp
                have hsz : (SZ : Nat) = sizeLine := rfl
                omega
              · rw [upd_ne (ne_of_none eb nD)]; exact exB.hh _ _ eb
              · have : b ≠ D := ne_of_none eb nF4
                rw [upd_ne this]; exact exB.sub _ _ eb
              · exact (DdA.mono ((ex2.trans ex3).trans ex4).ff _ _ dd).app (DdA.one hv)
              · rw [← happ]; simp
  · have ei : i = ds.length := by omega
    subst ei
    rw [List.drop_length] at hgo
    have e3 : [] = ys2 := R.ok.inj hgo
    subst e3
    rw [List.append_nil] at happ
    subst happ
    exact .inl ⟨it2 (Nat.le_refl _), fin F' H' acc ex sF nF hD dd⟩
theorem comp_read {mg : Str → Option Value} {src : Exl} {g : Tg} {t : En → R Bool} {el : Ex} {vs ws : List Nat} {σ : L2.St} {H : Hp} {Q : VK} (hws : ∀ i ∈ ws, i ∈ vs) (q : tDL mg W (cComp vs src g t el) σ H Q) :
    tLc (tDI mg W src) (tDG ws g) (tDT mg W0 t) (tD mg W0 el) vs σ H Q := by
  obtain ⟨rr, F, rel, w⟩ := q
  unfold cComp at w
  refine ⟨rr, F, rel, ?_⟩
  cases q : src rr with
  | exc x => rw [q] at w; exact w
  | bad => rw [q] at w; exact w
  | ok ds =>
    rw [q] at w
    intro J F1 H1 e1 itd
    have w1 := Want.at e1 w
    have w1 : Want mg W σ F1 H1 ((compGo g t el (wipeE rr vs) ds).bind fun ys => if ys.length ≤ SZ then .ok ys else .bad) _ := w1
    cases q2 : compGo g t el (wipeE rr vs) ds with
    | exc x => exact absurd q2 (compGo_noexc ds x)
    | bad => rw [q2] at w1; exact w1.elim
    | ok ys =>
      rw [q2] at w1
      have w1 : Want mg W σ F1 H1 (if ys.length ≤ SZ then .ok ys else .bad) _ := w1
      split at w1
      · rename_i hlen
        intro D nD
        exact comp_loop (ys0 := []) (zs := ys) hws (rel.ext e1) itd nD (Ext.newO e1.sub nD) (Same.free e1.sub nD) upd_same .nil q2 (by simpa using hlen) fun F' H' acc ex _ nF hD dd => w1 D acc F' H' (e1.trans ex) (Same.free e1.hh nD) nF hD dd
      · exact w1.elim
/-! two fors -/
def Hm (D : Addr) (H : Hp) : Hp := fun a => if a = D then none else H a
theorem Hm_self {D : Addr} {H : Hp} : Hm D H D = none := if_pos rfl
theorem Hm_some {D a : Addr} {H : Hp} {o : HO} (h : Hm D H a = some o) : a ≠ D ∧ H a = some o := by
  unfold Hm at h
  split at h
  · cases h
  · rename_i c; exact ⟨c, h⟩
theorem Hm_of {D a : Addr} {H : Hp} {o : HO} (c : a ≠ D) (h : H a = some o) : Hm D H a = some o := by
  unfold Hm; rw [if_neg c]; exact h
theorem Hm_none {D a : Addr} {H : Hp} (h : Hm D H a ≠ none) : H a ≠ none := fun z => h (by
  unfold Hm
  split
  · rfl
  · exact z)
theorem Ext.minus {F H F' H' : Hp} {D : Addr} (e : Ext F H F' H') (nF : F' D = none) : Ext F (Hm D H) F' (Hm D H') :=
  ⟨e.ff, fun a o h => Hm_of (Hm_some h).1 (e.hh _ _ (Hm_some h).2), fun a o h => Hm_of (ne_of_none h nF) (e.sub _ _ h), fun a h n => e.out a (Hm_none h) n⟩
theorem Ext.toMinus {F H F' H' : Hp} {D : Addr} (e : Ext F H F' H') (nD : H D = none) (nF : F' D = none) : Ext F H F' (Hm D H') :=
  ⟨e.ff, fun a o h => Hm_of (ne_of_none h nD) (e.hh _ _ h), fun a o h => Hm_of (ne_of_none h nF) (e.sub _ _ h), e.out⟩
theorem Ext.fromMinus {F H : Hp} {D : Addr} (s : Same F H) : Ext F (Hm D H) F H := ⟨Same.refl _, fun _ _ h => (Hm_some h).2, s, fun _ _ n => n⟩
theorem comp2Go_noexc {vs1 : List Nat} {g : Tg} {t : En → R Bool} {src1 : Exl} {g1 : Tg} {t1 : En → R Bool} {el : Ex} {r : En} : ∀ (l : List PyData) (x : Str), comp2Go vs1 g t src1 g1 t1 el r l ≠ .exc x
  | [], x, z => by cases z
  | d :: l, x, z => by
    unfold comp2Go at z
    cases q1 : g d r with
    | exc _ => rw [q1] at z; cases z
    | bad => rw [q1] at z; cases z
    | ok r1 =>
      rw [q1] at z
      simp only [R.nox_ok, R.bind_ok] at z
      cases q2 : t r1 with
      | exc _ => rw [q2] at z; cases z
      | bad => rw [q2] at z; cases z
      | ok b =>
        rw [q2] at z
        simp only [R.nox_ok, R.bind_ok] at z
        cases b with
        | false => exact comp2Go_noexc l x (by simpa using z)
        | true =>
          simp only [if_true] at z
          cases q3 : src1 r1 with
          | exc _ => rw [q3] at z; cases z
          | bad => rw [q3] at z; cases z
          | ok es =>
            rw [q3] at z
            simp only [R.nox_ok, R.bind_ok] at z
            cases q4 : compGo g1 t1 el (wipeE r1 vs1) es with
            | exc x' => exact compGo_noexc es x' q4
            | bad => rw [q4] at z; cases z
            | ok ys =>
              rw [q4] at z
              simp only [R.bind_ok] at z
              cases q5 : comp2Go vs1 g t src1 g1 t1 el r l with
              | exc x' => exact comp2Go_noexc l x' q5
              | bad => rw [q5] at z; cases z
              | ok ys => rw [q5] at z; cases z
theorem comp2_read {mg : Str → Option Value} {src src1 : Exl} {g g1 : Tg} {t t1 : En → R Bool} {el : Ex} {vs vs1 ws : List Nat} {σ : L2.St} {H : Hp} {Q : VK} (hws : ∀ i ∈ ws, i ∈ vs) (q : tDL mg W (cComp2 vs vs1 src g t src1 g1 t1 el) σ H Q) :
    tLc2 (tDI mg W src) (tDG ws g) (tDT mg W0 t) (tDI mg W0 src1) (tDG vs1 g1) (tDT mg W0 t1) (tD mg W0 el) vs vs1 σ H Q := by
  obtain ⟨rr, F, rel, w⟩ := q
  unfold cComp2 at w
  refine ⟨rr, F, rel, ?_⟩
  cases q : src rr with
  | exc x => rw [q] at w; exact w
  | bad => rw [q] at w; exact w
  | ok ds =>
    rw [q] at w
    intro J F1 H1 e1 itd
    have w1 := Want.at e1 w
    have w1 : Want mg W σ F1 H1 ((comp2Go vs1 g t src1 g1 t1 el (wipeE rr vs) ds).bind fun ys => if ys.length ≤ SZ then .ok ys else .bad) _ := w1
    cases q2 : comp2Go vs1 g t src1 g1 t1 el (wipeE rr vs) ds with
    | exc x => exact absurd q2 (comp2Go_noexc ds x)
    | bad => rw [q2] at w1; exact w1.elim
    | ok ys =>
      rw [q2] at w1
      have w1 : Want mg W σ F1 H1 (if ys.length ≤ SZ then .ok ys else .bad) _ := w1
      split at w1
      · rename_i hlen
        intro D nD
        refine ⟨fun i m H' => m = ds.length - i ∧ i ≤ ds.length ∧ ∃ F' acc ys1 ys2, Ext F1 H1 F' H' ∧ F' D = none ∧ H' D = some (.lst acc) ∧ DdA F' acc ys1 ∧ comp2Go vs1 g t src1 g1 t1 el (wipeE rr vs) (ds.drop i) = .ok ys2 ∧ ys1 ++ ys2 = ys, ⟨ds.length, by simp, Nat.zero_le _, F1, [], [], ys, Ext.newO e1.sub nD, Same.free e1.sub nD, upd_same, .nil, q2, rfl⟩, ?_⟩
        rintro i m H' ⟨rfl, hile, F', acc, ys1, ys2, ex, nF, hD, dd, hgo, happ⟩
        obtain ⟨it1, it2⟩ := itd i F' H' ex.ff ex.sub
        by_cases hlt : i < ds.length
        · have hd := List.getElem?_eq_getElem hlt
          obtain ⟨go, yl⟩ := it1 _ hd
          rw [List.drop_eq_getElem_cons hlt] at hgo
          refine .inr ⟨go, fun H'' => ∃ F'' acc ys1 ys2, Ext F1 H1 F'' H'' ∧ F'' D = none ∧ H'' D = some (.lst acc) ∧ DdA F'' acc ys1 ∧ comp2Go vs1 g t src1 g1 t1 el (wipeE rr vs) (ds.drop (i + 1)) = .ok ys2 ∧ ys1 ++ ys2 = ys, fun H'' hN => ⟨ds.length - (i + 1), by omega, rfl, hlt, hN⟩, fun x H2 y => ?_⟩
          obtain ⟨F2, ex2, hx⟩ := yl x H2 y
          unfold comp2Go at hgo
          cases q3 : g ds[i] (wipeE rr vs) with
          | exc _ => rw [q3] at hgo; cases hgo
          | bad => rw [q3] at hgo; cases hgo
          | ok r1 =>
            rw [q3] at hgo
            simp only [R.nox_ok, R.bind_ok] at hgo
            have exA := ex.trans ex2
            have nF2 : F2 D = none := ex2.out D (by rw [hD]; simp) nF
            have relA := ((rel.ext e1).ext exA).wipe vs
            have relM := ((rel.ext e1).ext (exA.toMinus nD nF2)).wipe vs
            refine ⟨wipeE rr vs, F2, ds[i], r1, relA, hx, q3, fun σ2 rel2' chg => ⟨wipe_eq chg hws, ?_⟩⟩
            have rel2 := rel2' _ relA
            have rel2m := rel2' _ relM
            refine ⟨r1, F2, rel2, ?_⟩
            cases q4 : t r1 with
            | exc _ => rw [q4] at hgo; cases hgo
            | bad => rw [q4] at hgo; cases hgo
            | ok b =>
              rw [q4] at hgo
              simp only [R.nox_ok, R.bind_ok] at hgo
              intro F3 H3 ex3
              have nF3 : F3 D = none := ex3.out D (by rw [ex2.hh _ _ hD]; simp) nF2
              cases b with
              | false =>
                rw [if_neg (by decide)] at hgo ⊢
                exact ⟨F3, acc, ys1, ys2, exA.trans ex3, nF3, ex3.hh _ _ (ex2.hh _ _ hD), DdA.mono (ex2.trans ex3).ff _ _ dd, hgo, happ⟩
              | true =>
                rw [if_pos rfl] at hgo ⊢
                refine ⟨r1, F3, rel2.ext ex3, ?_⟩
                cases q5 : src1 r1 with
                | exc _ => rw [q5] at hgo; cases hgo
                | bad => rw [q5] at hgo; cases hgo
                | ok es =>
                  rw [q5] at hgo
                  simp only [R.nox_ok, R.bind_ok] at hgo
                  cases q6 : compGo g1 t1 el (wipeE r1 vs1) es with
                  | exc _ => rw [q6] at hgo; cases hgo
                  | bad => rw [q6] at hgo; cases hgo
                  | ok zs =>
                    rw [q6] at hgo
                    simp only [R.bind_ok] at hgo
                    cases q7 : comp2Go vs1 g t src1 g1 t1 el (wipeE rr vs) (ds.drop (i + 1)) with
                    | exc _ => rw [q7] at hgo; cases hgo
                    | bad => rw [q7] at hgo; cases hgo
                    | ok us =>
                      rw [q7] at hgo
                      have e3 : zs ++ us = ys2 := R.ok.inj hgo
                      subst e3
                      intro J1 F4 H4 ex4 itd1
                      have hD4 : H4 D = some (.lst acc) := ex4.hh _ _ (ex3.hh _ _ (ex2.hh _ _ hD))
                      have nF4 : F4 D = none := ex4.out D (by rw [ex3.hh _ _ (ex2.hh _ _ hD)]; simp) nF3
                      have hl : ys1.length + zs.length ≤ SZ := by
                        have : ys1.length + (zs.length + us.length) = ys.length := by rw [← happ]; simp
                        omega
                      refine comp_loop (F1 := F4) (H1 := Hm D H4) (fun i h => h) (rel2m.ext ((ex3.trans ex4).minus nF4)) itd1 Hm_self (Ext.fromMinus ex4.sub) nF4 hD4 (DdA.mono ((ex2.trans ex3).trans ex4).ff _ _ dd) q6 hl fun F5 H5 acc5 ex5 _ nF5 hD5 dd5 => ?_
                      exact ⟨F5, acc5, ys1 ++ zs, us, (((exA.trans ex3).trans ex4).toMinus nD nF4).trans ex5, nF5, hD5, dd5, rfl, by rw [← happ, List.append_assoc]⟩
        · have ei : i = ds.length := by omega
          subst ei
          rw [List.drop_length] at hgo
          have e3 : [] = ys2 := R.ok.inj hgo
          subst e3
          rw [List.append_nil] at happ
          subst happ
          exact .inl ⟨it2 (Nat.le_refl _), w1 D acc F' H' (e1.trans ex) (Same.free e1.hh nD) nF hD dd⟩
      · exact w1.elim
theorem in_vs {scope : Scope} {tg : Expr} (hw : (tslots (c.inner scope) 3 tg).all (fun i => ((ownOf c.N scope).map (·.2)).contains i) = true) : ∀ i ∈ tslots (c.inner scope) 3 tg, i ∈ (ownOf c.N scope).map (·.2) := fun i hm => by
  have := List.all_eq_true.mp hw i hm
  exact List.contains_iff_mem.mp this
theorem pl_comp (Ft : Fits X c W lv) {elt tg iter : Expr} {ifs : List Expr} {scope : Scope} {pos : Pos} {r : Cc → Expr → Ex} {t : En → R Bool} (h : ∀ e, PE X e (tD X.mg W (r c e)))
    (hi : ∀ X', Fits X' (c.inner scope) W0 lv → ∀ e, Both X' W0 e (r (c.inner scope) e)) (ht : testsE (r (c.inner scope)) ifs = some t) (hb : blkC c.N c.sc scope (ownOf c.N scope) = true)
    (hw : (tslots (c.inner scope) 3 tg).all (fun i => ((ownOf c.N scope).map (·.2)).contains i) = true) :
    PE X (.ListComp elt [⟨tg, iter, ifs, 0⟩] scope pos) (tDL X.mg W (cComp ((ownOf c.N scope).map (·.2)) (srcE c (r c) tg iter) (tgtE (c.inner scope) 3 tg) t (r (c.inner scope) elt))) := by
  by_cases hset : ∃ a b d, iter = .Set a b d
  · obtain ⟨a, b, d, rfl⟩ := hset
    exact ⟨fun pins s σ H Q I q => by obtain ⟨_, _, _, w⟩ := q; exact w.elim⟩
  have hs : ∀ x, foldedSetIterable iter X.env x = pure x := fun x => by
    cases iter <;> first | rfl | exact absurd ⟨_, _, _, rfl⟩ hset
  exact PE.wk (pe_lc (own := ownOf c.N scope) (te := tD X.mg W0 (r (c.inner scope) elt)) (tt := tDT X.mg W0 t) Ft.calm (by rw [Ft.hN]; exact Ft.nd) (pi_src Ft h tg iter) (by rw [Ft.hN, Ft.sc]; exact blkOk_by hb)
    (fun s H C cl fp => pg_tgt (Ft.blk scope s H C cl fp) 3 tg) (fun s H C cl fp => pts_of (hi _ (Ft.blk scope s H C cl fp)) ht) (fun s H C cl fp => (hi _ (Ft.blk scope s H C cl fp) elt).1) hs) fun σ H Q q => comp_read (in_vs hw) q
/-- .. given to a local name on its line -/
theorem ps_comp (Ft : Fits X c W lv) {i : Nat} {y : Str} {py spos : Pos} {elt tg iter : Expr} {ifs : List Expr} {scope : Scope} {pos : Pos} {r : Cc → Expr → Ex} {t : En → R Bool} (h : ∀ e, PE X e (tD X.mg W (r c e)))
    (hi : ∀ X', Fits X' (c.inner scope) W0 lv → ∀ e, Both X' W0 e (r (c.inner scope) e)) (ht : testsE (r (c.inner scope)) ifs = some t) (hb : blkC c.N c.sc scope (ownOf c.N scope) = true)
    (hw : (tslots (c.inner scope) 3 tg).all (fun i => ((ownOf c.N scope).map (·.2)).contains i) = true) (hy : c.N[i]? = some y) (hyl : c.sc.names.lookup y = some .local)
    (hsw : swapsWith (.ListComp elt [⟨tg, iter, ifs, 0⟩] scope pos) (some (.Name y py)) spos.line X.env = pure true) :
    PS X (.Assign [.Name y py] (.ListComp elt [⟨tg, iter, ifs, 0⟩] scope pos) spos) (tAsg (tDL X.mg W (cComp ((ownOf c.N scope).map (·.2)) (srcE c (r c) tg iter) (tgtE (c.inner scope) 3 tg) t (r (c.inner scope) elt))) (gName i)) := by
  by_cases hset : ∃ a b d, iter = .Set a b d
  · obtain ⟨a, b, d, rfl⟩ := hset
    exact ⟨fun pins s σ H D I q => by obtain ⟨_, _, _, w⟩ := q; exact w.elim⟩
  have hs : ∀ x, foldedSetIterable iter X.env x = pure x := fun x => by
    cases iter <;> first | rfl | exact absurd ⟨_, _, _, rfl⟩ hset
  exact PS.wk (ps_setLc (i := i) (own := ownOf c.N scope) (te := tD X.mg W0 (r (c.inner scope) elt)) (tt := tDT X.mg W0 t) Ft.calm (by rw [Ft.hN]; exact Ft.nd) (by rw [Ft.hN]; exact hy) (by rw [Ft.sc]; exact hyl) hsw (pi_src Ft h tg iter) (by rw [Ft.hN, Ft.sc]; exact blkOk_by hb)
    (fun s H C cl fp => pg_tgt (Ft.blk scope s H C cl fp) 3 tg) (fun s H C cl fp => pts_of (hi _ (Ft.blk scope s H C cl fp)) ht) (fun s H C cl fp => (hi _ (Ft.blk scope s H C cl fp) elt).1) hs) fun D σ H q => comp_read (in_vs hw) q
/-! ### the evaluator -/
theorem notSet {it : Expr} (h : isSetE it = false) : ∀ (env : Env) (x : Value), foldedSetIterable it env x = pure x := fun env x => by
  cases it <;> first | rfl | cases h
theorem pl_comp2 (Ft : Fits X c W lv) {elt tg iter tg1 iter1 : Expr} {ifs ifs1 : List Expr} {scope : Scope} {pos : Pos} {r : Cc → Expr → Ex} {t t1 : En → R Bool} (h : ∀ e, PE X e (tD X.mg W (r c e)))
    (hi : ∀ X', Fits X' (c.inner scope) W0 lv → ∀ e, Both X' W0 e (r (c.inner scope) e)) (ht : testsE (r (c.inner scope)) ifs = some t) (ht1 : testsE (r (c.inner scope)) ifs1 = some t1) (hb : blkC c.N c.sc scope (ownOf c.N scope) = true)
    (hw : (tslots (c.inner scope) 3 tg).all (fun i => ((ownOf c.N scope).map (·.2)).contains i) = true) (hw1 : (tslots (c.inner scope) 3 tg1).all (fun i => ((ownOf c.N scope).map (·.2)).contains i) = true) (hs : isSetE iter = false) (hs1 : isSetE iter1 = false) :
    PE X (.ListComp elt [⟨tg, iter, ifs, 0⟩, ⟨tg1, iter1, ifs1, 0⟩] scope pos) (tDL X.mg W (cComp2 ((ownOf c.N scope).map (·.2)) (tslots (c.inner scope) 3 tg1) (srcE c (r c) tg iter) (tgtE (c.inner scope) 3 tg) t (srcE (c.inner scope) (r (c.inner scope)) tg1 iter1) (tgtE (c.inner scope) 3 tg1) t1 (r (c.inner scope) elt))) :=
  PE.wk (pe_lc2 (own := ownOf c.N scope) (vs1 := tslots (c.inner scope) 3 tg1) (te := tD X.mg W0 (r (c.inner scope) elt)) (tt := tDT X.mg W0 t) (tt1 := tDT X.mg W0 t1) Ft.calm (by rw [Ft.hN]; exact Ft.nd) (pi_src Ft h tg iter) (by rw [Ft.hN, Ft.sc]; exact blkOk_by hb) (in_vs hw1)
    (fun s H C cl fp => pg_tgt (Ft.blk scope s H C cl fp) 3 tg) (fun s H C cl fp => pts_of (hi _ (Ft.blk scope s H C cl fp)) ht) (fun s H C cl fp => pi_src (Ft.blk scope s H C cl fp) (fun e => (hi _ (Ft.blk scope s H C cl fp) e).1) tg1 iter1) (fun s H C cl fp => pg_tgt (Ft.blk scope s H C cl fp) 3 tg1) (fun s H C cl fp => pts_of (hi _ (Ft.blk scope s H C cl fp)) ht1)
    (fun s H C cl fp => (hi _ (Ft.blk scope s H C cl fp) elt).1) (notSet hs _) (notSet hs1)) fun σ H Q q => comp2_read (in_vs hw) q
theorem ps_comp2 (Ft : Fits X c W lv) {i : Nat} {y : Str} {py spos : Pos} {elt tg iter tg1 iter1 : Expr} {ifs ifs1 : List Expr} {scope : Scope} {pos : Pos} {r : Cc → Expr → Ex} {t t1 : En → R Bool} (h : ∀ e, PE X e (tD X.mg W (r c e)))
    (hi : ∀ X', Fits X' (c.inner scope) W0 lv → ∀ e, Both X' W0 e (r (c.inner scope) e)) (ht : testsE (r (c.inner scope)) ifs = some t) (ht1 : testsE (r (c.inner scope)) ifs1 = some t1) (hb : blkC c.N c.sc scope (ownOf c.N scope) = true)
    (hw : (tslots (c.inner scope) 3 tg).all (fun i => ((ownOf c.N scope).map (·.2)).contains i) = true) (hw1 : (tslots (c.inner scope) 3 tg1).all (fun i => ((ownOf c.N scope).map (·.2)).contains i) = true) (hs : isSetE iter = false) (hs1 : isSetE iter1 = false)
    (hy : c.N[i]? = some y) (hyl : c.sc.names.lookup y = some .local) (hsw : swapsWith (.ListComp elt [⟨tg, iter, ifs, 0⟩, ⟨tg1, iter1, ifs1, 0⟩] scope pos) (some (.Name y py)) spos.line X.env = pure true) :
    PS X (.Assign [.Name y py] (.ListComp elt [⟨tg, iter, ifs, 0⟩, ⟨tg1, iter1, ifs1, 0⟩] scope pos) spos) (tAsg (tDL X.mg W (cComp2 ((ownOf c.N scope).map (·.2)) (tslots (c.inner scope) 3 tg1) (srcE c (r c) tg iter) (tgtE (c.inner scope) 3 tg) t (srcE (c.inner scope) (r (c.inner scope)) tg1 iter1) (tgtE (c.inner scope) 3 tg1) t1 (r (c.inner scope) elt))) (gName i)) :=
  PS.wk (ps_setLc2 (i := i) (own := ownOf c.N scope) (vs1 := tslots (c.inner scope) 3 tg1) (te := tD X.mg W0 (r (c.inner scope) elt)) (tt := tDT X.mg W0 t) (tt1 := tDT X.mg W0 t1) Ft.calm (by rw [Ft.hN]; exact Ft.nd) (by rw [Ft.hN]; exact hy) (by rw [Ft.sc]; exact hyl) hsw (pi_src Ft h tg iter) (by rw [Ft.hN, Ft.sc]; exact blkOk_by hb) (in_vs hw1)
    (fun s H C cl fp => pg_tgt (Ft.blk scope s H C cl fp) 3 tg) (fun s H C cl fp => pts_of (hi _ (Ft.blk scope s H C cl fp)) ht) (fun s H C cl fp => pi_src (Ft.blk scope s H C cl fp) (fun e => (hi _ (Ft.blk scope s H C cl fp) e).1) tg1 iter1) (fun s H C cl fp => pg_tgt (Ft.blk scope s H C cl fp) 3 tg1) (fun s H C cl fp => pts_of (hi _ (Ft.blk scope s H C cl fp)) ht1)
    (fun s H C cl fp => (hi _ (Ft.blk scope s H C cl fp) elt).1) (notSet hs _) (notSet hs1)) fun D σ H q => comp2_read (in_vs hw) q
theorem Both.pe {e : Expr} {f : Ex} (h : Both X W e f) : PE X e (tD X.mg W f) := h.1
theorem blt_ok (Ft : Fits X c W lv) {x : Str} {r : Expr → Ex} {es : List Expr} {p pos : Pos} (hx : c.isGl x = true) (ho : okName x = true) (hb : c.T.blt.contains x = true) (h : ∀ e, PE X e (tD X.mg W (r e))) : PE X (.Call (.Name x p) es [] pos) (tD X.mg W (bltE x r c.slot c.free es)) := by
  have g := Ft.gl hx
  have m := Ft.tab.blt x hb
  obtain ⟨o1, o2, o3⟩ := okName_parts ho
  have hc := Ft.calm
  have one : ∀ (e : Expr), isStar e = false → PE X (.Call (.Name x p) [e] [] pos) (tD X.mg W (if x = "abs" then c1 absD (r e) else if x = "sum" then c1 sumD (r e) else if x = "max" then c1 maxD (r e) else if x = "min" then c1 minD (r e)
      else if x = "all" then c1 allD (r e) else if x = "any" then c1 anyD (r e) else if x = "tuple" then c1 tupleD (r e) else if x = "list" then c1 listD (r e) else if x = "sorted" then c1 sortedD (r e) else cBad)) := by
    intro e hs
    split
    · rename_i q; subst q; exact pd_b1 dc_abs g m boot_abs o3 o1 hs (h e)
    split
    · rename_i q; subst q; exact pd_b1 (dc_sum hc) g m boot_sum o3 o1 hs (h e)
    split
    · rename_i q; subst q; exact pd_b1 (dc_max hc) g m boot_max o3 o1 hs (h e)
    split
    · rename_i q; subst q; exact pd_b1 (dc_min hc Ft.un) g m boot_min o3 o1 hs (h e)
    split
    · rename_i q; subst q; exact pd_b1 (dc_all hc) g m boot_all o3 o1 hs (h e)
    split
    · rename_i q; subst q; exact pd_b1 (dc_any hc) g m boot_any o3 o1 hs (h e)
    split
    · rename_i q; subst q; exact pd_t1 dc_tuple g m PyProof.Rows.boot_tuple o3 o1 hs (h e)
    split
    · rename_i q; subst q; exact pd_t1 dc_list g m PyProof.Rows.boot_list o3 o1 hs (h e)
    split
    · rename_i q; subst q; exact pd_b1 dc_sorted g m (by decide +kernel) o3 o1 hs (h e)
    · exact PE.no
  unfold bltE
  split
  · split
    · rename_i q; subst q
      split
      · rename_i i e
        split
        · rename_i hy; exact pd_lenV Ft hy e g m
        · exact PE.no
      · exact pd_b1 dc_len g m PySem.boot_len o3 o1 rfl (h _)
    · exact one _ rfl
  · split
    · exact PE.no
    · rename_i e' _ hs
      have hs : isStar e' = false := by simpa using hs
      split
      · rename_i q; subst q; exact pd_b1 dc_len g m PySem.boot_len o3 o1 hs (h _)
      · exact one _ hs
  · split
    · exact PE.no
    · rename_i e f hs
      simp only [Bool.or_eq_true, not_or, Bool.not_eq_true] at hs
      split
      · rename_i q; subst q; exact pd_b2 (dc_max2 hc) g m boot_max o3 o1 hs.1 hs.2 (h _) (h _)
      split
      · rename_i q; subst q; exact pd_b2 (dc_min2 hc) g m boot_min o3 o1 hs.1 hs.2 (h _) (h _)
      split
      · rename_i q; subst q
        split
        · split
          · rename_i y py hy
            obtain ⟨f1, f2, f3⟩ := Ft.free hy
            split
            · rename_i t e; exact pd_isi g m f1 f2 f3 e hs.1 (h _)
            · exact PE.no
          · exact PE.no
        · exact PE.no
      · exact PE.no
  · exact PE.no
theorem nest_ok (Ft : Fits X c W lv) {x : Str} {r : Expr → Ex} {es : List Expr} {p pos : Pos} {f : Ex} (h : ∀ e, PE X e (tD X.mg W (r e))) (hn : nestE c r x es = some f) : PE X (.Call (.Name x p) es [] pos) (tD X.mg W f) := by
  unfold nestE at hn
  split at hn
  · split at hn
    · rename_i z p2 a b p3 hb
      simp only [Bool.and_eq_true, Bool.not_eq_true', beq_iff_eq] at hb
      obtain ⟨⟨⟨⟨b1, b2⟩, b3⟩, b4⟩, b5⟩ := hb
      subst b3
      obtain ⟨g1, m1, _⟩ := Ft.free b1
      obtain ⟨g2, m2, _⟩ := Ft.free b2
      split at hn
      · rename_i q; subst q; cases hn; exact pd_tupzip Ft.calm g1 m1 g2 m2 (h _) (h _) b4 b5
      split at hn
      · rename_i q; subst q; cases hn; exact pd_lstzip Ft.calm g1 m1 g2 m2 (h _) (h _) b4 b5
      · cases hn
    · cases hn
  · split at hn
    · rename_i z p2 a p3 hb
      simp only [Bool.and_eq_true, Bool.not_eq_true', beq_iff_eq] at hb
      obtain ⟨⟨⟨⟨b1, b2⟩, b3⟩, b4⟩, b5⟩ := hb
      subst b3; subst b4
      obtain ⟨g1, m1, _⟩ := Ft.free b1
      obtain ⟨g2, m2, _⟩ := Ft.free b2
      cases hn
      exact pd_sset Ft.calm Ft.un g1 m1 g2 m2 (h _) b5
    · cases hn
  · cases hn
theorem call_ok (Ft : Fits X c W lv) {x : Str} {r : Expr → Ex} {es : List Expr} {p pos : Pos} (h : ∀ e, PE X e (tD X.mg W (r e))) : PE X (.Call (.Name x p) es [] pos) (tD X.mg W (callE c r x es)) := by
  unfold callE
  split
  · rename_i hx
    simp only [Bool.and_eq_true] at hx
    split
    · rename_i n g e
      split
      · exact pd_call0 Ft hx.1 hx.2 e
      · rename_i es hne
        exact pd_call Ft hx.1 hx.2 e hne h
    · split
      · rename_i hb
        split
        · rename_i f e; exact nest_ok Ft h e
        · exact blt_ok Ft hx.1 hx.2 hb h
      · exact PE.no
  · exact PE.no
theorem arm_sel (v k : Expr) (p : Pos) (args : List Expr) (pos : Pos) (env : Env) : eval (.Call (.Subscript v k p) args [] pos) env = (do
    callWith pos (← eval (.Subscript v k p) env) [] (backTo pos (starEach args env)) (backToKw pos (keywordEach [] env))) := rfl
theorem sel_fs (Ft : Fits X c W lv) : ∀ {fs : List Expr} {l : List (Nat × (List PyData → R PyData))}, selFs c fs = some l → ∃ as : List Addr, as.length = l.length ∧ (∀ (i : Nat) (p : Nat × (List PyData → R PyData)), l[i]? = some p → ∃ (f : Addr) (fd : FuncData) (ps : List Str), as[i]? = some f ∧ ps.length = p.1 ∧ PySem.W.keepIn X.K (.ref f) = true ∧ Binds X.K fd ps [] ∧ FnOk X.prog X.w X.K X.mg X.base (L2.CX X.prog X.w) lv f fd ps (spD X.mg p.1 p.2)) ∧
    PA X fs (fun _ H Q => Q (as.map V.ref) H)
  | [], l, h => by
    have h : [] = l := Option.some.inj h
    subst h
    exact ⟨[], rfl, by simp, PA.wk pa_nil fun σ H Q q => q⟩
  | e :: fs, l, h => by
    cases e <;> try (simp [selFs] at h; done)
    rename_i x px
    simp only [selFs] at h
    split at h
    · rename_i hok
      simp only [Bool.and_eq_true] at hok
      split at h
      · rename_i p ep
        cases q : selFs c fs with
        | none => rw [q] at h; cases h
        | some l' =>
          rw [q] at h
          have h : p :: l' = l := Option.some.inj h
          subst h
          obtain ⟨as, i1, i2, i3⟩ := sel_fs Ft q
          obtain ⟨f, fd, ps, hl, e1, e2, e3, e4⟩ := Ft.tab.fn x p.1 p.2 ep
          refine ⟨f :: as, by simp [i1], fun i p' hi => ?_, PA.wk (pa_cons (pe_glob (v := .ref f) (Ft.gl hok.1) e1 rfl (okName_parts hok.2).1) i3 rfl) fun σ H Q q => q⟩
          cases i with
          | zero =>
            have : p = p' := by simpa using hi
            subst this
            exact ⟨f, fd, ps, rfl, hl, e2, e3, e4⟩
          | succ i => exact i2 i p' (by simpa using hi)
      · cases h
    · cases h
theorem sel_ok (Ft : Fits X c W lv) {r : Expr → Ex} {fs es : List Expr} {k : Expr} {p lp pos : Pos} (h : ∀ e, PE X e (tD X.mg W (r e))) (hk : isSlc k = false) : PE X (.Call (.Subscript (.List fs lp) k p) es [] pos) (tD X.mg W (selE c r fs k es)) := by
  unfold selE
  split
  · rename_i l e es el
    split
    · exact PE.no
    · rename_i hs
      simp only [Bool.or_eq_true, not_or, Bool.not_eq_true, decide_eq_true_eq] at hs
      obtain ⟨hs, hlen⟩ := hs
      have hs' := hs
      simp only [List.any_cons, Bool.or_eq_false_iff] at hs'
      obtain ⟨as, i1, i2, i3⟩ := sel_fs Ft el
      have hpl : PlainIx k := plain_ix fun lo hi p e => by rw [e] at hk; cases hk
      refine ⟨fun pins s σ H Q I q => ?_⟩
      obtain ⟨rr, F, rel, w⟩ := q
      rw [arm_sel]
      refine wpAny_bind (thn ((pe_ix ix_list (pe_lst i3) (h k) hpl).run pins s σ H (fun v H1 => ∃ f fd ps n g F1, v = .ref f ∧ ps.length = n ∧ PySem.W.keepIn X.K (.ref f) = true ∧ Binds X.K fd ps [] ∧ FnOk X.prog X.w X.K X.mg X.base (L2.CX X.prog X.w) lv f fd ps (spD X.mg n g) ∧ Ext F H F1 H1 ∧ Rel F1 H1 σ rr ∧ Want X.mg W σ F1 H1 ((argsE r (e :: es) rr).bind fun ds => if ds.length = n then g ds else .bad) fun d => ∀ v F' H', Ext F H F' H' → Dd F' v d → Q v H') I ?_) fun u s1 ⟨v, H1, I1, rv, q1⟩ => ?_)
      · refine ⟨?_, fun pp np => ?_⟩
        · rw [List.length_map, i1]
          have : (1000 : Nat) ≤ sizeLine := by decide
          omega
        · have e0 : Ext F H F (upd H pp (.lst (as.map V.ref))) := Ext.newO rel.sub np
          have rel0 := rel.ext e0
          have w0 := Want.at e0 w
          unfold cSel at w0
          refine tD_seq rel0 w0 fun kd kv F1 H1 _ e1 rel1 h1 w1 => ?_
          cases h1 with
          | int i =>
            have w1 : Want X.mg W σ F1 H1 (if 0 ≤ i then (match l[i.toNat]? with
              | some p => (argsE r (e :: es) rr).bind fun ds => if ds.length = p.1 then p.2 ds else .bad
              | none => .bad) else .bad) _ := w1
            split at w1
            · rename_i hi
              split at w1
              · rename_i pr ep
                obtain ⟨f, fd, ps, g1, g2, g3, g4, g5⟩ := i2 _ _ ep
                have hil : i.toNat < as.length := (List.getElem?_eq_some_iff.mp g1).1
                refine ⟨pp, as.map V.ref, i, .ref f, rfl, rfl, .inl (Rd.of (e1.hh _ _ upd_same)), ?_, f, fd, ps, pr.1, pr.2, F1, rfl, g2, g3, g4, g5, e0.trans e1, rel1, w1⟩
                unfold atI ixN
                rw [if_pos hi, List.length_map, if_pos (by omega)]
                show (as.map V.ref)[i.toNat]? = some (.ref f)
                rw [List.getElem?_map, g1]; rfl
              · exact w1.elim
            · exact w1.elim
          | _ => exact w1.elim
      · obtain ⟨f, fd, ps, n, g, F1, rfl, g2, g3, g4, g5, ex1, rel1, w1⟩ := q1
        cases rv
        refine PySem.W.callWith_K (h₀ := X.base) I.ok.mod.kin g3 (thn ((pa_args h (e :: es) hs).run pos pins s1 σ H1 (fun vs H2 => spD X.mg n g (vs ++ []) H2 Q (WE W σ)) I1 ?_) fun us s2 ⟨vs, H2, I2, r2, q2⟩ => ⟨I2.kIn, ?_⟩) (star_cons hs'.1) (star_all es hs'.2)
        · refine tDA_seq rel1 w1 fun ds vs F2 H2 _ ex2 rel2 h2 w2 => ?_
          split at w2
          · rename_i hn
            rw [List.append_nil]
            refine ⟨by rw [h2.len]; exact hn, F2, ds, rel2.sub, h2, ?_⟩
            cases q : g ds with
            | ok d => rw [q] at w2; exact fun v F3 H3 e5 hd => w2 v F3 H3 ((ex1.trans ex2).trans e5) hd
            | exc x => rw [q] at w2; exact w2
            | bad => rw [q] at w2; exact w2
          · exact w2.elim
        · exact run_fnSD g5 Ft.room g4 .nil (passAt Ft.tk σ) I2 r2 q2
  · exact PE.no
theorem comp_ok (Ft : Fits X c W lv) {r : Cc → Expr → Ex} {e : Expr} {f : Exl} (h : ∀ e, PE X e (tD X.mg W (r c e))) (hi : ∀ scope X', Fits X' (c.inner scope) W0 lv → ∀ e, Both X' W0 e (r (c.inner scope) e))
    (he : compE r c e = some f) : PE X e (tDL X.mg W f) := by
  unfold compE at he
  split at he
  · rename_i elt tg iter ifs scope pos
    split at he
    · rename_i hb
      simp only [Bool.and_eq_true] at hb
      split at he
      · rename_i t et
        have := Option.some.inj he
        subst this
        exact pl_comp Ft h (hi scope) et hb.1 hb.2
      · cases he
    · cases he
  · split at he
    · rename_i hb
      simp only [Bool.and_eq_true, Bool.not_eq_true'] at hb
      split at he
      · rename_i t t1 et et1
        have := Option.some.inj he
        subst this
        exact pl_comp2 Ft h (hi _) et et1 hb.1.1.1.1 hb.1.1.1.2 hb.1.1.2 hb.1.2 hb.2
      · cases he
    · cases he
  · cases he
theorem step_ok (r : Cc → Expr → Ex) (h : ∀ X c W lv, Fits X c W lv → ∀ e, Both X W e (r c e)) (Ft : Fits X c W lv) : ∀ e, Both X W e (stepE r c e) := by
  have hp : ∀ e, PE X e (tD X.mg W (r c e)) := fun e => (h X c W lv Ft e).1
  intro e
  have cst : ∀ {e : Expr} {v : V} {d : PyData}, PE X e (tC v) → (∀ H, Dd H v d) → PE X e (tD X.mg W (cC d)) := fun {e v d} q hd => PE.wk q fun σ H Q z => by
    obtain ⟨rr, F, rel, w⟩ := z
    exact w v F H (Ext.refl rel.sub) (hd F)
  unfold stepE
  split
  · exact Both.val (cst pe_int fun _ => .int _) fun _ => rfl
  · exact Both.val (cst pe_bl fun _ => .bl _) fun _ => rfl
  · exact Both.val (cst pe_non fun _ => .non) fun _ => rfl
  · exact Both.val (cst pe_str fun _ => .str _) fun _ => rfl
  · exact Both.val (pd_name Ft _ _) fun _ => rfl
  · split
    · rename_i f e; exact Both.val (pd_bin e (hp _) (hp _)) fun _ => rfl
    · exact Both.no
  · exact Both.val (pd_neg (hp _)) fun _ => rfl
  · split
    · rename_i hk; exact both_not hk (h X c W lv Ft _)
    · exact Both.no
  · split
    · rename_i hk; exact both_bool (h X c W lv Ft) _ hk
    · exact Both.no
  · split
    · rename_i hk; exact ⟨pd_if ((h X c W lv Ft _).2 hk) (hp _) (hp _), fun z => by cases z⟩
    · exact Both.no
  · exact both_isN (hp _)
  · exact both_notN (hp _)
  · exact both_isB (hp _)
  · exact both_notB (hp _)
  · split
    · rename_i i z e
      unfold inDct at e
      split at e
      · obtain ⟨j, e1, e2⟩ := Option.map_eq_some_iff.mp e
        cases e2
        exact (both_inV Ft e1 (hp _)).1
      · obtain ⟨j, e1, e2⟩ := Option.map_eq_some_iff.mp e
        cases e2
        exact (both_inV Ft e1 (hp _)).2
      · cases e
    · split
      · exact Both.no
      · rename_i hm
        split
        · rename_i f e; exact both_cmp Ft.un e (by simpa using hm) (hp _) (hp _)
        · exact Both.no
  · split
    · rename_i f g e1 e2; exact both_chain Ft.un e1 e2 (hp _) (hp _) (hp _)
    · exact Both.no
  · exact Both.val (call_ok Ft hp) fun _ => rfl
  · split
    · exact Both.no
    · rename_i hk
      simp only [Bool.not_eq_true, Bool.or_eq_false_iff, Bool.not_eq_false'] at hk
      split
      · rename_i op e; exact Both.val (pd_mth Ft.un e hk.1.1 hk.1.2 hk.2 (hp _) (hp _)) fun _ => rfl
      · exact Both.no
  · split
    · exact Both.no
    · rename_i hk
      exact Both.val (sel_ok Ft hp (by simpa using hk)) fun _ => rfl
  · exact Both.val (pd_tup hp) fun _ => rfl
  · exact Both.val (pd_ofL (pl_lst hp)) fun _ => rfl
  · exact Both.val (pd_rev (hp _)) fun _ => rfl
  · exact Both.val (pd_slice hp) fun _ => rfl
  · exact Both.no
  · rename_i x p k pos hk0 hk1 hk2
    have hpl : PlainIx k := plain_ix fun lo hi p e => hk1 lo hi p e
    split
    · rename_i ho
      split
      · rename_i i e; exact Both.val (pd_ixV Ft ho e (hp k) hpl) fun _ => rfl
      · exact Both.no
    · exact Both.no
  · rename_i v k pos hk0 hk1 hk2 _
    have hpl : PlainIx k := plain_ix fun lo hi p e => hk1 lo hi p e
    exact Both.val (PE.wk (pe_ix dix (hp v) (hp k) hpl) fun _ _ _ q => t_c2 q) fun _ => rfl
  · split
    · rename_i f e
      exact Both.val (pd_ofL (comp_ok Ft hp (fun scope X' Ft' => h X' _ _ _ Ft') e)) fun _ => rfl
    · exact Both.no
  · exact Both.no
theorem ev_ok : ∀ (n : Nat) (X : Cx) (c : Cc) (W : WX) (lv : Nat), Fits X c W lv → ∀ e, Both X W e (evE n c e)
  | 0, _, _, _, _, _, _ => Both.no
  | n + 1, X, c, W, lv, Ft, e => step_ok (evE n) (ev_ok n) Ft e
end
end Rt
/-! Rt, part B7: statements, a def's promise. -/
namespace Rt
open PySem PySem.Spec PyProof.Rows L2

structure RelS (F0 H0 F H : Hp) (σ : L2.St) (r : En) : Prop where
  ext : Ext F0 H0 F H
  rel : Rel F H σ r
  new : ∀ (i : Nat) (a : Addr), σ[i]? = some (some (.ref a)) → isOwn r[i]? = true → H0 a = none
theorem RelS.at {F0 H0 F H F1 H1 : Hp} {σ : L2.St} {r : En} (x : RelS F0 H0 F H σ r) (e : Ext F H F1 H1) : RelS F0 H0 F1 H1 σ r := ⟨x.ext.trans e, x.rel.ext e, x.new⟩
section
variable (mg : Str → Option Value) (W : WX) (F0 H0 : Hp)
def WantS (F : Hp) (x : RS) (D : Ends) : Prop := match x with
  | .ok .nx r => ∀ σ F' H, Same F F' → RelS F0 H0 F' H σ r → D.nx σ H
  | .ok .brk r => ∀ σ F' H, Same F F' → RelS F0 H0 F' H σ r → D.bk σ H
  | .ok .cont r => ∀ σ F' H, Same F F' → RelS F0 H0 F' H σ r → D.ct σ H
  | .ok (.ret d) _ => ∀ v F' H, Ext F0 H0 F' H → Dd F' v d → D.rt v H
  | .exc c r => ∀ C σ F' H, Same F F' → RelS F0 H0 F' H σ r → mg c = some (.ref C) → W (.ref C) none σ H
  | .bad => False
def tDS (f : Ss) : TS := fun D σ H => ∃ r F, RelS F0 H0 F H σ r ∧ WantS mg W F0 H0 F (f r) D
/-- what is stored -/
def SlNew (H F' H' : Hp) (v : V) : Sl → Prop
  | .dat d => Dd F' v d
  | .own ds => ∃ a vs, v = .ref a ∧ H a = none ∧ F' a = none ∧ H' a = some (.lst vs) ∧ DdA F' vs ds
  | .dct ks => ∃ a, v = .ref a ∧ H a = none ∧ F' a = none ∧ H' a = some (dkO ks)
  | .dfz _ => False
def tDX (x : Exo) : TE := fun σ H Q => ∃ r F, Rel F H σ r ∧ Want mg W σ F H (x r) fun s => ∀ v F' H', Ext F H F' H' → SlNew H F' H' v s → Q v H'
end
section
variable {mg : Str → Option Value} {W : WX} {F0 H0 F H F1 H1 : Hp} {σ : L2.St} {r : En} {D : Ends}
theorem WantS.mono {x : RS} (s : Same F F1) (w : WantS mg W F0 H0 F x D) : WantS mg W F0 H0 F1 x D := by
  cases x with
  | ok f r =>
    cases f with
    | nx => exact fun σ F' H s' q => w σ F' H (s.trans s') q
    | brk => exact fun σ F' H s' q => w σ F' H (s.trans s') q
    | cont => exact fun σ F' H s' q => w σ F' H (s.trans s') q
    | ret d => exact w
  | exc c r => exact fun C σ F' H s' q => w C σ F' H (s.trans s') q
  | bad => exact w
theorem WantS.exc {c : Str} {r : En} (x : RelS F0 H0 F H σ r) (w : WantS mg W F0 H0 F (.exc c r) D) {α : Type} {k : α → Prop} : Want mg W σ F H (.exc c : R α) k :=
  fun C F' H' e m => w C σ F' H' e.ff (x.at e) m
theorem tDS_seq {f : Ex} {k : PyData → RS} {Q : VK} (rel : RelS F0 H0 F H σ r) (w : WantS mg W F0 H0 F (lift (f r) r k) D)
    (h : ∀ d v F1 H1, f r = .ok d → Ext F H F1 H1 → RelS F0 H0 F1 H1 σ r → Dd F1 v d → WantS mg W F0 H0 F1 (k d) D → Q v H1) : tD mg W f σ H Q := by
  refine ⟨r, F, rel.rel, ?_⟩
  cases q : f r with
  | ok d =>
    rw [q] at w
    exact fun v F1 H1 e hd => h d v F1 H1 q e (rel.at e) hd (WantS.mono e.ff w)
  | exc c => rw [q] at w; exact WantS.exc rel w
  | bad => rw [q] at w; exact w
theorem tDST_seq {f : En → R Bool} {k : Bool → RS} {Q : Bool → Hp → Prop} (rel : RelS F0 H0 F H σ r) (w : WantS mg W F0 H0 F (lift (f r) r k) D)
    (h : ∀ b F1 H1, f r = .ok b → Ext F H F1 H1 → RelS F0 H0 F1 H1 σ r → WantS mg W F0 H0 F1 (k b) D → Q b H1) : tDT mg W f σ H Q := by
  refine ⟨r, F, rel.rel, ?_⟩
  cases q : f r with
  | ok d =>
    rw [q] at w
    exact fun F1 H1 e => h d F1 H1 q e (rel.at e) (WantS.mono e.ff w)
  | exc c => rw [q] at w; exact WantS.exc rel w
  | bad => rw [q] at w; exact w
theorem tDX_seq {x : Exo} {k : Sl → RS} {Q : VK} (rel : RelS F0 H0 F H σ r) (w : WantS mg W F0 H0 F (lift (x r) r k) D)
    (h : ∀ s v F1 H1, x r = .ok s → Ext F H F1 H1 → RelS F0 H0 F1 H1 σ r → SlNew H F1 H1 v s → WantS mg W F0 H0 F1 (k s) D → Q v H1) : tDX mg W x σ H Q := by
  refine ⟨r, F, rel.rel, ?_⟩
  cases q : x r with
  | ok d =>
    rw [q] at w
    exact fun v F1 H1 e hd => h d v F1 H1 q e (rel.at e) hd (WantS.mono e.ff w)
  | exc c => rw [q] at w; exact WantS.exc rel w
  | bad => rw [q] at w; exact w
/-- a slot stored -/
theorem RelS.put {H' : Hp} {i : Nat} {v : V} {s : Sl} (x : RelS F0 H0 F H σ r) (hi : i < r.length) (hs : SlOk F H v s) (ha : isOwn (some (some s)) = true → ∃ a, v = .ref a ∧ H0 a = none ∧ H' a = none) (hb : ∀ (j : Nat) (a : Addr), σ[j]? = some (some (.ref a)) → isOwn r[j]? = true → H' a ≠ none) :
    RelS F0 H0 F H (σ.set i (some v)) (r.set i (some s)) := by
  refine ⟨x.ext, x.rel.put hi hs fun ho j hj e1 e2 => ?_, fun j a e1 e2 => ?_⟩
  · obtain ⟨a, rfl, _, n⟩ := ha ho
    exact hb j a e1 e2 n
  · by_cases hj : i = j
    · subst hj
      rw [List.getElem?_set_self (by rw [← x.rel.len]; exact hi)] at e1
      rw [List.getElem?_set_self hi] at e2
      obtain ⟨b, e3, n, _⟩ := ha e2
      have : v = .ref a := by simpa using e1
      rw [this] at e3
      cases e3
      exact n
    · rw [List.getElem?_set_ne hj] at e1 e2
      exact x.new j a e1 e2
theorem RelS.held (x : RelS F0 H0 F H σ r) {j : Nat} {a : Addr} (e1 : σ[j]? = some (some (.ref a))) (e2 : isOwn r[j]? = true) : H a ≠ none ∧ F a = none := by
  cases q : r[j]? with
  | none => rw [q] at e2; cases e2
  | some o =>
    cases o with
    | none => rw [q] at e2; cases e2
    | some s =>
      cases s with
      | dat d => rw [q] at e2; cases e2
      | own ds =>
        obtain ⟨v, e3, b, vs, e4, e5, e6, _⟩ := x.rel.at_ j _ q
        rw [e1] at e3
        have : V.ref a = v := by simpa using e3
        rw [← this] at e4
        cases e4
        exact ⟨by rw [e6]; simp, e5⟩
      | dct ks =>
        obtain ⟨v, e3, b, e4, e5, e6⟩ := x.rel.at_ j _ q
        rw [e1] at e3
        have : V.ref a = v := by simpa using e3
        rw [← this] at e4
        cases e4
        exact ⟨by rw [e6]; simp, e5⟩
      | dfz ks => rw [q] at e2; cases e2
/-- .. behind the evaluation of what is stored -/
theorem RelS.store {i : Nat} {v : V} {s : Sl} (x0 : RelS F0 H0 F H σ r) (e : Ext F H F1 H1) (hs : SlNew H F1 H1 v s) (hi : i < r.length) : RelS F0 H0 F1 H1 (σ.set i (some v)) (r.set i (some s)) := by
  refine (x0.at e).put (H' := H) hi ?_ (fun ho => ?_) fun j a e1 e2 => (x0.held e1 e2).1
  · cases s with
    | dat d => exact hs
    | own ds =>
      obtain ⟨a, vs, rfl, _, n2, h2, dd⟩ := hs
      exact ⟨a, vs, rfl, n2, h2, dd⟩
    | dct ks =>
      obtain ⟨a, rfl, _, n2, h2⟩ := hs
      exact ⟨a, rfl, n2, h2⟩
    | dfz ks => exact hs.elim
  · cases s with
    | dat d => cases ho
    | own ds =>
      obtain ⟨a, vs, rfl, n1, _, _, _⟩ := hs
      exact ⟨a, rfl, Same.free x0.ext.hh n1, n1⟩
    | dct ks =>
      obtain ⟨a, rfl, n1, _, _⟩ := hs
      exact ⟨a, rfl, Same.free x0.ext.hh n1, n1⟩
    | dfz ks => exact hs.elim
theorem SlNew.at {H' F2 H2 : Hp} {v : V} {s : Sl} (h : SlNew H' F1 H1 v s) (e : Ext F1 H1 F2 H2) : SlNew H' F2 H2 v s := by
  cases s with
  | dat d => exact Dd.mono e.ff _ _ h
  | own ds =>
    obtain ⟨a, vs, rfl, n1, n2, h2, dd⟩ := h
    exact ⟨a, vs, rfl, n1, e.out a (by rw [h2]; simp) n2, e.hh _ _ h2, DdA.mono e.ff _ _ dd⟩
  | dct ks =>
    obtain ⟨a, rfl, n1, n2, h2⟩ := h
    exact ⟨a, rfl, n1, e.out a (by rw [h2]; simp) n2, e.hh _ _ h2⟩
  | dfz ks => exact h.elim
/-! ### freezing -/
/-- the thing of slot i's own is frozen: u stands for it from now on -/
theorem RelS.frzA {i : Nat} {a : Addr} {s1 : Sl} {u u0 : HO} (x : RelS F0 H0 F H σ r) (hi : i < r.length) (e1 : σ[i]? = some (some (.ref a))) (oi : isOwn r[i]? = true) (n1 : F a = none) (h1 : H a = some u0)
    (ns : isOwn (some (some s1)) = false) (hs : SlOk (upd F a u) (upd H a u) (.ref a) s1) : Same F (upd F a u) ∧ RelS F0 H0 (upd F a u) (upd H a u) σ (r.set i (some s1)) := by
  have n0 := x.new i a e1 oi
  have sm : Same F (upd F a u) := same_upd n1
  have ex : Ext F0 H0 (upd F a u) (upd H a u) := ⟨x.ext.ff.trans sm, fun b o eb => by
      have : b ≠ a := fun z => by rw [z, n0] at eb; cases eb
      rw [upd_ne this]; exact x.ext.hh _ _ eb, fun b o eb => by
      by_cases hb : b = a
      · subst hb; rw [upd_same] at eb ⊢; exact eb
      · rw [upd_ne hb] at eb ⊢; exact x.ext.sub _ _ eb, fun b hb nb => by
      have : b ≠ a := fun z => hb (by rw [z]; exact n0)
      rw [upd_ne this]; exact x.ext.out b hb nb⟩
  refine ⟨sm, ex, ⟨ex.sub, by simp [x.rel.len], fun j s q => ?_, fun j k w hjk g1 g2 o1 o2 => ?_⟩, fun j b g1 o1 => ?_⟩
  · by_cases hj : i = j
    · subst hj
      rw [List.getElem?_set_self hi] at q
      have : s1 = s := by simpa using q
      subst this
      exact ⟨_, e1, hs⟩
    · rw [List.getElem?_set_ne hj] at q
      obtain ⟨w, g1, g2⟩ := x.rel.at_ j s q
      refine ⟨w, g1, ?_⟩
      cases s with
      | dat d => exact Dd.mono sm _ _ g2
      | own es =>
        obtain ⟨b, us, rfl, m1, m2, m3⟩ := g2
        have hba : b ≠ a := fun z => by
          subst z
          exact x.rel.apart i j _ hj e1 g1 oi (by rw [q]; rfl)
        exact ⟨b, us, rfl, by rw [upd_ne hba]; exact m1, by rw [upd_ne hba]; exact m2, DdA.mono sm _ _ m3⟩
      | dct ks =>
        obtain ⟨b, rfl, m1, m2⟩ := g2
        have hba : b ≠ a := fun z => by
          subst z
          exact x.rel.apart i j _ hj e1 g1 oi (by rw [q]; rfl)
        exact ⟨b, rfl, by rw [upd_ne hba]; exact m1, by rw [upd_ne hba]; exact m2⟩
      | dfz ks =>
        obtain ⟨b, od, rfl, m1⟩ := g2
        exact ⟨b, od, rfl, sm _ _ m1⟩
  · have nj : i ≠ j := fun z => by
      subst z
      rw [List.getElem?_set_self hi, ns] at o1; cases o1
    have nk : i ≠ k := fun z => by
      subst z
      rw [List.getElem?_set_self hi, ns] at o2; cases o2
    rw [List.getElem?_set_ne nj] at o1
    rw [List.getElem?_set_ne nk] at o2
    exact x.rel.apart j k w hjk g1 g2 o1 o2
  · have nj : i ≠ j := fun z => by
      subst z
      rw [List.getElem?_set_self hi, ns] at o1; cases o1
    rw [List.getElem?_set_ne nj] at o1
    exact x.new j b g1 o1
theorem upd_id {H : Hp} {a : Addr} {u : HO} (h : H a = some u) : upd H a u = H := by
  funext b
  by_cases hb : b = a
  · subst hb; rw [upd_same, h]
  · rw [upd_ne hb]
theorem RelS.frz1 {X : Cx} {pins : List (Addr × Obj)} {s : Shared} (I : Inv X pins σ H s) (x : RelS F0 H0 F H σ r) (i : Nat) : ∃ F' H', Same F F' ∧ Inv X pins σ H' s ∧ RelS F0 H0 F' H' σ (Rt.frz1 i r) := by
  unfold Rt.frz1
  split
  · rename_i ds e
    obtain ⟨v, e1, a, vs, rfl, n1, h1, dd⟩ := x.rel.at_ i _ e
    have hi : i < r.length := (List.getElem?_eq_some_iff.mp e).1
    obtain ⟨sm, y⟩ := x.frzA (u := .lst vs) hi e1 (by rw [e]; rfl) n1 h1 (s1 := .dat (.list ds)) rfl (.lst (Rd.of upd_same) (DdA.mono (same_upd n1) _ _ dd))
    rw [upd_id h1] at y
    exact ⟨_, H, sm, I, y⟩
  · rename_i ks e
    obtain ⟨v, e1, a, rfl, n1, h1⟩ := x.rel.at_ i _ e
    have hi : i < r.length := (List.getElem?_eq_some_iff.mp e).1
    obtain ⟨od, I1⟩ := I.lock h1 trivial
    obtain ⟨sm, y⟩ := x.frzA (u := .frz od (dkO ks)) hi e1 (by rw [e]; rfl) n1 h1 (s1 := .dfz ks) rfl ⟨a, od, rfl, upd_same⟩
    exact ⟨_, _, sm, I1, y⟩
  · exact ⟨F, H, Same.refl _, I, x⟩
theorem RelS.frz {X : Cx} {pins : List (Addr × Obj)} {s : Shared} : ∀ (is : List Nat) {r : En} {F H : Hp}, Inv X pins σ H s → RelS F0 H0 F H σ r → ∃ F' H', Same F F' ∧ Inv X pins σ H' s ∧ RelS F0 H0 F' H' σ (is.foldl (fun r i => Rt.frz1 i r) r)
  | [], r, F, H, I, x => ⟨F, H, Same.refl _, I, x⟩
  | i :: is, r, F, H, I, x => by
    obtain ⟨F1, H1, s1, I1, x1⟩ := x.frz1 I i
    obtain ⟨F2, H2, s2, I2, x2⟩ := RelS.frz is I1 x1
    exact ⟨F2, H2, s1.trans s2, I2, x2⟩
theorem tDS_pre {X : Cx} {pins : List (Addr × Obj)} {s : Shared} {is : List Nat} {f : Ss} (I : Inv X pins σ H s) (h : tDS mg W F0 H0 (pre is f) D σ H) : ∃ H', Inv X pins σ H' s ∧ tDS mg W F0 H0 f D σ H' := by
  cases is with
  | nil => exact ⟨H, I, h⟩
  | cons i is =>
    obtain ⟨r, F, x, w⟩ := h
    obtain ⟨F', H', s, I', x'⟩ := RelS.frz (i :: is) I x
    exact ⟨H', I', _, F', x', WantS.mono s w⟩
end
section
variable {X : Cx} {c : Cc} {W : WX} {lv : Nat} {F0 H0 : Hp}
theorem PS.no {st : Stmt} {mg : Str → Option Value} : PS X st (tDS mg W F0 H0 sBad) := ⟨fun pins s σ H D I q => by obtain ⟨_, _, _, w⟩ := q; exact w.elim⟩
theorem PS.pre {st : Stmt} {f : Ss} (is : List Nat) (h : PS X st (tDS X.mg W F0 H0 f)) : PS X st (tDS X.mg W F0 H0 (Rt.pre is f)) := ⟨fun pins s σ H D I q => by
  obtain ⟨H', I', q'⟩ := tDS_pre I q
  exact h.run pins s σ H' D I' q'⟩
/-! ### blocks -/
theorem pss_block {s : Stmt → Ss} (h : ∀ st, PS X st (tDS X.mg W F0 H0 (s st))) : ∀ sts, PSs X sts (tDS X.mg W F0 H0 (blockE s sts))
  | [] => PSs.wk pss_nil fun D σ H q => by
    obtain ⟨r, F, x, w⟩ := q
    exact w σ F H (Same.refl _) x
  | [st] => pss_one (h st)
  | st :: st2 :: sts => by
    refine PSs.wk (pss_cons (h st) (pss_block h (st2 :: sts))) fun D σ H q => ?_
    obtain ⟨r, F, x, w⟩ := q
    refine ⟨r, F, x, ?_⟩
    have w : WantS X.mg W F0 H0 F (match s st r with | .ok .nx r1 => blockE s (st2 :: sts) r1 | x => x) D := w
    cases q : s st r with
    | bad => rw [q] at w; exact w
    | exc c r1 => rw [q] at w; exact w
    | ok f r1 =>
      rw [q] at w
      cases f with
      | nx => exact fun σ' F' H' sm x' => ⟨r1, F', x', WantS.mono sm w⟩
      | ret d => exact w
      | brk => exact w
      | cont => exact w
/-! ### small statements -/
theorem ps_ret' {e : Expr} {f : Ex} {pos : Pos} (h : PE X e (tD X.mg W f)) : PS X (.Return (some e) pos) (tDS X.mg W F0 H0 (sRet f)) :=
  PS.wk (ps_ret h) fun D σ H q => by
    obtain ⟨r, F, x, w⟩ := q
    exact tDS_seq x w fun d v F1 H1 _ e1 x1 hd w1 => w1 v F1 H1 x1.ext hd
theorem ps_drop' {e : Expr} {f : Ex} {pos : Pos} (h : PE X e (tD X.mg W f)) (hs : swapsWith e none pos.line X.env = pure false) : PS X (.Expr e pos) (tDS X.mg W F0 H0 (sDrop f)) :=
  PS.wk (ps_expr h hs) fun D σ H q => by
    obtain ⟨r, F, x, w⟩ := q
    exact tDS_seq x w fun d v F1 H1 _ e1 x1 hd w1 => w1 σ F1 H1 (Same.refl _) x1
theorem ps_if' {t : Expr} {f : Ex} {a b : List Stmt} {fa fb : Ss} {pos : Pos} (ht : PT X t (tDT X.mg W (cT f))) (ha : PSs X a (tDS X.mg W F0 H0 fa)) (hb : PSs X b (tDS X.mg W F0 H0 fb)) : PS X (.If t a b pos) (tDS X.mg W F0 H0 (sIf f fa fb)) :=
  PS.wk (ps_if ht ha hb) fun D σ H q => by
    obtain ⟨r, F, x, w⟩ := q
    refine tDST_seq x w fun z F1 H1 _ e1 x1 w1 => ?_
    cases z with
    | true => exact ⟨r, F1, x1, w1⟩
    | false => exact ⟨r, F1, x1, w1⟩
theorem ps_while' {wf : Nat} {t : Expr} {f : Ex} {b : List Stmt} {fb : Ss} {pos : Pos} (own : PassesOwn (model X.prog X.w) X.A X.env X.xe) (ht : PT X t (tDT X.mg W (cT f))) (hb : PSs X b (tDS X.mg W F0 H0 fb)) : PS X (.While t b [] pos) (tDS X.mg W F0 H0 (sWh wf f fb)) :=
  PS.wk (ps_while own ht hb) fun D σ H q => by
    obtain ⟨r, F, x, w⟩ := q
    refine ⟨fun m σ H => ∃ r F, RelS F0 H0 F H σ r ∧ WantS X.mg W F0 H0 F (whGo f fb m r) D, ⟨wf, r, F, x, w⟩, ?_⟩
    rintro m σ H ⟨r, F, x, w⟩
    cases m with
    | zero => exact w.elim
    | succ m =>
      refine tDST_seq x w fun z F1 H1 _ e1 x1 w1 => ?_
      cases z with
      | false => exact w1 σ F1 H1 (Same.refl _) x1
      | true =>
        rw [if_pos rfl]
        refine ⟨fun σ' H' => ∃ r F, RelS F0 H0 F H' σ' r ∧ WantS X.mg W F0 H0 F (whGo f fb m r) D, fun σ' H' n => ⟨m, Nat.lt_succ_self _, n⟩, r, F1, x1, ?_⟩
        have w1 : WantS X.mg W F0 H0 F1 (match fb r with | .ok .nx r2 => whGo f fb m r2 | .ok .cont r2 => whGo f fb m r2 | .ok .brk r2 => .ok .nx r2 | x => x) D := w1
        cases q : fb r with
        | bad => rw [q] at w1; exact w1
        | exc c r1 => rw [q] at w1; exact w1
        | ok fl r1 =>
          rw [q] at w1
          cases fl with
          | nx => exact fun σ' F' H' sm x' => ⟨r1, F', x', WantS.mono sm w1⟩
          | cont => exact fun σ' F' H' sm x' => ⟨r1, F', x', WantS.mono sm w1⟩
          | brk => exact w1
          | ret d => exact w1
theorem ps_for' {tg it : Expr} {src : Exl} {g : Tg} {ws : List Nat} {b : List Stmt} {fb : Ss} {pos : Pos} (own : PassesOwn (model X.prog X.w) X.A X.env X.xe) (hc : X.calm = true) (hi : PI X tg it (tDI X.mg W src)) (hg : PG X tg (tDG ws g)) (hb : PSs X b (tDS X.mg W F0 H0 fb))
    (hd : ∀ (r : En) (d : PyData) (r' : En), g d r = .ok r' → (∀ i : Nat, isOwn r'[i]? = true → isOwn r[i]? = true)) (hdw : ∀ (r : En) (d : PyData) (r' : En), g d r = .ok r' → ∀ i : Nat, i ∈ ws → isOwn r'[i]? = false)
    (hs : ∀ x, foldedSetIterable it X.env x = pure x) : PS X (.For tg it b [] pos) (tDS X.mg W F0 H0 (sFor src g fb)) :=
  PS.wk (ps_for own hc hi hg hb hs) fun D σ H q => by
    obtain ⟨r, F, x, w⟩ := q
    refine ⟨r, F, x.rel, ?_⟩
    have w : WantS X.mg W F0 H0 F (lift (src r) r fun ds => forGo g fb ds r) D := w
    cases q : src r with
    | bad => rw [q] at w; exact w
    | exc c => rw [q] at w; exact WantS.exc x w
    | ok ds =>
      rw [q] at w
      intro J F1 H1 e1 itd
      refine ⟨fun i m σ H => m = ds.length - i ∧ i ≤ ds.length ∧ ∃ r F, Same F1 F ∧ RelS F0 H0 F H σ r ∧ WantS X.mg W F0 H0 F (forGo g fb (ds.drop i) r) D, ⟨ds.length, by simp, Nat.zero_le _, r, F1, Same.refl _, x.at e1, WantS.mono e1.ff w⟩, ?_⟩
      rintro i m σ H ⟨rfl, hile, r, F, s1, x, w⟩
      obtain ⟨it1, it2⟩ := itd i F H s1 x.rel.sub
      by_cases hlt : i < ds.length
      · have hdd := List.getElem?_eq_getElem hlt
        obtain ⟨go, yl⟩ := it1 _ hdd
        rw [List.drop_eq_getElem_cons hlt] at w
        refine .inr ⟨go, fun σ' H' => ∃ r F, Same F1 F ∧ RelS F0 H0 F H' σ' r ∧ WantS X.mg W F0 H0 F (forGo g fb (ds.drop (i + 1)) r) D, fun σ' H' hN => ⟨ds.length - (i + 1), by omega, rfl, hlt, hN⟩, fun v H2 y => ?_⟩
        obtain ⟨F2, e2, hv⟩ := yl v H2 y
        have x2 := x.at e2
        have w2 := WantS.mono e2.ff w
        unfold forGo at w2
        cases q1 : g ds[i] r with
        | bad => rw [q1] at w2; exact w2.elim
        | exc c => rw [q1] at w2; exact w2.elim
        | ok r1 =>
          rw [q1] at w2
          refine ⟨r, F2, ds[i], r1, x2.rel, hv, q1, fun σ' rel' chg => ?_⟩
          have rel' := rel' _ x2.rel
          have x3 : RelS F0 H0 F2 H2 σ' r1 := ⟨x2.ext, rel', fun j a g1 o1 => by
            have nj : j ∉ ws := fun z => by rw [hdw r _ r1 q1 j z] at o1; cases o1
            rw [chg.2 j nj] at g1
            exact x2.new j a g1 (hd r _ r1 q1 j o1)⟩
          refine ⟨r1, F2, x3, ?_⟩
          have w2 : WantS X.mg W F0 H0 F2 (match fb r1 with | .ok .nx r2 => forGo g fb (ds.drop (i + 1)) r2 | .ok .cont r2 => forGo g fb (ds.drop (i + 1)) r2 | .ok .brk r2 => .ok .nx r2 | x => x) D := w2
          have s2 := s1.trans e2.ff
          cases q2 : fb r1 with
          | bad => rw [q2] at w2; exact w2
          | exc c r2 => rw [q2] at w2; exact w2
          | ok fl r2 =>
            rw [q2] at w2
            cases fl with
            | nx => exact fun σ' F' H' sm x' => ⟨r2, F', s2.trans sm, x', WantS.mono sm w2⟩
            | cont => exact fun σ' F' H' sm x' => ⟨r2, F', s2.trans sm, x', WantS.mono sm w2⟩
            | brk => exact w2
            | ret d => exact w2
      · have ei : i = ds.length := by omega
        subst ei
        rw [List.drop_length] at w
        exact .inl ⟨it2 (Nat.le_refl _), w σ F H (Same.refl _) x⟩
/-- what a target leaves of lists of their own -/
theorem own_set {r : En} {i j : Nat} {d : PyData} (h : isOwn (r.set i (some (.dat d)))[j]? = true) : isOwn r[j]? = true ∧ i ≠ j := by
  by_cases hj : i = j
  · subst hj
    by_cases hl : i < r.length
    · rw [List.getElem?_set_self hl] at h; cases h
    · rw [List.getElem?_eq_none (by simpa using hl)] at h; cases h
  · rw [List.getElem?_set_ne hj] at h
    exact ⟨h, hj⟩
theorem tgt_own : ∀ (n : Nat) (e : Expr) (d : PyData) (r r' : En), tgtE c n e d r = .ok r' → ∀ i, isOwn r'[i]? = true → isOwn r[i]? = true ∧ i ∉ tslots c n e
  | 0, e, d, r, r', h => by cases h
  | n + 1, e, d, r, r', h => by
    cases e with
    | Name x pos =>
      have h : (if okName x then (match c.slotW x with | some i => gN i | none => gBad) else gBad) d r = .ok r' := h
      split at h
      · split at h
        · rename_i k e
          have h : (if k < r.length then R.ok (r.set k (some (.dat d))) else .bad) = .ok r' := h
          split at h
          · have := R.ok.inj h
            subst this
            intro i hi
            obtain ⟨h1, h2⟩ := own_set hi
            refine ⟨h1, fun z => h2 ?_⟩
            have : i ∈ (c.slotW x).toList := z
            rw [e] at this
            simp at this
            exact this.symm
          · cases h
        · cases h
      · cases h
    | Tuple es kk pos =>
      have h : (if es.any isStar then gBad else gT (es.foldr (fun e h => gCons (tgtE c n e) h) gNil)) d r = .ok r' := h
      split at h
      · cases h
      · obtain ⟨ds, rfl⟩ : ∃ ds, d = .tuple ds := by
          cases d <;> first | exact ⟨_, rfl⟩ | cases h
        have h : es.foldr (fun e h => gCons (tgtE c n e) h) gNil ds r = .ok r' := h
        have all : ∀ (es : List Expr) (ds : List PyData) (r r' : En), es.foldr (fun e h => gCons (tgtE c n e) h) gNil ds r = .ok r' → ∀ i, isOwn r'[i]? = true → isOwn r[i]? = true ∧ i ∉ es.flatMap fun e => tslots c n e := by
          intro es
          induction es with
          | nil =>
            intro ds r r' h i hi
            cases ds with
            | nil =>
              have := R.ok.inj h
              subst this
              exact ⟨hi, by simp⟩
            | cons _ _ => cases h
          | cons e es ih =>
            intro ds r r' h i hi
            cases ds with
            | nil => cases h
            | cons d ds =>
              have h : ((tgtE c n e d r).bind fun r1 => es.foldr (fun e h => gCons (tgtE c n e) h) gNil ds r1) = .ok r' := h
              cases q : tgtE c n e d r with
              | ok r1 =>
                rw [q] at h
                obtain ⟨h1, h2⟩ := ih ds r1 r' h i hi
                obtain ⟨h3, h4⟩ := tgt_own n e d r r1 q i h1
                exact ⟨h3, by rw [List.flatMap_cons, List.mem_append, not_or]; exact ⟨h4, h2⟩⟩
              | exc x => rw [q] at h; cases h
              | bad => rw [q] at h; cases h
        exact all es ds r r' h
    | _ => cases h
theorem ps_raise' (Ft : Fits X c W lv) {x : Str} {m : Str} {j : Nat} {p p2 pos pos2 : Pos} (hg : Gl X x) (ho : okName x = true) (hx : ExcOk X.K X.mg x) : PS X (.Raise (some (.Call (.Name x p) [.Constant (.str m) j p2] [] pos)) none pos2) (tDS X.mg W F0 H0 (sRaise x)) := by
  obtain ⟨C, e1, e2, e3, e4, e5⟩ := hx.ex
  refine PS.wk (ps_raise Ft.calm Ft.tk (pmk_own PySem.F.excBase_ValueError e2 e1 e3 (raises_own e4 e5) hg (okName_parts ho).1)) fun D σ H q => ?_
  obtain ⟨r, F, x', w⟩ := q
  exact w C σ F H (Same.refl _) x' e1
/-! ### except suites -/
def tDP (P : L2.St → Prop) (mg : Str → Option Value) (f : Ex) : TE := fun σ H Q => P σ ∧ tD mg W0 f σ H Q
def tDAP (P : L2.St → Prop) (mg : Str → Option Value) (f : Exl) : TA := fun σ H Q => P σ ∧ tDA mg W0 f σ H Q
structure FitsH (X : Cx) (c : Cc) : Prop where
  hN : X.N = c.N
  nd : c.N.Nodup
  sc : X.env.scope = c.sc
  top : ∀ x, c.cw x = true → X.fn x = true
  con : ∀ x d, c.T.con.lookup x = some d → ∃ u v, X.mg x = some u ∧ RelV v u ∧ ∀ H, Dd H v d
  blt : ∀ x, c.T.blt.contains x = true → X.mg x = none
  iss : ∀ x y b, c.T.iss.lookup (x, y) = some b → IssOk X.K X.mg x y b
  un : X.A.units + 65 < cLine
theorem FitsH.gl {X : Cx} (Ft : FitsH X c) {x : Str} (h : c.isGl x = true) : Gl X x := by
  unfold Cc.isGl at h
  unfold Gl Env.kindOf
  rw [Ft.sc]
  split at h
  · rename_i e; exact e
  · cases h
theorem hp_no {P : L2.St → Prop} {e : Expr} {mg : Str → Option Value} : PE X e (tDP P mg cBad) := ⟨fun pins s σ H Q I q => by obtain ⟨_, _, _, _, w⟩ := q; exact w.elim⟩
theorem hp_cst {P : L2.St → Prop} {e : Expr} {v : V} {d : PyData} {mg : Str → Option Value} (q : PE X e (tC v)) (hd : ∀ H, Dd H v d) : PE X e (tDP P mg (cC d)) := PE.wk q fun σ H Q z => by
  obtain ⟨_, rr, F, rel, w⟩ := z
  exact w v F H (Ext.refl rel.sub) (hd F)
theorem hp_name {P : L2.St → Prop} (Ft : FitsH X c) (x : Str) (pos : Pos) : PE X (.Name x pos) (tDP P X.mg (nameE c x)) := by
  unfold nameE
  split
  · rename_i ho
    split
    · rename_i i e
      obtain ⟨h1, h2⟩ := Cc.slot_ok e
      obtain ⟨o1, o2, _⟩ := okName_parts ho
      refine PE.wk (pe_var (by rw [Ft.hN]; exact h1) (by rw [Ft.sc]; exact h2) o1 o2) fun σ H Q q => ?_
      obtain ⟨_, r, F, rel, w⟩ := q
      unfold cV at w
      split at w
      · rename_i d e2
        obtain ⟨v, e3, e4⟩ := rel.at_ i _ e2
        exact ⟨v, e3, w v F H (Ext.refl rel.sub) e4⟩
      · exact w.elim
    · split
      · rename_i hg
        split
        · rename_i d e
          obtain ⟨u, v, e1, e2, e3⟩ := Ft.con x d e
          exact hp_cst (pe_glob (Ft.gl hg) e1 e2 (okName_parts ho).1) e3
        · exact hp_no
      · exact hp_no
  · exact hp_no
theorem hp_add {P : L2.St → Prop} {a b : Expr} {f g : Ex} {pos : Pos} {mg : Str → Option Value} (ha : PE X a (tDP P mg f)) (hb : PE X b (tDP P mg g)) : PE X (.BinOp a .Add b pos) (tDP P mg (c2 addD f g)) :=
  PE.wk (pe_op (dop_bin rfl) ha hb) fun σ H Q q => by
    obtain ⟨p, r, F, rel, w⟩ := q
    refine ⟨p, tD_seq rel w fun d v F1 H1 _ e1 rel1 h1 w1 => ⟨p, tD_seq rel1 w1 fun d2 v2 F2 H2 _ e2 rel2 h2 w2 => ?_⟩⟩
    obtain ⟨z, e3, k⟩ := Want.nox w2
    exact ⟨F2, d, d2, z, rel2.sub, Dd.mono e2.ff _ _ h1, h2, e3, fun v3 F3 H3 e4 h3 => k v3 F3 H3 ((e1.trans e2).trans e4) h3⟩
theorem hp_args {P : L2.St → Prop} {r : Expr → Ex} {mg : Str → Option Value} (h : ∀ e, PE X e (tDP P mg (r e))) : ∀ es : List Expr, es.any isStar = false → PA X es (tDAP P mg (argsE r es))
  | [], _ => PA.wk pa_nil fun σ H Q q => by
    obtain ⟨_, r, F, rel, w⟩ := q
    exact w [] F H (Ext.refl rel.sub) .nil
  | e :: es, hs => by
    simp only [List.any_cons, Bool.or_eq_false_iff] at hs
    refine PA.wk (pa_cons (h e) (hp_args h es hs.2) (star_cons hs.1)) fun σ H Q q => ?_
    obtain ⟨p, r, F, rel, w⟩ := q
    refine ⟨p, tD_seq rel w fun d v F1 H1 _ e1 rel1 h1 w1 => ⟨p, tDA_seq rel1 w1 fun ds vs F2 H2 _ e2 rel2 h2 w2 => ?_⟩⟩
    exact w2 (v :: vs) F2 H2 (e1.trans e2) (.cons (Dd.mono e2.ff _ _ h1) h2)
theorem hp_any {P : L2.St → Prop} {r : Expr → Ex} {mg : Str → Option Value} (h : ∀ e, PE X e (tDP P mg (r e))) (es : List Expr) : PA X es (tDAP P mg (args r es)) := by
  unfold args
  split
  · exact ⟨fun pos pins s σ H Q I q => by obtain ⟨_, _, _, _, w⟩ := q; exact w.elim⟩
  · rename_i hs
    exact hp_args h es (by simpa using hs)
theorem hp_tup {P : L2.St → Prop} {r : Expr → Ex} {es : List Expr} {k : Nat} {pos : Pos} {mg : Str → Option Value} (h : ∀ e, PE X e (tDP P mg (r e))) : PE X (.Tuple es k pos) (tDP P mg (cTup (args r es))) := by
  refine PE.wk (pe_tup (hp_any h es)) fun σ H Q q => ?_
  obtain ⟨p, r, F, rel, w⟩ := q
  refine ⟨p, tDA_seq rel w fun ds vs F1 H1 _ e1 rel1 h1 w1 => ?_⟩
  split at w1
  · rename_i hle
    refine ⟨by rw [h1.len]; exact hle, fun p np => ?_⟩
    exact w1 _ _ _ (e1.trans (Ext.new rel1.sub np)) (.tup (Rd.of upd_same) (DdA.mono (same_upd (Same.free rel1.sub np)) _ _ h1))
  · exact w1.elim
theorem hp_lst {P : L2.St → Prop} {r : Expr → Ex} {es : List Expr} {pos : Pos} {mg : Str → Option Value} (h : ∀ e, PE X e (tDP P mg (r e))) : PE X (.List es pos) (tDP P mg (cL (cLst (args r es)))) := by
  refine PE.wk (pe_lst (hp_any h es)) fun σ H Q q => ?_
  obtain ⟨p, r', F, rel, w⟩ := q
  have w : Want mg W0 σ F H ((args r es r').bind fun ds => (if ds.length ≤ SZ then R.ok ds else R.bad).bind fun ds => R.ok (PyData.list ds)) (fun d => ∀ (v : V) (F' H' : Hp), Ext F H F' H' → Dd F' v d → Q v H') := by
    unfold cL cLst at w
    cases q : args r es r' with
    | ok ds => rw [q] at w; exact w
    | exc x => rw [q] at w; exact w
    | bad => rw [q] at w; exact w
  refine ⟨p, tDA_seq rel w fun ds vs F1 H1 _ e1 rel1 h1 w1 => ?_⟩
  by_cases hle : ds.length ≤ SZ
  · rw [if_pos hle] at w1
    refine ⟨by rw [h1.len]; exact hle, fun p np => ?_⟩
    exact w1 _ _ _ (e1.trans (Ext.new rel1.sub np)) (.lst (Rd.of upd_same) (DdA.mono (same_upd (Same.free rel1.sub np)) _ _ h1))
  · rw [if_neg hle] at w1; exact w1.elim
theorem hp_mth {P : L2.St → Prop} (hu : X.A.units + 65 < cLine) {o e : Expr} {m : Str} {op : List PyData → PyData → R PyData} {f g : Ex} {ap cp : Pos} {mg : Str → Option Value} (hm : mthOf m = some op) (hb : isCall0 o = false) (hs : isStar e = false) (hl : (ap.endLine == cp.line) = true)
    (ho : PE X o (tDP P mg f)) (he : PE X e (tDP P mg g)) : PE X (.Call (.Attribute o m ap) [e] [] cp) (tDP P mg (cMth op f g)) := by
  have key : ∀ (K : PySem.W.Frag) (σ : L2.St) (H : Hp) (Q : VK), tDP P mg (cMth op f g) σ H Q → tBM K "list" (rMth op) (tDP P mg f) (tCons (tDP P mg g) tNil) σ H Q := fun K σ H Q q => by
    obtain ⟨p, r, F, rel, w⟩ := q
    refine ⟨p, tD_seq rel w fun d v F1 H1 _ e1 rel1 h1 w1 => ?_⟩
    cases h1 with
    | lst hl a1 =>
      refine ⟨.inl ⟨rfl, _, .inl (Rd.mono rel1.sub hl)⟩, ?_⟩
      refine ⟨p, tD_seq rel1 w1 fun d2 v2 F2 H2 _ e2 rel2 h2 w2 => ?_⟩
      obtain ⟨z, e3, k⟩ := Want.nox w2
      exact ⟨F2, _, v2, d2, z, rfl, rel2.sub, Dd.mono e2.ff _ _ (.lst hl a1), h2, e3, fun v3 F3 H3 e4 h3 => k v3 F3 H3 ((e1.trans e2).trans e4) h3⟩
    | _ => exact w1.elim
  unfold mthOf at hm
  split at hm
  · rename_i hx; subst hx; cases hm
    exact PE.wk (pe_bm PySem.F.plainAttrs_list PySem.F.slot_list_index PySem.F.type_list_index (mt_index hu) ho (pa_cons he pa_nil (star_cons hs)) (base_ok hb) (few1 hs) hl (star_cons hs) rfl) fun _ _ _ q => key _ _ _ _ q
  · split at hm
    · rename_i hx; subst hx; cases hm
      exact PE.wk (pe_bm PySem.F.plainAttrs_list PySem.F.slot_list_count PySem.F.type_list_count mt_count ho (pa_cons he pa_nil (star_cons hs)) (base_ok hb) (few1 hs) hl (star_cons hs) rfl) fun _ _ _ q => key _ _ _ _ q
    · cases hm
/-- isinstance(e, X) of the exception at hand -/
theorem hp_isi {a C : Addr} {oe : Obj} {pn : List (Addr × Obj)} {i : Nat} {n x cl : Str} {b : Bool} {p p1 p2 pos : Pos} (Ft : FitsH (X.suite a ((a, oe) :: pn)) c) (hz : Zc (.ref C) none oe) (hf : ∃ vs, oe.data = .fields vs) (hcl : X.mg cl = some (.ref C)) (hi : c.slot n = some i) (ho : okName n = true) (hfr : c.free "isinstance" = true) (hx : c.isGl x = true) (hox : okName x = true)
    (h : c.T.iss.lookup (cl, x) = some b) : PE (X.suite a ((a, oe) :: pn)) (.Call (.Name "isinstance" p) [.Name n p1, .Name x p2] [] pos) (tDP (fun σ => σ[i]? = some (some (.ref a))) X.mg (cC (.bool b))) := by
  obtain ⟨C', D, e1, e2, _, e3, e4⟩ := (Ft.iss cl x b h).ex
  have e1 : X.mg cl = some (.ref C') := e1
  rw [hcl] at e1
  cases e1
  unfold Cc.free at hfr
  simp only [Bool.and_eq_true] at hfr
  obtain ⟨h1, h2⟩ := Cc.slot_ok hi
  obtain ⟨o1, o2, _⟩ := okName_parts ho
  have hv : PE (X.suite a ((a, oe) :: pn)) (.Name n p1) (tVar i) := pe_var (by rw [Ft.hN]; exact h1) (by rw [Ft.sc]; exact h2) o1 o2
  have hT : PE (X.suite a ((a, oe) :: pn)) (.Name x p2) (tC (.ref D)) := pe_glob (v := .ref D) (Ft.gl hx) e2 rfl (okName_parts hox).1
  refine PE.wk (pe_callB (call_isE e4 hz hf) (Ft.gl hfr.1.1) (Ft.blt _ hfr.1.2) boot_isinstance (pa_cons hv (pa_cons hT pa_nil) rfl) (by decide) (by decide) rfl rfl) fun σ H Q q => ?_
  obtain ⟨hp, r, F, rel, w⟩ := q
  exact ⟨.ref a, hp, .ref D, .ref D, b, rfl, fun u ru => ru, e3, w _ F H (Ext.refl rel.sub) (.bl _)⟩
theorem hot_ok {a C : Addr} {oe : Obj} {pn : List (Addr × Obj)} {i : Nat} {n cl : Str} (Ft : FitsH (X.suite a ((a, oe) :: pn)) c) (hz : Zc (.ref C) none oe) (hf : ∃ vs, oe.data = .fields vs) (hcl : X.mg cl = some (.ref C)) (hi : c.slot n = some i) (ho : okName n = true) :
    ∀ (k : Nat) (e : Expr), PE (X.suite a ((a, oe) :: pn)) e (tDP (fun σ => σ[i]? = some (some (.ref a))) X.mg (hotE c n cl k e)) := by
  intro k
  induction k with
  | zero => intro e; unfold hotE; exact hp_no
  | succ k ih =>
    intro e
    unfold hotE
    split
    · rename_i hk; cases hk
    · exact hp_cst pe_int fun _ => .int _
    · exact hp_cst pe_bl fun _ => .bl _
    · exact hp_cst pe_non fun _ => .non
    · exact hp_cst pe_str fun _ => .str _
    · exact hp_name Ft _ _
    · rename_i f _ y _ x _ _ hk
      split
      · rename_i hok
        simp only [Bool.and_eq_true, beq_iff_eq] at hok
        obtain ⟨⟨⟨⟨hx1, hx2⟩, hx3⟩, hx4⟩, hx5⟩ := hok
        subst hx1 hx3
        split
        · rename_i b eb; exact hp_isi Ft hz hf hcl hi ho hx2 hx4 hx5 eb
        · exact hp_no
      · exact hp_no
    · rename_i hk
      cases hk
      split
      · exact hp_no
      · rename_i hk
        simp only [Bool.not_eq_true, Bool.or_eq_false_iff, Bool.not_eq_false'] at hk
        split
        · rename_i op e; exact hp_mth Ft.un e hk.1.1 hk.1.2 hk.2 (ih _) (ih _)
        · exact hp_no
    · rename_i hk; cases hk; exact hp_add (ih _) (ih _)
    · rename_i hk; cases hk; exact hp_tup ih
    · rename_i hk; cases hk; exact hp_lst ih
    · exact hp_no
/-- the slot of the exception stands apart -/
theorem RelS.hide {F H : Hp} {σ : L2.St} {r : En} (x : RelS F0 H0 F H σ r) (i : Nat) (v : V) : RelS F0 H0 F H (σ.set i (some v)) (r.set i none) := by
  have out : ∀ {j : Nat}, isOwn (r.set i none)[j]? = true → j ≠ i ∧ isOwn r[j]? = true := fun {j} h => by
    by_cases hj : i = j
    · subst hj
      by_cases hl : i < r.length
      · rw [List.getElem?_set_self hl] at h; cases h
      · rw [List.getElem?_eq_none (by simpa using hl)] at h; cases h
    · rw [List.getElem?_set_ne hj] at h
      exact ⟨Ne.symm hj, h⟩
  refine ⟨x.ext, ⟨x.rel.sub, by simp [x.rel.len], fun j s q => ?_, fun j k w hjk h1 h2 o1 o2 => ?_⟩, fun j a h1 o1 => ?_⟩
  · by_cases hj : i = j
    · subst hj
      by_cases hl : i < r.length
      · rw [List.getElem?_set_self hl] at q; cases q
      · rw [List.getElem?_eq_none (by simpa using hl)] at q; cases q
    · rw [List.getElem?_set_ne hj] at q ⊢
      exact x.rel.at_ j s q
  · obtain ⟨n1, o1⟩ := out o1
    obtain ⟨n2, o2⟩ := out o2
    rw [List.getElem?_set_ne (Ne.symm n1)] at h1
    rw [List.getElem?_set_ne (Ne.symm n2)] at h2
    exact x.rel.apart j k w hjk h1 h2 o1 o2
  · obtain ⟨n1, o1⟩ := out o1
    rw [List.getElem?_set_ne (Ne.symm n1)] at h1
    exact x.new j a h1 o1
theorem RelS.gone {F H : Hp} {σ : L2.St} {r : En} (x : RelS F0 H0 F H σ r) (i : Nat) : RelS F0 H0 F H (σ.set i none) (r.set i none) := by
  refine ⟨x.ext, x.rel.none i, fun j a h1 o1 => ?_⟩
  have nj : j ≠ i := fun e => by
    subst e
    by_cases hl : j < r.length
    · rw [List.getElem?_set_self hl] at o1; cases o1
    · rw [List.getElem?_eq_none (by simpa using hl)] at o1; cases o1
  rw [List.getElem?_set_ne (Ne.symm nj)] at h1 o1
  exact x.new j a h1 o1
/-! ### lists that grow -/
theorem RelS.growA {F H : Hp} {σ : L2.St} {r : En} {i : Nat} {a : Addr} {u : HO} {s1 : Sl} (x : RelS F0 H0 F H σ r) (hi : i < r.length) (oi : isOwn r[i]? = true) (e1 : σ[i]? = some (some (.ref a))) (n1 : F a = none) (hs : SlOk F (upd H a u) (.ref a) s1) :
    RelS F0 H0 F (upd H a u) σ (r.set i (some s1)) := by
  have n0 := x.new i a e1 oi
  have sub : Same F (upd H a u) := fun b o eb => by
    have : b ≠ a := ne_of_none eb n1
    rw [upd_ne this]; exact x.rel.sub _ _ eb
  have own_of : ∀ {j : Nat}, isOwn (r.set i (some s1))[j]? = true → isOwn r[j]? = true := fun {j} h => by
    by_cases hj : i = j
    · subst hj; exact oi
    · rw [List.getElem?_set_ne hj] at h; exact h
  refine ⟨⟨x.ext.ff, fun b o eb => ?_, sub, x.ext.out⟩, ⟨sub, by simp [x.rel.len], fun j s q => ?_, fun j k w hjk g1 g2 o1 o2 => x.rel.apart j k w hjk g1 g2 (own_of o1) (own_of o2)⟩, fun j b g1 o1 => x.new j b g1 (own_of o1)⟩
  · have : b ≠ a := ne_of_none eb n0
    rw [upd_ne this]; exact x.ext.hh _ _ eb
  · by_cases hj : i = j
    · subst hj
      rw [List.getElem?_set_self hi] at q
      have : s1 = s := by simpa using q
      subst this
      exact ⟨_, e1, hs⟩
    · rw [List.getElem?_set_ne hj] at q
      obtain ⟨w, g1, g2⟩ := x.rel.at_ j s q
      refine ⟨w, g1, ?_⟩
      cases s with
      | dat d => exact g2
      | own fs =>
        obtain ⟨b, ws, rfl, m1, m2, m3⟩ := g2
        have hba : b ≠ a := fun z => by
          subst z
          exact x.rel.apart i j _ hj e1 g1 oi (by rw [q]; rfl)
        exact ⟨b, ws, rfl, m1, by rw [upd_ne hba]; exact m2, m3⟩
      | dct ks =>
        obtain ⟨b, rfl, m1, m2⟩ := g2
        have hba : b ≠ a := fun z => by
          subst z
          exact x.rel.apart i j _ hj e1 g1 oi (by rw [q]; rfl)
        exact ⟨b, rfl, m1, by rw [upd_ne hba]; exact m2⟩
      | dfz ks => exact g2
theorem RelS.grow {F H : Hp} {σ : L2.St} {r : En} {i : Nat} {a : Addr} {us : List V} {es : List PyData} {ds : List PyData} (x : RelS F0 H0 F H σ r) (e : r[i]? = some (some (.own ds))) (e1 : σ[i]? = some (some (.ref a))) (n1 : F a = none) (hd : DdA F us es) :
    RelS F0 H0 F (upd H a (.lst us)) σ (r.set i (some (.own es))) :=
  x.growA (List.getElem?_eq_some_iff.mp e).1 (by rw [e]; rfl) e1 n1 ⟨a, us, rfl, n1, upd_same, hd⟩
theorem RelS.growD {F H : Hp} {σ : L2.St} {r : En} {i : Nat} {a : Addr} {ks ls : List Int} (x : RelS F0 H0 F H σ r) (e : r[i]? = some (some (.dct ks))) (e1 : σ[i]? = some (some (.ref a))) (n1 : F a = none) :
    RelS F0 H0 F (upd H a (dkO ls)) σ (r.set i (some (.dct ls))) :=
  x.growA (List.getElem?_eq_some_iff.mp e).1 (by rw [e]; rfl) e1 n1 ⟨a, rfl, n1, upd_same⟩
theorem few_ok {e : Expr} {cp : Pos} {env : Env} (h : isStar e = false) : ((backTo cp (starEach [e] env)).all (fun x => !x.1) && (backToKw cp (keywordEach [] env)).all (fun x => x.1.isSome) && decide ([e].length + ([] : List Keyword).length + (if ([] : List Keyword).isEmpty then 0 else 1) < 30)) = true := by
  rw [star_cons h]; rfl
theorem ps_app (Ft : Fits X c W lv) {x : Str} {i : Nat} {e : Expr} {f : Ex} {p ap cp pos : Pos} (ho : okName x = true) (hi : c.slot x = some i) (hs : isStar e = false) (hl : (ap.endLine == cp.line) = true) (h : PE X e (tD X.mg W f)) :
    PS X (.Expr (.Call (.Attribute (.Name x p) "append" ap) [e] [] cp) pos) (tDS X.mg W F0 H0 (sApp i f)) := by
  refine PS.wk (ps_expr (pe_bm PySem.F.plainAttrs_list PySem.F.slot_list_append PySem.F.type_list_append mt_append (pd_slot Ft ho hi) (pa_cons h pa_nil (star_cons hs)) rfl (few_ok hs) hl (star_cons hs) rfl) rfl) fun D σ H q => ?_
  obtain ⟨r, F, y, w⟩ := q
  unfold sApp at w
  split at w
  · rename_i ds e1
    obtain ⟨v, e2, a, vs, rfl, n1, h1, dd⟩ := y.rel.at_ i _ e1
    refine ⟨_, e2, .inl ⟨rfl, _, SqL.of h1⟩, ?_⟩
    refine tDS_seq y w fun d v F1 H1 _ ex y1 hd w1 => ?_
    split at w1
    · rename_i hlt
      have h2 := ex.hh _ _ h1
      have n2 := ex.out a (by rw [h1]; simp) n1
      refine ⟨a, vs, v, rfl, rfl, h2, by rw [dd.len]; exact hlt, ?_⟩
      exact w1 σ F1 _ (Same.refl _) (y1.grow e1 e2 n2 ((DdA.mono ex.ff _ _ dd).app (DdA.one hd)))
    · exact w1.elim
  · exact w.elim
theorem mt_ext : MtM X "list.extend" (fun x vs H Q => ∃ l b xs zs, x = .ref l ∧ vs = [.ref b] ∧ H l = some (.lst xs) ∧ Rd H b (.lst zs) ∧ xs.length + zs.length ≤ sizeLine ∧ Q .non (upd H l (.lst (xs ++ zs)))) := by
  intro pins s σ H x vs v us Q I rx rv h
  obtain ⟨l, b, xs, zs, rfl, rfl, hH, hB, hz, q⟩ := h
  cases rx
  obtain ⟨u, rfl, ru⟩ := rv.one
  cases ru
  exact ext_rd I hH hB hz q
theorem ps_ext (Ft : Fits X c W lv) {x : Str} {i : Nat} {e : Expr} {f : Ex} {p ap cp pos : Pos} (ho : okName x = true) (hi : c.slot x = some i) (hs : isStar e = false) (hl : (ap.endLine == cp.line) = true) (h : PE X e (tD X.mg W f)) :
    PS X (.Expr (.Call (.Attribute (.Name x p) "extend" ap) [e] [] cp) pos) (tDS X.mg W F0 H0 (sExt i f)) := by
  refine PS.wk (ps_expr (pe_bm PySem.F.plainAttrs_list PySem.F.slot_list_extend PySem.F.type_list_extend mt_ext (pd_slot Ft ho hi) (pa_cons h pa_nil (star_cons hs)) rfl (few_ok hs) hl (star_cons hs) rfl) rfl) fun D σ H q => ?_
  obtain ⟨r, F, y, w⟩ := q
  unfold sExt at w
  split at w
  · rename_i ds e1
    obtain ⟨v, e2, a, vs, rfl, n1, h1, dd⟩ := y.rel.at_ i _ e1
    refine ⟨_, e2, .inl ⟨rfl, _, SqL.of h1⟩, ?_⟩
    refine tDS_seq y w fun d v F1 H1 _ ex y1 hd w1 => ?_
    cases hd with
    | lst r1 a1 =>
      rename_i b zs es _
      have w1 : WantS X.mg W F0 H0 F1 (if ds.length + es.length ≤ SZ then .ok .nx (r.set i (some (.own (ds ++ es)))) else .bad) D := w1
      split at w1
      · rename_i hlt
        have h2 := ex.hh _ _ h1
        have n2 := ex.out a (by rw [h1]; simp) n1
        refine ⟨a, b, vs, zs, rfl, rfl, h2, Rd.mono ex.sub r1, by rw [dd.len, a1.len]; exact hlt, ?_⟩
        exact w1 σ F1 _ (Same.refl _) (y1.grow e1 e2 n2 ((DdA.mono ex.ff _ _ dd).app a1))
      · exact w1.elim
    | _ => exact w1.elim
  · exact w.elim
end
end Rt
/-! Rt, part B8: assignments, all statements, a def's promise. -/
namespace Rt
open PySem PySem.Spec PyProof.Rows L2
section
variable {X : Cx} {c : Cc} {W : WX} {lv : Nat} {F0 H0 : Hp}
/-! ### what a store asks of the text -/
theorem purely_eq {α : Type} {t : Sem α} {a : α} (h : purely t = some a) : t = pure a := by
  cases t <;> first | (simp only [purely, Option.some.injEq] at h; subst h; rfl) | (simp [purely] at h)
theorem swaps_env (e : Expr) (t : Option Expr) (l : Nat) (env : Env) : swapsWith e t l env = swapsWith e t l (envOf env.scope) := rfl
theorem swapped_env (ts : List Expr) (v : Expr) (env : Env) : swappedStores ts v env = swappedStores ts v (envOf env.scope) := rfl
/-! ### values that are stored -/
theorem t_dat {f : Ex} {mg : Str → Option Value} {σ : L2.St} {H : Hp} {Q : VK} (q : tDX mg W (xD f) σ H Q) : tD mg W f σ H Q := by
  obtain ⟨r, F, rel, w⟩ := q
  refine ⟨r, F, rel, ?_⟩
  unfold xD at w
  cases q : f r with
  | ok d => rw [q] at w; exact fun v F' H' e hd => w v F' H' e hd
  | exc x => rw [q] at w; exact w
  | bad => rw [q] at w; exact w
theorem px_dat {e : Expr} {f : Ex} {mg : Str → Option Value} (h : PE X e (tD mg W f)) : PE X e (tDX mg W (xD f)) := PE.wk h fun _ _ _ q => t_dat q
theorem t_own {f : Exl} {mg : Str → Option Value} {σ : L2.St} {H : Hp} {Q : VK} (q : tDX mg W (xO f) σ H Q) : tDL mg W f σ H Q := by
  obtain ⟨r, F, rel, w⟩ := q
  refine ⟨r, F, rel, ?_⟩
  unfold xO at w
  cases q : f r with
  | ok d => rw [q] at w; exact fun a vs F' H' e n1 n2 h2 dd => w _ F' H' e ⟨a, vs, rfl, n1, n2, h2, dd⟩
  | exc x => rw [q] at w; exact w
  | bad => rw [q] at w; exact w
theorem px_own {e : Expr} {f : Exl} {mg : Str → Option Value} (h : PE X e (tDL mg W f)) : PE X e (tDX mg W (xO f)) := PE.wk h fun _ _ _ q => t_own q
theorem pl_mul {a b : Expr} {f : Exl} {g : Ex} {pos : Pos} (ha : PE X a (tDL X.mg W f)) (hb : PE X b (tD X.mg W g)) : PE X (.BinOp a .Mult b pos) (tDL X.mg W (cMulL f g)) := by
  refine PE.wk (pe_op op_rep ha hb) fun σ H Q q => ?_
  obtain ⟨r, F, rel, w⟩ := q
  refine ⟨r, F, rel, ?_⟩
  unfold cMulL at w
  cases q : f r with
  | exc x => rw [q] at w; exact w
  | bad => rw [q] at w; exact w
  | ok ds =>
    rw [q] at w
    intro a vs F1 H1 e1 n1 n2 h1 dd
    have w1 := Want.at e1 w
    refine tD_seq (rel.ext e1) w1 fun d v F2 H2 _ e2 rel2 hd w2 => ?_
    cases hd with
    | int k =>
      have w2 : Want X.mg W σ F2 H2 (if decide (0 ≤ k) && decide (k ≤ 1000) && decide (ds.length ≤ 1000) then .ok (List.replicate k.toNat ds).flatten else .bad) _ := w2
      split at w2
      · rename_i hb
        simp only [Bool.and_eq_true, decide_eq_true_eq] at hb
        have hl := dd.len
        refine ⟨a, k, vs, rfl, rfl, e2.hh _ _ h1, by omega, by omega, ?_, fun p np => ?_⟩
        · have h3 : vs.length * k.toNat ≤ 1000 * 1000 := Nat.mul_le_mul (by omega) (by omega)
          have h4 : (1000 * 1000 : Nat) ≤ sizeLine := by decide
          omega
        · have np1 : H1 p = none := Same.free e2.hh np
          exact w2 p _ F2 _ ((e1.trans e2).trans (Ext.newO rel2.sub np)) (Same.free e1.hh np1) (Same.free rel2.sub np) upd_same ((DdA.mono e2.ff _ _ dd).rep k.toNat)
      · exact w2.elim
    | _ => exact w2.elim
theorem px_dct {pos : Pos} : PE X (.Dict [] [] pos) (tDX X.mg W xK) := PE.wk pe_dnewK fun σ H Q q => by
  obtain ⟨r, F, rel, w⟩ := q
  intro p np
  exact w _ F _ (Ext.newO rel.sub np) ⟨p, rfl, np, Same.free rel.sub np, upd_same⟩
theorem putK_dk (ks : List Int) (n : Int) : putK (ks.map fun k => ((Sum.inl k : Key), V.bl true)) (Sum.inl n) (V.bl true) = (putI ks n).map fun k => ((Sum.inl k : Key), V.bl true) := by
  have e : (ks.map fun k => ((Sum.inl k : Key), V.bl true)).any (fun kv => decide (kv.1 = Sum.inl n)) = ks.contains n := by
    rw [valV_any, valV_dk]
  unfold putK putI
  rw [e]
  cases h : ks.contains n with
  | false => simp
  | true =>
    rw [if_pos rfl, if_pos rfl, List.map_map]
    refine List.map_congr_left fun k _ => ?_
    show (if (Sum.inl k : Key) = Sum.inl n then _ else _) = _
    split <;> rfl
theorem px_val (Ft : Fits X c W lv) {r : Cc → Expr → Ex} (h : ∀ X c W lv, Fits X c W lv → ∀ e, Both X W e (r c e)) (i : Nat) (e : Expr) : PE X e (tDX X.mg W (valX c r i e)) := by
  have hp : ∀ e, PE X e (tD X.mg W (r c e)) := fun e => (h X c W lv Ft e).1
  unfold valX
  split
  · split
    · exact px_own (pl_lst hp)
    · exact px_own (pl_mul (pl_lst hp) (hp _))
    · split
      · rename_i f e
        exact px_own (comp_ok Ft hp (fun scope X' Ft' => h X' _ _ _ Ft') e)
      · exact px_dat PE.no
    · split
      · exact px_dct
      · exact px_dat PE.no
    · split
      · rename_i hk
        simp only [Bool.and_eq_true, Bool.not_eq_true'] at hk
        split
        · rename_i n g ef
          exact px_own (pl_call Ft hk.1.1 hk.1.2 ef hk.2 hp)
        · exact px_dat (hp _)
      · exact px_dat (hp _)
    · exact px_dat (hp _)
  · exact px_dat (hp _)
theorem put_ok {F : Hp} {r : En} {D : Ends} {mg : Str → Option Value} {i : Nat} {s : Sl} {k : En → RS} (w : WantS mg W F0 H0 F (put i s r k) D) : i < r.length ∧ WantS mg W F0 H0 F (k (r.set i (some s))) D := by
  unfold put at w
  split at w
  · rename_i hi; exact ⟨hi, w⟩
  · exact w.elim
/-- one name -/
theorem t_set {x : Exo} {i : Nat} {mg : Str → Option Value} {D : Ends} {σ : L2.St} {H : Hp} (q : tDS mg W F0 H0 (sSet i x) D σ H) : tAsg (tDX mg W x) (gName i) D σ H := by
  obtain ⟨r, F, y, w⟩ := q
  refine tDX_seq y w fun s v F1 H1 _ e1 y1 hs w1 => ?_
  obtain ⟨hi, w2⟩ := put_ok w1
  exact w2 _ F1 H1 (Same.refl _) (y.store e1 hs hi)
/-- two, three names -/
theorem t_par {x y : Exo} {i j : Nat} {mg : Str → Option Value} {D : Ends} {σ : L2.St} {H : Hp} {Q : List V → Hp → Prop} (hij : i ≠ j) (hQ : ∀ v w H1, (∀ H2, Ext H1 H1 H1 H2 → (∀ F1, Same F1 H1 → Same F1 H2) → D.nx ((σ.set i (some v)).set j (some w)) H2) → Q [v, w] H1) (q : tDS mg W F0 H0 (sPar i j x y) D σ H) :
    (tCons (tDX mg W x) (tCons (tDX mg W y) tNil)) σ H Q := by
  obtain ⟨r, F, z, w⟩ := q
  refine tDX_seq z w fun s v F1 H1 _ e1 z1 hs w1 => ?_
  refine tDX_seq z1 w1 fun t u F2 H2 _ e2 z2 ht w2 => ?_
  refine hQ v u H2 fun H3 e3 s3 => ?_
  obtain ⟨hi, w3⟩ := put_ok w2
  obtain ⟨hj, w4⟩ := put_ok w3
  have e4 : Ext F2 H2 F2 H3 := ⟨Same.refl _, e3.hh, s3 _ z2.rel.sub, fun _ _ n => n⟩
  have za := z.store (i := i) ((e1.trans e2).trans e4) ((hs.at e2).at e4) hi
  refine w4 _ F2 H3 (Same.refl _) ?_
  refine za.put (H' := H1) hj ?_ (fun ho => ?_) fun k a g1 o1 => ?_
  · have ht := ht.at e4
    cases t with
    | dat d => exact ht
    | own ds =>
      obtain ⟨a, vs, rfl, _, n2, h2, dd⟩ := ht
      exact ⟨a, vs, rfl, n2, h2, dd⟩
    | dct ks =>
      obtain ⟨a, rfl, _, n2, h2⟩ := ht
      exact ⟨a, rfl, n2, h2⟩
    | dfz ks => exact ht.elim
  · cases t with
    | dat d => cases ho
    | own ds =>
      obtain ⟨a, vs, rfl, n1, _, _, _⟩ := ht
      exact ⟨a, rfl, Same.free z1.ext.hh n1, n1⟩
    | dct ks =>
      obtain ⟨a, rfl, n1, _, _⟩ := ht
      exact ⟨a, rfl, Same.free z1.ext.hh n1, n1⟩
    | dfz ks => exact ht.elim
  · by_cases hk : i = k
    · subst hk
      rw [List.getElem?_set_self (by rw [← z.rel.len]; exact hi)] at g1
      rw [List.getElem?_set_self hi] at o1
      have ev : v = .ref a := by simpa using g1
      subst ev
      cases s with
      | dat d => cases o1
      | own ds =>
        obtain ⟨b, vs, e5, _, _, h2, _⟩ := hs
        cases e5
        rw [h2]; simp
      | dct ks =>
        obtain ⟨b, e5, _, _, h2⟩ := hs
        cases e5
        rw [h2]; simp
      | dfz ks => exact hs.elim
    · rw [List.getElem?_set_ne hk] at g1 o1
      exact (z1.held g1 o1).1
theorem t_par3 {x y u : Exo} {i j k : Nat} {mg : Str → Option Value} {D : Ends} {σ : L2.St} {H : Hp} (hij : i ≠ j) (hik : i ≠ k) (hjk : j ≠ k) {Q : List V → Hp → Prop} (hQ : ∀ v w z H1, (∀ H2, Ext H1 H1 H1 H2 → (∀ F1, Same F1 H1 → Same F1 H2) → D.nx (((σ.set i (some v)).set j (some w)).set k (some z)) H2) → Q [v, w, z] H1) (q : tDS mg W F0 H0 (sPar3 i j k x y u) D σ H) :
    (tCons (tDX mg W x) (tCons (tDX mg W y) (tCons (tDX mg W u) tNil))) σ H Q := by
  obtain ⟨r, F, z, w⟩ := q
  refine tDX_seq z w fun s v F1 H1 _ e1 z1 hs w1 => ?_
  refine tDX_seq z1 w1 fun t b F2 H2 _ e2 z2 ht w2 => ?_
  refine tDX_seq z2 w2 fun m g F3 H3 _ e3 z3 hm w3 => ?_
  refine hQ v b g H3 fun H4 e4' s4 => ?_
  obtain ⟨hi, w4⟩ := put_ok w3
  obtain ⟨hj, w5⟩ := put_ok w4
  obtain ⟨hk, w6⟩ := put_ok w5
  have e4 : Ext F3 H3 F3 H4 := ⟨Same.refl _, e4'.hh, s4 _ z3.rel.sub, fun _ _ n => n⟩
  have okOf : ∀ {Hx : Hp} {v : V} {s : Sl}, SlNew Hx F3 H4 v s → SlOk F3 H4 v s := fun {Hx v s} q => by
    cases s with
    | dat d => exact q
    | own ds =>
      obtain ⟨a, vs, rfl, _, n2, h2, dd⟩ := q
      exact ⟨a, vs, rfl, n2, h2, dd⟩
    | dct ks =>
      obtain ⟨a, rfl, _, n2, h2⟩ := q
      exact ⟨a, rfl, n2, h2⟩
    | dfz ks => exact q.elim
  have ownOf : ∀ {Hx Fx Hy : Hp} {v : V} {s : Sl}, Same H0 Hx → SlNew Hx Fx Hy v s → isOwn (some (some s)) = true → ∃ a, v = .ref a ∧ H0 a = none ∧ Hx a = none := fun {Hx Fx Hy v s} sm q ho => by
    cases s with
    | dat d => cases ho
    | own ds =>
      obtain ⟨a, vs, rfl, n1, _, _, _⟩ := q
      exact ⟨a, rfl, Same.free sm n1, n1⟩
    | dct ks =>
      obtain ⟨a, rfl, n1, _, _⟩ := q
      exact ⟨a, rfl, Same.free sm n1, n1⟩
    | dfz ks => exact q.elim
  have held : ∀ {Hx Fx Hy : Hp} {v : V} {s : Sl} {a : Addr}, SlNew Hx Fx Hy v s → isOwn (some (some s)) = true → v = .ref a → Hy a ≠ none := fun {Hx Fx Hy v s a} q ho ev => by
    cases s with
    | dat d => cases ho
    | own ds =>
      obtain ⟨b, vs, e5, _, _, h2, _⟩ := q
      rw [ev] at e5; cases e5
      rw [h2]; simp
    | dct ks =>
      obtain ⟨b, e5, _, _, h2⟩ := q
      rw [ev] at e5; cases e5
      rw [h2]; simp
    | dfz ks => exact q.elim
  have za := z.store (i := i) (((e1.trans e2).trans e3).trans e4) (((hs.at e2).at e3).at e4) hi
  have ll : σ.length = r.length := z.rel.len.symm
  have zb : RelS F0 H0 F3 H4 ((σ.set i (some v)).set j (some b)) ((r.set i (some s)).set j (some t)) := by
    refine za.put (H' := H1) hj (okOf ((ht.at e3).at e4)) (ownOf z1.ext.hh ht) fun n a g1 o1 => ?_
    by_cases hn : i = n
    · subst hn
      rw [List.getElem?_set_self (by rw [ll]; exact hi)] at g1
      rw [List.getElem?_set_self hi] at o1
      exact held hs o1 (by simpa using g1)
    · rw [List.getElem?_set_ne hn] at g1 o1
      exact (z1.held g1 o1).1
  refine w6 _ F3 H4 (Same.refl _) ?_
  refine zb.put (H' := H2) hk (okOf (hm.at e4)) (ownOf z2.ext.hh hm) fun n a g1 o1 => ?_
  by_cases hn2 : j = n
  · subst hn2
    rw [List.getElem?_set_self (by rw [List.length_set, ll]; simpa using hj)] at g1
    rw [List.getElem?_set_self hj] at o1
    exact held ht o1 (by simpa using g1)
  · rw [List.getElem?_set_ne hn2] at g1 o1
    by_cases hn : i = n
    · subst hn
      rw [List.getElem?_set_self (by rw [ll]; exact hi)] at g1
      rw [List.getElem?_set_self hi] at o1
      exact held (hs.at e2) o1 (by simpa using g1)
    · rw [List.getElem?_set_ne hn] at g1 o1
      exact (z2.held g1 o1).1
theorem same_in {H1 : Hp} {p : Addr} {o : HO} (np : H1 p = none) : Ext H1 H1 H1 (upd H1 p o) ∧ ∀ F1, Same F1 H1 → Same F1 (upd H1 p o) :=
  ⟨⟨Same.refl _, same_upd np, same_upd np, fun _ _ n => n⟩, fun F1 s => s.trans (same_upd np)⟩
theorem same_id (H1 : Hp) : Ext H1 H1 H1 H1 ∧ ∀ F1, Same F1 H1 → Same F1 H1 := ⟨Ext.refl (Same.refl _), fun _ s => s⟩
theorem asg_ok (Ft : Fits X c W lv) {r : Cc → Expr → Ex} (h : ∀ X c W lv, Fits X c W lv → ∀ e, Both X W e (r c e)) (tg e : Expr) (pos : Pos) : PS X (.Assign [tg] e pos) (tDS X.mg W F0 H0 (asgE c r tg e pos)) := by
  have hp : ∀ e, PE X e (tD X.mg W (r c e)) := fun e => (h X c W lv Ft e).1
  have sw : ∀ (e : Expr) (t : Option Expr) (l : Nat), swapsWith e t l X.env = swapsWith e t l (envOf c.sc) := fun e t l => by rw [swaps_env, Ft.sc]
  have st : ∀ (ts : List Expr) (v : Expr), swappedStores ts v X.env = swappedStores ts v (envOf c.sc) := fun ts v => by rw [swapped_env, Ft.sc]
  have nd : X.N.Nodup := by rw [Ft.hN]; exact Ft.nd
  unfold asgE
  split
  · -- a name
    rename_i x p
    split
    · split
      · rename_i i ei
        obtain ⟨hN, hk⟩ := Cc.slotW_ok ei
        split
        · rename_i es
          have es := purely_eq es
          refine PS.pre _ (PS.wk (ps_set (i := i) nd (by rw [Ft.hN]; exact hN) ?_ (px_val Ft h i e) (by rw [sw]; exact es) ?_) fun _ _ _ q => t_set q)
          · rw [Ft.sc]
            rcases hk with e | ⟨e, _⟩
            · exact .inl e
            · exact .inr e
          · rcases hk with e | ⟨e, ht⟩
            · exact .inr (by rw [Ft.sc]; exact e)
            · exact .inl (Ft.top x ht)
        · rename_i es
          have es := purely_eq es
          split
          · rename_i f hf
            split
            · rename_i hl
              refine PS.pre _ ?_
              have body : PS X (.Assign [.Name x p] e pos) (tAsg (tDL X.mg W f) (gName i)) := by
                unfold compE at hf
                split at hf
                · split at hf
                  · rename_i hb
                    simp only [Bool.and_eq_true] at hb
                    split at hf
                    · rename_i t et
                      have := Option.some.inj hf
                      subst this
                      exact ps_comp Ft hp (fun X' Ft' => h X' _ _ _ Ft') et hb.1 hb.2 hN hl (by rw [sw]; exact es)
                    · cases hf
                  · cases hf
                · split at hf
                  · rename_i hb
                    simp only [Bool.and_eq_true, Bool.not_eq_true'] at hb
                    split at hf
                    · rename_i t t1 et et1
                      have := Option.some.inj hf
                      subst this
                      exact ps_comp2 Ft hp (fun X' Ft' => h X' _ _ _ Ft') et et1 hb.1.1.1.1 hb.1.1.1.2 hb.1.1.2 hb.1.2 hb.2 hN hl (by rw [sw]; exact es)
                    · cases hf
                  · cases hf
                · cases hf
              refine PS.wk body fun D σ H q => ?_
              have q := t_set q
              split at q
              · exact t_own q
              · exact t_ofL (t_dat q)
            · exact PS.no
          · exact PS.no
        · exact PS.no
      · exact PS.no
    · exact PS.no
  · -- two names
    rename_i x px y py kt pt a b kv pv
    split
    · rename_i hok
      simp only [Bool.and_eq_true, Bool.not_eq_true'] at hok
      split
      · rename_i i j ei ej
        obtain ⟨hN, hk⟩ := Cc.slotW_ok ei
        obtain ⟨hN2, hk2⟩ := Cc.slotW_ok ej
        split
        · exact PS.no
        · rename_i hij
          have pa : PA X [a, b] (tCons (tDX X.mg W (valX c r i a)) (tCons (tDX X.mg W (valX c r j b)) tNil)) := pa_cons (px_val Ft h i a) (pa_cons (px_val Ft h j b) pa_nil (star_cons hok.2)) (star_cons hok.1.2)
          split
          · rename_i ns en
            have en := purely_eq en
            split
            · rename_i hns
              obtain ⟨hns, l1, l2⟩ := hns
              subst hns
              refine PS.pre _ (PS.wk (ps_par Ft.calm nd (by rw [Ft.hN]; exact hN) (by rw [Ft.hN]; exact hN2) hij (by rw [Ft.sc]; exact l1) (by rw [Ft.sc]; exact l2) pa (by rw [st]; exact en) rfl) fun D σ H q => ?_)
              exact t_par hij (fun v w H1 k => ⟨v, w, rfl, k H1 (same_id H1).1 (same_id H1).2⟩) q
            · exact PS.no
          · rename_i en
            have en := purely_eq en
            refine PS.pre _ (PS.wk (ps_asg (pe_tup pa) (pg_tup Ft.calm (pgs_cons (pg_slot Ft ei) (pgs_cons (pg_slot Ft ej) pgs_nil))) rfl (by rw [st]; exact en) rfl) fun D σ H q => ?_)
            unfold tAsg tTup
            refine t_par hij (fun v w H1 k => ⟨(by decide : 2 ≤ sizeLine), fun p np => ?_⟩) q
            exact ⟨p, [v, w], rfl, .inl (Rd.of upd_same), rfl, v, [w], rfl, w, [], rfl, rfl, k _ (same_in np).1 (same_in np).2⟩
          · exact PS.no
      · exact PS.no
    · exact PS.no
  · -- three names
    rename_i x px y py z pz kt pt a b d kv pv
    split
    · rename_i hok
      simp only [Bool.and_eq_true, Bool.not_eq_true'] at hok
      split
      · rename_i i j l ei ej el
        obtain ⟨hN, hk⟩ := Cc.slotW_ok ei
        obtain ⟨hN2, hk2⟩ := Cc.slotW_ok ej
        obtain ⟨hN3, hk3⟩ := Cc.slotW_ok el
        split
        · exact PS.no
        · rename_i hij
          simp only [not_or] at hij
          have pa : PA X [a, b, d] (tCons (tDX X.mg W (valX c r i a)) (tCons (tDX X.mg W (valX c r j b)) (tCons (tDX X.mg W (valX c r l d)) tNil))) := pa_cons (px_val Ft h i a) (pa_cons (px_val Ft h j b) (pa_cons (px_val Ft h l d) pa_nil (star_cons hok.2)) (star_cons hok.1.2)) (star_cons hok.1.1.2)
          split
          · rename_i ns en
            have en := purely_eq en
            split
            · rename_i hns
              obtain ⟨hns, l1, l2, l3⟩ := hns
              subst hns
              refine PS.pre _ (PS.wk (ps_par3 Ft.calm nd (by rw [Ft.hN]; exact hN) (by rw [Ft.hN]; exact hN2) (by rw [Ft.hN]; exact hN3) hij.1 hij.2.1 hij.2.2 (by rw [Ft.sc]; exact l1) (by rw [Ft.sc]; exact l2) (by rw [Ft.sc]; exact l3) pa (by rw [st]; exact en) rfl) fun D σ H q => ?_)
              exact t_par3 hij.1 hij.2.1 hij.2.2 (fun v w u H1 k => ⟨v, w, u, rfl, k H1 (same_id H1).1 (same_id H1).2⟩) q
            · exact PS.no
          · rename_i en
            have en := purely_eq en
            refine PS.pre _ (PS.wk (ps_asg (pe_tup pa) (pg_tup Ft.calm (pgs_cons (pg_slot Ft ei) (pgs_cons (pg_slot Ft ej) (pgs_cons (pg_slot Ft el) pgs_nil)))) rfl (by rw [st]; exact en) rfl) fun D σ H q => ?_)
            unfold tAsg tTup
            refine t_par3 hij.1 hij.2.1 hij.2.2 (fun v w u H1 k => ⟨(by decide : 3 ≤ sizeLine), fun p np => ?_⟩) q
            exact ⟨p, [v, w, u], rfl, .inl (Rd.of upd_same), rfl, v, [w, u], rfl, w, [u], rfl, u, [], rfl, rfl, k _ (same_in np).1 (same_in np).2⟩
          · exact PS.no
      · exact PS.no
    · exact PS.no
  · -- an item
    rename_i x px k pk
    split
    · exact PS.no
    · rename_i hsl
      split
      · exact PS.no
      · rename_i hcomp
        split
        · rename_i ho
          split
          · rename_i i ei
            have hw : swapsWith e (some (.Subscript (.Name x px) k pk)) pos.line X.env = pure false := by cases e <;> first | rfl | exact absurd rfl hcomp
            have pl := ps_asg (pos := pos) (hp e) (pg_sub (pos := pk) (pd_slot Ft (pos := px) ho ei) (hp k) set_list (fun v => by cases k <;> first | rfl | exact absurd rfl (hsl _ _ _ _))) hw rfl rfl
            have pd := ps_dput (pos := pos) (pos' := pk) (by have := Ft.un; omega) (pd_slot Ft (pos := px) ho ei) (hp k) (hp e) hw
            refine PS.pre _ ⟨fun pins s σ H D I q => ?_⟩
            · obtain ⟨r1, F, y, w⟩ := q
              unfold sPut at w
              split at w
              · rename_i ds e1
                refine pl.run pins s σ H D I ?_
                obtain ⟨v, e2, a, vs, rfl, n1, h1, dd⟩ := y.rel.at_ i _ e1
                refine tDS_seq y w fun d v F1 H1 _ ex1 y1 hd w1 => ?_
                refine ⟨_, e2, ?_⟩
                refine tDS_seq y1 w1 fun n nv F2 H2 _ ex2 y2 hn w2 => ?_
                cases hn with
                | int z =>
                  have w2 : WantS X.mg W F0 H0 F2 (if 0 ≤ z ∧ z.toNat < ds.length then .ok .nx (r1.set i (some (.own (ds.set z.toNat d)))) else .bad) D := w2
                  split at w2
                  · rename_i hz
                    have h2 := ex2.hh _ _ (ex1.hh _ _ h1)
                    have n2 := (ex1.trans ex2).out a (by rw [h1]; simp) n1
                    refine ⟨a, vs, z, z.toNat, rfl, rfl, h2, ?_, ?_⟩
                    · unfold ixN
                      rw [if_pos hz.1, if_pos (by rw [dd.len]; omega)]
                    · exact w2 σ F2 _ (Same.refl _) (y2.grow e1 e2 n2 (DdA.set (Dd.mono ex2.ff _ _ hd) z.toNat (DdA.mono (ex1.trans ex2).ff _ _ dd)))
                  · exact w2.elim
                | _ => exact w2.elim
              · rename_i ks e1
                refine pd.run pins s σ H D I ?_
                obtain ⟨v, e2, a, rfl, n1, h1⟩ := y.rel.at_ i _ e1
                refine tDS_seq y w fun d v F1 H1 _ ex1 y1 hd w1 => ?_
                refine ⟨_, e2, ?_⟩
                refine tDS_seq y1 w1 fun n nv F2 H2 hfr ex2 y2 hn w2 => ?_
                clear hfr
                split at w2
                · split at w2
                  · rename_i hz
                    cases hd
                    cases hn
                    have h2 := ex2.hh _ _ (ex1.hh _ _ h1)
                    have n2 := (ex1.trans ex2).out a (by rw [h1]; simp) n1
                    refine ⟨a, _, rfl, .inl ⟨_, .inl _, h2, rfl, by rw [List.length_map]; exact hz, rfl⟩, ?_⟩
                    rw [putK_dk]
                    exact w2 σ F2 _ (Same.refl _) (y2.growD e1 e2 n2)
                  · exact w2.elim
                · exact w2.elim
              · exact w.elim
          · exact PS.no
        · exact PS.no
  · -- a tuple of targets
    rename_i ts kt pt _ _
    split
    · rename_i en
      have en := purely_eq en
      split
      · exact PS.no
      · rename_i hcomp
        refine PS.pre _ (PS.wk (ps_asg (hp e) (pg_tgt Ft 3 (.Tuple ts kt pt)) (by cases e <;> first | rfl | exact absurd rfl hcomp) (by rw [st]; exact en) rfl) fun D σ H q => ?_)
        obtain ⟨r1, F, y, w⟩ := q
        refine tDS_seq y w fun d v F1 H1 _ ex1 y1 hd w1 => ?_
        cases q : tgtE c 3 (.Tuple ts kt pt) d r1 with
        | bad => rw [q] at w1; exact w1.elim
        | exc x => rw [q] at w1; exact w1.elim
        | ok r2 =>
          rw [q] at w1
          refine ⟨r1, F1, d, r2, y1.rel, hd, q, fun σ' rel' chg => w1 σ' F1 H1 (Same.refl _) ⟨y1.ext, rel' _ y1.rel, fun j a g1 o1 => ?_⟩⟩
          obtain ⟨o2, nj⟩ := tgt_own 3 _ d r1 r2 q j o1
          rw [chg.2 j nj] at g1
          exact y1.new j a g1 o2
    · exact PS.no
  · exact PS.no
/-! ### all statements -/
theorem expr_ok (Ft : Fits X c W lv) {r : Cc → Expr → Ex} (h : ∀ e, PE X e (tD X.mg W (r c e))) (e : Expr) (pos : Pos) : PS X (.Expr e pos) (tDS X.mg W F0 H0 (exprE c r e)) := by
  unfold exprE
  split
  · split
    · rename_i hok
      simp only [Bool.and_eq_true, Bool.not_eq_true'] at hok
      split
      · rename_i i ei
        split
        · rename_i hm; subst hm
          exact PS.pre _ (ps_app Ft hok.1.1 ei hok.1.2 hok.2 (h _))
        · split
          · rename_i hm; subst hm
            exact PS.pre _ (ps_ext Ft hok.1.1 ei hok.1.2 hok.2 (h _))
          · exact PS.no
      · exact PS.no
    · exact PS.no
  · exact PS.pre _ (ps_drop' (h _) rfl)
  · exact PS.pre _ (ps_drop' (h _) rfl)
  · exact PS.wk ps_doc fun D σ H q => by
      obtain ⟨r, F, y, w⟩ := q
      exact w σ F H (Same.refl _) y
  · exact PS.no
/-! ### try .. except X as e -/
theorem hotS_ok {a C : Addr} {oe : Obj} {pn : List (Addr × Obj)} {i : Nat} {n cl : Str} (Ft : FitsH (X.suite a ((a, oe) :: pn)) c) (hz : Zc (.ref C) none oe) (hf : ∃ vs, oe.data = .fields vs) (hcl : X.mg cl = some (.ref C)) (hi : c.slot n = some i) (ho : okName n = true) (st : Stmt) :
    PS (X.suite a ((a, oe) :: pn)) st (fun D σ H => σ[i]? = some (some (.ref a)) ∧ tDS X.mg W0 F0 H0 (hotS c n cl st) { D with nx := fun σ' H' => σ'[i]? = some (some (.ref a)) → D.nx σ' H' } σ H) := by
  have he := hot_ok (i := i) Ft hz hf hcl hi ho 12
  have bad : ∀ {st : Stmt}, PS (X.suite a ((a, oe) :: pn)) st (fun D σ H => σ[i]? = some (some (.ref a)) ∧ tDS X.mg W0 F0 H0 sBad { D with nx := fun σ' H' => σ'[i]? = some (some (.ref a)) → D.nx σ' H' } σ H) := fun {st} => ⟨fun pins s σ H D I q => by obtain ⟨_, _, _, _, w⟩ := q; exact w.elim⟩
  unfold hotS
  split
  · rename_i e pos
    refine PS.wk (ps_ret (he e)) fun D σ H q => ?_
    obtain ⟨p, r, F, x, w⟩ := q
    refine ⟨p, tDS_seq x w fun d v F1 H1 _ e1 x1 hd w1 => ?_⟩
    exact w1 v F1 H1 x1.ext hd
  · rename_i x p e pos
    split
    · rename_i hok
      simp only [Bool.and_eq_true, Bool.not_eq_true'] at hok
      split
      · rename_i j ej
        split
        · rename_i hsw
          obtain ⟨h1, h2⟩ := Cc.slotW_ok ej
          have hsw := purely_eq hsw
          have hji : j ≠ i := fun z => by
            have a1 := (Cc.slot_ok hi).1
            rw [z, a1] at h1
            have := Option.some.inj h1
            rw [this] at hok
            simp at hok
          refine PS.wk (ps_set (i := j) (by rw [Ft.hN]; exact Ft.nd) (by rw [Ft.hN]; exact h1) ?_ (he e) (by rw [swaps_env, Ft.sc]; exact hsw) ?_) fun D σ H q => ?_
          · rw [Ft.sc]
            rcases h2 with e | ⟨e, _⟩
            · exact .inl e
            · exact .inr e
          · rcases h2 with e | ⟨e, ht⟩
            · exact .inr (by rw [Ft.sc]; exact e)
            · exact .inl (Ft.top x ht)
          · obtain ⟨p0, r, F, y, w⟩ := q
            have w : WantS X.mg W0 F0 H0 F (lift (hotE c n cl 12 e r) r fun d => put j (.dat d) r fun r1 => .ok .nx r1) { D with nx := fun σ' H' => σ'[i]? = some (some (.ref a)) → D.nx σ' H' } := by
              unfold sSet xD at w
              cases q : hotE c n cl 12 e r with
              | ok d => rw [q] at w; exact w
              | exc x => rw [q] at w; exact w
              | bad => rw [q] at w; exact w
            refine ⟨p0, tDS_seq y w fun d v F1 H1 _ e1 y1 hd w1 => ?_⟩
            obtain ⟨hjl, w2⟩ := put_ok w1
            exact w2 _ F1 H1 (Same.refl _) (y.store e1 hd hjl) (by rw [List.getElem?_set_ne hji]; exact p0)
        · exact bad
      · exact bad
    · exact bad
  · exact bad
theorem hot_block {a C : Addr} {oe : Obj} {pn : List (Addr × Obj)} {i : Nat} {n cl : Str} (Ft : FitsH (X.suite a ((a, oe) :: pn)) c) (hz : Zc (.ref C) none oe) (hf : ∃ vs, oe.data = .fields vs) (hcl : X.mg cl = some (.ref C)) (hi : c.slot n = some i) (ho : okName n = true) :
    ∀ sts : List Stmt, PSs (X.suite a ((a, oe) :: pn)) sts (fun D σ H => σ[i]? = some (some (.ref a)) ∧ tDS X.mg W0 F0 H0 (blockE (hotS c n cl) sts) { D with nx := fun σ' H' => σ'[i]? = some (some (.ref a)) → D.nx σ' H' } σ H)
  | [] => PSs.wk pss_nil fun D σ H q => by
    obtain ⟨p, r, F, x, w⟩ := q
    exact w σ F H (Same.refl _) x p
  | [st] => pss_one (hotS_ok (F0 := F0) (H0 := H0) Ft hz hf hcl hi ho st)
  | st :: st2 :: sts => by
    refine PSs.wk (pss_cons (hotS_ok (F0 := F0) (H0 := H0) Ft hz hf hcl hi ho st) (hot_block Ft hz hf hcl hi ho (st2 :: sts))) fun D σ H q => ?_
    obtain ⟨p, r, F, x, w⟩ := q
    refine ⟨p, r, F, x, ?_⟩
    have w : WantS X.mg W0 F0 H0 F (match hotS c n cl st r with | .ok .nx r1 => blockE (hotS c n cl) (st2 :: sts) r1 | x => x) _ := w
    cases q : hotS c n cl st r with
    | bad => rw [q] at w; exact w
    | exc c r1 => rw [q] at w; exact w
    | ok f r1 =>
      rw [q] at w
      cases f with
      | nx => exact fun σ' F' H' sm x' hσ => ⟨hσ, r1, F', x', WantS.mono sm w⟩
      | ret d => exact w
      | brk => exact w
      | cont => exact w
theorem try_ok {s : Cc → Stmt → Ss} (Ft : Fits X c W lv) (hX : X.stack = X.env :: X.outer ∧ X.env.frame = some X.env.locals) (hsA : ∀ X' W', Fits X' c W' lv → (X'.stack = X'.env :: X'.outer ∧ X'.env.frame = some X'.env.locals) → ∀ st, PS X' st (tDS X'.mg W' F0 H0 (s c st)))
    {body suite : List Stmt} {b : Stmt} {x n : Str} {np pos pos' : Pos} : PS X (.Try body [.ExceptHandler (some (.Name x np)) (some n) (b :: suite) pos'] [] [] pos) (tDS X.mg W F0 H0 (tryE c s body x n (b :: suite))) := by
  unfold tryE
  split
  · rename_i hok
    simp only [Bool.and_eq_true] at hok
    split
    · rename_i eln
      split
      · rename_i i ei
        have hN := find_slot ei
        have hslot : c.slot n = some i := by unfold Cc.slot; rw [eln]; exact ei
        have hx0 : ∃ D, X.mg x = some (.ref D) := by
          obtain ⟨e, _, he⟩ := List.any_eq_true.mp hok.2
          obtain ⟨bb, eb⟩ := Option.isSome_iff_exists.mp he
          obtain ⟨_, D', _, e2, _⟩ := (Ft.tab.iss _ x bb eb).ex
          exact ⟨D', e2⟩
        have hok := hok.1
        · obtain ⟨Dx, hDx⟩ := hx0
          refine PS.wk (ps_try_as (c := .ref Dx) (i := i) (Wout := W) (tb := fun W' => tDS X.mg W' F0 H0 (blockE (s c) body)) (ts := fun a cls d D σ H => ∃ cl C, cls = .ref C ∧ d = none ∧ X.mg cl = some (.ref C) ∧ σ[i]? = some (some (.ref a)) ∧ tDS X.mg W0 F0 H0 (blockE (hotS c n cl) (b :: suite)) { D with nx := fun σ' H' => σ'[i]? = some (some (.ref a)) → D.nx σ' H' } σ H)
            hX.1 hX.2 (by rw [Ft.hN]; exact Ft.nd) (by rw [Ft.hN]; exact hN) (by unfold Env.kindOf; rw [Ft.sc]; exact eln) ⟨Ft.gl hok.1.1, (okName_parts hok.1.2).1, .inl hDx⟩ Ft.tk (fun W' pn xe tk' own' => ?_) (fun a oe cls d pn hz hf => ?_)) fun D σ H q => ?_
          · exact pss_block (hsA (X.tr pn xe) W' { hN := Ft.hN, nd := Ft.nd, sc := Ft.sc, calm := Ft.calm, tk := tk', own := own', top := Ft.top, tab := ⟨Ft.tab.fn, Ft.tab.con, Ft.tab.blt, Ft.tab.exs, Ft.tab.iss, Ft.tab.fnl⟩, room := Ft.room } hX) body
          · refine ⟨fun pins st σ H D I q => ?_⟩
            obtain ⟨cl, C, rfl, rfl, hm, hσ, q⟩ := q
            exact (hot_block { hN := Ft.hN, nd := Ft.nd, sc := Ft.sc, top := Ft.top, con := Ft.tab.con, blt := Ft.tab.blt, iss := Ft.tab.iss, un := Ft.un } hz hf hm hslot hok.2 (b :: suite)).run pins st σ H D I ⟨hσ, q⟩
          · obtain ⟨r, F, y, w⟩ := q
            refine ⟨r, F, y, ?_⟩
            unfold sTry at w
            cases q : blockE (s c) body r with
            | bad => rw [q] at w; exact w
            | ok fl r1 =>
              rw [q] at w
              cases fl <;> exact w
            | exc cl r1 =>
              rw [q] at w
              have w : WantS X.mg W F0 H0 F (match c.T.iss.lookup (cl, x) with
                | some true => if i < r1.length then (match blockE (hotS c n cl) (b :: suite) (r1.set i none) with
                  | .ok .nx r2 => .ok .nx (r2.set i none)
                  | .ok (.ret d) r2 => .ok (.ret d) r2
                  | _ => .bad) else .bad
                | some false => .exc cl r1
                | none => .bad) D := w
              intro C σ' F' H' sm y' hm
              cases e : c.T.iss.lookup (cl, x) with
              | none => rw [e] at w; exact w.elim
              | some bb =>
                rw [e] at w
                obtain ⟨C', D', e1, e2, e3, _, _⟩ := (Ft.tab.iss cl x bb e).ex
                rw [hm] at e1; cases e1
                rw [hDx] at e2; cases e2
                refine ⟨bb, e3, fun hb a na => ?_, fun hb => ?_⟩
                · subst hb
                  have w : WantS X.mg W F0 H0 F (if i < r1.length then (match blockE (hotS c n cl) (b :: suite) (r1.set i none) with
                    | .ok .nx r2 => .ok .nx (r2.set i none)
                    | .ok (.ret d) r2 => .ok (.ret d) r2
                    | _ => .bad) else .bad) D := w
                  split at w
                  · rename_i hil
                    refine ⟨cl, C, rfl, rfl, hm, by rw [List.getElem?_set_self (by rw [← y'.rel.len]; exact hil)], r1.set i none, F', y'.hide i _, ?_⟩
                    cases q2 : blockE (hotS c n cl) (b :: suite) (r1.set i none) with
                    | bad => rw [q2] at w; exact w.elim
                    | exc _ _ => rw [q2] at w; exact w.elim
                    | ok f2 r2 =>
                      rw [q2] at w
                      cases f2 with
                      | nx => exact fun σ2 F2 H2 s2 y2 _ => w _ F2 H2 (sm.trans s2) (y2.gone i)
                      | ret d => exact w
                      | brk => exact w.elim
                      | cont => exact w.elim
                  · exact w.elim
                · subst hb
                  exact w C σ' F' H' sm y' hm
      · exact PS.no
    · exact PS.no
  · exact PS.no
theorem src_no_set {r : Expr → Ex} {tg it : Expr} : (∃ a b d, it = .Set a b d) ∨ ∀ env x, foldedSetIterable it env x = pure x := by
  cases it <;> first | exact .inr fun _ _ => rfl | exact .inl ⟨_, _, _, rfl⟩
theorem stepS_ok (wf : Nat) (r : Cc → Expr → Ex) (s : Cc → Stmt → Ss) (h : ∀ X c W lv, Fits X c W lv → ∀ e, Both X W e (r c e)) (Ft : Fits X c W lv) (hX : X.stack = X.env :: X.outer ∧ X.env.frame = some X.env.locals) (hsA : ∀ X' W', Fits X' c W' lv → (X'.stack = X'.env :: X'.outer ∧ X'.env.frame = some X'.env.locals) → ∀ st, PS X' st (tDS X'.mg W' F0 H0 (s c st))) : ∀ st, PS X st (tDS X.mg W F0 H0 (stepS wf r s c st)) := by
  have hs := hsA X W Ft hX
  have hp : ∀ e, PE X e (tD X.mg W (r c e)) := fun e => (h X c W lv Ft e).1
  intro st
  unfold stepS
  split
  · exact PS.wk ps_pass fun D σ H q => by
      obtain ⟨r, F, y, w⟩ := q
      exact w σ F H (Same.refl _) y
  · exact PS.wk ps_break fun D σ H q => by
      obtain ⟨r, F, y, w⟩ := q
      exact w σ F H (Same.refl _) y
  · exact PS.wk ps_continue fun D σ H q => by
      obtain ⟨r, F, y, w⟩ := q
      exact w σ F H (Same.refl _) y
  · exact PS.pre _ (ps_ret' (hp _))
  · exact PS.wk ps_retN fun D σ H q => by
      obtain ⟨r, F, y, w⟩ := q
      exact w _ F H y.ext .non
  · split
    · rename_i ok
      exact PS.pre _ (ps_if' ((h X c W lv Ft _).2 ok) (pss_block hs _) (pss_block hs _))
    · exact PS.no
  · split
    · rename_i ok
      exact ps_while' Ft.own ((h X c W lv Ft _).2 ok) (pss_block hs _)
    · exact PS.no
  · rename_i tg it b pos
    refine PS.pre _ ?_
    rcases src_no_set (r := r c) (tg := tg) (it := it) with ⟨a, b, d, rfl⟩ | hset
    · refine ⟨fun pins s σ H D I q => ?_⟩
      obtain ⟨_, _, _, w⟩ := q
      exact w.elim
    · exact ps_for' Ft.own Ft.calm (pi_src Ft hp tg it) (pg_tgt Ft 3 tg) (pss_block hs _) (fun r d r' e i hi => (tgt_own 3 tg d r r' e i hi).1)
        (fun r d r' e i hi => by
          cases q : isOwn r'[i]? with
          | false => rfl
          | true => exact absurd hi (tgt_own 3 tg d r r' e i q).2) (hset _)
  · split
    · rename_i hok
      simp only [Bool.and_eq_true] at hok
      exact ps_raise' Ft (Ft.gl hok.1.1) hok.1.2 (Ft.tab.exs _ hok.2)
    · exact PS.no
  · exact expr_ok Ft hp _ _
  · exact asg_ok Ft h _ _ _
  · exact try_ok Ft hX hsA
  · exact PS.no
theorem evS_ok {wf : Nat} : ∀ (n : Nat) (X : Cx) (W : WX), Fits X c W lv → (X.stack = X.env :: X.outer ∧ X.env.frame = some X.env.locals) → ∀ st : Stmt, PS X st (tDS X.mg W F0 H0 (evS wf n c st))
  | 0, _, _, _, _, _ => PS.no
  | n + 1, X, W, Ft, hX, st => stepS_ok wf (evE 30) (evS wf n) (ev_ok 30) Ft hX (fun X' W' Ft' hX' => evS_ok n X' W' Ft' hX') st
end
end Rt
/-! Rt, part B9: a def keeps the promise of its function on data; tables of defs. -/
namespace Rt
open PySem PySem.Spec PyProof.Rows L2
/-- what a table says, over the written part -/
structure TabK (P : Program) (w : World) (K : PySem.W.Frag) (mg : Str → Option Value) (base : Heap) (T : Tab) (lv : Nat) : Prop where
  fn : ∀ x n g, T.fns.lookup x = some (n, g) → ∃ f fd ps, ps.length = n ∧ mg x = some (.ref f) ∧ PySem.W.keepIn K (.ref f) = true ∧ Binds K fd ps [] ∧
    FnOk P w K mg base (L2.CX P w) lv f fd ps (spD mg n g)
  con : ∀ x d, T.con.lookup x = some d → ∃ u v, mg x = some u ∧ RelV v u ∧ ∀ H, Dd H v d
  blt : ∀ x, T.blt.contains x = true → mg x = none
  exs : ∀ x, T.exs.contains x = true → ExcOk K mg x
  iss : ∀ x y b, T.iss.lookup (x, y) = some b → IssOk K mg x y b
  fnl : ∀ x n g, T.fnl.lookup x = some (n, g) → ∃ f fd ps, ps.length = n ∧ mg x = some (.ref f) ∧ PySem.W.keepIn K (.ref f) = true ∧ Binds K fd ps [] ∧
    FnOk P w K mg base (L2.CX P w) lv f fd ps (spL mg n g)
section
variable {P : Program} {w : World} {K : PySem.W.Frag} {mg : Str → Option Value} {base : Heap}
theorem start_rel {F H : Hp} {N : List Str} {vs : List V} {ds : List PyData} (sub : Same F H) (hd : DdA F vs ds) : RelS F H F H (L2.start N vs) (startE N.length ds) := by
  have hl := hd.len
  have noown : ∀ i : Nat, isOwn (startE N.length ds)[i]? = false := fun i => by
    unfold startE
    by_cases hi : i < ds.length
    · rw [List.getElem?_append_left (by simpa using hi), List.getElem?_map, List.getElem?_eq_getElem hi]; rfl
    · rw [List.getElem?_append_right (by simpa using hi)]
      rw [List.getElem?_replicate]
      split <;> rfl
  refine ⟨Ext.refl sub, ⟨sub, by simp [startE, L2.start, hl], fun i s q => ?_, fun i j v _ _ _ o _ => by rw [noown] at o; cases o⟩, fun i a _ o => by rw [noown] at o; cases o⟩
  unfold startE at q
  unfold L2.start
  by_cases hi : i < ds.length
  · rw [List.getElem?_append_left (by simpa using hi), List.getElem?_map, List.getElem?_eq_getElem hi] at q
    obtain ⟨v, e1, e2⟩ := hd.get (List.getElem?_eq_getElem hi)
    have : s = .dat ds[i] := by
      simp at q
      exact q.symm
    subst this
    refine ⟨v, ?_, e2⟩
    have hv : i < vs.length := by omega
    rw [List.getElem?_append_left (by simpa using hv), List.getElem?_map, e1]; rfl
  · rw [List.getElem?_append_right (by simpa using hi), List.getElem?_replicate] at q
    split at q
    · simp at q
    · cases q
theorem def_ok {x : Str} {st : Stmt} {f : Addr} {fd : FuncData} {N ps : List Str} {mu : List Nat} {wf : Nat} {T : Tab} {lv : Nat} (F : FunD K x x (defArgs st) (defBody st) (defScope st) [] [] f fd) (S : FnScope N ps (defScope st)) (hT : TabK P w K mg base T lv) :
    FnOk P w K mg base (L2.CX P w) (lv + 1) f fd ps (spD mg ps.length (defD wf T N mu st)) := by
  refine F.ok S (fun vs H Q E h => h.1) fun cdv A outer s H vs Q E hr h => ?_
  obtain ⟨hl, F0, ds, sub, hd, want⟩ := h
  have Ft : Fits (cxOf (L2.CX P w) P w K mg base N x (defScope st) f cdv A outer s H E) ⟨N, defScope st, fun _ => true, mu, T⟩ (fun cls d _ H' => E cls d H') lv :=
    { hN := rfl, nd := S.nd, sc := rfl, calm := rfl, tk := takes_of rfl rfl rfl rfl, own := passes_of rfl, top := fun _ _ => rfl, tab := ⟨hT.fn, hT.con, hT.blt, hT.exs, hT.iss, hT.fnl⟩, room := hr }
  refine ⟨_, pss_block (F0 := F0) (H0 := H) (evS_ok (wf := wf) 12 _ _ Ft ⟨rfl, rfl⟩) (defBody st), startE N.length ds, F0, start_rel sub hd, ?_⟩
  unfold defD runD at want
  show WantS mg _ F0 H F0 (blockE (evS wf 12 ⟨N, defScope st, fun _ => true, mu, T⟩) (defBody st) (startE N.length ds)) _
  cases q : blockE (evS wf 12 ⟨N, defScope st, fun _ => true, mu, T⟩) (defBody st) (startE N.length ds) with
  | bad => rw [q] at want; exact want.elim
  | exc c r => rw [q] at want; exact fun C σ F' H' _ y m => want C F' H' y.ext m
  | ok fl r =>
    rw [q] at want
    cases fl with
    | nx => exact fun σ F' H' _ y => want _ F' H' y.ext .non
    | ret d => exact fun v F' H' e hv => want v F' H' e hv
    | brk => exact want.elim
    | cont => exact want.elim
theorem TabK.add {x z : Str} {st : Stmt} {f : Addr} {fd : FuncData} {N ps : List Str} {mu : List Nat} {wf : Nat} {T : Tab} {lv : Nat} {g : List PyData → R PyData} (hT : TabK P w K mg base T lv) (F : FunD K z z (defArgs st) (defBody st) (defScope st) [] [] f fd) (S : FnScope N ps (defScope st)) (b : Binds K fd ps []) (hm : mg x = some (.ref f))
    (e : defD wf T N mu st = g) : TabK P w K mg base { T with fns := (x, ps.length, g) :: T.fns } (lv + 1) := by
  refine ⟨fun y n k h => ?_, hT.con, hT.blt, hT.exs, hT.iss, fun y n k h => by
    obtain ⟨f', fd', ps', h1, h2, h3, h4, h5⟩ := hT.fnl y n k h
    exact ⟨f', fd', ps', h1, h2, h3, h4, h5.mono (Nat.le_succ _)⟩⟩
  by_cases hy : y = x
  · subst hy
    have h : some (ps.length, g) = some (n, k) := by simpa using h
    have h := Option.some.inj h
    have e1 : ps.length = n := congrArg Prod.fst h
    have e2 : g = k := congrArg Prod.snd h
    subst e1 e2
    exact ⟨f, fd, ps, rfl, hm, F.kp, b, by rw [← e]; exact def_ok F S hT⟩
  · have h : T.fns.lookup y = some (n, k) := by
      have : (y == x) = false := by simpa using hy
      simpa [List.lookup, this] using h
    obtain ⟨f', fd', ps', h1, h2, h3, h4, h5⟩ := hT.fn y n k h
    exact ⟨f', fd', ps', h1, h2, h3, h4, h5.mono (Nat.le_succ _)⟩
theorem retE_some {b : List Stmt} {e : Expr} (h : retE b = some e) : ∃ pos, b = [.Return (some e) pos] := by
  unfold retE at h
  split at h
  · rename_i e' pos
    cases h
    exact ⟨pos, rfl⟩
  · cases h
/-- a def that gives a new list at once -/
theorem defL_ok {x : Str} {st : Stmt} {f : Addr} {fd : FuncData} {N ps : List Str} {T : Tab} {lv : Nat} (F : FunD K x x (defArgs st) (defBody st) (defScope st) [] [] f fd) (S : FnScope N ps (defScope st)) (hT : TabK P w K mg base T lv) :
    FnOk P w K mg base (L2.CX P w) (lv + 1) f fd ps (spL mg ps.length (defL T N st)) := by
  refine F.ok S (fun vs H Q E h => h.1) fun cdv A outer s H vs Q E hr h => ?_
  obtain ⟨hl, F0, ds, sub, hd, want⟩ := h
  have Ft : Fits (cxOf (L2.CX P w) P w K mg base N x (defScope st) f cdv A outer s H E) ⟨N, defScope st, fun _ => true, [], T⟩ (fun cls d _ H' => E cls d H') lv :=
    { hN := rfl, nd := S.nd, sc := rfl, calm := rfl, tk := takes_of rfl rfl rfl rfl, own := passes_of rfl, top := fun _ _ => rfl, tab := ⟨hT.fn, hT.con, hT.blt, hT.exs, hT.iss, hT.fnl⟩, room := hr }
  have want : Want mg (fun cls d _ H' => E cls d H') [] F0 H (retL ⟨N, defScope st, fun _ => true, [], T⟩ (defBody st) (startE N.length ds)) _ := want
  unfold retL at want
  cases q : (retE (defBody st)).bind (compE (evE 29) ⟨N, defScope st, fun _ => true, [], T⟩) with
  | none => rw [q] at want; exact want.elim
  | some f' =>
    rw [q] at want
    obtain ⟨e, e1, ef⟩ := Option.bind_eq_some_iff.mp q
    obtain ⟨pos, eb⟩ := retE_some e1
    rw [eb]
    · refine ⟨_, pss_one (ps_ret (comp_ok Ft (fun e => (ev_ok 29 _ _ _ _ Ft e).1) (fun scope X' Ft' => ev_ok 29 X' _ _ _ Ft') ef)), startE N.length ds, F0, (start_rel sub hd).rel, ?_⟩
      exact want
theorem TabK.addL {x : Str} {st : Stmt} {f : Addr} {fd : FuncData} {N ps : List Str} {wf : Nat} {T : Tab} {lv : Nat} {g : List PyData → R PyData} {gl : List PyData → R (List PyData)} (hT : TabK P w K mg base T lv) (F : FunD K x x (defArgs st) (defBody st) (defScope st) [] [] f fd) (S : FnScope N ps (defScope st)) (b : Binds K fd ps []) (hm : mg x = some (.ref f))
    (e : defD wf T N [] st = g) (el : defL T N st = gl) : TabK P w K mg base { T with fns := (x, ps.length, g) :: T.fns, fnl := (x, ps.length, gl) :: T.fnl } (lv + 1) := by
  have t := hT.add F S b hm e
  refine ⟨t.fn, t.con, t.blt, t.exs, t.iss, fun y n k h => ?_⟩
  by_cases hy : y = x
  · subst hy
    have h : some (ps.length, gl) = some (n, k) := by simpa using h
    have h := Option.some.inj h
    have e1 : ps.length = n := congrArg Prod.fst h
    have e2 : gl = k := congrArg Prod.snd h
    subst e1 e2
    exact ⟨f, fd, ps, rfl, hm, F.kp, b, by rw [← el]; exact defL_ok F S hT⟩
  · have h : T.fnl.lookup y = some (n, k) := by
      have : (y == x) = false := by simpa using hy
      simpa [List.lookup, this] using h
    obtain ⟨f', fd', ps', h1, h2, h3, h4, h5⟩ := hT.fnl y n k h
    exact ⟨f', fd', ps', h1, h2, h3, h4, h5.mono (Nat.le_succ _)⟩
end
/-! ### a head's facts without lists -/
def noL (g : Addr → Option Obj) (a : Addr) : Option Obj := match g a with
  | some o => if o.cls == .type "list" then none else some o
  | none => none
theorem noL_ok {g : Addr → Option Obj} {a : Addr} {o : Obj} (h : noL g a = some o) : g a = some o ∧ (o.cls == .type "list") = false := by
  unfold noL at h
  split at h
  · rename_i o' e
    split at h
    · cases h
    · rename_i hc
      cases h
      exact ⟨e, by simpa using hc⟩
  · cases h
def obsN (n : Nat) (fa : List He.Fa) (fn : List He.DefD) (g : Addr → Option Obj) : He.AlD := He.obsD fa fn (He.frG (noL g) (He.asD g n))
def hookN (n : Nat) (fa : List He.Fa) (fn : List He.DefD) : PySem.W.Hook where
  α := He.AlD
  obs := fun s => obsN n fa fn s.heap.get?
  val := fun _ => He.valD fn
  says := fun _ h => ∃ K : PySem.W.Frag, K.In h ∧ (∀ a o, K.lookup a = some o → (o.cls == .type "list") = false) ∧ He.SaysD fa fn K
  of := fun _ _ e => ⟨_, fun _ _ q => (noL_ok (He.frG_at _ q)).1, fun _ _ q => (noL_ok (He.frG_at _ q)).2, e⟩
  keeps := fun _ _ _ ⟨K, hK, hn, c⟩ k => ⟨K, PySem.W.Frag.In.keeps hK k, hn, c⟩
theorem obsN_eq {n : Nat} {fa : List He.Fa} {fn : List He.DefD} {g : Addr → Option Obj} {s : Shared} (h : ∀ a, g a = s.heap.get? a) : obsN n fa fn g = (hookN n fa fn).obs s := by
  have e : g = s.heap.get? := funext h
  rw [e] <;> rfl
/-! ### .. and with the exceptions' classes -/
def excCB (K : PySem.W.Frag) (D : Addr) : Bool := He.eqO (PySem.W.findIn K (.ref D) "__getattribute__") (some (some (.builtin "BaseException.__getattribute__"))) && (He.eqO (PySem.W.findIn K (.ref D) "__getattr__") (some none) && (decide (PySem.W.subIn K (.ref D) (.type "BaseException") = some true) && (PySem.W.hasDictIn K D &&
  (He.eqO (PySem.W.findIn K (.ref D) "__class__") (some (some (.builtin "object.__class__"))) && (He.eqO (PySem.W.specialIn K (.builtin "object.__class__") "__get__") (some (some (.builtin "getset_descriptor.__get__"))) && (decide (PySem.W.takesIn K (.builtin "object.__class__") = some true) && decide (PySem.W.mroIn K D (.type "object") = some true)))))))
theorem excC_of {K : PySem.W.Frag} {D : Addr} (h : excCB K D = true) : ExcC K D := by
  unfold excCB at h
  simp only [Bool.and_eq_true, decide_eq_true_eq] at h
  obtain ⟨h1, h2, h3, h4, h5, h6, h7, h8⟩ := h
  exact ⟨He.eqO_ok h1, He.eqO_ok h2, h3, h4, He.eqO_ok h5, He.eqO_ok h6, h7, h8⟩
def issB (K : PySem.W.Frag) (e : (Str × Str) × Bool) : Bool := (He.Fa.glo e.1.1).ok K && ((He.Fa.glo e.1.2).ok K && (decide (PySem.W.exmOne K (.ref (He.ga K e.1.1)) (.ref (He.ga K e.1.2)) = some e.2) && (decide (PySem.W.kitOne K (.ref (He.ga K e.1.1)) (.ref (He.ga K e.1.2)) = some e.2) && excCB K (He.ga K e.1.1))))
theorem lookup_mem {α β : Type} [BEq α] [LawfulBEq α] {a : α} {b : β} : ∀ {l : List (α × β)}, l.lookup a = some b → (a, b) ∈ l
  | [], h => by cases h
  | (x, y) :: l, h => by
    rw [List.lookup_cons] at h
    split at h
    · rename_i e
      have e := eq_of_beq e
      have h := Option.some.inj h
      rw [e, h]; exact List.mem_cons_self
    · exact List.mem_cons_of_mem _ (lookup_mem h)
theorem iss_of {K : PySem.W.Frag} {h : Heap} {mg : Str → Option Value} {iss : List ((Str × Str) × Bool)} (X : K.In h) (G : h.Ns mainGlobals mg) (ci : iss.all (issB K) = true) : ∀ x y b, iss.lookup (x, y) = some b → IssOk K mg x y b := by
  intro x y b e
  have := List.all_eq_true.mp ci _ (lookup_mem e)
  unfold issB at this
  simp only [Bool.and_eq_true, decide_eq_true_eq] at this
  obtain ⟨h1, h2, h3, h4, h5⟩ := this
  exact ⟨_, _, He.glo_ok X G h1, He.glo_ok X G h2, h3, h4, excC_of h5⟩
def obsM (n : Nat) (fa : List He.Fa) (fn : List He.DefD) (iss : List ((Str × Str) × Bool)) (g : Addr → Option Obj) : He.AlD × Bool := (He.obsD fa fn (He.frG (noL g) (He.asD g n)), iss.all (issB (He.frG (noL g) (He.asD g n))))
def hookM (n : Nat) (fa : List He.Fa) (fn : List He.DefD) (iss : List ((Str × Str) × Bool)) : PySem.W.Hook where
  α := He.AlD × Bool
  obs := fun s => obsM n fa fn iss s.heap.get?
  val := fun _ => (He.valD fn, true)
  says := fun _ h => ∃ K : PySem.W.Frag, K.In h ∧ (∀ a o, K.lookup a = some o → (o.cls == .type "list") = false) ∧ He.SaysD fa fn K ∧ iss.all (issB K) = true
  of := fun _ _ e => ⟨_, fun _ _ q => (noL_ok (He.frG_at _ q)).1, fun _ _ q => (noL_ok (He.frG_at _ q)).2, congrArg Prod.fst e, congrArg Prod.snd e⟩
  keeps := fun _ _ _ ⟨K, hK, hn, c, ci⟩ k => ⟨K, PySem.W.Frag.In.keeps hK k, hn, c, ci⟩
theorem obsM_eq {n : Nat} {fa : List He.Fa} {fn : List He.DefD} {iss : List ((Str × Str) × Bool)} {g : Addr → Option Obj} {s : Shared} (h : ∀ a, g a = s.heap.get? a) : obsM n fa fn iss g = (hookM n fa fn iss).obs s := by
  have e : g = s.heap.get? := funext h
  rw [e] <;> rfl
/-- the end of a law by its function on data -/
theorem law_end {l : PySem.W.OpenLaw} {k : Nat} {q : Program} {loose : List Str} {XP : (Str → Option Value) → Heap → Prop} {YP : World → Heap → Prop} {d : DefRec} {g : List PyData → R PyData}
    (hn : l.most = some 63) (hdf : d.params.defaults = []) (hname : d.name = ("law" : Str)) (hr : Room k callerA)
    (F : ∀ (w : World) (mg : Str → Option Value) (fa : Addr) (h : Heap), YP w h → h.Ns mainGlobals mg → mg ("law" : Str) = some (.ref fa) →
      ∃ (K : PySem.W.Frag) (fd : FuncData), K.In h ∧ (∀ a o, K.lookup a = some o → (o.cls == .type "list") = false) ∧ (∀ (s : Shared) (u : Value), BindsTo s fd ⟨[u], []⟩ [("script", u)]) ∧
        ∀ base : Heap, K.In base → base.Ns mainGlobals mg → FnOk l.prog w K mg base (L2.CX l.prog w) k fa fd ["script"] (spD mg 1 g))
    (hg : ∀ ns : List Int, ns.length ≤ 63 → g [.list (ns.map .int)] = .ok (.bool true)) :
    PySem.W.WalkO q loose XP YP l.row.toRowW d [] (fun f vs => PySem.call f vs) := by
  refine Att.attach_call hn hdf fun w s0 s1 mg mb fa o pm cd doc a vs ns G Y ho hd hcd hmg hobj hints hlen hgr => ?_
  rw [hname] at hmg
  obtain ⟨K, fd, KX, nl, hb, hF⟩ := F w mg fa _ Y G.T.g hmg
  refine law_call KX G.T.g G.T.b G.T.builtins G.T.nolimit hgr hobj hints (Nat.le_trans hlen (by decide)) hr hF hb (fun H hO hS => ?_) fun H e s' z => ?_
  · have hr : Rd H a (.lst (ns.map V.int)) := by
      rcases hS with hS | ⟨o, its, n, hk, hc, _⟩
      · exact hS
      · have := nl a o hk
        rw [hc] at this
        simp at this
    have dd : ∀ ns : List Int, DdA H (ns.map V.int) (ns.map PyData.int) := fun ns => by
      induction ns with
      | nil => exact .nil
      | cons n ns ih => exact .cons (.int n) ih
    refine ⟨rfl, H, [.list (ns.map .int)], Same.refl _, .cons (.lst hr (dd ns)) .nil, ?_⟩
    rw [hg ns hlen]
    intro v F' H' _ hv
    cases hv
    rfl
  · obtain ⟨_, _, _, _, _, _, _, _, _, _, _, _, z⟩ := z
    exact z.elim
/-- a def's scope, looked at -/
def scopeB (N ps : List Str) (sc : Scope) : Bool := (match sc.kind with | .function => true | _ => false) && !sc.isCoroutine && !sc.isGenerator && decide N.Nodup && decide (N.take ps.length = ps) &&
  (ps.all fun x => match sc.names.lookup x with | some .local => true | some .cell => true | _ => false) && (sc.names.all fun y => match y.2 with | .free => false | _ => true)
theorem scope_by {N ps : List Str} {sc : Scope} (h : scopeB N ps sc = true) : FnScope N ps sc := by
  unfold scopeB at h
  simp only [Bool.and_eq_true, decide_eq_true_eq, Bool.not_eq_true', List.all_eq_true] at h
  obtain ⟨⟨⟨⟨⟨⟨h1, h2⟩, h3⟩, h4⟩, h5⟩, h6⟩, h7⟩ := h
  refine ⟨?_, h2, h3, h4, h5, fun x hx => ?_, fun y hy e => ?_⟩
  · split at h1
    · assumption
    · cases h1
  · have := h6 x hx
    split at this
    · rename_i e; exact .inl e
    · rename_i e; exact .inr e
    · cases this
  · have := h7 y hy
    rw [e] at this
    cases this
end Rt
namespace K58
open PySem PySem.Spec PyProof.Rows L2 Rt Pg
def topS (i : Nat) : Stmt := PySem.Challenge.pw_ringtimes_k58_whole_covering.main.body.getD i (.Pass ⟨0, 0, 0, 0⟩)
def blts : List Str := ["all", "bool", "enumerate", "int", "isinstance", "len", "list", "max", "min", "range", "tuple", "zip"]
def exs : List Str := ["InvalidRow", "InvalidNumber", "TooLarge", "EmptyRow", "InvalidPeriods"]
def cons : List (Str × PyData) := [("MAX_PERIOD_alarms", (.int 60)), ("MAX_ROW", (.int 6)), ("MAX_CYCLE", (.int 5000)), ("MAX_PERIODS", (.int 4)), ("MAX_PERIOD_covering", (.int 8)), ("MAX_PRODUCT", (.int 600)), ("MAX_ALIKE", (.int 60))]
def T0 (wf : Nat) : Tab := ⟨[], cons, blts, exs, isl, []⟩
def T1 (wf : Nat) : Tab := ⟨(("is_int" : Str), 3, p_is_int wf) :: (T0 wf).fns, cons, blts, exs, isl, (T0 wf).fnl⟩
def T2 (wf : Nat) : Tab := ⟨(("is_alarm" : Str), 1, p_is_alarm wf) :: (T1 wf).fns, cons, blts, exs, isl, (T1 wf).fnl⟩
def T3 (wf : Nat) : Tab := ⟨(("is_row" : Str), 1, p_is_row wf) :: (T2 wf).fns, cons, blts, exs, isl, (T2 wf).fnl⟩
def T4 (wf : Nat) : Tab := ⟨(("check_row" : Str), 1, p_check_row wf) :: (T3 wf).fns, cons, blts, exs, isl, (T3 wf).fnl⟩
def T5 (wf : Nat) : Tab := ⟨(("does_ring" : Str), 2, p_does_ring wf) :: (T4 wf).fns, cons, blts, exs, isl, (T4 wf).fnl⟩
def T6 (wf : Nat) : Tab := ⟨(("find_ringing" : Str), 2, p_find_ringing wf) :: (T5 wf).fns, cons, blts, exs, isl, (T5 wf).fnl⟩
def T7 (wf : Nat) : Tab := ⟨(("divisor" : Str), 2, p_divisor wf) :: (T6 wf).fns, cons, blts, exs, isl, (T6 wf).fnl⟩
def T8 (wf : Nat) : Tab := ⟨(("find_cycle" : Str), 1, p_find_cycle wf) :: (T7 wf).fns, cons, blts, exs, isl, (T7 wf).fnl⟩
def T9 (wf : Nat) : Tab := ⟨(("check_cycle" : Str), 1, p_check_cycle wf) :: (T8 wf).fns, cons, blts, exs, isl, (T8 wf).fnl⟩
def T10 (wf : Nat) : Tab := ⟨(("find_times" : Str), 1, p_find_times wf) :: (T9 wf).fns, cons, blts, exs, isl, (("find_times" : Str), 1, p_find_times_l wf) :: (T9 wf).fnl⟩
def T11 (wf : Nat) : Tab := ⟨(("longest_silence" : Str), 1, p_longest_silence wf) :: (T10 wf).fns, cons, blts, exs, isl, (T10 wf).fnl⟩
def T12 (wf : Nat) : Tab := ⟨(("check_number" : Str), 3, p_check_number wf) :: (T11 wf).fns, cons, blts, exs, isl, (T11 wf).fnl⟩
def T13 (wf : Nat) : Tab := ⟨(("check_short" : Str), 1, p_check_short wf) :: (T12 wf).fns, cons, blts, exs, isl, (T12 wf).fnl⟩
def T14 (wf : Nat) : Tab := ⟨(("are_shifts" : Str), 2, p_are_shifts wf) :: (T13 wf).fns, cons, blts, exs, isl, (T13 wf).fnl⟩
def T15 (wf : Nat) : Tab := ⟨(("silence_of" : Str), 2, p_silence_of wf) :: (T14 wf).fns, cons, blts, exs, isl, (T14 wf).fnl⟩
def T16 (wf : Nat) : Tab := ⟨(("do_cover" : Str), 3, p_do_cover wf) :: (T15 wf).fns, cons, blts, exs, isl, (T15 wf).fnl⟩
def T17 (wf : Nat) : Tab := ⟨(("find_best" : Str), 1, p_find_best wf) :: (T16 wf).fns, cons, blts, exs, isl, (T16 wf).fnl⟩
def T18 (wf : Nat) : Tab := ⟨(("check_product" : Str), 1, p_check_product_v2 wf) :: (T17 wf).fns, cons, blts, exs, isl, (T17 wf).fnl⟩
def T19 (wf : Nat) : Tab := ⟨(("least_silence" : Str), 1, p_least_silence wf) :: (T18 wf).fns, cons, blts, exs, isl, (T18 wf).fnl⟩
def T20 (wf : Nat) : Tab := ⟨(("covering_shifts" : Str), 1, p_covering_shifts wf) :: (T19 wf).fns, cons, blts, exs, isl, (T19 wf).fnl⟩
def T21 (wf : Nat) : Tab := ⟨(("fewest_alike" : Str), 2, p_fewest_alike wf) :: (T20 wf).fns, cons, blts, exs, isl, (T20 wf).fnl⟩
def T22 (wf : Nat) : Tab := ⟨(("_law_drawn" : Str), 3, p__law_drawn wf) :: (T21 wf).fns, cons, blts, exs, isl, (T21 wf).fnl⟩
theorem sc0 : FnScope ["value", "least", "most"] ["value", "least", "most"] (defScope (topS 10)) := scope_by (by kernel_rfl)
theorem e0 (wf : Nat) : defD wf (T0 wf) ["value", "least", "most"] [] (topS 10) = p_is_int wf := by kernel_rfl
theorem sc1 : FnScope ["candidate"] ["candidate"] (defScope (topS 11)) := scope_by (by kernel_rfl)
theorem e1 (wf : Nat) : defD wf (T1 wf) ["candidate"] [] (topS 11) = p_is_alarm wf := by kernel_rfl
theorem sc2 : FnScope ["candidate", "alarm"] ["candidate"] (defScope (topS 12)) := scope_by (by kernel_rfl)
theorem e2 (wf : Nat) : defD wf (T2 wf) ["candidate", "alarm"] [] (topS 12) = p_is_row wf := by kernel_rfl
theorem sc3 : FnScope ["value"] ["value"] (defScope (topS 13)) := scope_by (by kernel_rfl)
theorem e3 (wf : Nat) : defD wf (T3 wf) ["value"] [] (topS 13) = p_check_row wf := by kernel_rfl
theorem sc4 : FnScope ["alarm", "time"] ["alarm", "time"] (defScope (topS 14)) := scope_by (by kernel_rfl)
theorem e4 (wf : Nat) : defD wf (T4 wf) ["alarm", "time"] [] (topS 14) = p_does_ring wf := by kernel_rfl
theorem sc5 : FnScope ["row", "time", "number", "alarm"] ["row", "time"] (defScope (topS 15)) := scope_by (by kernel_rfl)
theorem e5 (wf : Nat) : defD wf (T5 wf) ["row", "time", "number", "alarm"] [] (topS 15) = p_find_ringing wf := by kernel_rfl
theorem sc6 : FnScope ["one", "other"] ["one", "other"] (defScope (topS 16)) := scope_by (by kernel_rfl)
theorem e6 (wf : Nat) : defD wf (T6 wf) ["one", "other"] [] (topS 16) = p_divisor wf := by kernel_rfl
theorem sc7 : FnScope ["row", "found", "period", "shift"] ["row"] (defScope (topS 17)) := scope_by (by kernel_rfl)
theorem e7 (wf : Nat) : defD wf (T7 wf) ["row", "found", "period", "shift"] [] (topS 17) = p_find_cycle wf := by kernel_rfl
theorem sc8 : FnScope ["row"] ["row"] (defScope (topS 20)) := scope_by (by kernel_rfl)
theorem e8 (wf : Nat) : defD wf (T8 wf) ["row"] [] (topS 20) = p_check_cycle wf := by kernel_rfl
theorem sc9 : FnScope ["row", "time"] ["row"] (defScope (topS 22)) := scope_by (by kernel_rfl)
theorem l9 (wf : Nat) : defL (T9 wf) ["row", "time"] (topS 22) = p_find_times_l wf := by kernel_rfl
theorem e9 (wf : Nat) : defD wf (T9 wf) ["row", "time"] [] (topS 22) = p_find_times wf := by kernel_rfl
theorem sc10 : FnScope ["row", "found", "one", "other"] ["row"] (defScope (topS 23)) := scope_by (by kernel_rfl)
theorem e10 (wf : Nat) : defD wf (T10 wf) ["row", "found", "one", "other"] [1] (topS 23) = p_longest_silence wf := by kernel_rfl
theorem sc11 : FnScope ["value", "least", "most"] ["value", "least", "most"] (defScope (topS 25)) := scope_by (by kernel_rfl)
theorem e11 (wf : Nat) : defD wf (T11 wf) ["value", "least", "most"] [] (topS 25) = p_check_number wf := by kernel_rfl
theorem sc12 : FnScope ["value", "period"] ["value"] (defScope (topS 31)) := scope_by (by kernel_rfl)
theorem e12 (wf : Nat) : defD wf (T12 wf) ["value", "period"] [] (topS 31) = p_check_short wf := by kernel_rfl
theorem sc13 : FnScope ["periods", "value", "shift", "period"] ["periods", "value"] (defScope (topS 32)) := scope_by (by kernel_rfl)
theorem e13 (wf : Nat) : defD wf (T13 wf) ["periods", "value", "shift", "period"] [] (topS 32) = p_are_shifts wf := by kernel_rfl
theorem sc14 : FnScope ["periods", "shifts"] ["periods", "shifts"] (defScope (topS 33)) := scope_by (by kernel_rfl)
theorem e14 (wf : Nat) : defD wf (T14 wf) ["periods", "shifts"] [] (topS 33) = p_silence_of wf := by kernel_rfl
theorem sc15 : FnScope ["periods", "candidate", "silence"] ["periods", "candidate", "silence"] (defScope (topS 34)) := scope_by (by kernel_rfl)
theorem e15 (wf : Nat) : defD wf (T15 wf) ["periods", "candidate", "silence"] [] (topS 34) = p_do_cover wf := by kernel_rfl
theorem sc16 : FnScope ["periods", "found", "period", "some", "shift", "shifts"] ["periods"] (defScope (topS 35)) := scope_by (by kernel_rfl)
theorem e16 (wf : Nat) : defD wf (T16 wf) ["periods", "found", "period", "some", "shift", "shifts"] [] (topS 35) = p_find_best wf := by kernel_rfl
theorem sc17 : FnScope ["periods", "product", "period"] ["periods"] (defScope (topS 36)) := scope_by (by kernel_rfl)
theorem e17 (wf : Nat) : defD wf (T17 wf) ["periods", "product", "period"] [] (topS 36) = p_check_product_v2 wf := by kernel_rfl
theorem sc18 : FnScope ["periods"] ["periods"] (defScope (topS 37)) := scope_by (by kernel_rfl)
theorem e18 (wf : Nat) : defD wf (T18 wf) ["periods"] [] (topS 37) = p_least_silence wf := by kernel_rfl
theorem sc19 : FnScope ["periods"] ["periods"] (defScope (topS 38)) := scope_by (by kernel_rfl)
theorem e19 (wf : Nat) : defD wf (T19 wf) ["periods"] [] (topS 38) = p_covering_shifts wf := by kernel_rfl
theorem sc20 : FnScope ["period", "silence"] ["period", "silence"] (defScope (topS 39)) := scope_by (by kernel_rfl)
theorem e20 (wf : Nat) : defD wf (T20 wf) ["period", "silence"] [] (topS 39) = p_fewest_alike wf := by kernel_rfl
theorem sc21 : FnScope ["script", "k", "many", "cell", "turn", "rest"] ["script", "k", "many"] (defScope (topS 41)) := scope_by (by kernel_rfl)
theorem e21 (wf : Nat) : defD wf (T21 wf) ["script", "k", "many", "cell", "turn", "rest"] [] (topS 41) = p__law_drawn wf := by kernel_rfl
theorem sc22 : FnScope ["script", "periods", "least", "told", "row", "k", "shifts", "other", "period", "many", "alike", "silence", "shift", "n"] ["script"] (defScope (topS 42)) := scope_by (by kernel_rfl)
theorem e22 (wf : Nat) : defD wf (T22 wf) ["script", "periods", "least", "told", "row", "k", "shifts", "other", "period", "many", "alike", "silence", "shift", "n"] [] (topS 42) = p_law wf := by kernel_rfl
def d0 : He.DefD := ⟨("is_int", none), "is_int", "is_int", defArgs (topS 10), defBody (topS 10), defScope (topS 10), [], []⟩
def d1 : He.DefD := ⟨("is_alarm", none), "is_alarm", "is_alarm", defArgs (topS 11), defBody (topS 11), defScope (topS 11), [], []⟩
def d2 : He.DefD := ⟨("is_row", none), "is_row", "is_row", defArgs (topS 12), defBody (topS 12), defScope (topS 12), [], []⟩
def d3 : He.DefD := ⟨("check_row", none), "check_row", "check_row", defArgs (topS 13), defBody (topS 13), defScope (topS 13), [], []⟩
def d4 : He.DefD := ⟨("does_ring", none), "does_ring", "does_ring", defArgs (topS 14), defBody (topS 14), defScope (topS 14), [], []⟩
def d5 : He.DefD := ⟨("find_ringing", none), "find_ringing", "find_ringing", defArgs (topS 15), defBody (topS 15), defScope (topS 15), [], []⟩
def d6 : He.DefD := ⟨("divisor", none), "divisor", "divisor", defArgs (topS 16), defBody (topS 16), defScope (topS 16), [], []⟩
def d7 : He.DefD := ⟨("find_cycle", none), "find_cycle", "find_cycle", defArgs (topS 17), defBody (topS 17), defScope (topS 17), [], []⟩
def d8 : He.DefD := ⟨("check_cycle", none), "check_cycle", "check_cycle", defArgs (topS 20), defBody (topS 20), defScope (topS 20), [], []⟩
def d9 : He.DefD := ⟨("find_times", none), "find_times", "find_times", defArgs (topS 22), defBody (topS 22), defScope (topS 22), [], []⟩
def d10 : He.DefD := ⟨("longest_silence", none), "longest_silence", "longest_silence", defArgs (topS 23), defBody (topS 23), defScope (topS 23), [], []⟩
def d11 : He.DefD := ⟨("check_number", none), "check_number", "check_number", defArgs (topS 25), defBody (topS 25), defScope (topS 25), [], []⟩
def d12 : He.DefD := ⟨("check_short", none), "check_short", "check_short", defArgs (topS 31), defBody (topS 31), defScope (topS 31), [], []⟩
def d13 : He.DefD := ⟨("are_shifts", none), "are_shifts", "are_shifts", defArgs (topS 32), defBody (topS 32), defScope (topS 32), [], []⟩
def d14 : He.DefD := ⟨("silence_of", none), "silence_of", "silence_of", defArgs (topS 33), defBody (topS 33), defScope (topS 33), [], []⟩
def d15 : He.DefD := ⟨("do_cover", none), "do_cover", "do_cover", defArgs (topS 34), defBody (topS 34), defScope (topS 34), [], []⟩
def d16 : He.DefD := ⟨("find_best", none), "find_best", "find_best", defArgs (topS 35), defBody (topS 35), defScope (topS 35), [], []⟩
def d17 : He.DefD := ⟨("check_product", none), "check_product", "check_product", defArgs (topS 36), defBody (topS 36), defScope (topS 36), [], []⟩
def d18 : He.DefD := ⟨("least_silence", none), "least_silence", "least_silence", defArgs (topS 37), defBody (topS 37), defScope (topS 37), [], []⟩
def d19 : He.DefD := ⟨("covering_shifts", none), "covering_shifts", "covering_shifts", defArgs (topS 38), defBody (topS 38), defScope (topS 38), [], []⟩
def d20 : He.DefD := ⟨("fewest_alike", none), "fewest_alike", "fewest_alike", defArgs (topS 39), defBody (topS 39), defScope (topS 39), [], []⟩
def d21 : He.DefD := ⟨("_law_drawn", none), "_law_drawn", "_law_drawn", defArgs (topS 41), defBody (topS 41), defScope (topS 41), [], []⟩
def d22 : He.DefD := ⟨("law", none), "law", "law", defArgs (topS 42), defBody (topS 42), defScope (topS 42), [], []⟩
def fn : List He.DefD := [d0, d1, d2, d3, d4, d5, d6, d7, d8, d9, d10, d11, d12, d13, d14, d15, d16, d17, d18, d19, d20, d21, d22]
def fa : List He.Fa := [.glo "is_int", .glo "is_alarm", .glo "is_row", .glo "check_row", .glo "does_ring", .glo "find_ringing", .glo "divisor", .glo "find_cycle", .glo "check_cycle", .glo "find_times", .glo "longest_silence", .glo "check_number", .glo "check_short", .glo "are_shifts", .glo "silence_of", .glo "do_cover", .glo "find_best", .glo "check_product", .glo "least_silence", .glo "covering_shifts", .glo "fewest_alike", .glo "_law_drawn", .glo "law", .free "all", .free "bool", .free "enumerate", .free "int", .free "isinstance", .free "len", .free "list", .free "max", .free "min", .free "range", .free "tuple", .free "zip", .int "MAX_PERIOD_alarms" 60, .int "MAX_ROW" 6, .int "MAX_CYCLE" 5000, .int "MAX_PERIODS" 4, .int "MAX_PERIOD_covering" 8, .int "MAX_PRODUCT" 600, .int "MAX_ALIKE" 60, .glo "InvalidRow", .glo "InvalidNumber", .glo "TooLarge", .glo "EmptyRow", .glo "InvalidPeriods", .exc "InvalidRow", .exc "InvalidNumber", .exc "TooLarge", .exc "EmptyRow", .exc "InvalidPeriods"]
abbrev Rw : PySem.W.OpenRow := PySem.W.OpenLaw.row PySem.Challenge.rw_ringtimes_k58_whole_covering
abbrev hk : PySem.W.Hook := Rt.hookM 4 fa fn isl
def ob (s : PySem.W.SharedT) : He.AlD × Bool := Rt.obsM 4 fa fn isl (HandSHeadRun.getT s)
theorem ob_eq (s : PySem.W.SharedT) : ob s = hk.obs s.abs := Rt.obsM_eq (HandSHeadRun.getT_eq s)
def loose : List Str := (["RingError", "InvalidRow", "InvalidNumber", "TooLarge", "EmptyRow", "InvalidPeriods", "MAX_PERIOD_alarms", "MAX_ROW", "MAX_CYCLE", "MAX_PERIODS", "MAX_PERIOD_covering", "MAX_PRODUCT", "MAX_ALIKE", "is_int", "is_alarm", "is_row", "check_row", "does_ring", "find_ringing", "divisor", "find_cycle", "check_cycle", "find_times", "longest_silence", "check_number", "check_short", "are_shifts", "silence_of", "do_cover", "find_best"] : List Str) ++ (["check_product", "least_silence", "covering_shifts", "fewest_alike", "_law_drawn"] : List Str)
theorem run (w : World) : HandSHeadRun.RunEq Rw (PySem.W.view Rw.prog [42]) hk ob 20000 loose w := by
  intro os
  kernel_rfl
theorem facts {P : Program} {w : World} {K : PySem.W.Frag} {h : Heap} {mg : Str → Option Value} {f : Addr} (X : K.In h) (G : h.Ns mainGlobals mg) (hfa : mg ("law" : Str) = some (.ref f)) (c : He.SaysD fa fn K) (ci : isl.all (issB K) = true) :
    ∃ fd : FuncData, (∀ (s : Shared) (v : Value), BindsTo s fd ⟨[v], []⟩ [("script", v)]) ∧ ∀ base : Heap, K.In base → base.Ns mainGlobals mg → FnOk P w K mg base (L2.CX P w) 23 f fd ["script"] (spD mg 1 (p_law WFN)) := by
  obtain ⟨fd0, F0⟩ := c.def_ 0 (d := d0) rfl
  have g0 : mg ("is_int" : Str) = some (.ref _) := He.glo_ok X G (c.fact 0 (f := .glo "is_int") rfl)
  have b0 := FunD.bindsN (ps := ["value", "least", "most"]) F0 fun _ _ _ _ _ _ us hl => match us, hl with | [_, _, _], _ => rfl
  obtain ⟨fd1, F1⟩ := c.def_ 1 (d := d1) rfl
  have g1 : mg ("is_alarm" : Str) = some (.ref _) := He.glo_ok X G (c.fact 1 (f := .glo "is_alarm") rfl)
  have b1 := FunD.bindsN (ps := ["candidate"]) F1 fun _ _ _ _ _ _ us hl => match us, hl with | [_], _ => rfl
  obtain ⟨fd2, F2⟩ := c.def_ 2 (d := d2) rfl
  have g2 : mg ("is_row" : Str) = some (.ref _) := He.glo_ok X G (c.fact 2 (f := .glo "is_row") rfl)
  have b2 := FunD.bindsN (ps := ["candidate"]) F2 fun _ _ _ _ _ _ us hl => match us, hl with | [_], _ => rfl
  obtain ⟨fd3, F3⟩ := c.def_ 3 (d := d3) rfl
  have g3 : mg ("check_row" : Str) = some (.ref _) := He.glo_ok X G (c.fact 3 (f := .glo "check_row") rfl)
  have b3 := FunD.bindsN (ps := ["value"]) F3 fun _ _ _ _ _ _ us hl => match us, hl with | [_], _ => rfl
  obtain ⟨fd4, F4⟩ := c.def_ 4 (d := d4) rfl
  have g4 : mg ("does_ring" : Str) = some (.ref _) := He.glo_ok X G (c.fact 4 (f := .glo "does_ring") rfl)
  have b4 := FunD.bindsN (ps := ["alarm", "time"]) F4 fun _ _ _ _ _ _ us hl => match us, hl with | [_, _], _ => rfl
  obtain ⟨fd5, F5⟩ := c.def_ 5 (d := d5) rfl
  have g5 : mg ("find_ringing" : Str) = some (.ref _) := He.glo_ok X G (c.fact 5 (f := .glo "find_ringing") rfl)
  have b5 := FunD.bindsN (ps := ["row", "time"]) F5 fun _ _ _ _ _ _ us hl => match us, hl with | [_, _], _ => rfl
  obtain ⟨fd6, F6⟩ := c.def_ 6 (d := d6) rfl
  have g6 : mg ("divisor" : Str) = some (.ref _) := He.glo_ok X G (c.fact 6 (f := .glo "divisor") rfl)
  have b6 := FunD.bindsN (ps := ["one", "other"]) F6 fun _ _ _ _ _ _ us hl => match us, hl with | [_, _], _ => rfl
  obtain ⟨fd7, F7⟩ := c.def_ 7 (d := d7) rfl
  have g7 : mg ("find_cycle" : Str) = some (.ref _) := He.glo_ok X G (c.fact 7 (f := .glo "find_cycle") rfl)
  have b7 := FunD.bindsN (ps := ["row"]) F7 fun _ _ _ _ _ _ us hl => match us, hl with | [_], _ => rfl
  obtain ⟨fd8, F8⟩ := c.def_ 8 (d := d8) rfl
  have g8 : mg ("check_cycle" : Str) = some (.ref _) := He.glo_ok X G (c.fact 8 (f := .glo "check_cycle") rfl)
  have b8 := FunD.bindsN (ps := ["row"]) F8 fun _ _ _ _ _ _ us hl => match us, hl with | [_], _ => rfl
  obtain ⟨fd9, F9⟩ := c.def_ 9 (d := d9) rfl
  have g9 : mg ("find_times" : Str) = some (.ref _) := He.glo_ok X G (c.fact 9 (f := .glo "find_times") rfl)
  have b9 := FunD.bindsN (ps := ["row"]) F9 fun _ _ _ _ _ _ us hl => match us, hl with | [_], _ => rfl
  obtain ⟨fd10, F10⟩ := c.def_ 10 (d := d10) rfl
  have g10 : mg ("longest_silence" : Str) = some (.ref _) := He.glo_ok X G (c.fact 10 (f := .glo "longest_silence") rfl)
  have b10 := FunD.bindsN (ps := ["row"]) F10 fun _ _ _ _ _ _ us hl => match us, hl with | [_], _ => rfl
  obtain ⟨fd11, F11⟩ := c.def_ 11 (d := d11) rfl
  have g11 : mg ("check_number" : Str) = some (.ref _) := He.glo_ok X G (c.fact 11 (f := .glo "check_number") rfl)
  have b11 := FunD.bindsN (ps := ["value", "least", "most"]) F11 fun _ _ _ _ _ _ us hl => match us, hl with | [_, _, _], _ => rfl
  obtain ⟨fd12, F12⟩ := c.def_ 12 (d := d12) rfl
  have g12 : mg ("check_short" : Str) = some (.ref _) := He.glo_ok X G (c.fact 12 (f := .glo "check_short") rfl)
  have b12 := FunD.bindsN (ps := ["value"]) F12 fun _ _ _ _ _ _ us hl => match us, hl with | [_], _ => rfl
  obtain ⟨fd13, F13⟩ := c.def_ 13 (d := d13) rfl
  have g13 : mg ("are_shifts" : Str) = some (.ref _) := He.glo_ok X G (c.fact 13 (f := .glo "are_shifts") rfl)
  have b13 := FunD.bindsN (ps := ["periods", "value"]) F13 fun _ _ _ _ _ _ us hl => match us, hl with | [_, _], _ => rfl
  obtain ⟨fd14, F14⟩ := c.def_ 14 (d := d14) rfl
  have g14 : mg ("silence_of" : Str) = some (.ref _) := He.glo_ok X G (c.fact 14 (f := .glo "silence_of") rfl)
  have b14 := FunD.bindsN (ps := ["periods", "shifts"]) F14 fun _ _ _ _ _ _ us hl => match us, hl with | [_, _], _ => rfl
  obtain ⟨fd15, F15⟩ := c.def_ 15 (d := d15) rfl
  have g15 : mg ("do_cover" : Str) = some (.ref _) := He.glo_ok X G (c.fact 15 (f := .glo "do_cover") rfl)
  have b15 := FunD.bindsN (ps := ["periods", "candidate", "silence"]) F15 fun _ _ _ _ _ _ us hl => match us, hl with | [_, _, _], _ => rfl
  obtain ⟨fd16, F16⟩ := c.def_ 16 (d := d16) rfl
  have g16 : mg ("find_best" : Str) = some (.ref _) := He.glo_ok X G (c.fact 16 (f := .glo "find_best") rfl)
  have b16 := FunD.bindsN (ps := ["periods"]) F16 fun _ _ _ _ _ _ us hl => match us, hl with | [_], _ => rfl
  obtain ⟨fd17, F17⟩ := c.def_ 17 (d := d17) rfl
  have g17 : mg ("check_product" : Str) = some (.ref _) := He.glo_ok X G (c.fact 17 (f := .glo "check_product") rfl)
  have b17 := FunD.bindsN (ps := ["periods"]) F17 fun _ _ _ _ _ _ us hl => match us, hl with | [_], _ => rfl
  obtain ⟨fd18, F18⟩ := c.def_ 18 (d := d18) rfl
  have g18 : mg ("least_silence" : Str) = some (.ref _) := He.glo_ok X G (c.fact 18 (f := .glo "least_silence") rfl)
  have b18 := FunD.bindsN (ps := ["periods"]) F18 fun _ _ _ _ _ _ us hl => match us, hl with | [_], _ => rfl
  obtain ⟨fd19, F19⟩ := c.def_ 19 (d := d19) rfl
  have g19 : mg ("covering_shifts" : Str) = some (.ref _) := He.glo_ok X G (c.fact 19 (f := .glo "covering_shifts") rfl)
  have b19 := FunD.bindsN (ps := ["periods"]) F19 fun _ _ _ _ _ _ us hl => match us, hl with | [_], _ => rfl
  obtain ⟨fd20, F20⟩ := c.def_ 20 (d := d20) rfl
  have g20 : mg ("fewest_alike" : Str) = some (.ref _) := He.glo_ok X G (c.fact 20 (f := .glo "fewest_alike") rfl)
  have b20 := FunD.bindsN (ps := ["period", "silence"]) F20 fun _ _ _ _ _ _ us hl => match us, hl with | [_, _], _ => rfl
  obtain ⟨fd21, F21⟩ := c.def_ 21 (d := d21) rfl
  have g21 : mg ("_law_drawn" : Str) = some (.ref _) := He.glo_ok X G (c.fact 21 (f := .glo "_law_drawn") rfl)
  have b21 := FunD.bindsN (ps := ["script", "k", "many"]) F21 fun _ _ _ _ _ _ us hl => match us, hl with | [_, _, _], _ => rfl
  obtain ⟨fd22, F22⟩ := c.def_ 22 (d := d22) rfl
  have g22 : mg ("law" : Str) = some (.ref _) := He.glo_ok X G (c.fact 22 (f := .glo "law") rfl)
  have b22 := FunD.bindsN (ps := ["script"]) F22 fun _ _ _ _ _ _ us hl => match us, hl with | [_], _ => rfl
  have e := hfa.symm.trans g22
  cases e
  have b := FunD.bindsA (ps := ["script"]) F22 fun _ _ _ _ _ _ us hl => match us, hl with | [_], _ => rfl
  refine ⟨fd22, fun s v => b s [v] rfl, fun base _ _ => ?_⟩
  have t0 : TabK P w K mg base (T0 WFN) 0 := by
    refine ⟨fun x n g z => (by cases z), fun x d z => ?_, fun x z => ?_, fun x z => ?_, iss_of X G ci, fun x n g z => (by cases z)⟩
    · unfold T0 cons at z; simp only [List.lookup] at z
      split at z
      · rename_i q; have q := eq_of_beq q; subst q
        obtain ⟨t, m⟩ := He.int_ok X G (c.fact 35 (f := .int "MAX_PERIOD_alarms" 60) rfl)
        have z := Option.some.inj z; subst z
        exact ⟨_, (.int 60 : V), m, ⟨t, rfl⟩, fun _ => .int _⟩
      split at z
      · rename_i q; have q := eq_of_beq q; subst q
        obtain ⟨t, m⟩ := He.int_ok X G (c.fact 36 (f := .int "MAX_ROW" 6) rfl)
        have z := Option.some.inj z; subst z
        exact ⟨_, (.int 6 : V), m, ⟨t, rfl⟩, fun _ => .int _⟩
      split at z
      · rename_i q; have q := eq_of_beq q; subst q
        obtain ⟨t, m⟩ := He.int_ok X G (c.fact 37 (f := .int "MAX_CYCLE" 5000) rfl)
        have z := Option.some.inj z; subst z
        exact ⟨_, (.int 5000 : V), m, ⟨t, rfl⟩, fun _ => .int _⟩
      split at z
      · rename_i q; have q := eq_of_beq q; subst q
        obtain ⟨t, m⟩ := He.int_ok X G (c.fact 38 (f := .int "MAX_PERIODS" 4) rfl)
        have z := Option.some.inj z; subst z
        exact ⟨_, (.int 4 : V), m, ⟨t, rfl⟩, fun _ => .int _⟩
      split at z
      · rename_i q; have q := eq_of_beq q; subst q
        obtain ⟨t, m⟩ := He.int_ok X G (c.fact 39 (f := .int "MAX_PERIOD_covering" 8) rfl)
        have z := Option.some.inj z; subst z
        exact ⟨_, (.int 8 : V), m, ⟨t, rfl⟩, fun _ => .int _⟩
      split at z
      · rename_i q; have q := eq_of_beq q; subst q
        obtain ⟨t, m⟩ := He.int_ok X G (c.fact 40 (f := .int "MAX_PRODUCT" 600) rfl)
        have z := Option.some.inj z; subst z
        exact ⟨_, (.int 600 : V), m, ⟨t, rfl⟩, fun _ => .int _⟩
      split at z
      · rename_i q; have q := eq_of_beq q; subst q
        obtain ⟨t, m⟩ := He.int_ok X G (c.fact 41 (f := .int "MAX_ALIKE" 60) rfl)
        have z := Option.some.inj z; subst z
        exact ⟨_, (.int 60 : V), m, ⟨t, rfl⟩, fun _ => .int _⟩
      cases z
    · have z : x ∈ blts := List.contains_iff_mem.mp z
      simp only [blts, List.mem_cons, List.not_mem_nil, or_false] at z
      rcases z with rfl | rfl | rfl | rfl | rfl | rfl | rfl | rfl | rfl | rfl | rfl | rfl
      · exact He.free_ok X G (c.fact 23 (f := .free "all") rfl)
      · exact He.free_ok X G (c.fact 24 (f := .free "bool") rfl)
      · exact He.free_ok X G (c.fact 25 (f := .free "enumerate") rfl)
      · exact He.free_ok X G (c.fact 26 (f := .free "int") rfl)
      · exact He.free_ok X G (c.fact 27 (f := .free "isinstance") rfl)
      · exact He.free_ok X G (c.fact 28 (f := .free "len") rfl)
      · exact He.free_ok X G (c.fact 29 (f := .free "list") rfl)
      · exact He.free_ok X G (c.fact 30 (f := .free "max") rfl)
      · exact He.free_ok X G (c.fact 31 (f := .free "min") rfl)
      · exact He.free_ok X G (c.fact 32 (f := .free "range") rfl)
      · exact He.free_ok X G (c.fact 33 (f := .free "tuple") rfl)
      · exact He.free_ok X G (c.fact 34 (f := .free "zip") rfl)
    · have z : x ∈ exs := List.contains_iff_mem.mp z
      simp only [exs, List.mem_cons, List.not_mem_nil, or_false] at z
      rcases z with rfl | rfl | rfl | rfl | rfl
      · obtain ⟨q1, q2, q3, q4⟩ := He.exc_ok (c.fact 47 (f := .exc "InvalidRow") rfl)
        exact ⟨⟨_, He.glo_ok X G (c.fact 42 (f := .glo "InvalidRow") rfl), q1, q2, q3, q4⟩⟩
      · obtain ⟨q1, q2, q3, q4⟩ := He.exc_ok (c.fact 48 (f := .exc "InvalidNumber") rfl)
        exact ⟨⟨_, He.glo_ok X G (c.fact 43 (f := .glo "InvalidNumber") rfl), q1, q2, q3, q4⟩⟩
      · obtain ⟨q1, q2, q3, q4⟩ := He.exc_ok (c.fact 49 (f := .exc "TooLarge") rfl)
        exact ⟨⟨_, He.glo_ok X G (c.fact 44 (f := .glo "TooLarge") rfl), q1, q2, q3, q4⟩⟩
      · obtain ⟨q1, q2, q3, q4⟩ := He.exc_ok (c.fact 50 (f := .exc "EmptyRow") rfl)
        exact ⟨⟨_, He.glo_ok X G (c.fact 45 (f := .glo "EmptyRow") rfl), q1, q2, q3, q4⟩⟩
      · obtain ⟨q1, q2, q3, q4⟩ := He.exc_ok (c.fact 51 (f := .exc "InvalidPeriods") rfl)
        exact ⟨⟨_, He.glo_ok X G (c.fact 46 (f := .glo "InvalidPeriods") rfl), q1, q2, q3, q4⟩⟩
  have t1 : TabK P w K mg base (T1 WFN) 1 := t0.add F0 sc0 b0 g0 (e0 WFN)
  have t2 : TabK P w K mg base (T2 WFN) 2 := t1.add F1 sc1 b1 g1 (e1 WFN)
  have t3 : TabK P w K mg base (T3 WFN) 3 := t2.add F2 sc2 b2 g2 (e2 WFN)
  have t4 : TabK P w K mg base (T4 WFN) 4 := t3.add F3 sc3 b3 g3 (e3 WFN)
  have t5 : TabK P w K mg base (T5 WFN) 5 := t4.add F4 sc4 b4 g4 (e4 WFN)
  have t6 : TabK P w K mg base (T6 WFN) 6 := t5.add F5 sc5 b5 g5 (e5 WFN)
  have t7 : TabK P w K mg base (T7 WFN) 7 := t6.add F6 sc6 b6 g6 (e6 WFN)
  have t8 : TabK P w K mg base (T8 WFN) 8 := t7.add F7 sc7 b7 g7 (e7 WFN)
  have t9 : TabK P w K mg base (T9 WFN) 9 := t8.add F8 sc8 b8 g8 (e8 WFN)
  have t10 : TabK P w K mg base (T10 WFN) 10 := t9.addL F9 sc9 b9 g9 (e9 WFN) (l9 WFN)
  have t11 : TabK P w K mg base (T11 WFN) 11 := t10.add F10 sc10 b10 g10 (e10 WFN)
  have t12 : TabK P w K mg base (T12 WFN) 12 := t11.add F11 sc11 b11 g11 (e11 WFN)
  have t13 : TabK P w K mg base (T13 WFN) 13 := t12.add F12 sc12 b12 g12 (e12 WFN)
  have t14 : TabK P w K mg base (T14 WFN) 14 := t13.add F13 sc13 b13 g13 (e13 WFN)
  have t15 : TabK P w K mg base (T15 WFN) 15 := t14.add F14 sc14 b14 g14 (e14 WFN)
  have t16 : TabK P w K mg base (T16 WFN) 16 := t15.add F15 sc15 b15 g15 (e15 WFN)
  have t17 : TabK P w K mg base (T17 WFN) 17 := t16.add F16 sc16 b16 g16 (e16 WFN)
  have t18 : TabK P w K mg base (T18 WFN) 18 := t17.add F17 sc17 b17 g17 (e17 WFN)
  have t19 : TabK P w K mg base (T19 WFN) 19 := t18.add F18 sc18 b18 g18 (e18 WFN)
  have t20 : TabK P w K mg base (T20 WFN) 20 := t19.add F19 sc19 b19 g19 (e19 WFN)
  have t21 : TabK P w K mg base (T21 WFN) 21 := t20.add F20 sc20 b20 g20 (e20 WFN)
  have t22 : TabK P w K mg base (T22 WFN) 22 := t21.add F21 sc21 b21 g21 (e21 WFN)
  have r := def_ok (wf := WFN) (mu := []) F22 sc22 t22
  rw [e22 WFN] at r
  exact r
end K58
open PySem PySem.W PySem.Calls PyProof.Rows
theorem PySem.Challenge.cw_ringtimes_k58_whole_covering_holds : PySem.Challenge.rw_ringtimes_k58_whole_covering.Holds := by
  w_on; o_law
  refine HandSHeadRun.head_any (r := OpenLaw.row PySem.Challenge.rw_ringtimes_k58_whole_covering) (q := view (OpenLaw.row PySem.Challenge.rw_ringtimes_k58_whole_covering).prog [42]) (H := K58.hk) (ob := K58.ob) (M := 20000) (loose := K58.loose) (d := HandSHeadRun.topDef (OpenLaw.row PySem.Challenge.rw_ringtimes_k58_whole_covering).prog 42) (kwd := []) K58.ob_eq
    (by kernel_rfl) (fun s => by kernel_rfl) K58.run (by kernel_rfl) (by kernel_rfl) (by kernel_rfl) (by rfl) (by first | assumption | decide +kernel) (by decide +kernel) ⟨rfl, rfl, rfl, rfl, rfl, by decide +kernel⟩ ?hw ?hc
  case hw => w_witness2
  case hc =>
    refine Rt.law_end (l := PySem.Challenge.rw_ringtimes_k58_whole_covering) (k := 23) rfl (by kernel_rfl) (by kernel_rfl) ⟨rfl, by decide, by decide⟩ (fun w mg fa h Y G hmg => ?_) K58.law_true
    obtain ⟨K, KX, nl, c, ci⟩ := Y
    obtain ⟨fd, hb, hF⟩ := K58.facts (P := (PySem.Challenge.rw_ringtimes_k58_whole_covering).prog) (w := w) KX G hmg c ci
    exact ⟨K, fd, KX, nl, hb, hF⟩

