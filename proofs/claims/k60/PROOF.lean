import PyProof.Rows.All
import Wide.All
import OpenK.AllK
import Wide.FinOn
import HandS.ForMost
import HandS.ForExc
import HandS.Lambda
import HandS.Nested
import HandS.NestedK
import HandS.EndTab
import HandS.Wide
import HandS.Gcd
import HandS.IsInst
import HandS.Deep
import HandS.TupAny
import KE.GoesZip
import KE.GoesEnum
import KE.GoesMore
import HandS.Zip
import HandS.Iter
import HandS.TupLen
import HandS.ExcOwn
import HandS.CallSlots
import HandS.Defaults
import HandS.Conv
import HandS.SortInts
import HandS.Head0
import HandS.Head1
import HandS.Head2
import HandS.Head3
import HandS.HeadHook1
import HandS.HeadHook2
import HandS.HeadHook3
import HandS.HeadHook4
import HandS.HeadEnd
import HandS.HeadWalk
import HandS.Star
import HandS.TupSets
import HandS.Style
import HandS.TupMul
import KE.KTupSum
import PySem.Challenge.RW_mindmeans_k60_whole_minds_that_come_agai
set_option Elab.async false
set_option linter.all false
set_option maxRecDepth 100000
set_option maxHeartbeats 0
/-! A plain semantics (no heap) of the part of Python that the texts use. Values, slots, what a piece of code gives. -/
namespace Mnd
open PySem

/-- a value without a heap: lists and dicts that nobody changes any more are values; a list that is changed through several names is a number of the store -/
inductive D where
  | non | bl (b : Bool) | int (i : Int) | str (x : Str)
  | tup (xs : List D) | lst (xs : List D) | dct (ks vs : List D)
  | scr (ns : List Int)
  | cir (p t : D)
  | ref (l : Nat)
  deriving Inhabited

/-- an exception of the program's own: its class, what it keeps -/
inductive Xc where
  | mk (cls : Str) (arg : Option (Str × D))

/-- the store: lists that are changed through several names -/
abbrev W := List (List D)
/-- what a function gives -/
inductive FR (α : Type) where
  | ok (a : α) (w : W) | ex (x : Xc) (w : W) | bad
abbrev Clo := List D → W → FR D
/-- a slot: none, a value, a list or dict of one's own, a function -/
inductive Sl where
  | no | val (d : D) | own (d : D) | fn (k : Nat) (g : Clo)
  deriving Inhabited
abbrev Env := List Sl
abbrev Fn := List Sl → W → FR Sl
/-- what a piece of code gives, from slots and store -/
inductive MR (α : Type) where
  | ok (a : α) (e : Env) (w : W) | ex (x : Xc) (e : Env) (w : W) | bad
abbrev M (α : Type) := Env → W → MR α

def ret {α : Type} (a : α) : M α := fun e w => .ok a e w
def bnd {α β : Type} (m : M α) (f : α → M β) : M β := fun e w => match m e w with
  | .ok a e' w' => f a e' w'
  | .ex x e' w' => .ex x e' w'
  | .bad => .bad
def bad {α : Type} : M α := fun _ _ => .bad
def lift {α : Type} : Option α → M α
  | some a => ret a
  | none => bad

/-- an operand: a value, or a slot that is looked at when the operation is done -/
inductive Opd where
  | d (v : D) | sl (i : Nat)
def slotD : Option Sl → Option D
  | some (.val d) => some d
  | some (.own d) => some d
  | _ => none
/-- the operand as it is now -/
def look : Opd → M D
  | .d v => ret v
  | .sl i => fun e w => match slotD e[i]? with
    | some d => .ok d e w
    | none => .bad
/-- the operand as a value for ever: a list of one's own is never changed again -/
def frz : Opd → M D
  | .d v => ret v
  | .sl i => fun e w => match e[i]? with
    | some (.val d) => .ok d e w
    | some (.own d) => .ok d (e.set i (.val d)) w
    | _ => .bad

/-! ### expressions -/
def eVar (i : Nat) : M Opd := fun e w => match slotD e[i]? with
  | some _ => .ok (.sl i) e w
  | none => .bad
def eC (v : D) : M Opd := ret (.d v)
def eInt (i : Int) : M Opd := eC (.int i)
def eUn (f : D → Option D) (a : M Opd) : M Opd := bnd a fun x => bnd (look x) fun u => lift ((f u).map .d)
def eBin (f : D → D → Option D) (a b : M Opd) : M Opd := bnd a fun x => bnd b fun y => bnd (look x) fun u => bnd (look y) fun v => lift ((f u v).map .d)
/-- arguments and items: each is a value for ever as soon as it is reckoned -/
def aNil : M (List D) := ret []
def aCons (a : M Opd) (r : M (List D)) : M (List D) := bnd a fun o => bnd (frz o) fun d => bnd r fun ds => ret (d :: ds)
def eTup (a : M (List D)) : M Opd := bnd a fun ds => ret (.d (.tup ds))
def eLst (a : M (List D)) : M Opd := bnd a fun ds => ret (.d (.lst ds))

/-! ### tests -/
def tVal (a : M Opd) : M Bool := bnd a fun o => bnd (look o) fun d => match d with
  | .bl b => ret b
  | _ => bad
def tNot (a : M Bool) : M Bool := bnd a fun b => ret (!b)
def tAnd (a b : M Bool) : M Bool := bnd a fun c => if c then b else ret false
def tOr (a b : M Bool) : M Bool := bnd a fun c => if c then ret true else b
def eOfT (a : M Bool) : M Opd := bnd a fun b => ret (.d (.bl b))
def eIf (t : M Bool) (a b : M Opd) : M Opd := bnd t fun c => if c then a else b

/-! ### operations on values -/
def dAdd : D → D → Option D
  | .int i, .int j => some (.int (i + j))
  | .tup xs, .tup ys => if xs.length + ys.length ≤ 100000 then some (.tup (xs ++ ys)) else none
  | .lst xs, .lst ys => if xs.length + ys.length ≤ 100000 then some (.lst (xs ++ ys)) else none
  | .str x, .str y => if x.length + y.length ≤ 100000 then some (.str (x ++ y)) else none
  | _, _ => none
def dSub : D → D → Option D
  | .int i, .int j => some (.int (i - j))
  | _, _ => none
/-- both together below 2^400000 -/
def dMul : D → D → Option D
  | .int i, .int j => if i.natAbs.log2 + j.natAbs.log2 ≤ 400000 then some (.int (i * j)) else none
  | _, _ => none
def dFdiv : D → D → Option D
  | .int i, .int j => if j ≠ 0 ∧ j.natAbs.log2 < 8000 then some (.int (i.fdiv j)) else none
  | _, _ => none
def dMod : D → D → Option D
  | .int i, .int j => if j ≠ 0 then some (.int (i.fmod j)) else none
  | _, _ => none
def dNeg : D → Option D
  | .int i => some (.int (-i))
  | _ => none
def allI : List D → Option (List Int)
  | [] => some []
  | .int b :: r => (allI r).map (b :: ·)
  | _ :: _ => none
def dLt : D → D → Option D
  | .int i, .int j => some (.bl (decide (i < j)))
  | .str x, .str y => some (.bl (decide (x.cps.toList < y.cps.toList)))
  | .tup xs, .tup ys => match allI xs, allI ys with
    | some ns, some ms => some (.bl (HT.lexLt ns ms))
    | _, _ => none
  | _, _ => none
def dLe : D → D → Option D
  | .int i, .int j => some (.bl (decide (i ≤ j)))
  | _, _ => none
def dGt : D → D → Option D
  | .int i, .int j => some (.bl (decide (j < i)))
  | _, _ => none
def dGe : D → D → Option D
  | .int i, .int j => some (.bl (decide (j ≤ i)))
  | _, _ => none

mutual
def D.py : D → Option PyData
  | .non => some .none
  | .bl b => some (.bool b)
  | .int i => some (.int i)
  | .str x => some (.str x)
  | .tup xs => (D.pys xs).map .tuple
  | .lst xs => (D.pys xs).map .list
  | .scr ns => some (.list (ns.map .int))
  | _ => none
def D.pys : List D → Option (List PyData)
  | [] => some []
  | x :: xs => match D.py x, D.pys xs with
    | some a, some b => some (a :: b)
    | _, _ => none
end
def dEqB (x y : D) : Option Bool := match x.py, y.py with
  | some a, some b => if SeqAt.shaped a && SeqAt.shaped b then some (PyData.eqv a b) else none
  | _, _ => none
def dEq (x y : D) : Option D := (dEqB x y).map .bl
def dNe (x y : D) : Option D := (dEqB x y).map fun b => .bl (!b)
/-- a place of a row -/
def dIx : D → D → Option D
  | .tup xs, .int i => L2.atI xs i
  | .lst xs, .int i => L2.atI xs i
  | .scr ns, .int i => (L2.atI ns i).map .int
  | .str x, .int i => if x.length ≤ 100000 then (L2.atI x.cps.toList i).map fun c => .str ⟨#[c]⟩ else none
  | _, _ => none
def dLen : D → Option D
  | .tup xs => some (.int xs.length)
  | .lst xs => some (.int xs.length)
  | .scr ns => some (.int ns.length)
  | .str x => if x.length ≤ 100000 then some (.int x.length) else none
  | .dct ks _ => some (.int ks.length)
  | _ => none
def cutL {α : Type} (xs : List α) (lo hi : Option Int) : List α := (xs.drop (HT.sIx xs.length 0 lo)).take (HT.sIx xs.length xs.length hi - HT.sIx xs.length 0 lo)
def dCut : D → Option Int → Option Int → Option D
  | .tup xs, lo, hi => some (.tup (cutL xs lo hi))
  | .lst xs, lo, hi => some (.lst (cutL xs lo hi))
  | .scr ns, lo, hi => some (.lst ((cutL ns lo hi).map .int))
  | _, _, _ => none
def dAbs : D → Option D
  | .int i => some (.int (if i < 0 then -i else i))
  | _ => none
def dInt : D → Option D
  | .int i => some (.int i)
  | .bl b => some (.int (if b then 1 else 0))
  | _ => none
def dMin : D → D → Option D
  | .int i, .int j => some (.int (if j < i then j else i))
  | _, _ => none
def dMax : D → D → Option D
  | .int i, .int j => some (.int (if j > i then j else i))
  | _, _ => none
def dTupOf : D → Option D
  | .tup xs => some (.tup xs)
  | .lst xs => some (.tup xs)
  | .scr ns => some (.tup (ns.map .int))
  | _ => none
def dLstOf : D → Option D
  | .tup xs => some (.lst xs)
  | .lst xs => some (.lst xs)
  | .scr ns => some (.lst (ns.map .int))
  | _ => none
def allB : List D → Option (List Bool)
  | [] => some []
  | .bl b :: r => (allB r).map (b :: ·)
  | _ :: _ => none
def dAll : D → Option D
  | .lst xs => (allB xs).map fun bs => .bl (bs.all id)
  | _ => none
def dAny : D → Option D
  | .lst xs => (allB xs).map fun bs => .bl (bs.any id)
  | _ => none
def dSum : D → Option D
  | .lst xs => (allI xs).map fun ns => .int ns.sum
  | .scr ns => some (.int ns.sum)
  | _ => none
def dGcd : D → D → Option D
  | .int i, .int j => if i.natAbs.log2 < 8000 ∧ j.natAbs.log2 < 8000 then some (.int (Int.gcd i j)) else none
  | _, _ => none
def dDivmod : D → D → Option D
  | .int i, .int j => if 0 < j ∧ j < 1073741824 then some (.tup [.int (i / j), .int (i % j)]) else none
  | _, _ => none
inductive Ty where
  | int | bool | str | tuple | list | dict | circle
/-- isinstance -/
def dIs (t : Ty) : D → Option D
  | .non => some (.bl false)
  | .bl _ => some (.bl (match t with | .int => true | .bool => true | _ => false))
  | .int _ => some (.bl (match t with | .int => true | _ => false))
  | .str _ => some (.bl (match t with | .str => true | _ => false))
  | .tup _ => some (.bl (match t with | .tuple => true | _ => false))
  | .lst _ => some (.bl (match t with | .list => true | _ => false))
  | .scr _ => some (.bl (match t with | .list => true | _ => false))
  | .dct _ _ => some (.bl (match t with | .dict => true | _ => false))
  | .cir _ _ => some (.bl (match t with | .circle => true | _ => false))
  | .ref _ => some (.bl (match t with | .list => true | _ => false))
def dIsN : D → Option D
  | .non => some (.bl true)
  | _ => some (.bl false)
def dIsNotN : D → Option D
  | .non => some (.bl false)
  | _ => some (.bl true)

def ixM : D → D → M Opd
  | .ref l, .int i => fun e w => match w[l]? with
    | some xs => (lift ((L2.atI xs i).map Opd.d) : M Opd) e w
    | none => .bad
  | u, v => lift ((dIx u v).map Opd.d)
def eIx (a b : M Opd) : M Opd := bnd a fun x => bnd b fun y => bnd (look x) fun u => bnd (look y) fun v => ixM u v
def pNone : M (Option Int) := ret none
def pSome (a : M Opd) : M (Option Int) := bnd a fun o => bnd (look o) fun d => match d with
  | .int i => ret (some i)
  | _ => bad
def eCut (a : M Opd) (lo hi : M (Option Int)) : M Opd := bnd a fun x => bnd lo fun l => bnd hi fun h => bnd (look x) fun u => lift ((dCut u l h).map .d)

/-! ### calls -/
def kNil : M (List Sl) := ret []
/-- an argument that is a value -/
def kVal (a : M Opd) (r : M (List Sl)) : M (List Sl) := bnd a fun o => bnd (frz o) fun d => bnd r fun ds => ret (.val d :: ds)
/-- an argument that is a function: a slot's -/
def kFn (i : Nat) (r : M (List Sl)) : M (List Sl) := fun e w => match e[i]? with
  | some (.fn k g) => bnd r (fun ds => ret (.fn k g :: ds)) e w
  | _ => .bad
/-- a def as an argument -/
def kDef (k : Nat) (g : Clo) (r : M (List Sl)) : M (List Sl) := bnd r fun ds => ret (.fn k g :: ds)
def call (f : Fn) (a : M (List Sl)) : M Sl := bnd a fun as => fun e w => match f as w with
  | .ok s w' => .ok s e w'
  | .ex x w' => .ex x e w'
  | .bad => .bad
def slV : Sl → Option Opd
  | .val d => some (.d d)
  | .own d => some (.d d)
  | _ => none
def eCall (f : Fn) (a : M (List Sl)) : M Opd := bnd (call f a) fun s => lift (slV s)
/-- the function in a slot is called -/
def eCallS (n i : Nat) (a : M (List D)) : M Opd := fun e w => match e[i]? with
  | some (.fn k g) => if k ≤ n then bnd a (fun ds => fun e w => match g ds w with
    | .ok d w' => .ok (.d d) e w'
    | .ex x w' => .ex x e w'
    | .bad => .bad) e w else .bad
  | _ => .bad
def cloOf (f : Fn) : Clo := fun ds w => match f (ds.map .val) w with
  | .ok (.val d) w' => .ok d w'
  | .ok (.own d) w' => .ok d w'
  | .ok _ _ => .bad
  | .ex x w' => .ex x w'
  | .bad => .bad

/-- what a lambda's slots captured -/
def capE : List Nat → M (List Sl)
  | [] => ret []
  | j :: js => fun e w => match e[j]? with
    | some (.val d) => bnd (capE js) (fun r => ret (.val d :: r)) e w
    | some (.own d) => bnd (capE js) (fun r => ret (.val d :: r)) (e.set j (.val d)) w
    | some (.fn k g) => bnd (capE js) (fun r => ret (.fn k g :: r)) e w
    | _ => .bad
/-- a lambda with np parameters, n slots -/
def lamC (n np : Nat) (body : M Opd) (caps : List Sl) : Clo := fun ds w => if ds.length = np then match bnd body (fun o => bnd (frz o) fun d => ret d) (ds.map .val ++ caps ++ List.replicate (n - np - caps.length) .no) w with
  | .ok d _ w' => .ok d w'
  | .ex x _ w' => .ex x w'
  | .bad => .bad else .bad
def kLam (k n np : Nat) (js : List Nat) (body : M Opd) : M (List Sl) := bnd (capE js) fun caps => ret [.fn k (lamC n np body caps)]
/-! ### what is walked -/
def dItems : D → Option (List D)
  | .tup xs => some xs
  | .lst xs => some xs
  | .scr ns => some (ns.map .int)
  | .dct ks _ => some ks
  | .str x => some (x.cps.toList.map fun c => .str ⟨#[c]⟩)
  | _ => none
def iRange (a : M (List D)) : M (List D) := bnd a fun ds => match ds with
  | [.int n] => if n ≤ 100000 ∧ -100000 ≤ n then ret ((List.range n.toNat).map fun (k : Nat) => .int k) else bad
  | [.int m, .int n] => if -100000 ≤ m ∧ m ≤ 100000 ∧ -100000 ≤ n ∧ n ≤ 100000 then ret ((List.range (n - m).toNat).map fun (k : Nat) => .int (m + k)) else bad
  | _ => bad
def zipD : List D → List D → List D
  | x :: xs, y :: ys => .tup [x, y] :: zipD xs ys
  | _, _ => []
def enumD (n : Nat) : List D → List D
  | [] => []
  | x :: xs => .tup [.int n, x] :: enumD (n + 1) xs
def seqItems : D → Option (List D)
  | .tup xs => some xs
  | .lst xs => some xs
  | .scr ns => some (ns.map .int)
  | _ => none
def iSeq (a : M Opd) : M (List D) := bnd a fun o => bnd (frz o) fun d => lift (seqItems d)
def iZip (a : M (List D)) : M (List D) := bnd a fun ds => match ds with
  | [x, y] => match seqItems x, seqItems y with
    | some xs, some ys => ret (zipD xs ys)
    | _, _ => bad
  | _ => bad
def iEnum (a : M (List D)) : M (List D) := bnd a fun ds => match ds with
  | [x] => match seqItems x with
    | some xs => ret (enumD 0 xs)
    | none => bad
  | _ => bad

/-! ### targets -/
def gVar (i : Nat) : D → M Unit := fun d e w => if i < e.length then .ok () (e.set i (.val d)) w else .bad
def gNil : List D → M Unit
  | [] => ret ()
  | _ :: _ => bad
def gCons (g : D → M Unit) (r : List D → M Unit) : List D → M Unit
  | [] => bad
  | d :: ds => bnd (g d) fun _ => r ds
def gTup (n : Nat) (g : List D → M Unit) : D → M Unit
  | .tup ds => if ds.length = n then g ds else bad
  | _ => bad
/-- a place of a row that is one's own, or of a row of the store -/
def putAt (i : Nat) (k : Int) (d : D) : M Unit := fun e w => match e[i]? with
  | some (.own (.lst xs)) => match L2.ixN xs.length k with
    | some j => .ok () (e.set i (.own (.lst (xs.set j d)))) w
    | none => .bad
  | some (.val (.ref l)) => match w[l]? with
    | some xs => match L2.ixN xs.length k with
      | some j => .ok () e (w.set l (xs.set j d))
      | none => .bad
    | none => .bad
  | _ => .bad
def gIx (i : Nat) (k : M Opd) : D → M Unit := fun d => bnd (eVar i) fun _ => bnd k fun o => bnd (look o) fun u => match u with
  | .int k => putAt i k d
  | _ => bad

/-! ### comprehensions -/
def isOwn : Option Sl → Bool
  | some (.own _) => true
  | _ => false
def wipeE (e : Env) : List Nat → Env
  | [] => e
  | v :: vs => (wipeE e vs).set v .no
/-- the slots of vs as in e -/
def backE (e e' : Env) : List Nat → Env
  | [] => e'
  | v :: vs => match e[v]? with
    | some s => (backE e e' vs).set v s
    | none => backE e e' vs
def compL (vs : List Nat) (g : D → M Unit) (t : M Bool) (elt : M Opd) : List D → M (List D)
  | [] => ret []
  | x :: xs => bnd (fun e w => .ok () (wipeE e vs) w) fun _ => bnd (g x) fun _ => bnd t fun b =>
      if b then bnd elt fun o => bnd (frz o) fun d => bnd (compL vs g t elt xs) fun ds => ret (d :: ds) else compL vs g t elt xs
def comp (vs : List Nat) (it : M (List D)) (g : D → M Unit) (t : M Bool) (elt : M Opd) : M (List D) := bnd it fun items => fun e w =>
  if vs.any (fun v => isOwn e[v]?) || decide (100000 < items.length) then .bad else
  match compL vs g t elt items e w with
  | .ok ds e' w' => .ok ds (backE e e' vs) w'
  | _ => .bad
def tYes : M Bool := ret true
def eComp (vs : List Nat) (it : M (List D)) (g : D → M Unit) (t : M Bool) (elt : M Opd) : M Opd := bnd (comp vs it g t elt) fun ds => ret (.d (.lst ds))

/-! ### what is one's own -/
def oVal (a : M Opd) : M Sl := bnd a fun o => bnd (frz o) fun d => ret (.val d)
def oLst (a : M (List D)) : M Sl := bnd a fun ds => ret (.own (.lst ds))
def oComp (vs : List Nat) (it : M (List D)) (g : D → M Unit) (t : M Bool) (elt : M Opd) : M Sl := bnd (comp vs it g t elt) fun ds => ret (.own (.lst ds))
def oBin (f : D → D → Option D) (a b : M Opd) : M Sl := bnd a fun x => bnd b fun y => bnd (look x) fun u => bnd (look y) fun v => lift ((f u v).map .own)
def oCut (a : M Opd) (lo hi : M (Option Int)) : M Sl := bnd a fun x => bnd lo fun l => bnd hi fun h => bnd (look x) fun u => lift (match u, dCut u l h with
  | .lst _, some d => some (.own d)
  | .scr _, some d => some (.own d)
  | _, _ => none)
def oUn (f : D → Option D) (a : M Opd) : M Sl := bnd a fun x => bnd (look x) fun u => lift ((f u).map .own)
def oVar (i : Nat) : M Sl := fun e w => match e[i]? with
  | some (.val d) => .ok (.val d) e w
  | some (.own d) => .ok (.own d) e w
  | _ => .bad

/-! ### statements -/
inductive Flow where
  | next | ret (s : Sl) | brk | cnt
def sNil : M Flow := ret .next
def sSeq (a b : M Flow) : M Flow := bnd a fun f => match f with
  | .next => b
  | f => ret f
def sRet (a : M Sl) : M Flow := bnd a fun s => ret (.ret s)
def sExpr (a : M Opd) : M Flow := bnd a fun _ => ret .next
def put (i : Nat) (s : Sl) : M Unit := fun e w => if i < e.length then .ok () (e.set i s) w else .bad
def sSet (i : Nat) (a : M Sl) : M Flow := bnd a fun s => bnd (put i s) fun _ => ret .next
def sPar (i j : Nat) (a b : M Sl) : M Flow := bnd a fun s => bnd b fun t => bnd (put i s) fun _ => bnd (put j t) fun _ => ret .next
def sAsg (a : M Opd) (g : D → M Unit) : M Flow := bnd a fun o => bnd (frz o) fun d => bnd (g d) fun _ => ret .next
def sIf (t : M Bool) (a b : M Flow) : M Flow := bnd t fun c => if c then a else b
def sAppend (i : Nat) (a : M Opd) : M Flow := fun e w => match slotD e[i]? with
  | some (.lst _) => bnd a (fun o => bnd (frz o) fun d => fun e w => match e[i]? with
    | some (.own (.lst xs)) => if xs.length < 100000 then .ok .next (e.set i (.own (.lst (xs ++ [d])))) w else .bad
    | _ => .bad) e w
  | _ => .bad
def ePopAt (i : Nat) (a : M Opd) : M Opd := fun e w => match slotD e[i]? with
  | some (.lst _) => bnd a (fun o => bnd (look o) fun d => fun e w => match e[i]?, d with
    | some (.own (.lst xs)), .int k => if -100000 ≤ k ∧ k ≤ 100000 then (match L2.ixN xs.length k with
      | some j => match xs[j]? with
        | some y => .ok (.d y) (e.set i (.own (.lst (xs.eraseIdx j)))) w
        | none => .bad
      | none => .bad) else .bad
    | _, _ => .bad) e w
  | _ => .bad
def forL (g : D → M Unit) (b : M Flow) : List D → M Flow
  | [] => ret .next
  | x :: xs => bnd (g x) fun _ => bnd b fun f => match f with
    | .next => forL g b xs
    | .cnt => forL g b xs
    | .brk => ret .next
    | .ret s => ret (.ret s)
def sFor (it : M (List D)) (g : D → M Unit) (b : M Flow) : M Flow := bnd it fun items => forL g b items
/-- so many turns of a while; none: it is not through -/
def whileN (t : M Bool) (b : M Flow) : Nat → Env → W → Option (MR Flow)
  | 0, _, _ => none
  | n + 1, e, w => match t e w with
    | .ok true e1 w1 => match b e1 w1 with
      | .ok .next e2 w2 => whileN t b n e2 w2
      | .ok .cnt e2 w2 => whileN t b n e2 w2
      | .ok .brk e2 w2 => some (.ok .next e2 w2)
      | .ok (.ret s) e2 w2 => some (.ok (.ret s) e2 w2)
      | .ex x e2 w2 => some (.ex x e2 w2)
      | .bad => some .bad
    | .ok false e1 w1 => some (.ok .next e1 w1)
    | .ex x e1 w1 => some (.ex x e1 w1)
    | .bad => some .bad
open Classical in
noncomputable def sWhile (t : M Bool) (b : M Flow) : M Flow := fun e w => if h : ∃ n r, whileN t b n e w = some r then (Classical.choose h.choose_spec) else .bad
/-- a def: n slots, of which the first np are the parameters -/
def mkFn (n np : Nat) (body : M Flow) : Fn := fun args w => if args.length = np then match body (args ++ List.replicate (n - np) .no) w with
  | .ok (.ret s) _ w' => .ok s w'
  | .ok .next _ w' => .ok (.val .non) w'
  | .ok _ _ _ => .bad
  | .ex x _ w' => .ex x w'
  | .bad => .bad else .bad
end Mnd
/-! What a value of the plain semantics is in a heap; what slots and store are; what it means that a piece of code is told by a plain term. -/
namespace Mnd
open PySem L2

/-- what is fixed through a law -/
structure Cg where
  P : Program
  w : World
  K : PySem.W.Frag
  mg : Str → Option Value
  base : Heap
  C : Addr
  T : List (Addr × Str)
  /-- there are tuples among the module's constants -/
  kc : Bool
/-- F: what is never changed any more; Z: what others own and is kept; mu: the store's lists -/
structure Gh where
  F : Hp
  Z : Hp
  mu : List Addr
def keyD : Key → D
  | .inl i => .int i
  | .inr x => .str x
/-- keys are ints and texts where the module has tuples among its constants, else tuples of them -/
def dctIs (b : Bool) (o : Option HO) (ks : List D) (vs : List V) : Prop :=
  (∃ kvs : List (Key × V), o = some (.dK kvs) ∧ ks = kvs.map (fun p => keyD p.1) ∧ vs = kvs.map (·.2) ∧ b = true) ∨
  (∃ kvs : List (List Key × V), o = some (.dT kvs) ∧ ks = kvs.map (fun p => .tup (p.1.map keyD)) ∧ vs = kvs.map (·.2) ∧ b = false)
mutual
def RepD (Γ : Cg) (F : Hp) (mu : List Addr) : D → V → Prop
  | .non, v => v = .non
  | .bl b, v => v = .bl b
  | .int i, v => v = .int i
  | .str x, v => v = .str x
  | .tup ds, v => ∃ a vs, v = .ref a ∧ (SqT Γ.K F a vs ∧ (Γ.kc = false → F a = some (.tup vs))) ∧ RepDs Γ F mu ds vs
  | .lst ds, v => ∃ a vs, v = .ref a ∧ F a = some (.lst vs) ∧ RepDs Γ F mu ds vs
  | .dct ks ds, v => ∃ a vs, v = .ref a ∧ dctIs Γ.kc (F a) ks vs ∧ RepDs Γ F mu ds vs
  | .scr ns, v => ∃ a, v = .ref a ∧ SqL Γ.K F a (ns.map V.int)
  | .cir p r, v => ∃ a dx t tv vp vr, v = .ref a ∧ F a = some (.ins Γ.C dx [("all_told", .ref t)]) ∧ SqT Γ.K F t tv ∧ tv = [vp, vr] ∧ RepD Γ F mu p vp ∧ RepD Γ F mu r vr
  | .ref l, v => ∃ a, v = .ref a ∧ mu[l]? = some a
def RepDs (Γ : Cg) (F : Hp) (mu : List Addr) : List D → List V → Prop
  | [], vs => vs = []
  | d :: ds, vs => ∃ v r, vs = v :: r ∧ RepD Γ F mu d v ∧ RepDs Γ F mu ds r
end
/-- a list or dict of one's own, at a -/
def RepOwn (Γ : Cg) (F : Hp) (mu : List Addr) (H : Hp) (a : Addr) : D → Prop
  | .lst ds => ∃ vs, H a = some (.lst vs) ∧ RepDs Γ F mu ds vs
  | .dct ks ds => ∃ vs, dctIs Γ.kc (H a) ks vs ∧ RepDs Γ F mu ds vs
  | _ => False
def RepX (Γ : Cg) (G : Gh) : Xc → Value → Option Addr → Prop
  | .mk c none, cls, d => Γ.mg c = some cls ∧ d = none
  | .mk c (some (f, v)), cls, d => Γ.mg c = some cls ∧ ∃ a x, d = some a ∧ G.F a = some (.xd [(f, x)]) ∧ RepD Γ G.F G.mu v x

def Sub (F F' : Hp) : Prop := ∀ a o, F a = some o → F' a = some o
theorem Sub.refl (F : Hp) : Sub F F := fun _ _ h => h
theorem Sub.trans {F F' F'' : Hp} (a : Sub F F') (b : Sub F' F'') : Sub F F'' := fun x o h => b x o (a x o h)
theorem sub_upd {F : Hp} {p : Addr} {o : HO} (h : F p = none) : Sub F (upd F p o) := fun a u e => by
  rw [upd_ne (ne_of_none e h)]; exact e
theorem sub_rd {F F' : Hp} {a : Addr} {u : HO} (s : Sub F F') (h : Rd F a u) : Rd F' a u := by
  rcases h with h | ⟨o, h⟩
  · exact .inl (s _ _ h)
  · exact .inr ⟨o, s _ _ h⟩
theorem sub_sqT {K : PySem.W.Frag} {F F' : Hp} {a : Addr} {xs : List V} (s : Sub F F') (h : SqT K F a xs) : SqT K F' a xs := by
  rcases h with h | h
  · exact .inl (sub_rd s h)
  · exact .inr h
theorem sub_dct {b : Bool} {F F' : Hp} {a : Addr} {ks : List D} {vs : List V} (s : Sub F F') (h : dctIs b (F a) ks vs) : dctIs b (F' a) ks vs := by
  rcases h with ⟨kvs, h, r⟩ | ⟨kvs, h, r⟩
  · exact .inl ⟨kvs, s _ _ h, r⟩
  · exact .inr ⟨kvs, s _ _ h, r⟩
mutual
theorem RepD.mono {Γ : Cg} {F F' : Hp} {mu mu' : List Addr} (s : Sub F F') (m : mu <+: mu') : ∀ {d : D} {v : V}, RepD Γ F mu d v → RepD Γ F' mu' d v
  | .non, _, h => h
  | .bl _, _, h => h
  | .int _, _, h => h
  | .str _, _, h => h
  | .tup ds, v, h => by
    unfold RepD at h ⊢
    obtain ⟨a, vs, e, ⟨q, q'⟩, r⟩ := h
    exact ⟨a, vs, e, ⟨sub_sqT s q, fun z => s _ _ (q' z)⟩, RepDs.mono s m r⟩
  | .lst ds, v, h => by
    unfold RepD at h ⊢
    obtain ⟨a, vs, e, q, r⟩ := h
    exact ⟨a, vs, e, s _ _ q, RepDs.mono s m r⟩
  | .dct ks ds, v, h => by
    unfold RepD at h ⊢
    obtain ⟨a, vs, e, q, r⟩ := h
    exact ⟨a, vs, e, sub_dct s q, RepDs.mono s m r⟩
  | .scr ns, v, h => by
    unfold RepD at h ⊢
    obtain ⟨a, e, q⟩ := h
    exact ⟨a, e, q.imp (sub_rd s) id⟩
  | .cir p t, v, h => by
    unfold RepD at h ⊢
    obtain ⟨a, dx, t, tv, vp, vr, e, q, q2, q3, q4, q5⟩ := h
    exact ⟨a, dx, t, tv, vp, vr, e, s _ _ q, sub_sqT s q2, q3, RepD.mono s m q4, RepD.mono s m q5⟩
  | .ref l, v, h => by
    unfold RepD at h ⊢
    obtain ⟨a, e, q⟩ := h
    refine ⟨a, e, ?_⟩
    obtain ⟨t, rfl⟩ := m
    rw [List.getElem?_append_left (List.getElem?_eq_some_iff.mp q).1]; exact q
theorem RepDs.mono {Γ : Cg} {F F' : Hp} {mu mu' : List Addr} (s : Sub F F') (m : mu <+: mu') : ∀ {ds : List D} {vs : List V}, RepDs Γ F mu ds vs → RepDs Γ F' mu' ds vs
  | [], _, h => by unfold RepDs at h ⊢; exact h
  | d :: ds, vs, h => by
    unfold RepDs at h ⊢
    obtain ⟨v, r, e, q1, q2⟩ := h
    exact ⟨v, r, e, RepD.mono s m q1, RepDs.mono s m q2⟩
end
section
variable {Γ : Cg} {F : Hp} {mu : List Addr}
theorem RepDs.length : ∀ {ds : List D} {vs : List V}, RepDs Γ F mu ds vs → vs.length = ds.length
  | [], _, h => by unfold RepDs at h; subst h; rfl
  | d :: ds, vs, h => by
    unfold RepDs at h
    obtain ⟨v, r, rfl, _, q⟩ := h
    simp [RepDs.length q]
theorem RepDs.get : ∀ {ds : List D} {vs : List V} {i : Nat} {d : D}, RepDs Γ F mu ds vs → ds[i]? = some d → ∃ v, vs[i]? = some v ∧ RepD Γ F mu d v
  | [], _, _, _, _, e => by simp at e
  | d :: ds, vs, 0, d', h, e => by
    unfold RepDs at h
    obtain ⟨v, r, rfl, q, _⟩ := h
    simp at e; subst e
    exact ⟨v, rfl, q⟩
  | d :: ds, vs, i + 1, d', h, e => by
    unfold RepDs at h
    obtain ⟨v, r, rfl, _, q⟩ := h
    obtain ⟨v', e', q'⟩ := RepDs.get (i := i) q (by simpa using e)
    exact ⟨v', by simpa using e', q'⟩
theorem RepDs.getV {ds : List D} {vs : List V} {i : Nat} {v : V} (h : RepDs Γ F mu ds vs) (e : vs[i]? = some v) : ∃ d, ds[i]? = some d ∧ RepD Γ F mu d v := by
  have l := h.length
  have hi : i < ds.length := by
    rw [← l]; exact (List.getElem?_eq_some_iff.mp e).1
  obtain ⟨v', e', q⟩ := h.get (List.getElem?_eq_getElem hi)
  rw [e] at e'; cases e'
  exact ⟨_, List.getElem?_eq_getElem hi, q⟩
theorem RepDs.append : ∀ {ds es : List D} {vs us : List V}, RepDs Γ F mu ds vs → RepDs Γ F mu es us → RepDs Γ F mu (ds ++ es) (vs ++ us)
  | [], _, _, _, h, q => by unfold RepDs at h; subst h; exact q
  | d :: ds, es, vs, us, h, q => by
    unfold RepDs at h
    obtain ⟨v, r, rfl, q1, q2⟩ := h
    show RepDs Γ F mu (d :: (ds ++ es)) (v :: (r ++ us))
    unfold RepDs
    exact ⟨v, _, rfl, q1, RepDs.append q2 q⟩
theorem RepDs.nil : RepDs Γ F mu [] [] := by unfold RepDs; rfl
theorem RepDs.cons {d : D} {ds : List D} {v : V} {vs : List V} (h : RepD Γ F mu d v) (q : RepDs Γ F mu ds vs) : RepDs Γ F mu (d :: ds) (v :: vs) := by
  unfold RepDs; exact ⟨v, vs, rfl, h, q⟩
theorem RepDs.one {d : D} {v : V} (h : RepD Γ F mu d v) : RepDs Γ F mu [d] [v] := .cons h .nil
theorem RepDs.take : ∀ {ds : List D} {vs : List V} (n : Nat), RepDs Γ F mu ds vs → RepDs Γ F mu (ds.take n) (vs.take n)
  | [], _, n, h => by unfold RepDs at h; subst h; simp; exact .nil
  | d :: ds, vs, 0, h => .nil
  | d :: ds, vs, n + 1, h => by
    unfold RepDs at h
    obtain ⟨v, r, rfl, q1, q2⟩ := h
    exact .cons q1 (RepDs.take n q2)
theorem RepDs.drop : ∀ {ds : List D} {vs : List V} (n : Nat), RepDs Γ F mu ds vs → RepDs Γ F mu (ds.drop n) (vs.drop n)
  | [], _, n, h => by unfold RepDs at h; subst h; simp; exact .nil
  | d :: ds, vs, 0, h => h
  | d :: ds, vs, n + 1, h => by
    unfold RepDs at h
    obtain ⟨v, r, rfl, q1, q2⟩ := h
    exact RepDs.drop n q2
theorem RepDs.set {d : D} {v : V} (q : RepD Γ F mu d v) : ∀ {ds : List D} {vs : List V} (j : Nat), RepDs Γ F mu ds vs → RepDs Γ F mu (ds.set j d) (vs.set j v)
  | [], _, _, h => by unfold RepDs at h; subst h; exact .nil
  | x :: ds, vs, 0, h => by
    unfold RepDs at h
    obtain ⟨u, r, rfl, q1, q2⟩ := h
    exact .cons q q2
  | x :: ds, vs, j + 1, h => by
    unfold RepDs at h
    obtain ⟨u, r, rfl, q1, q2⟩ := h
    exact .cons q1 (RepDs.set q j q2)
theorem RepDs.erase : ∀ {ds : List D} {vs : List V} (j : Nat), RepDs Γ F mu ds vs → RepDs Γ F mu (ds.eraseIdx j) (vs.eraseIdx j)
  | [], _, _, h => by unfold RepDs at h; subst h; exact .nil
  | x :: ds, vs, 0, h => by
    unfold RepDs at h
    obtain ⟨u, r, rfl, q1, q2⟩ := h
    exact q2
  | x :: ds, vs, j + 1, h => by
    unfold RepDs at h
    obtain ⟨u, r, rfl, q1, q2⟩ := h
    exact .cons q1 (RepDs.erase j q2)
theorem RepDs.ints : ∀ {ns : List Int} {vs : List V}, RepDs Γ F mu (ns.map D.int) vs → vs = ns.map V.int
  | [], _, h => by unfold RepDs at h; simpa using h
  | n :: ns, vs, h => by
    rw [List.map_cons] at h
    unfold RepDs at h
    obtain ⟨u, r, rfl, q1, q2⟩ := h
    unfold RepD at q1
    rw [q1, RepDs.ints q2]; rfl
theorem RepDs.of_ints : ∀ (ns : List Int), RepDs Γ F mu (ns.map D.int) (ns.map V.int)
  | [] => .nil
  | n :: ns => .cons (by unfold RepD; rfl) (RepDs.of_ints ns)
end

/-! ### ghosts -/
structure Gh.le (G G' : Gh) : Prop where
  F : Sub G.F G'.F
  Z : G'.Z = G.Z
  mu : G.mu <+: G'.mu
theorem Gh.le.refl (G : Gh) : G.le G := ⟨.refl _, rfl, List.prefix_refl _⟩
theorem Gh.le.trans {G G1 G2 : Gh} (a : G.le G1) (b : G1.le G2) : G.le G2 := ⟨a.F.trans b.F, b.Z.trans a.Z, a.mu.trans b.mu⟩
/-- .. whatever others own -/
structure Gh.lt (G G' : Gh) : Prop where
  F : Sub G.F G'.F
  mu : G.mu <+: G'.mu
theorem Gh.le.lt {G G' : Gh} (h : G.le G') : G.lt G' := ⟨h.F, h.mu⟩
theorem Gh.lt.trans {G G1 G2 : Gh} (a : G.lt G1) (b : G1.lt G2) : G.lt G2 := ⟨a.F.trans b.F, a.mu.trans b.mu⟩
abbrev Rp (Γ : Cg) (G : Gh) : D → V → Prop := RepD Γ G.F G.mu
abbrev Rps (Γ : Cg) (G : Gh) : List D → List V → Prop := RepDs Γ G.F G.mu
theorem Rp.le {Γ : Cg} {G G' : Gh} (l : G.lt G') {d : D} {v : V} (h : Rp Γ G d v) : Rp Γ G' d v := RepD.mono l.F l.mu h
theorem Rps.le {Γ : Cg} {G G' : Gh} (l : G.lt G') {d : List D} {v : List V} (h : Rps Γ G d v) : Rps Γ G' d v := RepDs.mono l.F l.mu h

def seqO : HO → Bool
  | .lst _ => true
  | .dK _ => true
  | .dT _ => true
  | _ => false
/-- the tables of code objects -/
def Tb (Γ : Cg) (G : Gh) (H : Hp) : Prop := LamX.Tabs Γ.T H ∧ (∀ a ps, G.F a ≠ some (.tbl ps)) ∧ (∀ a o, G.Z a = some o → seqO o = true)
def noTbl : HO → Bool
  | .tbl _ => false
  | _ => true
theorem noTbl_ne {o : HO} (h : noTbl o = true) (ps : Array Value) : o ≠ .tbl ps := fun z => by rw [z] at h; cases h
theorem seq_noTbl {o : HO} (h : seqO o = true) : noTbl o = true := by cases o <;> first | rfl | cases h
section
variable {Γ : Cg} {G : Gh} {H : Hp} {p : Addr} {o u : HO}
theorem Tb.alloc (t : Tb Γ G H) (n : H p = none) : Tb Γ G (upd H p o) := ⟨t.1.ext fun b v e => by rw [upd_ne (ne_of_none e n)]; exact e, t.2⟩
theorem Tb.setF {F' : Hp} (t : Tb Γ G H) (no : noTbl o = true) (hF : ∀ a v, F' a = some v → G.F a = some v ∨ v = o) : Tb Γ { G with F := F' } H :=
  ⟨t.1, fun a ps z => (hF a _ z).elim (t.2.1 a ps) fun e => noTbl_ne no ps e.symm, t.2.2⟩
theorem Tb.updF (t : Tb Γ G H) (no : noTbl o = true) : Tb Γ { G with F := upd G.F p o } H := t.setF no fun a v e => by
  by_cases ha : a = p
  · subst ha; rw [upd_same] at e; exact .inr (Option.some.inj e).symm
  · rw [upd_ne ha] at e; exact .inl e
theorem Tb.setZ {Z' : Hp} (t : Tb Γ G H) (hZ : ∀ a v, Z' a = some v → G.Z a = some v ∨ seqO v = true) : Tb Γ { G with Z := Z' } H :=
  ⟨t.1, t.2.1, fun a o z => (hZ a _ z).elim (t.2.2 a o) id⟩
theorem Tb.write (t : Tb Γ G H) (hp : H p = some u) (hu : seqO u = true) : Tb Γ G (upd H p o) := by
  refine ⟨fun q hq => ?_, t.2⟩
  obtain ⟨ps, h1, h2, h3⟩ := t.1 q hq
  refine ⟨ps, ?_, h2, fun pos cv hc => ?_⟩
  · rw [upd_ne]; exact h1
    intro z; rw [z, hp] at h1; cases h1; cases hu
  · obtain ⟨c, e1, e2⟩ := h3 pos cv hc
    refine ⟨c, e1, ?_⟩
    rw [upd_ne]; exact e2
    intro z; rw [z, hp] at e2
    have := Option.some.inj e2
    unfold LamX.CodeO at this
    rw [this] at hu; cases hu
end
/-- store and heap -/
structure RelW (Γ : Cg) (G : Gh) (H : Hp) (w : W) : Prop where
  sub : Sub G.F H
  out : Sub G.Z H
  dis : ∀ a o, G.Z a = some o → G.F a = none
  mul : G.mu.length = w.length
  mun : G.mu.Nodup
  wel : ∀ (l : Nat) (a : Addr), G.mu[l]? = some a → G.F a = none ∧ G.Z a = none ∧ ∃ xs vs, w[l]? = some xs ∧ H a = some (.lst vs) ∧ Rps Γ G xs vs
  tab : Tb Γ G H

/-- behind a state: what was untracked is kept -/
def Later (h : Heap) (H : Hp) (h' : Heap) (H' : Hp) : Prop := h.objs.size ≤ h'.objs.size ∧ ∃ fs ex, Un fs ex H H' h h' ∧ ∀ b ∈ ex, h.objs.size ≤ b
structure CxOk (Γ : Cg) (X : Cx) : Prop where
  prog : X.prog = Γ.P
  w : X.w = Γ.w
  K : X.K = Γ.K
  mg : X.mg = Γ.mg
  base : X.base = Γ.base
/-- the function at f does as g tells, from the state (h, H) on -/
def CloOk (Γ : Cg) (k : Nat) (h : Heap) (H0 : Hp) (G0 : Gh) (f : Addr) (g : Clo) : Prop :=
  (∀ (X : Cx) (pins : List (Addr × Obj)) (σ : L2.St) (s : Shared) (H : Hp), CxOk Γ X → Inv X pins σ H s → Later h H0 s.heap H → PySem.W.FnAt f s.heap) ∧
  ∀ (X : Cx) (pins : List (Addr × Obj)) (σ : L2.St) (s : Shared) (H : Hp), CxOk Γ X → Room k X.A → Inv X pins σ H s → Later h H0 s.heap H →
    ∀ (us : List Value) (vs : List V) (ds : List D) (w : W) (G : Gh) (Wx : WX) (Q : VK), Takes X Wx → Vals vs us → G0.lt G → RelW Γ G H w → Rps Γ G ds vs →
      (match g ds w with
        | .bad => False
        | .ok d w' => ∀ G' H' v, G.le G' → RelW Γ G' H' w' → Rp Γ G' d v → Q v H'
        | .ex x w' => ∀ G' H' cls dd, G.le G' → RelW Γ G' H' w' → RepX Γ G' x cls dd → Wx cls dd σ H') →
      wpAny (model Γ.P Γ.w) X.A (PySem.call (.ref f) us) (EP X pins σ Q) X.xe s
theorem CloOk.lt {Γ : Cg} {k : Nat} {h : Heap} {H0 : Hp} {G0 G1 : Gh} {f : Addr} {g : Clo} (c : CloOk Γ k h H0 G0 f g) (l : G0.lt G1) : CloOk Γ k h H0 G1 f g :=
  ⟨c.1, fun X pins σ s H ok hr I la us vs ds w G Wx Q tk r le => c.2 X pins σ s H ok hr I la us vs ds w G Wx Q tk r (l.trans le)⟩

/-- the place where a piece of code stands: its names by slot, its scope's names, its room, whether it is a frame of its own, the frame's beginning -/
structure Sc where
  N : List Str
  names : List (Str × NameKind)
  k : Nat
  fr : Bool
  fnb : Str → Bool
  h0 : Heap
  H0 : Hp
  qual : Str
  code : Value
def OwnOk (Γ : Cg) (G : Gh) (H : Hp) (a : Addr) (d : D) : Prop := G.F a = none ∧ G.Z a = none ∧ a ∉ G.mu ∧ RepOwn Γ G.F G.mu H a d
def SlotOk (Γ : Cg) (S : Sc) (G : Gh) (H : Hp) (x : Option V) : Sl → Prop
  | .no => True
  | .val d => ∃ v, x = some v ∧ Rp Γ G d v
  | .own d => ∃ a, x = some (.ref a) ∧ OwnOk Γ G H a d
  | .fn k g => ∃ f, x = some (.ref f) ∧ CloOk Γ k S.h0 S.H0 G f g
structure Rel (Γ : Cg) (S : Sc) (G : Gh) (H : Hp) (σ : L2.St) (e : Env) (w : W) : Prop where
  st : RelW Γ G H w
  len : e.length = σ.length
  slot : ∀ (i : Nat) (s : Sl) (x : Option V), e[i]? = some s → σ[i]? = some x → SlotOk Γ S G H x s
  apart : ∀ (i j : Nat) (a : Addr) (di dj : D), i ≠ j → e[i]? = some (.own di) → e[j]? = some (.own dj) → σ[i]? = some (some (.ref a)) → σ[j]? = some (some (.ref a)) → False
/-- an operand -/
def RepO (Γ : Cg) (G : Gh) (σ : L2.St) (e : Env) : Opd → V → Prop
  | .d d, v => Rp Γ G d v
  | .sl i, v => σ[i]? = some (some v)
/-- a def's result -/
def RepR (Γ : Cg) (G : Gh) (H : Hp) : Sl → V → Prop
  | .val d, v => Rp Γ G d v
  | .own d, v => ∃ a, v = .ref a ∧ OwnOk Γ G H a d
  | _, _ => False
/-- a def's argument -/
def RepA (Γ : Cg) (h0 : Heap) (H0 : Hp) (G : Gh) : Sl → V → Prop
  | .val d, v => Rp Γ G d v
  | .fn k g, v => ∃ f, v = .ref f ∧ CloOk Γ k h0 H0 G f g
  | _, _ => False
def RepAs (Γ : Cg) (h0 : Heap) (H0 : Hp) (G : Gh) : List Sl → List V → Prop
  | [], vs => vs = []
  | d :: ds, vs => ∃ v r, vs = v :: r ∧ RepA Γ h0 H0 G d v ∧ RepAs Γ h0 H0 G ds r

/-- what a piece m gives reaches P; its exceptions reach Wx -/
def WpR {α : Type} (Γ : Cg) (S : Sc) (Wx : WX) (σ : L2.St) (r : MR α) (G : Gh) (P : α → Env → W → Gh → Hp → Prop) : Prop :=
  match r with
  | .bad => False
  | .ok a e' w' => ∀ G' H', G.le G' → Rel Γ S G' H' σ e' w' → P a e' w' G' H'
  | .ex x e' w' => ∀ G' H' cls d, G.le G' → Rel Γ S G' H' σ e' w' → RepX Γ G' x cls d → Wx cls d σ H'
def Wp {α : Type} (Γ : Cg) (S : Sc) (Wx : WX) (σ : L2.St) (m : M α) (e : Env) (w : W) (G : Gh) (P : α → Env → W → Gh → Hp → Prop) : Prop := WpR Γ S Wx σ (m e w) G P
def tE (Γ : Cg) (S : Sc) (Wx : WX) (m : M Opd) : TE := fun σ H Q => ∃ e w G, Rel Γ S G H σ e w ∧ Wp Γ S Wx σ m e w G fun o e' w' G' H' => ∀ v, RepO Γ G' σ e' o v → Q v H'
def tT (Γ : Cg) (S : Sc) (Wx : WX) (m : M Bool) : TT := fun σ H Q => ∃ e w G, Rel Γ S G H σ e w ∧ Wp Γ S Wx σ m e w G fun b e' w' G' H' => Q b H'
def tA (Γ : Cg) (S : Sc) (Wx : WX) (m : M (List D)) : TA := fun σ H Q => ∃ e w G, Rel Γ S G H σ e w ∧ Wp Γ S Wx σ m e w G fun ds e' w' G' H' => ∀ vs, Rps Γ G' ds vs → Q vs H'
def tK (Γ : Cg) (S : Sc) (Wx : WX) (m : M (List Sl)) : TA := fun σ H Q => ∃ e w G, Rel Γ S G H σ e w ∧ Wp Γ S Wx σ m e w G fun ds e' w' G' H' => ∀ vs, RepAs Γ S.h0 S.H0 G' ds vs → Q vs H'
/-- no slot owns v -/
def NoSlot (σ : L2.St) (e : Env) (v : V) : Prop := ∀ (i : Nat) (d : D), e[i]? = some (.own d) → σ[i]? = some (some v) → False
def RepRS (Γ : Cg) (G : Gh) (H : Hp) (σ : L2.St) (e : Env) (r : Sl) (v : V) : Prop := RepR Γ G H r v ∧ ∀ d, r = .own d → NoSlot σ e v
def tO (Γ : Cg) (S : Sc) (Wx : WX) (m : M Sl) : TE := fun σ H Q => ∃ e w G, Rel Γ S G H σ e w ∧ Wp Γ S Wx σ m e w G fun r e' w' G' H' => ∀ v, RepRS Γ G' H' σ e' r v → Q v H'
/-- what the context of a piece of code must be -/
structure Good (Γ : Cg) (S : Sc) (X : Cx) : Prop where
  ok : CxOk Γ X
  N : X.N = S.N
  nd : S.N.Nodup
  names : X.env.scope.names = S.names
  calm : X.calm = true
  room : Room S.k X.A
  lat : S.fr = true → ∀ pins σ H s, Inv X pins σ H s → Later S.h0 S.H0 s.heap H
  kind : X.env.scope.kind = .function
  qc : S.fr = true → X.env.qual = S.qual ∧ X.env.code = S.code
  fn : ∀ x, S.fnb x = true → X.fn x = true
  pass : S.fr = true → PassesOwn (model X.prog X.w) X.A X.env X.xe
def SE (Γ : Cg) (S : Sc) (e : Expr) (m : M Opd) : Prop := ∀ X, Good Γ S X → ∀ Wx, Takes X Wx → PE X e (tE Γ S Wx m)
def ST (Γ : Cg) (S : Sc) (e : Expr) (m : M Bool) : Prop := ∀ X, Good Γ S X → ∀ Wx, Takes X Wx → PT X e (tT Γ S Wx m)
def SA (Γ : Cg) (S : Sc) (es : List Expr) (m : M (List D)) : Prop := ∀ X, Good Γ S X → ∀ Wx, Takes X Wx → PA X es (tA Γ S Wx m)
def SK (Γ : Cg) (S : Sc) (es : List Expr) (m : M (List Sl)) : Prop := ∀ X, Good Γ S X → ∀ Wx, Takes X Wx → PA X es (tK Γ S Wx m)
def SO (Γ : Cg) (S : Sc) (e : Expr) (m : M Sl) : Prop := ∀ X, Good Γ S X → ∀ Wx, Takes X Wx → PE X e (tO Γ S Wx m)

/-! ### steps of the relation -/
section
variable {Γ : Cg} {S : Sc} {G G' : Gh} {H H' : Hp} {σ : L2.St} {e : Env} {w : W} {p : Addr} {o : HO}
theorem OwnOk.lt_of {a : Addr} {d : D} (h : OwnOk Γ G H a d) : ∃ u, H a = some u := by
  obtain ⟨_, _, _, q⟩ := h
  cases d <;> simp only [RepOwn] at q
  · obtain ⟨vs, q, _⟩ := q; exact ⟨_, q⟩
  · obtain ⟨vs, q, _⟩ := q
    rcases q with ⟨_, q, _⟩ | ⟨_, q, _⟩
    · exact ⟨_, q⟩
    · exact ⟨_, q⟩
theorem OwnOk.seq {a : Addr} {d : D} {u : HO} (h : OwnOk Γ G H a d) (hu : H a = some u) : seqO u = true := by
  obtain ⟨_, _, _, q⟩ := h
  cases d <;> simp only [RepOwn] at q
  · obtain ⟨vs, q, _⟩ := q; rw [hu] at q; cases q; rfl
  · obtain ⟨vs, q, _⟩ := q
    rcases q with ⟨_, q, _⟩ | ⟨_, q, _⟩ <;> (rw [hu] at q; cases q; rfl)
theorem RepOwn.keep {F F' : Hp} {mu mu' : List Addr} (s : Sub F F') (m : mu <+: mu') {a : Addr} (e : H' a = H a) : ∀ {d : D}, RepOwn Γ F mu H a d → RepOwn Γ F' mu' H' a d
  | .lst ds, h => by obtain ⟨vs, q, r⟩ := h; exact ⟨vs, by rw [e]; exact q, r.mono s m⟩
  | .dct ks ds, h => by obtain ⟨vs, q, r⟩ := h; exact ⟨vs, by rw [e]; exact q, r.mono s m⟩
/-- a new object that is never changed -/
theorem Rel.allocF (R : Rel Γ S G H σ e w) (n : H p = none) (no : noTbl o = true) : Rel Γ S { G with F := upd G.F p o } (upd H p o) σ e w := by
  have nF : G.F p = none := by
    cases q : G.F p with
    | none => rfl
    | some u => rw [R.st.sub _ _ q] at n; cases n
  have sF : Sub G.F (upd G.F p o) := sub_upd nF
  have kH : ∀ a u, H a = some u → upd H p o a = H a := fun a u q => upd_ne (ne_of_none q n)
  refine ⟨⟨fun a u q => ?_, fun a u q => ?_, fun a u q => ?_, R.st.mul, R.st.mun, fun l a q => ?_, (R.st.tab.alloc n).updF no⟩, R.len, fun i s x q1 q2 => ?_, R.apart⟩
  · have q : upd G.F p o a = some u := q
    by_cases ha : a = p
    · subst ha; rw [upd_same] at q ⊢; exact q
    · rw [upd_ne ha] at q ⊢; exact R.st.sub _ _ q
  · rw [kH a u (R.st.out _ _ q)]; exact R.st.out _ _ q
  · show upd G.F p o a = none
    rw [upd_ne (ne_of_none (R.st.out _ _ q) n)]; exact R.st.dis _ _ q
  · obtain ⟨h1, h2, xs, vs, h3, h4, h5⟩ := R.st.wel l a q
    refine ⟨by show upd G.F p o a = none; rw [upd_ne (ne_of_none h4 n)]; exact h1, h2, xs, vs, h3, by rw [kH _ _ h4]; exact h4, h5.mono sF (List.prefix_refl _)⟩
  · have h := R.slot i s x q1 q2
    cases s with
    | no => trivial
    | val d => obtain ⟨v, e1, r⟩ := h; exact ⟨v, e1, r.mono sF (List.prefix_refl _)⟩
    | own d =>
      obtain ⟨a, e1, r⟩ := h
      obtain ⟨u, hu⟩ := r.lt_of
      obtain ⟨r1, r2, r3, r4⟩ := r
      exact ⟨a, e1, by show upd G.F p o a = none; rw [upd_ne (ne_of_none hu n)]; exact r1, r2, r3, r4.keep sF (List.prefix_refl _) (kH _ _ hu)⟩
    | fn k g => obtain ⟨f, e1, r⟩ := h; exact ⟨f, e1, r.lt ⟨sF, List.prefix_refl _⟩⟩
theorem Gh.le_allocF (R : RelW Γ G H w) (n : H p = none) : G.le { G with F := upd G.F p o } := by
  refine ⟨sub_upd ?_, rfl, List.prefix_refl _⟩
  cases q : G.F p with
  | none => rfl
  | some u => rw [R.sub _ _ q] at n; cases n
/-- a new object of one's own -/
theorem Rel.alloc (R : Rel Γ S G H σ e w) (n : H p = none) : Rel Γ S G (upd H p o) σ e w := by
  have kH : ∀ a u, H a = some u → upd H p o a = H a := fun a u q => upd_ne (ne_of_none q n)
  refine ⟨⟨fun a u q => ?_, fun a u q => ?_, R.st.dis, R.st.mul, R.st.mun, fun l a q => ?_, R.st.tab.alloc n⟩, R.len, fun i s x q1 q2 => ?_, R.apart⟩
  · rw [kH _ _ (R.st.sub _ _ q)]; exact R.st.sub _ _ q
  · rw [kH a u (R.st.out _ _ q)]; exact R.st.out _ _ q
  · obtain ⟨h1, h2, xs, vs, h3, h4, h5⟩ := R.st.wel l a q
    refine ⟨h1, h2, xs, vs, h3, by rw [kH _ _ h4]; exact h4, h5⟩
  · have h := R.slot i s x q1 q2
    cases s with
    | no => trivial
    | val d => exact h
    | own d =>
      obtain ⟨a, e1, r⟩ := h
      obtain ⟨u, hu⟩ := r.lt_of
      obtain ⟨r1, r2, r3, r4⟩ := r
      exact ⟨a, e1, r1, r2, r3, r4.keep (.refl _) (List.prefix_refl _) (kH _ _ hu)⟩
    | fn k g => exact h
theorem RelW.own_new (R : RelW Γ G H w) (n : H p = none) : G.F p = none ∧ G.Z p = none ∧ p ∉ G.mu := by
  refine ⟨?_, ?_, fun hm => ?_⟩
  · cases q : G.F p with
    | none => rfl
    | some u => rw [R.sub _ _ q] at n; cases n
  · cases q : G.Z p with
    | none => rfl
    | some u => rw [R.out _ _ q] at n; cases n
  · obtain ⟨l, hl⟩ := List.getElem?_of_mem hm
    obtain ⟨_, _, _, _, _, h4, _⟩ := R.wel l p hl
    rw [h4] at n; cases n
end
end Mnd
/-! Rules: names, constants, operators, comparisons, tests, displays. -/
namespace Mnd
open PySem L2
section
variable {Γ : Cg} {S : Sc} {G G' : Gh} {H H' : Hp} {σ : L2.St} {e : Env} {w : W} {Wx : WX} {α β : Type}

theorem PE.imp {X : Cx} {x : Expr} {t t' : TE} (h : PE X x t) (i : ∀ σ H Q, t' σ H Q → t σ H Q) : PE X x t' := ⟨fun pins s σ H Q I q => h.run pins s σ H Q I (i σ H Q q)⟩
theorem PT.imp {X : Cx} {x : Expr} {t t' : TT} (h : PT X x t) (i : ∀ σ H Q, t' σ H Q → t σ H Q) : PT X x t' := ⟨fun pins s σ H Q I q => h.run pins s σ H Q I (i σ H Q q)⟩
theorem PA.imp {X : Cx} {x : List Expr} {t t' : TA} (h : PA X x t) (i : ∀ σ H Q, t' σ H Q → t σ H Q) : PA X x t' := ⟨fun pos pins s σ H Q I q => h.run pos pins s σ H Q I (i σ H Q q)⟩

theorem WpR.mono {r : MR α} {P P' : α → Env → W → Gh → Hp → Prop} (h : WpR Γ S Wx σ r G P) (i : ∀ a e' w' G' H', G.le G' → Rel Γ S G' H' σ e' w' → P a e' w' G' H' → P' a e' w' G' H') : WpR Γ S Wx σ r G P' := by
  cases r with
  | bad => exact h
  | ok a e' w' => exact fun G' H' l R => i _ _ _ G' H' l R (h G' H' l R)
  | ex x e' w' => exact h
theorem WpR.le {r : MR α} {P : α → Env → W → Gh → Hp → Prop} (h : WpR Γ S Wx σ r G P) (l : G.le G') : WpR Γ S Wx σ r G' P := by
  cases r with
  | bad => exact h
  | ok a e' w' => exact fun G2 H2 l2 R2 => h G2 H2 (l.trans l2) R2
  | ex x e' w' => exact fun G2 H2 c d l2 R2 => h G2 H2 c d (l.trans l2) R2
theorem Wp.mono {m : M α} {P P' : α → Env → W → Gh → Hp → Prop} (h : Wp Γ S Wx σ m e w G P) (i : ∀ a e' w' G' H', G.le G' → Rel Γ S G' H' σ e' w' → P a e' w' G' H' → P' a e' w' G' H') : Wp Γ S Wx σ m e w G P' := WpR.mono h i
theorem Wp.le {m : M α} {P : α → Env → W → Gh → Hp → Prop} (h : Wp Γ S Wx σ m e w G P) (l : G.le G') : Wp Γ S Wx σ m e w G' P := WpR.le h l
theorem bnd_eq (m : M α) (f : α → M β) (e : Env) (w : W) : bnd m f e w = match m e w with
  | .ok a e' w' => f a e' w'
  | .ex x e' w' => .ex x e' w'
  | .bad => .bad := rfl
theorem look_sl (i : Nat) (e : Env) (w : W) : look (.sl i) e w = match slotD e[i]? with
    | some d => .ok d e w
    | none => .bad := rfl
theorem frz_sl (i : Nat) (e : Env) (w : W) : frz (.sl i) e w = match e[i]? with
  | some (.val d) => .ok d e w
  | some (.own d) => .ok d (e.set i (.val d)) w
  | _ => .bad := rfl
theorem eVar_eq (i : Nat) (e : Env) (w : W) : eVar i e w = match slotD e[i]? with
  | some _ => .ok (.sl i) e w
  | none => .bad := rfl
theorem Wp.bnd {m : M α} {f : α → M β} {P : β → Env → W → Gh → Hp → Prop} (h : Wp Γ S Wx σ (bnd m f) e w G P) : Wp Γ S Wx σ m e w G fun a e' w' G' H' => Wp Γ S Wx σ (f a) e' w' G' P := by
  unfold Wp at h
  rw [bnd_eq] at h
  unfold Wp
  cases q : m e w with
  | bad => rw [q] at h; exact h
  | ex x e' w' => rw [q] at h; exact h
  | ok a e' w' =>
    rw [q] at h
    exact fun G' H' l R => WpR.le h l
theorem Wp.ret {a : α} {P : α → Env → W → Gh → Hp → Prop} (h : Wp Γ S Wx σ (ret a) e w G P) (R : Rel Γ S G' H' σ e w) (l : G.le G') : P a e w G' H' := h G' H' l R
theorem Wp.bad {P : α → Env → W → Gh → Hp → Prop} (h : Wp Γ S Wx σ bad e w G P) : False := h
theorem Wp.lift {o : Option α} {P : α → Env → W → Gh → Hp → Prop} (h : Wp Γ S Wx σ (lift o) e w G P) : ∃ a, o = some a ∧ Wp Γ S Wx σ (Mnd.ret a) e w G P := by
  cases o with
  | none => exact (Wp.bad h).elim
  | some a => exact ⟨a, rfl, h⟩

/-! ### operands -/
def lookV : Opd → Env → Option D
  | .d d, _ => some d
  | .sl i, e => slotD e[i]?
/-- what a value is now -/
def Vw (Γ : Cg) (G : Gh) (H : Hp) (u : D) (x : V) : Prop := Rp Γ G u x ∨ ∃ a, x = .ref a ∧ RepOwn Γ G.F G.mu H a u
theorem wp_look {o : Opd} {f : D → M β} {P : β → Env → W → Gh → Hp → Prop} (h : Wp Γ S Wx σ (Mnd.bnd (look o) f) e w G P) : ∃ u, lookV o e = some u ∧ Wp Γ S Wx σ (f u) e w G P := by
  cases o with
  | d d => exact ⟨d, rfl, h⟩
  | sl i =>
    unfold Wp at h
    rw [bnd_eq, look_sl] at h
    cases q : slotD e[i]? with
    | none => rw [q] at h; exact h.elim
    | some u => rw [q] at h; exact ⟨u, q, h⟩
theorem RepO.le {o : Opd} {v : V} {e' : Env} (h : RepO Γ G σ e o v) (l : G.le G') : RepO Γ G' σ e' o v := by
  cases o with
  | d d => exact Rp.le l.lt h
  | sl i => exact h
theorem RepO.view {o : Opd} {v : V} {u : D} (h : RepO Γ G σ e o v) (R : Rel Γ S G H σ e w) (q : lookV o e = some u) : Vw Γ G H u v := by
  cases o with
  | d d => cases q; exact .inl h
  | sl i =>
    have h : σ[i]? = some (some v) := h
    have q : slotD e[i]? = some u := q
    cases es : e[i]? with
    | none => rw [es] at q; cases q
    | some s =>
      rw [es] at q
      have r := R.slot i s _ es h
      cases s with
      | no => cases q
      | fn k g => cases q
      | val d => cases q; obtain ⟨v', e1, r⟩ := r; cases e1; exact .inl r
      | own d => cases q; obtain ⟨a, e1, r⟩ := r; cases e1; exact .inr ⟨a, rfl, r.2.2.2⟩
theorem Vw.int {i : Int} {x : V} (h : Vw Γ G H (.int i) x) : x = .int i := by
  rcases h with h | ⟨a, rfl, h⟩
  · unfold Rp RepD at h; exact h
  · exact h.elim
theorem Vw.bl {i : Bool} {x : V} (h : Vw Γ G H (.bl i) x) : x = .bl i := by
  rcases h with h | ⟨a, rfl, h⟩
  · unfold Rp RepD at h; exact h
  · exact h.elim
theorem Vw.str {i : Str} {x : V} (h : Vw Γ G H (.str i) x) : x = .str i := by
  rcases h with h | ⟨a, rfl, h⟩
  · unfold Rp RepD at h; exact h
  · exact h.elim
theorem Vw.non {x : V} (h : Vw Γ G H .non x) : x = .non := by
  rcases h with h | ⟨a, rfl, h⟩
  · unfold Rp RepD at h; exact h
  · exact h.elim
theorem Vw.tup' {xs : List D} {x : V} (h : Vw Γ G H (.tup xs) x) : ∃ a vs, x = .ref a ∧ (SqT Γ.K G.F a vs ∧ (Γ.kc = false → G.F a = some (.tup vs))) ∧ Rps Γ G xs vs := by
  rcases h with h | ⟨a, rfl, h⟩
  · unfold Rp RepD at h; exact h
  · exact h.elim
theorem Vw.tup {xs : List D} {x : V} (h : Vw Γ G H (.tup xs) x) : ∃ a vs, x = .ref a ∧ SqT Γ.K G.F a vs ∧ Rps Γ G xs vs := by
  obtain ⟨a, vs, e, q, r⟩ := h.tup'
  exact ⟨a, vs, e, q.1, r⟩
theorem Vw.lst {xs : List D} {x : V} (h : Vw Γ G H (.lst xs) x) (R : RelW Γ G H w) : ∃ a vs, x = .ref a ∧ H a = some (.lst vs) ∧ Rps Γ G xs vs := by
  rcases h with h | ⟨a, rfl, h⟩
  · unfold Rp RepD at h; obtain ⟨a, vs, e1, q, r⟩ := h; exact ⟨a, vs, e1, R.sub _ _ q, r⟩
  · obtain ⟨vs, q, r⟩ := h; exact ⟨a, vs, rfl, q, r⟩
theorem Vw.scr {ns : List Int} {x : V} (h : Vw Γ G H (.scr ns) x) (R : RelW Γ G H w) : ∃ a, x = .ref a ∧ SqL Γ.K H a (ns.map V.int) := by
  rcases h with h | ⟨a, rfl, h⟩
  · unfold Rp RepD at h; obtain ⟨a, e1, q⟩ := h; exact ⟨a, e1, q.imp (sub_rd R.sub) id⟩
  · exact h.elim
theorem Vw.ref {l : Nat} {x : V} (h : Vw Γ G H (.ref l) x) : ∃ a, x = .ref a ∧ G.mu[l]? = some a := by
  rcases h with h | ⟨a, rfl, h⟩
  · unfold Rp RepD at h; exact h
  · exact h.elim
theorem Vw.cir {p t : D} {x : V} (h : Vw Γ G H (.cir p t) x) : ∃ a dx b tv vp vr, x = .ref a ∧ G.F a = some (.ins Γ.C dx [("all_told", .ref b)]) ∧ SqT Γ.K G.F b tv ∧ tv = [vp, vr] ∧ Rp Γ G p vp ∧ Rp Γ G t vr := by
  rcases h with h | ⟨a, rfl, h⟩
  · unfold Rp RepD at h; exact h
  · exact h.elim
theorem rp_int (i : Int) : Rp Γ G (.int i) (.int i) := by unfold Rp RepD; rfl
theorem rp_bl (i : Bool) : Rp Γ G (.bl i) (.bl i) := by unfold Rp RepD; rfl
theorem rp_str (i : Str) : Rp Γ G (.str i) (.str i) := by unfold Rp RepD; rfl
theorem rp_non : Rp Γ G .non .non := by unfold Rp RepD; rfl
theorem rp_tup {a : Addr} {xs : List D} {vs : List V} (h : SqT Γ.K G.F a vs ∧ (Γ.kc = false → G.F a = some (.tup vs))) (r : Rps Γ G xs vs) : Rp Γ G (.tup xs) (.ref a) := by unfold Rp RepD; exact ⟨a, vs, rfl, h, r⟩
theorem rp_lst {a : Addr} {xs : List D} {vs : List V} (h : G.F a = some (.lst vs)) (r : Rps Γ G xs vs) : Rp Γ G (.lst xs) (.ref a) := by unfold Rp RepD; exact ⟨a, vs, rfl, h, r⟩

/-! ### freezing -/
theorem List.getElem?_set_cases {α : Type} {l : List α} {i j : Nat} {a b : α} (h : (l.set i a)[j]? = some b) : (i = j ∧ a = b ∧ i < l.length) ∨ (i ≠ j ∧ l[j]? = some b) := by
  by_cases q : i = j
  · subst q
    by_cases hl : i < l.length
    · rw [List.getElem?_set_self hl] at h; cases h; exact .inl ⟨rfl, rfl, hl⟩
    · rw [List.getElem?_eq_none (by simpa using hl)] at h; cases h
  · rw [List.getElem?_set_ne q] at h; exact .inr ⟨q, h⟩
/-- the object of a slot of one's own is never changed any more -/
theorem Rel.freeze (R : Rel Γ S G H σ e w) {i : Nat} {d : D} (he : e[i]? = some (.own d)) {x : Option V} (hs : σ[i]? = some x) :
    ∃ a G', x = some (.ref a) ∧ G.le G' ∧ Rel Γ S G' H σ (e.set i (.val d)) w ∧ Rp Γ G' d (.ref a) := by
  obtain ⟨a, e1, f1, f2, f3, f4⟩ := R.slot i _ _ he hs
  obtain ⟨u, hu⟩ : ∃ u, H a = some u := OwnOk.lt_of (G := G) ⟨f1, f2, f3, f4⟩
  have sF : Sub G.F (upd G.F a u) := sub_upd f1
  have key : ∀ b v, H b = some v → b ≠ a → upd G.F a u b = G.F b := fun b v _ hb => upd_ne hb
  refine ⟨a, { G with F := upd G.F a u }, e1, ⟨sF, rfl, List.prefix_refl _⟩, ⟨⟨fun b v q => ?_, R.st.out, fun b v q => ?_, R.st.mul, R.st.mun, fun l b q => ?_, R.st.tab.updF (seq_noTbl (OwnOk.seq (G := G) ⟨f1, f2, f3, f4⟩ hu))⟩, by simpa using R.len, fun j s y q1 q2 => ?_, fun j k b di dj hjk q1 q2 q3 q4 => ?_⟩, ?_⟩
  · have q : upd G.F a u b = some v := q
    by_cases hb : b = a
    · subst hb; rw [upd_same] at q; cases q; exact hu
    · rw [upd_ne hb] at q; exact R.st.sub _ _ q
  · show upd G.F a u b = none
    rw [upd_ne (fun z => by rw [z, f2] at q; cases q)]; exact R.st.dis _ _ q
  · obtain ⟨h1, h2, xs, vs, h3, h4, h5⟩ := R.st.wel l b q
    refine ⟨?_, h2, xs, vs, h3, h4, h5.mono sF (List.prefix_refl _)⟩
    show upd G.F a u b = none
    rw [upd_ne (fun z => f3 (by rw [← z]; exact List.mem_of_getElem? q))]; exact h1
  · rcases List.getElem?_set_cases q1 with ⟨rfl, rfl, _⟩ | ⟨hne, q1⟩
    · rw [hs] at q2; cases q2
      refine ⟨.ref a, e1, ?_⟩
      cases d <;> simp only [RepOwn] at f4
      · obtain ⟨vs, q, r⟩ := f4
        rw [hu] at q; cases q
        exact rp_lst (by show upd G.F a _ a = _; exact upd_same) (r.mono sF (List.prefix_refl _))
      · obtain ⟨vs, q, r⟩ := f4
        unfold Rp RepD
        refine ⟨a, vs, rfl, ?_, r.mono sF (List.prefix_refl _)⟩
        show dctIs _ (upd G.F a u a) _ _
        rw [upd_same, ← hu]; exact q
    · have h := R.slot j s y q1 q2
      cases s with
      | no => trivial
      | val d' => obtain ⟨v, e1, r⟩ := h; exact ⟨v, e1, r.mono sF (List.prefix_refl _)⟩
      | own d' =>
        obtain ⟨b, e2, r1, r2, r3, r4⟩ := h
        refine ⟨b, e2, ?_, r2, r3, r4.keep sF (List.prefix_refl _) rfl⟩
        show upd G.F a u b = none
        rw [upd_ne ?_]
        · exact r1
        · rintro rfl
          exact R.apart i j b d d' hne he q1 (by rw [hs, e1]) (by rw [q2, e2])
      | fn k g => obtain ⟨f, e1, r⟩ := h; exact ⟨f, e1, r.lt ⟨sF, List.prefix_refl _⟩⟩
  · rcases List.getElem?_set_cases q1 with ⟨_, z, _⟩ | ⟨_, q1⟩
    · cases z
    rcases List.getElem?_set_cases q2 with ⟨_, z, _⟩ | ⟨_, q2⟩
    · cases z
    exact R.apart j k b di dj hjk q1 q2 q3 q4
  · have hi : i < e.length := (List.getElem?_eq_some_iff.mp he).1
    -- as in the slot's case
    cases d <;> simp only [RepOwn] at f4
    · obtain ⟨vs, q, r⟩ := f4
      rw [hu] at q; cases q
      exact rp_lst (by show upd G.F a _ a = _; exact upd_same) (r.mono sF (List.prefix_refl _))
    · obtain ⟨vs, q, r⟩ := f4
      unfold Rp RepD
      refine ⟨a, vs, rfl, ?_, r.mono sF (List.prefix_refl _)⟩
      show dctIs _ (upd G.F a u a) _ _
      rw [upd_same, ← hu]; exact q
theorem wp_frz {o : Opd} {v : V} {f : D → M β} {P : β → Env → W → Gh → Hp → Prop} (h : Wp Γ S Wx σ (Mnd.bnd (frz o) f) e w G P) (R : Rel Γ S G H σ e w) (ro : RepO Γ G σ e o v) :
    ∃ d e' G', G.le G' ∧ Rel Γ S G' H σ e' w ∧ Rp Γ G' d v ∧ Wp Γ S Wx σ (f d) e' w G' P := by
  cases o with
  | d d => exact ⟨d, e, G, .refl G, R, ro, h⟩
  | sl i =>
    have ro : σ[i]? = some (some v) := ro
    unfold Wp at h
    rw [bnd_eq, frz_sl] at h
    cases es : e[i]? with
    | none => rw [es] at h; exact h.elim
    | some s =>
      rw [es] at h
      cases s with
      | no => exact h.elim
      | fn k g => exact h.elim
      | val d =>
        obtain ⟨v', e1, r⟩ := R.slot i _ _ es ro
        cases e1
        exact ⟨d, e, G, .refl G, R, r, h⟩
      | own d =>
        obtain ⟨a, G', e1, l, R', r⟩ := R.freeze es ro
        cases e1
        exact ⟨d, _, G', l, R', r, WpR.le h l⟩

/-- .. of a run that is told -/
theorem wp_frz' {o : Opd} {v : V} {f : D → M β} {r : MR β} (h : Mnd.bnd (frz o) f e w = r) {r' : β} {e' : Env} {w' : W} (hr : r = .ok r' e' w' := by rfl) (R : Rel Γ S G H σ e w) (ro : RepO Γ G σ e o v) :
    ∃ d e' G', G.le G' ∧ Rel Γ S G' H σ e' w ∧ Rp Γ G' d v ∧ f d e' w = r := by
  subst hr
  cases o with
  | d d => exact ⟨d, e, G, .refl G, R, ro, h⟩
  | sl i =>
    have ro : σ[i]? = some (some v) := ro
    rw [bnd_eq, frz_sl] at h
    cases es : e[i]? with
    | none => rw [es] at h; cases h
    | some s =>
      rw [es] at h
      cases s with
      | no => cases h
      | fn k g => cases h
      | val d =>
        obtain ⟨v', e1, r⟩ := R.slot i _ _ es ro
        cases e1
        exact ⟨d, e, G, .refl G, R, r, h⟩
      | own d =>
        obtain ⟨a, G', e1, l, R', r⟩ := R.freeze es ro
        cases e1
        exact ⟨d, _, G', l, R', r, h⟩

/-! ### names and constants -/
def visB (names : List (Str × NameKind)) (x : Str) : Bool := match names.lookup x with
  | some .local => true
  | some .cell => true
  | some .free => true
  | _ => false
theorem vis_of {names : List (Str × NameKind)} {sc : Scope} {x : Str} (h : visB names x = true) (hn : sc.names = names) : Vis sc x := by
  unfold visB at h
  unfold Vis
  rw [hn]
  cases q : names.lookup x with
  | none => rw [q] at h; cases h
  | some k => cases k <;> rw [q] at h <;> first | exact .inl rfl | exact .inr (.inl rfl) | exact .inr (.inr rfl) | cases h
theorem se_var {i : Nat} {x : Str} {pos : Pos} (hN : S.N[i]? = some x) (hv : visB S.names x = true) (hd : (x == ("__debug__" : Str)) = false := by decide +kernel) (hcd : (x == ("__classdict__" : Str)) = false := by decide +kernel) : SE Γ S (.Name x pos) (eVar i) := by
  intro X g Wx tk
  refine PE.imp (pe_var (i := i) (by rw [g.N]; exact hN) (vis_of hv g.names) hd hcd) ?_
  rintro σ H Q ⟨e, w, G, R, h⟩
  unfold Wp at h
  rw [eVar_eq] at h
  cases es : e[i]? with
  | none => rw [es] at h; exact h.elim
  | some s =>
    have hi : i < σ.length := by rw [← R.len]; exact (List.getElem?_eq_some_iff.mp es).1
    have hσ := List.getElem?_eq_getElem hi
    have sl := R.slot i s _ es hσ
    rw [es] at h
    cases s with
    | no => exact h.elim
    | fn f => exact h.elim
    | val d =>
      obtain ⟨v, e1, r⟩ := sl
      exact ⟨v, by rw [hσ, e1], h G H (.refl G) R v (by show σ[i]? = _; rw [hσ, e1])⟩
    | own d =>
      obtain ⟨a, e1, r⟩ := sl
      exact ⟨.ref a, by rw [hσ, e1], h G H (.refl G) R _ (by show σ[i]? = _; rw [hσ, e1])⟩
theorem se_c {x : Expr} {d : D} (hx : ∀ X : Cx, Good Γ S X → ∃ v, PE X x (tC v) ∧ ∀ G, Rp Γ G d v) : SE Γ S x (eC d) := by
  intro X g Wx tk
  obtain ⟨v, p, r⟩ := hx X g
  refine PE.imp p ?_
  rintro σ H Q ⟨e, w, G, R, h⟩
  exact h G H (.refl G) R v (r G)
theorem se_int {i : Int} {j : Nat} {pos : Pos} : SE Γ S (.Constant (.int i) j pos) (eInt i) := se_c fun _ _ => ⟨_, pe_int, fun G => rp_int i⟩
theorem se_bl {b : Bool} {j : Nat} {pos : Pos} : SE Γ S (.Constant (.bool b) j pos) (eC (.bl b)) := se_c fun _ _ => ⟨_, pe_bl, fun G => rp_bl b⟩
theorem se_non {j : Nat} {pos : Pos} : SE Γ S (.Constant .none j pos) (eC .non) := se_c fun _ _ => ⟨_, pe_non, fun G => rp_non⟩
theorem se_str {x : Str} {j : Nat} {pos : Pos} : SE Γ S (.Constant (.str x) j pos) (eC (.str x)) := se_c fun _ _ => ⟨_, pe_str, fun G => rp_str x⟩

/-! ### operators -/
/-- the step keeps what is known -/
def Keeps (Γ : Cg) (G : Gh) (H : Hp) (G' : Gh) (H' : Hp) : Prop := ∀ S σ e w, Rel Γ S G H σ e w → Rel Γ S G' H' σ e w
/-- an operation on two values, told by f -/
def BinOk (Γ : Cg) (r : R2) (f : D → D → Option D) : Prop := ∀ (G : Gh) (H : Hp) (w : W) (u v d : D) (x y : V) (Q : VK), RelW Γ G H w → Vw Γ G H u x → Vw Γ G H v y → f u v = some d →
  (∀ z G' H', G.le G' → Keeps Γ G H G' H' → Rp Γ G' d z → Q z H') → r x y H Q
def UnOk (Γ : Cg) (r : V → Hp → VK → Prop) (f : D → Option D) : Prop := ∀ (G : Gh) (H : Hp) (w : W) (u d : D) (x : V) (Q : VK), RelW Γ G H w → Vw Γ G H u x → f u = some d →
  (∀ z G' H', G.le G' → Keeps Γ G H G' H' → Rp Γ G' d z → Q z H') → r x H Q
theorem Keeps.refl (G : Gh) (H : Hp) : Keeps Γ G H G H := fun _ _ _ _ h => h
/-- both operands, then the operation -/
theorem tE_bin {r : R2} {f : D → D → Option D} (ok : BinOk Γ r f) {ma mb : M Opd} {σ : L2.St} {H : Hp} {Q : VK} (h : tE Γ S Wx (eBin f ma mb) σ H Q) : tOp r (tE Γ S Wx ma) (tE Γ S Wx mb) σ H Q := by
  obtain ⟨e, w, G, R, h⟩ := h
  refine ⟨e, w, G, R, (Wp.bnd h).mono fun o e1 w1 G1 H1 l1 R1 h1 x rx => ⟨e1, w1, G1, R1, (Wp.bnd h1).mono fun o2 e2 w2 G2 H2 l2 R2 h2 y ry => ?_⟩⟩
  obtain ⟨u, hu, h2⟩ := wp_look h2
  obtain ⟨v, hv, h2⟩ := wp_look h2
  obtain ⟨p, hp, h2⟩ := Wp.lift h2
  cases hf : f u v with
  | none => rw [hf] at hp; cases hp
  | some d =>
    rw [hf] at hp; cases hp
    exact ok G2 H2 w2 u v d x y Q R2.st ((rx.le l2 (e' := e2)).view R2 hu) (ry.view R2 hv) hf fun z G3 H3 l3 k r => Wp.ret h2 (k _ _ _ _ R2) l3 z r
theorem tE_un {r : V → Hp → VK → Prop} {f : D → Option D} (ok : UnOk Γ r f) {ma : M Opd} {σ : L2.St} {H : Hp} {Q : VK} (h : tE Γ S Wx (eUn f ma) σ H Q) : tUn r (tE Γ S Wx ma) σ H Q := by
  obtain ⟨e, w, G, R, h⟩ := h
  refine ⟨e, w, G, R, (Wp.bnd h).mono fun o e1 w1 G1 H1 l1 R1 h1 x rx => ?_⟩
  obtain ⟨u, hu, h1⟩ := wp_look h1
  obtain ⟨p, hp, h1⟩ := Wp.lift h1
  cases hf : f u with
  | none => rw [hf] at hp; cases hp
  | some d =>
    rw [hf] at hp; cases hp
    exact ok G1 H1 w1 u d x Q R1.st (rx.view R1 hu) hf fun z G3 H3 l3 k r => Wp.ret h1 (k _ _ _ _ R1) l3 z r
variable {a b : Expr} {ma mb : M Opd} {pos : Pos}
theorem se_bin {op : Operator} {r : R2} {f : D → D → Option D} (ho : ∀ X, Good Γ S X → OpR X (binaryOp op) r) (ok : BinOk Γ r f) (ha : SE Γ S a ma) (hb : SE Γ S b mb) : SE Γ S (.BinOp a op b pos) (eBin f ma mb) :=
  fun X g Wx tk => PE.imp (pe_op (ho X g) (ha X g Wx tk) (hb X g Wx tk)) fun _ _ _ h => tE_bin ok h
theorem se_un {op : UnaryOp} {r : V → Hp → VK → Prop} {f : D → Option D} (ho : ∀ X, Good Γ S X → UnR X (unaryOp op) r) (ok : UnOk Γ r f) (ha : SE Γ S a ma) : SE Γ S (.UnaryOp op a pos) (eUn f ma) :=
  fun X g Wx tk => PE.imp (pe_un (ho X g) (ha X g Wx tk)) fun _ _ _ h => tE_un ok h
theorem se_cmp {op : CmpOp} {r : R2} {f : D → D → Option D} (ho : ∀ X, Good Γ S X → OpR X (compareOp op) r) (ok : BinOk Γ r f) (ha : SE Γ S a ma) (hb : SE Γ S b mb) (hm : behindInMarks op b = false) : SE Γ S (.Compare a [op] [b] pos) (eBin f ma mb) :=
  fun X g Wx tk => PE.imp (pe_cmpR (ho X g) (ha X g Wx tk) (hb X g Wx tk) hm) fun _ _ _ h => tE_bin ok h
theorem st_cmp {op : CmpOp} {r : R2} {f : D → D → Option D} (ho : ∀ X, Good Γ S X → OpR X (compareOp op) r) (ok : BinOk Γ r f) (ha : SE Γ S a ma) (hb : SE Γ S b mb) (hm : behindInMarks op b = false) : ST Γ S (.Compare a [op] [b] pos) (tVal (eBin f ma mb)) := by
  intro X g Wx tk
  refine PT.imp (pt_cmpR (ho X g) (ha X g Wx tk) (hb X g Wx tk) hm) ?_
  rintro σ H Q ⟨e, w, G, R, h⟩
  refine tE_bin (S := S) (Wx := Wx) ok ⟨e, w, G, R, (Wp.bnd h).mono fun o e1 w1 G1 H1 l1 R1 h1 x rx => ?_⟩
  obtain ⟨u, hu, h1⟩ := wp_look h1
  have v := rx.view R1 hu
  cases u <;> first | exact (Wp.bad h1).elim | skip
  exact ⟨_, v.bl, Wp.ret h1 R1 (.refl _)⟩
theorem st_val (ha : SE Γ S a ma) (he : ∀ (env : PySem.Env) whole, isTrue a env whole = (do let v ← whole; standAt a.pos; holding [v] (truthy v)) := by intro _ _; rfl) : ST Γ S a (tVal ma) := by
  intro X g Wx tk
  refine PT.imp (pt_val (ha X g Wx tk) (he _)) ?_
  rintro σ H Q ⟨e, w, G, R, h⟩
  refine ⟨e, w, G, R, (Wp.bnd h).mono fun o e1 w1 G1 H1 l1 R1 h1 x rx => ?_⟩
  obtain ⟨u, hu, h1⟩ := wp_look h1
  have v := rx.view R1 hu
  cases u <;> first | exact (Wp.bad h1).elim | skip
  exact ⟨_, v.bl, Wp.ret h1 R1 (.refl _)⟩
end
end Mnd
/-! The operators of the texts. -/
namespace Mnd
open PySem L2
section
variable {Γ : Cg} {S : Sc} {G G' : Gh} {H H' : Hp} {σ : L2.St} {e : Env} {w : W} {Wx : WX} {a b : Expr} {ma mb : M Opd} {pos : Pos}
theorem BinOk.or1 {r r' : R2} {f f' : D → D → Option D} (h : BinOk Γ r f) (i : ∀ x y H Q, r x y H Q → r' x y H Q) (j : ∀ u v d, f' u v = some d → f u v = some d) : BinOk Γ r' f' :=
  fun G H w u v d x y Q R vx vy hf k => i _ _ _ _ (h G H w u v d x y Q R vx vy (j u v d hf) k)
/-- two ints -/
theorem bin_int {C : Int → Int → Prop} {g : Int → Int → D} {gv : Int → Int → V} {f : D → D → Option D} (hg : ∀ i j G, Rp Γ G (g i j) (gv i j)) (hf : ∀ u v d, f u v = some d → ∃ i j, u = .int i ∧ v = .int j ∧ C i j ∧ d = g i j) : BinOk Γ (rI C gv) f := by
  intro G H w u v d x y Q R vx vy hd k
  obtain ⟨i, j, rfl, rfl, hc, rfl⟩ := hf u v d hd
  exact ⟨i, j, vx.int, vy.int, hc, k _ G H (.refl G) (.refl _ _) (hg i j G)⟩
theorem bin_int0 {g : Int → Int → D} {gv : Int → Int → V} {f : D → D → Option D} (hg : ∀ i j G, Rp Γ G (g i j) (gv i j)) (hf : ∀ u v d, f u v = some d → ∃ i j, u = .int i ∧ v = .int j ∧ d = g i j) : BinOk Γ (rI0 gv) f := by
  intro G H w u v d x y Q R vx vy hd k
  obtain ⟨i, j, rfl, rfl, rfl⟩ := hf u v d hd
  exact ⟨i, j, vx.int, vy.int, k _ G H (.refl G) (.refl _ _) (hg i j G)⟩
/-- laid anew and never changed -/
theorem allocT {p : Addr} {ds : List D} {vs : List V} {o : HO} (R : RelW Γ G H w) (n : H p = none) (r : Rps Γ G ds vs) (ho : o = .tup vs) :
    G.le { G with F := upd G.F p o } ∧ Keeps Γ G H { G with F := upd G.F p o } (upd H p o) ∧ Rp Γ { G with F := upd G.F p o } (.tup ds) (.ref p) := by
  subst ho
  have l := Gh.le_allocF (o := .tup vs) R n
  have h0 : upd G.F p (.tup vs) p = some (.tup vs) := upd_same
  exact ⟨l, fun S σ e w R => R.allocF n rfl, rp_tup ⟨.inl (.inl h0), fun _ => h0⟩ (Rps.le l.lt r)⟩
theorem allocL {p : Addr} {ds : List D} {vs : List V} {o : HO} (R : RelW Γ G H w) (n : H p = none) (r : Rps Γ G ds vs) (ho : o = .lst vs) :
    G.le { G with F := upd G.F p o } ∧ Keeps Γ G H { G with F := upd G.F p o } (upd H p o) ∧ Rp Γ { G with F := upd G.F p o } (.lst ds) (.ref p) := by
  subst ho
  have l := Gh.le_allocF (o := .lst vs) R n
  refine ⟨l, fun S σ e w R => R.allocF n rfl, rp_lst ?_ (Rps.le l.lt r)⟩
  show upd G.F p _ p = _
  exact upd_same
theorem line1 {n : Nat} (h : n ≤ 100000) : n ≤ sizeLine := by rw [sizeLine_eq]; omega
theorem sqT_sub {a : Addr} {vs : List V} (R : RelW Γ G H w) (h : SqT Γ.K G.F a vs) : SqT Γ.K H a vs := sub_sqT R.sub h

/-! ### + -/
def rAddA (K : PySem.W.Frag) : R2 := fun x y H Q => (rI0 fun i j => .int (i + j)) x y H Q ∨ rCatA K x y H Q ∨ rCat x y H Q ∨ (∃ i j, x = .str i ∧ y = .str j ∧ i.length + j.length ≤ sizeLine ∧ Q (.str (i ++ j)) H)
theorem opr_add : ∀ X, Good Γ S X → OpR X (binaryOp .Add) (rAddA Γ.K) := fun X g => by
  have := op_catA (X := X)
  rw [g.ok.K] at this
  exact op_add.or (this.or (op_cat.or op_add_str))
theorem rps_nil_iff {ds : List D} {vs : List V} (r : Rps Γ G ds vs) : vs = [] ↔ ds = [] := by
  have := r.length
  constructor
  · rintro rfl; exact List.eq_nil_of_length_eq_zero this.symm
  · rintro rfl; exact List.eq_nil_of_length_eq_zero this
theorem bin_add : BinOk Γ (rAddA Γ.K) dAdd := by
  intro G H w u v d x y Q R vx vy hd k
  unfold dAdd at hd
  split at hd
  · cases hd; exact .inl ⟨_, _, vx.int, vy.int, k _ G H (.refl G) (.refl _ _) (rp_int _)⟩
  · rename_i xs ys
    split at hd <;> cases hd
    rename_i hl
    obtain ⟨a, vs, rfl, h1, r1⟩ := vx.tup'
    obtain ⟨b, us, rfl, h2, r2⟩ := vy.tup'
    refine .inr (.inl ⟨a, b, vs, us, rfl, rfl, sqT_sub R h1.1, sqT_sub R h2.1, line1 (by rw [r1.length, r2.length]; exact hl), fun z => ?_, fun z z2 => ?_, fun z z2 p hp => ?_⟩)
    · rw [rps_nil_iff r1] at z; subst z
      exact k _ G H (.refl G) (.refl _ _) (rp_tup h2 r2)
    · rw [rps_nil_iff r2] at z2; subst z2
      rw [List.append_nil] at k
      exact k _ G H (.refl G) (.refl _ _) (rp_tup h1 r1)
    · obtain ⟨l, kk, r⟩ := allocT R hp (r1.append r2) rfl
      exact k _ _ _ l kk r
  · rename_i xs ys
    split at hd <;> cases hd
    rename_i hl
    obtain ⟨a, vs, rfl, h1, r1⟩ := vx.lst R
    obtain ⟨b, us, rfl, h2, r2⟩ := vy.lst R
    refine .inr (.inr (.inl ⟨a, b, vs, us, rfl, rfl, h1, h2, line1 (by rw [r1.length, r2.length]; exact hl), fun p hp => ?_⟩))
    obtain ⟨l, kk, r⟩ := allocL R hp (r1.append r2) rfl
    exact k _ _ _ l kk r
  · rename_i i j
    split at hd <;> cases hd
    rename_i hl
    exact .inr (.inr (.inr ⟨i, j, vx.str, vy.str, line1 hl, k _ G H (.refl G) (.refl _ _) (rp_str _)⟩))
  · cases hd
theorem se_add (ha : SE Γ S a ma) (hb : SE Γ S b mb) : SE Γ S (.BinOp a .Add b pos) (eBin dAdd ma mb) := se_bin opr_add bin_add ha hb
theorem se_sub (ha : SE Γ S a ma) (hb : SE Γ S b mb) : SE Γ S (.BinOp a .Sub b pos) (eBin dSub ma mb) :=
  se_bin (fun X g => op_sub) (bin_int0 (g := fun i j => .int (i - j)) (fun _ _ _ => rp_int _) fun u v d h => by
    unfold dSub at h; split at h <;> cases h; exact ⟨_, _, rfl, rfl, rfl⟩) ha hb
theorem se_mul (ha : SE Γ S a ma) (hb : SE Γ S b mb) : SE Γ S (.BinOp a .Mult b pos) (eBin dMul ma mb) :=
  se_bin (fun X g => op_mulW) (bin_int (g := fun i j => .int (i * j)) (fun _ _ _ => rp_int _) fun u v d h => by
    unfold dMul at h
    split at h
    · split at h <;> cases h
      exact ⟨_, _, rfl, rfl, by unfold CMulW; omega, rfl⟩
    · cases h) ha hb
def CDivG (_ j : Int) : Prop := j ≠ 0 ∧ j.natAbs.log2 < 9000
theorem op_fdivG {X : Cx} : OpR X (binaryOp .FloorDiv) (rI CDivG fun i j => .int (i.fdiv j)) := opI fun i j _ _ _ _ _ hc q =>
  PyProof.Rows.floordiv_int hc.1 q (.inl (PyProof.noPylong_of_log2 hc.2))
theorem se_fdiv (ha : SE Γ S a ma) (hb : SE Γ S b mb) : SE Γ S (.BinOp a .FloorDiv b pos) (eBin dFdiv ma mb) :=
  se_bin (fun X g => op_fdivG) (bin_int (g := fun i j => .int (i.fdiv j)) (fun _ _ _ => rp_int _) fun u v d h => by
    unfold dFdiv at h
    split at h
    · split at h <;> cases h
      rename_i hc
      exact ⟨_, _, rfl, rfl, ⟨hc.1, by omega⟩, rfl⟩
    · cases h) ha hb
theorem se_mod (ha : SE Γ S a ma) (hb : SE Γ S b mb) : SE Γ S (.BinOp a .Mod b pos) (eBin dMod ma mb) :=
  se_bin (fun X g => op_modN) (bin_int (g := fun i j => .int (i.fmod j)) (fun _ _ _ => rp_int _) fun u v d h => by
    unfold dMod at h
    split at h
    · split at h <;> cases h
      rename_i hc
      exact ⟨_, _, rfl, rfl, hc, rfl⟩
    · cases h) ha hb
theorem un_int {gv : Int → V} {g : Int → D} {f : D → Option D} (hg : ∀ i G, Rp Γ G (g i) (gv i)) (hf : ∀ u d, f u = some d → ∃ i, u = .int i ∧ d = g i) : UnOk Γ (rU gv) f := by
  intro G H w u d x Q R vx hd k
  obtain ⟨i, rfl, rfl⟩ := hf u d hd
  exact ⟨i, vx.int, k _ G H (.refl G) (.refl _ _) (hg i G)⟩
theorem se_neg (ha : SE Γ S a ma) : SE Γ S (.UnaryOp .USub a pos) (eUn dNeg ma) :=
  se_un (fun X g => un_neg) (un_int (g := fun i => .int (-i)) (fun _ _ => rp_int _) fun u d h => by
    unfold dNeg at h; split at h <;> cases h; exact ⟨_, rfl, rfl⟩) ha
/-! ### comparisons -/
def rLtA (K : PySem.W.Frag) : R2 := fun x y H Q => (rI0 fun i j => .bl (decide (i < j))) x y H Q ∨ (∃ i j, x = .str i ∧ y = .str j ∧ Q (.bl (decide (i.cps.toList < j.cps.toList))) H) ∨ rLtT K x y H Q
theorem RepDs.ints_of {F : Hp} {mu : List Addr} : ∀ {xs : List D} {ns : List Int} {vs : List V}, allI xs = some ns → RepDs Γ F mu xs vs → vs = ns.map V.int
  | [], ns, vs, h, r => by unfold allI at h; cases h; unfold RepDs at r; exact r
  | x :: xs, ns, vs, h, r => by
    cases x <;> unfold allI at h <;> first | cases h | skip
    rename_i i
    simp only [Option.map_eq_some_iff] at h
    obtain ⟨ms, e, rfl⟩ := h
    unfold RepDs at r
    obtain ⟨v, t, rfl, q1, q2⟩ := r
    unfold RepD at q1
    rw [q1, RepDs.ints_of e q2]; rfl
theorem bin_lt : BinOk Γ (rLtA Γ.K) dLt := by
  intro G H w u v d x y Q R vx vy hd k
  unfold dLt at hd
  split at hd
  · cases hd
    exact .inl ⟨_, _, vx.int, vy.int, k _ G H (.refl G) (.refl _ _) (rp_bl _)⟩
  · cases hd
    exact .inr (.inl ⟨_, _, vx.str, vy.str, k _ G H (.refl G) (.refl _ _) (rp_bl _)⟩)
  · split at hd <;> cases hd
    rename_i e1 e2
    obtain ⟨a, vs, rfl, h1, r1⟩ := vx.tup
    obtain ⟨b, us, rfl, h2, r2⟩ := vy.tup
    rw [RepDs.ints_of e1 r1] at h1
    rw [RepDs.ints_of e2 r2] at h2
    exact .inr (.inr ⟨a, b, _, _, rfl, rfl, sqT_sub R h1, sqT_sub R h2, k _ G H (.refl G) (.refl _ _) (rp_bl _)⟩)
  · cases hd
theorem opr_lt : ∀ X, Good Γ S X → OpR X (compareOp .Lt) (rLtA Γ.K) := fun X g => by
  have h := op_ltT (X := X) (by have := g.room.un; omega)
  rw [g.ok.K] at h
  exact op_lt.or (op_lt_str.or h)
theorem bin_le : BinOk Γ (rI0 fun i j => .bl (decide (i ≤ j))) dLe := bin_int0 (g := fun i j => .bl (decide (i ≤ j))) (fun _ _ _ => rp_bl _) fun u v d h => by
  unfold dLe at h; split at h <;> cases h; exact ⟨_, _, rfl, rfl, rfl⟩
theorem bin_gt : BinOk Γ (rI0 fun i j => .bl (decide (j < i))) dGt := bin_int0 (g := fun i j => .bl (decide (j < i))) (fun _ _ _ => rp_bl _) fun u v d h => by
  unfold dGt at h; split at h <;> cases h; exact ⟨_, _, rfl, rfl, rfl⟩
theorem bin_ge : BinOk Γ (rI0 fun i j => .bl (decide (j ≤ i))) dGe := bin_int0 (g := fun i j => .bl (decide (j ≤ i))) (fun _ _ _ => rp_bl _) fun u v d h => by
  unfold dGe at h; split at h <;> cases h; exact ⟨_, _, rfl, rfl, rfl⟩
mutual
theorem dp_of {d : D} {x : V} {p : PyData} (R : RelW Γ G H w) (h : Rp Γ G d x) (e : d.py = some p) : Dp Γ.K H x p := by
  cases d with
  | non => simp only [D.py, Option.some.injEq] at e; subst e; unfold Rp RepD at h; subst h; exact .non
  | bl b => simp only [D.py, Option.some.injEq] at e; subst e; unfold Rp RepD at h; subst h; exact .bl b
  | int i => simp only [D.py, Option.some.injEq] at e; subst e; unfold Rp RepD at h; subst h; exact .int i
  | str i => simp only [D.py, Option.some.injEq] at e; subst e; unfold Rp RepD at h; subst h; exact .str i
  | tup xs =>
    simp only [D.py, Option.map_eq_some_iff] at e
    obtain ⟨ps, e, rfl⟩ := e
    unfold Rp RepD at h
    obtain ⟨a, vs, rfl, h1, r⟩ := h
    exact .tup (sqT_sub R h1.1) (dps_of R r e)
  | lst xs =>
    simp only [D.py, Option.map_eq_some_iff] at e
    obtain ⟨ps, e, rfl⟩ := e
    unfold Rp RepD at h
    obtain ⟨a, vs, rfl, h1, r⟩ := h
    exact .lst (.inl (.inl (R.sub _ _ h1))) (dps_of R r e)
  | scr ns =>
    simp only [D.py, Option.some.injEq] at e; subst e
    unfold Rp RepD at h
    obtain ⟨a, rfl, h1⟩ := h
    exact .lst (h1.imp (sub_rd R.sub) id) (dps_ints ns)
  | dct ks vs => simp [D.py] at e
  | cir p t => simp [D.py] at e
  | ref l => simp [D.py] at e
theorem dps_of {ds : List D} {xs : List V} {ps : List PyData} (R : RelW Γ G H w) (h : Rps Γ G ds xs) (e : D.pys ds = some ps) : DpAll Γ.K H xs ps := by
  cases ds with
  | nil => simp only [D.pys, Option.some.injEq] at e; subst e; unfold Rps RepDs at h; subst h; exact .nil
  | cons d ds =>
    unfold Rps RepDs at h
    obtain ⟨v, r, rfl, h1, h2⟩ := h
    simp only [D.pys] at e
    split at e
    · rename_i a b ea eb
      cases e
      exact .cons (dp_of R h1 ea) (dps_of R h2 eb)
    · cases e
theorem dps_ints (ns : List Int) : DpAll Γ.K H (ns.map V.int) (ns.map .int) := by
  cases ns with
  | nil => exact .nil
  | cons n ns => exact .cons (.int n) (dps_ints ns)
end
theorem dp_view {d : D} {x : V} {p : PyData} (R : RelW Γ G H w) (h : Vw Γ G H d x) (e : d.py = some p) : Dp Γ.K H x p := by
  rcases h with h | ⟨a, rfl, h⟩
  · exact dp_of R h e
  · cases d <;> simp only [RepOwn] at h
    · obtain ⟨vs, h1, r⟩ := h
      simp only [D.py, Option.map_eq_some_iff] at e
      obtain ⟨ps, e, rfl⟩ := e
      exact .lst (.inl (.inl h1)) (dps_of R r e)
    · simp [D.py] at e
theorem bin_eq : BinOk Γ (rEqD Γ.K) dEq := by
  intro G H w u v d x y Q R vx vy hd k
  unfold dEq dEqB at hd
  split at hd
  · rename_i p q e1 e2
    split at hd <;> cases hd
    rename_i hs
    rw [Bool.and_eq_true] at hs
    exact ⟨p, q, dp_view R vx e1, dp_view R vy e2, hs.1, hs.2, k _ G H (.refl G) (.refl _ _) (rp_bl _)⟩
  · cases hd
theorem bin_ne : BinOk Γ (rNeD Γ.K) dNe := by
  intro G H w u v d x y Q R vx vy hd k
  unfold dNe dEqB at hd
  split at hd
  · rename_i p q e1 e2
    split at hd <;> cases hd
    rename_i hs
    rw [Bool.and_eq_true] at hs
    exact ⟨p, q, dp_view R vx e1, dp_view R vy e2, hs.1, hs.2, k _ G H (.refl G) (.refl _ _) (rp_bl _)⟩
  · cases hd
theorem opr_eq : ∀ X, Good Γ S X → OpR X (compareOp .Eq) (rEqD Γ.K) := fun X g => by
  have := op_eqD (X := X) g.room.units
  rw [g.ok.K] at this; exact this
theorem opr_ne : ∀ X, Good Γ S X → OpR X (compareOp .NotEq) (rNeD Γ.K) := fun X g => by
  have := op_neD (X := X) g.room.units
  rw [g.ok.K] at this; exact this
theorem se_lt (ha : SE Γ S a ma) (hb : SE Γ S b mb) : SE Γ S (.Compare a [.Lt] [b] pos) (eBin dLt ma mb) := se_cmp opr_lt bin_lt ha hb (nomark _)
theorem se_le (ha : SE Γ S a ma) (hb : SE Γ S b mb) : SE Γ S (.Compare a [.LtE] [b] pos) (eBin dLe ma mb) := se_cmp (fun X g => op_le) bin_le ha hb (nomark _)
theorem se_gt (ha : SE Γ S a ma) (hb : SE Γ S b mb) : SE Γ S (.Compare a [.Gt] [b] pos) (eBin dGt ma mb) := se_cmp (fun X g => op_gt) bin_gt ha hb (nomark _)
theorem se_ge (ha : SE Γ S a ma) (hb : SE Γ S b mb) : SE Γ S (.Compare a [.GtE] [b] pos) (eBin dGe ma mb) := se_cmp (fun X g => op_ge) bin_ge ha hb (nomark _)
theorem se_eq (ha : SE Γ S a ma) (hb : SE Γ S b mb) : SE Γ S (.Compare a [.Eq] [b] pos) (eBin dEq ma mb) := se_cmp opr_eq bin_eq ha hb (nomark _)
theorem se_ne (ha : SE Γ S a ma) (hb : SE Γ S b mb) : SE Γ S (.Compare a [.NotEq] [b] pos) (eBin dNe ma mb) := se_cmp opr_ne bin_ne ha hb (nomark _)
theorem st_lt (ha : SE Γ S a ma) (hb : SE Γ S b mb) : ST Γ S (.Compare a [.Lt] [b] pos) (tVal (eBin dLt ma mb)) := st_cmp opr_lt bin_lt ha hb (nomark _)
theorem st_le (ha : SE Γ S a ma) (hb : SE Γ S b mb) : ST Γ S (.Compare a [.LtE] [b] pos) (tVal (eBin dLe ma mb)) := st_cmp (fun X g => op_le) bin_le ha hb (nomark _)
theorem st_gt (ha : SE Γ S a ma) (hb : SE Γ S b mb) : ST Γ S (.Compare a [.Gt] [b] pos) (tVal (eBin dGt ma mb)) := st_cmp (fun X g => op_gt) bin_gt ha hb (nomark _)
theorem st_ge (ha : SE Γ S a ma) (hb : SE Γ S b mb) : ST Γ S (.Compare a [.GtE] [b] pos) (tVal (eBin dGe ma mb)) := st_cmp (fun X g => op_ge) bin_ge ha hb (nomark _)
theorem st_eq (ha : SE Γ S a ma) (hb : SE Γ S b mb) : ST Γ S (.Compare a [.Eq] [b] pos) (tVal (eBin dEq ma mb)) := st_cmp opr_eq bin_eq ha hb (nomark _)
theorem st_ne (ha : SE Γ S a ma) (hb : SE Γ S b mb) : ST Γ S (.Compare a [.NotEq] [b] pos) (tVal (eBin dNe ma mb)) := st_cmp opr_ne bin_ne ha hb (nomark _)
/-- is None, is not None -/
theorem view_non {u : D} {x : V} (h : Vw Γ G H u x) : (x = .non) ↔ (u = .non) := by
  constructor
  · rintro rfl
    rcases h with h | ⟨a, z, _⟩
    · cases u <;> unfold Rp RepD at h <;> first | rfl | (simp at h)
    · cases z
  · rintro rfl; exact h.non
theorem bin_isN : BinOk Γ (fun x y H Q => y = .non ∧ Q (.bl (decide (x = .non))) H) (fun u v => match v with | .non => dIsN u | _ => none) := by
  intro G H w u v d x y Q R vx vy hd k
  cases v <;> first | cases hd | skip
  refine ⟨vy.non, k _ G H (.refl G) (.refl _ _) ?_⟩
  have e := view_non vx
  cases u <;> simp only [dIsN, Option.some.injEq] at hd <;> subst hd <;> first | (rw [decide_eq_true (e.mpr rfl)]; exact rp_bl _) | (rw [decide_eq_false (fun z => nomatch (e.mp z))]; exact rp_bl _)
theorem bin_notN : BinOk Γ (fun x y H Q => y = .non ∧ Q (.bl (!decide (x = .non))) H) (fun u v => match v with | .non => dIsNotN u | _ => none) := by
  intro G H w u v d x y Q R vx vy hd k
  cases v <;> first | cases hd | skip
  refine ⟨vy.non, k _ G H (.refl G) (.refl _ _) ?_⟩
  have e := view_non vx
  cases u <;> simp only [dIsNotN, Option.some.injEq] at hd <;> subst hd <;> first | (rw [decide_eq_true (e.mpr rfl)]; exact rp_bl _) | (rw [decide_eq_false (fun z => nomatch (e.mp z))]; exact rp_bl _)
def dIs2 : D → D → Option D := fun u v => match v with | .non => dIsN u | _ => none
def dIsNot2 : D → D → Option D := fun u v => match v with | .non => dIsNotN u | _ => none
theorem se_isN {j : Nat} {p2 : Pos} (ha : SE Γ S a ma) : SE Γ S (.Compare a [.Is] [.Constant .none j p2] pos) (eBin dIs2 ma (eC .non)) := se_cmp (fun X g => op_isN) bin_isN ha se_non (nomark _)
theorem se_notN {j : Nat} {p2 : Pos} (ha : SE Γ S a ma) : SE Γ S (.Compare a [.IsNot] [.Constant .none j p2] pos) (eBin dIsNot2 ma (eC .non)) := se_cmp (fun X g => op_notN) bin_notN ha se_non (nomark _)
theorem st_isN {j : Nat} {p2 : Pos} (ha : SE Γ S a ma) : ST Γ S (.Compare a [.Is] [.Constant .none j p2] pos) (tVal (eBin dIs2 ma (eC .non))) := st_cmp (fun X g => op_isN) bin_isN ha se_non (nomark _)
theorem st_notN {j : Nat} {p2 : Pos} (ha : SE Γ S a ma) : ST Γ S (.Compare a [.IsNot] [.Constant .none j p2] pos) (tVal (eBin dIsNot2 ma (eC .non))) := st_cmp (fun X g => op_notN) bin_notN ha se_non (nomark _)
end
end Mnd
/-! Places, slices, and | or | not, a if t else b, displays, arguments. -/
namespace Mnd
open PySem L2
section
variable {Γ : Cg} {S : Sc} {G G' : Gh} {H H' : Hp} {σ : L2.St} {e : Env} {w : W} {Wx : WX} {a b : Expr} {ma mb : M Opd} {pos : Pos}

/-! ### places -/
theorem atI_of {α β : Type} {xs : List α} {ys : List β} {i : Int} {v : α} (h : L2.atI xs i = some v) (l : ys.length = xs.length) : ∃ j : Nat, xs[j]? = some v ∧ ∀ u, ys[j]? = some u → L2.atI ys i = some u := by
  unfold L2.atI at h ⊢
  rw [l]
  cases q : ixN xs.length i with
  | none => rw [q] at h; cases h
  | some j => rw [q] at h; exact ⟨j, h, fun u hu => hu⟩
theorem rps_at {ds : List D} {vs : List V} {i : Int} {d : D} (r : Rps Γ G ds vs) (h : L2.atI ds i = some d) : ∃ v, L2.atI vs i = some v ∧ Rp Γ G d v := by
  obtain ⟨j, h1, h2⟩ := atI_of (ys := vs) h r.length
  obtain ⟨v, e1, q⟩ := r.get h1
  exact ⟨v, h2 v e1, q⟩
theorem ints_at {ns : List Int} {i n : Int} (h : L2.atI ns i = some n) : L2.atI (ns.map V.int) i = some (.int n) := by
  obtain ⟨j, h1, h2⟩ := atI_of (ys := ns.map V.int) h (by simp)
  exact h2 _ (by rw [List.getElem?_map, h1]; rfl)
theorem ixM_ref (l : Nat) (i : Int) (e : Env) (w : W) : ixM (.ref l) (.int i) e w = match w[l]? with
    | some xs => (lift ((L2.atI xs i).map Opd.d) : M Opd) e w
    | none => .bad := rfl
theorem ro_bl {b : Bool} : RepO Γ G σ e (.d (.bl b)) (.bl b) := rp_bl (Γ := Γ) (G := G) b
theorem ro_int {b : Int} : RepO Γ G σ e (.d (.int b)) (.int b) := rp_int (Γ := Γ) (G := G) b
theorem ro_str {b : Str} : RepO Γ G σ e (.d (.str b)) (.str b) := rp_str (Γ := Γ) (G := G) b
theorem ro_non : RepO Γ G σ e (.d .non) .non := rp_non (Γ := Γ) (G := G)
theorem ixM_or (u v : D) : ixM u v = lift ((dIx u v).map Opd.d) ∨ ∃ l i, u = .ref l ∧ v = .int i := by
  cases u <;> first | (cases v <;> first | exact .inl rfl | exact .inr ⟨_, _, rfl, rfl⟩) | skip
theorem se_ix (ha : SE Γ S a ma) (hb : SE Γ S b mb) (hs : PlainIx b := by intro _ _; rfl) : SE Γ S (.Subscript a b pos) (eIx ma mb) := by
  intro X g Wx tk
  refine PE.imp (pe_ix (r := rIx Γ.K) (by have := ix_seq (X := X); rw [g.ok.K] at this; exact this) (ha X g Wx tk) (hb X g Wx tk) hs) ?_
  rintro σ H Q ⟨e, w, G, R, h⟩
  refine ⟨e, w, G, R, (Wp.bnd h).mono fun o e1 w1 G1 H1 l1 R1 h1 x rx => ⟨e1, w1, G1, R1, (Wp.bnd h1).mono fun o2 e2 w2 G2 H2 l2 R2 h2 y ry => ?_⟩⟩
  obtain ⟨u, hu, h2⟩ := wp_look h2
  obtain ⟨v, hv, h2⟩ := wp_look h2
  have vx := (rx.le l2 (e' := e2)).view R2 hu
  have vy := ry.view R2 hv
  have nr : (∀ l, u ≠ .ref l) → Wp Γ S Wx σ (lift ((dIx u v).map Opd.d)) e2 w2 G2 fun o e' w' G' H' => ∀ v, RepO Γ G' σ e' o v → Q v H' := fun hn => by
    rcases ixM_or u v with z | ⟨l, i, z, _⟩
    · rw [z] at h2; exact h2
    · exact absurd z (hn l)
  cases u with
  | ref l =>
    obtain ⟨a, rfl, hm⟩ := vx.ref
    obtain ⟨f1, f2, xs, vs, h3, h4, h5⟩ := R2.st.wel l a hm
    obtain ⟨i, rfl⟩ : ∃ i, v = .int i := by
      rcases ixM_or (.ref l) v with z | ⟨_, i, _, z⟩
      · rw [z] at h2
        obtain ⟨p, hp, h2⟩ := Wp.lift h2
        cases v <;> cases hp
      · exact ⟨i, z⟩
    unfold Wp at h2
    rw [ixM_ref, h3] at h2
    obtain ⟨p, hp, h2⟩ := Wp.lift (show Wp Γ S Wx σ (lift ((L2.atI xs i).map Opd.d)) e2 w2 G2 _ from h2)
    cases q : L2.atI xs i with
    | none => rw [q] at hp; cases hp
    | some d =>
      rw [q] at hp; cases hp
      obtain ⟨v, q1, q2⟩ := rps_at h5 q
      exact .inl ⟨a, vs, i, v, rfl, vy.int, .inl (.inl h4), q1, Wp.ret h2 R2 (.refl _) v q2⟩
  | tup xs =>
    obtain ⟨p, hp, h2⟩ := Wp.lift (nr fun _ z => nomatch z)
    cases v <;> first | cases hp | skip
    rename_i i
    obtain ⟨a, vs, rfl, h3, h5⟩ := vx.tup
    cases q : L2.atI xs i with
    | none => simp only [dIx, q] at hp; cases hp
    | some d =>
      simp only [dIx, q] at hp; cases hp
      obtain ⟨v, q1, q2⟩ := rps_at h5 q
      exact .inr (.inl ⟨a, vs, i, v, rfl, vy.int, sqT_sub R2.st h3, q1, Wp.ret h2 R2 (.refl _) v q2⟩)
  | lst xs =>
    obtain ⟨p, hp, h2⟩ := Wp.lift (nr fun _ z => nomatch z)
    cases v <;> first | cases hp | skip
    rename_i i
    obtain ⟨a, vs, rfl, h3, h5⟩ := vx.lst R2.st
    cases q : L2.atI xs i with
    | none => simp only [dIx, q] at hp; cases hp
    | some d =>
      simp only [dIx, q] at hp; cases hp
      obtain ⟨v, q1, q2⟩ := rps_at h5 q
      exact .inl ⟨a, vs, i, v, rfl, vy.int, .inl (.inl h3), q1, Wp.ret h2 R2 (.refl _) v q2⟩
  | scr ns =>
    obtain ⟨p, hp, h2⟩ := Wp.lift (nr fun _ z => nomatch z)
    cases v <;> first | cases hp | skip
    rename_i i
    obtain ⟨a, rfl, h3⟩ := vx.scr R2.st
    cases q : L2.atI ns i with
    | none => simp only [dIx, q] at hp; cases hp
    | some d =>
      simp only [dIx, q] at hp; cases hp
      exact .inl ⟨a, _, i, .int d, rfl, vy.int, h3, ints_at q, Wp.ret h2 R2 (.refl _) _ ro_int⟩
  | str z =>
    obtain ⟨p, hp, h2⟩ := Wp.lift (nr fun _ z => nomatch z)
    cases v <;> first | cases hp | skip
    rename_i i
    simp only [dIx] at hp
    split at hp
    · rename_i hz
      cases q : L2.atI z.cps.toList i with
      | none => rw [q] at hp; cases hp
      | some c =>
        rw [q] at hp; cases hp
        exact .inr (.inr ⟨z, i, c, vx.str, vy.int, line1 hz, q, Wp.ret h2 R2 (.refl _) _ ro_str⟩)
    · cases hp
  | non => obtain ⟨p, hp, h2⟩ := Wp.lift (nr fun _ z => nomatch z); cases v <;> cases hp
  | bl z => obtain ⟨p, hp, h2⟩ := Wp.lift (nr fun _ z => nomatch z); cases v <;> cases hp
  | int z => obtain ⟨p, hp, h2⟩ := Wp.lift (nr fun _ z => nomatch z); cases v <;> cases hp
  | dct z y => obtain ⟨p, hp, h2⟩ := Wp.lift (nr fun _ z => nomatch z); cases v <;> cases hp
  | cir z y => obtain ⟨p, hp, h2⟩ := Wp.lift (nr fun _ z => nomatch z); cases v <;> cases hp

/-! ### slices -/
def tP (Γ : Cg) (S : Sc) (Wx : WX) (m : M (Option Int)) : TO := fun σ H Q => ∃ e w G, Rel Γ S G H σ e w ∧ Wp Γ S Wx σ m e w G fun o e' w' G' H' => Q o H'
def SP (Γ : Cg) (S : Sc) (e : Option Expr) (m : M (Option Int)) : Prop := ∀ X, Good Γ S X → ∀ Wx, Takes X Wx → PO X e (tP Γ S Wx m)
theorem PO.imp {X : Cx} {x : Option Expr} {t t' : TO} (h : PO X x t) (i : ∀ σ H Q, t' σ H Q → t σ H Q) : PO X x t' := ⟨fun pins s σ H Q I q => h.run pins s σ H Q I (i σ H Q q)⟩
theorem sp_none : SP Γ S none pNone := fun X g Wx tk => PO.imp po_none fun σ H Q ⟨e, w, G, R, h⟩ => Wp.ret h R (.refl _)
theorem sp_some (ha : SE Γ S a ma) : SP Γ S (some a) (pSome ma) := fun X g Wx tk => PO.imp (po_some (ha X g Wx tk)) fun σ H Q ⟨e, w, G, R, h⟩ =>
  ⟨e, w, G, R, (Wp.bnd h).mono fun o e1 w1 G1 H1 l1 R1 h1 x rx => by
    obtain ⟨u, hu, h1⟩ := wp_look h1
    have vx := rx.view R1 hu
    cases u <;> first | exact (Wp.bad h1).elim | skip
    exact ⟨_, vx.int, Wp.ret h1 R1 (.refl _)⟩⟩
theorem rps_cut {ds : List D} {vs : List V} {lo hi : Option Int} (r : Rps Γ G ds vs) : Rps Γ G (cutL ds lo hi) (cutV vs lo hi) := by
  unfold cutL cutV
  rw [r.length]
  exact (r.drop _).take _
theorem cutL_all {ds : List D} {lo hi : Option Int} (h : HT.sIx ds.length 0 lo = 0 ∧ HT.sIx ds.length ds.length hi = ds.length) : cutL ds lo hi = ds := by
  unfold cutL
  rw [h.1, h.2]; simp
theorem cut_ints (ns : List Int) (lo hi : Option Int) : cutV (ns.map V.int) lo hi = (cutL ns lo hi).map V.int := by
  unfold cutL cutV
  simp [List.map_drop, List.map_take]
variable {lo hi : Option Expr} {ml mh : M (Option Int)} {p2 : Pos}
def rCutA (K : PySem.W.Frag) : V → Option Int → Option Int → Hp → VK → Prop := fun x lo hi H Q => rSlA K x lo hi H Q ∨ rSlL K x lo hi H Q
theorem slr_cut : ∀ X, Good Γ S X → SlR X (rCutA Γ.K) := fun X g => by
  have h1 := sl_tupA (X := X)
  have h2 := sl_list (X := X)
  rw [g.ok.K] at h1 h2
  exact h1.or h2
theorem se_cut (ha : SE Γ S a ma) (hl : SP Γ S lo ml) (hh : SP Γ S hi mh) : SE Γ S (.Subscript a (.Slice lo hi none p2) pos) (eCut ma ml mh) := by
  intro X g Wx tk
  refine PE.imp (pe_slice (slr_cut X g) (ha X g Wx tk) (hl X g Wx tk) (hh X g Wx tk)) ?_
  rintro σ H Q ⟨e, w, G, R, h⟩
  refine ⟨e, w, G, R, (Wp.bnd h).mono fun o e1 w1 G1 H1 l1 R1 h1 x rx => ⟨e1, w1, G1, R1, (Wp.bnd h1).mono fun l e2 w2 G2 H2 l2 R2 h2 => ⟨e2, w2, G2, R2, (Wp.bnd h2).mono fun hh e3 w3 G3 H3 l3 R3 h3 => ?_⟩⟩⟩
  obtain ⟨u, hu, h3⟩ := wp_look h3
  obtain ⟨p, hp, h3⟩ := Wp.lift h3
  have vx := (rx.le (l2.trans l3) (e' := e3)).view R3 hu
  cases u <;> simp only [dCut] at hp <;> first | cases hp | skip
  · obtain ⟨a, vs, rfl, q, r⟩ := vx.tup'
    refine .inl ⟨a, vs, rfl, sqT_sub R3.st q.1, fun z => ?_, fun z p hp => ?_⟩
    · rw [r.length] at z
      refine Wp.ret h3 R3 (.refl _) _ ?_
      show Rp Γ G3 _ _
      rw [cutL_all z]; exact rp_tup q r
    · obtain ⟨l, kk, r'⟩ := allocT R3.st hp (rps_cut (lo := l) (hi := hh) r) rfl
      exact Wp.ret h3 (kk _ _ _ _ R3) l _ r'
  · obtain ⟨a, vs, rfl, q, r⟩ := vx.lst R3.st
    refine .inr ⟨a, vs, rfl, .inl (.inl q), fun p hp => ?_⟩
    obtain ⟨l, kk, r'⟩ := allocL R3.st hp (rps_cut (lo := l) (hi := hh) r) rfl
    exact Wp.ret h3 (kk _ _ _ _ R3) l _ r'
  · obtain ⟨a, rfl, q⟩ := vx.scr R3.st
    refine .inr ⟨a, _, rfl, q, fun p hp => ?_⟩
    rw [cut_ints]
    obtain ⟨l, kk, r'⟩ := allocL (o := .lst ((cutL _ l hh).map V.int)) R3.st hp (RepDs.of_ints _) rfl
    exact Wp.ret h3 (kk _ _ _ _ R3) l _ r'

/-! ### tests -/
theorem st_not {t : M Bool} (ha : ST Γ S a t) : ST Γ S (.UnaryOp .Not a pos) (Mnd.tNot t) := fun X g Wx tk => PT.imp (pt_not (ha X g Wx tk)) fun σ H Q ⟨e, w, G, R, h⟩ =>
  ⟨e, w, G, R, (Wp.bnd h).mono fun b e1 w1 G1 H1 l1 R1 h1 => Wp.ret h1 R1 (.refl _)⟩
/-- and, or (any number) -/
def SW (Γ : Cg) (S : Sc) (e : Expr) (m : M Bool) : Prop := ∀ X, Good Γ S X → ∀ Wx, Takes X Wx → PW X e (tT Γ S Wx m)
theorem PW.imp {X : Cx} {x : Expr} {t t' : TT} (h : PW X x t) (i : ∀ σ H Q, t' σ H Q → t σ H Q) : PW X x t' := ⟨fun wh pins s σ H Q I q => h.run wh pins s σ H Q I (i σ H Q q)⟩
variable {t u : M Bool} {rest : List Expr}
theorem st_of (h : SW Γ S a t) : ST Γ S a t := fun X g Wx tk => (h X g Wx tk).pt
theorem sw_and1 (ha : ST Γ S a t) : SW Γ S (.BoolOp .And [a] pos) t := fun X g Wx tk => pw_and1 (ha X g Wx tk)
theorem sw_or1 (ha : ST Γ S a t) : SW Γ S (.BoolOp .Or [a] pos) t := fun X g Wx tk => pw_or1 (ha X g Wx tk)
theorem sw_and (ha : ST Γ S a t) (hb : SW Γ S (.BoolOp .And (b :: rest) pos) u) : SW Γ S (.BoolOp .And (a :: b :: rest) pos) (Mnd.tAnd t u) := fun X g Wx tk => PW.imp (pw_and (ha X g Wx tk) (hb X g Wx tk)) fun σ H Q ⟨e, w, G, R, h⟩ =>
  ⟨e, w, G, R, (Wp.bnd h).mono fun c e1 w1 G1 H1 l1 R1 h1 => by
    cases c with
    | true => exact ⟨e1, w1, G1, R1, h1⟩
    | false => exact Wp.ret h1 R1 (.refl _)⟩
theorem sw_or (ha : ST Γ S a t) (hb : SW Γ S (.BoolOp .Or (b :: rest) pos) u) : SW Γ S (.BoolOp .Or (a :: b :: rest) pos) (Mnd.tOr t u) := fun X g Wx tk => PW.imp (pw_or (ha X g Wx tk) (hb X g Wx tk)) fun σ H Q ⟨e, w, G, R, h⟩ =>
  ⟨e, w, G, R, (Wp.bnd h).mono fun c e1 w1 G1 H1 l1 R1 h1 => by
    cases c with
    | false => exact ⟨e1, w1, G1, R1, h1⟩
    | true => exact Wp.ret h1 R1 (.refl _)⟩
/-- .. as values -/
def eAnd (a b : M Opd) : M Opd := bnd (tVal a) fun c => if c then b else ret (.d (.bl false))
def eOr (a b : M Opd) : M Opd := bnd (tVal a) fun c => if c then ret (.d (.bl true)) else b
def eNot (a : M Opd) : M Opd := bnd (tVal a) fun c => ret (.d (.bl (!c)))
theorem tE_val {σ : L2.St} {H : Hp} {P : Bool → Env → W → Gh → Hp → Prop} {G : Gh} (h : Wp Γ S Wx σ (tVal ma) e w G P) :
    Wp Γ S Wx σ ma e w G fun o e' w' G' H' => ∀ v, RepO Γ G' σ e' o v → ∃ c, v = .bl c ∧ P c e' w' G' H' :=
  (Wp.bnd h).mono fun o e1 w1 G1 H1 l1 R1 h1 v rv => by
    obtain ⟨u, hu, h1⟩ := wp_look h1
    have vx := rv.view R1 hu
    cases u <;> first | exact (Wp.bad h1).elim | skip
    exact ⟨_, vx.bl, Wp.ret h1 R1 (.refl _)⟩
theorem se_one {op : BoolOp} (ha : SE Γ S a ma) : SE Γ S (.BoolOp op [a] pos) ma := fun X g Wx tk => pe_one (ha X g Wx tk)
theorem se_and (ha : SE Γ S a ma) (hb : SE Γ S (.BoolOp .And (b :: rest) pos) mb) : SE Γ S (.BoolOp .And (a :: b :: rest) pos) (eAnd ma mb) := fun X g Wx tk => PE.imp (pe_and (ha X g Wx tk) (hb X g Wx tk)) fun σ H Q ⟨e, w, G, R, h⟩ =>
  ⟨e, w, G, R, (tE_val (H := H) (Wp.bnd h)).mono fun o e1 w1 G1 H1 l1 R1 h1 v rv => by
    obtain ⟨c, rfl, h1⟩ := h1 v rv
    refine ⟨c, rfl, ?_⟩
    cases c with
    | true => exact ⟨e1, w1, G1, R1, h1⟩
    | false => exact Wp.ret h1 R1 (.refl _) _ ro_bl⟩
theorem se_or (ha : SE Γ S a ma) (hb : SE Γ S (.BoolOp .Or (b :: rest) pos) mb) : SE Γ S (.BoolOp .Or (a :: b :: rest) pos) (eOr ma mb) := fun X g Wx tk => PE.imp (pe_or (ha X g Wx tk) (hb X g Wx tk)) fun σ H Q ⟨e, w, G, R, h⟩ =>
  ⟨e, w, G, R, (tE_val (H := H) (Wp.bnd h)).mono fun o e1 w1 G1 H1 l1 R1 h1 v rv => by
    obtain ⟨c, rfl, h1⟩ := h1 v rv
    refine ⟨c, rfl, ?_⟩
    cases c with
    | false => exact ⟨e1, w1, G1, R1, h1⟩
    | true => exact Wp.ret h1 R1 (.refl _) _ ro_bl⟩
theorem se_not (ha : SE Γ S a ma) : SE Γ S (.UnaryOp .Not a pos) (eNot ma) := fun X g Wx tk => PE.imp (pe_not (ha X g Wx tk)) fun σ H Q ⟨e, w, G, R, h⟩ =>
  ⟨e, w, G, R, (tE_val (H := H) (Wp.bnd h)).mono fun o e1 w1 G1 H1 l1 R1 h1 v rv => by
    obtain ⟨c, rfl, h1⟩ := h1 v rv
    exact ⟨c, rfl, Wp.ret h1 R1 (.refl _) _ ro_bl⟩⟩
theorem se_if {c : Expr} (hc : ST Γ S c t) (ha : SE Γ S a ma) (hb : SE Γ S b mb) : SE Γ S (.IfExp c a b pos) (eIf t ma mb) := fun X g Wx tk => PE.imp (pe_ifExp (hc X g Wx tk) (ha X g Wx tk) (hb X g Wx tk)) fun σ H Q ⟨e, w, G, R, h⟩ =>
  ⟨e, w, G, R, (Wp.bnd h).mono fun c e1 w1 G1 H1 l1 R1 h1 => by
    cases c with
    | true => exact ⟨e1, w1, G1, R1, h1⟩
    | false => exact ⟨e1, w1, G1, R1, h1⟩⟩
/-- a < b < c -/
def eChain (f f' : D → D → Option D) (a b c : M Opd) : M Opd := bnd a fun x => bnd b fun y => bnd (look x) fun u => bnd (look y) fun v => match f u v with
  | some (.bl true) => bnd c fun z => bnd (look y) fun v => bnd (look z) fun q => lift ((f' v q).map .d)
  | some (.bl false) => ret (.d (.bl false))
  | _ => bad

/-! ### items and arguments -/
variable {es : List Expr} {me : M (List D)} {mk : M (List Sl)}
theorem sa_nil : SA Γ S [] aNil := fun X g Wx tk => PA.imp pa_nil fun σ H Q ⟨e, w, G, R, h⟩ => Wp.ret h R (.refl _) _ .nil
theorem sa_cons (ha : SE Γ S a ma) (hr : SA Γ S es me) (hs : ∀ env, starEach (a :: es) env = (false, eval a env) :: starEach es env := by intro _; rfl) : SA Γ S (a :: es) (aCons ma me) :=
  fun X g Wx tk => PA.imp (pa_cons (ha X g Wx tk) (hr X g Wx tk) (hs _)) fun σ H Q ⟨e, w, G, R, h⟩ =>
    ⟨e, w, G, R, (Wp.bnd h).mono fun o e1 w1 G1 H1 l1 R1 h1 x rx => by
      obtain ⟨d, e2, G2, l2, R2, rd, h2⟩ := wp_frz h1 R1 rx
      exact ⟨e2, w1, G2, R2, (Wp.bnd h2).mono fun ds e3 w3 G3 H3 l3 R3 h3 vs rs => Wp.ret h3 R3 (.refl _) _ (.cons (Rp.le l3.lt rd) rs)⟩⟩
theorem se_tup {x1 : Nat} (h : SA Γ S es me) (hl : es.length ≤ 100000 := by decide) : SE Γ S (.Tuple es x1 pos) (eTup (bnd me fun ds => if ds.length ≤ 100000 then ret ds else bad)) := fun X g Wx tk => PE.imp (pe_tup (h X g Wx tk)) fun σ H Q ⟨e, w, G, R, h⟩ =>
  ⟨e, w, G, R, (Wp.bnd (Wp.bnd h)).mono fun ds e1 w1 G1 H1 l1 R1 h1 vs rs => by
    split at h1
    · rename_i hn
      refine ⟨line1 (by rw [rs.length]; exact hn), fun p hp => ?_⟩
      obtain ⟨l, kk, r⟩ := allocT R1.st hp rs rfl
      exact Wp.ret (Wp.ret h1 R1 (.refl _)) (kk _ _ _ _ R1) l _ r
    · exact (Wp.bad h1).elim⟩
end
end Mnd
/-! Statements, targets, loops. -/
namespace Mnd
open PySem L2
/-- .. the slots may change -/
def WpTR {α : Type} (Γ : Cg) (S : Sc) (Wx : WX) (r : MR α) (G : Gh) (P : α → Env → W → L2.St → Gh → Hp → Prop) : Prop :=
  match r with
  | .bad => False
  | .ok a e' w' => ∀ G' H' σ', G.le G' → Rel Γ S G' H' σ' e' w' → P a e' w' σ' G' H'
  | .ex x e' w' => ∀ G' H' σ' cls d, G.le G' → Rel Γ S G' H' σ' e' w' → RepX Γ G' x cls d → Wx cls d σ' H'
def WpT {α : Type} (Γ : Cg) (S : Sc) (Wx : WX) (m : M α) (e : Env) (w : W) (G : Gh) (P : α → Env → W → L2.St → Gh → Hp → Prop) : Prop := WpTR Γ S Wx (m e w) G P
section
variable {Γ : Cg} {S : Sc} {G G' : Gh} {H H' : Hp} {σ : L2.St} {e : Env} {w : W} {Wx : WX} {α β : Type}
theorem WpTR.mono {r : MR α} {P P' : α → Env → W → L2.St → Gh → Hp → Prop} (h : WpTR Γ S Wx r G P) (i : ∀ a e' w' σ' G' H', G.le G' → Rel Γ S G' H' σ' e' w' → P a e' w' σ' G' H' → P' a e' w' σ' G' H') : WpTR Γ S Wx r G P' := by
  cases r with
  | bad => exact h
  | ok a e' w' => exact fun G' H' σ' l R => i _ _ _ _ G' H' l R (h G' H' σ' l R)
  | ex x e' w' => exact h
theorem WpTR.le {r : MR α} {P : α → Env → W → L2.St → Gh → Hp → Prop} (h : WpTR Γ S Wx r G P) (l : G.le G') : WpTR Γ S Wx r G' P := by
  cases r with
  | bad => exact h
  | ok a e' w' => exact fun G2 H2 σ2 l2 R2 => h G2 H2 σ2 (l.trans l2) R2
  | ex x e' w' => exact fun G2 H2 σ2 c d l2 R2 => h G2 H2 σ2 c d (l.trans l2) R2
theorem WpT.mono {m : M α} {P P' : α → Env → W → L2.St → Gh → Hp → Prop} (h : WpT Γ S Wx m e w G P) (i : ∀ a e' w' σ' G' H', G.le G' → Rel Γ S G' H' σ' e' w' → P a e' w' σ' G' H' → P' a e' w' σ' G' H') : WpT Γ S Wx m e w G P' := WpTR.mono h i
theorem WpT.le {m : M α} {P : α → Env → W → L2.St → Gh → Hp → Prop} (h : WpT Γ S Wx m e w G P) (l : G.le G') : WpT Γ S Wx m e w G' P := WpTR.le h l
theorem WpT.bndS {m : M α} {f : α → M β} {P : β → Env → W → L2.St → Gh → Hp → Prop} (h : WpT Γ S Wx (bnd m f) e w G P) : WpT Γ S Wx m e w G fun a e' w' _ G' _ => WpT Γ S Wx (f a) e' w' G' P := by
  unfold WpT at h
  rw [bnd_eq] at h
  unfold WpT
  cases q : m e w with
  | bad => rw [q] at h; exact h
  | ex x e' w' => rw [q] at h; exact h
  | ok a e' w' => rw [q] at h; exact fun G' H' σ' l R => WpTR.le h l
theorem WpT.bndE {m : M α} {f : α → M β} {P : β → Env → W → L2.St → Gh → Hp → Prop} (h : WpT Γ S Wx (bnd m f) e w G P) (σ : L2.St) : Wp Γ S Wx σ m e w G fun a e' w' G' _ => WpT Γ S Wx (f a) e' w' G' P := by
  unfold WpT at h
  rw [bnd_eq] at h
  unfold Wp
  cases q : m e w with
  | bad => rw [q] at h; exact h
  | ex x e' w' => rw [q] at h; exact fun G' H' c d l R => h G' H' σ c d l R
  | ok a e' w' => rw [q] at h; exact fun G' H' l R => WpTR.le h l
theorem WpT.ret {a : α} {P : α → Env → W → L2.St → Gh → Hp → Prop} (h : WpT Γ S Wx (ret a) e w G P) (R : Rel Γ S G' H' σ e w) (l : G.le G') : P a e w σ G' H' := h G' H' σ l R
/-- the operand is looked at -/
theorem wpT_look {o : Opd} {f : D → M β} {P : β → Env → W → L2.St → Gh → Hp → Prop} (h : WpT Γ S Wx (Mnd.bnd (look o) f) e w G P) : ∃ u, lookV o e = some u ∧ WpT Γ S Wx (f u) e w G P := by
  cases o with
  | d d => exact ⟨d, rfl, h⟩
  | sl i =>
    unfold WpT at h
    rw [bnd_eq, look_sl] at h
    cases q : slotD e[i]? with
    | none => rw [q] at h; exact h.elim
    | some u => rw [q] at h; exact ⟨u, q, h⟩
theorem wpT_frz {o : Opd} {v : V} {f : D → M β} {P : β → Env → W → L2.St → Gh → Hp → Prop} (h : WpT Γ S Wx (Mnd.bnd (frz o) f) e w G P) (R : Rel Γ S G H σ e w) (ro : RepO Γ G σ e o v) :
    ∃ d e' G', G.le G' ∧ Rel Γ S G' H σ e' w ∧ Rp Γ G' d v ∧ WpT Γ S Wx (f d) e' w G' P := by
  cases o with
  | d d => exact ⟨d, e, G, .refl G, R, ro, h⟩
  | sl i =>
    have ro : σ[i]? = some (some v) := ro
    unfold WpT at h
    rw [bnd_eq, frz_sl] at h
    cases es : e[i]? with
    | none => rw [es] at h; exact h.elim
    | some s =>
      rw [es] at h
      cases s with
      | no => exact h.elim
      | fn k g => exact h.elim
      | val d =>
        obtain ⟨v', e1, r⟩ := R.slot i _ _ es ro
        cases e1
        exact ⟨d, e, G, .refl G, R, r, h⟩
      | own d =>
        obtain ⟨a, G', e1, l, R', r⟩ := R.freeze es ro
        cases e1
        exact ⟨d, _, G', l, R', r, WpTR.le h l⟩

/-! ### statements -/
def EndP (Γ : Cg) (D : Ends) : Flow → Env → W → L2.St → Gh → Hp → Prop := fun f _ _ σ G H => match f with
  | .next => D.nx σ H
  | .brk => D.bk σ H
  | .cnt => D.ct σ H
  | .ret s => ∀ v, RepR Γ G H s v → D.rt v H
def tS (Γ : Cg) (S : Sc) (Wx : WX) (m : M Flow) : TS := fun D σ H => ∃ e w G, Rel Γ S G H σ e w ∧ WpT Γ S Wx m e w G (EndP Γ D)
def SS (Γ : Cg) (S : Sc) (st : Stmt) (m : M Flow) : Prop := ∀ X, Good Γ S X → ∀ Wx, Takes X Wx → PS X st (tS Γ S Wx m)
def SB (Γ : Cg) (S : Sc) (st : List Stmt) (m : M Flow) : Prop := ∀ X, Good Γ S X → ∀ Wx, Takes X Wx → PSs X st (tS Γ S Wx m)
theorem PS.imp {X : Cx} {x : Stmt} {t t' : TS} (h : PS X x t) (i : ∀ D σ H, t' D σ H → t D σ H) : PS X x t' := ⟨fun pins s σ H D I q => h.run pins s σ H D I (i D σ H q)⟩
theorem PSs.imp {X : Cx} {x : List Stmt} {t t' : TS} (h : PSs X x t) (i : ∀ D σ H, t' D σ H → t D σ H) : PSs X x t' := ⟨fun pins s σ H D I q => h.run pins s σ H D I (i D σ H q)⟩
variable {a b : Expr} {ma mb : M Opd} {mo mo' : M Sl} {pos : Pos} {st : Stmt} {rest : List Stmt} {m m' : M Flow} {t : M Bool}
theorem sb_nil : SB Γ S [] sNil := fun X g Wx tk => PSs.imp pss_nil fun D σ H ⟨e, w, G, R, h⟩ => WpT.ret h R (.refl _)
theorem sb_cons (h1 : SS Γ S st m) (h2 : SB Γ S rest m') : SB Γ S (st :: rest) (sSeq m m') := fun X g Wx tk => PSs.imp (pss_cons (h1 X g Wx tk) (h2 X g Wx tk)) fun D σ H ⟨e, w, G, R, h⟩ =>
  ⟨e, w, G, R, (WpT.bndS h).mono fun f e1 w1 σ1 G1 H1 l1 R1 h1 => by
    cases f with
    | next => exact ⟨e1, w1, G1, R1, h1⟩
    | brk => exact WpT.ret (P := EndP Γ D) (Wx := Wx) h1 R1 (.refl _)
    | cnt => exact WpT.ret (P := EndP Γ D) (Wx := Wx) h1 R1 (.refl _)
    | ret s => exact WpT.ret (P := EndP Γ D) (Wx := Wx) h1 R1 (.refl _)⟩
theorem sb_one (h1 : SS Γ S st m) : SB Γ S [st] m := fun X g Wx tk => pss_one (h1 X g Wx tk)
theorem ss_pass : SS Γ S (.Pass pos) sNil := fun X g Wx tk => PS.imp ps_pass fun D σ H ⟨e, w, G, R, h⟩ => WpT.ret h R (.refl _)
theorem ss_expr (ha : SE Γ S a ma) (hs : ∀ env, swapsWith a none pos.line env = pure false := by intro _; rfl) : SS Γ S (.Expr a pos) (sExpr ma) := fun X g Wx tk => PS.imp (ps_expr (ha X g Wx tk) (hs _)) fun D σ H ⟨e, w, G, R, h⟩ =>
  ⟨e, w, G, R, (WpT.bndE h σ).mono fun o e1 w1 G1 H1 l1 R1 h1 v rv => WpT.ret h1 R1 (.refl _)⟩
theorem ss_ret (ha : SO Γ S a mo) : SS Γ S (.Return (some a) pos) (sRet mo) := fun X g Wx tk => PS.imp (ps_ret (ha X g Wx tk)) fun D σ H ⟨e, w, G, R, h⟩ =>
  ⟨e, w, G, R, (WpT.bndE h σ).mono fun o e1 w1 G1 H1 l1 R1 h1 v rv => WpT.ret h1 R1 (.refl _) v rv.1⟩
/-- return x -/
theorem ss_retV {i : Nat} {x : Str} {p1 : Pos} (hN : S.N[i]? = some x) (hv : visB S.names x = true) (hd : (x == ("__debug__" : Str)) = false := by decide +kernel) (hcd : (x == ("__classdict__" : Str)) = false := by decide +kernel) : SS Γ S (.Return (some (.Name x p1)) pos) (sRet (oVar i)) := by
  intro X g Wx tk
  refine PS.imp (ps_ret (pe_var (i := i) (by rw [g.N]; exact hN) (vis_of hv g.names) hd hcd)) ?_
  rintro D σ H ⟨e, w, G, R, h⟩
  unfold sRet WpT at h
  rw [bnd_eq] at h
  have ov : oVar i e w = match e[i]? with
    | some (.val d) => MR.ok (Sl.val d) e w
    | some (.own d) => .ok (.own d) e w
    | _ => .bad := rfl
  rw [ov] at h
  cases es : e[i]? with
  | none => rw [es] at h; exact h.elim
  | some s =>
    have hi : i < σ.length := by rw [← R.len]; exact (List.getElem?_eq_some_iff.mp es).1
    have hσ := List.getElem?_eq_getElem hi
    have sl := R.slot i s _ es hσ
    rw [es] at h
    cases s with
    | no => exact h.elim
    | fn f => exact h.elim
    | val d => obtain ⟨v, e1, r⟩ := sl; exact ⟨v, by rw [hσ, e1], h G H σ (.refl _) R v r⟩
    | own d => obtain ⟨a, e1, r⟩ := sl; exact ⟨_, by rw [hσ, e1], h G H σ (.refl _) R _ ⟨a, rfl, r⟩⟩
def sRetN : M Flow := ret (.ret (.val .non))
theorem ss_retN : SS Γ S (.Return none pos) sRetN := fun X g Wx tk => PS.imp ps_retN fun D σ H ⟨e, w, G, R, h⟩ => WpT.ret h R (.refl _) _ (rp_non (Γ := Γ) (G := G))
theorem ss_if {c : Expr} {A B : List Stmt} (hc : ST Γ S c t) (ha : SB Γ S A m) (hb : SB Γ S B m') : SS Γ S (.If c A B pos) (sIf t m m') := fun X g Wx tk => PS.imp (ps_if (hc X g Wx tk) (ha X g Wx tk) (hb X g Wx tk)) fun D σ H ⟨e, w, G, R, h⟩ =>
  ⟨e, w, G, R, (WpT.bndE h σ).mono fun c e1 w1 G1 H1 l1 R1 h1 => by
    cases c with
    | true => exact ⟨e1, w1, G1, R1, h1⟩
    | false => exact ⟨e1, w1, G1, R1, h1⟩⟩
def sBrk : M Flow := ret .brk
def sCnt : M Flow := ret .cnt
theorem ss_break : SS Γ S (.Break pos) sBrk := fun X g Wx tk => PS.imp ps_break fun D σ H ⟨e, w, G, R, h⟩ => WpT.ret h R (.refl _)
theorem ss_continue : SS Γ S (.Continue pos) sCnt := fun X g Wx tk => PS.imp ps_continue fun D σ H ⟨e, w, G, R, h⟩ => WpT.ret h R (.refl _)

/-! ### stores -/
/-- a slot stored -/
theorem Rel.put (R : Rel Γ S G H σ e w) {i : Nat} {s : Sl} {v : V} (r : SlotOk Γ S G H (some v) s) (nd : ∀ d, s = .own d → ∀ (j : Nat) (d' : D), j ≠ i → e[j]? = some (.own d') → σ[j]? = some (some v) → False) :
    Rel Γ S G H (σ.set i (some v)) (e.set i s) w := by
  refine ⟨R.st, by simpa using R.len, fun j s' x q1 q2 => ?_, fun j k a di dj hjk q1 q2 q3 q4 => ?_⟩
  · rcases List.getElem?_set_cases q1 with ⟨rfl, rfl, hl⟩ | ⟨hne, q1⟩
    · rw [List.getElem?_set_self (by rw [← R.len]; exact hl)] at q2; cases q2; exact r
    · rw [List.getElem?_set_ne hne] at q2; exact R.slot j s' x q1 q2
  · rcases List.getElem?_set_cases q1 with ⟨rfl, rfl, hl⟩ | ⟨hne, p1⟩
    · rcases List.getElem?_set_cases q2 with ⟨z, _, _⟩ | ⟨hne2, p2⟩
      · exact hjk z
      · rw [List.getElem?_set_self (by rw [← R.len]; exact hl)] at q3; cases q3
        rw [List.getElem?_set_ne hne2] at q4
        exact nd di rfl k dj (Ne.symm hjk) p2 q4
    · rcases List.getElem?_set_cases q2 with ⟨rfl, rfl, hl⟩ | ⟨hne2, p2⟩
      · rw [List.getElem?_set_self (by rw [← R.len]; exact hl)] at q4; cases q4
        rw [List.getElem?_set_ne hne] at q3
        exact nd dj rfl j di hjk p1 q3
      · rw [List.getElem?_set_ne hne] at q3
        rw [List.getElem?_set_ne hne2] at q4
        exact R.apart j k a di dj hjk p1 p2 q3 q4
theorem Rel.putV (R : Rel Γ S G H σ e w) {i : Nat} {d : D} {v : V} (r : Rp Γ G d v) : Rel Γ S G H (σ.set i (some v)) (e.set i (.val d)) w := R.put (s := .val d) ⟨v, rfl, r⟩ fun _ z => nomatch z
theorem Rel.putR (R : Rel Γ S G H σ e w) {i : Nat} {s : Sl} {v : V} (r : RepRS Γ G H σ e s v) : Rel Γ S G H (σ.set i (some v)) (e.set i s) w := by
  refine R.put ?_ fun d z j d' hj q1 q2 => r.2 d z j d' q1 q2
  obtain ⟨r, _⟩ := r
  cases s with
  | no => exact r.elim
  | fn k g => exact r.elim
  | val d => exact ⟨v, rfl, r⟩
  | own d => obtain ⟨a, rfl, q⟩ := r; exact ⟨a, rfl, q⟩
def locB (names : List (Str × NameKind)) (x : Str) : Bool := match names.lookup x with
  | some .local => true
  | some .cell => true
  | _ => false
theorem loc_of {names : List (Str × NameKind)} {sc : Scope} {x : Str} (h : locB names x = true) (hn : sc.names = names) : L2.Loc sc x := by
  unfold locB at h
  unfold L2.Loc
  rw [hn]
  cases q : names.lookup x with
  | none => rw [q] at h; cases h
  | some k => cases k <;> rw [q] at h <;> first | exact .inl rfl | exact .inr rfl | cases h
theorem put_eq (i : Nat) (s : Sl) (e : Env) (w : W) : put i s e w = if i < e.length then .ok () (e.set i s) w else .bad := rfl
theorem wpT_put {i : Nat} {s : Sl} {f : Unit → M β} {P : β → Env → W → L2.St → Gh → Hp → Prop} (h : WpT Γ S Wx (bnd (put i s) f) e w G P) : WpT Γ S Wx (f ()) (e.set i s) w G P := by
  unfold WpT at h
  rw [bnd_eq, put_eq] at h
  by_cases q : i < e.length
  · rw [if_pos q] at h; exact h
  · rw [if_neg q] at h; exact h.elim
theorem ss_set {i : Nat} {x : Str} {p1 : Pos} (hN : S.N[i]? = some x) (hv : locB S.names x = true) (hfr : S.fnb x = true) (ha : SO Γ S a mo) (hs : ∀ env : PySem.Env, env.scope.names = S.names → env.scope.kind = .function → swapsWith a (some (.Name x p1)) pos.line env = pure false := by intro _ _ _; rfl) :
    SS Γ S (.Assign [.Name x p1] a pos) (sSet i mo) := by
  intro X g Wx tk
  refine ⟨fun pins s σ H D I h => ?_⟩
  refine (PS.imp (ps_set (i := i) (by rw [g.N]; exact g.nd) (by rw [g.N]; exact hN) (loc_of hv g.names) (ha X g Wx tk) (hs _ g.names I.ok.kind) (.inl (g.fn x hfr))) ?_).run pins s σ H D I h
  rintro D σ H ⟨e, w, G, R, h⟩
  exact ⟨e, w, G, R, (WpT.bndE h σ).mono fun r e1 w1 G1 H1 l1 R1 h1 v rv => by
    show D.nx (σ.set i (some v)) H1
    exact WpT.ret (P := EndP Γ D) (wpT_put h1) (R1.putR rv) (.refl _)⟩
/-! ### targets -/
/-- but for the slots ts as they were -/
def Agree (ts : List Nat) (σ σ' : L2.St) : Prop := σ'.length = σ.length ∧ ∀ i : Nat, i ∉ ts → σ'[i]? = σ[i]?
theorem Agree.refl (ts : List Nat) (σ : L2.St) : Agree ts σ σ := ⟨rfl, fun _ _ => rfl⟩
theorem Agree.trans {ts ts' : List Nat} {σ σ1 σ2 : L2.St} (a : Agree ts σ σ1) (b : Agree ts' σ1 σ2) : Agree (ts ++ ts') σ σ2 :=
  ⟨b.1.trans a.1, fun i hi => (b.2 i fun z => hi (List.mem_append_right _ z)).trans (a.2 i fun z => hi (List.mem_append_left _ z))⟩
theorem Agree.set (σ : L2.St) (i : Nat) (x : Option V) : Agree [i] σ (σ.set i x) := ⟨by simp, fun j hj => List.getElem?_set_ne (fun z => hj (by simp [z]))⟩
def tG (Γ : Cg) (S : Sc) (Wx : WX) (ts : List Nat) (g : D → M Unit) : TG := fun v σ H Q => ∃ d e w G, Rel Γ S G H σ e w ∧ Rp Γ G d v ∧ WpT Γ S Wx (g d) e w G fun _ _ _ σ' _ H' => Agree ts σ σ' → Q σ' H'
def SG (Γ : Cg) (S : Sc) (tg : Expr) (ts : List Nat) (g : D → M Unit) : Prop := ∀ X, Good Γ S X → ∀ Wx, Takes X Wx → PG X tg (tG Γ S Wx ts g)
def tGs (Γ : Cg) (S : Sc) (Wx : WX) (ts : List Nat) (g : List D → M Unit) : TGs := fun vs σ H Q => ∃ ds e w G, Rel Γ S G H σ e w ∧ Rps Γ G ds vs ∧ WpT Γ S Wx (g ds) e w G fun _ _ _ σ' _ H' => Agree ts σ σ' → Q σ' H'
def SGs (Γ : Cg) (S : Sc) (tg : List Expr) (ts : List Nat) (g : List D → M Unit) : Prop := ∀ X, Good Γ S X → ∀ Wx, Takes X Wx → PGs X tg (tGs Γ S Wx ts g)
theorem PG.imp {X : Cx} {x : Expr} {t t' : TG} (h : PG X x t) (i : ∀ v σ H Q, t' v σ H Q → t v σ H Q) : PG X x t' := ⟨fun pins s σ H v u Q I r q => h.run pins s σ H v u Q I r (i v σ H Q q)⟩
theorem PGs.imp {X : Cx} {x : List Expr} {t t' : TGs} (h : PGs X x t) (i : ∀ v σ H Q, t' v σ H Q → t v σ H Q) : PGs X x t' := ⟨fun pins s σ H v u Q I r q => h.run pins s σ H v u Q I r (i v σ H Q q)⟩
variable {tg : Expr} {tgs : List Expr} {ts ts' : List Nat} {g1 : D → M Unit} {gs : List D → M Unit}
theorem gVar_eq (i : Nat) (d : D) (e : Env) (w : W) : gVar i d e w = if i < e.length then .ok () (e.set i (.val d)) w else .bad := rfl
/-- a local name (in a comprehension's block, too: its own) -/
theorem sg_var {i : Nat} {x : Str} (hN : S.N[i]? = some x) (hv : locB S.names x = true) (hf : S.fnb x = true ∨ S.names.lookup x = some .local) : SG Γ S (.Name x pos) [i] (gVar i) := by
  intro X g Wx tk
  refine PG.imp (pg_name (i := i) (by rw [g.N]; exact g.nd) (by rw [g.N]; exact hN) (loc_of hv g.names) (hf.elim (fun z => .inl (g.fn x z)) fun z => .inr (by rw [g.names]; exact z))) ?_
  rintro v σ H Q ⟨d, e, w, G, R, r, h⟩
  unfold WpT at h
  rw [gVar_eq] at h
  by_cases q : i < e.length
  · rw [if_pos q] at h; exact h G H _ (.refl _) (R.putV r) (Agree.set _ _ _)
  · rw [if_neg q] at h; exact h.elim
theorem sgs_nil : SGs Γ S [] [] gNil := fun X g Wx tk => PGs.imp pgs_nil fun vs σ H Q ⟨ds, e, w, G, R, r, h⟩ => by
  cases ds with
  | nil => unfold Rps RepDs at r; exact ⟨r, WpT.ret h R (.refl _) (.refl _ _)⟩
  | cons d ds => exact h.elim
theorem sgs_cons (h1 : SG Γ S tg ts g1) (h2 : SGs Γ S tgs ts' gs) (hs : ∀ env, (assignEach (tg :: tgs) env).map (·.2) = assign tg env :: (assignEach tgs env).map (·.2) := by intro _; rfl) : SGs Γ S (tg :: tgs) (ts ++ ts') (gCons g1 gs) :=
  fun X g Wx tk => PGs.imp (pgs_cons (h1 X g Wx tk) (h2 X g Wx tk) (hs _)) fun vs σ H Q ⟨ds, e, w, G, R, r, h⟩ => by
    cases ds with
    | nil => exact h.elim
    | cons d ds =>
      unfold Rps RepDs at r
      obtain ⟨v, r', rfl, r1, r2⟩ := r
      exact ⟨v, r', rfl, d, e, w, G, R, r1, (WpT.bndS h).mono fun _ e1 w1 σ1 G1 H1 l1 R1 h1 ag => ⟨ds, e1, w1, G1, R1, Rps.le l1.lt r2, h1.mono fun _ _ _ σ2 _ _ _ _ q ag2 => q (ag.trans ag2)⟩⟩
theorem sg_tup {k n : Nat} (h : SGs Γ S tgs ts gs) (hn : tgs.length = n) (hst : ∀ env, (assignEach tgs env).length = tgs.length ∧ (assignEach tgs env).findIdx? (·.1) = none := by intro _; exact ⟨rfl, rfl⟩) : SG Γ S (.Tuple tgs k pos) ts (gTup n gs) :=
  fun X g Wx tk => PG.imp (pg_tup (n := n) g.calm (h X g Wx tk) ((hst _).1.trans hn) (hst _).2) fun v σ H Q ⟨d, e, w, G, R, r, h⟩ => by
    cases d <;> first | exact h.elim | skip
    rename_i ds
    have h : WpT Γ S Wx (if ds.length = n then gs ds else bad) e w G _ := h
    unfold Rp RepD at r
    obtain ⟨a, vs, rfl, q, r⟩ := r
    by_cases hl : ds.length = n
    · rw [if_pos hl] at h
      exact ⟨a, vs, rfl, by rw [g.ok.K]; exact sqT_sub R.st q.1, by rw [RepDs.length r, hl], ds, e, w, G, R, r, h⟩
    · rw [if_neg hl] at h; exact h.elim
/-- a = e, a tuple of targets -/
theorem ss_asg (ha : SE Γ S a ma) (hg : SG Γ S tg ts g1) (hs : ∀ env, swapsWithSole [tg] a pos.line env = pure false := by intro _; rfl) (hw : ∀ env, swappedStores [tg] a env = pure none := by intro _; rfl)
    (h1 : ∀ env, (assignEach [tg] env).map (·.2) = [assign tg env] := by intro _; rfl) : SS Γ S (.Assign [tg] a pos) (sAsg ma g1) :=
  fun X g Wx tk => PS.imp (ps_asg (ha X g Wx tk) (hg X g Wx tk) (hs _) (hw _) (h1 _)) fun D σ H ⟨e, w, G, R, h⟩ =>
    ⟨e, w, G, R, (WpT.bndE h σ).mono fun o e1 w1 G1 H1 l1 R1 h1 v rv => by
      obtain ⟨d, e2, G2, l2, R2, rd, h2⟩ := wpT_frz h1 R1 rv
      exact ⟨d, e2, w1, G2, R2, rd, (WpT.bndS h2).mono fun _ e3 w3 σ3 G3 H3 l3 R3 h3 _ => WpT.ret (P := EndP Γ D) (Wx := Wx) h3 R3 (.refl _)⟩⟩
/-! ### a place stored -/
theorem putAt_own (i : Nat) (k : Int) (d : D) (e : Env) (w : W) : putAt i k d e w = match e[i]? with
  | some (.own (.lst xs)) => match L2.ixN xs.length k with
    | some j => .ok () (e.set i (.own (.lst (xs.set j d)))) w
    | none => .bad
  | some (.val (.ref l)) => match w[l]? with
    | some xs => match L2.ixN xs.length k with
      | some j => .ok () e (w.set l (xs.set j d))
      | none => .bad
    | none => .bad
  | _ => .bad := rfl
/-- the list of one's own at a slot is written -/
theorem Rel.own_write (R : Rel Γ S G H σ e w) {i : Nat} {d d' : D} (he : e[i]? = some (.own d)) {a : Addr} (hs : σ[i]? = some (some (.ref a))) {o : HO} (hr : RepOwn Γ G.F G.mu (upd H a o) a d') : Rel Γ S G (upd H a o) σ (e.set i (.own d')) w := by
  obtain ⟨a', e1, f1, f2, f3, f4⟩ := R.slot i _ _ he hs
  cases e1
  obtain ⟨u0, hu0⟩ : ∃ u, H a = some u := OwnOk.lt_of (G := G) ⟨f1, f2, f3, f4⟩
  have nF : ∀ b u, G.F b = some u → b ≠ a := fun b u q z => by rw [z, f1] at q; cases q
  have nZ : ∀ b u, G.Z b = some u → b ≠ a := fun b u q z => by rw [z, f2] at q; cases q
  have nM : ∀ (l : Nat) b, G.mu[l]? = some b → b ≠ a := fun l b q z => f3 (by rw [← z]; exact List.mem_of_getElem? q)
  refine ⟨⟨fun b u q => ?_, fun b u q => ?_, R.st.dis, R.st.mul, R.st.mun, fun l b q => ?_, R.st.tab.write hu0 (OwnOk.seq (G := G) ⟨f1, f2, f3, f4⟩ hu0)⟩, by simpa using R.len, fun j s x q1 q2 => ?_, fun j k b di dj hjk q1 q2 q3 q4 => ?_⟩
  · rw [upd_ne (nF b u q)]; exact R.st.sub _ _ q
  · rw [upd_ne (nZ b u q)]; exact R.st.out _ _ q
  · obtain ⟨h1, h2, xs, vs, h3, h4, h5⟩ := R.st.wel l b q
    exact ⟨h1, h2, xs, vs, h3, by rw [upd_ne (nM l b q)]; exact h4, h5⟩
  · rcases List.getElem?_set_cases q1 with ⟨rfl, rfl, hl⟩ | ⟨hne, q1⟩
    · rw [hs] at q2; cases q2
      exact ⟨a, rfl, f1, f2, f3, hr⟩
    · have h := R.slot j s x q1 q2
      cases s with
      | no => trivial
      | val d => exact h
      | fn k g => exact h
      | own d'' =>
        obtain ⟨b, e2, r1, r2, r3, r4⟩ := h
        refine ⟨b, e2, r1, r2, r3, r4.keep (.refl _) (List.prefix_refl _) (upd_ne ?_)⟩
        rintro rfl
        exact R.apart j i b d'' d (Ne.symm hne) q1 he (by rw [q2, e2]) hs
  · have aux : ∀ {j : Nat} {dj : D}, (e.set i (.own d'))[j]? = some (.own dj) → ∃ dj', e[j]? = some (.own dj') := fun {j dj} q => by
      rcases List.getElem?_set_cases q with ⟨rfl, _, _⟩ | ⟨_, q⟩
      · exact ⟨_, he⟩
      · exact ⟨_, q⟩
    obtain ⟨_, p1⟩ := aux q1
    obtain ⟨_, p2⟩ := aux q2
    exact R.apart j k b _ _ hjk p1 p2 q3 q4
theorem getElem?_inj_nodup {α : Type} {l : List α} (h : l.Nodup) {i j : Nat} {a : α} (h1 : l[i]? = some a) (h2 : l[j]? = some a) : i = j := by
  obtain ⟨hi, e1⟩ := List.getElem?_eq_some_iff.mp h1
  obtain ⟨hj, e2⟩ := List.getElem?_eq_some_iff.mp h2
  exact (List.getElem_inj h).mp (e1.trans e2.symm)
/-- a list of the store is written -/
theorem Rel.well_write (R : Rel Γ S G H σ e w) {l : Nat} {a : Addr} (hm : G.mu[l]? = some a) {ds : List D} {vs : List V} (r : Rps Γ G ds vs) : Rel Γ S G (upd H a (.lst vs)) σ e (w.set l ds) := by
  obtain ⟨f1, f2, xs0, vs0, f3, f4, f5⟩ := R.st.wel l a hm
  have hl : l < w.length := (List.getElem?_eq_some_iff.mp f3).1
  have nF : ∀ b u, G.F b = some u → b ≠ a := fun b u q z => by rw [z, f1] at q; cases q
  have nZ : ∀ b u, G.Z b = some u → b ≠ a := fun b u q z => by rw [z, f2] at q; cases q
  refine ⟨⟨fun b u q => ?_, fun b u q => ?_, R.st.dis, by simpa using R.st.mul, R.st.mun, fun k b q => ?_, R.st.tab.write f4 rfl⟩, R.len, fun j s x q1 q2 => ?_, R.apart⟩
  · rw [upd_ne (nF b u q)]; exact R.st.sub _ _ q
  · rw [upd_ne (nZ b u q)]; exact R.st.out _ _ q
  · by_cases hk : k = l
    · subst hk
      rw [hm] at q; cases q
      exact ⟨f1, f2, ds, vs, List.getElem?_set_self hl, upd_same, r⟩
    · obtain ⟨h1, h2, xs, us, h3, h4, h5⟩ := R.st.wel k b q
      refine ⟨h1, h2, xs, us, by rw [List.getElem?_set_ne (Ne.symm hk)]; exact h3, ?_, h5⟩
      rw [upd_ne fun z => hk (getElem?_inj_nodup R.st.mun q (by rw [z]; exact hm))]
      exact h4
  · have h := R.slot j s x q1 q2
    cases s with
    | no => trivial
    | val d => exact h
    | fn k g => exact h
    | own d =>
      obtain ⟨b, e2, r1, r2, r3, r4⟩ := h
      refine ⟨b, e2, r1, r2, r3, r4.keep (.refl _) (List.prefix_refl _) (upd_ne ?_)⟩
      rintro rfl
      exact r3 (List.mem_of_getElem? hm)
theorem sg_ix {i : Nat} {x : Str} {k : Expr} {mk : M Opd} {p1 : Pos} (hx : SE Γ S (.Name x p1) (eVar i)) (hk : SE Γ S k mk)
    (ha : ∀ (env : PySem.Env) v, assign (.Subscript (.Name x p1) k pos) env v = (do
      let ov ← holding [v] (eval (.Name x p1) env)
      let iv ← holding [v, ov] (eval k env)
      standAt pos
      holding [v, ov, iv] (setItem ov iv v)
      release [v, ov, iv] []) := by intro _ _; rfl) : SG Γ S (.Subscript (.Name x p1) k pos) [] (gIx i mk) := by
  intro X g Wx tk
  refine PG.imp (pg_sub (t := rSetL) (hx X g Wx tk) (hk X g Wx tk) set_list (ha _)) ?_
  rintro v σ H Q ⟨d, e, w, G, R, r, h⟩
  refine ⟨e, w, G, R, ?_⟩
  have hv := WpT.bndE h σ
  -- the name
  unfold Wp at hv ⊢
  rw [eVar_eq] at hv ⊢
  cases es : slotD e[i]? with
  | none => rw [es] at hv; exact hv.elim
  | some u0 =>
    rw [es] at hv
    intro G1 H1 l1 R1 o ro
    have ro : σ[i]? = some (some o) := ro
    refine ⟨e, w, G1, R1, (WpT.bndE (hv G1 H1 l1 R1) σ).mono fun ok e2 w2 G2 H2 l2 R2 h2 kv rk => ?_⟩
    obtain ⟨u, hu, h2⟩ := wpT_look h2
    have vk := rk.view R2 hu
    cases u <;> first | exact h2.elim | skip
    rename_i kk
    have h2 : WpT Γ S Wx (putAt i kk d) e2 w2 G2 _ := h2
    unfold WpT at h2
    rw [putAt_own] at h2
    have r2 : Rp Γ G2 d v := Rp.le (l1.trans l2).lt r
    cases ei : e2[i]? with
    | none => rw [ei] at h2; exact h2.elim
    | some s =>
      rw [ei] at h2
      have sl := R2.slot i s _ ei ro
      cases s with
      | no => exact h2.elim
      | fn f => exact h2.elim
      | own du =>
        cases du <;> first | exact h2.elim | skip
        rename_i xs
        obtain ⟨a, e1, f1, f2, f3, vs, f4, f5⟩ := sl
        cases e1
        have h2 : WpTR Γ S Wx (match L2.ixN xs.length kk with | some j => .ok () (e2.set i (.own (.lst (xs.set j d)))) w2 | none => .bad) G2 _ := h2
        cases ej : L2.ixN xs.length kk with
        | none => rw [ej] at h2; exact h2.elim
        | some j =>
          rw [ej] at h2
          refine ⟨a, vs, kk, j, rfl, vk.int, f4, by rw [f5.length]; exact ej, ?_⟩
          exact h2 G2 _ _ (.refl _) (R2.own_write ei ro ⟨_, upd_same, f5.set r2 j⟩) (.refl _ _)
      | val du =>
        cases du <;> first | exact h2.elim | skip
        rename_i l
        obtain ⟨v', e1, rr⟩ := sl
        cases e1
        unfold Rp RepD at rr
        obtain ⟨a, rfl, hm⟩ := rr
        obtain ⟨f1, f2, xs, vs, f3, f4, f5⟩ := R2.st.wel l a hm
        have h2 : WpTR Γ S Wx (match w2[l]? with | some xs => (match L2.ixN xs.length kk with | some j => .ok () e2 (w2.set l (xs.set j d)) | none => .bad) | none => .bad) G2 _ := h2
        rw [f3] at h2
        have h2 : WpTR Γ S Wx (match L2.ixN xs.length kk with | some j => .ok () e2 (w2.set l (xs.set j d)) | none => .bad) G2 _ := h2
        cases ej : L2.ixN xs.length kk with
        | none => rw [ej] at h2; exact h2.elim
        | some j =>
          rw [ej] at h2
          refine ⟨a, vs, kk, j, rfl, vk.int, f4, by rw [f5.length]; exact ej, ?_⟩
          exact h2 G2 _ _ (.refl _) (R2.well_write hm (f5.set r2 j)) (.refl _ _)
end
end Mnd
/-! What is walked: lists, tuples, ranges, texts; zip and enumerate of lists and tuples in any mix. -/
namespace Mnd
open PySem L2
/-- the iterator J yields the items, from any heap that holds G's -/
def ItOk (Γ : Cg) (G : Gh) (J : It) (items : List D) : Prop := ∀ (G2 : Gh) (H2 : Hp), G.lt G2 → Sub G2.F H2 → ∀ i : Nat,
  (i < items.length → J.go i H2 ∧ ∀ d x H3, items[i]? = some d → J.yld i H2 x H3 → (H3 = H2 ∧ Rp Γ G2 d x) ∨ (∃ p ds vs, H2 p = none ∧ d = .tup ds ∧ Rps Γ G2 ds vs ∧ x = .ref p ∧ H3 = upd H2 p (.tup vs))) ∧
  (items.length = i → J.stop i H2)
def tI (Γ : Cg) (S : Sc) (Wx : WX) (m : M (List D)) : TI := fun σ H R => ∃ e w G, Rel Γ S G H σ e w ∧ Wp Γ S Wx σ m e w G fun items e' w' G' H' => ∀ J, ItOk Γ G' J items → R J H'
def SI (Γ : Cg) (S : Sc) (tg iter : Expr) (m : M (List D)) : Prop := ∀ X, Good Γ S X → ∀ Wx, Takes X Wx → PI X tg iter (tI Γ S Wx m)
theorem PI.imp {X : Cx} {tg x : Expr} {t t' : TI} (h : PI X tg x t) (i : ∀ σ H Q, t' σ H Q → t σ H Q) : PI X tg x t' := ⟨fun pins s σ H Q I q => h.run pins s σ H Q I (i σ H Q q)⟩

/-! ### lists and tuples -/
def SqX (k : Bool) (K : PySem.W.Frag) (H : Hp) (a : Addr) (xs : List V) : Prop := if k = true then SqT K H a xs else SqL K H a xs
def seqH (k : Bool) (a : Addr) (items : Array Value) (h : Heap) : Prop := if k = true then h.IsTuple a items else h.IsList a items
def seqIt (k : Bool) (it a : Addr) (i : Nat) (h : Heap) : Prop := if k = true then h.IsTupleIter it a i else h.IsListIter it a i
def itObj (k : Bool) (a : Addr) : Obj := if k = true then { cls := .type "tuple_iterator", data := .fields #[.ref a, .int 0 0] } else { cls := .type "list_iterator", data := .fields #[.ref a, .int 0 0] }
theorem drawK {prog : Program} {w : World} {A : Around} (k : Bool) (hh : A.handled = none) (it a : Addr) (hne : a ≠ it) (items : Array Value) :
    Draws prog w A it [it, a] items.size (fun i v => items[i]? = some v) (fun i h => seqIt k it a i h ∧ seqH k a items h) := by
  cases k
  · exact Draws.list hh it a hne items
  · exact Draws.tuple hh it a hne items
theorem beginK (k : Bool) (a : Addr) (items : Array Value) : Begins (.ref a) (itObj k a) (seqH k a items) := by
  cases k
  · exact begins_list a items
  · exact begins_tuple a items
section
variable {X : Cx} {pins : List (Addr × Obj)} {σ : L2.St} {H : Hp} {s : Shared} {a : Addr} {xs ys : List V} {k : Bool}
theorem Inv.seqK (I : L2.Inv X pins σ H s) (h : SqX k X.K H a xs) : ∃ its : List Value, Vals xs its ∧ seqH k a its.toArray s.heap ∧ (∃ o, s.heap.get? a = some o ∧ (o.cls = .type "list" ∨ o.cls = .type "tuple")) ∧ xs.length ≤ sizeLine := by
  cases k
  · obtain ⟨its, r, p, z⟩ := I.list h
    obtain ⟨o, n, e, c, _⟩ := id p
    exact ⟨its, r, p.isList, ⟨o, e, .inl c⟩, z⟩
  · obtain ⟨its, r, p, z⟩ := I.tuple h
    obtain ⟨o, e, c, _⟩ := id p
    exact ⟨its, r, p, ⟨o, e, .inr c⟩, z⟩
theorem Inv.seqK_inj (I : L2.Inv X pins σ H s) (h : SqX k X.K H a xs) (h' : SqX k X.K H a ys) : xs = ys := by
  cases k
  · exact I.list_inj h h'
  · exact I.tuple_inj h h'
end
/-- untracked records of ours have turned -/
theorem _root_.L2.Inv.turnedN {X : Cx} {pins : List (Addr × Obj)} {σ : L2.St} {H : Hp} {s : Shared} {h' : Heap} {t' : Nat} {ch : List Addr} (I : L2.Inv X pins σ H s) (hk : ∀ b o, b ∉ ch → s.heap.get? b = some o → h'.get? b = some o) (hf : ∀ b ∈ ch, FpOk X pins H b) :
    L2.Inv X pins σ H { s with heap := h', toks := t' } := by
  refine I.step (g' := s.gens) (d' := s.drawn) (ch := ch) (fun b hb => ⟨(hf b hb).2.2.2.1, (hf b hb).2.1, (hf b hb).2.2.2.2.1, (hf b hb).2.2.2.2.2⟩) (fun b o _ _ hc e _ => hk b o hc e) (fun b o _ _ hc e _ => ⟨o.slots, hk b o hc e⟩) (fun _ _ _ _ n => n)
    (fun b o hc e => ⟨o, hk b o hc e⟩) (fun _ _ e => e) (fun _ _ _ e => e) (fun b ps e => ⟨#[], by rw [e]; simp⟩) (fun m hm => ?_) (fun b u e => ?_) I.bare
  · obtain ⟨o, es, ep, ho, r⟩ := hm
    exact ⟨o, es, ep, hk _ o (fun z => (hf _ z).2.1 rfl) ho, r⟩
  · refine (I.hok b u e).stay (fun c v hc q => hk c v (fun z => ?_) q) (fun _ q => q) fun _ _ q => q
    have zc := (hf c z).1
    rcases hc with z2 | z2
    · rw [z2, e] at zc; cases zc
    · rw [zc] at z2; cases z2
theorem seqIt.obj {k : Bool} {it a : Addr} {i : Nat} {h : Heap} (st : seqIt k it a i h) : ∃ o, h.get? it = some o ∧ (∀ v, o.data ≠ .cell v) ∧ (o.cls = .type "list_iterator" ∨ o.cls = .type "tuple_iterator") := by
  cases k
  · obtain ⟨o, e, c, d⟩ := st
    exact ⟨o, e, fun v z => (by rw [d] at z; cases z), .inl c⟩
  · obtain ⟨o, e, c, d⟩ := st
    exact ⟨o, e, fun v z => (by rw [d] at z; cases z), .inr c⟩
theorem seqIt.keep {k : Bool} {it a : Addr} {i : Nat} {h h' : Heap} (st : seqIt k it a i h) (kp : ∀ o, h.get? it = some o → h'.get? it = some o) : seqIt k it a i h' := by
  cases k
  · exact Heap.IsListIter.at st kp
  · exact Heap.IsTupleIter.at st kp
theorem seqH.keep {k : Bool} {a : Addr} {items : Array Value} {h h' : Heap} (st : seqH k a items h) (kp : ∀ o, h.get? a = some o → h'.get? a = some o) : seqH k a items h' := by
  cases k
  · exact Heap.IsList.at st kp
  · exact Heap.IsTuple.at st kp

/-! ### enumerate -/
def Iten (k : Bool) (K : PySem.W.Frag) (a : Addr) : It :=
  ⟨fun i H => ∃ (xs : List V) (x : V), SqX k K H a xs ∧ xs[i]? = some x, fun i H v H' => ∃ T x, v = .ref T ∧ H T = none ∧ H' = upd H T (.tup [.int (i : Nat), x]) ∧ ∀ xs, SqX k K H a xs → xs[i]? = some x, fun i H => ∃ xs : List V, SqX k K H a xs ∧ xs.length = i⟩
theorem turn_en {P : Program} {w : World} {K : PySem.W.Frag} {elts : List Expr} {kk : Nat} {tpos : Pos} (k : Bool) (a e it : Addr) :
    Turn P w K (.Tuple elts kk tpos) (Iten k K a) [e, it] e (fun i h => (∃ old, IsEnum h e it (0 + (i : Int)) old) ∧ seqIt k it a i h ∧ e ≠ it) where
  mem := by simp
  obj := fun i h st b hb => by
    obtain ⟨⟨old, he⟩, hi, _⟩ := st
    obtain ⟨o, ho, hd, _⟩ := hi.obj
    have e' : b = e ∨ b = it := by simpa using hb
    rcases e' with z | z
    · rw [z]; exact ⟨_, he, fun v q => nomatch q⟩
    · rw [z]; exact ⟨o, ho, hd⟩
  keep := fun i h h' st kp => let ⟨⟨old, he⟩, hi, hne⟩ := st; ⟨⟨old, kp e (by simp) _ he⟩, hi.keep fun o q => kp it (by simp) o q, hne⟩
  item := by
    intro X hP hw hK hc i pins s σ H E I hf st hg
    subst hP hw hK
    obtain ⟨hen, hit, hne⟩ := st
    obtain ⟨xs, x, hq, hx⟩ := hg
    obtain ⟨its, rv, p, ⟨oa, ha, hca⟩, hz⟩ := Inv.seqK I hq
    obtain ⟨u, hu, ru⟩ := rv.get hx
    obtain ⟨oi, hoi, _, hci⟩ := hit.obj
    obtain ⟨old, he⟩ := hen
    have nai : a ≠ it := fun z => by
      rw [z, hoi] at ha; cases ha
      rcases hca with q | q <;> rcases hci with q' | q' <;> rw [q] at q' <;> injection q' with q' <;> exact absurd q' (by decide)
    have nea : e ≠ a := fun z => by
      have he' : s.heap.get? e = some _ := he
      rw [z, ha] at he'; cases he'
      rcases hca with q | q <;> injection q with q <;> exact absurd q (by decide)
    have D := drawK (prog := X.prog) (w := X.w) (A := X.A.in1) k (I.ok.hd hc) it a nai its.toArray
    have W := WalksT.enumFrom (prog := X.prog) (w := X.w) (A := X.A) 0 D e hne (by simp [hne, nea]) (by simp)
    have hlt : i < its.toArray.size := by
      have := (List.getElem?_eq_some_iff.mp hu).1
      simpa using this
    refine W.item i s _ _ hlt ⟨⟨old, he⟩, hit, p⟩ fun T vals h' tk hpt hT hTup hmid hk => ?_
    obtain ⟨t, x', hx', rfl⟩ := hpt
    have ex : x' = u := by
      have hx' : its.toArray[i]? = some x' := hx'
      rw [List.getElem?_toArray, hu] at hx'; exact (Option.some.inj hx').symm
    subst ex
    refine ⟨_, rfl, W.go elts kk tpos i T { s with heap := h', toks := tk } _ _ hmid fun h'' st'' hk2 => ?_⟩
    obtain ⟨⟨_, hmid1⟩, hmid2, hTe, hTi⟩ := hmid
    obtain ⟨oT, hoT, hcT, nT, hdT⟩ := id hTup
    have hT2 : h''.get? T = some oT := hk2 T oT (by simp [hTe, hTi]) hoT
    have e0 : (0 : Int) + (i : Int) = (i : Int) := by omega
    have new : ObjOk X.prog X.w (upd H T (.tup [.int (i : Nat), x])) h'' T (.tup [.int (i : Nat), x]) := by
      refine ⟨by show 2 ≤ sizeLine; decide, [.int (0 + (i : Int)) t, x'], .cons ⟨t, by rw [e0]⟩ (.cons ru .nil), ?_⟩
      exact ⟨oT, hT2, hcT, nT, hdT⟩
    have I1 : L2.Inv X pins σ (upd H T (.tup [.int (i : Nat), x])) { s with heap := h'', toks := tk } :=
      I.turnedNew (ch := [e, it]) (fun b ob hb q => hk2 b ob hb (hk b ob hb q)) hf hT new
    refine ⟨.ref T, _, I1, rfl, ⟨_, x, rfl, I.hok.fresh hT, rfl, fun ys hy => by rw [Inv.seqK_inj I hy hq]; exact hx⟩, ⟨st''.1, st''.2.1, hne⟩, fun b hb => ?_⟩
    have hb' : b < s.heap.objs.size := by
      have e' : b = e ∨ b = it := by simpa using hb
      rcases e' with z | z
      · rw [z]; exact Heap.lt_size he
      · rw [z]; exact Heap.lt_size hoi
    rw [upd_ne (Nat.ne_of_lt (Nat.lt_of_lt_of_le hb' hT))]
    exact (hf b hb).1
  done := by
    intro X hP hw hK hc i pins s σ H E I hf st hg
    subst hP hw hK
    obtain ⟨⟨old, he⟩, hit, hne⟩ := st
    obtain ⟨xs, hq, hx⟩ := hg
    obtain ⟨its, rv, p, ⟨oa, ha, hca⟩, hz⟩ := Inv.seqK I hq
    obtain ⟨oi, hoi, _, hci⟩ := hit.obj
    have nai : a ≠ it := fun z => by
      rw [z, hoi] at ha; cases ha
      rcases hca with q | q <;> rcases hci with q' | q' <;> rw [q] at q' <;> injection q' with q' <;> exact absurd q' (by decide)
    have nea : e ≠ a := fun z => by
      have he' : s.heap.get? e = some _ := he
      rw [z, ha] at he'; cases he'
      rcases hca with q | q <;> injection q with q <;> exact absurd q (by decide)
    have hl := rv.length
    have D := drawK (prog := X.prog) (w := X.w) (A := X.A.in1) k (I.ok.hd hc) it a nai its.toArray
    have W := WalksT.enumFrom (prog := X.prog) (w := X.w) (A := X.A) 0 D e hne (by simp [hne, nea]) (by simp)
    have hs : its.toArray.size = i := by rw [List.size_toArray]; omega
    refine W.done s _ _ (by rw [hs]; exact ⟨⟨old, he⟩, hit, p⟩) fun h' tk hk => ⟨rfl, I.turnedN hk hf⟩
  self := fun A i s Q E st h => let ⟨⟨_, he⟩, _⟩ := st; wpAny_pyIter_enum he h
/-! ### zip -/
/-- the sequence is none of the iterator's records -/
theorem Inv.zk_facts {X : Cx} {pins : List (Addr × Obj)} {σ : L2.St} {H : Hp} {s : Shared} {k : Bool} {a : Addr} {xs : List V} {ch : List Addr} (I : L2.Inv X pins σ H s) (hf : ∀ b ∈ ch, FpOk X pins H b) (h : SqX k X.K H a xs) : a ∉ ch := fun hm => by
  obtain ⟨n, _, _, ex, _, _⟩ := hf a hm
  have K : ∀ o, X.K.lookup a = some o → False := fun o e => by
    have hb : X.base.get? a = some o := I.ok.mod.kin a o e
    rcases ex with z | z
    · exact I.ok.noex a o hb z
    · exact absurd (Nat.lt_of_lt_of_le (Heap.lt_size (I.ok.bs a o hb).1) z) (Nat.lt_irrefl _)
  cases k
  · rcases h with h | ⟨o, _, _, e, _⟩
    · rcases h with h | ⟨_, h⟩ <;> rw [n] at h <;> cases h
    · exact K o e
  · rcases h with h | ⟨o, _, _, e, _⟩
    · rcases h with h | ⟨_, h⟩ <;> rw [n] at h <;> cases h
    · exact K o e
theorem zk_sep {prog : Program} {w : World} {A : Around} {a b z TI TO i1 i2 : Addr} (nz : z ≠ TI ∧ z ≠ TO ∧ z ≠ i1 ∧ z ≠ i2 ∧ TI ≠ TO ∧ TI ≠ i1 ∧ TI ≠ i2 ∧ TO ≠ i1 ∧ TO ≠ i2 ∧ i1 ≠ i2)
    (na : a ∉ [z, TI, TO, i1, i2]) (nb : b ∉ [z, TI, TO, i1, i2]) (k k2 : Bool) (hh : A.handled = none) (items items2 : Array Value) :
    ZipSep2 z TI TO i1 i2 [i1, a] [i2, b] ∧ Draws prog w A i1 [i1, a] items.size (fun i v => items[i]? = some v) (fun i h => seqIt k i1 a i h ∧ seqH k a items h) ∧
      Draws prog w A i2 [i2, b] items2.size (fun i v => items2[i]? = some v) (fun i h => seqIt k2 i2 b i h ∧ seqH k2 b items2 h) := by
  simp only [List.mem_cons, List.not_mem_nil, or_false, not_or] at na nb
  obtain ⟨n1, n2, n3, n4, n5, n6, n7, n8, n9, n10⟩ := nz
  obtain ⟨a1, a2, a3, a4, a5⟩ := na
  obtain ⟨b1, b2, b3, b4, b5⟩ := nb
  refine ⟨⟨Ne.symm n1, Ne.symm n2, n5, n6, by simp, ?_, ?_, n7, by simp, ?_, ?_, ?_, ?_⟩, drawK k hh i1 a a4 items, drawK k2 hh i2 b b5 items2⟩
  · simp [n3, Ne.symm a1]
  · simp [n8, Ne.symm a3]
  · simp [n4, Ne.symm b1]
  · simp [n9, Ne.symm b3]
  · simp [n10, Ne.symm b4]
  · simp [Ne.symm n10, Ne.symm a5]
def Itzk (k k2 : Bool) (K : PySem.W.Frag) (a b : Addr) : It :=
  ⟨fun i H => ∃ (xs ys : List V) (x y : V), SqX k K H a xs ∧ SqX k2 K H b ys ∧ xs[i]? = some x ∧ ys[i]? = some y,
    fun i H v H' => ∃ T x y, v = .ref T ∧ H T = none ∧ H' = upd H T (.tup [x, y]) ∧ (∀ xs, SqX k K H a xs → xs[i]? = some x) ∧ ∀ ys, SqX k2 K H b ys → ys[i]? = some y,
    fun i H => ∃ xs ys : List V, SqX k K H a xs ∧ SqX k2 K H b ys ∧ min xs.length ys.length = i⟩
theorem turn_zk {P : Program} {w : World} {K : PySem.W.Frag} {elts : List Expr} {kk : Nat} {tpos : Pos} (k k2 : Bool) {a b z TI TO i1 i2 : Addr} (nz : z ≠ TI ∧ z ≠ TO ∧ z ≠ i1 ∧ z ≠ i2 ∧ TI ≠ TO ∧ TI ≠ i1 ∧ TI ≠ i2 ∧ TO ≠ i1 ∧ TO ≠ i2 ∧ i1 ≠ i2) :
    Turn P w K (.Tuple elts kk tpos) (Itzk k k2 K a b) [z, TI, TO, i1, i2] z (fun i h => IsZip h z TI TO .none ∧ IsTupOf2 h TI (.ref i1) (.ref i2) ∧ (∃ x y, IsTupOf2 h TO x y) ∧ seqIt k i1 a i h ∧ seqIt k2 i2 b i h) where
  mem := by simp
  obj := fun i h st c hc => by
    obtain ⟨hz, hTI, ⟨x, y, hTO⟩, h1, h2⟩ := st
    obtain ⟨o1, e1, d1, _⟩ := h1.obj
    obtain ⟨o2, e2, d2, _⟩ := h2.obj
    have e' : c = z ∨ c = TI ∨ c = TO ∨ c = i1 ∨ c = i2 := by simpa using hc
    rcases e' with q | q | q | q | q
    · rw [q]; exact ⟨_, hz, fun v q => nomatch q⟩
    · rw [q]; exact ⟨_, hTI, fun v q => nomatch q⟩
    · rw [q]; exact ⟨_, hTO, fun v q => nomatch q⟩
    · rw [q]; exact ⟨o1, e1, d1⟩
    · rw [q]; exact ⟨o2, e2, d2⟩
  keep := fun i h h' st kp => by
    obtain ⟨hz, hTI, ⟨x, y, hTO⟩, h1, h2⟩ := st
    exact ⟨kp z (by simp) _ hz, kp TI (by simp) _ hTI, ⟨x, y, kp TO (by simp) _ hTO⟩, h1.keep fun o q => kp i1 (by simp) o q, h2.keep fun o q => kp i2 (by simp) o q⟩
  item := by
    intro X hP hw hK hc i pins s σ H E I hf st hg
    subst hP hw hK
    obtain ⟨hz, hTI, ⟨x0, y0, hTO⟩, h1, h2⟩ := st
    obtain ⟨xs, ys, x, y, hqx, hqy, hx, hy⟩ := hg
    obtain ⟨its, rv, p, ⟨oa, ha, hca⟩, _⟩ := Inv.seqK I hqx
    obtain ⟨its2, rv2, p2, ⟨ob, hb, hcb⟩, _⟩ := Inv.seqK I hqy
    obtain ⟨u, hu, ru⟩ := rv.get hx
    obtain ⟨u2, hu2, ru2⟩ := rv2.get hy
    obtain ⟨S, D1, D2⟩ := zk_sep nz (Inv.zk_facts I hf hqx) (Inv.zk_facts I hf hqy) k k2 (prog := X.prog) (w := X.w) (A := X.A.in1) (I.ok.hd hc) its.toArray its2.toArray
    have W := WalksT.zipD2 (prog := X.prog) (w := X.w) (A := X.A) S D1 D2
    have hlt : i < min its.toArray.size its2.toArray.size := by
      have q1 := (List.getElem?_eq_some_iff.mp hu).1
      have q2 := (List.getElem?_eq_some_iff.mp hu2).1
      simp only [List.size_toArray]; omega
    refine W.item i s _ _ hlt ⟨hz, hTI, ⟨x0, y0, hTO⟩, ⟨h1, p⟩, ⟨h2, p2⟩⟩ fun T vals h' tk hpt hT hTup hmid hk => ?_
    obtain ⟨t1, t2, hx1, hx2, rfl⟩ := hpt
    have ex : t1 = u := by
      have hx' : its.toArray[i]? = some t1 := hx1
      rw [List.getElem?_toArray, hu] at hx'; exact (Option.some.inj hx').symm
    have ex2 : t2 = u2 := by
      have hx' : its2.toArray[i]? = some t2 := hx2
      rw [List.getElem?_toArray, hu2] at hx'; exact (Option.some.inj hx').symm
    subst ex ex2
    refine ⟨_, rfl, W.go elts kk tpos i T { s with heap := h', toks := tk } _ _ hmid fun h'' st'' hk2 => ?_⟩
    obtain ⟨_, _, _, _, _, hT1, hT2, hT3, hT4⟩ := hmid
    obtain ⟨oT, hoT, hcT, nT, hdT⟩ := id hTup
    have hT2 : h''.get? T = some oT := hk2 T oT (by simp [hT1, hT2, hT3, hT4]) hoT
    have new : ObjOk X.prog X.w (upd H T (.tup [x, y])) h'' T (.tup [x, y]) :=
      ⟨by show 2 ≤ sizeLine; decide, [t1, t2], .cons ru (.cons ru2 .nil), ⟨oT, hT2, hcT, nT, hdT⟩⟩
    have sub : ∀ b, b ∉ [z, TI, TO, i1, i2] → b ∉ [z, TO, i1, i2] := fun b hb q => hb (by simp only [List.mem_cons] at q ⊢; rcases q with q | q | q | q | q <;> simp [q])
    have I1 : L2.Inv X pins σ (upd H T (.tup [x, y])) { s with heap := h'', toks := tk } :=
      I.turnedNew (ch := [z, TI, TO, i1, i2]) (fun b ob hb q => hk2 b ob (sub b hb) (hk b ob (sub b hb) q)) hf hT new
    refine ⟨.ref T, _, I1, rfl, ⟨_, x, y, rfl, I.hok.fresh hT, rfl, fun ys hy => by rw [Inv.seqK_inj I hy hqx]; exact hx, fun zs hy' => by rw [Inv.seqK_inj I hy' hqy]; exact hy⟩, ⟨st''.1, st''.2.1, st''.2.2.1, st''.2.2.2.1.1, st''.2.2.2.2.1⟩, fun b hb => ?_⟩
    have nb := (hf b hb).1
    have hn : H T = none := I.hok.fresh hT
    by_cases q : b = T
    · exfalso
      obtain ⟨_, eo1, _, _⟩ := h1.obj
      obtain ⟨_, eo2, _, _⟩ := h2.obj
      have e' : b = z ∨ b = TI ∨ b = TO ∨ b = i1 ∨ b = i2 := by simpa using hb
      have lt : b < s.heap.objs.size := by
        rcases e' with q | q | q | q | q
        · rw [q]; exact Heap.lt_size hz
        · rw [q]; exact Heap.lt_size hTI
        · rw [q]; exact Heap.lt_size hTO
        · rw [q]; exact Heap.lt_size eo1
        · rw [q]; exact Heap.lt_size eo2
      rw [q] at lt
      exact absurd (Nat.lt_of_lt_of_le lt hT) (Nat.lt_irrefl _)
    · rw [upd_ne q]; exact nb
  done := by
    intro X hP hw hK hc i pins s σ H E I hf st hg
    subst hP hw hK
    obtain ⟨hz, hTI, ⟨x0, y0, hTO⟩, h1, h2⟩ := st
    obtain ⟨xs, ys, hqx, hqy, hx⟩ := hg
    obtain ⟨its, rv, p, ⟨oa, ha, hca⟩, _⟩ := Inv.seqK I hqx
    obtain ⟨its2, rv2, p2, ⟨ob, hb, hcb⟩, _⟩ := Inv.seqK I hqy
    obtain ⟨S, D1, D2⟩ := zk_sep nz (Inv.zk_facts I hf hqx) (Inv.zk_facts I hf hqy) k k2 (prog := X.prog) (w := X.w) (A := X.A.in1) (I.ok.hd hc) its.toArray its2.toArray
    have W := WalksT.zipD2 (prog := X.prog) (w := X.w) (A := X.A) S D1 D2
    have hs : min its.toArray.size its2.toArray.size = i := by
      rw [List.size_toArray, List.size_toArray, ← rv.length, ← rv2.length]; exact hx
    have sub : ∀ b, b ∉ [z, TI, TO, i1, i2] → b ∉ [z, TO, i1, i2] := fun b hb q => hb (by simp only [List.mem_cons] at q ⊢; rcases q with q | q | q | q | q <;> simp [q])
    refine W.done s _ _ (by rw [hs]; exact ⟨hz, hTI, ⟨x0, y0, hTO⟩, ⟨h1, p⟩, ⟨h2, p2⟩⟩) fun h' tk hk => ⟨rfl, I.turnedN (ch := [z, TI, TO, i1, i2]) (fun b o hb e => hk b o (sub b hb) e) hf⟩
  self := fun A i s Q E st h => wpAny_pyIter_zip st.1 h
end Mnd
/-! What a for or a comprehension walks: the rules. -/
namespace PySem
open Sem (wp)
open AutoSeq1 (wpAny_loadPart')
theorem meets_enumerate_newB1 {v : Value} {o : Obj} {H : Heap → Prop} (B : Begins v o H) :
    Meets (Builtin.«enumerate.__new__» ⟨[.type "enumerate", v], []⟩) (fun _ R s => H s.heap ∧
      R (.ok (.ret (.ref (s.heap.push o).objs.size))) { s with heap := (s.heap.push o).push { cls := .type "enumerate", data := .fields #[.none, .bool false, .ref s.heap.objs.size, rawInt 0, .none, .none] } }) :=
  .of_wp fun prog w A R s h => by
    obtain ⟨hp, g, d, tk, os⟩ := s; obtain ⟨h1, h⟩ := h
    have hsub := sub_enumerate
    have q1 : ∀ {A' : Around} {E : Value → Shared → Prop} {Q : Value → Shared → Prop}, Q (.ref hp.objs.size) ⟨hp.push o, g, d, tk, os⟩ → wpAny (model prog w) A' (pyIter v) Q E ⟨hp, g, d, tk, os⟩ :=
      fun q => B.iter prog w _ _ ⟨hp, g, d, tk, os⟩ _ h1 q
    wp_walk using q1
    refine wpAny_stack_any fun st => wpAny_pure ?_
    split
    · rename_i c _ _ _ _ _
      cases (c == Value.type "enumerate")
      · wp_walk using q1
        exact ⟨_, rfl, h⟩
      · wp_walk using q1
        exact ⟨_, rfl, h⟩
    · wp_walk using q1
      exact ⟨_, rfl, h⟩
theorem enum_begins1 {prog : Program} {w : World} {A : Around} {E : Value → Shared → Prop} {s : Shared} {v : Value} {o : Obj} {H : Heap → Prop} {Q : Value → Shared → Prop} (B : Begins v o H) (h1 : H s.heap)
    (h : ∀ h', IsEnum h' (s.heap.objs.size + 1) s.heap.objs.size 0 .none → h'.get? s.heap.objs.size = some o → h'.objs.size = s.heap.objs.size + 2 →
      (∀ b o, s.heap.get? b = some o → h'.get? b = some o) → Q (.ref (s.heap.objs.size + 1)) { s with heap := h' }) :
    wpAny (model prog w) A (call (.type "enumerate") [v]) Q E s := by
  refine callType_new F.called_enumerate (by decide) (F.typeCall_enumerate_1 _) (F.newCall_enumerate_1 _) (fun obj => F.args_object_init_2 obj _) F.entry_enumerate_new
    (meets_enumerate_newB1 B) ⟨h1, ?_⟩
  have hz : (s.heap.push o).objs.size = s.heap.objs.size + 1 := Heap.size_push ..
  show _ ∧ _
  rw [hz]
  have he : IsEnum ((s.heap.push o).push { cls := .type "enumerate", data := .fields #[.none, .bool false, .ref s.heap.objs.size, rawInt 0, .none, .none] }) (s.heap.objs.size + 1) s.heap.objs.size 0 .none := by
    have := Heap.get?_push_size (s.heap.push o) (o := { cls := .type "enumerate", data := .fields #[.none, .bool false, .ref s.heap.objs.size, rawInt 0, .none, .none] }) rfl
    rw [hz] at this; exact this
  refine ⟨⟨_, he, rfl⟩, h _ he (Heap.get?_push_of_some _ (Heap.get?_push_size _ B.free)) (by rw [Heap.size_push, hz]) fun b o x => Heap.get?_push_of_some _ (Heap.get?_push_of_some _ x)⟩
end PySem
namespace Mnd
open PySem PySem.Spec PyProof.Rows L2
theorem itObj_it (k : Bool) (a it : Addr) {h : Heap} (e : h.get? it = some (itObj k a)) : seqIt k it a 0 h := by
  cases k
  · exact ⟨_, e, rfl, rfl⟩
  · exact ⟨_, e, rfl, rfl⟩
section
variable {X : Cx} {e e2 : Expr} {ta : TA} {p pos tpos : Pos} {elts : List Expr} {kk : Nat}
def iEnk (K : PySem.W.Frag) (ta : TA) : TI := fun σ H R => ta σ H fun vs H1 => ∃ k a xs, vs = [.ref a] ∧ SqX k K H1 a xs ∧ R (Iten k K a) H1
theorem pi_en (hg : Gl X "enumerate") (hm : X.mg "enumerate" = none) (ha : PA X [e] ta) (hs : starEach [e] X.env = [(false, eval e X.env)] := by rfl) :
    PI X (.Tuple elts kk tpos) (.Call (.Name "enumerate" p) [e] [] pos) (iEnk X.K ta) := by
  refine ⟨fun pins s σ H R I h => ?_⟩
  refine Call_ (ld_blt I hg hm boot_enumerate (PyProof.Rows.callWith_type1 (thn (ha.run pos pins s σ H _ I h) fun us s1 ⟨vs, H1, I1, r1, q1⟩ => ?_) hs rfl))
  obtain ⟨k, a, xs, ex, hq, q⟩ := q1
  subst ex
  cases r1 with
  | cons r rr =>
    cases rr
    cases r
    obtain ⟨its, rv, pq, _⟩ := Inv.seqK I1 hq
    refine enum_begins1 (beginK k a its.toArray) pq fun h' he hi hsz hk => wpAny_pyIter_enum he ?_
    have I2 : L2.Inv X pins σ H1 { s1 with heap := h' } := I1.kept (t' := s1.toks) hk
    refine ⟨s1.heap.objs.size + 1, [s1.heap.objs.size + 1, s1.heap.objs.size], _, _, H1, rfl, I2, turn_en k a _ _, ⟨⟨_, he⟩, itObj_it k a _ hi, Nat.succ_ne_self _⟩, fun b hb => ?_, q⟩
    have e' : b = s1.heap.objs.size + 1 ∨ b = s1.heap.objs.size := by simpa using hb
    have hle : s1.heap.objs.size ≤ b := by
      rcases e' with z | z
      · rw [z]; exact Nat.le_succ _
      · rw [z]; exact Nat.le_refl _
    exact I1.fpOk hle (I1.hok.fresh hle)
theorem zk_nz (n : Nat) : n + 4 ≠ n + 2 ∧ n + 4 ≠ n + 3 ∧ n + 4 ≠ n ∧ n + 4 ≠ n + 1 ∧ n + 2 ≠ n + 3 ∧ n + 2 ≠ n ∧ n + 2 ≠ n + 1 ∧ n + 3 ≠ n ∧ n + 3 ≠ n + 1 ∧ n ≠ n + 1 := by omega
theorem zk_le (n : Nat) (c : Nat) (hc : c ∈ [n + 4, n + 2, n + 3, n, n + 1]) : n ≤ c := by
  simp only [List.mem_cons, List.not_mem_nil, or_false] at hc
  omega
def iZk (K : PySem.W.Frag) (ta : TA) : TI := fun σ H R => ta σ H fun vs H1 => ∃ k k2 a b xs ys, vs = [.ref a, .ref b] ∧ SqX k K H1 a xs ∧ SqX k2 K H1 b ys ∧ R (Itzk k k2 K a b) H1
theorem pi_zk (hg : Gl X "zip") (hm : X.mg "zip" = none) (ha : PA X [e, e2] ta)
    (hs : starEach [e, e2] X.env = (false, eval e X.env) :: starEach [e2] X.env := by rfl) (hpl : (backTo pos (starEach [e2] X.env)).any (·.1) = false := by rfl) :
    PI X (.Tuple elts kk tpos) (.Call (.Name "zip" p) [e, e2] [] pos) (iZk X.K ta) := by
  refine ⟨fun pins s σ H R I h => ?_⟩
  refine Call_ (ld_blt I hg hm PyProof.Rows.boot_zip (PyProof.Rows.callWith_type1 (thn (ha.run pos pins s σ H _ I h) fun us s1 ⟨vs, H1, I1, r1, q1⟩ => ?_) hs hpl))
  obtain ⟨k, k2, a, b, xs, ys, ex, hq, hq2, q⟩ := q1
  subst ex
  cases r1 with
  | cons r rr =>
    cases rr with
    | cons r' rr =>
      cases rr
      cases r
      cases r'
      obtain ⟨its, rv, pq, _⟩ := Inv.seqK I1 hq
      obtain ⟨its2, rv2, pq2, _⟩ := Inv.seqK I1 hq2
      refine zip_begins2 (beginK k a its.toArray) (beginK k2 b its2.toArray) pq pq2 fun h' hz hTI hTO h1 h2 hsz hk => wpAny_pyIter_zip hz ?_
      have I2 : L2.Inv X pins σ H1 { s1 with heap := h' } := I1.kept (t' := s1.toks) hk
      have fresh : ∀ c, s1.heap.objs.size ≤ c → FpOk X pins H1 c := fun c hle => I1.fpOk hle (I1.hok.fresh hle)
      refine ⟨s1.heap.objs.size + 4, [s1.heap.objs.size + 4, s1.heap.objs.size + 2, s1.heap.objs.size + 3, s1.heap.objs.size, s1.heap.objs.size + 1], _, _, H1, rfl, I2, turn_zk k k2 ?_, ⟨hz, hTI, ⟨_, _, hTO⟩, itObj_it k a _ h1, itObj_it k2 b _ h2⟩, fun c hc => fresh c ?_, q⟩
      · exact zk_nz _
      · exact zk_le _ c hc
end
end Mnd
/-! Loops and comprehensions. -/
namespace Mnd
open PySem L2
section
variable {Γ : Cg} {S : Sc} {G G' : Gh} {H H' : Hp} {σ : L2.St} {e : Env} {w : W} {Wx : WX} {a b : Expr} {ma mb : M Opd} {me : M (List D)} {pos : Pos} {tg iter : Expr}
/-! ### what is walked -/
theorem seq_of {d : D} {x : V} {xs : List D} (h : Rp Γ G d x) (q : seqItems d = some xs) : ∃ k a vs, x = .ref a ∧ SqX k Γ.K G.F a vs ∧ Rps Γ G xs vs := by
  cases d <;> simp only [seqItems] at q <;> first | cases q | skip
  · unfold Rp RepD at h
    obtain ⟨a, vs, e1, q1, r⟩ := h
    exact ⟨true, a, vs, e1, q1.1, r⟩
  · unfold Rp RepD at h
    obtain ⟨a, vs, e1, q1, r⟩ := h
    exact ⟨false, a, vs, e1, .inl (.inl q1), r⟩
  · unfold Rp RepD at h
    obtain ⟨a, e1, q1⟩ := h
    exact ⟨false, a, _, e1, q1, .of_ints _⟩
theorem SqX.sub {k : Bool} {K : PySem.W.Frag} {F F' : Hp} {a : Addr} {xs : List V} (s : Sub F F') (h : SqX k K F a xs) : SqX k K F' a xs := by
  cases k
  · rcases h with h | h
    · exact .inl (sub_rd s h)
    · exact .inr h
  · exact sub_sqT s h
/-- two readings of one sequence -/
theorem SqX.inj {k : Bool} {K : PySem.W.Frag} {F : Hp} {a : Addr} {xs ys : List V} (ab : ∀ b o, F b = some o → K.lookup b = none) (h : SqX k K F a xs) (h' : SqX k K F a ys) : xs = ys := by
  cases k
  · rcases h with h | ⟨o, its, n, e, c, _, d, _, r⟩
    · rcases h' with h' | ⟨o', _, _, e', _⟩
      · rcases h with h | ⟨_, h⟩ <;> rcases h' with h' | ⟨_, h'⟩ <;> rw [h] at h' <;> cases h' <;> rfl
      · rcases h with h | ⟨_, h⟩ <;> rw [ab _ _ h] at e' <;> cases e'
    · rcases h' with h' | ⟨o', its', n', e', c', _, d', _, r'⟩
      · rcases h' with h' | ⟨_, h'⟩ <;> rw [ab _ _ h'] at e <;> cases e
      · rw [e] at e'; cases e'
        rw [d] at d'; cases d'
        exact r.inj r'
  · rcases h with h | ⟨o, its, n, e, c, d, _, r⟩
    · rcases h' with h' | ⟨o', _, _, e', _⟩
      · rcases h with h | ⟨_, h⟩ <;> rcases h' with h' | ⟨_, h'⟩ <;> rw [h] at h' <;> cases h' <;> rfl
      · rcases h with h | ⟨_, h⟩ <;> rw [ab _ _ h] at e' <;> cases e'
    · rcases h' with h' | ⟨o', its', n', e', c', d', _, r'⟩
      · rcases h' with h' | ⟨_, h'⟩ <;> rw [ab _ _ h'] at e <;> cases e
      · rw [e] at e'; cases e'
        rw [d] at d'; cases d'
        exact r.inj r'
theorem itok_seqL {a : Addr} {xs : List D} {vs : List V} (h : SqX false Γ.K G.F a vs) (r : Rps Γ G xs vs) : ItOk Γ G (Itl Γ.K a) xs := by
  intro G2 H2 l sb i
  have h2 : SqL Γ.K H2 a vs := SqX.sub (k := false) (l.F.trans sb) h
  refine ⟨fun hi => ⟨⟨vs, vs[i]'(by rw [r.length]; exact hi), h2, by simp⟩, fun d x H3 hd y => .inl ?_⟩, fun hi => ⟨vs, h2, by rw [r.length, hi]; exact Nat.le_refl _⟩⟩
  obtain ⟨rfl, y⟩ := y
  obtain ⟨v, e1, q⟩ := r.get hd
  have := y vs h2
  rw [e1] at this; cases this
  exact ⟨rfl, Rp.le l q⟩
theorem itok_seqT {a : Addr} {xs : List D} {vs : List V} (h : SqX true Γ.K G.F a vs) (r : Rps Γ G xs vs) : ItOk Γ G (Itt Γ.K a) xs := by
  intro G2 H2 l sb i
  have h2 : SqT Γ.K H2 a vs := SqX.sub (k := true) (l.F.trans sb) h
  refine ⟨fun hi => ⟨⟨vs, vs[i]'(by rw [r.length]; exact hi), h2, by simp⟩, fun d x H3 hd y => .inl ?_⟩, fun hi => ⟨vs, h2, by rw [r.length, hi]; exact Nat.le_refl _⟩⟩
  obtain ⟨rfl, y⟩ := y
  obtain ⟨v, e1, q⟩ := r.get hd
  have := y vs h2
  rw [e1] at this; cases this
  exact ⟨rfl, Rp.le l q⟩
theorem itok_range {lo : Int} {n : Nat} : ItOk Γ G (Itr lo n) ((List.range n).map fun (k : Nat) => D.int (lo + k)) := by
  intro G2 H2 l sb i
  refine ⟨fun hi => ⟨by show i < n; simpa using hi, fun d x H3 hd y => .inl ?_⟩, fun hi => by show n ≤ i; simp at hi; exact Nat.le_of_eq hi⟩
  obtain ⟨rfl, rfl⟩ := y
  simp only [List.length_map, List.length_range] at hi
  rw [List.getElem?_map, List.getElem?_range hi] at hd
  simp only [Option.map_some, Option.some.injEq] at hd
  subst hd
  exact ⟨rfl, rp_int _⟩
theorem enumD_length : ∀ (n : Nat) (xs : List D), (enumD n xs).length = xs.length
  | _, [] => rfl
  | n, x :: xs => by simp [enumD, enumD_length (n + 1) xs]
theorem enumD_get : ∀ (n : Nat) (xs : List D) (i : Nat), (enumD n xs)[i]? = xs[i]?.map fun x => .tup [.int ((n + i : Nat) : Int), x]
  | _, [], i => by simp [enumD]
  | n, x :: xs, 0 => by simp [enumD]
  | n, x :: xs, i + 1 => by
    simp only [enumD, List.getElem?_cons_succ]
    rw [enumD_get (n + 1) xs i]
    have : n + 1 + i = n + (i + 1) := by omega
    rw [this]
theorem zipD_length : ∀ (xs ys : List D), (zipD xs ys).length = min xs.length ys.length
  | [], ys => by simp [zipD]
  | x :: xs, [] => by simp [zipD]
  | x :: xs, y :: ys => by simp [zipD, zipD_length xs ys]
theorem zipD_get : ∀ (xs ys : List D) (i : Nat) (d : D), (zipD xs ys)[i]? = some d → ∃ x y, xs[i]? = some x ∧ ys[i]? = some y ∧ d = .tup [x, y]
  | [], ys, i, d, h => by simp [zipD] at h
  | x :: xs, [], i, d, h => by simp [zipD] at h
  | x :: xs, y :: ys, 0, d, h => by simp [zipD] at h; exact ⟨x, y, rfl, rfl, h.symm⟩
  | x :: xs, y :: ys, i + 1, d, h => by
    simp only [zipD, List.getElem?_cons_succ] at h ⊢
    exact zipD_get xs ys i d h
theorem itok_enum {k : Bool} {a : Addr} {xs : List D} {vs : List V} (h : SqX k Γ.K G.F a vs) (r : Rps Γ G xs vs) : ItOk Γ G (Iten k Γ.K a) (enumD 0 xs) := by
  intro G2 H2 l sb i
  have h2 : SqX k Γ.K H2 a vs := h.sub (l.F.trans sb)
  rw [enumD_length]
  refine ⟨fun hi => ⟨⟨vs, vs[i]'(by rw [r.length]; exact hi), h2, by simp⟩, fun d x H3 hd y => .inr ?_⟩, fun hi => ⟨vs, h2, by rw [r.length]; exact hi⟩⟩
  obtain ⟨T, v, rfl, hn, rfl, y⟩ := y
  rw [enumD_get] at hd
  cases q : xs[i]? with
  | none => rw [q] at hd; cases hd
  | some d' =>
    rw [q] at hd; cases hd
    obtain ⟨v', e1, rr⟩ := r.get q
    have := y vs h2
    rw [e1] at this; cases this
    refine ⟨T, _, _, hn, rfl, .cons (by rw [Nat.zero_add]; exact rp_int _) (.one (Rp.le l rr)), rfl, ?_⟩
    rfl
theorem itok_zip {k k2 : Bool} {a b : Addr} {xs ys : List D} {vs us : List V} (h : SqX k Γ.K G.F a vs) (r : Rps Γ G xs vs) (h' : SqX k2 Γ.K G.F b us) (r' : Rps Γ G ys us) : ItOk Γ G (Itzk k k2 Γ.K a b) (zipD xs ys) := by
  intro G2 H2 l sb i
  have h2 : SqX k Γ.K H2 a vs := h.sub (l.F.trans sb)
  have h2' : SqX k2 Γ.K H2 b us := h'.sub (l.F.trans sb)
  rw [zipD_length]
  refine ⟨fun hi => ⟨⟨vs, us, vs[i]'(by rw [r.length]; omega), us[i]'(by rw [r'.length]; omega), h2, h2', by simp, by simp⟩, fun d x H3 hd y => .inr ?_⟩, fun hi => ⟨vs, us, h2, h2', by rw [r.length, r'.length]; exact hi⟩⟩
  obtain ⟨T, v, u, rfl, hn, rfl, y, y'⟩ := y
  obtain ⟨d1, d2, q1, q2, rfl⟩ := zipD_get _ _ _ _ hd
  obtain ⟨v1, e1, r1⟩ := r.get q1
  obtain ⟨v2, e2, r2⟩ := r'.get q2
  have t1 := y vs h2
  have t2 := y' us h2'
  rw [e1] at t1; cases t1
  rw [e2] at t2; cases t2
  exact ⟨T, _, _, hn, rfl, .cons (Rp.le l r1) (.one (Rp.le l r2)), rfl, rfl⟩
def iSeqX (K : PySem.W.Frag) (tl : TE) : TI := fun σ H R => tl σ H fun x H1 => ∃ k a, x = .ref a ∧ (∃ xs, SqX k K H1 a xs) ∧ R (if k = true then Itt K a else Itl K a) H1
theorem pi_seqX {X : Cx} {l : Expr} {tl : TE} (hl : PE X l tl) : PI X tg l (iSeqX X.K tl) := by
  refine ⟨fun pins s σ H R I h => ?_⟩
  refine thn (hl.run pins s σ H _ I h) fun v s1 ⟨x, H1, I1, r1, q1⟩ => ?_
  obtain ⟨k, a, ex, ⟨xs, hq⟩, q⟩ := q1
  subst ex
  cases r1
  have fin : ∀ b ∈ [s1.heap.objs.size], FpOk X pins H1 b := fun b hb => by
    have e : b = s1.heap.objs.size := by simpa using hb
    subst e
    exact I1.fpOk (Nat.le_refl _) (I1.hok.fresh (Nat.le_refl _))
  cases k
  · obtain ⟨its, rv, p, hz⟩ := I1.list hq
    refine wpAny_pyIter_list p.isList ?_
    exact ⟨s1.heap.objs.size, [s1.heap.objs.size], _, _, H1, rfl, I1.kept (t' := s1.toks) fun b o e => Heap.get?_push_of_some _ e, turn_list a _, ⟨_, Heap.get?_push_size _ rfl, rfl, rfl⟩, fin, q⟩
  · obtain ⟨its, rv, p, hz⟩ := I1.tuple hq
    refine wpAny_pyIter_tuple (show s1.heap.IsTuple a its.toArray from p) ?_
    exact ⟨s1.heap.objs.size, [s1.heap.objs.size], _, _, H1, rfl, I1.kept (t' := s1.toks) fun b o e => Heap.get?_push_of_some _ e, turn_tuple a _, ⟨_, Heap.get?_push_size _ rfl, rfl, rfl⟩, fin, q⟩
theorem iSeq_eq (a : M Opd) : iSeq a = bnd a fun o => bnd (frz o) fun d => lift (seqItems d) := rfl
theorem si_seq (ha : SE Γ S a ma) : SI Γ S tg a (iSeq ma) := by
  intro X g Wx tk
  refine PI.imp (pi_seqX (ha X g Wx tk)) ?_
  rintro σ H R ⟨e, w, G, Re, h⟩
  refine ⟨e, w, G, Re, (Wp.bnd h).mono fun o e1 w1 G1 H1 l1 R1 h1 x rx => ?_⟩
  obtain ⟨d, e2, G2, l2, R2, rd, h2⟩ := wp_frz h1 R1 rx
  obtain ⟨xs, hs, h2⟩ := Wp.lift h2
  obtain ⟨k, a, vs, rfl, q, r⟩ := seq_of rd hs
  refine ⟨k, a, rfl, ⟨vs, by rw [g.ok.K]; exact q.sub R2.st.sub⟩, ?_⟩
  rw [g.ok.K]
  refine Wp.ret h2 R2 (.refl _) _ ?_
  cases k
  · exact itok_seqL q r
  · exact itok_seqT q r
/-- a name of the built-in part -/
structure Blt (Γ : Cg) (S : Sc) (x : Str) : Prop where
  nm : S.names.lookup x = some .globalImplicit
  mg : Γ.mg x = none
theorem Blt.gl {X : Cx} {x : Str} (h : Blt Γ S x) (g : Good Γ S X) : Gl X x := by
  show X.env.scope.names.lookup x = _
  rw [g.names]; exact h.nm
theorem Blt.no {X : Cx} {x : Str} (h : Blt Γ S x) (g : Good Γ S X) : X.mg x = none := by rw [g.ok.mg]; exact h.mg
variable {p : Pos} {elts : List Expr} {kk : Nat} {tpos : Pos}
theorem si_enum (B : Blt Γ S "enumerate") (ha : SA Γ S [a] me) (hs : ∀ env, starEach [a] env = [(false, eval a env)] := by intro _; rfl) : SI Γ S (.Tuple elts kk tpos) (.Call (.Name "enumerate" p) [a] [] pos) (iEnum me) := by
  intro X g Wx tk
  refine PI.imp (pi_en (B.gl g) (B.no g) (ha X g Wx tk) (hs _)) ?_
  rintro σ H R ⟨e, w, G, Re, h⟩
  refine ⟨e, w, G, Re, (Wp.bnd h).mono fun ds e1 w1 G1 H1 l1 R1 h1 vs rs => ?_⟩
  rcases ds with _ | ⟨d, _ | ⟨d2, ds⟩⟩
  · exact (Wp.bad h1).elim
  · have h1 : Wp Γ S Wx σ (match seqItems d with | some xs => ret (enumD 0 xs) | none => bad) e1 w1 G1 _ := h1
    unfold Rps RepDs at rs
    obtain ⟨v, r, rfl, r1, r2⟩ := rs
    unfold RepDs at r2
    subst r2
    cases q : seqItems d with
    | none => rw [q] at h1; exact (Wp.bad h1).elim
    | some xs =>
      rw [q] at h1
      obtain ⟨k, a, us, rfl, q1, r3⟩ := seq_of r1 q
      rw [g.ok.K]
      exact ⟨k, a, us, rfl, q1.sub R1.st.sub, Wp.ret h1 R1 (.refl _) _ (itok_enum q1 r3)⟩
  · exact (Wp.bad h1).elim
theorem si_zip (B : Blt Γ S "zip") (ha : SA Γ S [a, b] me) (hs : ∀ env, starEach [a, b] env = (false, eval a env) :: starEach [b] env := by intro _; rfl) (hpl : ∀ env, (backTo pos (starEach [b] env)).any (·.1) = false := by intro _; rfl) :
    SI Γ S (.Tuple elts kk tpos) (.Call (.Name "zip" p) [a, b] [] pos) (iZip me) := by
  intro X g Wx tk
  refine PI.imp (pi_zk (B.gl g) (B.no g) (ha X g Wx tk) (hs _) (hpl _)) ?_
  rintro σ H R ⟨e, w, G, Re, h⟩
  refine ⟨e, w, G, Re, (Wp.bnd h).mono fun ds e1 w1 G1 H1 l1 R1 h1 vs rs => ?_⟩
  rcases ds with _ | ⟨d, _ | ⟨d2, _ | ⟨d3, ds⟩⟩⟩
  · exact (Wp.bad h1).elim
  · exact (Wp.bad h1).elim
  · have h1 : Wp Γ S Wx σ (match seqItems d, seqItems d2 with | some xs, some ys => ret (zipD xs ys) | _, _ => bad) e1 w1 G1 _ := h1
    unfold Rps RepDs at rs
    obtain ⟨v, r, rfl, r1, r2⟩ := rs
    unfold RepDs at r2
    obtain ⟨v2, r, rfl, r2, r3⟩ := r2
    unfold RepDs at r3
    subst r3
    cases q : seqItems d with
    | none => rw [q] at h1; exact (Wp.bad h1).elim
    | some xs =>
      cases q2 : seqItems d2 with
      | none => rw [q, q2] at h1; exact (Wp.bad h1).elim
      | some ys =>
        rw [q, q2] at h1
        obtain ⟨k, a, us, rfl, q1, r4⟩ := seq_of r1 q
        obtain ⟨k2, a2, us2, rfl, q3, r5⟩ := seq_of r2 q2
        rw [g.ok.K]
        exact ⟨k, k2, a, a2, us, us2, rfl, q1.sub R1.st.sub, q3.sub R1.st.sub, Wp.ret h1 R1 (.refl _) _ (itok_zip q1 r4 q3 r5)⟩
  · exact (Wp.bad h1).elim
theorem iRange_eq (a : M (List D)) : iRange a = bnd a fun ds => match ds with
  | [.int n] => if n ≤ 100000 ∧ -100000 ≤ n then ret ((List.range n.toNat).map fun (k : Nat) => .int k) else bad
  | [.int m, .int n] => if -100000 ≤ m ∧ m ≤ 100000 ∧ -100000 ≤ n ∧ n ≤ 100000 then ret ((List.range (n - m).toNat).map fun (k : Nat) => .int (m + k)) else bad
  | _ => bad := rfl
theorem si_range1 (B : Blt Γ S "range") (ha : SA Γ S [a] me) (hs : ∀ env, starEach [a] env = [(false, eval a env)] := by intro _; rfl) : SI Γ S tg (.Call (.Name "range" p) [a] [] pos) (iRange (bnd me fun ds => if ds.length = 1 then ret ds else bad)) := by
  intro X g Wx tk
  refine PI.imp (pi_range1 (B.gl g) (B.no g) (ha X g Wx tk) (hs _)) ?_
  rintro σ H R ⟨e, w, G, Re, h⟩
  rw [iRange_eq] at h
  refine ⟨e, w, G, Re, (Wp.bnd (Wp.bnd h)).mono fun ds e1 w1 G1 H1 l1 R1 h1 vs rs => ?_⟩
  split at h1
  · rename_i hl
    have h1 := Wp.ret h1 R1 (.refl _)
    rcases ds with _ | ⟨d, _ | ⟨d2, ds⟩⟩
    · cases hl
    · obtain ⟨n, rfl⟩ : ∃ n, d = .int n := by
        cases d <;> first | exact (Wp.bad h1).elim | exact ⟨_, rfl⟩
      have h1 : Wp Γ S Wx σ (if n ≤ 100000 ∧ -100000 ≤ n then ret ((List.range n.toNat).map fun (k : Nat) => D.int k) else bad) e1 w1 G1 _ := h1
      unfold Rps RepDs at rs
      obtain ⟨v, r, rfl, r1, r2⟩ := rs
      unfold RepDs at r2
      unfold RepD at r1
      subst r2 r1
      by_cases hn : n ≤ 100000 ∧ -100000 ≤ n
      · rw [if_pos hn] at h1
        refine ⟨n, rfl, by omega, by omega, Wp.ret h1 R1 (.refl _) _ ?_⟩
        have := itok_range (Γ := Γ) (G := G1) (lo := 0) (n := n.toNat)
        simpa using this
      · rw [if_neg hn] at h1; exact (Wp.bad h1).elim
    · cases hl
  · exact (Wp.bad h1).elim
theorem si_range2 (B : Blt Γ S "range") (ha : SA Γ S [a, b] me) (hs : ∀ env, starEach [a, b] env = [(false, eval a env), (false, eval b env)] := by intro _; rfl) (hs2 : ∀ env, starEach [b] env = [(false, eval b env)] := by intro _; rfl) : SI Γ S tg (.Call (.Name "range" p) [a, b] [] pos) (iRange (bnd me fun ds => if ds.length = 2 then ret ds else bad)) := by
  intro X g Wx tk
  refine PI.imp (pi_range2 (B.gl g) (B.no g) (ha X g Wx tk) (hs _) (hs2 _)) ?_
  rintro σ H R ⟨e, w, G, Re, h⟩
  rw [iRange_eq] at h
  refine ⟨e, w, G, Re, (Wp.bnd (Wp.bnd h)).mono fun ds e1 w1 G1 H1 l1 R1 h1 vs rs => ?_⟩
  split at h1
  · rename_i hl
    have h1 := Wp.ret h1 R1 (.refl _)
    rcases ds with _ | ⟨d, _ | ⟨d2, _ | ⟨d3, ds⟩⟩⟩
    · cases hl
    · cases hl
    · unfold Rps RepDs at rs
      obtain ⟨v, r, rfl, r1, r2⟩ := rs
      unfold RepDs at r2
      obtain ⟨v2, r, rfl, r2, r3⟩ := r2
      unfold RepDs at r3
      subst r3
      obtain ⟨m, rfl⟩ : ∃ n, d = .int n := by
        cases d <;> first | exact (Wp.bad h1).elim | exact ⟨_, rfl⟩
      obtain ⟨n, rfl⟩ : ∃ n, d2 = .int n := by
        cases d2 <;> first | exact (Wp.bad h1).elim | exact ⟨_, rfl⟩
      unfold RepD at r1 r2
      subst r1 r2
      have h1 : Wp Γ S Wx σ (if -100000 ≤ m ∧ m ≤ 100000 ∧ -100000 ≤ n ∧ n ≤ 100000 then ret ((List.range (n - m).toNat).map fun (k : Nat) => D.int (m + k)) else bad) e1 w1 G1 _ := h1
      by_cases hn : -100000 ≤ m ∧ m ≤ 100000 ∧ -100000 ≤ n ∧ n ≤ 100000
      · rw [if_pos hn] at h1
        exact ⟨m, n, rfl, ⟨by omega, by omega, by omega, by omega⟩, Wp.ret h1 R1 (.refl _) _ itok_range⟩
      · rw [if_neg hn] at h1; exact (Wp.bad h1).elim
    · cases hl
  · exact (Wp.bad h1).elim

/-! ### for -/
variable {ts : List Nat} {g1 : D → M Unit} {body : List Stmt} {m : M Flow} {mi : M (List D)}
theorem forL_cons (g : D → M Unit) (b : M Flow) (x : D) (xs : List D) : forL g b (x :: xs) = bnd (g x) fun _ => bnd b fun f => match f with
    | .next => forL g b xs
    | .cnt => forL g b xs
    | .brk => ret .next
    | .ret s => ret (.ret s) := rfl
/-- an item that the iterator yields -/
theorem yld_ok {d : D} {x : V} {H3 : Hp} (R : Rel Γ S G H σ e w) (h : (H3 = H ∧ Rp Γ G d x) ∨ (∃ p ds vs, H p = none ∧ d = .tup ds ∧ Rps Γ G ds vs ∧ x = .ref p ∧ H3 = upd H p (.tup vs))) : ∃ G', G.le G' ∧ Rel Γ S G' H3 σ e w ∧ Rp Γ G' d x := by
  rcases h with ⟨rfl, r⟩ | ⟨p, ds, vs, hp, rfl, r, rfl, rfl⟩
  · exact ⟨G, .refl _, R, r⟩
  · obtain ⟨l, kk, r'⟩ := allocT R.st hp r rfl
    exact ⟨_, l, kk _ _ _ _ R, r'⟩
theorem ss_for (hfr : S.fr = true) (hi : SI Γ S tg iter mi) (hg : SG Γ S tg ts g1) (hb : SB Γ S body m) (hs : ∀ env x, foldedSetIterable iter env x = pure x := by intro _ _; rfl) : SS Γ S (.For tg iter body [] pos) (sFor mi g1 m) := by
  intro X g Wx tk
  refine PS.imp (ps_for (g.pass hfr) g.calm (hi X g Wx tk) (hg X g Wx tk) (hb X g Wx tk) (hs _)) ?_
  rintro D σ H ⟨e, w, G, R, h⟩
  refine ⟨e, w, G, R, (WpT.bndE h σ).mono fun items e1 w1 G1 H1 l1 R1 h1 J ok => ?_⟩
  refine ⟨fun i n σ H => n = items.length - i ∧ i ≤ items.length ∧ ∃ e w G2, G1.le G2 ∧ Rel Γ S G2 H σ e w ∧ WpT Γ S Wx (forL g1 m (items.drop i)) e w G2 (EndP Γ D), ⟨_, rfl, Nat.zero_le _, e1, w1, G1, .refl _, R1, h1⟩, ?_⟩
  rintro i n σ2 H2 ⟨rfl, hle, e2, w2, G2, l2, R2, h2⟩
  by_cases hlt : i < items.length
  · refine .inr ⟨((ok G2 H2 l2.lt R2.st.sub i).1 hlt).1, fun σ' H' => ∃ e w G3, G1.le G3 ∧ Rel Γ S G3 H' σ' e w ∧ WpT Γ S Wx (forL g1 m (items.drop (i + 1))) e w G3 (EndP Γ D), fun σ' H' ⟨e, w, G3, a1, a2, a3⟩ => ⟨items.length - (i + 1), by omega, rfl, hlt, e, w, G3, a1, a2, a3⟩, fun x H3 y => ?_⟩
    have hd : items[i]? = some items[i] := List.getElem?_eq_getElem hlt
    obtain ⟨G3, l3, R3, r3⟩ := yld_ok R2 (((ok G2 H2 l2.lt R2.st.sub i).1 hlt).2 _ x H3 hd y)
    rw [List.drop_eq_getElem_cons hlt, forL_cons] at h2
    refine ⟨items[i], e2, w2, G3, R3, r3, (WpT.bndS (h2.le l3)).mono fun _ e4 w4 σ4 G4 H4 l4 R4 h4 _ => ⟨e4, w4, G4, R4, (WpT.bndS h4).mono fun f e5 w5 σ5 G5 H5 l5 R5 h5 => ?_⟩⟩
    have ll : G1.le G5 := l2.trans (l3.trans (l4.trans l5))
    cases f with
    | next => exact ⟨e5, w5, G5, ll, R5, h5⟩
    | cnt => exact ⟨e5, w5, G5, ll, R5, h5⟩
    | brk => exact WpT.ret (P := EndP Γ D) (Wx := Wx) h5 R5 (.refl _)
    | ret s => exact WpT.ret (P := EndP Γ D) (Wx := Wx) h5 R5 (.refl _)
  · have hi : i = items.length := by omega
    subst hi
    rw [List.drop_length] at h2
    exact .inl ⟨(ok G2 H2 l2.lt R2.st.sub _).2 rfl, WpT.ret (P := EndP Γ D) (Wx := Wx) h2 R2 (.refl _)⟩

/-! ### while -/
theorem whileN_succ (t : M Bool) (b : M Flow) (n : Nat) (e : Env) (w : W) : whileN t b (n + 1) e w = match t e w with
    | .ok true e1 w1 => match b e1 w1 with
      | .ok .next e2 w2 => whileN t b n e2 w2
      | .ok .cnt e2 w2 => whileN t b n e2 w2
      | .ok .brk e2 w2 => some (.ok .next e2 w2)
      | .ok (.ret s) e2 w2 => some (.ok (.ret s) e2 w2)
      | .ex x e2 w2 => some (.ex x e2 w2)
      | .bad => some .bad
    | .ok false e1 w1 => some (.ok .next e1 w1)
    | .ex x e1 w1 => some (.ex x e1 w1)
    | .bad => some .bad := rfl
theorem whileN_mono {t : M Bool} {b : M Flow} {r : MR Flow} : ∀ {n k : Nat} {e : Env} {w : W}, whileN t b n e w = some r → whileN t b (n + k) e w = some r
  | 0, k, e, w, h => by cases h
  | n + 1, k, e, w, h => by
    rw [show n + 1 + k = (n + k) + 1 by omega]
    rw [whileN_succ] at h ⊢
    split at h
    · split at h
      · exact whileN_mono h
      · exact whileN_mono h
      · exact h
      · exact h
      · exact h
      · exact h
    · exact h
    · exact h
    · exact h
theorem sWhile_of {t : M Bool} {b : M Flow} {r : MR Flow} {n : Nat} {e : Env} {w : W} (h : whileN t b n e w = some r) : sWhile t b e w = r := by
  have hx : ∃ n r, whileN t b n e w = some r := ⟨n, r, h⟩
  unfold sWhile
  rw [dif_pos hx]
  have h1 := Classical.choose_spec hx.choose_spec
  have a1 := whileN_mono (k := n) h1
  have a2 := whileN_mono (k := hx.choose) h
  rw [Nat.add_comm] at a1
  rw [a1] at a2
  exact Option.some.inj a2
theorem sWhile_cases (t : M Bool) (b : M Flow) (e : Env) (w : W) : sWhile t b e w = .bad ∨ ∃ n, whileN t b n e w = some (sWhile t b e w) := by
  by_cases hx : ∃ n r, whileN t b n e w = some r
  · obtain ⟨n, r, h⟩ := hx
    exact .inr ⟨n, by rw [sWhile_of h]; exact h⟩
  · unfold sWhile
    rw [dif_neg hx]
    exact .inl rfl
theorem ss_while {c : Expr} {t : M Bool} (hfr : S.fr = true) (hc : ST Γ S c t) (hb : SB Γ S body m) : SS Γ S (.While c body [] pos) (sWhile t m) := by
  intro X g Wx tk
  refine PS.imp (ps_while (g.pass hfr) (hc X g Wx tk) (hb X g Wx tk)) ?_
  rintro D σ H ⟨e, w, G, R, h⟩
  rcases sWhile_cases t m e w with z | ⟨n, z⟩
  · unfold WpT at h; rw [z] at h; exact h.elim
  unfold WpT at h
  generalize sWhile t m e w = r at h z
  refine ⟨fun n σ H => ∃ e w G2 r, G.le G2 ∧ Rel Γ S G2 H σ e w ∧ whileN t m n e w = some r ∧ WpTR Γ S Wx r G2 (EndP Γ D), ⟨n, e, w, G, r, .refl _, R, z, h⟩, ?_⟩
  rintro n σ2 H2 ⟨e2, w2, G2, r, l2, R2, z2, h2⟩
  cases n with
  | zero => cases z2
  | succ n =>
    rw [whileN_succ] at z2
    refine ⟨e2, w2, G2, R2, ?_⟩
    unfold Wp
    cases q : t e2 w2 with
    | bad => rw [q] at z2; cases z2; exact h2
    | ex x e3 w3 => rw [q] at z2; cases z2; exact fun G' H' c d l R => h2 G' H' σ2 c d l R
    | ok bb e3 w3 =>
      rw [q] at z2
      intro G3 H3 l3 R3
      cases bb with
      | false =>
        cases z2
        exact h2 G3 H3 σ2 l3 R3
      | true =>
        refine ⟨fun σ' H' => ∃ e w G4 r, G.le G4 ∧ Rel Γ S G4 H' σ' e w ∧ whileN t m n e w = some r ∧ WpTR Γ S Wx r G4 (EndP Γ D), fun σ' H' hw => ⟨n, Nat.lt_succ_self _, hw⟩, e3, w3, G3, R3, ?_⟩
        have z2 : (match m e3 w3 with
          | .ok .next e2 w2 => whileN t m n e2 w2
          | .ok .cnt e2 w2 => whileN t m n e2 w2
          | .ok .brk e2 w2 => some (.ok .next e2 w2)
          | .ok (.ret s) e2 w2 => some (.ok (.ret s) e2 w2)
          | .ex x e2 w2 => some (.ex x e2 w2)
          | .bad => some .bad) = some r := z2
        unfold WpT
        cases q3 : m e3 w3 with
        | bad => rw [q3] at z2; cases z2; exact h2
        | ex x e4 w4 => rw [q3] at z2; cases z2; exact fun G' H' σ' c d l R => h2 G' H' σ' c d (l3.trans l) R
        | ok f e4 w4 =>
          rw [q3] at z2
          intro G4 H4 σ4 l4 R4
          cases f with
          | next => exact ⟨e4, w4, G4, r, l2.trans (l3.trans l4), R4, z2, WpTR.le h2 (l3.trans l4)⟩
          | cnt => exact ⟨e4, w4, G4, r, l2.trans (l3.trans l4), R4, z2, WpTR.le h2 (l3.trans l4)⟩
          | brk => cases z2; exact h2 G4 H4 σ4 (l3.trans l4) R4
          | ret s => cases z2; exact h2 G4 H4 σ4 (l3.trans l4) R4
end
end Mnd
/-! List comprehensions. -/
namespace Mnd
open PySem L2
/-- the names of a block within a place whose names are given -/
def blkN (names : List (Str × NameKind)) (scope : Scope) : List (Str × NameKind) :=
  scope.names.map fun p => if p.2 == .free && names.lookup p.1 == some .cell then (p.1, .cell) else p
def Sc.blk (S : Sc) (scope : Scope) : Sc := { S with names := blkN S.names scope, fr := false, fnb := fun x => scope.names.lookup x == some .cell }
theorem relS_names {scope sc : Scope} (h : sc.kind = .function) : (relS scope sc).names = blkN sc.names scope := by
  unfold relS blkN
  show scope.names.map _ = scope.names.map _
  congr 1
  funext ⟨n, k⟩
  have : (sc.kind == ScopeKind.function) = true := by rw [h]; rfl
  simp only [this, Bool.and_true]
section
variable {Γ : Cg} {S : Sc} {G G' : Gh} {H H' : Hp} {σ : L2.St} {e : Env} {w : W} {Wx : WX} {a b : Expr} {ma mb : M Opd} {pos : Pos} {tg iter elt : Expr}
theorem Good.blk {X : Cx} (g : Good Γ S X) {scope : Scope} (hk : scope.kind = .function) (s : Shared) (H : Hp) (C : Addr) (cl : List (Str × Addr)) (fp : List Addr) : Good Γ (S.blk scope) (X.blk s H scope (compEnvC scope cl C X.env) fp) where
  ok := ⟨g.ok.prog, g.ok.w, g.ok.K, g.ok.mg, g.ok.base⟩
  N := g.N
  nd := g.nd
  names := by
    show (relS scope X.env.scope).names = _
    rw [relS_names g.kind, g.names] <;> rfl
  calm := g.calm
  room := g.room
  lat := fun h => nomatch h
  kind := hk
  qc := fun h => nomatch h
  fn := fun x h => h
  pass := fun h => nomatch h
theorem Rel.blk {scope : Scope} (R : Rel Γ S G H σ e w) : Rel Γ (S.blk scope) G H σ e w := ⟨R.st, R.len, R.slot, R.apart⟩
theorem Rel.unblk {scope : Scope} (R : Rel Γ (S.blk scope) G H σ e w) : Rel Γ S G H σ e w := ⟨R.st, R.len, R.slot, R.apart⟩
abbrev Wx0 : WX := fun _ _ _ _ => False
theorem takes0 {X : Cx} : Takes X Wx0 := fun _ _ x => by
  obtain ⟨_, _, _, _, _, _, _, _, _, _, _, _, _, _, _, _, z⟩ := x
  exact z.elim
/-! ### slots wiped and put back -/
theorem wipeE_length (e : Env) : ∀ vs : List Nat, (wipeE e vs).length = e.length
  | [] => rfl
  | v :: vs => by simp [wipeE, wipeE_length e vs]
theorem wipeE_get (e : Env) : ∀ (vs : List Nat) (i : Nat), i ∉ vs → (wipeE e vs)[i]? = e[i]?
  | [], i, _ => rfl
  | v :: vs, i, h => by
    simp only [List.mem_cons, not_or] at h
    simp only [wipeE]
    rw [List.getElem?_set_ne (Ne.symm h.1), wipeE_get e vs i h.2]
theorem wipeE_mem (e : Env) : ∀ (vs : List Nat) (i : Nat) (s : Sl), i ∈ vs → (wipeE e vs)[i]? = some s → s = .no
  | v :: vs, i, s, h, q => by
    simp only [wipeE] at q
    rcases List.getElem?_set_cases q with ⟨_, z, _⟩ | ⟨hne, q⟩
    · exact z.symm
    · rcases List.mem_cons.mp h with z | z
      · exact absurd z.symm hne
      · exact wipeE_mem e vs i s z q
theorem wipe_get' (σ : L2.St) : ∀ (vs : List Nat) (i : Nat), i ∉ vs → (wipe σ vs)[i]? = σ[i]?
  | [], i, _ => rfl
  | v :: vs, i, h => by
    simp only [List.mem_cons, not_or] at h
    simp only [wipe]
    rw [List.getElem?_set_ne (Ne.symm h.1), wipe_get' σ vs i h.2]
theorem wipe_mem' (σ : L2.St) : ∀ (vs : List Nat) (i : Nat), i ∈ vs → (wipe σ vs)[i]? = if i < σ.length then some none else none
  | v :: vs, i, h => by
    simp only [wipe]
    by_cases q : v = i
    · subst q
      by_cases hl : v < σ.length
      · rw [List.getElem?_set_self (by rw [wipe_length]; exact hl), if_pos hl]
      · rw [if_neg hl, List.getElem?_eq_none (by simpa [wipe_length] using hl)]
    · rw [List.getElem?_set_ne q]
      exact wipe_mem' σ vs i ((List.mem_cons.mp h).resolve_left fun z => q z.symm)
theorem wipe_agree {ts vs : List Nat} {σ σ' : L2.St} (a : Agree ts (wipe σ vs) σ') (h : ∀ i ∈ ts, i ∈ vs) : wipe σ' vs = wipe σ vs := by
  apply List.ext_getElem?
  intro i
  have l : σ'.length = σ.length := by rw [a.1, wipe_length]
  by_cases hi : i ∈ vs
  · rw [wipe_mem' σ' vs i hi, wipe_mem' σ vs i hi, l]
  · rw [wipe_get' σ' vs i hi, a.2 i fun z => hi (h i z)]
theorem Rel.wipe (R : Rel Γ S G H σ e w) (vs : List Nat) : Rel Γ S G H (L2.wipe σ vs) (wipeE e vs) w := by
  refine ⟨R.st, by rw [wipeE_length, wipe_length]; exact R.len, fun i s x q1 q2 => ?_, fun i j a di dj hij q1 q2 q3 q4 => ?_⟩
  · by_cases hi : i ∈ vs
    · rw [wipeE_mem e vs i s hi q1]; trivial
    · rw [wipeE_get e vs i hi] at q1
      rw [wipe_get' σ vs i hi] at q2
      exact R.slot i s x q1 q2
  · have hi : i ∉ vs := fun z => by cases wipeE_mem e vs i _ z q1
    have hj : j ∉ vs := fun z => by cases wipeE_mem e vs j _ z q2
    rw [wipeE_get e vs i hi] at q1
    rw [wipeE_get e vs j hj] at q2
    rw [wipe_get' σ vs i hi] at q3
    rw [wipe_get' σ vs j hj] at q4
    exact R.apart i j a di dj hij q1 q2 q3 q4
theorem backE_get (e e' : Env) (hl : e'.length = e.length) : ∀ (vs : List Nat) (i : Nat), (backE e e' vs)[i]? = (if i ∈ vs then e[i]? else e'[i]?) ∧ (backE e e' vs).length = e.length
  | [], i => ⟨rfl, hl⟩
  | v :: vs, i => by
    obtain ⟨h1, h2⟩ := backE_get e e' hl vs i
    simp only [backE]
    cases q : e[v]? with
    | none =>
      refine ⟨?_, h2⟩
      show (backE e e' vs)[i]? = _
      rw [h1]
      by_cases hv : i = v
      · subst hv
        rw [if_pos List.mem_cons_self]
        split
        · rfl
        · rw [q, List.getElem?_eq_none]
          rw [hl]; exact List.getElem?_eq_none_iff.mp q
      · simp [hv]
    | some s =>
      refine ⟨?_, by simpa using h2⟩
      show ((backE e e' vs).set v s)[i]? = _
      by_cases hv : v = i
      · subst hv
        rw [List.getElem?_set_self (by rw [h2]; exact (List.getElem?_eq_some_iff.mp q).1), if_pos List.mem_cons_self, q]
      · rw [List.getElem?_set_ne hv, h1]
        simp [Ne.symm hv]
theorem isOwn_no {vs : List Nat} (h : vs.any (fun v => isOwn e[v]?) = false) {i : Nat} (hi : i ∈ vs) {d : D} : e[i]? ≠ some (.own d) := fun z => by
  have := List.any_eq_false.mp h i hi
  rw [z] at this
  exact this rfl
/-- behind the block -/
theorem Rel.back {G0 : Gh} {H0 : Hp} {w0 : W} {e' : Env} {vs : List Nat} (R0 : Rel Γ S G0 H0 σ e w0) (no : vs.any (fun v => isOwn e[v]?) = false) (R : Rel Γ S G H (L2.wipe σ vs) (wipeE e' vs) w) (l : G0.lt G) : Rel Γ S G H σ (backE e e' vs) w := by
  have hl : e'.length = e.length := by
    have := R.len
    rw [wipeE_length, wipe_length] at this
    rw [this, R0.len]
  have bg := backE_get e e' hl vs
  refine ⟨R.st, by rw [(bg 0).2]; exact R0.len, fun i s x q1 q2 => ?_, fun i j a di dj hij q1 q2 q3 q4 => ?_⟩
  · rw [(bg i).1] at q1
    by_cases hi : i ∈ vs
    · rw [if_pos hi] at q1
      have h := R0.slot i s x q1 q2
      cases s with
      | no => trivial
      | val d => obtain ⟨v, e1, r⟩ := h; exact ⟨v, e1, Rp.le l r⟩
      | own d => exact absurd q1 (isOwn_no no hi)
      | fn k g => obtain ⟨f, e1, r⟩ := h; exact ⟨f, e1, r.lt l⟩
    · rw [if_neg hi] at q1
      exact R.slot i s x (by rw [wipeE_get e' vs i hi]; exact q1) (by rw [wipe_get' σ vs i hi]; exact q2)
  · rw [(bg i).1] at q1
    rw [(bg j).1] at q2
    by_cases hi : i ∈ vs
    · rw [if_pos hi] at q1; exact absurd q1 (isOwn_no no hi)
    by_cases hj : j ∈ vs
    · rw [if_pos hj] at q2; exact absurd q2 (isOwn_no no hj)
    rw [if_neg hi] at q1
    rw [if_neg hj] at q2
    exact R.apart i j a di dj hij (by rw [wipeE_get e' vs i hi]; exact q1) (by rw [wipeE_get e' vs j hj]; exact q2) (by rw [wipe_get' σ vs i hi]; exact q3) (by rw [wipe_get' σ vs j hj]; exact q4)
/-! ### what is being made is kept as others' -/
theorem Rel.addZ (R : Rel Γ S G H σ e w) {D : Addr} {o : HO} (hD : H D = some o) (f1 : G.F D = none) (f3 : D ∉ G.mu) (ns : NoSlot σ e (.ref D)) (no : seqO o = true) : Rel Γ S { G with Z := upd G.Z D o } H σ e w := by
  refine ⟨⟨R.st.sub, fun a u q => ?_, fun a u q => ?_, R.st.mul, R.st.mun, fun l a q => ?_, R.st.tab.setZ fun a v q => by
    by_cases ha : a = D
    · subst ha; rw [upd_same] at q; cases q; exact .inr no
    · rw [upd_ne ha] at q; exact .inl q⟩, R.len, fun i s x q1 q2 => ?_, R.apart⟩
  · have q : upd G.Z D o a = some u := q
    by_cases ha : a = D
    · subst ha; rw [upd_same] at q; cases q; exact hD
    · rw [upd_ne ha] at q; exact R.st.out _ _ q
  · have q : upd G.Z D o a = some u := q
    by_cases ha : a = D
    · subst ha; exact f1
    · rw [upd_ne ha] at q; exact R.st.dis _ _ q
  · obtain ⟨h1, h2, r⟩ := R.st.wel l a q
    refine ⟨h1, ?_, r⟩
    show upd G.Z D o a = none
    rw [upd_ne (fun z => f3 (by rw [← z]; exact List.mem_of_getElem? q))]; exact h2
  · have h := R.slot i s x q1 q2
    cases s with
    | no => trivial
    | val d => exact h
    | fn k g => obtain ⟨f, e1, c⟩ := h; exact ⟨f, e1, c.lt ⟨.refl _, List.prefix_refl _⟩⟩
    | own d =>
      obtain ⟨b, e2, r1, r2, r3, r4⟩ := h
      refine ⟨b, e2, r1, ?_, r3, r4⟩
      show upd G.Z D o b = none
      rw [upd_ne (fun z => ns i d q1 (by rw [q2, e2, z]))]; exact r2
/-- what was kept at D is written, and what others own is told anew -/
theorem Rel.swapZ (R : Rel Γ S G H σ e w) {D : Addr} {o u0 : HO} {Z' : Hp} (hD : G.Z D = some u0) (h1 : ∀ a u, a ≠ D → Z' a = some u → G.Z a = some u) (h2 : ∀ u, Z' D = some u → u = o) (su : seqO u0 = true) (no : seqO o = true) : Rel Γ S { G with Z := Z' } (upd H D o) σ e w := by
  have nF : ∀ a u, G.F a = some u → a ≠ D := fun a u q z => by rw [z, R.st.dis _ _ hD] at q; cases q
  have nM : ∀ (l : Nat) a, G.mu[l]? = some a → a ≠ D := fun l a q z => by
    have := (R.st.wel l a q).2.1
    rw [z, hD] at this; cases this
  refine ⟨⟨fun a u q => ?_, fun a u q => ?_, fun a u q => ?_, R.st.mul, R.st.mun, fun l a q => ?_, (R.st.tab.write (R.st.out _ _ hD) su).setZ fun a v q => by
    by_cases ha : a = D
    · subst ha; exact .inr (by rw [h2 v q]; exact no)
    · exact .inl (h1 a v ha q)⟩, R.len, fun i s x q1 q2 => ?_, R.apart⟩
  · rw [upd_ne (nF a u q)]; exact R.st.sub _ _ q
  · have q : Z' a = some u := q
    by_cases ha : a = D
    · subst ha; rw [upd_same, h2 u q]
    · rw [upd_ne ha]; exact R.st.out _ _ (h1 a u ha q)
  · have q : Z' a = some u := q
    by_cases ha : a = D
    · subst ha; exact R.st.dis _ _ hD
    · exact R.st.dis _ _ (h1 a u ha q)
  · obtain ⟨f1, f2, xs, vs, f3, f4, f5⟩ := R.st.wel l a q
    refine ⟨f1, ?_, xs, vs, f3, by rw [upd_ne (nM l a q)]; exact f4, f5⟩
    show Z' a = none
    cases z : Z' a with
    | none => rfl
    | some u => rw [h1 a u (nM l a q) z] at f2; cases f2
  · have h := R.slot i s x q1 q2
    cases s with
    | no => trivial
    | val d => exact h
    | fn k g => obtain ⟨f, e1, c⟩ := h; exact ⟨f, e1, c.lt ⟨.refl _, List.prefix_refl _⟩⟩
    | own d =>
      obtain ⟨b, e2, r1, r2, r3, r4⟩ := h
      have nb : b ≠ D := fun z => by rw [z, hD] at r2; cases r2
      refine ⟨b, e2, r1, ?_, r3, r4.keep (.refl _) (List.prefix_refl _) (upd_ne nb)⟩
      show Z' b = none
      cases z : Z' b with
      | none => rfl
      | some u => rw [h1 b u nb z] at r2; cases r2
/-- an object that nobody owns is from now on never changed -/
theorem Rel.adopt (R : Rel Γ S G H σ e w) {D : Addr} {o : HO} (hD : H D = some o) (f1 : G.F D = none) (f2 : G.Z D = none) (f3 : D ∉ G.mu) (ns : NoSlot σ e (.ref D)) (no : noTbl o = true) : Rel Γ S { G with F := upd G.F D o } H σ e w ∧ G.le { G with F := upd G.F D o } := by
  have sF : Sub G.F (upd G.F D o) := sub_upd f1
  refine ⟨⟨⟨fun a u q => ?_, R.st.out, fun a u q => ?_, R.st.mul, R.st.mun, fun l a q => ?_, R.st.tab.updF no⟩, R.len, fun i s x q1 q2 => ?_, R.apart⟩, ⟨sF, rfl, List.prefix_refl _⟩⟩
  · have q : upd G.F D o a = some u := q
    by_cases ha : a = D
    · subst ha; rw [upd_same] at q; cases q; exact hD
    · rw [upd_ne ha] at q; exact R.st.sub _ _ q
  · show upd G.F D o a = none
    have q : G.Z a = some u := q
    rw [upd_ne (fun z => by rw [z, f2] at q; cases q)]; exact R.st.dis _ _ q
  · obtain ⟨h1, h2, xs, vs, h3, h4, h5⟩ := R.st.wel l a q
    refine ⟨?_, h2, xs, vs, h3, h4, h5.mono sF (List.prefix_refl _)⟩
    show upd G.F D o a = none
    rw [upd_ne (fun z => f3 (by rw [← z]; exact List.mem_of_getElem? q))]; exact h1
  · have h := R.slot i s x q1 q2
    cases s with
    | no => trivial
    | val d => obtain ⟨v, e1, r⟩ := h; exact ⟨v, e1, r.mono sF (List.prefix_refl _)⟩
    | fn k g => obtain ⟨f, e1, c⟩ := h; exact ⟨f, e1, c.lt ⟨sF, List.prefix_refl _⟩⟩
    | own d =>
      obtain ⟨b, e2, r1, r2, r3, r4⟩ := h
      refine ⟨b, e2, ?_, r2, r3, r4.keep sF (List.prefix_refl _) rfl⟩
      show upd G.F D o b = none
      rw [upd_ne (fun z => ns i d q1 (by rw [q2, e2, z]))]; exact r1
/-! ### tests of a clause -/
def SF (Γ : Cg) (S : Sc) (ifs : List Expr) (m : M Bool) : Prop := ∀ X, Good Γ S X → ∀ Wx, Takes X Wx → PTs X ifs (tT Γ S Wx m)
theorem sf_nil : SF Γ S [] Mnd.tYes := fun X g Wx tk => ⟨fun pins s σ H Q I h => pts_nil.run pins s σ H Q I (by
  obtain ⟨e, w, G, R, h⟩ := h
  exact Wp.ret h R (.refl _))⟩
theorem sf_one {t : M Bool} (h : ST Γ S a t) : SF Γ S [a] t := fun X g Wx tk => pts_one (h X g Wx tk)

theorem compL_cons (vs : List Nat) (g : D → M Unit) (t : M Bool) (elt : M Opd) (x : D) (xs : List D) : compL vs g t elt (x :: xs) = bnd (fun e w => .ok () (wipeE e vs) w) fun _ => bnd (g x) fun _ => bnd t fun b =>
      if b then bnd elt fun o => bnd (frz o) fun d => bnd (compL vs g t elt xs) fun ds => ret (d :: ds) else compL vs g t elt xs := rfl
variable {ifs : List Expr} {scope : Scope} {mi : M (List D)} {g1 : D → M Unit} {ts : List Nat} {t : M Bool} {me : M Opd} {own : List (Str × Nat)}
/-- the part of a comprehension's value that is made so far, then the rest -/
def CompRest (vs : List Nat) (g : D → M Unit) (t : M Bool) (elt : M Opd) (items : List D) (done : List D) (e : Env) (w : W) (ds : List D) (e2 : Env) (w2 : W) : Prop := ∃ r, compL vs g t elt items e w = .ok r e2 w2 ∧ ds = done ++ r
theorem blkOk_of (h : blkC S.N ⟨.function, S.names, false, false, []⟩ scope own = true) {X : Cx} (g : Good Γ S X) : BlkOk X.N X.env.scope scope own := by
  have b := blkOk_by h
  refine ⟨b.kind, b.uniq, fun p hp => by rw [g.N]; exact b.ix p hp, fun y hy e => ?_, fun y hy e => by rw [g.N]; exact b.own y hy e⟩
  have := b.free y hy e
  rw [g.names]; exact this
/-- the heart -/
theorem comp_core {X : Cx} (g : Good Γ S X) (hsub : ∀ i ∈ ts, i ∈ own.map (·.2)) {σ : L2.St} {H : Hp} {Q : VK}
    (h : ∃ e w G, Rel Γ S G H σ e w ∧ Wp Γ S Wx σ (comp (own.map (·.2)) mi g1 t me) e w G fun ds e' w' G' H' => ∀ D vs, H' D = some (.lst vs) → G'.F D = none → G'.Z D = none → D ∉ G'.mu → NoSlot σ e' (.ref D) → Rps Γ G' ds vs → Q (.ref D) H') :
    tLc (tI Γ S Wx mi) (tG Γ (S.blk scope) Wx0 ts g1) (tT Γ (S.blk scope) Wx0 t) (tE Γ (S.blk scope) Wx0 me) (own.map (·.2)) σ H Q := by
  obtain ⟨e, w, G, R, h⟩ := h
  refine ⟨e, w, G, R, (Wp.bnd h).mono fun items e1 w1 G1 H1 l1 R1 h1 J ok D hD => ?_⟩
  generalize own.map (·.2) = vs at h1 hsub
  have h1 : WpR Γ S Wx σ (if (vs.any (fun v => isOwn e1[v]?) || decide (100000 < items.length)) = true then .bad else match compL vs g1 t me items e1 w1 with
    | .ok ds e' w' => .ok ds (backE e1 e' vs) w'
    | _ => .bad) G1 _ := h1
  by_cases hno : (vs.any (fun v => isOwn e1[v]?) || decide (100000 < items.length)) = true
  · rw [if_pos hno] at h1; exact h1.elim
  rw [if_neg hno] at h1
  have hno : (vs.any (fun v => isOwn e1[v]?) || decide (100000 < items.length)) = false := by simpa using hno
  rw [Bool.or_eq_false_iff] at hno
  obtain ⟨no, hlen⟩ := hno
  have hlen : items.length ≤ 100000 := by simpa using hlen
  cases hc : compL vs g1 t me items e1 w1 with
  | bad => rw [hc] at h1; exact h1.elim
  | ex x e' w' => rw [hc] at h1; exact h1.elim
  | ok ds e2 w2 =>
  rw [hc] at h1
  have h1 : WpR Γ S Wx σ (.ok ds (backE e1 e2 vs) w2) G1 _ := h1
  have nD := R1.st.own_new hD
  have nsD : NoSlot (L2.wipe σ vs) (wipeE e1 vs) (.ref D) := fun i d q1 q2 => by
    obtain ⟨a, e3, r⟩ := (R1.wipe vs).slot i _ _ q1 q2
    cases e3
    obtain ⟨u, hu⟩ := r.lt_of
    rw [hD] at hu; cases hu
  -- the invariant
  refine ⟨fun i n H => n = items.length - i ∧ i ≤ items.length ∧ ∃ e w G2 done us, Rel Γ S G2 H (L2.wipe σ vs) (wipeE e vs) w ∧ G1.lt G2 ∧ G2.Z = upd G1.Z D (.lst us) ∧ Rps Γ G2 done us ∧ done.length ≤ i ∧ CompRest vs g1 t me (items.drop i) done e w ds e2 w2, ⟨_, rfl, Nat.zero_le _, e1, w1, { G1 with Z := upd G1.Z D (.lst []) }, [], [], ?_, ⟨.refl _, List.prefix_refl _⟩, rfl, .nil, Nat.zero_le _, ds, hc, rfl⟩, ?_⟩
  · exact ((R1.wipe vs).alloc hD).addZ upd_same nD.1 nD.2.2 nsD rfl
  rintro i n H3 ⟨rfl, hle, e3, w3, G3, done, us, R3, l3, hZ, rd, hdl, r, hr, hds⟩
  have hDZ : G3.Z D = some (.lst us) := by rw [hZ]; exact upd_same
  have hD3 : H3 D = some (.lst us) := R3.st.out _ _ hDZ
  have lt3 : ∀ G4 : Gh, G3.le G4 → G1.lt G4 := fun G4 l => l3.trans l.lt
  by_cases hlt : i < items.length
  · refine .inr ⟨((ok G3 H3 l3 R3.st.sub i).1 hlt).1, fun H' => i + 1 ≤ items.length ∧ ∃ e w G2 done us, Rel Γ S G2 H' (L2.wipe σ vs) (wipeE e vs) w ∧ G1.lt G2 ∧ G2.Z = upd G1.Z D (.lst us) ∧ Rps Γ G2 done us ∧ done.length ≤ i + 1 ∧ CompRest vs g1 t me (items.drop (i + 1)) done e w ds e2 w2, fun H' ⟨a1, a2⟩ => ⟨_, by omega, rfl, a1, a2⟩, fun x H4 y => ?_⟩
    have hd : items[i]? = some items[i] := List.getElem?_eq_getElem hlt
    obtain ⟨G4, l4, R4, r4⟩ := yld_ok R3 (((ok G3 H3 l3 R3.st.sub i).1 hlt).2 _ x H4 hd y)
    rw [List.drop_eq_getElem_cons hlt, compL_cons, bnd_eq] at hr
    have hr : bnd (g1 items[i]) (fun _ => bnd t fun b => if b = true then bnd me fun o => bnd (frz o) fun d => bnd (compL vs g1 t me (items.drop (i + 1))) fun ds => ret (d :: ds) else compL vs g1 t me (items.drop (i + 1))) (wipeE e3 vs) w3 = .ok r e2 w2 := hr
    rw [bnd_eq] at hr
    refine ⟨items[i], wipeE e3 vs, w3, G4, R4.blk, r4, ?_⟩
    unfold WpT
    cases q1 : g1 items[i] (wipeE e3 vs) w3 with
    | bad => rw [q1] at hr; cases hr
    | ex x e' w' => rw [q1] at hr; cases hr
    | ok u e5 w5 =>
    rw [q1] at hr
    intro G5 H5 σ5 l5 R5 ag
    refine ⟨wipe_agree ag hsub, e5, w5, G5, R5, ?_⟩
    have hr : bnd t (fun b => if b = true then bnd me fun o => bnd (frz o) fun d => bnd (compL vs g1 t me (items.drop (i + 1))) fun ds => ret (d :: ds) else compL vs g1 t me (items.drop (i + 1))) e5 w5 = .ok r e2 w2 := hr
    rw [bnd_eq] at hr
    unfold Wp
    cases q2 : t e5 w5 with
    | bad => rw [q2] at hr; cases hr
    | ex x e' w' => rw [q2] at hr; cases hr
    | ok bb e6 w6 =>
    rw [q2] at hr
    intro G6 H6 l6 R6
    have hw6 : L2.wipe σ5 vs = L2.wipe σ vs := wipe_agree ag hsub
    cases bb with
    | false =>
      have hr : compL vs g1 t me (items.drop (i + 1)) e6 w6 = .ok r e2 w2 := hr
      have ll : G3.le G6 := l4.trans (l5.trans l6)
      have R6' := R6.unblk.wipe vs
      rw [hw6] at R6'
      exact ⟨hlt, e6, w6, G6, done, us, R6', lt3 _ ll, by rw [ll.Z]; exact hZ, Rps.le ll.lt rd, Nat.le_succ_of_le hdl, r, hr, hds⟩
    | true =>
      have hr : bnd me (fun o => bnd (frz o) fun d => bnd (compL vs g1 t me (items.drop (i + 1))) fun ds => ret (d :: ds)) e6 w6 = .ok r e2 w2 := hr
      rw [bnd_eq] at hr
      refine ⟨e6, w6, G6, R6, ?_⟩
      unfold Wp
      cases q3 : me e6 w6 with
      | bad => rw [q3] at hr; cases hr
      | ex x e' w' => rw [q3] at hr; cases hr
      | ok o e7 w7 =>
      rw [q3] at hr
      intro G7 H7 l7 R7 yv ry
      -- the element for ever
      have hr : bnd (frz o) (fun d => bnd (compL vs g1 t me (items.drop (i + 1))) fun ds => ret (d :: ds)) e7 w7 = .ok r e2 w2 := hr
      have hw : Wp Γ (S.blk scope) Wx0 σ5 (bnd (frz o) (fun d => bnd (compL vs g1 t me (items.drop (i + 1))) fun ds => ret (d :: ds))) e7 w7 G7 fun _ _ _ _ _ => True := by
        unfold Wp; rw [hr]; exact fun _ _ _ _ => trivial
      obtain ⟨d, e8, G8, l8, R8, rd8, hfr⟩ := wp_frz' hr rfl R7 ry
      have ll : G3.le G8 := l4.trans (l5.trans (l6.trans (l7.trans l8)))
      have hZ8 : G8.Z D = some (.lst us) := by rw [ll.Z]; exact hDZ
      have hD8 : H7 D = some (.lst us) := R8.st.out _ _ hZ8
      rw [bnd_eq] at hfr
      cases q4 : compL vs g1 t me (items.drop (i + 1)) e8 w7 with
      | bad => rw [q4] at hfr; cases hfr
      | ex x e' w' => rw [q4] at hfr; cases hfr
      | ok r' e9 w9 =>
      rw [q4] at hfr
      cases hfr
      have hul := rd.length
      refine ⟨us, hD8, Nat.lt_of_le_of_lt (show us.length ≤ 100000 by omega) (by rw [sizeLine_eq]; decide), hlt, e8, w7, { G8 with Z := upd G1.Z D (.lst (us ++ [yv])) }, done ++ [d], us ++ [yv], ?_, ⟨(lt3 G8 ll).F, (lt3 G8 ll).mu⟩, rfl, (Rps.le ll.lt rd).append (.one rd8), by simp; omega, r', q4, by rw [hds]; simp⟩
      have R9 := R8.unblk.wipe vs
      rw [hw6] at R9
      refine R9.swapZ hZ8 (fun a u ha q => ?_) (fun u q => ?_) rfl rfl
      · rw [upd_ne ha] at q
        rw [ll.Z, hZ, upd_ne ha]; exact q
      · rw [upd_same] at q; exact (Option.some.inj q).symm
  · have hi : i = items.length := by omega
    subst hi
    rw [List.drop_length] at hr
    cases hr
    rw [List.append_nil] at hds
    subst hds
    refine .inl ⟨(ok G3 H3 l3 R3.st.sub _).2 rfl, ?_⟩
    have R4 := R3.swapZ (o := .lst us) (Z' := G1.Z) hDZ (fun a u ha q => by rw [hZ, upd_ne ha]; exact q) (fun u q => by rw [nD.2.1] at q; cases q) rfl rfl
    have hup : upd H3 D (.lst us) = H3 := by
      funext b
      by_cases hb : b = D
      · subst hb; rw [upd_same, hD3]
      · rw [upd_ne hb]
    rw [hup] at R4
    have R5 := R1.back no R4 (G := { G3 with Z := G1.Z }) ⟨l3.F, l3.mu⟩
    refine h1 { G3 with Z := G1.Z } H3 ⟨l3.F, rfl, l3.mu⟩ R5 D us hD3 (R3.st.dis _ _ hDZ) nD.2.1 (fun hm => ?_) (fun j d q1 q2 => ?_) rd
    · obtain ⟨l, hl⟩ := List.getElem?_of_mem hm
      have := (R3.st.wel l D hl).2.1
      rw [hDZ] at this; cases this
    · obtain ⟨a, e4, r⟩ := R5.slot j _ _ q1 q2
      cases e4
      have hjv : j ∉ vs := fun hj => by
        have bg := (backE_get e1 e2 (by
          have := R3.len
          rw [wipeE_length, wipe_length] at this
          rw [this, ← R1.len]) vs j).1
        rw [bg, if_pos hj] at q1
        exact isOwn_no no hj q1
      have bg := (backE_get e1 e2 (by
          have := R3.len
          rw [wipeE_length, wipe_length] at this
          rw [this, ← R1.len]) vs j).1
      rw [bg, if_neg hjv] at q1
      obtain ⟨a, e4, r⟩ := R3.slot j _ _ (by rw [wipeE_get e2 vs j hjv]; exact q1) (by rw [wipe_get' σ vs j hjv]; exact q2)
      cases e4
      have := r.2.1
      rw [hDZ] at this; cases this
end
end Mnd
/-! List comprehensions: the rules. What is one's own: displays, comprehensions, slices, sums of lists. -/
namespace Mnd
open PySem L2
section
variable {Γ : Cg} {S : Sc} {G G' : Gh} {H H' : Hp} {σ : L2.St} {e : Env} {w : W} {Wx : WX} {a b : Expr} {ma mb : M Opd} {pos : Pos} {tg iter elt : Expr}
variable {ifs : List Expr} {scope : Scope} {mi : M (List D)} {g1 : D → M Unit} {ts : List Nat} {t : M Bool} {me : M Opd} {own : List (Str × Nat)}
/-- a new list becomes a value -/
theorem new_val {D : Addr} {vs : List V} {ds : List Mnd.D} {P : Opd → Env → W → Gh → Hp → Prop} (h : Wp Γ S Wx σ (Mnd.ret (.d (.lst ds))) e w G P) (R : Rel Γ S G H σ e w) (hD : H D = some (.lst vs)) (f1 : G.F D = none) (f2 : G.Z D = none) (f3 : D ∉ G.mu) (ns : NoSlot σ e (.ref D)) (r : Rps Γ G ds vs)
    {Q : VK} (hP : ∀ o e w G H, P o e w G H → ∀ v, RepO Γ G σ e o v → Q v H) : Q (.ref D) H := by
  obtain ⟨R', l⟩ := R.adopt hD f1 f2 f3 ns rfl
  refine hP _ _ _ _ _ (Wp.ret h R' l) _ ?_
  show Rp Γ _ (.lst ds) (.ref D)
  refine rp_lst ?_ (Rps.le l.lt r)
  show upd G.F D _ D = _
  exact upd_same
theorem se_comp (hB : blkC S.N ⟨.function, S.names, false, false, []⟩ scope own = true) (hi : SI Γ S tg iter mi) (hg : SG Γ (S.blk scope) tg ts g1) (hsub : ∀ i ∈ ts, i ∈ own.map (·.2)) (hf : SF Γ (S.blk scope) ifs t) (he : SE Γ (S.blk scope) elt me)
    (hs : ∀ env x, foldedSetIterable iter env x = pure x := by intro _ _; rfl) : SE Γ S (.ListComp elt [⟨tg, iter, ifs, 0⟩] scope pos) (eComp (own.map (·.2)) mi g1 t me) := by
  intro X g Wx tk
  have ok := blkOk_of hB g
  refine PE.imp (pe_lc g.calm (by rw [g.N]; exact g.nd) (hi X g Wx tk) ok (fun s H C cl fp => hg _ (g.blk ok.kind s H C cl fp) Wx0 takes0) (fun s H C cl fp => hf _ (g.blk ok.kind s H C cl fp) Wx0 takes0) (fun s H C cl fp => he _ (g.blk ok.kind s H C cl fp) Wx0 takes0) (hs _)) ?_
  rintro σ H Q ⟨e, w, G, R, h⟩
  exact comp_core (own := own) g hsub ⟨e, w, G, R, (Wp.bnd h).mono fun ds e1 w1 G1 H1 l1 R1 h1 D vs hD f1 f2 f3 ns r => new_val h1 R1 hD f1 f2 f3 ns r fun o e w G H p v rv => p v rv⟩
theorem so_comp (hB : blkC S.N ⟨.function, S.names, false, false, []⟩ scope own = true) (hi : SI Γ S tg iter mi) (hg : SG Γ (S.blk scope) tg ts g1) (hsub : ∀ i ∈ ts, i ∈ own.map (·.2)) (hf : SF Γ (S.blk scope) ifs t) (he : SE Γ (S.blk scope) elt me)
    (hs : ∀ env x, foldedSetIterable iter env x = pure x := by intro _ _; rfl) : SO Γ S (.ListComp elt [⟨tg, iter, ifs, 0⟩] scope pos) (oComp (own.map (·.2)) mi g1 t me) := by
  intro X g Wx tk
  have ok := blkOk_of hB g
  refine PE.imp (pe_lc g.calm (by rw [g.N]; exact g.nd) (hi X g Wx tk) ok (fun s H C cl fp => hg _ (g.blk ok.kind s H C cl fp) Wx0 takes0) (fun s H C cl fp => hf _ (g.blk ok.kind s H C cl fp) Wx0 takes0) (fun s H C cl fp => he _ (g.blk ok.kind s H C cl fp) Wx0 takes0) (hs _)) ?_
  rintro σ H Q ⟨e, w, G, R, h⟩
  exact comp_core (own := own) g hsub ⟨e, w, G, R, (Wp.bnd h).mono fun ds e1 w1 G1 H1 l1 R1 h1 D vs hD f1 f2 f3 ns r => Wp.ret h1 R1 (.refl _) _ ⟨⟨D, rfl, f1, f2, f3, vs, hD, r⟩, fun _ _ => ns⟩⟩
/-- name = [..] on one line, the name a local -/
theorem ss_setComp {i : Nat} {y : Str} {py spos : Pos} (hy : S.N[i]? = some y) (hyl : S.names.lookup y = some .local) (hl : (py.line == pos.line) = true) (hn : (scope.names.any fun (n, k) => n == y && (k == .local || k == .cell)) = false)
    (hB : blkC S.N ⟨.function, S.names, false, false, []⟩ scope own = true) (hi : SI Γ S tg iter mi) (hg : SG Γ (S.blk scope) tg ts g1) (hsub : ∀ i ∈ ts, i ∈ own.map (·.2)) (hf : SF Γ (S.blk scope) ifs t) (he : SE Γ (S.blk scope) elt me)
    (hs : ∀ env x, foldedSetIterable iter env x = pure x := by intro _ _; rfl) : SS Γ S (.Assign [.Name y py] (.ListComp elt [⟨tg, iter, ifs, 0⟩] scope pos) spos) (sSet i (oComp (own.map (·.2)) mi g1 t me)) := by
  intro X g Wx tk
  have ok := blkOk_of hB g
  have hyX : X.env.scope.names.lookup y = some .local := by rw [g.names]; exact hyl
  refine PS.imp (ps_setLc (i := i) g.calm (by rw [g.N]; exact g.nd) (by rw [g.N]; exact hy) hyX (sw_true g.kind hyX hl hn) (hi X g Wx tk) ok (fun s H C cl fp => hg _ (g.blk ok.kind s H C cl fp) Wx0 takes0) (fun s H C cl fp => hf _ (g.blk ok.kind s H C cl fp) Wx0 takes0) (fun s H C cl fp => he _ (g.blk ok.kind s H C cl fp) Wx0 takes0) (hs _)) ?_
  rintro D σ H ⟨e, w, G, R, h⟩
  refine comp_core (own := own) (Q := fun x H1 => gName i x σ H1 D.nx) g hsub ⟨e, w, G, R, (Wp.bnd (WpT.bndE h σ)).mono fun ds e1 w1 G1 H1 l1 R1 h1 L vs hD f1 f2 f3 ns r => ?_⟩
  have h2 := Wp.ret h1 R1 (.refl _)
  show D.nx (σ.set i (some (.ref L))) H1
  exact WpT.ret (P := EndP Γ D) (wpT_put h2) (R1.putR ⟨⟨L, rfl, f1, f2, f3, vs, hD, r⟩, fun _ _ => ns⟩) (.refl _)
/-! ### one's own -/
theorem so_val (ha : SE Γ S a ma) : SO Γ S a (oVal ma) := fun X g Wx tk => PE.imp (ha X g Wx tk) fun σ H Q ⟨e, w, G, R, h⟩ =>
  ⟨e, w, G, R, (Wp.bnd h).mono fun o e1 w1 G1 H1 l1 R1 h1 v rv => by
    obtain ⟨d, e2, G2, l2, R2, rd, h2⟩ := wp_frz h1 R1 rv
    exact Wp.ret h2 R2 (.refl _) v ⟨rd, fun _ z => nomatch z⟩⟩
variable {es : List Expr} {mes : M (List D)}
theorem noSlot_new {p : Addr} {o : HO} (R : Rel Γ S G H σ e w) (n : H p = none) : NoSlot σ e (.ref p) := fun i d q1 q2 => by
  obtain ⟨a, e3, r⟩ := R.slot i _ _ q1 q2
  cases e3
  obtain ⟨u, hu⟩ := r.lt_of
  rw [n] at hu; cases hu
/-- a list of one's own, just made -/
theorem own_new {p : Addr} {ds : List D} {vs : List V} (R : Rel Γ S G H σ e w) (n : H p = none) (r : Rps Γ G ds vs) : Rel Γ S G (upd H p (.lst vs)) σ e w ∧ RepRS Γ G (upd H p (.lst vs)) σ e (.own (.lst ds)) (.ref p) := by
  have f := R.st.own_new n
  exact ⟨R.alloc n, ⟨p, rfl, f.1, f.2.1, f.2.2, vs, upd_same, r⟩, fun _ _ => noSlot_new (o := .lst vs) R n⟩
theorem so_lst (h : SA Γ S es mes) : SO Γ S (.List es pos) (oLst (bnd mes fun ds => if ds.length ≤ 100000 then ret ds else bad)) := fun X g Wx tk => PE.imp (pe_lst (h X g Wx tk)) fun σ H Q ⟨e, w, G, R, h⟩ =>
  ⟨e, w, G, R, (Wp.bnd (Wp.bnd h)).mono fun ds e1 w1 G1 H1 l1 R1 h1 vs rs => by
    split at h1
    · rename_i hn
      refine ⟨line1 (by rw [rs.length]; exact hn), fun p hp => ?_⟩
      obtain ⟨R2, r⟩ := own_new R1 hp rs
      exact Wp.ret (Wp.ret h1 R1 (.refl _)) R2 (.refl _) _ r
    · exact (Wp.bad h1).elim⟩
theorem se_lst (h : SA Γ S es mes) : SE Γ S (.List es pos) (eLst (bnd mes fun ds => if ds.length ≤ 100000 then ret ds else bad)) := fun X g Wx tk => PE.imp (pe_lst (h X g Wx tk)) fun σ H Q ⟨e, w, G, R, h⟩ =>
  ⟨e, w, G, R, (Wp.bnd (Wp.bnd h)).mono fun ds e1 w1 G1 H1 l1 R1 h1 vs rs => by
    split at h1
    · rename_i hn
      refine ⟨line1 (by rw [rs.length]; exact hn), fun p hp => ?_⟩
      obtain ⟨l, kk, r⟩ := allocL R1.st hp rs rfl
      exact Wp.ret (Wp.ret h1 R1 (.refl _)) (kk _ _ _ _ R1) l _ r
    · exact (Wp.bad h1).elim⟩
/-- xs + ys, a new list -/
def dCatL : D → D → Option D
  | .lst xs, .lst ys => if xs.length + ys.length ≤ 100000 then some (.lst (xs ++ ys)) else none
  | _, _ => none
theorem so_cat (ha : SE Γ S a ma) (hb : SE Γ S b mb) : SO Γ S (.BinOp a .Add b pos) (oBin dCatL ma mb) := fun X g Wx tk => PE.imp (pe_op op_cat (ha X g Wx tk) (hb X g Wx tk)) fun σ H Q ⟨e, w, G, R, h⟩ =>
  ⟨e, w, G, R, (Wp.bnd h).mono fun o e1 w1 G1 H1 l1 R1 h1 x rx => ⟨e1, w1, G1, R1, (Wp.bnd h1).mono fun o2 e2 w2 G2 H2 l2 R2 h2 y ry => by
    obtain ⟨u, hu, h2⟩ := wp_look h2
    obtain ⟨v, hv, h2⟩ := wp_look h2
    obtain ⟨p, hp, h2⟩ := Wp.lift h2
    have vx := (rx.le l2 (e' := e2)).view R2 hu
    have vy := ry.view R2 hv
    cases hf : dCatL u v with
    | none => rw [hf] at hp; cases hp
    | some d =>
      rw [hf] at hp; cases hp
      unfold dCatL at hf
      split at hf
      · split at hf <;> cases hf
        rename_i hl
        obtain ⟨a, vs, rfl, q1, r1⟩ := vx.lst R2.st
        obtain ⟨b, us, rfl, q2, r2⟩ := vy.lst R2.st
        refine ⟨a, b, vs, us, rfl, rfl, q1, q2, line1 (by rw [r1.length, r2.length]; exact hl), fun p hp => ?_⟩
        obtain ⟨R3, r⟩ := own_new R2 hp (r1.append r2)
        exact Wp.ret h2 R3 (.refl _) _ r
      · cases hf⟩⟩
variable {lo hi : Option Expr} {ml mh : M (Option Int)} {p2 : Pos}
theorem so_cut (ha : SE Γ S a ma) (hl : SP Γ S lo ml) (hh : SP Γ S hi mh) : SO Γ S (.Subscript a (.Slice lo hi none p2) pos) (oCut ma ml mh) := by
  intro X g Wx tk
  have h2 := sl_list (X := X)
  rw [g.ok.K] at h2
  refine PE.imp (pe_slice h2 (ha X g Wx tk) (hl X g Wx tk) (hh X g Wx tk)) ?_
  rintro σ H Q ⟨e, w, G, R, h⟩
  refine ⟨e, w, G, R, (Wp.bnd h).mono fun o e1 w1 G1 H1 l1 R1 h1 x rx => ⟨e1, w1, G1, R1, (Wp.bnd h1).mono fun l e2 w2 G2 H2 l2 R2 h2 => ⟨e2, w2, G2, R2, (Wp.bnd h2).mono fun hh e3 w3 G3 H3 l3 R3 h3 => ?_⟩⟩⟩
  obtain ⟨u, hu, h3⟩ := wp_look h3
  obtain ⟨p, hp, h3⟩ := Wp.lift h3
  have vx := (rx.le (l2.trans l3) (e' := e3)).view R3 hu
  cases u <;> simp only [dCut] at hp <;> first | cases hp | skip
  · obtain ⟨a, vs, rfl, q, r⟩ := vx.lst R3.st
    refine ⟨a, vs, rfl, .inl (.inl q), fun p hp => ?_⟩
    obtain ⟨R4, r⟩ := own_new R3 hp (rps_cut (lo := l) (hi := hh) r)
    exact Wp.ret h3 R4 (.refl _) _ r
  · obtain ⟨a, rfl, q⟩ := vx.scr R3.st
    refine ⟨a, _, rfl, q, fun p hp => ?_⟩
    rw [cut_ints]
    obtain ⟨R4, r⟩ := own_new R3 hp (RepDs.of_ints (cutL _ l hh))
    exact Wp.ret h3 R4 (.refl _) _ r
end
end Mnd
/-! Built-in functions. -/
namespace Mnd
open PySem L2
section
variable {Γ : Cg} {S : Sc} {G G' : Gh} {H H' : Hp} {σ : L2.St} {e : Env} {w : W} {Wx : WX} {a b : Expr} {ma mb : M Opd} {pos : Pos} {p : Pos} {x : Str} {id : String}
/-- the operation's value, and it may be one's own -/
theorem se_b1 {r : List V → Hp → VK → Prop} {f : D → Option D} (B : Blt Γ S x) (hv : bootBuiltins x = some (.builtin id)) (hc : ∀ X, Good Γ S X → CallR X (.builtin id) r) (ok : UnOk Γ (fun v H Q => r [v] H Q) f) (ha : SE Γ S a ma)
    (hn : x ≠ "__name__") (hdb : (x == ("__debug__" : Str)) = false) (he : ∀ env, starEach [a] env = (false, eval a env) :: starEach [] env) : SE Γ S (.Call (.Name x p) [a] [] pos) (eUn f ma) :=
  fun X g Wx tk => PE.imp (pe_callB (hc X g) (B.gl g) (B.no g) hv (pa_cons (ha X g Wx tk) pa_nil (he _)) hn hdb (he _) rfl) fun σ H Q h => tE_un (r := fun v H Q => r [v] H Q) ok h
theorem se_t1 {r : List V → Hp → VK → Prop} {f : D → Option D} (B : Blt Γ S x) (hv : bootBuiltins x = some (.type id)) (hc : ∀ X, Good Γ S X → CallR X (.type id) r) (ok : UnOk Γ (fun v H Q => r [v] H Q) f) (ha : SE Γ S a ma)
    (hn : x ≠ "__name__") (hdb : (x == ("__debug__" : Str)) = false) (he : ∀ env, starEach [a] env = (false, eval a env) :: starEach [] env) : SE Γ S (.Call (.Name x p) [a] [] pos) (eUn f ma) :=
  fun X g Wx tk => PE.imp (pe_callTy (hc X g) (B.gl g) (B.no g) hv (pa_cons (ha X g Wx tk) pa_nil (he _)) hn hdb (he _) rfl) fun σ H Q h => tE_un (r := fun v H Q => r [v] H Q) ok h
theorem se_b2 {r : List V → Hp → VK → Prop} {f : D → D → Option D} (B : Blt Γ S x) (hv : bootBuiltins x = some (.builtin id)) (hc : ∀ X, Good Γ S X → CallR X (.builtin id) r) (ok : BinOk Γ (fun u v H Q => r [u, v] H Q) f) (ha : SE Γ S a ma) (hb : SE Γ S b mb)
    (hn : x ≠ "__name__") (hdb : (x == ("__debug__" : Str)) = false) (he : ∀ env, starEach [a, b] env = (false, eval a env) :: starEach [b] env) (he2 : ∀ env, starEach [b] env = (false, eval b env) :: starEach [] env) (hpl : ∀ env, (backTo pos (starEach [b] env)).any (·.1) = false) : SE Γ S (.Call (.Name x p) [a, b] [] pos) (eBin f ma mb) :=
  fun X g Wx tk => PE.imp (pe_callB (hc X g) (B.gl g) (B.no g) hv (pa_cons (ha X g Wx tk) (pa_cons (hb X g Wx tk) pa_nil (he2 _)) (he _)) hn hdb (he _) (hpl _)) fun σ H Q h => tE_bin (r := fun u v H Q => r [u, v] H Q) ok h
/-- .. imported -/
theorem se_g2 {r : List V → Hp → VK → Prop} {f : D → D → Option D} (hg : S.names.lookup x = some .globalImplicit) (hm : Γ.mg x = some (.builtin id)) (hc : ∀ X, Good Γ S X → CallR X (.builtin id) r) (ok : BinOk Γ (fun u v H Q => r [u, v] H Q) f) (ha : SE Γ S a ma) (hb : SE Γ S b mb)
    (hdb : (x == ("__debug__" : Str)) = false) (he : ∀ env, starEach [a, b] env = (false, eval a env) :: starEach [b] env) (he2 : ∀ env, starEach [b] env = (false, eval b env) :: starEach [] env) (hpl : ∀ env, (backTo pos (starEach [b] env)).any (·.1) = false) : SE Γ S (.Call (.Name x p) [a, b] [] pos) (eBin f ma mb) :=
  fun X g Wx tk => PE.imp (pe_callBfun (hc X g) (show X.env.scope.names.lookup x = _ by rw [g.names]; exact hg) (by rw [g.ok.mg]; exact hm) (pa_cons (ha X g Wx tk) (pa_cons (hb X g Wx tk) pa_nil (he2 _)) (he _)) hdb (he _) (hpl _)) fun σ H Q h => tE_bin (r := fun u v H Q => r [u, v] H Q) ok h

/-! ### which -/
theorem Vw.dct {ks ds : List D} {x : V} (h : Vw Γ G H (.dct ks ds) x) (R : RelW Γ G H w) : ∃ a vs, x = .ref a ∧ dctIs Γ.kc (H a) ks vs ∧ Rps Γ G ds vs := by
  rcases h with h | ⟨a, rfl, h⟩
  · unfold Rp RepD at h; obtain ⟨a, vs, e1, q, r⟩ := h; exact ⟨a, vs, e1, sub_dct R.sub q, r⟩
  · obtain ⟨vs, q, r⟩ := h; exact ⟨a, vs, rfl, q, r⟩
def rLenA (K : PySem.W.Frag) : List V → Hp → VK → Prop := fun xs H Q => (∃ p ys, xs = [V.ref p] ∧ (SqL K H p ys ∨ SqT K H p ys) ∧ Q (.int ys.length) H) ∨ (∃ z, xs = [V.str z] ∧ z.length ≤ sizeLine ∧ Q (.int z.length) H) ∨
  (∃ a kvs, xs = [V.ref a] ∧ H a = some (.dK kvs) ∧ Q (.int kvs.length) H) ∨ rLenT xs H Q
theorem cr_len : ∀ X, Good Γ S X → CallR X (.builtin "len") (rLenA Γ.K) := fun X g => by
  have := call_len_seq (X := X)
  rw [g.ok.K] at this
  exact this.or (call_len_str.or (call_lenD.or call_len_dT))
theorem un_len : UnOk Γ (fun v H Q => rLenA Γ.K [v] H Q) dLen := by
  intro G H w u d x Q R vx hd k
  have fin : ∀ i : Int, d = .int i → Q (.int i) H := fun i z => k _ G H (.refl G) (.refl _ _) (by rw [z]; exact rp_int _)
  cases u <;> simp only [dLen] at hd <;> first | cases hd | skip
  · split at hd <;> cases hd
    rename_i hz
    exact .inr (.inl ⟨_, by rw [vx.str], line1 hz, fin _ rfl⟩)
  · obtain ⟨a, vs, rfl, q, r⟩ := vx.tup
    exact .inl ⟨a, vs, rfl, .inr (sqT_sub R q), by rw [r.length]; exact fin _ rfl⟩
  · obtain ⟨a, vs, rfl, q, r⟩ := vx.lst R
    exact .inl ⟨a, vs, rfl, .inl (.inl (.inl q)), by rw [r.length]; exact fin _ rfl⟩
  · obtain ⟨a, vs, rfl, q, r⟩ := vx.dct R
    rcases q with ⟨kvs, q, rfl, _⟩ | ⟨kvs, q, rfl, _⟩
    · exact .inr (.inr (.inl ⟨a, kvs, rfl, q, fin _ (by simp)⟩))
    · exact .inr (.inr (.inr ⟨a, kvs, rfl, q, fin _ (by simp)⟩))
  · obtain ⟨a, rfl, q⟩ := vx.scr R
    exact .inl ⟨a, _, rfl, .inl q, by rw [List.length_map]; exact fin _ rfl⟩
theorem se_len (B : Blt Γ S "len") (ha : SE Γ S a ma) (he : ∀ env, starEach [a] env = (false, eval a env) :: starEach [] env := by intro _; rfl) : SE Γ S (.Call (.Name "len" p) [a] [] pos) (eUn dLen ma) :=
  se_b1 B PySem.boot_len cr_len un_len ha (by decide) (by decide) he
theorem se_abs (B : Blt Γ S "abs") (ha : SE Γ S a ma) (he : ∀ env, starEach [a] env = (false, eval a env) :: starEach [] env := by intro _; rfl) : SE Γ S (.Call (.Name "abs" p) [a] [] pos) (eUn dAbs ma) :=
  se_b1 B PyProof.Rows.boot_abs (fun X g => call_abs) (fun G H w u d x Q R vx hd k => by
    cases u <;> simp only [dAbs] at hd <;> cases hd
    exact ⟨_, by rw [vx.int], k _ G H (.refl G) (.refl _ _) (rp_int _)⟩) ha (by decide) (by decide) he
theorem se_intf (B : Blt Γ S "int") (ha : SE Γ S a ma) (he : ∀ env, starEach [a] env = (false, eval a env) :: starEach [] env := by intro _; rfl) : SE Γ S (.Call (.Name "int" p) [a] [] pos) (eUn dInt ma) :=
  se_t1 B PyProof.Rows.boot_int (fun X g => call_int1) (fun G H w u d x Q R vx hd k => by
    cases u <;> simp only [dInt] at hd <;> cases hd
    · exact .inr ⟨_, by rw [vx.bl], k _ G H (.refl G) (.refl _ _) (rp_int _)⟩
    · exact .inl ⟨_, by rw [vx.int], k _ G H (.refl G) (.refl _ _) (rp_int _)⟩) ha (by decide) (by decide) he
theorem se_tuple (B : Blt Γ S "tuple") (ha : SE Γ S a ma) (he : ∀ env, starEach [a] env = (false, eval a env) :: starEach [] env := by intro _; rfl) : SE Γ S (.Call (.Name "tuple" p) [a] [] pos) (eUn dTupOf ma) :=
  se_t1 (r := fun xs H Q => ∃ p ys, xs = [.ref p] ∧ ((SqL Γ.K H p ys ∧ ∀ l, H l = none → Q (.ref l) (upd H l (.tup ys))) ∨ (SqT Γ.K H p ys ∧ Q (.ref p) H))) B PyProof.Rows.boot_tuple (fun X g => by
    have := call_tuple_of (X := X)
    rw [g.ok.K] at this; exact this) (fun G H w u d x Q R vx hd k => by
    cases u <;> simp only [dTupOf] at hd <;> cases hd
    · obtain ⟨a, vs, rfl, q, r⟩ := vx.tup'
      exact ⟨a, vs, rfl, .inr ⟨sqT_sub R q.1, k _ G H (.refl G) (.refl _ _) (rp_tup q r)⟩⟩
    · obtain ⟨a, vs, rfl, q, r⟩ := vx.lst R
      refine ⟨a, vs, rfl, .inl ⟨.inl (.inl q), fun l hl => ?_⟩⟩
      obtain ⟨l2, kk, r'⟩ := allocT R hl r rfl
      exact k _ _ _ l2 kk r'
    · obtain ⟨a, rfl, q⟩ := vx.scr R
      refine ⟨a, _, rfl, .inl ⟨q, fun l hl => ?_⟩⟩
      obtain ⟨l2, kk, r'⟩ := allocT (o := .tup (_)) R hl (RepDs.of_ints _) rfl
      exact k _ _ _ l2 kk r') ha (by decide) (by decide) he
/-- list(xs), one's own -/
theorem so_listf (B : Blt Γ S "list") (ha : SE Γ S a ma) (he : ∀ env, starEach [a] env = (false, eval a env) :: starEach [] env := by intro _; rfl) : SO Γ S (.Call (.Name "list" p) [a] [] pos) (oUn dLstOf ma) := by
  intro X g Wx tk
  have hc := call_list_of (X := X)
  rw [g.ok.K] at hc
  refine PE.imp (pe_callTy hc (B.gl g) (B.no g) PyProof.Rows.boot_list (pa_cons (ha X g Wx tk) pa_nil (he _)) (by decide) (by decide) (he _) rfl) ?_
  rintro σ H Q ⟨e, w, G, R, h⟩
  refine ⟨e, w, G, R, (Wp.bnd h).mono fun o e1 w1 G1 H1 l1 R1 h1 x rx => ?_⟩
  obtain ⟨u, hu, h1⟩ := wp_look h1
  obtain ⟨p, hp, h1⟩ := Wp.lift h1
  have vx := rx.view R1 hu
  cases u <;> simp only [dLstOf] at hp <;> cases hp
  · obtain ⟨a, vs, rfl, q, r⟩ := vx.tup
    refine ⟨a, vs, rfl, .inr (sqT_sub R1.st q), fun l hl => ?_⟩
    obtain ⟨R2, r2⟩ := own_new R1 hl r
    exact Wp.ret h1 R2 (.refl _) _ r2
  · obtain ⟨a, vs, rfl, q, r⟩ := vx.lst R1.st
    refine ⟨a, vs, rfl, .inl (.inl (.inl q)), fun l hl => ?_⟩
    obtain ⟨R2, r2⟩ := own_new R1 hl r
    exact Wp.ret h1 R2 (.refl _) _ r2
  · obtain ⟨a, rfl, q⟩ := vx.scr R1.st
    refine ⟨a, _, rfl, .inl q, fun l hl => ?_⟩
    obtain ⟨R2, r2⟩ := own_new R1 hl (RepDs.of_ints _)
    exact Wp.ret h1 R2 (.refl _) _ r2
theorem bls_of : ∀ {xs : List D} {bs : List Bool} {vs : List V}, allB xs = some bs → Rps Γ G xs vs → vs = bs.map V.bl
  | [], bs, vs, h, r => by
    simp only [allB, Option.some.injEq] at h; subst h
    unfold Rps RepDs at r; exact r
  | d :: xs, bs, vs, h, r => by
    cases d <;> simp only [allB] at h <;> first | cases h | skip
    obtain ⟨b', h', rfl⟩ := Option.map_eq_some_iff.mp h
    unfold Rps RepDs at r
    obtain ⟨v, r', rfl, r1, r2⟩ := r
    unfold RepD at r1
    rw [r1, bls_of h' r2]; rfl
theorem ints_of : ∀ {xs : List D} {bs : List Int} {vs : List V}, allI xs = some bs → Rps Γ G xs vs → vs = bs.map V.int
  | [], bs, vs, h, r => by
    simp only [allI, Option.some.injEq] at h; subst h
    unfold Rps RepDs at r; exact r
  | d :: xs, bs, vs, h, r => by
    cases d <;> simp only [allI] at h <;> first | cases h | skip
    obtain ⟨b', h', rfl⟩ := Option.map_eq_some_iff.mp h
    unfold Rps RepDs at r
    obtain ⟨v, r', rfl, r1, r2⟩ := r
    unfold RepD at r1
    rw [r1, ints_of h' r2]; rfl
theorem se_all (B : Blt Γ S "all") (ha : SE Γ S a ma) (he : ∀ env, starEach [a] env = (false, eval a env) :: starEach [] env := by intro _; rfl) : SE Γ S (.Call (.Name "all" p) [a] [] pos) (eUn dAll ma) :=
  se_b1 (r := rAll Γ.K) B PyProof.Rows.boot_all (fun X g => by have := cr_all (X := X) g.calm; rw [g.ok.K] at this; exact this) (fun G H w u d x Q R vx hd k => by
    cases u <;> simp only [dAll] at hd <;> first | cases hd | skip
    obtain ⟨bs, h, rfl⟩ := Option.map_eq_some_iff.mp hd
    obtain ⟨a, vs, rfl, q, r⟩ := vx.lst R
    rw [bls_of h r] at q
    exact ⟨a, bs, rfl, .inl (.inl q), k _ G H (.refl G) (.refl _ _) (rp_bl _)⟩) ha (by decide) (by decide) he
theorem se_any (B : Blt Γ S "any") (ha : SE Γ S a ma) (he : ∀ env, starEach [a] env = (false, eval a env) :: starEach [] env := by intro _; rfl) : SE Γ S (.Call (.Name "any" p) [a] [] pos) (eUn dAny ma) :=
  se_b1 (r := rAny Γ.K) B PyProof.Rows.boot_any (fun X g => by have := cr_any (X := X) g.calm; rw [g.ok.K] at this; exact this) (fun G H w u d x Q R vx hd k => by
    cases u <;> simp only [dAny] at hd <;> first | cases hd | skip
    obtain ⟨bs, h, rfl⟩ := Option.map_eq_some_iff.mp hd
    obtain ⟨a, vs, rfl, q, r⟩ := vx.lst R
    rw [bls_of h r] at q
    exact ⟨a, bs, rfl, .inl (.inl q), k _ G H (.refl G) (.refl _ _) (rp_bl _)⟩) ha (by decide) (by decide) he
theorem se_sum (B : Blt Γ S "sum") (ha : SE Γ S a ma) (he : ∀ env, starEach [a] env = (false, eval a env) :: starEach [] env := by intro _; rfl) : SE Γ S (.Call (.Name "sum" p) [a] [] pos) (eUn dSum ma) :=
  se_b1 (r := rSum Γ.K) B PyProof.Rows.boot_sum (fun X g => by have := cr_sum (X := X) g.calm; rw [g.ok.K] at this; exact this) (fun G H w u d x Q R vx hd k => by
    cases u <;> simp only [dSum] at hd <;> first | cases hd | skip
    · obtain ⟨bs, h, rfl⟩ := Option.map_eq_some_iff.mp hd
      obtain ⟨a, vs, rfl, q, r⟩ := vx.lst R
      rw [ints_of h r] at q
      exact ⟨a, bs, rfl, .inl (.inl q), k _ G H (.refl G) (.refl _ _) (rp_int _)⟩
    · obtain ⟨a, rfl, q⟩ := vx.scr R
      exact ⟨a, _, rfl, q, k _ G H (.refl G) (.refl _ _) (rp_int _)⟩) ha (by decide) (by decide) he
theorem se_min (B : Blt Γ S "min") (ha : SE Γ S a ma) (hb : SE Γ S b mb) (he : ∀ env, starEach [a, b] env = (false, eval a env) :: starEach [b] env := by intro _; rfl) (he2 : ∀ env, starEach [b] env = (false, eval b env) :: starEach [] env := by intro _; rfl) (hpl : ∀ env, (backTo pos (starEach [b] env)).any (·.1) = false := by intro _; rfl) :
    SE Γ S (.Call (.Name "min" p) [a, b] [] pos) (eBin dMin ma mb) :=
  se_b2 B PyProof.Rows.boot_min (fun X g => call_min2 g.calm) (fun G H w u v d x y Q R vx vy hd k => by
    unfold dMin at hd
    split at hd <;> cases hd
    exact ⟨_, _, by rw [vx.int, vy.int], k _ G H (.refl G) (.refl _ _) (rp_int _)⟩) ha hb (by decide) (by decide) he he2 hpl
theorem se_max (B : Blt Γ S "max") (ha : SE Γ S a ma) (hb : SE Γ S b mb) (he : ∀ env, starEach [a, b] env = (false, eval a env) :: starEach [b] env := by intro _; rfl) (he2 : ∀ env, starEach [b] env = (false, eval b env) :: starEach [] env := by intro _; rfl) (hpl : ∀ env, (backTo pos (starEach [b] env)).any (·.1) = false := by intro _; rfl) :
    SE Γ S (.Call (.Name "max" p) [a, b] [] pos) (eBin dMax ma mb) :=
  se_b2 B PyProof.Rows.boot_max (fun X g => call_max2 g.calm) (fun G H w u v d x y Q R vx vy hd k => by
    unfold dMax at hd
    split at hd <;> cases hd
    exact ⟨_, _, by rw [vx.int, vy.int], k _ G H (.refl G) (.refl _ _) (rp_int _)⟩) ha hb (by decide) (by decide) he he2 hpl
theorem se_divmod (B : Blt Γ S "divmod") (ha : SE Γ S a ma) (hb : SE Γ S b mb) (he : ∀ env, starEach [a, b] env = (false, eval a env) :: starEach [b] env := by intro _; rfl) (he2 : ∀ env, starEach [b] env = (false, eval b env) :: starEach [] env := by intro _; rfl) (hpl : ∀ env, (backTo pos (starEach [b] env)).any (·.1) = false := by intro _; rfl) :
    SE Γ S (.Call (.Name "divmod" p) [a, b] [] pos) (eBin dDivmod ma mb) :=
  se_b2 B PyProof.Rows.boot_divmod (fun X g => call_divmod) (fun G H w u v d x y Q R vx vy hd k => by
    unfold dDivmod at hd
    split at hd
    · split at hd <;> cases hd
      rename_i hc
      refine ⟨_, _, by rw [vx.int, vy.int], hc, fun p hp => ?_⟩
      obtain ⟨l2, kk, r'⟩ := allocT (o := .tup [.int _, .int _]) R hp (RepDs.cons (rp_int (Γ := Γ) (G := G) _) (RepDs.one (rp_int (Γ := Γ) (G := G) _))) rfl
      exact k _ _ _ l2 kk r'
    · cases hd) ha hb (by decide) (by decide) he he2 hpl
theorem se_gcd (hg : S.names.lookup ("gcd" : Str) = some .globalImplicit) (hm : Γ.mg "gcd" = some (.builtin "math.gcd")) (ha : SE Γ S a ma) (hb : SE Γ S b mb) (he : ∀ env, starEach [a, b] env = (false, eval a env) :: starEach [b] env := by intro _; rfl) (he2 : ∀ env, starEach [b] env = (false, eval b env) :: starEach [] env := by intro _; rfl) (hpl : ∀ env, (backTo pos (starEach [b] env)).any (·.1) = false := by intro _; rfl) :
    SE Γ S (.Call (.Name "gcd" p) [a, b] [] pos) (eBin dGcd ma mb) :=
  se_g2 hg hm (fun X g => cr_gcd) (fun G H w u v d x y Q R vx vy hd k => by
    unfold dGcd at hd
    split at hd
    · split at hd <;> cases hd
      exact ⟨_, _, by rw [vx.int, vy.int], k _ G H (.refl G) (.refl _ _) (by show Rp Γ G _ _; rw [Int.gcd]; exact rp_int _)⟩
    · cases hd) ha hb (by decide) he he2 hpl
/-! ### isinstance -/
def tyN : Ty → Option String
  | .int => some "int"
  | .bool => some "bool"
  | .str => some "str"
  | .tuple => some "tuple"
  | .list => some "list"
  | .dict => some "dict"
  | .circle => none
/-- what isinstance asks of circles -/
structure CirTy (Γ : Cg) : Prop where
  cl : Cls Γ.K Γ.C
  ha : PySem.W.findIn Γ.K (.ref Γ.C) "__class__" = some (some (.builtin "object.__class__"))
  hn : PySem.W.specialIn Γ.K (.builtin "object.__class__") "__get__" = some (some (.builtin "getset_descriptor.__get__"))
  htk : PySem.W.takesIn Γ.K (.builtin "object.__class__") = some true
  hm : PySem.W.mroIn Γ.K Γ.C (.type "object") = some true
  no : ∀ t, t ∈ ["int", "bool", "str", "tuple", "list", "dict"] → PySem.W.kitOne Γ.K (.ref Γ.C) (.type t) = some false
  yes : PySem.W.kitOne Γ.K (.ref Γ.C) (.ref Γ.C) = some true
  not : ∀ t, t ∈ ["NoneType", "int", "bool", "str", "tuple", "list", "dict"] → PySem.W.kitOne Γ.K (.type t) (.ref Γ.C) = some false
/-- a value's type's name; none: a circle -/
def tyOfD : D → Option String
  | .non => some "NoneType"
  | .bl _ => some "bool"
  | .int _ => some "int"
  | .str _ => some "str"
  | .tup _ => some "tuple"
  | .lst _ => some "list"
  | .scr _ => some "list"
  | .dct _ _ => some "dict"
  | .ref _ => some "list"
  | .cir _ _ => none
theorem tyx_of {d : D} {x : V} {t : String} (R : RelW Γ G H w) (h : Vw Γ G H d x) (q : tyOfD d = some t) : TyX Γ.K H x (.type t) := by
  cases d <;> first | (simp [tyOfD] at q; done) | (simp only [tyOfD, Option.some.injEq] at q; subst q)
  · rw [h.non]; exact .base .non
  · rw [h.bl]; exact .base (.bl _)
  · rw [h.int]; exact .base (.int _)
  · rw [h.str]; exact .base (.str _)
  · obtain ⟨a, vs, rfl, q1, r⟩ := h.tup
    rcases sqT_sub R q1 with (h | ⟨o, h⟩) | ⟨o, its, n, e, c, _⟩
    · exact .base (.tup h)
    · exact .fTuple h
    · exact .kTuple e c
  · obtain ⟨a, vs, rfl, q1, r⟩ := h.lst R
    exact .base (.lst q1)
  · obtain ⟨a, vs, rfl, q1, r⟩ := h.dct R
    rcases q1 with ⟨kvs, q1, _⟩ | ⟨kvs, q1, _⟩
    · exact .base (.dK q1)
    · exact .base (.dT q1)
  · obtain ⟨a, rfl, q1⟩ := h.scr R
    rcases q1 with (q1 | ⟨o, q1⟩) | ⟨o, its, n, e, c, _⟩
    · exact .base (.lst q1)
    · exact .base (.frz q1)
    · exact .kList e c
  · obtain ⟨a, rfl, q1⟩ := h.ref
    obtain ⟨_, _, xs, vs, _, h4, _⟩ := R.wel _ a q1
    exact .base (.lst h4)
theorem kitB_all : ∀ t ∈ ["NoneType", "bool", "int", "str", "tuple", "list", "dict"], ∀ u ∈ ["int", "bool", "str", "tuple", "list", "dict"], kitB t u = some (t == u || (t == "bool" && u == "int")) := by decide +kernel
/-- isinstance(x, T), T a built-in class -/
def dIsB (t : Ty) (d : D) : Option D := match d with
  | .cir _ _ => none
  | d => dIs t d
theorem un_isB {t : Ty} {n : String} (ht : tyN t = some n) : UnOk Γ (fun v H Q => rIsi Γ.K [v, .ty n] H Q) (dIsB t) := by
  intro G H w u d x Q R vx hd k
  have key : ∀ s, tyOfD u = some s → dIs t u = some (.bl (s == n || (s == "bool" && n == "int"))) ∧ s ∈ ["NoneType", "bool", "int", "str", "tuple", "list", "dict"] := by
    intro s hs
    have mt : (t = .int ∧ n = "int") ∨ (t = .bool ∧ n = "bool") ∨ (t = .str ∧ n = "str") ∨ (t = .tuple ∧ n = "tuple") ∨ (t = .list ∧ n = "list") ∨ (t = .dict ∧ n = "dict") := by
      cases t <;> simp [tyN] at ht <;> simp [ht]
    cases u <;> first | (simp [tyOfD] at hs; done) | (simp only [tyOfD, Option.some.injEq] at hs; subst hs)
    all_goals (rcases mt with ⟨rfl, rfl⟩ | ⟨rfl, rfl⟩ | ⟨rfl, rfl⟩ | ⟨rfl, rfl⟩ | ⟨rfl, rfl⟩ | ⟨rfl, rfl⟩ <;> exact ⟨by simp [dIs], by decide⟩)
  have mem : n ∈ ["int", "bool", "str", "tuple", "list", "dict"] := by
    cases t <;> simp [tyN] at ht <;> subst ht <;> decide
  cases hs : tyOfD u with
  | none =>
    cases u <;> first | (simp [tyOfD] at hs; done) | skip
    cases hd
  | some s =>
    obtain ⟨k1, k2⟩ := key s hs
    have hd : dIs t u = some d := by
      cases u <;> first | exact hd | cases hd
    rw [k1] at hd; cases hd
    exact ⟨x, .ty n, .type s, .type n, _, rfl, .ty n, tyx_of R vx hs, kit_ty (kitB_all s k2 n mem), k _ G H (.refl G) (.refl _ _) (rp_bl _)⟩
theorem se_isB {t : Ty} {n : String} {y : Str} {p2 : Pos} (B : Blt Γ S "isinstance") (By : Blt Γ S y) (ht : tyN t = some n) (hv : bootBuiltins y = some (.type n)) (ha : SE Γ S a ma) (hny : y ≠ "__name__") (hdy : (y == ("__debug__" : Str)) = false) (he : ∀ env, starEach [a, .Name y p2] env = (false, eval a env) :: starEach [.Name y p2] env := by intro _; rfl) :
    SE Γ S (.Call (.Name "isinstance" p) [a, .Name y p2] [] pos) (eUn (dIsB t) ma) := by
  intro X g Wx tk
  have hc := call_isi (X := X)
  rw [g.ok.K] at hc
  refine PE.imp (pe_callB hc (B.gl g) (B.no g) PyProof.Rows.boot_isinstance (pa_cons (ha X g Wx tk) (pa_cons (pe_bltn (v := .ty n) (By.gl g) (By.no g) hv rfl hny hdy) pa_nil rfl) (he _)) (by decide) (by decide) (he _) rfl) ?_
  intro σ H Q h
  exact tE_un (r := fun v H Q => rIsi Γ.K [v, .ty n] H Q) (un_isB ht) h
end
end Mnd
/-! Defs: what they promise, how they are called, how a body shows a promise. -/
namespace Mnd
open PySem L2
/-- what a def's run gives reaches Q; its exceptions E -/
def FWp (Γ : Cg) (G : Gh) (r : FR Sl) (Q : VK) (E : XK) : Prop :=
  match r with
  | .bad => False
  | .ok s w' => ∀ G' H' v, G.le G' → RelW Γ G' H' w' → RepR Γ G' H' s v → Q v H'
  | .ex x w' => ∀ G' H' cls d, G.le G' → RelW Γ G' H' w' → RepX Γ G' x cls d → E cls d H'
/-- the def at fa does as f tells -/
structure FnS (Γ : Cg) (k : Nat) (fa : Addr) (fd : FuncData) (ps : List Str) (f : Fn) : Prop where
  len : ∀ sls w, sls.length ≠ ps.length → f sls w = .bad
  run : ∀ (A : Around) (outer : List PySem.Env) (s : Shared) (H : Hp) (args : Args) (us : List Value) (vs : List V) (sls : List Sl) (w : W) (G : Gh) (Q : VK) (E : XK), Room k A → Env0 Γ.P Γ.w Γ.K Γ.mg Γ.base A outer s H → BindsTo s fd args (ps.zip us) → Vals vs us → vs.length = ps.length →
    RelW Γ G H w → RepAs Γ s.heap H G sls vs → FWp Γ G (f sls w) Q E → codeAny (model Γ.P Γ.w) A (.call (.ref fa) args) (CR (L2.CX Γ.P Γ.w) outer Γ.P Γ.w H s Q E) s
theorem FnS.mono {Γ : Cg} {j k : Nat} {fa : Addr} {fd : FuncData} {ps : List Str} {f : Fn} (F : FnS Γ j fa fd ps f) (h : j ≤ k) : FnS Γ k fa fd ps f :=
  ⟨F.len, fun A outer s H args us vs sls w G Q E hr => F.run A outer s H args us vs sls w G Q E (hr.mono h)⟩
section
variable {Γ : Cg} {S : Sc} {G G' : Gh} {H H' : Hp} {σ : L2.St} {e : Env} {w : W} {Wx : WX} {a b : Expr} {ma mb : M Opd} {pos : Pos}
theorem RepAs.length {h0 : Heap} {H0 : Hp} : ∀ {sls : List Sl} {vs : List V}, RepAs Γ h0 H0 G sls vs → vs.length = sls.length
  | [], _, h => by unfold RepAs at h; subst h; rfl
  | d :: ds, _, h => by
    unfold RepAs at h
    obtain ⟨v, r, rfl, _, h⟩ := h
    simp [RepAs.length h]
theorem RepAs.get {h0 : Heap} {H0 : Hp} : ∀ {sls : List Sl} {vs : List V} {i : Nat} {s : Sl} {v : V}, RepAs Γ h0 H0 G sls vs → sls[i]? = some s → vs[i]? = some v → RepA Γ h0 H0 G s v
  | [], _, i, s, v, h, e, _ => by simp at e
  | d :: ds, _, 0, s, v, h, e, e' => by
    unfold RepAs at h
    obtain ⟨v', r, rfl, h1, _⟩ := h
    simp at e e'
    subst e e'
    exact h1
  | d :: ds, _, i + 1, s, v, h, e, e' => by
    unfold RepAs at h
    obtain ⟨v', r, rfl, _, h⟩ := h
    exact RepAs.get (i := i) h (by simpa using e) (by simpa using e')
theorem RepAs.lt {h0 : Heap} {H0 : Hp} (l : G.lt G') : ∀ {sls : List Sl} {vs : List V}, RepAs Γ h0 H0 G sls vs → RepAs Γ h0 H0 G' sls vs
  | [], _, h => h
  | d :: ds, _, h => by
    unfold RepAs at h ⊢
    obtain ⟨v, r, e1, h1, h2⟩ := h
    refine ⟨v, r, e1, ?_, RepAs.lt l h2⟩
    cases d with
    | no => exact h1
    | own d => exact h1
    | val d => exact Rp.le l h1
    | fn k g => obtain ⟨f, e2, c⟩ := h1; exact ⟨f, e2, c.lt l⟩
/-! ### a body -/
theorem start_get (N : List Str) (vs : List V) (i : Nat) : (L2.start N vs)[i]? = if i < vs.length then (vs[i]?).map some else if i < vs.length + (N.length - vs.length) then some none else none := by
  unfold L2.start
  by_cases h : i < vs.length
  · rw [if_pos h, List.getElem?_append_left (by simpa using h), List.getElem?_map]
  · rw [if_neg h, List.getElem?_append_right (by simpa using h), List.getElem?_replicate]
    simp only [List.length_map]
    by_cases h2 : i < vs.length + (N.length - vs.length)
    · rw [if_pos h2, if_pos (by omega)]
    · rw [if_neg h2, if_neg (by omega)]
/-- a frame that begins -/
theorem rel_start {S : Sc} {sls : List Sl} {vs : List V} (R : RelW Γ G H w) (hn : vs.length ≤ S.N.length) (r : RepAs Γ S.h0 S.H0 G sls vs) : Rel Γ S G H (L2.start S.N vs) (sls ++ List.replicate (S.N.length - vs.length) .no) w := by
  have hl := r.length
  refine ⟨R, by unfold L2.start; simp [hl], fun i s x q1 q2 => ?_, fun i j a di dj hij q1 q2 q3 q4 => ?_⟩
  · rw [start_get] at q2
    by_cases h : i < vs.length
    · rw [if_pos h] at q2
      rw [List.getElem?_append_left (by omega)] at q1
      cases hv : vs[i]? with
      | none => rw [hv] at q2; cases q2
      | some v =>
        rw [hv] at q2; cases q2
        have ra := r.get q1 hv
        cases s with
        | no => exact ra.elim
        | own d => exact ra.elim
        | val d => exact ⟨v, rfl, ra⟩
        | fn k g => obtain ⟨f, rfl, c⟩ := ra; exact ⟨f, rfl, c⟩
    · rw [List.getElem?_append_right (by omega), List.getElem?_replicate] at q1
      split at q1
      · cases q1; trivial
      · cases q1
  · by_cases h : i < sls.length
    · rw [List.getElem?_append_left h] at q1
      have hv : i < vs.length := by omega
      have ra := r.get q1 (List.getElem?_eq_getElem hv)
      exact ra.elim
    · rw [List.getElem?_append_right (by omega), List.getElem?_replicate] at q1
      split at q1 <;> cases q1
theorem fnS_of {x qual : Str} {params : Arguments} {body : List Stmt} {sc : Scope} {dvs : List V} {kws : List (Str × V)} {fa : Addr} {fd : FuncData} {N ps : List Str} {k : Nat} {m : M Flow} (F : FunD Γ.K x qual params body sc dvs kws fa fd) (FS : FnScope N ps sc)
    (hb : ∀ h0 H0, SB Γ ⟨N, sc.names, k, true, fun _ => true, h0, H0, qual ++ ".<locals>.", fd.code⟩ body m) : FnS Γ (k + 1) fa fd ps (mkFn N.length ps.length m) := by
  obtain ⟨oc, od, dV, kV, doc, pm, an, cdv, ct, osl, rfl, lk, hcd, _, _⟩ := F.ex
  refine ⟨fun sls w hn => by unfold mkFn; rw [if_neg hn], fun A outer s H args us vs sls w G Q E hr e0 hbd r hl RW ra h => ?_⟩
  have hpl : ps.length ≤ N.length := by have := congrArg List.length FS.pre; rw [List.length_take] at this; omega
  refine LamX.run_ofS (N := N) (ps := ps) lk hcd FS hr e0 hbd r hl fun hr' => ?_
  let S : Sc := ⟨N, sc.names, k, true, fun _ => true, s.heap, H, qual ++ ".<locals>.", cdv⟩
  have g : Good Γ S (cxOf (L2.CX Γ.P Γ.w) Γ.P Γ.w Γ.K Γ.mg Γ.base N qual sc fa cdv A outer s H E) :=
    { ok := ⟨rfl, rfl, rfl, rfl, rfl⟩, N := rfl, nd := FS.nd, names := rfl, calm := rfl, room := hr', kind := FS.kind, qc := fun _ => ⟨rfl, rfl⟩, fn := fun _ _ => rfl,
      lat := fun _ pins σ' H' s' I => ⟨I.sz, _, [], I.base, fun b z => nomatch z⟩, pass := fun _ => passes_of rfl }
  have tk : Takes (cxOf (L2.CX Γ.P Γ.w) Γ.P Γ.w Γ.K Γ.mg Γ.base N qual sc fa cdv A outer s H E) (fun cls d _ H => E cls d H) := takes_of rfl rfl rfl rfl
  refine ⟨tS Γ S (fun cls d _ H => E cls d H) m, hb s.heap H _ g _ tk, ?_⟩
  have hsl := ra.length
  refine ⟨sls ++ List.replicate (N.length - vs.length) .no, w, G, rel_start (S := S) RW (by show vs.length ≤ N.length; omega) ra, ?_⟩
  unfold mkFn at h
  rw [if_pos (by omega)] at h
  rw [hl]
  unfold WpT
  cases q : m (sls ++ List.replicate (N.length - ps.length) .no) w with
  | bad => rw [q] at h; exact h
  | ex x e' w' => rw [q] at h; exact fun G' H' σ' c d l R => h G' H' c d l R.st
  | ok f e' w' =>
    rw [q] at h
    intro G' H' σ' l R
    cases f with
    | next => exact h G' H' .non l R.st (rp_non (Γ := Γ) (G := G'))
    | brk => exact h.elim
    | cnt => exact h.elim
    | ret s => exact fun v rv => h G' H' v l R.st rv
/-! ### a call -/
open Classical in
/-- what the caller owns is kept by the callee as others' -/
noncomputable def ownZ (H : Hp) (σ : L2.St) (e : Env) (Z : Hp) : Hp := fun a => if ∃ (i : Nat) (d : D), e[i]? = some (.own d) ∧ σ[i]? = some (some (.ref a)) then H a else Z a
theorem ownZ_no {Z : Hp} {a : Addr} (h : ∀ (i : Nat) (d : D), e[i]? = some (.own d) → σ[i]? = some (some (.ref a)) → False) : ownZ H σ e Z a = Z a := by
  unfold ownZ
  rw [if_neg]
  rintro ⟨i, d, q1, q2⟩
  exact h i d q1 q2
theorem ownZ_yes {Z : Hp} {a : Addr} {i : Nat} {d : D} (q1 : e[i]? = some (.own d)) (q2 : σ[i]? = some (some (.ref a))) : ownZ H σ e Z a = H a := by
  unfold ownZ
  rw [if_pos ⟨i, d, q1, q2⟩]
theorem Rel.slotOwn (R : Rel Γ S G H σ e w) {i : Nat} {d : D} {a : Addr} (q1 : e[i]? = some (.own d)) (q2 : σ[i]? = some (some (.ref a))) : OwnOk Γ G H a d := by
  obtain ⟨b, e1, r⟩ := R.slot i _ _ q1 q2
  cases e1; exact r
theorem Rel.toCall (R : Rel Γ S G H σ e w) : RelW Γ { G with Z := ownZ H σ e G.Z } H w := by
  refine ⟨R.st.sub, fun a u q => ?_, fun a u q => ?_, R.st.mul, R.st.mun, fun l a q => ?_, R.st.tab.setZ fun a v q => by
    by_cases h : ∃ (i : Nat) (d : D), e[i]? = some (.own d) ∧ σ[i]? = some (some (.ref a))
    · obtain ⟨i, d, q1, q2⟩ := h
      rw [ownZ_yes q1 q2] at q; exact .inr ((R.slotOwn q1 q2).seq q)
    · rw [ownZ_no fun i d q1 q2 => h ⟨i, d, q1, q2⟩] at q; exact .inl q⟩
  · have q : ownZ H σ e G.Z a = some u := q
    by_cases h : ∃ (i : Nat) (d : D), e[i]? = some (.own d) ∧ σ[i]? = some (some (.ref a))
    · obtain ⟨i, d, q1, q2⟩ := h
      rw [ownZ_yes q1 q2] at q; exact q
    · rw [ownZ_no fun i d q1 q2 => h ⟨i, d, q1, q2⟩] at q; exact R.st.out _ _ q
  · have q : ownZ H σ e G.Z a = some u := q
    by_cases h : ∃ (i : Nat) (d : D), e[i]? = some (.own d) ∧ σ[i]? = some (some (.ref a))
    · obtain ⟨i, d, q1, q2⟩ := h
      exact (R.slotOwn q1 q2).1
    · rw [ownZ_no fun i d q1 q2 => h ⟨i, d, q1, q2⟩] at q; exact R.st.dis _ _ q
  · obtain ⟨h1, h2, r⟩ := R.st.wel l a q
    refine ⟨h1, ?_, r⟩
    show ownZ H σ e G.Z a = none
    rw [ownZ_no fun i d q1 q2 => (R.slotOwn q1 q2).2.2.1 (List.mem_of_getElem? q)]
    exact h2
theorem Rel.ofCall {w' : W} (R : Rel Γ S G H σ e w) (l : ({ G with Z := ownZ H σ e G.Z } : Gh).le G') (R' : RelW Γ G' H' w') : Rel Γ S { G' with Z := G.Z } H' σ e w' ∧ G.le { G' with Z := G.Z } := by
  have hZ : ∀ a u, G.Z a = some u → G'.Z a = some u := fun a u q => by
    rw [l.Z]
    show ownZ H σ e G.Z a = _
    rw [ownZ_no fun i d q1 q2 => by rw [(R.slotOwn q1 q2).2.1] at q; cases q]
    exact q
  refine ⟨⟨⟨R'.sub, fun a u q => R'.out _ _ (hZ a u q), fun a u q => R'.dis _ _ (hZ a u q), R'.mul, R'.mun, fun k a q => ?_, R'.tab.setZ fun a v q => .inl (hZ a v q)⟩, R.len, fun i s x q1 q2 => ?_, R.apart⟩, ⟨l.F, rfl, l.mu⟩⟩
  · obtain ⟨h1, h2, r⟩ := R'.wel k a q
    refine ⟨h1, ?_, r⟩
    show G.Z a = none
    cases z : G.Z a with
    | none => rfl
    | some u => rw [hZ a u z] at h2; cases h2
  · have h := R.slot i s x q1 q2
    have lt : G.lt { G' with Z := G.Z } := ⟨l.F, l.mu⟩
    cases s with
    | no => trivial
    | val d => obtain ⟨v, e1, r⟩ := h; exact ⟨v, e1, Rp.le lt r⟩
    | fn k g => obtain ⟨f, e1, c⟩ := h; exact ⟨f, e1, c.lt lt⟩
    | own d =>
      obtain ⟨a, e1, ro⟩ := h
      subst e1
      obtain ⟨u, hu⟩ := ro.lt_of
      obtain ⟨f1, f2, f3, f4⟩ := ro
      have hz : G'.Z a = some u := by
        rw [l.Z]
        show ownZ H σ e G.Z a = _
        rw [ownZ_yes q1 q2]; exact hu
      refine ⟨a, rfl, R'.dis _ _ hz, f2, fun hm => ?_, f4.keep l.F l.mu ?_⟩
      · obtain ⟨k, hk⟩ := List.getElem?_of_mem hm
        have := (R'.wel k a hk).2.1
        rw [hz] at this; cases this
      · rw [R'.out _ _ hz, hu]
theorem RepR.ofCall {s : Sl} {v : V} {w' : W} (R : Rel Γ S G H σ e w) (l : ({ G with Z := ownZ H σ e G.Z } : Gh).le G') (R' : RelW Γ G' H' w') (r : RepR Γ G' H' s v) : RepRS Γ { G' with Z := G.Z } H' σ e s v := by
  cases s with
  | no => exact ⟨r, fun a q => nomatch q⟩
  | val d => exact ⟨r, fun a q => nomatch q⟩
  | fn k g => exact ⟨r, fun a q => nomatch q⟩
  | own d =>
    obtain ⟨a, rfl, r1, r2, r3, r4⟩ := r
    have hn : ∀ (i : Nat) (d : D), e[i]? = some (.own d) → σ[i]? = some (some (.ref a)) → False := fun i d q1 q2 => by
      obtain ⟨u, hu⟩ := (R.slotOwn q1 q2).lt_of
      rw [l.Z] at r2
      have r2 : ownZ H σ e G.Z a = none := r2
      rw [ownZ_yes q1 q2, hu] at r2; cases r2
    refine ⟨⟨a, rfl, r1, ?_, r3, r4⟩, fun d' _ => hn⟩
    have e1 : ownZ H σ e G.Z a = none := by rw [← r2, l.Z]
    rw [ownZ_no hn] at e1
    exact e1
end
end Mnd
/-! Calls of defs. -/
namespace Mnd
open PySem L2
section
variable {Γ : Cg} {S : Sc} {G G' : Gh} {H H' : Hp} {σ : L2.St} {e : Env} {w : W} {Wx : WX} {a b : Expr} {ma mb : M Opd} {mo : M Sl} {pos p : Pos} {x : Str} {es : List Expr} {f : Fn} {j : Nat} {fa : Addr} {fd : FuncData} {ps ks : List Str}
def callR (r : FR Sl) (e : Env) : MR Sl := match r with
  | .ok s w' => .ok s e w'
  | .ex x w' => .ex x e w'
  | .bad => .bad
theorem call_eq (f : Fn) (a : M (List Sl)) : call f a = bnd a fun as => fun e w => callR (f as w) e := rfl
/-- a call's run -/
theorem run_call {X : Cx} (g : Good Γ S X) (tk : Takes X Wx) (F : FnS Γ j fa fd ps f) (hj : j ≤ S.k) {pins : List (Addr × Obj)} {s : Shared} {Q : VK} {args : List Value} {kw : List (Str × Value)} {us : List Value} {vs : List V} {sls : List Sl}
    (I : Inv X pins σ H s) (R : Rel Γ S G H σ e w) (hb : us.length = ps.length → BindsTo s fd ⟨args, kw⟩ (ps.zip us)) (rv : Vals vs us) (ra : RepAs Γ s.heap H G sls vs)
    (h : WpR Γ S Wx σ (callR (f sls w) e) G fun r e' w' G' H' => ∀ v, RepRS Γ G' H' σ e' r v → Q v H') : wpAny (model X.prog X.w) X.A (PySem.call (.ref fa) args kw) (EP X pins σ Q) X.xe s := by
  have hl : sls.length = ps.length := by
    by_cases hl : sls.length = ps.length
    · exact hl
    · rw [F.len sls w hl] at h; exact h.elim
  have lv : vs.length = ps.length := ra.length.trans hl
  have lu : us.length = ps.length := by rw [← rv.length]; exact lv
  have e0 : Env0 Γ.P Γ.w Γ.K Γ.mg Γ.base X.A X.stack s H := by
    have := I.env0
    rw [g.ok.prog, g.ok.w, g.ok.K, g.ok.mg, g.ok.base] at this
    exact this
  have px := passAt tk σ
  rw [g.ok.prog, g.ok.w] at px ⊢
  refine wpAny_call (codeAny_mono (F.run X.A X.stack s H ⟨args, kw⟩ us vs sls w { G with Z := ownZ H σ e G.Z } Q (WE Wx σ) (g.room.mono hj) e0 (hb lu) rv lv R.toCall (RepAs.lt (G := G) (G' := { G with Z := ownZ H σ e G.Z }) ⟨.refl _, List.prefix_refl _⟩ ra) ?_) fun r s' hq => ?_)
  · unfold FWp
    cases q : f sls w with
    | bad => rw [q] at h; exact h.elim
    | ok sl w' =>
      rw [q] at h
      intro G' H' v l RW rr
      obtain ⟨R', l'⟩ := R.ofCall l RW
      exact h _ _ l' R' v (RepR.ofCall R l RW rr)
    | ex x w' =>
      rw [q] at h
      intro G' H' cls d l RW rx
      obtain ⟨R', l'⟩ := R.ofCall l RW
      refine h _ _ cls d l' R' ?_
      cases x with
      | mk c arg => cases arg <;> exact rx
  · have ca : ∀ {u : Value}, CE X.stack Γ.P Γ.w H s Q u s' → EP X pins σ Q u s' := fun {u} h => by
      refine I.after ?_
      rw [g.ok.prog, g.ok.w]; exact h
    cases r with
    | error er => exact px pins H s er s' I hq
    | ok fl =>
      cases fl with
      | ret u => exact ca hq
      | next => exact False.elim hq
      | brk => exact False.elim hq
      | cont => exact False.elim hq
theorem reps_val : ∀ {ds : List D} {vs : List V} {h0 : Heap} {H0 : Hp}, Rps Γ G ds vs → RepAs Γ h0 H0 G (ds.map .val) vs
  | [], _, _, _, h => by unfold Rps RepDs at h; exact h
  | d :: ds, _, _, _, h => by
    unfold Rps RepDs at h
    obtain ⟨v, r, rfl, h1, h2⟩ := h
    exact ⟨v, r, rfl, h1, reps_val h2⟩
/-- which def a name is -/
structure Callee (Γ : Cg) (S : Sc) (x : Str) (f : Fn) (fa : Addr) (fd : FuncData) (ps : List Str) : Prop where
  nm : S.names.lookup x = some .globalImplicit
  mg : Γ.mg x = some (.ref fa)
  kp : PySem.W.keepIn Γ.K (.ref fa) = true
  lk : ∃ oc od osl, Γ.K.lookup fa = some ⟨oc, od, .func fd, osl⟩
  ex : ∃ j, j ≤ S.k ∧ FnS Γ j fa fd ps f
theorem Callee.gl {X : Cx} (C : Callee Γ S x f fa fd ps) (g : Good Γ S X) : Gl X x := by
  show X.env.scope.names.lookup x = _
  rw [g.names]; exact C.nm
/-- f(e, ..): the arguments are values; pm puts them in the parameters' order -/
def callV (f : Fn) (pm : List D → List D) (a : M (List D)) : M Sl := bnd a fun ds => fun e w => callR (f ((pm ds).map .val) w) e
theorem so_call {ms : M (List D)} (C : Callee Γ S x f fa fd ps) (hb : L2.Binds Γ.K fd ps []) (ha : SA Γ S (a :: es) ms) (hdb : (x == ("__debug__" : Str)) = false := by decide)
    (he : ∀ env, starEach (a :: es) env = (false, eval a env) :: starEach es env := by intro _; rfl) (hpl : ∀ env, (backTo pos (starEach es env)).any (·.1) = false := by intro _; rfl) : SO Γ S (.Call (.Name x p) (a :: es) [] pos) (callV f id ms) := by
  intro X g Wx tk
  obtain ⟨j, hj, F⟩ := C.ex
  refine ⟨fun pins s σ H Q I h => ?_⟩
  obtain ⟨e, w, G, R, h⟩ := h
  refine wpAny_Call_Name_kw (ld_glob I (C.gl g) (by rw [g.ok.mg]; exact C.mg) ?_ hdb)
  refine PySem.W.callWith_K (K := X.K) (h₀ := X.base) I.ok.mod.kin (by rw [g.ok.K]; exact C.kp) (thn ((ha X g Wx tk).run pos pins s σ H (fun vs H1 => ∃ ds e1 w1 G1, Rel Γ S G1 H1 σ e1 w1 ∧ Rps Γ G1 ds vs ∧ WpR Γ S Wx σ (callR (f ((id ds).map .val) w1) e1) G1 fun r e' w' G' H' => ∀ v, RepRS Γ G' H' σ e' r v → Q v H') I
    ⟨e, w, G, R, (Wp.bnd h).mono fun ds e1 w1 G1 H1 l1 R1 h1 vs rv => ⟨ds, e1, w1, G1, R1, rv, h1⟩⟩) fun us s1 ⟨vs, H1, I1, r, ds, e1, w1, G1, R1, rd, h1⟩ => ⟨I1.kIn, ?_⟩) (he _) (hpl _)
  refine run_call g tk F hj I1 R1 (fun hl => ?_) r (reps_val rd) h1
  have := hb s1 us (by have := I1.kIn; rw [g.ok.K] at this; exact this) (by rw [List.append_nil]; exact hl)
  rw [List.append_nil] at this; exact this
/-- f() -/
theorem so_call0 (C : Callee Γ S x f fa fd []) (hb : L2.Binds Γ.K fd [] []) (hdb : (x == ("__debug__" : Str)) = false := by decide) : SO Γ S (.Call (.Name x p) [] [] pos) (callV f id aNil) := by
  intro X g Wx tk
  obtain ⟨j, hj, F⟩ := C.ex
  refine ⟨fun pins s σ H Q I h => ?_⟩
  obtain ⟨e, w, G, R, h⟩ := h
  refine wpAny_Call_Name_kw (ld_glob I (C.gl g) (by rw [g.ok.mg]; exact C.mg) ?_ hdb)
  have h1 := Wp.ret (Wp.bnd h) R (.refl _)
  exact PySem.W.callWith_K0 (K := X.K) (first := []) I.kIn (by rw [g.ok.K]; exact C.kp) (run_call (us := []) (vs := []) (sls := []) (args := []) g tk F hj I R (fun hl => hb s [] (by have := I.kIn; rw [g.ok.K] at this; exact this) rfl) .nil rfl h1)
end
end Mnd
/-! Functions as values: defs and lambdas handed on, called from a slot. -/
namespace Mnd
open PySem L2
/-- arguments, told of the state too -/
abbrev TB := L2.St → Hp → (List V → Hp → Heap → Prop) → Prop
structure PB (X : Cx) (es : List Expr) (t : TB) : Prop where
  run : ∀ (pos : Pos) (pins : List (Addr × Obj)) (s : Shared) (σ : L2.St) (H : Hp) (Q : List V → Hp → Heap → Prop), Inv X pins σ H s → t σ H Q →
    wpAny (model X.prog X.w) X.A (spliced (backTo pos (starEach es X.env))) (fun us s1 => ∃ vs H1, Inv X pins σ H1 s1 ∧ Vals vs us ∧ Q vs H1 s1.heap) X.xe s
def tB (Γ : Cg) (S : Sc) (Wx : WX) (m : M (List Sl)) : TB := fun σ H Q => ∃ e w G, Rel Γ S G H σ e w ∧ Wp Γ S Wx σ m e w G fun ds e' w' G' H' => ∀ vs h', RepAs Γ h' H' G' ds vs → Q vs H' h'
def SK' (Γ : Cg) (S : Sc) (es : List Expr) (m : M (List Sl)) : Prop := ∀ X, Good Γ S X → ∀ Wx, Takes X Wx → PB X es (tB Γ S Wx m)
section
variable {Γ : Cg} {S : Sc} {G G' : Gh} {H H' : Hp} {σ : L2.St} {e : Env} {w : W} {Wx : WX} {a b : Expr} {ma mb : M Opd} {mo : M Sl} {mk : M (List Sl)} {pos p : Pos} {x : Str} {es : List Expr} {f : Fn} {j : Nat} {fa : Addr} {fd : FuncData} {ps ks : List Str}
theorem Later.refl (h : Heap) (H : Hp) : Later h H h H := ⟨Nat.le_refl _, [], [], Un.refl, fun b z => nomatch z⟩
theorem Later.trans {h h1 h2 : Heap} {H H1 H2 : Hp} (a : Later h H h1 H1) (b : Later h1 H1 h2 H2) : Later h H h2 H2 := by
  obtain ⟨sz, f1, x1, u1, c1⟩ := a
  obtain ⟨sz2, f2, x2, u2, c2⟩ := b
  have m1 := u1.mono (fs' := f1 ++ f2) (ex' := x1 ++ x2) (fun b hb => List.mem_append_left _ hb) (fun b hb => List.mem_append_left _ hb)
  have m2 := u2.mono (fs' := f1 ++ f2) (ex' := x1 ++ x2) (fun b hb => List.mem_append_right _ hb) (fun b hb => List.mem_append_right _ hb)
  refine ⟨Nat.le_trans sz sz2, _, _, m1.trans m2, fun b hb => ?_⟩
  rcases List.mem_append.mp hb with z | z
  · exact c1 b z
  · exact Nat.le_trans sz (c2 b z)
theorem CloOk.move {k : Nat} {h h1 : Heap} {H H1 : Hp} {G0 : Gh} {fa : Addr} {g : Clo} (c : CloOk Γ k h H G0 fa g) (la : Later h H h1 H1) : CloOk Γ k h1 H1 G0 fa g :=
  ⟨fun X pins σ s H2 ok I l2 => c.1 X pins σ s H2 ok I (la.trans l2), fun X pins σ s H2 ok hr I l2 => c.2 X pins σ s H2 ok hr I (la.trans l2)⟩
/-- an own result becomes a value -/
theorem rp_of_own {F F' : Hp} {mu : List Addr} {a : Addr} {d : D} {u : HO} (h : RepOwn Γ F mu H a d) (hu : H a = some u) (s : Sub F F') (ha : F' a = some u) : RepD Γ F' mu d (.ref a) := by
  cases d <;> simp only [RepOwn] at h
  · obtain ⟨vs, q, r⟩ := h
    rw [hu] at q; cases q
    exact rp_lst (Γ := Γ) (G := ⟨F', F', mu⟩) ha (r.mono s (List.prefix_refl _))
  · obtain ⟨vs, q, r⟩ := h
    unfold RepD
    exact ⟨a, vs, rfl, by rw [ha, ← hu]; exact q, r.mono s (List.prefix_refl _)⟩
theorem Rel.ownV (R : Rel Γ S G H σ e w) {d : D} {v : V} (r : RepRS Γ G H σ e (.own d) v) : ∃ G', G.le G' ∧ Rel Γ S G' H σ e w ∧ Rp Γ G' d v := by
  obtain ⟨⟨a, rfl, f1, f2, f3, r4⟩, ns⟩ := r
  obtain ⟨u, hu⟩ : ∃ u, H a = some u := OwnOk.lt_of (G := G) ⟨f1, f2, f3, r4⟩
  obtain ⟨R', l⟩ := R.adopt hu f1 f2 f3 (ns d rfl) (seq_noTbl (OwnOk.seq (G := G) ⟨f1, f2, f3, r4⟩ hu))
  exact ⟨_, l, R', rp_of_own r4 hu l.F (by show upd G.F a u a = _; exact upd_same)⟩
def eOf (m : M Sl) : M Opd := bnd m fun s => lift (slV s)
theorem se_of (h : SO Γ S a mo) : SE Γ S a (eOf mo) := fun X g Wx tk => PE.imp (h X g Wx tk) fun σ H Q ⟨e, w, G, R, h⟩ =>
  ⟨e, w, G, R, (Wp.bnd h).mono fun r e1 w1 G1 H1 l1 R1 h1 v rv => by
    obtain ⟨o, ho, h2⟩ := Wp.lift h1
    cases r with
    | no => cases ho
    | fn k g => cases ho
    | val d => cases ho; exact Wp.ret h2 R1 (.refl _) v rv.1
    | own d =>
      cases ho
      obtain ⟨G2, l2, R2, r2⟩ := R1.ownV rv
      exact Wp.ret h2 R2 l2 v r2⟩
/-! ### arguments -/
theorem sk_nil : SK' Γ S [] kNil := fun X g Wx tk => ⟨fun pos pins s σ H Q I ⟨e, w, G, R, h⟩ => Calls.spliced_nil ⟨[], H, I, .nil, Wp.ret h R (.refl _) _ _ (by unfold RepAs; rfl)⟩⟩
theorem sk_val (ha : SE Γ S a ma) (hr : SK' Γ S es mk) (hs : ∀ env, starEach (a :: es) env = (false, eval a env) :: starEach es env := by intro _; rfl) : SK' Γ S (a :: es) (kVal ma mk) := fun X g Wx tk => by
  refine ⟨fun pos pins s σ H Q I h => ?_⟩
  obtain ⟨e, w, G, R, h⟩ := h
  rw [hs]
  show wpAny _ _ (spliced ((false, eval a X.env) :: backTo pos (starEach es X.env))) _ _ s
  refine Calls.spliced_cons (thn ((ha X g Wx tk).run pins s σ H (fun x H1 => tB Γ S Wx mk σ H1 fun vs H2 h2 => Q (x :: vs) H2 h2) I ⟨e, w, G, R, (Wp.bnd h).mono fun o e1 w1 G1 H1 l1 R1 h1 x rx => ?_⟩) fun u s1 ⟨x, H1, I1, r1, q1⟩ => ?_)
  · obtain ⟨d, e2, G2, l2, R2, rd, h2⟩ := wp_frz h1 R1 rx
    exact ⟨e2, w1, G2, R2, (Wp.bnd h2).mono fun ds e3 w3 G3 H3 l3 R3 h3 vs h' rs => Wp.ret h3 R3 (.refl _) _ _ ⟨x, vs, rfl, Rp.le l3.lt rd, rs⟩⟩
  · exact thn ((hr X g Wx tk).run pos pins s1 σ H1 _ I1 q1) fun us s2 ⟨xs, H2, I2, r2, q2⟩ => ⟨x :: xs, H2, I2, .cons r1 r2, q2⟩
theorem kFn_eq (i : Nat) (r : M (List Sl)) (e : Env) (w : W) : kFn i r e w = match e[i]? with
  | some (.fn k g) => bnd r (fun ds => ret (.fn k g :: ds)) e w
  | _ => .bad := rfl
/-- a function from a slot -/
theorem sk_fn {i : Nat} (hfr : S.fr = true) (hN : S.N[i]? = some x) (hv : visB S.names x = true) (hr : SK' Γ S es mk) (hd : (x == ("__debug__" : Str)) = false := by decide +kernel) (hcd : (x == ("__classdict__" : Str)) = false := by decide +kernel) : SK' Γ S (.Name x p :: es) (kFn i mk) := fun X g Wx tk => by
  refine ⟨fun pos pins s σ H Q I h => ?_⟩
  obtain ⟨e, w, G, R, h⟩ := h
  unfold Wp at h
  rw [kFn_eq] at h
  show wpAny _ _ (spliced ((false, eval (.Name x p) X.env) :: backTo pos (starEach es X.env))) _ _ s
  cases q : e[i]? with
  | none => rw [q] at h; exact h.elim
  | some sl =>
    rw [q] at h
    cases sl with
    | no => exact h.elim
    | val d => exact h.elim
    | own d => exact h.elim
    | fn k gg =>
      have hi : i < σ.length := by rw [← R.len]; exact (List.getElem?_eq_some_iff.mp q).1
      have hσ := List.getElem?_eq_getElem hi
      obtain ⟨f, e1, c⟩ := R.slot i _ _ q hσ
      refine Calls.spliced_cons (thn ((pe_var (X := X) (pos := p) (i := i) (by rw [g.N]; exact hN) (vis_of hv g.names) hd hcd).run pins s σ H (fun v H1 => v = .ref f ∧ H1 = H) I ⟨.ref f, by rw [hσ, e1], rfl, rfl⟩) fun u s1 ⟨v, H1, I1, r1, q1⟩ => ?_)
      obtain ⟨rfl, rfl⟩ := q1
      refine thn ((hr X g Wx tk).run pos pins s1 σ H1 (fun vs H2 h2 => Later S.h0 S.H0 h2 H2 → Q (.ref f :: vs) H2 h2) I1 ⟨e, w, G, R, (Wp.bnd h).mono fun ds e3 w3 G3 H3 l3 R3 h3 vs h' rs la => ?_⟩) fun us s2 ⟨xs, H2, I2, r2, q2⟩ => ?_
      · exact Wp.ret h3 R3 (.refl _) _ _ ⟨.ref f, vs, rfl, ⟨f, rfl, (c.lt l3.lt).move la⟩, rs⟩
      · exact ⟨_, H2, I2, .cons r1 r2, q2 (g.lat hfr _ _ _ _ I2)⟩
end
end Mnd
/-! .. their rules. -/
namespace Mnd
open PySem L2
section
variable {Γ : Cg} {S : Sc} {G G' : Gh} {H H' : Hp} {σ : L2.St} {e : Env} {w : W} {Wx : WX} {a b : Expr} {ma mb : M Opd} {mo : M Sl} {mk : M (List Sl)} {pos p : Pos} {x : Str} {es : List Expr} {f : Fn} {j : Nat} {fa : Addr} {fd : FuncData} {ps ks : List Str}
theorem relW_rel (R : RelW Γ G H w) : Rel Γ S G H [] [] w := ⟨R, rfl, fun i s x q => by simp at q, fun i j a di dj _ q => by simp at q⟩
/-- a def as a value -/
theorem clo_def {k : Nat} {h0 : Heap} {H0 : Hp} (F : FnS Γ k fa fd ps f) (lk : ∃ oc od osl, Γ.K.lookup fa = some ⟨oc, od, .func fd, osl⟩) (hb : L2.Binds Γ.K fd ps []) : CloOk Γ k h0 H0 G fa (cloOf f) := by
  refine ⟨fun X pins σ s H ok I la => ?_, fun X pins σ s H ok hr I la us vs ds w G2 Wx Q tk rv le RW rd post => ?_⟩
  · obtain ⟨oc, od, osl, lk⟩ := lk
    have := I.kIn
    rw [ok.K] at this
    exact ⟨_, _, _, _, this _ _ lk⟩
  · have e0 : Env0 Γ.P Γ.w Γ.K Γ.mg Γ.base X.A X.stack s H := by
      have := I.env0
      rw [ok.prog, ok.w, ok.K, ok.mg, ok.base] at this
      exact this
    have px := passAt tk σ
    rw [ok.prog, ok.w] at px
    by_cases hl : ds.length = ps.length
    case neg =>
      have z : cloOf f ds w = .bad := by
        unfold cloOf
        rw [F.len (ds.map .val) w (by simpa using hl)]
      rw [z] at post; exact post.elim
    have lv : vs.length = ps.length := by rw [rd.length]; exact hl
    have lu : us.length = ps.length := by rw [← rv.length]; exact lv
    have b := hb s us (by have := I.kIn; rw [ok.K] at this; exact this) (by rw [List.append_nil]; exact lu)
    rw [List.append_nil] at b
    refine wpAny_call (codeAny_mono (F.run X.A X.stack s H ⟨us, []⟩ us vs (ds.map .val) w G2 Q (WE Wx σ) hr e0 b rv lv RW (reps_val rd) ?_) fun r s' hq => ?_)
    · unfold FWp
      cases q : f (ds.map .val) w with
      | bad =>
        have z : cloOf f ds w = .bad := by unfold cloOf; rw [q]
        rw [z] at post; exact post.elim
      | ok sl w' =>
        intro G' H' v l RW' rr
        cases sl with
        | no => exact rr.elim
        | fn k g => exact rr.elim
        | val d =>
          have z : cloOf f ds w = .ok d w' := by unfold cloOf; rw [q]
          rw [z] at post
          exact post G' H' v l RW' rr
        | own d =>
          have z : cloOf f ds w = .ok d w' := by unfold cloOf; rw [q]
          rw [z] at post
          obtain ⟨G3, l3, R3, r3⟩ := (relW_rel (S := ⟨[], [], 0, true, fun _ => true, h0, H0, "", .none⟩) RW').ownV (d := d) (v := v) ⟨rr, fun d' _ i d2 q => by simp at q⟩
          exact post G3 H' v (l.trans l3) R3.st r3
      | ex x w' =>
        have z : cloOf f ds w = .ex x w' := by unfold cloOf; rw [q]
        rw [z] at post
        exact fun G' H' cls d l RW' rx => post G' H' cls d l RW' rx
    · have ca : ∀ {u : Value}, CE X.stack Γ.P Γ.w H s Q u s' → EP X pins σ Q u s' := fun {u} h => by
        refine I.after ?_
        rw [ok.prog, ok.w]; exact h
      cases r with
      | error er => exact px pins H s er s' I hq
      | ok fl =>
        cases fl with
        | ret u => exact ca hq
        | next => exact False.elim hq
        | brk => exact False.elim hq
        | cont => exact False.elim hq
theorem sk_def {k : Nat} (C : Callee Γ S x f fa fd ps) (F : FnS Γ k fa fd ps f) (hb : L2.Binds Γ.K fd ps []) (hr : SK' Γ S es mk) (hdb : (x == ("__debug__" : Str)) = false := by decide +kernel) : SK' Γ S (.Name x p :: es) (kDef k (cloOf f) mk) := fun X g Wx tk => by
  refine ⟨fun pos pins s σ H Q I h => ?_⟩
  obtain ⟨e, w, G, R, h⟩ := h
  show wpAny _ _ (spliced ((false, eval (.Name x p) X.env) :: backTo pos (starEach es X.env))) _ _ s
  refine Calls.spliced_cons (ld_glob I (C.gl g) (by rw [g.ok.mg]; exact C.mg) ?_ hdb)
  refine thn ((hr X g Wx tk).run pos pins s σ H (fun vs H2 h2 => Q (.ref fa :: vs) H2 h2) I ⟨e, w, G, R, (Wp.bnd h).mono fun ds e3 w3 G3 H3 l3 R3 h3 vs h' rs => Wp.ret h3 R3 (.refl _) _ _ ⟨.ref fa, vs, rfl, ⟨fa, rfl, clo_def F C.lk hb⟩, rs⟩⟩) fun us s2 ⟨xs, H2, I2, r2, q2⟩ => ?_
  exact ⟨.ref fa :: xs, H2, I2, .cons (show RelV (V.ref fa) (Value.ref fa) from rfl) r2, q2⟩
theorem so_callK (C : Callee Γ S x f fa fd ps) (hb : L2.Binds Γ.K fd ps []) (ha : SK' Γ S (a :: es) mk) (hdb : (x == ("__debug__" : Str)) = false := by decide +kernel)
    (he : ∀ env, starEach (a :: es) env = (false, eval a env) :: starEach es env := by intro _; rfl) (hpl : ∀ env, (backTo pos (starEach es env)).any (·.1) = false := by intro _; rfl) : SO Γ S (.Call (.Name x p) (a :: es) [] pos) (call f mk) := by
  intro X g Wx tk
  obtain ⟨j, hj, F⟩ := C.ex
  refine ⟨fun pins s σ H Q I h => ?_⟩
  obtain ⟨e, w, G, R, h⟩ := h
  rw [call_eq] at h
  refine wpAny_Call_Name_kw (ld_glob I (C.gl g) (by rw [g.ok.mg]; exact C.mg) ?_ hdb)
  refine PySem.W.callWith_K (K := X.K) (h₀ := X.base) I.ok.mod.kin (by rw [g.ok.K]; exact C.kp) (thn ((ha X g Wx tk).run pos pins s σ H (fun vs H1 h1 => ∃ ds e1 w1 G1, Rel Γ S G1 H1 σ e1 w1 ∧ RepAs Γ h1 H1 G1 ds vs ∧ WpR Γ S Wx σ (callR (f ds w1) e1) G1 fun r e' w' G' H' => ∀ v, RepRS Γ G' H' σ e' r v → Q v H') I
    ⟨e, w, G, R, (Wp.bnd h).mono fun ds e1 w1 G1 H1 l1 R1 h1 vs h' rv => ⟨ds, e1, w1, G1, R1, rv, h1⟩⟩) fun us s1 ⟨vs, H1, I1, r, ds, e1, w1, G1, R1, rd, h1⟩ => ⟨I1.kIn, ?_⟩) (he _) (hpl _)
  refine run_call g tk F hj I1 R1 (fun hl => ?_) r rd h1
  have := hb s1 us (by have := I1.kIn; rw [g.ok.K] at this; exact this) (by rw [List.append_nil]; exact hl)
  rw [List.append_nil] at this; exact this
/-! ### a slot's function is called -/
theorem eCallS_eq (n i : Nat) (a : M (List D)) (e : Env) (w : W) : eCallS n i a e w = match e[i]? with
  | some (.fn k g) => if k ≤ n then bnd a (fun ds => fun e w => match g ds w with
    | .ok d w' => .ok (.d d) e w'
    | .ex x w' => .ex x e w'
    | .bad => .bad) e w else .bad
  | _ => .bad := rfl
theorem se_callS {i n : Nat} {ms : M (List D)} (hfr : S.fr = true) (hn : n ≤ S.k) (hN : S.N[i]? = some x) (hv : visB S.names x = true) (ha : SA Γ S (a :: es) ms) (hd : (x == ("__debug__" : Str)) = false := by decide +kernel) (hcd : (x == ("__classdict__" : Str)) = false := by decide +kernel)
    (he : ∀ env, starEach (a :: es) env = (false, eval a env) :: starEach es env := by intro _; rfl) (hpl : ∀ env, (backTo pos (starEach es env)).any (·.1) = false := by intro _; rfl) : SE Γ S (.Call (.Name x p) (a :: es) [] pos) (eCallS n i ms) := by
  intro X g Wx tk
  refine ⟨fun pins s σ H Q I h => ?_⟩
  obtain ⟨e, w, G, R, h⟩ := h
  unfold Wp at h
  rw [eCallS_eq] at h
  cases q : e[i]? with
  | none => rw [q] at h; exact h.elim
  | some sl =>
    rw [q] at h
    cases sl with
    | no => exact h.elim
    | val d => exact h.elim
    | own d => exact h.elim
    | fn k gg =>
      have hi : i < σ.length := by rw [← R.len]; exact (List.getElem?_eq_some_iff.mp q).1
      have hσ := List.getElem?_eq_getElem hi
      obtain ⟨f, e1, c⟩ := R.slot i _ _ q hσ
      by_cases hk : k ≤ n
      case neg =>
        have h : WpR Γ S Wx σ (if k ≤ n then _ else _) G _ := h
        rw [if_neg hk] at h; exact h.elim
      have h : WpR Γ S Wx σ (if k ≤ n then _ else _) G _ := h
      rw [if_pos hk] at h
      refine wpAny_Call_Name_kw (thn ((pe_var (X := X) (pos := p) (i := i) (by rw [g.N]; exact hN) (vis_of hv g.names) hd hcd).run pins s σ H (fun v H1 => v = .ref f ∧ H1 = H) I ⟨.ref f, by rw [hσ, e1], rfl, rfl⟩) fun u s1 ⟨v, H1, I1, r1, q1⟩ => ?_)
      obtain ⟨rfl, rfl⟩ := q1
      obtain rfl : u = Value.ref f := r1
      refine PySem.W.callWith_F (first := []) (c.1 X pins σ s1 H1 g.ok I1 (g.lat hfr _ _ _ _ I1)) (thn ((ha X g Wx tk).run pos pins s1 σ H1 (fun vs H2 => ∃ ds e2 w2 G2, Rel Γ S G2 H2 σ e2 w2 ∧ G.le G2 ∧ Rps Γ G2 ds vs ∧ WpR Γ S Wx σ (match gg ds w2 with
          | .ok d w' => (.ok (.d d) e2 w' : MR Opd)
          | .ex x w' => .ex x e2 w'
          | .bad => .bad) G2 fun o e' w' G' H' => ∀ v, RepO Γ G' σ e' o v → Q v H') I1
        ⟨e, w, G, R, (Wp.bnd h).mono fun ds e2 w2 G2 H2 l2 R2 h2 vs rd => ⟨ds, e2, w2, G2, R2, l2, rd, h2⟩⟩) fun us s2 ⟨vs, H2, I2, rv, ds, e2, w2, G2, R2, l2, rd, h2⟩ => ?_) (he _) (hpl _)
      refine ⟨c.1 X pins σ s2 H2 g.ok I2 (g.lat hfr _ _ _ _ I2), ?_⟩
      have key := c.2 X pins σ s2 H2 g.ok (g.room.mono (Nat.le_trans hk hn)) I2 (g.lat hfr _ _ _ _ I2) us vs ds w2 { G2 with Z := ownZ H2 σ e2 G2.Z } Wx Q tk rv ⟨l2.F, l2.mu⟩ R2.toCall rd ?_
      · rw [← g.ok.prog, ← g.ok.w] at key; exact key
      · cases q3 : gg ds w2 with
        | bad => rw [q3] at h2; exact h2
        | ok d w' =>
          rw [q3] at h2
          intro G' H' v l RW rd'
          obtain ⟨R', l'⟩ := R2.ofCall l RW
          exact h2 _ _ l' R' v rd'
        | ex x w' =>
          rw [q3] at h2
          intro G' H' cls dd l RW rx
          obtain ⟨R', l'⟩ := R2.ofCall l RW
          refine h2 _ _ cls dd l' R' ?_
          cases x with
          | mk c arg => cases arg <;> exact rx
end
end Mnd
/-! Lambdas as the last argument. -/
namespace Mnd
open PySem L2 LamX
section
variable {Γ : Cg} {S : Sc} {G G' : Gh} {H H' : Hp} {σ : L2.St} {e : Env} {w : W} {Wx : WX}
theorem noTbl_of {o : HO} (h : ∀ ps, o ≠ .tbl ps) : noTbl o = true := by
  cases o <;> first | rfl | exact absurd rfl (h _)
/-- all but the tables stay -/
theorem Rel.ext (R : Rel Γ S G H σ e w) (x : ExtN H H') (T : Tabs Γ.T H') : Rel Γ S G H' σ e w := by
  have kF : ∀ a o, G.F a = some o → H' a = some o := fun a o q => x a o (R.st.sub _ _ q) fun ps z => R.st.tab.2.1 a ps (by rw [q, z])
  have kZ : ∀ a o, G.Z a = some o → H' a = some o := fun a o q => x a o (R.st.out _ _ q) fun ps z => noTbl_ne (seq_noTbl (R.st.tab.2.2 a o q)) ps z
  refine ⟨⟨kF, kZ, R.st.dis, R.st.mul, R.st.mun, fun l a q => ?_, T, R.st.tab.2⟩, R.len, fun i s v q1 q2 => ?_, R.apart⟩
  · obtain ⟨h1, h2, xs, vs, h3, h4, h5⟩ := R.st.wel l a q
    exact ⟨h1, h2, xs, vs, h3, x a _ h4 (fun ps z => by cases z), h5⟩
  · have h := R.slot i s v q1 q2
    cases s with
    | no => trivial
    | val d => exact h
    | fn k g => exact h
    | own d =>
      obtain ⟨a, e1, r⟩ := h
      obtain ⟨u, hu⟩ := r.lt_of
      have su := r.seq hu
      obtain ⟨r1, r2, r3, r4⟩ := r
      exact ⟨a, e1, r1, r2, r3, r4.keep (.refl _) (List.prefix_refl _) (by rw [hu, x a u hu (noTbl_ne (seq_noTbl su))])⟩
/-- an object that is no list nor dict is told among what is never changed -/
theorem Rel.addF (R : Rel Γ S G H σ e w) {c : Addr} {o : HO} (hc : H c = some o) (hs : seqO o = false) (no : noTbl o = true) : Rel Γ S { G with F := upd G.F c o } H σ e w ∧ G.le { G with F := upd G.F c o } := by
  have sF : Sub G.F (upd G.F c o) := fun a u q => by
    by_cases ha : a = c
    · subst ha; rw [R.st.sub _ _ q] at hc; cases hc; exact upd_same
    · rw [upd_ne ha]; exact q
  have ne : ∀ a u, H a = some u → seqO u = true → a ≠ c := fun a u q z y => by
    rw [y, hc] at q; cases q; rw [hs] at z; cases z
  refine ⟨⟨⟨fun a u q => ?_, R.st.out, fun a u q => ?_, R.st.mul, R.st.mun, fun l a q => ?_, R.st.tab.updF no⟩, R.len, fun i s x q1 q2 => ?_, R.apart⟩, ⟨sF, rfl, List.prefix_refl _⟩⟩
  · have q : upd G.F c o a = some u := q
    by_cases ha : a = c
    · subst ha; rw [upd_same] at q; cases q; exact hc
    · rw [upd_ne ha] at q; exact R.st.sub _ _ q
  · show upd G.F c o a = none
    rw [upd_ne (ne a u (R.st.out _ _ q) (R.st.tab.2.2 a u q))]; exact R.st.dis _ _ q
  · obtain ⟨h1, h2, xs, vs, h3, h4, h5⟩ := R.st.wel l a q
    refine ⟨?_, h2, xs, vs, h3, h4, h5.mono sF (List.prefix_refl _)⟩
    show upd G.F c o a = none
    rw [upd_ne (ne a _ h4 rfl)]; exact h1
  · have h := R.slot i s x q1 q2
    cases s with
    | no => trivial
    | val d => obtain ⟨v, e1, r⟩ := h; exact ⟨v, e1, r.mono sF (List.prefix_refl _)⟩
    | fn k g => obtain ⟨f, e1, c⟩ := h; exact ⟨f, e1, c.lt ⟨sF, List.prefix_refl _⟩⟩
    | own d =>
      obtain ⟨b, e2, r⟩ := h
      obtain ⟨u, hu⟩ := r.lt_of
      have su := r.seq hu
      obtain ⟨r1, r2, r3, r4⟩ := r
      refine ⟨b, e2, ?_, r2, r3, r4.keep sF (List.prefix_refl _) rfl⟩
      show upd G.F c o b = none
      rw [upd_ne (ne b u hu su)]; exact r1
theorem capE_cons (j : Nat) (js : List Nat) (e : Env) (w : W) : capE (j :: js) e w = match e[j]? with
    | some (.val d) => bnd (capE js) (fun r => ret (.val d :: r)) e w
    | some (.own d) => bnd (capE js) (fun r => ret (.val d :: r)) (e.set j (.val d)) w
    | some (.fn k g) => bnd (capE js) (fun r => ret (.fn k g :: r)) e w
    | _ => .bad := rfl
/-- what is captured -/
def CapR (Γ : Cg) (S : Sc) (G : Gh) : List Sl → List V → Prop := RepAs Γ S.h0 S.H0 G
theorem wp_cap {α : Type} {P : α → Env → W → Gh → Hp → Prop} : ∀ {js : List Nat} {f : List Sl → M α} {G : Gh} {e : Env}, Wp Γ S Wx σ (bnd (capE js) f) e w G P → Rel Γ S G H σ e w →
    ∃ caps vs e' G', G.le G' ∧ Rel Γ S G' H σ e' w ∧ RepAs Γ S.h0 S.H0 G' caps vs ∧ js.map (NdefX.slotAt σ) = vs.map some ∧ Wp Γ S Wx σ (f caps) e' w G' P
  | [], f, G, e, h, R => ⟨[], [], e, G, .refl G, R, by unfold RepAs; rfl, rfl, h⟩
  | j :: js, f, G, e, h, R => by
    have h0 := h
    unfold Wp at h
    rw [bnd_eq, capE_cons] at h
    cases q : e[j]? with
    | none => rw [q] at h; exact h.elim
    | some s =>
      have hi : j < σ.length := by rw [← R.len]; exact (List.getElem?_eq_some_iff.mp q).1
      have hσ := List.getElem?_eq_getElem hi
      rw [q] at h
      have as1 : ∀ (sl : Sl) (e0 : Env), Wp Γ S Wx σ (bnd (bnd (capE js) fun r => ret (sl :: r)) f) e0 w G P → Wp Γ S Wx σ (bnd (capE js) fun r => f (sl :: r)) e0 w G P := fun sl e0 h => by
        unfold Wp at h ⊢
        rw [bnd_eq, bnd_eq] at h
        rw [bnd_eq]
        cases q2 : capE js e0 w with
        | bad => rw [q2] at h; exact h
        | ex x e' w' => rw [q2] at h; exact h
        | ok a e' w' => rw [q2] at h; exact h
      have as2 : ∀ (sl : Sl) (e0 : Env), capE (j :: js) e w = bnd (capE js) (fun r => ret (sl :: r)) e0 w → Wp Γ S Wx σ (bnd (capE js) fun r => f (sl :: r)) e0 w G P := fun sl e0 he => as1 sl e0 (by
        unfold Wp
        rw [bnd_eq, ← he, ← bnd_eq]; exact h0)
      cases s with
      | no => exact h.elim
      | val d =>
        obtain ⟨v, e1, r⟩ := R.slot j _ _ q hσ
        obtain ⟨caps, vs, e', G', l, R', rc, hm, h'⟩ := wp_cap (as2 (.val d) e (by rw [capE_cons, q])) R
        exact ⟨.val d :: caps, v :: vs, e', G', l, R', ⟨v, vs, rfl, Rp.le l.lt r, rc⟩, by rw [List.map_cons, hm, NdefX.slotAt_of (by rw [hσ, e1])]; rfl, h'⟩
      | own d =>
        obtain ⟨a, G1, e1, l1, R1, r⟩ := R.freeze q hσ
        obtain ⟨caps, vs, e', G', l, R', rc, hm, h'⟩ := wp_cap ((as2 (.val d) (e.set j (.val d)) (by rw [capE_cons, q])).le l1) R1
        exact ⟨.val d :: caps, .ref a :: vs, e', G', l1.trans l, R', ⟨.ref a, vs, rfl, Rp.le l.lt r, rc⟩, by rw [List.map_cons, hm, NdefX.slotAt_of (by rw [hσ, e1])]; rfl, h'⟩
      | fn k g =>
        obtain ⟨fa, e1, c⟩ := R.slot j _ _ q hσ
        obtain ⟨caps, vs, e', G', l, R', rc, hm, h'⟩ := wp_cap (as2 (.fn k g) e (by rw [capE_cons, q])) R
        exact ⟨.fn k g :: caps, .ref fa :: vs, e', G', l, R', ⟨.ref fa, vs, rfl, ⟨fa, rfl, c.lt l.lt⟩, rc⟩, by rw [List.map_cons, hm, NdefX.slotAt_of (by rw [hσ, e1])]; rfl, h'⟩
theorem RepAs.move {h h1 : Heap} {H H1 : Hp} (la : Later h H h1 H1) : ∀ {sls : List Sl} {vs : List V}, RepAs Γ h H G sls vs → RepAs Γ h1 H1 G sls vs
  | [], _, r => r
  | s :: sls, _, r => by
    unfold RepAs at r ⊢
    obtain ⟨v, vs, e1, r1, r2⟩ := r
    refine ⟨v, vs, e1, ?_, RepAs.move la r2⟩
    cases s with
    | no => exact r1
    | val d => exact r1
    | own d => exact r1
    | fn k g => obtain ⟨f, e2, c⟩ := r1; exact ⟨f, e2, c.move la⟩
theorem RepAs.append {h0 : Heap} {H0 : Hp} : ∀ {s1 s2 : List Sl} {v1 v2 : List V}, RepAs Γ h0 H0 G s1 v1 → RepAs Γ h0 H0 G s2 v2 → RepAs Γ h0 H0 G (s1 ++ s2) (v1 ++ v2)
  | [], _, _, _, r, q => by unfold RepAs at r; subst r; exact q
  | s :: s1, s2, _, v2, r, q => by
    unfold RepAs at r
    obtain ⟨v, vs, rfl, r1, r2⟩ := r
    exact ⟨v, vs ++ v2, rfl, r1, RepAs.append r2 q⟩
theorem cells_later {cl : List (Str × Addr)} {fr : List Str} {ws : List (Option V)} {h h' : Heap} (C : NdefX.CellsAt cl fr ws h H) (la : Later h H h' H') : NdefX.CellsAt cl fr ws h' H' := by
  obtain ⟨_, fs, ex, un, hx⟩ := la
  have kp : ∀ c v, H c = none → h.IsCell c v → H' c = none ∧ h'.IsCell c v := fun c v n ⟨o, ho, hd⟩ => by
    have nx : c ∉ ex := fun z => Nat.lt_irrefl _ (Nat.lt_of_lt_of_le (Heap.lt_size ho) (hx c z))
    obtain ⟨sl, q⟩ := un.any ho n nx
    exact ⟨un.free c o ho n nx, _, q, hd⟩
  refine ⟨C.len, fun y c e => ?_, C.inj, fun i y e => ?_⟩
  · obtain ⟨n, v, z⟩ := C.all y c e
    exact ⟨(kp c v n z).1, v, (kp c v n z).2⟩
  · obtain ⟨c, hc, hv⟩ := C.has i y e
    refine ⟨c, hc, fun v ev => ?_⟩
    obtain ⟨u, r, z⟩ := hv v ev
    exact ⟨u, r, (kp c _ (C.all y c hc).1 z).2⟩
theorem lookup_map_some {α β : Type} {f : α → Option β} {l : List α} {r : List β} (h : l.map f = r.map some) (i : Nat) : (l.map f)[i]? = r[i]?.map some := by rw [h]; simp
/-- a lambda: f's object, its code object, what it captured -/
theorem clo_lam {k : Nat} {f c' : Addr} {q : Str} {params : Arguments} {body : Expr} {scope : Scope} {cl : List (Str × Addr)} {pm ctv : Value} {N ps fr : List Str} {m : M Opd} {caps : List Sl} {cvs : List V} {h : Heap}
    (hf : h.get? f = some (PySem.W.kla_obj "<lambda>" q params body scope cl pm c' ctv)) (hfn : H f = none) (hco : G.F c' = some (CodeO c' q)) (NS : NdefX.NScope N ps fr scope) (C : NdefX.CellsAt cl fr (cvs.map some) h H) (rc : RepAs Γ h H G caps cvs)
    (hbind : ∀ us : List Value, us.length = ps.length → bindArgs (PySem.W.kla_fn "<lambda>" q params body scope cl pm (.ref c') ctv) ⟨us, []⟩ = pure (ps.zip us))
    (hbody : ∀ h0 H0 q cd, SE Γ ⟨N, scope.names, k, true, fun _ => false, h0, H0, q, cd⟩ body m) : CloOk Γ (k + 1) h H G f (lamC N.length ps.length m caps) := by
  have ofAt : ∀ {h' : Heap} {H' : Hp}, Later h H h' H' → ∃ sl, h'.get? f = some { PySem.W.kla_obj "<lambda>" q params body scope cl pm c' ctv with slots := sl } := fun {h' H'} ⟨_, fs, ex, un, hx⟩ =>
    un.any hf hfn fun z => Nat.lt_irrefl _ (Nat.lt_of_lt_of_le (Heap.lt_size hf) (hx f z))
  refine ⟨fun X pins σ s H' ok I la => ?_, fun X pins σ s H2 ok hr I la us vs ds w G2 Wx Q tk rv le RW rd post => ?_⟩
  · obtain ⟨sl, z⟩ := ofAt la
    exact ⟨_, _, _, _, z⟩
  by_cases hl : ds.length = ps.length
  case neg =>
    unfold lamC at post
    rw [if_neg hl] at post; exact post.elim
  unfold lamC at post
  rw [if_pos hl] at post
  have lv : vs.length = ps.length := by rw [rd.length]; exact hl
  have lu : us.length = ps.length := by rw [← rv.length]; exact lv
  obtain ⟨sl, of1⟩ := ofAt la
  have e0 : Env0 Γ.P Γ.w Γ.K Γ.mg Γ.base X.A X.stack s H2 := by
    have := I.env0
    rw [ok.prog, ok.w, ok.K, ok.mg, ok.base] at this
    exact this
  have lim : s.heap.NoLimit := I.nolimit
  have hokS := I.hok
  have px := passAt tk σ
  rw [ok.prog, ok.w] at px
  have hc2 : H2 c' = some (CodeO c' q) := RW.sub _ _ (le.F _ _ hco)
  obtain ⟨⟨oc, vs', t, hoc, hdc, hvc⟩, _, _⟩ := I.hok c' _ hc2
  have C2 := cells_later C la
  let F : NdefX.NF := ⟨"<lambda>", q, params, [], scope, cl, c'⟩
  have rcall : codeAny (model Γ.P Γ.w) X.A (.call (.ref f) ⟨us, []⟩) (CR (L2.CX Γ.P Γ.w) X.stack Γ.P Γ.w H2 s Q (WE Wx σ)) s := by
    refine PySem.W.kla_callFunE hr.depth of1 rfl NS.co NS.gen rfl ⟨c', oc, vs', t, rfl, hoc, hdc, hvc⟩ ?_
    rw [hbind us lu]
    refine wpAny_pure (wpAny_newFunctionEnv NS.nocell (fun ⟨n, _⟩ hy => NS.par n (List.of_mem_zip hy).1) (fun h₁ hns hsb => ⟨lim.fresh _ hsb, ?_⟩) NS.kind)
    have kp : ∀ b o, s.heap.get? b = some o → h₁.get? b = some o := fun b o e => hsb.extBut b o (Nat.ne_of_lt (Heap.lt_size e)) (Heap.get?_push_of_some _ e)
    show codeAny _ _ (.expr body (NdefX.envF F f s.heap.objs.size)) _ _
    have J : Inv (NdefX.ncx (L2.CX Γ.P Γ.w) Γ.P Γ.w Γ.K Γ.mg Γ.base N F f X.A X.stack s H2 (WE Wx σ)) [] (NdefX.startF N vs (cvs.map some)) H2 { s with heap := h₁, toks := s.toks + (ps.zip us).length } :=
      NdefX.inv_startN (F := F) NS hr.hd e0 lv rv C2 hns kp
    let S' : Sc := ⟨N, scope.names, k, true, fun _ => false, s.heap, H2, q ++ ".<locals>.", .ref c'⟩
    have g : Good Γ S' (NdefX.ncx (L2.CX Γ.P Γ.w) Γ.P Γ.w Γ.K Γ.mg Γ.base N F f X.A X.stack s H2 (WE Wx σ)) :=
      { ok := ⟨rfl, rfl, rfl, rfl, rfl⟩, N := rfl, nd := NS.nd, names := rfl, calm := rfl, room := hr.deeper _, kind := NS.kind, qc := fun _ => ⟨rfl, rfl⟩, fn := (fun _ z => nomatch z),
        lat := fun _ pins σ' H' s' I => ⟨I.sz, _, [], I.base, fun b z => nomatch z⟩, pass := fun _ => passes_of rfl }
    have tk' : Takes (NdefX.ncx (L2.CX Γ.P Γ.w) Γ.P Γ.w Γ.K Γ.mg Γ.base N F f X.A X.stack s H2 (WE Wx σ)) (fun cls d _ H => WE Wx σ cls d H) := takes_of rfl rfl rfl rfl
    have lc : cvs.length = caps.length := rc.length
    have hpl : ps.length + fr.length ≤ N.length := by
      have q := congrArg List.length NS.pre
      rw [List.length_take, List.length_append] at q
      omega
    have lf : cvs.length = fr.length := by have := C.len; rw [List.length_map] at this; exact this
    have st : NdefX.startF N vs (cvs.map some) = L2.start N (vs ++ cvs) := by
      unfold NdefX.startF L2.start
      rw [List.map_append, List.length_append, List.append_assoc, List.length_map, Nat.sub_sub]
    have R0 : Rel Γ S' G2 H2 (L2.start N (vs ++ cvs)) ((ds.map .val ++ caps) ++ List.replicate (N.length - (vs ++ cvs).length) .no) w :=
      rel_start (S := S') RW (by show (vs ++ cvs).length ≤ N.length; rw [List.length_append]; omega) ((reps_val rd).append ((rc.lt ⟨le.F, le.mu⟩).move la))
    rw [← st] at R0
    have wp0 : Wp Γ S' (fun cls d _ H => WE Wx σ cls d H) (NdefX.startF N vs (cvs.map some)) (bnd m fun o => bnd (frz o) fun d => ret d) ((ds.map .val ++ caps) ++ List.replicate (N.length - (vs ++ cvs).length) .no) w G2 fun d e' w' G' H' => ∀ v, Rp Γ G' d v → Q v H' := by
      have el : N.length - (vs ++ cvs).length = N.length - ps.length - caps.length := by rw [List.length_append]; omega
      rw [el]
      unfold Wp
      cases q3 : (bnd m fun o => bnd (frz o) fun d => ret d) ((ds.map .val ++ caps) ++ List.replicate (N.length - ps.length - caps.length) .no) w with
      | bad => rw [q3] at post; exact post
      | ok d e' w' => rw [q3] at post; exact fun G' H' l R v rv => post G' H' v l R.st rv
      | ex x e' w' => rw [q3] at post; exact fun G' H' cls dd l R rx => post G' H' cls dd l R.st rx
    refine PySem.W.kla_codeExpr (wpAny_mono ((hbody s.heap H2 _ _ _ g _ tk').run [] _ _ H2 Q J ⟨_, w, G2, R0, (Wp.bnd wp0).mono fun o e1 w1 G1 H1 l1 R1 h1 v rv => ?_⟩) (fun v s' hq => ?_) fun e s' hq => hq)
    · obtain ⟨d, e2, G3, l3, R3, rd3, h3⟩ := wp_frz h1 R1 rv
      exact Wp.ret h3 R3 (.refl _) v rd3
    · obtain ⟨w', H', J', rv, q⟩ := hq
      exact ⟨w', H', J'.os, J'.bare, J'.base, J'.hok, rv, q⟩
  rw [← ok.prog, ← ok.w] at rcall px
  rw [← ok.prog, ← ok.w]
  refine wpAny_call (codeAny_mono rcall fun r s' hq => ?_)
  cases r with
  | error er => exact px pins H2 s er s' I hq
  | ok fl =>
    cases fl with
    | ret u => exact I.after hq
    | next => exact False.elim hq
    | brk => exact False.elim hq
    | cont => exact False.elim hq
/-- a lambda is the last argument -/
structure LamT (Γ : Cg) (S : Sc) : Prop where
  ex : ∃ c P, S.code = .ref c ∧ TabB Γ.base Γ.mg c P ∧ (P, S.qual ++ "<lambda>") ∈ Γ.T ∧ ∀ p ∈ Γ.T, p.1 = P → p.2 = S.qual ++ "<lambda>"
theorem sk_lam {k : Nat} {params : Arguments} {body : Expr} {scope : Scope} {lpos : Pos} {N ps fr : List Str} {js : List Nat} {m : M Opd} (hfr : S.fr = true) (T : LamT Γ S) (NS : NdefX.NScope N ps fr scope)
    (hdef : ∀ env, defaultsOf params env = ([], [])) (hfree : (scope.names.all fun y => !decide (y.2 = .free) || decide (S.names.lookup y.1 = some .cell) || decide (S.names.lookup y.1 = some .free)) = true) (hin : ∀ y ∈ fr, (y, NameKind.free) ∈ scope.names) (hjs : js.map (fun j => S.N[j]?) = fr.map some)
    (hbind : ∀ (q : Str) (cl : List (Str × Addr)) (pm cv ctv : Value) (us : List Value), us.length = ps.length → bindArgs (PySem.W.kla_fn "<lambda>" q params body scope cl pm cv ctv) ⟨us, []⟩ = pure (ps.zip us))
    (hbody : ∀ h0 H0 q cd, SE Γ ⟨N, scope.names, k, true, fun _ => false, h0, H0, q, cd⟩ body m) : SK' Γ S [.Lambda params body scope lpos] (kLam (k + 1) N.length ps.length js m) := fun X g Wx tk => by
  refine ⟨fun pins pin s σ H Q I h => ?_⟩
  obtain ⟨e, w, G, R, h⟩ := h
  obtain ⟨c, P, hc, tb, hm, hu⟩ := T.ex
  obtain ⟨hq, hcd⟩ := g.qc hfr
  have hfree' : ∀ y ∈ scope.names, y.2 = .free → X.env.scope.names.lookup y.1 = some .cell ∨ X.env.scope.names.lookup y.1 = some .free := fun y hy e => by
    rw [g.names]
    have := List.all_eq_true.mp hfree y hy
    simp only [Bool.or_eq_true, Bool.not_eq_true', decide_eq_true_eq, decide_eq_false_iff_not] at this
    rcases this with (z | z) | z
    · exact absurd e z
    · exact .inl z
    · exact .inr z
  have hcl : ∀ y ∈ scope.names, y.2 = .free → ∃ c, X.env.cells.lookup y.1 = some c := fun y hy e => (hfree' y hy e).elim (fun z => I.ok.has _ (.inl z)) fun z => I.ok.has _ (.inr z)
  obtain ⟨caps, cvs, e1, G1, l1, R1, rc, hw, h1⟩ := wp_cap h R
  show wpAny _ _ (spliced ((false, eval (.Lambda params body scope lpos) X.env) :: backTo pins (starEach [] X.env))) _ _ s
  refine Calls.spliced_cons (lam_make2 (c := c) (P := P) (T := Γ.T) I (by rw [g.ok.base, g.ok.mg]; exact tb) (by rw [hcd]; exact hc) (by rw [hq]; exact hm) (by rw [hq]; exact hu) R1.st.tab.1 (hdef _) hcl fun f c' pm ctv H1 s' I1 eN T1 hf hfn hnf hco => ?_)
  refine Calls.spliced_nil ⟨[.ref f], H1, I1, .cons (show RelV (V.ref f) (Value.ref f) from rfl) .nil, ?_⟩
  obtain ⟨R3, l3⟩ := (R1.ext eN T1).addF hco (by unfold CodeO; rfl) (by unfold CodeO; rfl)
  refine Wp.ret h1 R3 l3 _ _ ⟨.ref f, [], rfl, ⟨f, rfl, ?_⟩, by unfold RepAs; rfl⟩
  have C1 := NdefX.cells_of I1 (NdefX.Caps.made (fr := fr) (js := js) (scope := scope) I1.ok hfree' hin (by rw [← hjs]; rw [g.N]))
  rw [hw] at C1
  exact clo_lam (N := N) (ps := ps) (fr := fr) hf hfn (by show upd G1.F c' _ c' = _; exact upd_same) NS C1 ((rc.lt l3.lt).move (g.lat hfr _ _ _ _ I1)) (fun us hl => hbind _ _ _ _ _ us hl) hbody
end
end Mnd
/-! Methods of lists, chains, globals, sorted, lists into the store, what is not modelled. -/
namespace Mnd
open PySem L2
section
variable {Γ : Cg} {S : Sc} {G G' : Gh} {H H' : Hp} {σ : L2.St} {e : Env} {w : W} {Wx : WX} {a b c : Expr} {ma mb mc : M Opd} {mo : M Sl} {mk : M (List Sl)} {pos p p2 ap : Pos} {x : Str} {es : List Expr} {f : Fn} {j : Nat} {fa : Addr} {fd : FuncData} {ps ks : List Str}
/-! ### not modelled -/
theorem se_bad : SE Γ S a bad := fun X g Wx tk => ⟨fun pins s σ H Q I ⟨e, w, G, R, h⟩ => (Wp.bad h).elim⟩
theorem so_bad : SO Γ S a bad := fun X g Wx tk => ⟨fun pins s σ H Q I ⟨e, w, G, R, h⟩ => (Wp.bad h).elim⟩
theorem st_bad : ST Γ S a bad := fun X g Wx tk => ⟨fun pins s σ H Q I ⟨e, w, G, R, h⟩ => (Wp.bad h).elim⟩
theorem ss_bad {st : Stmt} : SS Γ S st bad := fun X g Wx tk => ⟨fun pins s σ H D I ⟨e, w, G, R, h⟩ => (show False from h).elim⟩
theorem sb_bad {st : List Stmt} : SB Γ S st bad := fun X g Wx tk => ⟨fun pins s σ H D I ⟨e, w, G, R, h⟩ => (show False from h).elim⟩
/-! ### names of the module -/
def GlobD (Γ : Cg) (x : Str) (d : D) : Prop := ∃ v u, Γ.mg x = some u ∧ RelV v u ∧ ∀ G, Rp Γ G d v
theorem se_glob {d : D} (hn : S.names.lookup x = some .globalImplicit) (hg : GlobD Γ x d) (hdb : (x == ("__debug__" : Str)) = false := by decide +kernel) : SE Γ S (.Name x p) (eC d) := by
  obtain ⟨v, u, hm, r, rd⟩ := hg
  intro X g Wx tk
  refine ⟨fun pins s σ H Q I h => ?_⟩
  obtain ⟨e, w, G, R, h⟩ := h
  exact ld_glob I (show X.env.scope.names.lookup x = _ by rw [g.names]; exact hn) (by rw [g.ok.mg]; exact hm) ⟨v, H, I, r, h G H (.refl G) R v (rd G)⟩ hdb
/-! ### a < b < c -/
theorem RepO.lookV_of {o : Opd} {v : V} {u : D} (ro : RepO Γ G σ e o v) (R : Rel Γ S G H σ e w) (h : lookV o e = some u) : Vw Γ G H u v := ro.view R h
theorem eChain_eq (f f' : D → D → Option D) (a b c : M Opd) : eChain f f' a b c = bnd a fun x => bnd b fun y => bnd (look x) fun u => bnd (look y) fun v => match f u v with
  | some (.bl true) => bnd c fun z => bnd (look y) fun v => bnd (look z) fun q => lift ((f' v q).map .d)
  | some (.bl false) => ret (.d (.bl false))
  | _ => bad := rfl
end
section
variable {Γ : Cg} {S : Sc} {G G' : Gh} {H H' : Hp} {σ : L2.St} {e : Env} {w : W} {Wx : WX} {a b c : Expr} {ma mb mc : M Opd} {pos : Pos}
theorem tE_chain {r r' : R2} {f f' : D → D → Option D} (ok : BinOk Γ r f) (ok' : BinOk Γ r' f') {Q : VK} (h : tE Γ S Wx (eChain f f' ma mb mc) σ H Q) : tChain r r' (tE Γ S Wx ma) (tE Γ S Wx mb) (tE Γ S Wx mc) σ H Q := by
  obtain ⟨e, w, G, R, h⟩ := h
  rw [eChain_eq] at h
  refine ⟨e, w, G, R, (Wp.bnd h).mono fun o e1 w1 G1 H1 l1 R1 h1 x rx => ⟨e1, w1, G1, R1, (Wp.bnd h1).mono fun o2 e2 w2 G2 H2 l2 R2 h2 y ry => ?_⟩⟩
  obtain ⟨u, hu, h2⟩ := wp_look h2
  obtain ⟨v, hv, h2⟩ := wp_look h2
  cases hf : f u v with
  | none => rw [hf] at h2; exact (Wp.bad h2).elim
  | some d =>
    rw [hf] at h2
    cases d with
    | bl k =>
      refine ok G2 H2 w2 u v (.bl k) x y _ R2.st ((rx.le l2 (e' := e2)).view R2 hu) (ry.view R2 hv) hf fun z G3 H3 l3 kp r => ?_
      have hz : z = .bl k := by unfold Rp RepD at r; exact r
      refine ⟨k, hz, ?_⟩
      cases k with
      | false =>
        rw [if_neg (by decide)]
        exact Wp.ret h2 (kp _ _ _ _ R2) l3 _ (rp_bl (Γ := Γ) (G := G3) false)
      | true =>
        rw [if_pos rfl]
        refine ⟨e2, w2, G3, kp _ _ _ _ R2, ((Wp.bnd h2).le l3).mono fun o3 e4 w4 G4 H4 l4 R4 h4 z4 r4 => ?_⟩
        obtain ⟨v', hv', h4⟩ := wp_look h4
        obtain ⟨q, hq, h4⟩ := wp_look h4
        obtain ⟨p, hp, h4⟩ := Wp.lift h4
        cases hf' : f' v' q with
        | none => rw [hf'] at hp; cases hp
        | some d =>
          rw [hf'] at hp; cases hp
          exact ok' G4 H4 w4 v' q d y z4 Q R4.st ((ry.le (l3.trans l4) (e' := e4)).view R4 hv') (r4.view R4 hq) hf' fun z G5 H5 l5 k r => Wp.ret h4 (k _ _ _ _ R4) l5 z r
    | _ => exact (Wp.bad h2).elim
theorem se_chain {op op' : CmpOp} {r r' : R2} {f f' : D → D → Option D} (ho : ∀ X, Good Γ S X → OpR X (compareOp op) r) (ok : BinOk Γ r f) (ho' : ∀ X, Good Γ S X → OpR X (compareOp op') r') (ok' : BinOk Γ r' f') (ha : SE Γ S a ma) (hb : SE Γ S b mb) (hc : SE Γ S c mc)
    (hm : lastMarks [op, op'] [b, c] = false := by with_unfolding_all rfl) : SE Γ S (.Compare a [op, op'] [b, c] pos) (eChain f f' ma mb mc) :=
  fun X g Wx tk => PE.imp (pe_chain (ho X g) (ho' X g) (ha X g Wx tk) (hb X g Wx tk) (hc X g Wx tk) hm) fun _ _ _ h => tE_chain ok ok' h
theorem st_chain {op op' : CmpOp} {r r' : R2} {f f' : D → D → Option D} (ho : ∀ X, Good Γ S X → OpR X (compareOp op) r) (ok : BinOk Γ r f) (ho' : ∀ X, Good Γ S X → OpR X (compareOp op') r') (ok' : BinOk Γ r' f') (ha : SE Γ S a ma) (hb : SE Γ S b mb) (hc : SE Γ S c mc)
    (hm : lastMarks [op, op'] [b, c] = false := by with_unfolding_all rfl) : ST Γ S (.Compare a [op, op'] [b, c] pos) (tVal (eChain f f' ma mb mc)) := by
  intro X g Wx tk
  refine PT.imp (pt_chain (ho X g) (ho' X g) (ha X g Wx tk) (hb X g Wx tk) (hc X g Wx tk) hm) ?_
  rintro σ H Q ⟨e, w, G, R, h⟩
  refine tE_chain (S := S) (Wx := Wx) ok ok' ⟨e, w, G, R, (Wp.bnd h).mono fun o e1 w1 G1 H1 l1 R1 h1 x rx => ?_⟩
  obtain ⟨u, hu, h1⟩ := wp_look h1
  cases u with
  | bl b => exact ⟨b, ((rx.view R1 hu).bl), Wp.ret h1 R1 (.refl _)⟩
  | _ => exact (Wp.bad h1).elim
def dPow : D → D → Option D
  | .int i, .int j => if 0 ≤ j ∧ j ≤ 10000 ∧ i.natAbs < 2 ^ 64 then some (.int (i ^ j.toNat)) else none
  | _, _ => none
theorem se_pow (ha : SE Γ S a ma) (hb : SE Γ S b mb) : SE Γ S (.BinOp a .Pow b pos) (eBin dPow ma mb) :=
  se_bin (fun X g => op_pow) (fun G H w u v d x y Q R vx vy hd k => by
    cases u <;> cases v <;> simp only [dPow] at hd <;> first | cases hd | skip
    split at hd
    · rename_i h
      cases hd
      exact ⟨_, _, vx.int, vy.int, ⟨h.1, by omega, h.2.2⟩, k _ G H (.refl G) (.refl _ _) (rp_int _)⟩
    · cases hd) ha hb
/-! ### methods of lists -/
theorem sAppend_eq (i : Nat) (a : M Opd) (e : Env) (w : W) : sAppend i a e w = match slotD e[i]? with
  | some (.lst _) => bnd a (fun o => bnd (frz o) fun d => fun e w => match e[i]? with
    | some (.own (.lst xs)) => if xs.length < 100000 then .ok .next (e.set i (.own (.lst (xs ++ [d])))) w else .bad
    | _ => .bad) e w
  | _ => .bad := rfl
theorem slot_lst {i : Nat} {ds : List D} (R : Rel Γ S G H σ e w) (h : slotD e[i]? = some (.lst ds)) : ∃ l vs, σ[i]? = some (some (.ref l)) ∧ SqL Γ.K H l vs := by
  cases q : e[i]? with
  | none => rw [q] at h; cases h
  | some s =>
    have hi : i < σ.length := by rw [← R.len]; exact (List.getElem?_eq_some_iff.mp q).1
    have hσ := List.getElem?_eq_getElem hi
    have sl := R.slot i _ _ q hσ
    rw [q] at h
    cases s with
    | no => cases h
    | fn k g => cases h
    | val d =>
      cases h
      obtain ⟨v, e1, r⟩ := sl
      unfold Rp RepD at r
      obtain ⟨l, vs, rfl, q2, _⟩ := r
      exact ⟨l, vs, by rw [hσ, e1], SqL.of (R.st.sub _ _ q2)⟩
    | own d =>
      cases h
      obtain ⟨l, e1, r⟩ := sl
      obtain ⟨vs, q2, _⟩ := r.2.2.2
      exact ⟨l, vs, by rw [hσ, e1], SqL.of q2⟩
theorem own_lst {i : Nat} {ds : List D} {l : Addr} (R : Rel Γ S G H σ e w) (h : e[i]? = some (.own (.lst ds))) (hσ : σ[i]? = some (some (.ref l))) : ∃ vs, H l = some (.lst vs) ∧ Rps Γ G ds vs := by
  obtain ⟨l', e1, r⟩ := R.slot i _ _ h hσ
  cases e1
  exact r.2.2.2
theorem ss_append {i : Nat} {x : Str} {px ap cp : Pos} (hN : S.N[i]? = some x) (hv : visB S.names x = true) (ha : SE Γ S a ma)
    (hd : (x == ("__debug__" : Str)) = false := by decide +kernel) (hcd : (x == ("__classdict__" : Str)) = false := by decide +kernel)
    (hbase : ∀ env, attributeBase (.Name x px) "append" env (eval (.Name x px) env) = eval (.Name x px) env := by intro _; rfl)
    (hs : ∀ env, starEach [a] env = (false, eval a env) :: starEach [] env := by intro _; rfl)
    (hfew : ∀ env, ((backTo cp (starEach [a] env)).all (fun x => !x.1) && (backToKw cp (keywordEach [] env)).all (fun x => x.1.isSome)
      && decide ([a].length + ([] : List Keyword).length + (if ([] : List Keyword).isEmpty then 0 else 1) < 30)) = true := by intro _; rfl)
    (hline : (ap.endLine == cp.line) = true := by rfl) (hsw : ∀ env, swapsWith (.Call (.Attribute (.Name x px) "append" ap) [a] [] cp) none pos.line env = pure false := by intro _; rfl) :
    SS Γ S (.Expr (.Call (.Attribute (.Name x px) "append" ap) [a] [] cp) pos) (sAppend i ma) := by
  intro X g Wx tk
  refine PS.imp (ps_expr (pe_bm PySem.F.plainAttrs_list PySem.F.slot_list_append PySem.F.type_list_append mt_append (pe_var (X := X) (pos := px) (i := i) (by rw [g.N]; exact hN) (vis_of hv g.names) hd hcd) (pa_cons (ha X g Wx tk) pa_nil (hs _)) (hbase _) (hfew _) hline (hs _) rfl) (hsw _)) ?_
  rintro D σ H ⟨e, w, G, R, h⟩
  unfold WpT at h
  rw [sAppend_eq] at h
  cases q : slotD e[i]? with
  | none => rw [q] at h; exact h.elim
  | some d =>
    rw [q] at h
    cases d with
    | lst ds =>
      obtain ⟨l, vs, hσ, hl⟩ := slot_lst R q
      refine ⟨.ref l, hσ, .inl ⟨rfl, vs, by rw [g.ok.K]; exact hl⟩, ?_⟩
      refine ⟨e, w, G, R, (WpT.bndE h σ).mono fun o e1 w1 G1 H1 l1 R1 h1 v rv => ?_⟩
      obtain ⟨d, e2, G2, l2, R2, rd, h2⟩ := wpT_frz h1 R1 rv
      unfold WpT at h2
      cases q2 : e2[i]? with
      | none => have h2 : WpTR Γ S Wx (match e2[i]? with | some (.own (.lst xs)) => _ | _ => _) G2 _ := h2; rw [q2] at h2; exact h2.elim
      | some s =>
        cases s with
        | own d3 =>
          cases d3 with
          | lst xs =>
            have h2 : WpTR Γ S Wx (match e2[i]? with | some (.own (.lst xs)) => _ | _ => _) G2 _ := h2
            rw [q2] at h2
            by_cases hn : xs.length < 100000
            · have h2 : WpTR Γ S Wx (if xs.length < 100000 then _ else _) G2 _ := h2
              rw [if_pos hn] at h2
              obtain ⟨us, hu, ru⟩ := own_lst R2 q2 hσ
              refine ⟨l, us, v, rfl, rfl, hu, by rw [sizeLine_eq, ru.length]; omega, ?_⟩
              exact h2 G2 _ σ (.refl _) (R2.own_write q2 hσ ⟨_, upd_same, ru.append (.one rd)⟩)
            · have h2 : WpTR Γ S Wx (if xs.length < 100000 then _ else _) G2 _ := h2
              rw [if_neg hn] at h2; exact h2.elim
          | _ => have h2 : WpTR Γ S Wx (match e2[i]? with | some (.own (.lst xs)) => _ | _ => _) G2 _ := h2; rw [q2] at h2; exact h2.elim
        | _ => have h2 : WpTR Γ S Wx (match e2[i]? with | some (.own (.lst xs)) => _ | _ => _) G2 _ := h2; rw [q2] at h2; exact h2.elim
    | _ => exact h.elim
theorem ePopAt_eq (i : Nat) (a : M Opd) (e : Env) (w : W) : ePopAt i a e w = match slotD e[i]? with
  | some (.lst _) => bnd a (fun o => bnd (look o) fun d => fun e w => match e[i]?, d with
    | some (.own (.lst xs)), .int k => if -100000 ≤ k ∧ k ≤ 100000 then (match L2.ixN xs.length k with
      | some j => match xs[j]? with
        | some y => .ok (.d y) (e.set i (.own (.lst (xs.eraseIdx j)))) w
        | none => .bad
      | none => .bad) else .bad
    | _, _ => .bad) e w
  | _ => .bad := rfl
def popStep (i : Nat) (d : D) : M Opd := fun e w => match e[i]?, d with
    | some (.own (.lst xs)), .int k => if -100000 ≤ k ∧ k ≤ 100000 then (match L2.ixN xs.length k with
      | some j => match xs[j]? with
        | some y => .ok (.d y) (e.set i (.own (.lst (xs.eraseIdx j)))) w
        | none => .bad
      | none => .bad) else .bad
    | _, _ => .bad
theorem popStep_ok {i : Nat} {d : D} {P : Opd → Env → W → Gh → Hp → Prop} (h : Wp Γ S Wx σ (popStep i d) e w G P) : ∃ xs k j y, e[i]? = some (.own (.lst xs)) ∧ d = .int k ∧ -100000 ≤ k ∧ k ≤ 100000 ∧ L2.ixN xs.length k = some j ∧ xs[j]? = some y ∧
    WpR Γ S Wx σ (.ok (.d y) (e.set i (.own (.lst (xs.eraseIdx j)))) w) G P := by
  unfold Wp popStep at h
  split at h
  · rename_i xs k q
    split at h
    · rename_i hk
      split at h
      · rename_i j q2
        split at h
        · rename_i y q3
          exact ⟨xs, k, j, y, q, rfl, hk.1, hk.2, q2, q3, h⟩
        · exact h.elim
      · exact h.elim
    · exact h.elim
  · exact h.elim
theorem se_popAt {i : Nat} {x : Str} {px ap cp : Pos} (hN : S.N[i]? = some x) (hv : visB S.names x = true) (ha : SE Γ S a ma)
    (hd : (x == ("__debug__" : Str)) = false := by decide +kernel) (hcd : (x == ("__classdict__" : Str)) = false := by decide +kernel)
    (hbase : ∀ env, attributeBase (.Name x px) "pop" env (eval (.Name x px) env) = eval (.Name x px) env := by intro _; rfl)
    (hs : ∀ env, starEach [a] env = (false, eval a env) :: starEach [] env := by intro _; rfl)
    (hfew : ∀ env, ((backTo cp (starEach [a] env)).all (fun x => !x.1) && (backToKw cp (keywordEach [] env)).all (fun x => x.1.isSome)
      && decide ([a].length + ([] : List Keyword).length + (if ([] : List Keyword).isEmpty then 0 else 1) < 30)) = true := by intro _; rfl)
    (hline : (ap.endLine == cp.line) = true := by rfl) :
    SE Γ S (.Call (.Attribute (.Name x px) "pop" ap) [a] [] cp) (ePopAt i ma) := by
  intro X g Wx tk
  refine PE.imp (pe_bm PySem.F.plainAttrs_list PySem.F.slot_list_pop PySem.F.type_list_pop mt_popAt (pe_var (X := X) (pos := px) (i := i) (by rw [g.N]; exact hN) (vis_of hv g.names) hd hcd) (pa_cons (ha X g Wx tk) pa_nil (hs _)) (hbase _) (hfew _) hline (hs _) rfl) ?_
  rintro σ H Q ⟨e, w, G, R, h⟩
  unfold Wp at h
  rw [ePopAt_eq] at h
  cases q : slotD e[i]? with
  | none => rw [q] at h; exact h.elim
  | some d =>
    rw [q] at h
    cases d with
    | lst ds =>
      obtain ⟨l, vs, hσ, hl⟩ := slot_lst R q
      refine ⟨.ref l, hσ, .inl ⟨rfl, vs, by rw [g.ok.K]; exact hl⟩, ?_⟩
      have h : Wp Γ S Wx σ (bnd ma fun o => bnd (look o) fun d => popStep i d) e w G _ := h
      refine ⟨e, w, G, R, (Wp.bnd h).mono fun o e1 w1 G1 H1 l1 R1 h1 v rv => ?_⟩
      obtain ⟨d, hd, h2⟩ := wp_look h1
      obtain ⟨xs, k, j, y, q1, rfl, k1, k2, q2, q3, h3⟩ := popStep_ok h2
      obtain ⟨us, hu, ru⟩ := own_lst R1 q1 hσ
      obtain ⟨yv, e3, ry⟩ := ru.get q3
      have ul := ru.length
      refine ⟨l, us, k, j, yv, rfl, by rw [(rv.view R1 hd).int], hu, by omega, by omega, ?_, e3, ?_⟩
      · rw [ul]; exact (ixN_seq q2).1
      · exact h3 G1 _ (.refl _) (R1.own_write q1 hσ ⟨_, upd_same, ru.erase j⟩) yv ry
    | _ => exact h.elim
/-! ### an own list goes into the store -/
def eRef (m : M Sl) : M Opd := bnd m fun s => fun e w => match s with
  | .own (.lst xs) => .ok (.d (.ref w.length)) e (w ++ [xs])
  | _ => .bad
theorem Rel.toMu (R : Rel Γ S G H σ e w) {a : Addr} {ds : List D} (r : RepRS Γ G H σ e (.own (.lst ds)) (.ref a)) : Rel Γ S { G with mu := G.mu ++ [a] } H σ e (w ++ [ds]) ∧ G.le { G with mu := G.mu ++ [a] } := by
  obtain ⟨⟨a', e1, f1, f2, f3, us, hu, ru⟩, ns⟩ := r
  cases e1
  have pm : G.mu <+: G.mu ++ [a] := List.prefix_append _ _
  have ml := R.st.mul
  refine ⟨⟨⟨R.st.sub, R.st.out, R.st.dis, by simp [ml], ?_, fun l b q => ?_, R.st.tab⟩, R.len, fun i s x q1 q2 => ?_, R.apart⟩, ⟨.refl _, rfl, pm⟩⟩
  · show (G.mu ++ [a]).Nodup
    refine List.nodup_append.mpr ⟨R.st.mun, by simp, fun x hx y hy => ?_⟩
    rw [List.mem_singleton] at hy
    subst hy
    intro z; subst z; exact f3 hx
  · have q : (G.mu ++ [a])[l]? = some b := q
    by_cases hl : l < G.mu.length
    · rw [List.getElem?_append_left hl] at q
      obtain ⟨h1, h2, xs, vs, h3, h4, h5⟩ := R.st.wel l b q
      refine ⟨h1, h2, xs, vs, ?_, h4, h5.mono (.refl _) pm⟩
      rw [List.getElem?_append_left (by omega)]; exact h3
    · rw [List.getElem?_append_right (by omega)] at q
      have hz : l - G.mu.length = 0 := by
        have := (List.getElem?_eq_some_iff.mp q).1
        simp at this; omega
      rw [hz] at q
      cases q
      refine ⟨f1, f2, ds, us, ?_, hu, ru.mono (.refl _) pm⟩
      rw [List.getElem?_append_right (by omega), show l - w.length = 0 by omega]; rfl
  · have h := R.slot i s x q1 q2
    cases s with
    | no => trivial
    | val d => obtain ⟨v, e1, r⟩ := h; exact ⟨v, e1, r.mono (.refl _) pm⟩
    | fn k g => obtain ⟨f, e1, c⟩ := h; exact ⟨f, e1, c.lt ⟨.refl _, pm⟩⟩
    | own d =>
      obtain ⟨b, e2, r1, r2, r3, r4⟩ := h
      refine ⟨b, e2, r1, r2, fun z => ?_, r4.keep (.refl _) pm rfl⟩
      have z : b ∈ G.mu ++ [a] := z
      rcases List.mem_append.mp z with z | z
      · exact r3 z
      · rw [List.mem_singleton] at z
        subst z
        exact ns _ rfl i d q1 (by rw [q2, e2])
theorem se_ref {mo : M Sl} (h : SO Γ S a mo) : SE Γ S a (eRef mo) := fun X g Wx tk => PE.imp (h X g Wx tk) fun σ H Q ⟨e, w, G, R, h⟩ =>
  ⟨e, w, G, R, (Wp.bnd h).mono fun r e1 w1 G1 H1 l1 R1 h1 v rv => by
    cases r with
    | own d =>
      cases d with
      | lst xs =>
        obtain ⟨⟨l, rfl, r0⟩, ns⟩ := rv
        obtain ⟨R2, l2⟩ := R1.toMu (a := l) (ds := xs) ⟨⟨l, rfl, r0⟩, ns⟩
        refine h1 _ H1 l2 R2 _ ?_
        show Rp Γ _ (.ref w1.length) (.ref l)
        unfold Rp RepD
        refine ⟨l, rfl, ?_⟩
        show (G1.mu ++ [l])[w1.length]? = some l
        rw [← R1.st.mul, List.getElem?_append_right (Nat.le_refl _), Nat.sub_self]; rfl
      | _ => exact h1.elim
    | _ => exact h1.elim⟩
/-! ### sorted(ints), list(range(..)) -/
def dSortI : D → Option D
  | .lst xs => (allI xs).map fun ns => .lst ((ns.mergeSort (fun a b => decide (a ≤ b))).map .int)
  | .scr ns => some (.lst ((ns.mergeSort (fun a b => decide (a ≤ b))).map .int))
  | _ => none
theorem sortI_eq {ns ns' : List Int} (h1 : ns'.Perm ns) (h2 : ns'.Pairwise (· ≤ ·)) : ns' = ns.mergeSort (fun a b => decide (a ≤ b)) := by
  have h3 : (ns.mergeSort (fun a b => decide (a ≤ b))).Pairwise (fun a b => decide (a ≤ b) = true) := List.pairwise_mergeSort (fun a b c => by simp; omega) (fun a b => by simp; omega) ns
  refine List.Perm.eq_of_pairwise (le := (· ≤ ·)) (fun a b _ _ => by omega) h2 (h3.imp fun h => by simpa using h) (h1.trans (List.mergeSort_perm ns _).symm)
variable {p : Pos}
theorem so_sorted (B : Blt Γ S "sorted") (ha : SE Γ S a ma) (he : ∀ env, starEach [a] env = (false, eval a env) :: starEach [] env := by intro _; rfl) : SO Γ S (.Call (.Name "sorted" p) [a] [] pos) (oUn dSortI ma) := by
  intro X g Wx tk
  have hc := cr_sortedI (X := X)
  rw [g.ok.K] at hc
  refine PE.imp (pe_callB hc (B.gl g) (B.no g) (by rfl) (pa_cons (ha X g Wx tk) pa_nil (he _)) (by decide) (by decide) (he _) rfl) ?_
  rintro σ H Q ⟨e, w, G, R, h⟩
  refine ⟨e, w, G, R, (Wp.bnd h).mono fun o e1 w1 G1 H1 l1 R1 h1 x rx => ?_⟩
  obtain ⟨u, hu, h1⟩ := wp_look h1
  obtain ⟨p, hp, h1⟩ := Wp.lift h1
  have vx := rx.view R1 hu
  cases u <;> simp only [dSortI] at hp <;> first | cases hp | skip
  · rename_i xs
    cases hi : allI xs with
    | none => rw [hi] at hp; cases hp
    | some ns =>
      rw [hi] at hp; cases hp
      obtain ⟨a, vs, rfl, q, r⟩ := vx.lst R1.st
      have ev := ints_of hi r
      subst ev
      refine ⟨a, ns, rfl, SqL.of q, fun ns' l pm pw hl => ?_⟩
      obtain ⟨R2, r2⟩ := own_new R1 hl (RepDs.of_ints (Γ := Γ) (F := G1.F) (mu := G1.mu) ns')
      rw [sortI_eq pm pw] at R2 r2 ⊢
      exact Wp.ret h1 R2 (.refl _) _ r2
  · obtain ⟨a, rfl, q⟩ := vx.scr R1.st
    refine ⟨a, _, rfl, q, fun ns' l pm pw hl => ?_⟩
    obtain ⟨R2, r2⟩ := own_new R1 hl (RepDs.of_ints (Γ := Γ) (F := G1.F) (mu := G1.mu) ns')
    rw [sortI_eq pm pw] at R2 r2 ⊢
    exact Wp.ret h1 R2 (.refl _) _ r2
def dRange1 : D → Option D
  | .int n => if -100000 ≤ n ∧ n ≤ 100000 then some (.lst ((List.range n.toNat).map fun (k : Nat) => .int k)) else none
  | _ => none
theorem so_listRange (B : Blt Γ S "list") (B2 : Blt Γ S "range") {p2 pos2 : Pos} (ha : SE Γ S a ma) (he : ∀ env, starEach [a] env = (false, eval a env) :: starEach [] env := by intro _; rfl)
    (he2 : ∀ env, starEach [.Call (.Name "range" p2) [a] [] pos2] env = (false, eval (.Call (.Name "range" p2) [a] [] pos2) env) :: starEach [] env := by intro _; rfl) :
    SO Γ S (.Call (.Name "list" p) [.Call (.Name "range" p2) [a] [] pos2] [] pos) (oUn dRange1 ma) := by
  intro X g Wx tk
  refine PE.imp (pe_listRg g.calm (B.gl g) (B.no g) (prg_1 (B2.gl g) (B2.no g) (ha X g Wx tk) (he _)) (he2 _)) ?_
  rintro σ H Q ⟨e, w, G, R, h⟩
  refine ⟨e, w, G, R, (Wp.bnd h).mono fun o e1 w1 G1 H1 l1 R1 h1 x rx => ?_⟩
  obtain ⟨u, hu, h1⟩ := wp_look h1
  obtain ⟨p, hp, h1⟩ := Wp.lift h1
  have vx := rx.view R1 hu
  cases u <;> simp only [dRange1] at hp <;> first | cases hp | skip
  rename_i n
  split at hp
  · rename_i hn
    cases hp
    refine ⟨n, by rw [vx.int], ⟨by omega, by omega, by omega, by omega, by omega⟩, fun l hl => ?_⟩
    have ev : rgV 0 n = (((List.range n.toNat).map fun (k : Nat) => (k : Int)).map V.int) := by
      unfold rgV
      rw [Int.sub_zero, List.map_map]
      congr 1
      funext k
      simp
    have ed : ((List.range n.toNat).map fun (k : Nat) => D.int (k : Int)) = ((List.range n.toNat).map fun (k : Nat) => (k : Int)).map D.int := by
      rw [List.map_map]; rfl
    rw [ev]
    obtain ⟨R2, r2⟩ := own_new R1 hl (RepDs.of_ints (Γ := Γ) (F := G1.F) (mu := G1.mu) ((List.range n.toNat).map fun (k : Nat) => (k : Int)))
    rw [ed] at h1
    exact Wp.ret h1 R2 (.refl _) _ r2
  · cases hp
end
end Mnd
/-! a, b = x, y; calls with keywords. -/
namespace Mnd
open PySem L2
section
variable {Γ : Cg} {S : Sc} {G G' : Gh} {H H' : Hp} {σ : L2.St} {e : Env} {w : W} {Wx : WX} {a b c : Expr} {ma mb mc : M Opd} {moa mob : M Sl} {mk : M (List Sl)} {pos p p2 ap : Pos} {x y : Str} {es : List Expr} {f : Fn} {j : Nat} {fa : Addr} {fd : FuncData} {ps ks : List Str}
/-- others own less -/
theorem Rel.dropZ {Z' : Hp} (R : Rel Γ S G H σ e w) (h : Sub Z' G.Z) : Rel Γ S { G with Z := Z' } H σ e w := by
  have nz : ∀ a, G.Z a = none → Z' a = none := fun a q => by
    cases z : Z' a with
    | none => rfl
    | some u => rw [h a u z] at q; cases q
  refine ⟨⟨R.st.sub, fun a u q => R.st.out _ _ (h a u q), fun a u q => R.st.dis _ _ (h a u q), R.st.mul, R.st.mun, fun l a q => ?_, R.st.tab.setZ fun a v q => .inl (h a v q)⟩, R.len, fun i s x q1 q2 => ?_, R.apart⟩
  · obtain ⟨h1, h2, r⟩ := R.st.wel l a q
    exact ⟨h1, nz a h2, r⟩
  · have h := R.slot i s x q1 q2
    cases s with
    | no => trivial
    | val d => exact h
    | fn k g => obtain ⟨f, e1, c⟩ := h; exact ⟨f, e1, c.lt ⟨.refl _, List.prefix_refl _⟩⟩
    | own d => obtain ⟨b, e2, r1, r2, r3, r4⟩ := h; exact ⟨b, e2, r1, nz b r2, r3, r4⟩
theorem WpR.withZ {α : Type} {r : MR α} {P : α → Env → W → Gh → Hp → Prop} {Z' : Hp} (h : WpR Γ S Wx σ r G P) (hz : Sub G.Z Z') : WpR Γ S Wx σ r { G with Z := Z' } fun a e' w' G' H' => P a e' w' { G' with Z := G.Z } H' := by
  cases r with
  | bad => exact h
  | ok a e' w' => exact fun G' H' l R => h _ H' ⟨l.F, rfl, l.mu⟩ (R.dropZ (Z' := G.Z) fun a u q => by rw [l.Z]; exact hz a u q)
  | ex x e' w' =>
    intro G' H' cls d l R rx
    refine h { G' with Z := G.Z } H' cls d ⟨l.F, rfl, l.mu⟩ (R.dropZ (Z' := G.Z) fun a u q => by rw [l.Z]; exact hz a u q) ?_
    cases x with
    | mk c arg => cases arg <;> exact rx
theorem sPar_eq (i j : Nat) (a b : M Sl) : sPar i j a b = bnd a fun s => bnd b fun t => bnd (put i s) fun _ => bnd (put j t) fun _ => ret .next := rfl
/-- a slot is stored; what is kept of another new value -/
theorem ss_par {i j : Nat} {px py pt : Pos} {kt k2 : Nat} {pt2 : Pos} (hi : S.N[i]? = some x) (hj : S.N[j]? = some y) (hij : i ≠ j) (hx : S.names.lookup x = some .local) (hy : S.names.lookup y = some .local) (ha : SO Γ S a moa) (hb : SO Γ S b mob)
    (hw : ∀ env : PySem.Env, env.scope.kind = .function → env.scope.names.lookup x = some .local → env.scope.names.lookup y = some .local → swappedStores [.Tuple [.Name x px, .Name y py] kt pt] (.Tuple [a, b] k2 pt2) env = pure (some [x, y]))
    (h1 : ∀ env, starEach [a, b] env = (false, eval a env) :: starEach [b] env := by intro _; rfl) (h2 : ∀ env, starEach [b] env = (false, eval b env) :: starEach [] env := by intro _; rfl)
    (hs : ∀ env, swapsWithSole [.Tuple [.Name x px, .Name y py] kt pt] (.Tuple [a, b] k2 pt2) pos.line env = pure false := by intro _; rfl) :
    SS Γ S (.Assign [.Tuple [.Name x px, .Name y py] kt pt] (.Tuple [a, b] k2 pt2) pos) (sPar i j moa mob) := by
  intro X g Wx tk
  have hxX : X.env.scope.names.lookup x = some .local := by rw [g.names]; exact hx
  have hyX : X.env.scope.names.lookup y = some .local := by rw [g.names]; exact hy
  refine PS.imp (ps_par (i := i) (j := j) g.calm (by rw [g.N]; exact g.nd) (by rw [g.N]; exact hi) (by rw [g.N]; exact hj) hij hxX hyX (pa_cons (ha X g Wx tk) (pa_cons (hb X g Wx tk) pa_nil (h2 _)) (h1 _)) (hw _ g.kind hxX hyX) (hs _)) ?_
  rintro D σ H ⟨e, w, G, R, h⟩
  rw [sPar_eq] at h
  refine ⟨e, w, G, R, (WpT.bndE h σ).mono fun s e1 w1 G1 H1 l1 R1 h1 v rv => ?_⟩
  -- the second value, the first one kept
  have fin : ∀ (G2 : Gh) (H2 : Hp) (t : Sl) (e2 : Env) (w2 : W) (u : V), Rel Γ S G2 H2 σ e2 w2 → RepRS Γ G2 H2 σ e2 s v → RepRS Γ G2 H2 σ e2 t u → (∀ d d', s = .own d → t = .own d' → v ≠ u) →
      WpT Γ S Wx (bnd (put i s) fun _ => bnd (put j t) fun _ => ret Flow.next) e2 w2 G2 (EndP Γ D) → D.nx ((σ.set i (some v)).set j (some u)) H2 := fun G2 H2 t e2 w2 u R2 rs rt ne h2 => by
    have R3 := R2.putR (i := i) rs
    have rt3 : RepRS Γ G2 H2 (σ.set i (some v)) (e2.set i s) t u := ⟨rt.1, fun d hd m d' q1 q2 => by
      rcases List.getElem?_set_cases q1 with ⟨hm, e1, hl⟩ | ⟨hne, q1⟩
      · have hl2 : i < σ.length := by rw [← R2.len]; exact hl
        rw [← hm, List.getElem?_set_self hl2] at q2
        cases q2
        exact ne d' d e1 hd rfl
      · rw [List.getElem?_set_ne hne] at q2
        exact rt.2 d hd m d' q1 q2⟩
    have R4 := R3.putR (i := j) rt3
    exact WpT.ret (P := EndP Γ D) (wpT_put (wpT_put h2)) R4 (.refl _)
  by_cases hown : ∃ d, s = .own d
  · obtain ⟨d, rfl⟩ := hown
    obtain ⟨⟨l, rfl, f1, f2, f3, r4⟩, ns⟩ := rv
    obtain ⟨o, ho⟩ : ∃ u, H1 l = some u := OwnOk.lt_of (G := G1) ⟨f1, f2, f3, r4⟩
    have so := OwnOk.seq (G := G1) ⟨f1, f2, f3, r4⟩ ho
    have R1z := R1.addZ ho f1 f3 (ns d rfl) so
    have sz : Sub G1.Z (upd G1.Z l o) := fun a u q => by rw [upd_ne fun z => by rw [z, f2] at q; cases q]; exact q
    refine ⟨e1, w1, _, R1z, WpR.mono (WpR.withZ (WpT.bndE h1 σ) sz) fun t e2 w2 G2 H2 l2 R2 h2 u ru => ?_⟩
    have hz2 : G2.Z l = some o := by rw [l2.Z]; exact upd_same
    have ho2 : H2 l = some o := R2.st.out _ _ hz2
    have f1' := R2.st.dis _ _ hz2
    have f3' : l ∉ G2.mu := fun z => by
      obtain ⟨k, hk⟩ := List.getElem?_of_mem z
      have := (R2.st.wel k l hk).2.1
      rw [hz2] at this; cases this
    have R2z := R2.dropZ (Z' := G1.Z) (fun a u q => by rw [l2.Z]; exact sz a u q)
    have rs : RepRS Γ { G2 with Z := G1.Z } H2 σ e2 (.own d) (.ref l) := by
      refine ⟨⟨l, rfl, f1', f2, f3', r4.keep l2.F l2.mu (by rw [ho2, ho])⟩, fun d' _ i' d2 q1 q2 => ?_⟩
      obtain ⟨b, e3, z1, z2, _⟩ := R2.slot i' _ _ q1 q2
      cases e3
      rw [hz2] at z2; cases z2
    have hu : RepRS Γ { G2 with Z := G1.Z } H2 σ e2 t u ∧ ∀ d', t = .own d' → V.ref l ≠ u := by
      cases t with
      | no => exact ⟨⟨ru.1, fun d z => nomatch z⟩, fun d z => nomatch z⟩
      | val d' => exact ⟨⟨ru.1, fun d z => nomatch z⟩, fun d z => nomatch z⟩
      | fn k g => exact ⟨⟨ru.1, fun d z => nomatch z⟩, fun d z => nomatch z⟩
      | own d' =>
        obtain ⟨⟨b, rfl, z1, z2, z3, z4⟩, ns2⟩ := ru
        have nb : b ≠ l := fun z => by rw [z, hz2] at z2; cases z2
        refine ⟨⟨⟨b, rfl, z1, ?_, z3, z4⟩, ns2⟩, fun _ _ z => nb (by cases z; rfl)⟩
        rw [l2.Z] at z2
        have z2 : upd G1.Z l o b = none := z2
        rw [upd_ne nb] at z2; exact z2
    exact ⟨_, _, rfl, fin _ H2 t e2 w2 u R2z rs hu.1 (fun d1 d2 _ q => hu.2 d2 q) h2⟩
  · refine ⟨e1, w1, G1, R1, (WpT.bndE h1 σ).mono fun t e2 w2 G2 H2 l2 R2 h2 u ru => ?_⟩
    have rs : RepRS Γ G2 H2 σ e2 s v := by
      cases s with
      | no => exact rv.1.elim
      | fn k g => exact rv.1.elim
      | val d => exact ⟨Rp.le l2.lt rv.1, fun d z => nomatch z⟩
      | own d => exact absurd ⟨d, rfl⟩ hown
    exact ⟨_, _, rfl, fin G2 H2 t e2 w2 u R2 rs ru (fun d d' q => absurd ⟨d, q⟩ hown) h2⟩
/-! ### calls with keywords -/
def SKw (Γ : Cg) (S : Sc) (kws : List Keyword) (m : M (List D)) : Prop := ∀ X, Good Γ S X → ∀ Wx, Takes X Wx → PK X kws (tA Γ S Wx m)
theorem PK.imp {X : Cx} {kws : List Keyword} {t t' : TA} (h : PK X kws t) (i : ∀ σ H Q, t' σ H Q → t σ H Q) : PK X kws t' := ⟨fun pos pins s σ H Q I q => h.run pos pins s σ H Q I (i σ H Q q)⟩
variable {kws : List Keyword} {ms mz : M (List D)} {nm : Option Str} {kpos : Pos}
theorem skw_nil : SKw Γ S [] aNil := fun X g Wx tk => PK.imp pk_nil fun σ H Q ⟨e, w, G, R, h⟩ => Wp.ret h R (.refl _) _ .nil
theorem skw_cons (ha : SE Γ S a ma) (hr : SKw Γ S kws mz) : SKw Γ S (⟨nm, a, kpos⟩ :: kws) (aCons ma mz) :=
  fun X g Wx tk => PK.imp (pk_cons (ha X g Wx tk) (hr X g Wx tk)) fun σ H Q ⟨e, w, G, R, h⟩ =>
    ⟨e, w, G, R, (Wp.bnd h).mono fun o e1 w1 G1 H1 l1 R1 h1 x rx => by
      obtain ⟨d, e2, G2, l2, R2, rd, h2⟩ := wp_frz h1 R1 rx
      exact ⟨e2, w1, G2, R2, (Wp.bnd h2).mono fun ds e3 w3 G3 H3 l3 R3 h3 vs rs => Wp.ret h3 R3 (.refl _) _ (.cons (Rp.le l3.lt rd) rs)⟩⟩
/-- f(k = e, ..): all by name -/
theorem so_callKw {g0 : List Value → List Value → List Value} {gV : List V → List V → List V} {pm : List D → List D} (C : Callee Γ S x f fa fd ps) (hb : KBinds Γ.K fd ps ks g0 gV) (hpm : ∀ (G : Gh) ds vs, Rps Γ G ds vs → Rps Γ G (pm ds) (gV [] vs)) (hk : SKw Γ S kws mz)
    (hall : ∀ env, (backToKw pos (keywordEach kws env)).all (·.1.isSome) = true := by intro _; rfl) (hks : ∀ env, (backToKw pos (keywordEach kws env)).filterMap (·.1) = ks := by intro _; rfl)
    (hdb : (x == ("__debug__" : Str)) = false := by decide +kernel)
    (hpl : ∀ env, ((backTo pos (starEach [] env)).any (·.1) || (backToKw pos (keywordEach kws env)).any (·.1.isNone)) = false := by intro _; rfl) : SO Γ S (.Call (.Name x p) [] kws pos) (callV f pm mz) := by
  intro X g Wx tk
  obtain ⟨j, hj, F⟩ := C.ex
  refine ⟨fun pins s σ H Q I h => ?_⟩
  obtain ⟨e, w, G, R, h⟩ := h
  refine wpAny_Call_Name_kw (ld_glob I (C.gl g) (by rw [g.ok.mg]; exact C.mg) ?_ hdb)
  refine PySem.W.callWith_KW0 (K := X.K) (h₀ := X.base) (first := []) I.ok.mod.kin (by rw [g.ok.K]; exact C.kp) (hall _) (thn ((hk X g Wx tk).run pos pins s σ H (fun vs H1 => ∃ ds e1 w1 G1, Rel Γ S G1 H1 σ e1 w1 ∧ Rps Γ G1 ds vs ∧ WpR Γ S Wx σ (callR (f ((pm ds).map .val) w1) e1) G1 fun r e' w' G' H' => ∀ v, RepRS Γ G' H' σ e' r v → Q v H') I
    ⟨e, w, G, R, (Wp.bnd h).mono fun ds e1 w1 G1 H1 l1 R1 h1 vs rv => ⟨ds, e1, w1, G1, R1, rv, h1⟩⟩) fun ws s2 ⟨zs, H2, I2, rz, ds, e1, w1, G1, R1, rd, h1⟩ => ⟨I2.kIn, ?_⟩) (hpl _)
  rw [hks]
  refine run_call g tk F hj I2 R1 (fun hl => ?_) (hb.rel .nil rz) (reps_val (hpm _ _ _ rd)) h1
  exact hb.to s2 [] ws (by have := I2.kIn; rw [g.ok.K] at this; exact this) hl
end
end Mnd
/-! Defs by name; the end. -/
namespace Mnd
open PySem L2
/-- the def x of the module does as f tells, in room k -/
structure DefOk (Γ : Cg) (x : Str) (f : Fn) (ps : List Str) (k : Nat) : Prop where
  ex : ∃ fa fd, Γ.mg x = some (.ref fa) ∧ PySem.W.keepIn Γ.K (.ref fa) = true ∧ (∃ oc od osl, Γ.K.lookup fa = some ⟨oc, od, .func fd, osl⟩) ∧ FnS Γ k fa fd ps f ∧ L2.Binds Γ.K fd ps []
section
variable {Γ : Cg} {S : Sc} {a b : Expr} {ma mb : M Opd} {mk : M (List Sl)} {ms mz : M (List D)} {pos p : Pos} {x y : Str} {es : List Expr} {f : Fn} {k : Nat} {ps ks : List Str}
theorem DefOk.callee (F : DefOk Γ x f ps k) (hn : S.names.lookup x = some .globalImplicit) (hk : k ≤ S.k) : ∃ fa fd, Callee Γ S x f fa fd ps ∧ FnS Γ k fa fd ps f ∧ L2.Binds Γ.K fd ps [] := by
  obtain ⟨fa, fd, h1, h2, h3, h4, h5⟩ := F.ex
  exact ⟨fa, fd, ⟨hn, h1, h2, h3, k, hk, h4⟩, h4, h5⟩
theorem c_v (F : DefOk Γ x f ps k) (hn : S.names.lookup x = some .globalImplicit) (hk : k ≤ S.k) (ha : SA Γ S (a :: es) ms) (hdb : (x == ("__debug__" : Str)) = false := by decide +kernel)
    (he : ∀ env, starEach (a :: es) env = (false, eval a env) :: starEach es env := by intro _; rfl) (hpl : ∀ env, (backTo pos (starEach es env)).any (·.1) = false := by intro _; rfl) : SO Γ S (.Call (.Name x p) (a :: es) [] pos) (callV f id ms) := by
  obtain ⟨fa, fd, C, _, B⟩ := F.callee hn hk
  exact so_call C B ha hdb he hpl
theorem c_0 (F : DefOk Γ x f [] k) (hn : S.names.lookup x = some .globalImplicit) (hk : k ≤ S.k) (hdb : (x == ("__debug__" : Str)) = false := by decide +kernel) : SO Γ S (.Call (.Name x p) [] [] pos) (callV f id aNil) := by
  obtain ⟨fa, fd, C, _, B⟩ := F.callee hn hk
  exact so_call0 C B hdb
theorem c_k (F : DefOk Γ x f ps k) (hn : S.names.lookup x = some .globalImplicit) (hk : k ≤ S.k) (ha : SK' Γ S (a :: es) mk) (hdb : (x == ("__debug__" : Str)) = false := by decide +kernel)
    (he : ∀ env, starEach (a :: es) env = (false, eval a env) :: starEach es env := by intro _; rfl) (hpl : ∀ env, (backTo pos (starEach es env)).any (·.1) = false := by intro _; rfl) : SO Γ S (.Call (.Name x p) (a :: es) [] pos) (call f mk) := by
  obtain ⟨fa, fd, C, _, B⟩ := F.callee hn hk
  exact so_callK C B ha hdb he hpl
theorem k_def (F : DefOk Γ x f ps k) (hn : S.names.lookup x = some .globalImplicit) (hk : k ≤ S.k) (hr : SK' Γ S es mk) (hdb : (x == ("__debug__" : Str)) = false := by decide +kernel) : SK' Γ S (.Name x p :: es) (kDef k (cloOf f) mk) := by
  obtain ⟨fa, fd, C, F', B⟩ := F.callee hn hk
  exact sk_def C F' B hr hdb
/-- .. called by names -/
def pmI (idx : List Nat) {α : Type} (l : List α) : List α := if l.length = idx.length then idx.filterMap fun i => l[i]? else []
theorem pmI_len {α β : Type} {idx : List Nat} {l : List α} {r : List β} (h : l.length = r.length) : (pmI idx l).length = (pmI idx r).length := by
  unfold pmI
  by_cases q : l.length = idx.length
  · rw [if_pos q, if_pos (by omega)]
    clear q
    induction idx with
    | nil => rfl
    | cons i idx ih =>
      by_cases hi : i < l.length
      · rw [List.filterMap_cons, List.filterMap_cons, List.getElem?_eq_getElem hi, List.getElem?_eq_getElem (show i < r.length by omega)]
        simp [ih]
      · rw [List.filterMap_cons, List.filterMap_cons, List.getElem?_eq_none (by omega), List.getElem?_eq_none (by omega)]
        exact ih
  · rw [if_neg q, if_neg (by omega)]; rfl
theorem pmI_vals {idx : List Nat} {vs : List V} {us : List Value} (h : Vals vs us) : Vals (pmI idx vs) (pmI idx us) := by
  have hl := h.length
  unfold pmI
  by_cases q : vs.length = idx.length
  · rw [if_pos q, if_pos (by omega)]
    clear q
    induction idx with
    | nil => exact .nil
    | cons i idx ih =>
      rw [List.filterMap_cons, List.filterMap_cons]
      cases e : vs[i]? with
      | none =>
        have : us[i]? = none := List.getElem?_eq_none (by have := List.getElem?_eq_none_iff.mp e; omega)
        rw [this]; exact ih
      | some v =>
        obtain ⟨u, eu, ru⟩ := h.get e
        rw [eu]; exact .cons ru ih
  · rw [if_neg q, if_neg (by omega)]; exact .nil
theorem pmI_rps {Γ : Cg} {G : Gh} {idx : List Nat} {ds : List D} {vs : List V} (h : Rps Γ G ds vs) : Rps Γ G (pmI idx ds) (pmI idx vs) := by
  have hl := h.length
  unfold pmI
  by_cases q : ds.length = idx.length
  · rw [if_pos q, if_pos (by omega)]
    clear q
    induction idx with
    | nil => exact .nil
    | cons i idx ih =>
      rw [List.filterMap_cons, List.filterMap_cons]
      cases e : ds[i]? with
      | none =>
        have : vs[i]? = none := List.getElem?_eq_none (by have := List.getElem?_eq_none_iff.mp e; omega)
        rw [this]; exact ih
      | some v =>
        obtain ⟨u, eu, ru⟩ := h.get e
        rw [eu]; exact .cons ru ih
  · rw [if_neg q, if_neg (by omega)]; exact .nil
structure DefKw (Γ : Cg) (x : Str) (f : Fn) (ps ks : List Str) (idx : List Nat) (k : Nat) : Prop where
  ex : ∃ fa fd g, Γ.mg x = some (.ref fa) ∧ PySem.W.keepIn Γ.K (.ref fa) = true ∧ (∃ oc od osl, Γ.K.lookup fa = some ⟨oc, od, .func fd, osl⟩) ∧ FnS Γ k fa fd ps f ∧ KBinds Γ.K fd ps ks g (fun vs zs => match vs with
    | [] => pmI idx zs
    | _ => [])
variable {kws : List Keyword} {idx : List Nat}
theorem c_kw (F : DefKw Γ x f ps ks idx k) (hn : S.names.lookup x = some .globalImplicit) (hk : k ≤ S.k) (hz : SKw Γ S kws mz)
    (hall : ∀ env, (backToKw pos (keywordEach kws env)).all (·.1.isSome) = true := by intro _; rfl) (hks : ∀ env, (backToKw pos (keywordEach kws env)).filterMap (·.1) = ks := by intro _; rfl)
    (hdb : (x == ("__debug__" : Str)) = false := by decide +kernel)
    (hpl : ∀ env, ((backTo pos (starEach [] env)).any (·.1) || (backToKw pos (keywordEach kws env)).any (·.1.isNone)) = false := by intro _; rfl) : SO Γ S (.Call (.Name x p) [] kws pos) (callV f (pmI idx) mz) := by
  obtain ⟨fa, fd, g, h1, h2, h3, h4, h5⟩ := F.ex
  exact so_callKw (fa := fa) (fd := fd) ⟨hn, h1, h2, h3, k, hk, h4⟩ h5 (fun G ds vs r => pmI_rps r) hz hall hks hdb hpl
/-- nothing is promised -/
theorem fnS_bad {fa : Addr} {fd : FuncData} : FnS Γ k fa fd ps (fun _ _ => .bad) := ⟨fun _ _ _ => rfl, fun A outer s H args us vs sls w G Q E hr e0 hb r hl R ra h => h.elim⟩
/-- two names stored from the right -/
def noStar : Expr → Bool
  | .Starred .. => false
  | _ => true
theorem swap2 {px py pt pt2 : Pos} {kt k2 : Nat} (hne : (x == y) = false) (hl : (py.line == px.line) = true) (hsa : noStar a = true) (hsb : noStar b = true) (hf : [a, b].all (foldedForSure 8) = false) (hc : [a, b].all (constantsAlone 8) = false) :
    ∀ env : PySem.Env, env.scope.kind = .function → env.scope.names.lookup x = some .local → env.scope.names.lookup y = some .local → swappedStores [.Tuple [.Name x px, .Name y py] kt pt] (.Tuple [a, b] k2 pt2) env = pure (some [x, y]) := by
  intro env hk hx hy
  have bk : (env.blockKind != .function) = false := by unfold Env.blockKind; rw [hk]; rfl
  have kx : env.kindOf x = some .local := hx
  have ky : env.kindOf y = some .local := hy
  have e1 : (some NameKind.local == some NameKind.local) = true := by decide
  have nyx : (y == x) = false := by
    cases q : y == x with
    | false => rfl
    | true => rw [eq_of_beq q] at hne; simp at hne
  unfold swappedStores
  simp only [pure_bind]
  rw [if_neg (by rw [bk]; simp)]
  rw [if_neg (by
    intro h
    simp only [List.any_cons, List.any_nil, Bool.or_false, Bool.or_eq_true] at h
    rcases h with h | h
    · split at h
      · cases hsa
      · cases h
    · split at h
      · cases hsb
      · cases h)]
  have ed : [x, y].eraseDups = [x, y] := by
    simp [List.eraseDups_cons, nyx]
  simp only [List.filterMap_cons, List.filterMap_nil, kx, ky, e1, List.head?_cons, Option.map_some, Option.getD_some, Expr.pos, Bool.true_and, hl, beq_self_eq_true, if_true, ed, hf, hc]
  rfl
/-- a comprehension's list for a name that others see -/
theorem swapC {elt : Expr} {gs : List Comprehension} {sc : Scope} {p1 p2 : Pos} {l : Nat} (hy : S.names.lookup y = some .cell) :
    ∀ env : PySem.Env, env.scope.names = S.names → env.scope.kind = .function → swapsWith (.ListComp elt gs sc p1) (some (.Name y p2)) l env = pure false := by
  intro env hn hk
  have ky : env.kindOf y = some .cell := by show env.scope.names.lookup y = _; rw [hn]; exact hy
  have e1 : (some NameKind.cell == some NameKind.local) = false := by decide
  unfold swapsWith
  simp only [pure_bind]
  rw [ky, e1]
  simp
/-- .. not so where places of rows are stored -/
theorem swapN {px py pt pt2 : Pos} {kt k2 : Nat} {o1 o2 i1 i2 : Expr} : ∀ env : PySem.Env, swappedStores [.Tuple [.Subscript o1 i1 px, .Subscript o2 i2 py] kt pt] (.Tuple [a, b] k2 pt2) env = pure none := by
  intro env
  unfold swappedStores
  simp only [pure_bind]
  split
  · rfl
  · split
    · rfl
    · simp only [List.filterMap_cons, List.filterMap_nil]
      rfl
/-! ### the end -/
def keepF (H : Hp) (a : Addr) : Hp := fun b => if b = a then (match H a with
  | some o => if noTbl o = true then some o else none
  | none => none) else none
theorem keepF_sub (H : Hp) (a : Addr) : Sub (keepF H a) H := fun b o h => by
  unfold keepF at h
  split at h
  · rename_i e
    subst e
    split at h
    · rename_i u q
      split at h
      · cases h; exact q
      · cases h
    · cases h
  · cases h
theorem keepF_no (H : Hp) (a b : Addr) (ps : Array Value) : keepF H a b ≠ some (.tbl ps) := fun h => by
  unfold keepF at h
  split at h
  · split at h
    · split at h
      · rename_i z
        cases h; cases z
      · cases h
    · cases h
  · cases h
theorem keepF_at {K : PySem.W.Frag} {H : Hp} {a : Addr} {vs : List V} (h : SqL K H a vs) : SqL K (keepF H a) a vs := by
  have at_ : ∀ o, H a = some o → noTbl o = true → keepF H a a = some o := fun o e n => by
    unfold keepF
    rw [if_pos rfl, e]
    show (if noTbl o = true then some o else none) = some o
    rw [if_pos n]
  rcases h with h | h
  · rcases h with h | ⟨o, h⟩
    · exact .inl (.inl (at_ _ h rfl))
    · exact .inl (.inr ⟨o, at_ _ h rfl⟩)
  · exact .inr h
/-- what the law's promise asks -/
def spLaw (K : PySem.W.Frag) (cs : List (Addr × Addr)) (n : Nat) : Sp := fun vs H Q _ => ∃ (a : Addr) (ns : List Int), vs = [V.ref a] ∧ ns.length ≤ n ∧ (∀ z ∈ ns, Builtin.Int.intBits z ≤ 1048576) ∧ (∀ p ∈ cs, H p.2 = some (.tbl #[])) ∧ SqL K H a (ns.map V.int) ∧ ∀ H', Q (.bl true) H'
theorem fnOk_of {Γ : Cg} {k n : Nat} {fa : Addr} {fd : FuncData} {x : Str} {f : Fn} {cs : List (Addr × Addr)} (F : FnS Γ k fa fd [x] f) (hT : ∀ p ∈ Γ.T, ∃ q ∈ cs, p.1 = q.2)
    (hf : ∀ ns : List Int, ns.length ≤ n → (∀ z ∈ ns, Builtin.Int.intBits z ≤ 1048576) → ∃ w', f [.val (.scr ns)] [] = .ok (.val (.bl true)) w') : FnOk Γ.P Γ.w Γ.K Γ.mg Γ.base (L2.CX Γ.P Γ.w) k fa fd [x] (spLaw Γ.K cs n) := by
  refine ⟨fun vs H Q E h => ?_, fun A outer s H args us vs Q E hr e0 hb r h => ?_⟩
  · obtain ⟨a, ns, rfl, _⟩ := h
    rfl
  · obtain ⟨a, ns, rfl, hl, hbits, ht, hs, hq⟩ := h
    obtain ⟨w', hw⟩ := hf ns hl hbits
    let G : Gh := ⟨keepF H a, fun _ => none, []⟩
    have tb : LamX.Tabs Γ.T H := fun p hp => by
      obtain ⟨q, hq, e⟩ := hT p hp
      rw [e]
      exact LamX.TabS.nil (ht q hq)
    have RW : RelW Γ G H [] := by
      refine ⟨keepF_sub H a, ?_, ?_, rfl, List.nodup_nil, ?_, tb, fun b ps => keepF_no H a b ps, ?_⟩
      · intro b o z; cases z
      · intro b o z; cases z
      · intro l b z
        have z : ([] : List Addr)[l]? = some b := z
        simp at z
      · intro b o z; cases z
    refine F.run A outer s H args us [.ref a] [.val (.scr ns)] [] G Q E hr e0 hb r rfl RW ⟨.ref a, [], rfl, ?_, rfl⟩ ?_
    · show Rp Γ G (.scr ns) (.ref a)
      unfold Rp RepD
      exact ⟨a, rfl, keepF_at hs⟩
    · unfold FWp
      rw [hw]
      intro G' H' v l R rv
      have e : v = .bl true := by
        have rv : Rp Γ G' (.bl true) v := rv
        unfold Rp RepD at rv; exact rv
      rw [e]; exact hq H'
theorem lawAtS_of {l : PySem.W.OpenLaw} {w : World} {K : PySem.W.Frag} {k n : Nat} {x : Str} {mg : Str → Option Value} {fa : Addr} {h : Heap} {fd : FuncData} {cs : List (Addr × Addr)} {T : List (Addr × Str)} {C : Addr} {kc : Bool} {f : Fn}
    (h1 : ∀ p ∈ cs, h.get? p.2 = some { cls := .none, data := .fields #[] }) (h2 : ∀ p ∈ cs, K.lookup p.2 = none) (h3 : ∀ p ∈ cs, PySem.W.CodeHd h p.1 p.2) (hb : ∀ (s : Shared) (u : Value), BindsTo s fd ⟨[u], []⟩ [(x, u)])
    (hT : ∀ p ∈ T, ∃ q ∈ cs, p.1 = q.2) (hf : ∀ ns : List Int, ns.length ≤ n → (∀ z ∈ ns, Builtin.Int.intBits z ≤ 1048576) → ∃ w', f [.val (.scr ns)] [] = .ok (.val (.bl true)) w')
    (F : ∀ base : Heap, K.In base → base.Ns mainGlobals mg → (∀ p ∈ cs, LamX.TabB base mg p.1 p.2) → FnS ⟨l.prog, w, K, mg, base, C, T, kc⟩ k fa fd [x] f) : LamX.LawAtS l w K (L2.CX l.prog w) k n x mg fa h :=
  ⟨fd, cs, spLaw K cs n, h1, h2, h3, hb, fun H a ns hl hbits ht hs => ⟨a, ns, rfl, hl, hbits, ht, hs, fun _ => rfl⟩, fun base hk hn hB => fnOk_of (F base hk hn hB) hT hf⟩
/-! ### facts -/
theorem globD_int {Γ : Cg} {x : Str} {i : Int} (h : ∃ t, Γ.mg x = some (.int i t)) : GlobD Γ x (.int i) := by
  obtain ⟨t, h⟩ := h
  exact ⟨.int i, _, h, ⟨t, rfl⟩, fun G => rp_int i⟩
theorem globD_str {Γ : Cg} {x z : Str} (h : ∃ t, Γ.mg x = some (.str z t)) : GlobD Γ x (.str z) := by
  obtain ⟨t, h⟩ := h
  exact ⟨.str z, _, h, ⟨t, rfl⟩, fun G => rp_str z⟩
/-- a flat tuple of the module -/
theorem globD_tup {Γ : Cg} {x : Str} {ds : List D} {vs : List He.Dv} (hc : Γ.kc = true) (h : Γ.mg x = some (.ref (He.ga Γ.K x))) (hb : He.tupB Γ.K x vs = true) (hr : ∀ G, Rps Γ G ds (vs.map (He.Dv.v Γ.K))) : GlobD Γ x (.tup ds) :=
  ⟨.ref (He.ga Γ.K x), _, h, rfl, fun G => rp_tup ⟨He.tupB_ok hb G.F, fun z => by rw [hc] at z; cases z⟩ (hr G)⟩
/-! ### a def from its facts -/
theorem lk_of {Γ : Cg} {x qual : Str} {params : Arguments} {body : List Stmt} {sc : Scope} {dvs : List V} {kws : List (Str × V)} {fa : Addr} {fd : FuncData} (F : FunD Γ.K x qual params body sc dvs kws fa fd) : ∃ oc od osl, Γ.K.lookup fa = some ⟨oc, od, .func fd, osl⟩ := by
  obtain ⟨oc, od, dV, kV, doc, pm, an, cdv, ct, osl, e, lk, _⟩ := F.ex
  exact ⟨_, _, _, lk⟩
theorem defOk_of {Γ : Cg} {x qual : Str} {params : Arguments} {body : List Stmt} {sc : Scope} {kws : List (Str × V)} {fa : Addr} {fd : FuncData} {N ps : List Str} {k : Nat} {m : M Flow} (F : FunD Γ.K x qual params body sc [] kws fa fd) (gm : Γ.mg x = some (.ref fa)) (FS : FnScope N ps sc)
    (hb : ∀ h0 H0, SB Γ ⟨N, sc.names, k, true, fun _ => true, h0, H0, qual ++ ".<locals>.", fd.code⟩ body m)
    (bd : ∀ (kV doc pm : Value) (an : Option Addr) (cdv ct : Value) (us : List Value), us.length = ps.length → bindArgs (PySem.W.fnOf x qual params body sc .none kV doc pm an cdv ct) ⟨us, []⟩ = pure (ps.zip us)) : DefOk Γ x (mkFn N.length ps.length m) ps (k + 1) :=
  ⟨fa, fd, gm, F.kp, lk_of F, fnS_of F FS hb, F.bindsN bd⟩
theorem defBad {Γ : Cg} {x qual : Str} {params : Arguments} {body : List Stmt} {sc : Scope} {kws : List (Str × V)} {fa : Addr} {fd : FuncData} {ps : List Str} {k : Nat} (F : FunD Γ.K x qual params body sc [] kws fa fd) (gm : Γ.mg x = some (.ref fa))
    (bd : ∀ (kV doc pm : Value) (an : Option Addr) (cdv ct : Value) (us : List Value), us.length = ps.length → bindArgs (PySem.W.fnOf x qual params body sc .none kV doc pm an cdv ct) ⟨us, []⟩ = pure (ps.zip us)) : DefOk Γ x (fun _ _ => .bad) ps k :=
  ⟨fa, fd, gm, F.kp, lk_of F, fnS_bad, F.bindsN bd⟩
theorem defKw_of {Γ : Cg} {x qual : Str} {params : Arguments} {body : List Stmt} {sc : Scope} {kws : List (Str × V)} {fa : Addr} {fd : FuncData} {ps ks : List Str} {idx : List Nat} {k : Nat} {f : Fn} (F : FunD Γ.K x qual params body sc [] kws fa fd) (gm : Γ.mg x = some (.ref fa)) (D : DefOk Γ x f ps k) (hps : ps ≠ []) (hi : idx.length = ks.length)
    (bd : ∀ (kV doc pm : Value) (an : Option Addr) (cdv ct : Value) (ws : List Value), ws.length = ks.length → bindArgs (PySem.W.fnOf x qual params body sc .none kV doc pm an cdv ct) ⟨[], ks.zip ws⟩ = pure (ps.zip (pmI idx ws))) : DefKw Γ x f ps ks idx k := by
  obtain ⟨fa', fd', h1, h2, h3, h4, h5⟩ := D.ex
  rw [gm] at h1
  cases h1
  have e : fd' = fd := by
    obtain ⟨oc, od, osl, l1⟩ := h3
    obtain ⟨oc2, od2, osl2, l2⟩ := lk_of F
    rw [l1] at l2
    cases l2; rfl
  subst e
  refine ⟨fa, fd', (fun us ws => match us with | [] => pmI idx ws | _ => []), gm, h2, h3, h4, ⟨fun s us ws hk hl => ?_, fun {vs us zs ws} r rz => ?_⟩⟩
  · cases us with
    | nil =>
      have hl : (pmI idx ws).length = ps.length := hl
      obtain ⟨oc, od, dV, kV, doc, pm, an, cdv, ct, osl, rfl, lk, hcd, hD, hK⟩ := F.ex
      have hw : ws.length = ks.length := by
        by_cases q : ws.length = idx.length
        · omega
        · unfold pmI at hl
          rw [if_neg q] at hl
          exact absurd (List.length_eq_zero_iff.mp hl.symm) hps
      rcases hD with ⟨_, rfl⟩ | ⟨e, _⟩
      · exact .of_eq (bd kV doc pm an cdv ct ws hw)
      · exact absurd rfl e
    | cons u us =>
      have hl : ([] : List Value).length = ps.length := hl
      exact absurd (List.length_eq_zero_iff.mp hl.symm) hps
  · cases r with
    | nil => exact pmI_vals rz
    | cons _ _ => exact .nil
theorem DefOk.get {Γ : Cg} {x : Str} {f : Fn} {ps : List Str} {k : Nat} {fa : Addr} {fd : FuncData} (D : DefOk Γ x f ps k) (gm : Γ.mg x = some (.ref fa)) (lk : ∃ oc od osl, Γ.K.lookup fa = some ⟨oc, od, .func fd, osl⟩) : FnS Γ k fa fd ps f := by
  obtain ⟨fa', fd', h1, h2, h3, h4, h5⟩ := D.ex
  rw [gm] at h1
  cases h1
  obtain ⟨oc, od, osl, l1⟩ := h3
  obtain ⟨oc2, od2, osl2, l2⟩ := lk
  rw [l1] at l2
  cases l2
  exact h4
/-! ### tables -/
theorem code_of {K : PySem.W.Frag} {x qual : Str} {params : Arguments} {body : List Stmt} {sc : Scope} {dvs : List V} {kws : List (Str × V)} {p : He.Defn} {fd : FuncData} (F : FunD K x qual params body sc dvs kws (He.fAd K p) fd) : fd.code = .ref (He.cT K p).1 := by
  obtain ⟨oc, od, dV, kV, doc, pm, an, cdv, ct, osl, rfl, lk, hcd, _⟩ := F.ex
  obtain ⟨c, rfl⟩ := He.codeIn_ref hcd
  show Value.ref c = _
  rw [show (He.cT K p).1 = He.codeOf K p from rfl, He.codeOf_eq lk rfl]
def tabT (K : PySem.W.Frag) (tf : List He.Defn) : List (Addr × Str) := tf.map fun p => ((He.cT K p).2, (p.1 ++ ".<locals>.") ++ "<lambda>")
theorem nodup_map {α β : Type} {g : α → β} : ∀ {l : List α} {x y : α}, (l.map g).Nodup → x ∈ l → y ∈ l → g x = g y → x = y
  | [], _, _, _, h, _, _ => nomatch h
  | a :: l, x, y, nd, hx, hy, e => by
    rw [List.map_cons, List.nodup_cons] at nd
    rcases List.mem_cons.mp hx with h1 | h1 <;> rcases List.mem_cons.mp hy with h2 | h2
    · rw [h1, h2]
    · exact absurd (List.mem_map.mpr ⟨y, h2, by rw [← e, h1]⟩) nd.1
    · exact absurd (List.mem_map.mpr ⟨x, h1, by rw [e, h2]⟩) nd.1
    · exact nodup_map nd.2 h1 h2 e
theorem lamT_of {Γ : Cg} {S : Sc} {tf : List He.Defn} {d : He.Defn} (hT : Γ.T = tabT Γ.K tf) (hd : d ∈ tf) (nd : (tf.map fun p => (He.cT Γ.K p).2).Nodup) (hq : S.qual = d.1 ++ ".<locals>.") (hc : S.code = .ref (He.cT Γ.K d).1) (tb : LamX.TabB Γ.base Γ.mg (He.cT Γ.K d).1 (He.cT Γ.K d).2) : LamT Γ S := by
  refine ⟨_, _, hc, tb, ?_, fun p hp e => ?_⟩
  · rw [hT, hq]
    exact List.mem_map.mpr ⟨d, hd, rfl⟩
  · rw [hT] at hp
    obtain ⟨y, hy, rfl⟩ := List.mem_map.mp hp
    have : y = d := nodup_map (g := fun p => (He.cT Γ.K p).2) nd hy hd e
    subst this
    rw [hq]
end
end Mnd
/-! in, not in; lcm; index. -/
namespace Mnd
open PySem L2
/-- x in ys -/
def dInB (x y : D) : Option Bool := match x.py, y.py with
  | some a, some (.list ds) => if SeqAt.shaped a && SeqAt.shaped (.list ds) then some (ds.any fun z => PyData.eqv z a) else none
  | some a, some (.tuple ds) => if SeqAt.shaped a && SeqAt.shaped (.tuple ds) then some (ds.any fun z => PyData.eqv z a) else none
  | _, _ => none
def dIn (x y : D) : Option D := (dInB x y).map .bl
def dNotIn (x y : D) : Option D := (dInB x y).map fun b => .bl (!b)
def rInTd (K : PySem.W.Frag) (n : Bool) : R2 := fun x y H Q => ∃ a ys, Dp K H x a ∧ Dp K H y (.tuple ys) ∧ SeqAt.shaped a = true ∧ SeqAt.shaped (.tuple ys) = true ∧ Q (.bl (xor n (ys.any fun z => PyData.eqv z a))) H
theorem op_inTd {X : Cx} (hu : X.A.units + 65 < cLine) : OpR X (compareOp .In) (rInTd X.K false) := by
  intro pins s σ H x y v u Q I rx ry h
  obtain ⟨a, ys, ha, hy, sa, sy, q⟩ := h
  obtain ⟨as, ra⟩ := Dp.reads I a x v ha rx
  obtain ⟨bs, rb⟩ := Dp.reads I (.tuple ys) y u hy ry
  rw [Bool.false_xor] at q
  exact SeqAt.in_tuple_reads rb ra (SeqAt.canLay_of_shaped sy) (SeqAt.canLay_of_shaped sa) (PyProof.Rows.room_in_shaped sa hu) ⟨.bl _, H, I, rfl, q⟩
theorem op_notInTd {X : Cx} (hu : X.A.units + 65 < cLine) : OpR X (compareOp .NotIn) (rInTd X.K true) := by
  intro pins s σ H x y v u Q I rx ry h
  obtain ⟨a, ys, ha, hy, sa, sy, q⟩ := h
  obtain ⟨as, ra⟩ := Dp.reads I a x v ha rx
  obtain ⟨bs, rb⟩ := Dp.reads I (.tuple ys) y u hy ry
  rw [Bool.true_xor] at q
  exact SeqAt.notIn_tuple_reads rb ra (SeqAt.canLay_of_shaped sy) (SeqAt.canLay_of_shaped sa) (PyProof.Rows.room_in_shaped sa hu) ⟨.bl _, H, I, rfl, q⟩
section
variable {Γ : Cg} {S : Sc} {G G' : Gh} {H H' : Hp} {σ : L2.St} {e : Env} {w : W} {Wx : WX} {a b : Expr} {ma mb : M Opd} {pos p : Pos}
theorem opr_in : ∀ X, Good Γ S X → OpR X (compareOp .In) (fun x y H Q => rInD Γ.K x y H Q ∨ rInTd Γ.K false x y H Q) := fun X g => by
  have h1 := op_inD (X := X) (by have := g.room.un; omega)
  have h2 := op_inTd (X := X) (by have := g.room.un; omega)
  rw [g.ok.K] at h1 h2
  exact h1.or h2
theorem opr_notIn : ∀ X, Good Γ S X → OpR X (compareOp .NotIn) (fun x y H Q => rNotInD Γ.K x y H Q ∨ rInTd Γ.K true x y H Q) := fun X g => by
  have h1 := op_notInD (X := X) (by have := g.room.un; omega)
  have h2 := op_notInTd (X := X) (by have := g.room.un; omega)
  rw [g.ok.K] at h1 h2
  exact h1.or h2
theorem dInB_ok {G : Gh} {H : Hp} {w : W} {u v : D} {x y : V} {c : Bool} (R : RelW Γ G H w) (vx : Vw Γ G H u x) (vy : Vw Γ G H v y) (h : dInB u v = some c) :
    (∃ a ds, Dp Γ.K H x a ∧ Dp Γ.K H y (.list ds) ∧ SeqAt.shaped a = true ∧ SeqAt.shaped (.list ds) = true ∧ c = ds.any fun z => PyData.eqv z a) ∨
    (∃ a ds, Dp Γ.K H x a ∧ Dp Γ.K H y (.tuple ds) ∧ SeqAt.shaped a = true ∧ SeqAt.shaped (.tuple ds) = true ∧ c = ds.any fun z => PyData.eqv z a) := by
  unfold dInB at h
  split at h
  · rename_i a ds e1 e2
    split at h
    · rename_i hs
      rw [Bool.and_eq_true] at hs
      cases h
      exact .inl ⟨a, ds, dp_view R vx e1, dp_view R vy e2, hs.1, hs.2, rfl⟩
    · cases h
  · rename_i a ds e1 e2
    split at h
    · rename_i hs
      rw [Bool.and_eq_true] at hs
      cases h
      exact .inr ⟨a, ds, dp_view R vx e1, dp_view R vy e2, hs.1, hs.2, rfl⟩
    · cases h
  · cases h
theorem bin_in : BinOk Γ (fun x y H Q => rInD Γ.K x y H Q ∨ rInTd Γ.K false x y H Q) dIn := by
  intro G H w u v d x y Q R vx vy hd k
  obtain ⟨c, hc, rfl⟩ := Option.map_eq_some_iff.mp hd
  rcases dInB_ok R vx vy hc with ⟨a, ds, h1, h2, h3, h4, rfl⟩ | ⟨a, ds, h1, h2, h3, h4, rfl⟩
  · exact .inl ⟨a, ds, h1, h2, h3, h4, k _ G H (.refl G) (.refl _ _) (rp_bl _)⟩
  · exact .inr ⟨a, ds, h1, h2, h3, h4, by rw [Bool.false_xor]; exact k _ G H (.refl G) (.refl _ _) (rp_bl _)⟩
theorem bin_notIn : BinOk Γ (fun x y H Q => rNotInD Γ.K x y H Q ∨ rInTd Γ.K true x y H Q) dNotIn := by
  intro G H w u v d x y Q R vx vy hd k
  obtain ⟨c, hc, rfl⟩ := Option.map_eq_some_iff.mp hd
  rcases dInB_ok R vx vy hc with ⟨a, ds, h1, h2, h3, h4, rfl⟩ | ⟨a, ds, h1, h2, h3, h4, rfl⟩
  · exact .inl ⟨a, ds, h1, h2, h3, h4, k _ G H (.refl G) (.refl _ _) (rp_bl _)⟩
  · exact .inr ⟨a, ds, h1, h2, h3, h4, by rw [Bool.true_xor]; exact k _ G H (.refl G) (.refl _ _) (rp_bl _)⟩
theorem se_in (ha : SE Γ S a ma) (hb : SE Γ S b mb) (hm : behindInMarks .In b = false := by rfl) : SE Γ S (.Compare a [.In] [b] pos) (eBin dIn ma mb) := se_cmp opr_in bin_in ha hb hm
theorem se_notIn (ha : SE Γ S a ma) (hb : SE Γ S b mb) (hm : behindInMarks .NotIn b = false := by rfl) : SE Γ S (.Compare a [.NotIn] [b] pos) (eBin dNotIn ma mb) := se_cmp opr_notIn bin_notIn ha hb hm
theorem st_in (ha : SE Γ S a ma) (hb : SE Γ S b mb) (hm : behindInMarks .In b = false := by rfl) : ST Γ S (.Compare a [.In] [b] pos) (tVal (eBin dIn ma mb)) := st_cmp opr_in bin_in ha hb hm
theorem st_notIn (ha : SE Γ S a ma) (hb : SE Γ S b mb) (hm : behindInMarks .NotIn b = false := by rfl) : ST Γ S (.Compare a [.NotIn] [b] pos) (tVal (eBin dNotIn ma mb)) := st_cmp opr_notIn bin_notIn ha hb hm
/-! ### lcm -/
def dLcm : D → D → Option D
  | .int i, .int j => if i.natAbs < 2 ^ 64 ∧ j.natAbs < 2 ^ 64 then some (.int (Int.lcm i j)) else none
  | _, _ => none
def rLcm : List V → Hp → VK → Prop := fun vs H Q => ∃ i j : Int, vs = [.int i, .int j] ∧ i.natAbs < 2 ^ 64 ∧ j.natAbs < 2 ^ 64 ∧ Q (.int (Int.lcm i j)) H
theorem cr_lcm {X : Cx} : CallR X (.builtin "math.lcm") rLcm := by
  intro pins s σ H vs us Q I r h
  obtain ⟨i, j, rfl, h1, h2, q⟩ := h
  obtain ⟨t, u, rfl⟩ := Vals.int2 r
  have e : (((Nat.lcm 1 i.natAbs).lcm j.natAbs : Nat) : Int) = (Int.lcm i j : Int) := by rw [PySem.W.mc_lcm_one]; rfl
  refine PySem.W.mg_lcm_v h1 h2 e ?_ ⟨.int _, H, I.tok _, ⟨_, rfl⟩, q⟩
  have hle : Int.lcm i j ≤ i.natAbs * j.natAbs := PySem.W.mc_lcm_le _ _
  have hlt : i.natAbs * j.natAbs < 2 ^ 128 := by
    rw [show (2 : Nat) ^ 128 = 2 ^ 64 * 2 ^ 64 by decide]
    exact Nat.mul_lt_mul'' h1 h2
  have : ((Int.lcm i j : Int)).natAbs.log2 ≤ 128 := by
    have hh : ((Int.lcm i j : Int)).natAbs < 2 ^ 128 := by simp; omega
    by_cases z : ((Int.lcm i j : Int)).natAbs = 0
    · rw [z]; decide
    · exact Nat.le_of_lt ((Nat.log2_lt z).mpr hh)
  exact Nat.lt_of_le_of_lt this (by decide)
theorem se_lcm (hg : S.names.lookup ("lcm" : Str) = some .globalImplicit) (hm : Γ.mg "lcm" = some (.builtin "math.lcm")) (ha : SE Γ S a ma) (hb : SE Γ S b mb) (he : ∀ env, starEach [a, b] env = (false, eval a env) :: starEach [b] env := by intro _; rfl) (he2 : ∀ env, starEach [b] env = (false, eval b env) :: starEach [] env := by intro _; rfl) (hpl : ∀ env, (backTo pos (starEach [b] env)).any (·.1) = false := by intro _; rfl) :
    SE Γ S (.Call (.Name "lcm" p) [a, b] [] pos) (eBin dLcm ma mb) :=
  se_g2 hg hm (fun X g => cr_lcm) (fun G H w u v d x y Q R vx vy hd k => by
    cases u <;> cases v <;> simp only [dLcm] at hd <;> first | cases hd | skip
    split at hd
    · rename_i h
      cases hd
      exact ⟨_, _, by rw [vx.int, vy.int], h.1, h.2, k _ G H (.refl G) (.refl _ _) (rp_int _)⟩
    · cases hd) ha hb (by decide) he he2 hpl
/-! ### *rows in displays -/
variable {es : List Expr} {me : M (List D)}
def aStar (a : M Opd) (r : M (List D)) : M (List D) := bnd a fun o => bnd (frz o) fun d => bnd (lift (seqItems d)) fun xs => bnd r fun ds => ret (xs ++ ds)
theorem sa_star (ha : SE Γ S a ma) (hr : SA Γ S es me) (hs : ∀ env, starEach (.Starred a p :: es) env = (true, eval a env) :: starEach es env := by intro _; rfl) : SA Γ S (.Starred a p :: es) (aStar ma me) :=
  fun X g Wx tk => PA.imp (StX.pa_star (ha X g Wx tk) (hr X g Wx tk) (hs _)) fun σ H Q ⟨e, w, G, R, h⟩ =>
    ⟨e, w, G, R, (Wp.bnd h).mono fun o e1 w1 G1 H1 l1 R1 h1 x rx => by
      obtain ⟨d, e2, G2, l2, R2, rd, h2⟩ := wp_frz h1 R1 rx
      obtain ⟨xs, hx, h3⟩ : ∃ xs, seqItems d = some xs ∧ Wp Γ S Wx σ (bnd me fun ds => Mnd.ret (xs ++ ds)) e2 w1 G2 _ := by
        cases q : seqItems d with
        | none => rw [q] at h2; exact (Wp.bad (Wp.bnd h2)).elim
        | some xs => rw [q] at h2; exact ⟨xs, rfl, h2⟩
      obtain ⟨k, b, vs, rfl, q, r⟩ := seq_of rd hx
      refine ⟨b, vs, rfl, ?_, e2, w1, G2, R2, (Wp.bnd h3).mono fun ds e3 w3 G3 H3 l3 R3 h4 us rs => Wp.ret h4 R3 (.refl _) _ ((Rps.le l3.lt r).append rs)⟩
      rw [g.ok.K]
      have q := q.sub R2.st.sub
      cases k
      · exact .inr q
      · exact .inl q⟩
end
end Mnd
/-! xs.index(x), a list. -/
namespace Mnd
open PySem L2
def isLst : D → Bool
  | .lst _ => true
  | .scr _ => true
  | _ => false
def dIndex (l x : D) : Option D := match l.py, x.py with
  | some (.list ds), some d => if SeqAt.shaped (.list ds) && SeqAt.shaped d then (ds.findIdx? fun z => PyData.eqv z d).map fun j => .int (j : Nat) else none
  | _, _ => none
def eIndex (o a : M Opd) : M Opd := bnd o fun x => bnd (look x) fun u => if isLst u = true then bnd a fun y => bnd (look x) fun u' => bnd (look y) fun v => lift ((dIndex u' v).map .d) else bad
section
variable {Γ : Cg} {S : Sc} {G G' : Gh} {H H' : Hp} {σ : L2.St} {e : Env} {w : W} {Wx : WX} {a o : Expr} {ma mo : M Opd} {pos p : Pos}
theorem se_index {ap cp : Pos} (ho : SE Γ S o mo) (ha : SE Γ S a ma)
    (hbase : ∀ env, attributeBase o "index" env (eval o env) = eval o env := by intro _; rfl)
    (hs : ∀ env, starEach [a] env = (false, eval a env) :: starEach [] env := by intro _; rfl)
    (hfew : ∀ env, ((backTo cp (starEach [a] env)).all (fun x => !x.1) && (backToKw cp (keywordEach [] env)).all (fun x => x.1.isSome)
      && decide ([a].length + ([] : List Keyword).length + (if ([] : List Keyword).isEmpty then 0 else 1) < 30)) = true := by intro _; rfl)
    (hline : (ap.endLine == cp.line) = true := by rfl) :
    SE Γ S (.Call (.Attribute o "index" ap) [a] [] cp) (eIndex mo ma) := by
  intro X g Wx tk
  refine PE.imp (pe_bm PySem.F.plainAttrs_list PySem.F.slot_list_index PySem.F.type_list_index (mt_indexD (by have := g.room.un; omega)) (ho X g Wx tk) (pa_cons (ha X g Wx tk) pa_nil (hs _)) (hbase _) (hfew _) hline (hs _) rfl) ?_
  rintro σ H Q ⟨e, w, G, R, h⟩
  refine ⟨e, w, G, R, (Wp.bnd h).mono fun o1 e1 w1 G1 H1 l1 R1 h1 x rx => ?_⟩
  obtain ⟨u, hu, h2⟩ := wp_look h1
  by_cases hl : isLst u = true
  case neg => rw [if_neg hl] at h2; exact (Wp.bad h2).elim
  rw [if_pos hl] at h2
  have vx := rx.view R1 hu
  have ty : tyV X.K "list" x H1 := by
    rw [g.ok.K]
    cases u <;> simp only [isLst] at hl <;> first | cases hl | skip
    · obtain ⟨b, vs, rfl, q, r⟩ := vx.lst R1.st
      exact .inl ⟨rfl, vs, SqL.of q⟩
    · obtain ⟨b, rfl, q⟩ := vx.scr R1.st
      exact .inl ⟨rfl, _, q⟩
  refine ⟨ty, e1, w1, G1, R1, (Wp.bnd h2).mono fun o2 e2 w2 G2 H2 l2 R2 h3 y ry => ?_⟩
  obtain ⟨u', hu', h4⟩ := wp_look h3
  obtain ⟨v, hv, h5⟩ := wp_look h4
  obtain ⟨op, hop, h6⟩ := Wp.lift h5
  have vx' := (rx.le l2 (e' := e2)).view R2 hu'
  have vy := ry.view R2 hv
  cases hd : dIndex u' v with
  | none => rw [hd] at hop; cases hop
  | some d =>
    rw [hd] at hop
    cases hop
    unfold dIndex at hd
    split at hd
    · rename_i ds dv e3 e4
      split at hd
      · rename_i hsh
        rw [Bool.and_eq_true] at hsh
        obtain ⟨j, hj, rfl⟩ := Option.map_eq_some_iff.mp hd
        obtain ⟨hjl, hj1, hj2⟩ := List.findIdx?_eq_some_iff_getElem.mp hj
        have dp := dp_view R2.st vx' e3
        have dq := dp_view R2.st vy e4
        obtain ⟨b, rfl⟩ : ∃ b, x = .ref b := by
          cases u <;> simp only [isLst] at hl <;> first | cases hl | skip
          · obtain ⟨b, vs, rfl, q, r⟩ := vx.lst R1.st
            exact ⟨b, rfl⟩
          · obtain ⟨b, rfl, q⟩ := vx.scr R1.st
            exact ⟨b, rfl⟩
        rw [g.ok.K]
        refine ⟨b, y, dv, ds, j, ds[j], rfl, rfl, dp, dq, hsh.1, hsh.2, List.getElem?_eq_getElem hjl, hj1, fun m z hm hz => ?_, Wp.ret h6 R2 (.refl _) _ (rp_int (Γ := Γ) (G := G2) _)⟩
        have hml : m < ds.length := by omega
        have := hj2 m hm
        rw [List.getElem?_eq_getElem hml] at hz
        cases hz
        simpa using this
      · cases hd
    · cases hd
/-! ### a, b = x, y where a name is seen from within -/
theorem ss_asgN {tg : Expr} {ts : List Nat} {g1 : D → M Unit} (ha : SE Γ S a ma) (hg : SG Γ S tg ts g1) (hw : ∀ env : PySem.Env, env.scope.names = S.names → swappedStores [tg] a env = pure none) (hs : ∀ env, swapsWithSole [tg] a pos.line env = pure false := by intro _; rfl)
    (h1 : ∀ env, (assignEach [tg] env).map (·.2) = [assign tg env] := by intro _; rfl) : SS Γ S (.Assign [tg] a pos) (sAsg ma g1) :=
  fun X g Wx tk => PS.imp (ps_asg (ha X g Wx tk) (hg X g Wx tk) (hs _) (hw _ g.names) (h1 _)) fun D σ H ⟨e, w, G, R, h⟩ =>
    ⟨e, w, G, R, (WpT.bndE h σ).mono fun o e1 w1 G1 H1 l1 R1 h1 v rv => by
      obtain ⟨d, e2, G2, l2, R2, rd, h2⟩ := wpT_frz h1 R1 rv
      exact ⟨d, e2, w1, G2, R2, rd, (WpT.bndS h2).mono fun _ e3 w3 σ3 G3 H3 l3 R3 h3 _ => WpT.ret (P := EndP Γ D) (Wx := Wx) h3 R3 (.refl _)⟩⟩
theorem swapCell {x y : Str} {b : Expr} {px py pt pt2 : Pos} {kt k2 : Nat} (h : S.names.lookup x = some .cell ∨ S.names.lookup y = some .cell) : ∀ env : PySem.Env, env.scope.names = S.names → swappedStores [.Tuple [.Name x px, .Name y py] kt pt] (.Tuple [a, b] k2 pt2) env = pure none := by
  intro env hn
  have e1 : (some NameKind.cell == some NameKind.local) = false := by decide
  unfold swappedStores
  simp only [pure_bind]
  split
  · rfl
  · split
    · rfl
    · rcases h with h | h
      · have kx : env.kindOf x = some .cell := by show env.scope.names.lookup x = _; rw [hn]; exact h
        simp only [List.filterMap_cons, List.filterMap_nil, kx, e1, Bool.false_and, Bool.false_eq_true, if_false]
        split <;> (rw [if_pos (by simp)])
      · have kx : env.kindOf y = some .cell := by show env.scope.names.lookup y = _; rw [hn]; exact h
        simp only [List.filterMap_cons, List.filterMap_nil, kx, e1, Bool.false_and, Bool.false_eq_true, if_false]
        split <;> (rw [if_pos (by simp)])
end
end Mnd
/-! What a piece of code gives, by what must hold before it. -/
namespace Mnd
open PySem
def okR {α : Type} (r : MR α) (P : α → Env → W → Prop) : Prop := match r with
  | .ok a e' w' => P a e' w'
  | _ => False
def pw {α : Type} (m : M α) (e : Env) (w : W) (P : α → Env → W → Prop) : Prop := okR (m e w) P
def pf (f : Fn) (a : List Sl) (w : W) (P : Sl → W → Prop) : Prop := match f a w with
  | .ok s w' => P s w'
  | _ => False
def pc (g : Clo) (a : List D) (w : W) (P : D → W → Prop) : Prop := match g a w with
  | .ok s w' => P s w'
  | _ => False
section
variable {α β : Type} {m : M α} {f : α → M β} {e : Env} {w : W} {P Q : α → Env → W → Prop} {PB : β → Env → W → Prop} {PO : Opd → Env → W → Prop}
theorem pw_mono (h : pw m e w P) (i : ∀ a e' w', P a e' w' → Q a e' w') : pw m e w Q := by
  unfold pw okR at h ⊢
  cases q : m e w with
  | ok a e' w' => rw [q] at h; exact i _ _ _ h
  | ex x e' w' => rw [q] at h; exact h
  | bad => rw [q] at h; exact h
theorem pf_mono {f : Fn} {a : List Sl} {P Q : Sl → W → Prop} (h : pf f a w P) (i : ∀ s w', P s w' → Q s w') : pf f a w Q := by
  unfold pf at h ⊢
  cases q : f a w with
  | ok s w' => rw [q] at h; exact i _ _ h
  | ex x w' => rw [q] at h; exact h
  | bad => rw [q] at h; exact h
theorem pc_mono {g : Clo} {a : List D} {P Q : D → W → Prop} (h : pc g a w P) (i : ∀ s w', P s w' → Q s w') : pc g a w Q := by
  unfold pc at h ⊢
  cases q : g a w with
  | ok s w' => rw [q] at h; exact i _ _ h
  | ex x w' => rw [q] at h; exact h
  | bad => rw [q] at h; exact h
@[simp] theorem pw_bnd : pw (bnd m f) e w PB = pw m e w fun a e' w' => pw (f a) e' w' PB := by
  unfold pw okR
  rw [bnd_eq]
  cases q : m e w <;> rfl
@[simp] theorem pw_ret {a : α} : pw (ret a) e w P = P a e w := rfl
@[simp] theorem pw_bad : pw (bad : M α) e w P = False := rfl
@[simp] theorem pw_lift_some {a : α} : pw (lift (some a)) e w P = P a e w := rfl
@[simp] theorem pw_lift_none : pw (lift (none : Option α)) e w P = False := rfl
theorem pw_ite {c : Prop} [Decidable c] {a b : M α} : pw (if c then a else b) e w P = if c then pw a e w P else pw b e w P := by
  by_cases h : c
  · rw [if_pos h, if_pos h]
  · rw [if_neg h, if_neg h]
theorem pw_bool {c : Bool} {a b : M α} : pw (if c = true then a else b) e w P = ((c = true → pw a e w P) ∧ (c = false → pw b e w P)) := by
  cases c <;> simp
/-! looks -/
@[simp] theorem pw_look_d {d : D} {P : D → Env → W → Prop} : pw (look (.d d)) e w P = P d e w := rfl
@[simp] theorem pw_look_sl {i : Nat} {P : D → Env → W → Prop} : pw (look (.sl i)) e w P = match slotD e[i]? with
  | some d => P d e w
  | none => False := by
  unfold pw okR
  rw [look_sl]
  cases slotD e[i]? <;> rfl
@[simp] theorem pw_frz_d {d : D} {P : D → Env → W → Prop} : pw (frz (.d d)) e w P = P d e w := rfl
@[simp] theorem pw_frz_sl {i : Nat} {P : D → Env → W → Prop} : pw (frz (.sl i)) e w P = match e[i]? with
  | some (.val d) => P d e w
  | some (.own d) => P d (e.set i (.val d)) w
  | _ => False := by
  unfold pw okR
  rw [frz_sl]
  cases e[i]? with
  | none => rfl
  | some s => cases s <;> rfl
@[simp] theorem slotD_val {d : D} : slotD (some (.val d)) = some d := rfl
@[simp] theorem slotD_own {d : D} : slotD (some (.own d)) = some d := rfl
@[simp] theorem pw_eVar {i : Nat} : pw (eVar i) e w PO = match slotD e[i]? with
  | some _ => PO (.sl i) e w
  | none => False := by
  unfold pw okR
  rw [eVar_eq]
  cases slotD e[i]? <;> rfl
@[simp] theorem pw_eC {d : D} : pw (eC d) e w PO = PO (.d d) e w := rfl
@[simp] theorem pw_eInt {i : Int} : pw (eInt i) e w PO = PO (.d (.int i)) e w := rfl
@[simp] theorem pw_eUn {g : D → Option D} {a : M Opd} : pw (eUn g a) e w PO = pw a e w fun x e w => pw (look x) e w fun u e w => pw (lift ((g u).map Opd.d)) e w PO := by unfold eUn; simp only [pw_bnd]
@[simp] theorem pw_eBin {g : D → D → Option D} {a b : M Opd} : pw (eBin g a b) e w PO = pw a e w fun x e w => pw b e w fun y e w => pw (look x) e w fun u e w => pw (look y) e w fun v e w => pw (lift ((g u v).map Opd.d)) e w PO := by unfold eBin; simp only [pw_bnd]
@[simp] theorem pw_eTup {a : M (List D)} : pw (eTup a) e w PO = pw a e w fun ds e w => PO (.d (.tup ds)) e w := by unfold eTup; simp only [pw_bnd, pw_ret]
@[simp] theorem pw_eLst {a : M (List D)} : pw (eLst a) e w PO = pw a e w fun ds e w => PO (.d (.lst ds)) e w := by unfold eLst; simp only [pw_bnd, pw_ret]
variable {PL : List D → Env → W → Prop} {PBo : Bool → Env → W → Prop} {PS : Sl → Env → W → Prop} {PF : Flow → Env → W → Prop} {PU : Unit → Env → W → Prop}
@[simp] theorem pw_aNil : pw aNil e w PL = PL [] e w := rfl
@[simp] theorem pw_aCons {a : M Opd} {r : M (List D)} : pw (aCons a r) e w PL = pw a e w fun o e w => pw (frz o) e w fun d e w => pw r e w fun ds e w => PL (d :: ds) e w := by unfold aCons; simp only [pw_bnd, pw_ret]
@[simp] theorem pw_tVal {a : M Opd} : pw (tVal a) e w PBo = pw a e w fun o e w => pw (look o) e w fun d e w => match d with
  | .bl b => PBo b e w
  | _ => False := by
  unfold tVal
  simp only [pw_bnd]
  congr 1; funext o e w; congr 1; funext d e w
  cases d <;> rfl
@[simp] theorem pw_tNot {a : M Bool} : pw (Mnd.tNot a) e w PBo = pw a e w fun b e w => PBo (!b) e w := by unfold Mnd.tNot; simp only [pw_bnd, pw_ret]
@[simp] theorem pw_tAnd {a b : M Bool} : pw (Mnd.tAnd a b) e w PBo = pw a e w fun c e w => (c = true → pw b e w PBo) ∧ (c = false → PBo false e w) := by unfold Mnd.tAnd; simp only [pw_bnd, pw_bool, pw_ret]
@[simp] theorem pw_tOr {a b : M Bool} : pw (Mnd.tOr a b) e w PBo = pw a e w fun c e w => (c = true → PBo true e w) ∧ (c = false → pw b e w PBo) := by unfold Mnd.tOr; simp only [pw_bnd, pw_bool, pw_ret]
@[simp] theorem pw_eAnd {a b : M Opd} : pw (eAnd a b) e w PO = pw (tVal a) e w fun c e w => (c = true → pw b e w PO) ∧ (c = false → PO (.d (.bl false)) e w) := by unfold eAnd; simp only [pw_bnd, pw_bool, pw_ret]
@[simp] theorem pw_eOr {a b : M Opd} : pw (eOr a b) e w PO = pw (tVal a) e w fun c e w => (c = true → PO (.d (.bl true)) e w) ∧ (c = false → pw b e w PO) := by unfold eOr; simp only [pw_bnd, pw_bool, pw_ret]
@[simp] theorem pw_eNot {a : M Opd} : pw (eNot a) e w PO = pw (tVal a) e w fun c e w => PO (.d (.bl (!c))) e w := by unfold eNot; simp only [pw_bnd, pw_ret]
@[simp] theorem pw_eIf {t : M Bool} {a b : M Opd} : pw (eIf t a b) e w PO = pw t e w fun c e w => (c = true → pw a e w PO) ∧ (c = false → pw b e w PO) := by unfold eIf; simp only [pw_bnd, pw_bool]
@[simp] theorem pw_eChain {g g' : D → D → Option D} {a b c : M Opd} : pw (eChain g g' a b c) e w PO = pw a e w fun x e w => pw b e w fun y e w => pw (look x) e w fun u e w => pw (look y) e w fun v e w => match g u v with
    | some (.bl true) => pw c e w fun z e w => pw (look y) e w fun v e w => pw (look z) e w fun q e w => pw (lift ((g' v q).map Opd.d)) e w PO
    | some (.bl false) => PO (.d (.bl false)) e w
    | _ => False := by
  rw [eChain_eq]
  simp only [pw_bnd]
  congr 1; funext x e w; congr 1; funext y e w; congr 1; funext u e w; congr 1; funext v e w
  cases g u v with
  | none => rfl
  | some d =>
    cases d with
    | bl b => cases b <;> simp only [pw_bnd, pw_ret]
    | _ => rfl
@[simp] theorem pw_eIx {a b : M Opd} : pw (eIx a b) e w PO = pw a e w fun x e w => pw b e w fun y e w => pw (look x) e w fun u e w => pw (look y) e w fun v e w => pw (ixM u v) e w PO := by unfold eIx; simp only [pw_bnd]
@[simp] theorem pw_ixM_ref {l : Nat} {i : Int} : pw (ixM (.ref l) (.int i)) e w PO = match w[l]? with
  | some xs => pw (lift ((L2.atI xs i).map Opd.d)) e w PO
  | none => False := by
  unfold pw okR
  rw [ixM_ref]
  cases w[l]? <;> rfl
@[simp] theorem pw_ixM_tup {xs : List D} {v : D} : pw (ixM (.tup xs) v) e w PO = pw (lift ((dIx (.tup xs) v).map Opd.d)) e w PO := by cases v <;> rfl
@[simp] theorem pw_ixM_lst {xs : List D} {v : D} : pw (ixM (.lst xs) v) e w PO = pw (lift ((dIx (.lst xs) v).map Opd.d)) e w PO := by cases v <;> rfl
@[simp] theorem pw_ixM_scr {xs : List Int} {v : D} : pw (ixM (.scr xs) v) e w PO = pw (lift ((dIx (.scr xs) v).map Opd.d)) e w PO := by cases v <;> rfl
@[simp] theorem pw_pNone {PI : Option Int → Env → W → Prop} : pw pNone e w PI = PI none e w := rfl
@[simp] theorem pw_pSome {a : M Opd} {PI : Option Int → Env → W → Prop} : pw (pSome a) e w PI = pw a e w fun o e w => pw (look o) e w fun d e w => match d with
  | .int i => PI (some i) e w
  | _ => False := by
  unfold pSome
  simp only [pw_bnd]
  congr 1; funext o e w; congr 1; funext d e w
  cases d <;> rfl
@[simp] theorem pw_eCut {a : M Opd} {lo hi : M (Option Int)} : pw (eCut a lo hi) e w PO = pw a e w fun x e w => pw lo e w fun l e w => pw hi e w fun h e w => pw (look x) e w fun u e w => pw (lift ((dCut u l h).map Opd.d)) e w PO := by unfold eCut; simp only [pw_bnd]
/-! calls -/
@[simp] theorem pw_callV {g : Fn} {pm : List D → List D} {a : M (List D)} : pw (callV g pm a) e w PS = pw a e w fun ds e w => pf g ((pm ds).map .val) w fun s w' => PS s e w' := by
  unfold callV
  rw [pw_bnd]
  congr 1; funext ds e w
  unfold pw okR pf callR
  dsimp only
  cases g ((pm ds).map .val) w <;> rfl
@[simp] theorem pw_call {g : Fn} {a : M (List Sl)} : pw (call g a) e w PS = pw a e w fun as e w => pf g as w fun s w' => PS s e w' := by
  rw [call_eq, pw_bnd]
  congr 1; funext ds e w
  unfold pw okR pf callR
  dsimp only
  cases g ds w <;> rfl
@[simp] theorem pw_eOf {a : M Sl} : pw (eOf a) e w PO = pw a e w fun s e w => match s with
  | .val d => PO (.d d) e w
  | .own d => PO (.d d) e w
  | _ => False := by
  unfold eOf
  rw [pw_bnd]
  congr 1; funext s e w
  cases s <;> rfl
theorem pw_eRef {a : M Sl} : pw (eRef a) e w PO = pw a e w fun s e w => match s with
  | .own (.lst xs) => PO (.d (.ref w.length)) e (w ++ [xs])
  | _ => False := by
  unfold eRef
  rw [pw_bnd]
  congr 1; funext s e w
  cases s with
  | own d => cases d <;> rfl
  | _ => rfl
@[simp] theorem pw_kNil {PK : List Sl → Env → W → Prop} : pw kNil e w PK = PK [] e w := rfl
@[simp] theorem pw_kVal {a : M Opd} {r : M (List Sl)} {PK : List Sl → Env → W → Prop} : pw (kVal a r) e w PK = pw a e w fun o e w => pw (frz o) e w fun d e w => pw r e w fun ds e w => PK (.val d :: ds) e w := by unfold kVal; simp only [pw_bnd, pw_ret]
@[simp] theorem pw_kDef {k : Nat} {g : Clo} {r : M (List Sl)} {PK : List Sl → Env → W → Prop} : pw (kDef k g r) e w PK = pw r e w fun ds e w => PK (.fn k g :: ds) e w := by unfold kDef; simp only [pw_bnd, pw_ret]
@[simp] theorem pw_kFn {i : Nat} {r : M (List Sl)} {PK : List Sl → Env → W → Prop} : pw (kFn i r) e w PK = match e[i]? with
  | some (.fn k g) => pw r e w fun ds e w => PK (.fn k g :: ds) e w
  | _ => False := by
  cases q : e[i]? with
  | none => unfold pw okR; rw [kFn_eq, q]
  | some s =>
    cases s with
    | fn k g => exact (show pw (kFn i r) e w PK = pw (bnd r fun ds => ret (Sl.fn k g :: ds)) e w PK by unfold pw okR; rw [kFn_eq, q]).trans (by rw [pw_bnd]; rfl)
    | _ => unfold pw okR; rw [kFn_eq, q]
@[simp] theorem pw_kLam {k n np : Nat} {js : List Nat} {b : M Opd} {PK : List Sl → Env → W → Prop} : pw (kLam k n np js b) e w PK = pw (capE js) e w fun caps e w => PK [.fn k (lamC n np b caps)] e w := by unfold kLam; simp only [pw_bnd, pw_ret]
@[simp] theorem pw_cap_nil {PK : List Sl → Env → W → Prop} : pw (capE []) e w PK = PK [] e w := rfl
@[simp] theorem pw_cap_cons {j : Nat} {js : List Nat} {PK : List Sl → Env → W → Prop} : pw (capE (j :: js)) e w PK = match e[j]? with
    | some (.val d) => pw (capE js) e w fun r e w => PK (.val d :: r) e w
    | some (.own d) => pw (capE js) (e.set j (.val d)) w fun r e w => PK (.val d :: r) e w
    | some (.fn k g) => pw (capE js) e w fun r e w => PK (.fn k g :: r) e w
    | _ => False := by
  have key : ∀ (s : Sl) (e : Env), pw (bnd (capE js) fun r => ret (s :: r)) e w PK = pw (capE js) e w fun r e w => PK (s :: r) e w := fun s e => by rw [pw_bnd]; rfl
  cases q : e[j]? with
  | none => unfold pw okR; rw [capE_cons, q]
  | some s =>
    cases s with
    | no => unfold pw okR; rw [capE_cons, q]
    | val d => exact (show pw (capE (j :: js)) e w PK = _ by unfold pw okR; rw [capE_cons, q]).trans (key _ _)
    | own d => exact (show pw (capE (j :: js)) e w PK = _ by unfold pw okR; rw [capE_cons, q]).trans (key _ _)
    | fn k g => exact (show pw (capE (j :: js)) e w PK = _ by unfold pw okR; rw [capE_cons, q]).trans (key _ _)
@[simp] theorem pw_eCallS {n i : Nat} {a : M (List D)} : pw (eCallS n i a) e w PO = match e[i]? with
  | some (.fn k g) => k ≤ n ∧ pw a e w fun ds e w => pc g ds w fun d w' => PO (.d d) e w'
  | _ => False := by
  cases q : e[i]? with
  | none => unfold pw okR; rw [eCallS_eq, q]
  | some s =>
    cases s with
    | fn k g =>
      by_cases h : k ≤ n
      · have e1 : eCallS n i a e w = bnd a (fun ds => fun e w => match g ds w with
          | .ok d w' => .ok (.d d) e w'
          | .ex x w' => .ex x e w'
          | .bad => .bad) e w := by
          rw [eCallS_eq, q]
          exact if_pos h
        have e2 : pw (eCallS n i a) e w PO = pw (bnd a (fun ds => fun e w => match g ds w with
          | .ok d w' => .ok (.d d) e w'
          | .ex x w' => .ex x e w'
          | .bad => .bad)) e w PO := by unfold pw okR; rw [e1]
        rw [e2, pw_bnd]
        show _ = (k ≤ n ∧ _)
        rw [show (k ≤ n) = True from eq_true h, true_and]
        congr 1; funext ds e w
        unfold pw okR pc
        dsimp only
        cases g ds w <;> rfl
      · have e1 : eCallS n i a e w = .bad := by
          rw [eCallS_eq, q]
          exact if_neg h
        unfold pw okR
        rw [e1]
        show False = (k ≤ n ∧ _)
        rw [show (k ≤ n) = False from eq_false h, false_and]
    | _ => unfold pw okR; rw [eCallS_eq, q]
/-! functions as values -/
@[simp] theorem pc_cloOf {g : Fn} {ds : List D} {PD : D → W → Prop} : pc (cloOf g) ds w PD = pf g (ds.map .val) w fun s w' => match s with
  | .val d => PD d w'
  | .own d => PD d w'
  | _ => False := by
  unfold pc pf cloOf
  cases g (ds.map .val) w with
  | ok s w' => cases s <;> rfl
  | ex x w' => rfl
  | bad => rfl
@[simp] theorem pc_lamC {n np : Nat} {b : M Opd} {caps : List Sl} {ds : List D} {PD : D → W → Prop} : pc (lamC n np b caps) ds w PD = (ds.length = np ∧ pw b (ds.map .val ++ caps ++ List.replicate (n - np - caps.length) .no) w fun o e w => pw (frz o) e w fun d _ w => PD d w) := by
  unfold pc lamC
  by_cases h : ds.length = np
  · rw [if_pos h]
    rw [show (ds.length = np) = True from eq_true h, true_and]
    have : ∀ e, pw (bnd b fun o => bnd (frz o) fun d => ret d) e w (fun d _ w => PD d w) = pw b e w fun o e w => pw (frz o) e w fun d _ w => PD d w := fun e => by simp only [pw_bnd, pw_ret]
    rw [← this]
    unfold pw okR
    cases (bnd b fun o => bnd (frz o) fun d => ret d) (ds.map .val ++ caps ++ List.replicate (n - np - caps.length) .no) w <;> rfl
  · rw [if_neg h]
    rw [show (ds.length = np) = False from eq_false h, false_and]
@[simp] theorem pw_aStar {a : M Opd} {r : M (List D)} : pw (aStar a r) e w PL = pw a e w fun o e w => pw (frz o) e w fun d e w => pw (lift (seqItems d)) e w fun xs e w => pw r e w fun ds e w => PL (xs ++ ds) e w := by unfold aStar; simp only [pw_bnd, pw_ret]
@[simp] theorem pw_eIndex {o a : M Opd} : pw (eIndex o a) e w PO = pw o e w fun x e w => pw (look x) e w fun u e w => (isLst u = true → pw a e w fun y e w => pw (look x) e w fun u' e w => pw (look y) e w fun v e w => pw (lift ((dIndex u' v).map Opd.d)) e w PO) ∧ (isLst u = false → False) := by
  unfold eIndex
  simp only [pw_bnd, pw_bool, pw_bad]
/-! own values -/
@[simp] theorem pw_oVal {a : M Opd} : pw (oVal a) e w PS = pw a e w fun o e w => pw (frz o) e w fun d e w => PS (.val d) e w := by unfold oVal; simp only [pw_bnd, pw_ret]
@[simp] theorem pw_oLst {a : M (List D)} : pw (oLst a) e w PS = pw a e w fun ds e w => PS (.own (.lst ds)) e w := by unfold oLst; simp only [pw_bnd, pw_ret]
@[simp] theorem pw_oUn {g : D → Option D} {a : M Opd} : pw (oUn g a) e w PS = pw a e w fun x e w => pw (look x) e w fun u e w => pw (lift ((g u).map Sl.own)) e w PS := by unfold oUn; simp only [pw_bnd]
@[simp] theorem pw_oBin {g : D → D → Option D} {a b : M Opd} : pw (oBin g a b) e w PS = pw a e w fun x e w => pw b e w fun y e w => pw (look x) e w fun u e w => pw (look y) e w fun v e w => pw (lift ((g u v).map Sl.own)) e w PS := by unfold oBin; simp only [pw_bnd]
@[simp] theorem pw_oVar {i : Nat} : pw (oVar i) e w PS = match e[i]? with
  | some (.val d) => PS (.val d) e w
  | some (.own d) => PS (.own d) e w
  | _ => False := by
  unfold pw okR
  have : oVar i e w = match e[i]? with
    | some (.val d) => MR.ok (Sl.val d) e w
    | some (.own d) => .ok (.own d) e w
    | _ => .bad := rfl
  rw [this]
  cases e[i]? with
  | none => rfl
  | some s => cases s <;> rfl
def dCutS (u : D) (l h : Option Int) : Option Sl := match u with
  | .lst _ => (dCut u l h).map Sl.own
  | .scr _ => (dCut u l h).map Sl.own
  | _ => none
@[simp] theorem pw_oCut {a : M Opd} {lo hi : M (Option Int)} : pw (oCut a lo hi) e w PS = pw a e w fun x e w => pw lo e w fun l e w => pw hi e w fun h e w => pw (look x) e w fun u e w => pw (lift (dCutS u l h)) e w PS := by
  unfold oCut
  simp only [pw_bnd]
  congr 1; funext x e w; congr 1; funext l e w; congr 1; funext h e w; congr 1; funext u e w
  cases u <;> rfl
/-! what is walked -/
@[simp] theorem pw_iSeq {a : M Opd} : pw (iSeq a) e w PL = pw a e w fun o e w => pw (frz o) e w fun d e w => pw (lift (seqItems d)) e w PL := by unfold iSeq; simp only [pw_bnd]
@[simp] theorem pw_iRange {a : M (List D)} : pw (iRange a) e w PL = pw a e w fun ds e w => match ds with
  | [.int n] => (n ≤ 100000 ∧ -100000 ≤ n) ∧ PL ((List.range n.toNat).map fun (k : Nat) => .int k) e w
  | [.int m, .int n] => (-100000 ≤ m ∧ m ≤ 100000 ∧ -100000 ≤ n ∧ n ≤ 100000) ∧ PL ((List.range (n - m).toNat).map fun (k : Nat) => .int (m + k)) e w
  | _ => False := by
  rw [iRange_eq, pw_bnd]
  congr 1; funext ds e w
  split
  · rw [pw_ite]; simp only [pw_ret, pw_bad]; split <;> rename_i h
    · simp [h]
    · simp only [eq_iff_iff, false_iff, not_and]; intro z; exact absurd z h
  · rw [pw_ite]; simp only [pw_ret, pw_bad]; split <;> rename_i h
    · simp [h]
    · simp only [eq_iff_iff, false_iff, not_and]; intro z; exact absurd z h
  · first | rfl | (split <;> first | rfl | simp_all)
@[simp] theorem pw_iEnum {a : M (List D)} : pw (iEnum a) e w PL = pw a e w fun ds e w => match ds with
  | [x] => pw (lift ((seqItems x).map (enumD 0))) e w PL
  | _ => False := by
  unfold iEnum
  rw [pw_bnd]
  congr 1; funext ds e w
  match ds with
  | [] => rfl
  | [x] => simp only []; cases seqItems x <;> rfl
  | _ :: _ :: _ => rfl
@[simp] theorem pw_iZip {a : M (List D)} : pw (iZip a) e w PL = pw a e w fun ds e w => match ds with
  | [x, y] => match seqItems x, seqItems y with
    | some xs, some ys => PL (zipD xs ys) e w
    | _, _ => False
  | _ => False := by
  unfold iZip
  rw [pw_bnd]
  congr 1; funext ds e w
  match ds with
  | [] => rfl
  | [x] => rfl
  | [x, y] => simp only []; cases seqItems x <;> cases seqItems y <;> rfl
  | _ :: _ :: _ :: _ => rfl
/-! targets -/
@[simp] theorem pw_gVar {i : Nat} {d : D} : pw (gVar i d) e w PU = (i < e.length ∧ PU () (e.set i (.val d)) w) := by
  unfold pw okR
  rw [gVar_eq]
  by_cases h : i < e.length
  · rw [if_pos h]; simp [h]
  · rw [if_neg h]; simp [h]
@[simp] theorem pw_gNil : pw (gNil []) e w PU = PU () e w := rfl
@[simp] theorem pw_gCons {g : D → M Unit} {r : List D → M Unit} {d : D} {ds : List D} : pw (gCons g r (d :: ds)) e w PU = pw (g d) e w fun _ e w => pw (r ds) e w PU := by
  show pw (bnd (g d) fun _ => r ds) e w PU = _
  rw [pw_bnd]
@[simp] theorem pw_gTup {n : Nat} {g : List D → M Unit} {ds : List D} : pw (gTup n g (.tup ds)) e w PU = (ds.length = n ∧ pw (g ds) e w PU) := by
  show pw (if ds.length = n then g ds else bad) e w PU = _
  rw [pw_ite]
  by_cases h : ds.length = n
  · rw [if_pos h]; simp [h]
  · rw [if_neg h]; simp [h, pw_bad]
@[simp] theorem pw_gIx {i : Nat} {k : M Opd} {d : D} : pw (gIx i k d) e w PU = pw (eVar i) e w fun _ e w => pw k e w fun o e w => pw (look o) e w fun u e w => match u with
  | .int k => pw (putAt i k d) e w PU
  | _ => False := by
  unfold gIx
  simp only [pw_bnd]
  congr 1; funext _ e w; congr 1; funext o e w; congr 1; funext u e w
  cases u <;> rfl
@[simp] theorem pw_putAt {i : Nat} {k : Int} {d : D} : pw (putAt i k d) e w PU = match e[i]? with
  | some (.own (.lst xs)) => match L2.ixN xs.length k with
    | some j => PU () (e.set i (.own (.lst (xs.set j d)))) w
    | none => False
  | some (.val (.ref l)) => match w[l]? with
    | some xs => match L2.ixN xs.length k with
      | some j => PU () e (w.set l (xs.set j d))
      | none => False
    | none => False
  | _ => False := by
  unfold pw okR
  rw [putAt_own]
  cases q : e[i]? with
  | none => rfl
  | some s =>
    cases s with
    | no => rfl
    | fn k g => rfl
    | own du =>
      cases du with
      | lst xs => dsimp only; cases L2.ixN xs.length k <;> rfl
      | _ => rfl
    | val du =>
      cases du with
      | ref l =>
        dsimp only
        cases w[l]? with
        | none => rfl
        | some xs => dsimp only; cases L2.ixN xs.length k <;> rfl
      | _ => rfl
/-! statements -/
@[simp] theorem pw_sNil : pw sNil e w PF = PF .next e w := rfl
@[simp] theorem pw_sSeq {a b : M Flow} : pw (sSeq a b) e w PF = pw a e w fun f e w => match f with
  | .next => pw b e w PF
  | .ret s => PF (.ret s) e w
  | .brk => PF .brk e w
  | .cnt => PF .cnt e w := by
  unfold sSeq
  rw [pw_bnd]
  congr 1; funext f e w
  cases f <;> rfl
@[simp] theorem pw_sRet {a : M Sl} : pw (sRet a) e w PF = pw a e w fun s e w => PF (.ret s) e w := by unfold sRet; simp only [pw_bnd, pw_ret]
@[simp] theorem pw_sRetN : pw sRetN e w PF = PF (.ret (.val .non)) e w := rfl
@[simp] theorem pw_sBrk : pw sBrk e w PF = PF .brk e w := rfl
@[simp] theorem pw_sCnt : pw sCnt e w PF = PF .cnt e w := rfl
@[simp] theorem pw_sExpr {a : M Opd} : pw (sExpr a) e w PF = pw a e w fun _ e w => PF .next e w := by unfold sExpr; simp only [pw_bnd, pw_ret]
@[simp] theorem pw_put {i : Nat} {s : Sl} : pw (put i s) e w PU = (i < e.length ∧ PU () (e.set i s) w) := by
  unfold pw okR
  rw [put_eq]
  by_cases h : i < e.length
  · rw [if_pos h]; simp [h]
  · rw [if_neg h]; simp [h]
@[simp] theorem pw_sSet {i : Nat} {a : M Sl} : pw (sSet i a) e w PF = pw a e w fun s e w => i < e.length ∧ PF .next (e.set i s) w := by unfold sSet; simp only [pw_bnd, pw_ret, pw_put]
@[simp] theorem pw_sPar {i j : Nat} {a b : M Sl} : pw (sPar i j a b) e w PF = pw a e w fun s e w => pw b e w fun t e w => i < e.length ∧ j < (e.set i s).length ∧ PF .next ((e.set i s).set j t) w := by rw [sPar_eq]; simp only [pw_bnd, pw_ret, pw_put]
@[simp] theorem pw_sAsg {a : M Opd} {g : D → M Unit} : pw (sAsg a g) e w PF = pw a e w fun o e w => pw (frz o) e w fun d e w => pw (g d) e w fun _ e w => PF .next e w := by unfold sAsg; simp only [pw_bnd, pw_ret]
@[simp] theorem pw_sIf {t : M Bool} {a b : M Flow} : pw (sIf t a b) e w PF = pw t e w fun c e w => (c = true → pw a e w PF) ∧ (c = false → pw b e w PF) := by unfold sIf; simp only [pw_bnd, pw_bool]
@[simp] theorem pw_sFor {it : M (List D)} {g : D → M Unit} {b : M Flow} : pw (sFor it g b) e w PF = pw it e w fun xs e w => pw (forL g b xs) e w PF := by unfold sFor; simp only [pw_bnd]
def appStep (i : Nat) (d : D) : M Flow := fun e w => match e[i]? with
    | some (.own (.lst xs)) => if xs.length < 100000 then .ok .next (e.set i (.own (.lst (xs ++ [d])))) w else .bad
    | _ => .bad
@[simp] theorem pw_appStep {i : Nat} {d : D} : pw (appStep i d) e w PF = match e[i]? with
    | some (.own (.lst xs)) => xs.length < 100000 ∧ PF .next (e.set i (.own (.lst (xs ++ [d])))) w
    | _ => False := by
  unfold pw okR appStep
  cases e[i]? with
  | none => rfl
  | some s =>
    cases s with
    | own du =>
      cases du with
      | lst xs =>
        dsimp only
        by_cases h : xs.length < 100000
        · rw [if_pos h]; simp [h]
        · rw [if_neg h]; simp [h]
      | _ => rfl
    | _ => rfl
@[simp] theorem pw_sAppend {i : Nat} {a : M Opd} : pw (sAppend i a) e w PF = match slotD e[i]? with
  | some (.lst _) => pw a e w fun o e w => pw (frz o) e w fun d e w => pw (appStep i d) e w PF
  | _ => False := by
  cases q : slotD e[i]? with
  | none => unfold pw okR; rw [sAppend_eq, q]
  | some d =>
    cases d with
    | lst xs => exact (show pw (sAppend i a) e w PF = pw (bnd a fun o => bnd (frz o) fun d => appStep i d) e w PF by unfold pw okR; rw [sAppend_eq, q]; rfl).trans (by simp only [pw_bnd])
    | _ => unfold pw okR; rw [sAppend_eq, q]
@[simp] theorem pw_ePopAt {i : Nat} {a : M Opd} : pw (ePopAt i a) e w PO = match slotD e[i]? with
  | some (.lst _) => pw a e w fun o e w => pw (look o) e w fun d e w => pw (popStep i d) e w PO
  | _ => False := by
  cases q : slotD e[i]? with
  | none => unfold pw okR; rw [ePopAt_eq, q]
  | some d =>
    cases d with
    | lst xs => exact (show pw (ePopAt i a) e w PO = pw (bnd a fun o => bnd (look o) fun d => popStep i d) e w PO by unfold pw okR; rw [ePopAt_eq, q]; rfl).trans (by simp only [pw_bnd])
    | _ => unfold pw okR; rw [ePopAt_eq, q]
theorem pw_popStep {i : Nat} {xs : List D} {k : Int} {j : Nat} {y : D} (h : e[i]? = some (.own (.lst xs))) (k1 : -100000 ≤ k) (k2 : k ≤ 100000) (hj : L2.ixN xs.length k = some j) (hy : xs[j]? = some y) : pw (popStep i (.int k)) e w PO = PO (.d y) (e.set i (.own (.lst (xs.eraseIdx j)))) w := by
  unfold pw okR popStep
  rw [h]
  simp only [k1, k2, and_self, if_true, hj, hy]
theorem pw_forL_nil {g : D → M Unit} {b : M Flow} : pw (forL g b []) e w PF = PF .next e w := rfl
theorem pw_forL_cons {g : D → M Unit} {b : M Flow} {x : D} {xs : List D} : pw (forL g b (x :: xs)) e w PF = pw (g x) e w fun _ e w => pw b e w fun f e w => match f with
  | .next => pw (forL g b xs) e w PF
  | .cnt => pw (forL g b xs) e w PF
  | .brk => PF .next e w
  | .ret s => PF (.ret s) e w := by
  rw [forL_cons]
  simp only [pw_bnd]
  congr 1; funext _ e w; congr 1; funext f e w
  cases f <;> rfl
/-- a loop, by what holds behind so many turns -/
theorem pw_forL {g : D → M Unit} {b : M Flow} {xs : List D} (I : Nat → Env → W → Prop) (h0 : I 0 e w)
    (step : ∀ i x e w, xs[i]? = some x → I i e w → pw (g x) e w fun _ e w => pw b e w fun f e w => match f with
      | .next => I (i + 1) e w
      | .cnt => I (i + 1) e w
      | .brk => PF .next e w
      | .ret s => PF (.ret s) e w) (hend : ∀ e w, I xs.length e w → PF .next e w) : pw (forL g b xs) e w PF := by
  suffices ∀ (k : Nat) (ys : List D) (e : Env) (w : W), xs = xs.take k ++ ys → k ≤ xs.length → I k e w → pw (forL g b ys) e w PF from this 0 xs e w rfl (Nat.zero_le _) h0
  intro k ys
  induction ys generalizing k with
  | nil =>
    intro e w hx hk hI
    rw [pw_forL_nil]
    refine hend e w ?_
    have : k = xs.length := by
      have := congrArg List.length hx
      rw [List.append_nil, List.length_take] at this
      omega
    rw [← this]; exact hI
  | cons y ys ih =>
    intro e w hx hk hI
    have hlen : k < xs.length := by
      have := congrArg List.length hx
      rw [List.length_append, List.length_take, List.length_cons] at this
      omega
    have hy : xs[k]? = some y := by
      rw [hx, List.getElem?_append_right (by rw [List.length_take]; omega), List.length_take, Nat.min_eq_left hk, Nat.sub_self]; rfl
    have hx' : xs = xs.take (k + 1) ++ ys := by
      rw [List.take_add_one, hy]
      show xs = xs.take k ++ [y] ++ ys
      rw [List.append_assoc]; exact hx
    rw [pw_forL_cons]
    refine pw_mono (step k y e w hy hI) fun _ e1 w1 h1 => pw_mono h1 fun f e2 w2 h2 => ?_
    cases f with
    | next => exact ih (k + 1) e2 w2 hx' hlen h2
    | cnt => exact ih (k + 1) e2 w2 hx' hlen h2
    | brk => exact h2
    | ret s => exact h2
/-- a while, by a measure -/
theorem pw_sWhile {t : M Bool} {b : M Flow} (I : Nat → Env → W → Prop) {k : Nat} (h0 : I k e w)
    (step : ∀ k e w, I k e w → pw t e w fun c e w => (c = true → pw b e w fun f e w => match f with
      | .next => ∃ j, j < k ∧ I j e w
      | .cnt => ∃ j, j < k ∧ I j e w
      | .brk => PF .next e w
      | .ret s => PF (.ret s) e w) ∧ (c = false → PF .next e w)) : pw (sWhile t b) e w PF := by
  suffices ∃ n r, whileN t b n e w = some r ∧ okR r PF by
    obtain ⟨n, r, h1, h2⟩ := this
    unfold pw
    rw [sWhile_of h1]; exact h2
  induction k using Nat.strongRecOn generalizing e w with
  | ind k ih =>
    have h := step k e w h0
    unfold pw okR at h
    cases q : t e w with
    | bad => rw [q] at h; exact h.elim
    | ex x e1 w1 => rw [q] at h; exact h.elim
    | ok c e1 w1 =>
      rw [q] at h
      cases c with
      | false => exact ⟨1, .ok .next e1 w1, by rw [whileN_succ, q], h.2 rfl⟩
      | true =>
        have h1 := h.1 rfl
        (try unfold pw at h1)
        (try unfold okR at h1)
        cases q2 : b e1 w1 with
        | bad => rw [q2] at h1; exact h1.elim
        | ex x e2 w2 => rw [q2] at h1; exact h1.elim
        | ok f e2 w2 =>
          rw [q2] at h1
          cases f with
          | next =>
            obtain ⟨j, hj, hI⟩ := h1
            obtain ⟨n, r, r1, r2⟩ := ih j hj hI
            exact ⟨n + 1, r, by rw [whileN_succ, q]; simp only [q2]; exact r1, r2⟩
          | cnt =>
            obtain ⟨j, hj, hI⟩ := h1
            obtain ⟨n, r, r1, r2⟩ := ih j hj hI
            exact ⟨n + 1, r, by rw [whileN_succ, q]; simp only [q2]; exact r1, r2⟩
          | brk => exact ⟨1, .ok .next e2 w2, by rw [whileN_succ, q]; simp only [q2], h1⟩
          | ret s => exact ⟨1, .ok (.ret s) e2 w2, by rw [whileN_succ, q]; simp only [q2], h1⟩
/-! comprehensions -/
theorem pw_compL_nil {vs : List Nat} {g : D → M Unit} {t : M Bool} {elt : M Opd} : pw (compL vs g t elt []) e w PL = PL [] e w := rfl
theorem pw_compL_cons {vs : List Nat} {g : D → M Unit} {t : M Bool} {elt : M Opd} {x : D} {xs : List D} : pw (compL vs g t elt (x :: xs)) e w PL = pw (g x) (wipeE e vs) w fun _ e w => pw t e w fun b e w =>
    (b = true → pw elt e w fun o e w => pw (frz o) e w fun d e w => pw (compL vs g t elt xs) e w fun ds e w => PL (d :: ds) e w) ∧ (b = false → pw (compL vs g t elt xs) e w PL) := by
  rw [compL_cons, pw_bnd]
  simp only [pw_bnd, pw_bool, pw_ret]
  rfl
@[simp] theorem pw_comp {vs : List Nat} {it : M (List D)} {g : D → M Unit} {t : M Bool} {elt : M Opd} : pw (comp vs it g t elt) e w PL = pw it e w fun items e w =>
    (vs.any (fun v => isOwn e[v]?) = false ∧ items.length ≤ 100000) ∧ pw (compL vs g t elt items) e w fun ds e' w' => PL ds (backE e e' vs) w' := by
  unfold comp
  rw [pw_bnd]
  congr 1; funext items e w
  unfold pw okR
  dsimp only
  by_cases h : (vs.any (fun v => isOwn e[v]?) || decide (100000 < items.length)) = true
  · rw [if_pos h]
    simp only [Bool.or_eq_true, decide_eq_true_eq] at h
    simp only [eq_iff_iff, false_iff, not_and]
    intro ⟨h1, h2⟩
    rcases h with h | h
    · rw [h1] at h; cases h
    · omega
  · rw [if_neg h]
    simp only [Bool.or_eq_true, decide_eq_true_eq, not_or, Bool.not_eq_true, Nat.not_lt] at h
    simp only [h.1, h.2, and_self, true_and]
    cases compL vs g t elt items e w <;> rfl
@[simp] theorem pw_eComp {vs : List Nat} {it : M (List D)} {g : D → M Unit} {t : M Bool} {elt : M Opd} : pw (eComp vs it g t elt) e w PO = pw (comp vs it g t elt) e w fun ds e w => PO (.d (.lst ds)) e w := by unfold eComp; simp only [pw_bnd, pw_ret]
@[simp] theorem pw_oComp {vs : List Nat} {it : M (List D)} {g : D → M Unit} {t : M Bool} {elt : M Opd} : pw (oComp vs it g t elt) e w PS = pw (comp vs it g t elt) e w fun ds e w => PS (.own (.lst ds)) e w := by unfold oComp; simp only [pw_bnd, pw_ret]
@[simp] theorem pw_tYes : pw Mnd.tYes e w PBo = PBo true e w := rfl
/-- what a comprehension makes, by what holds behind so many items -/
theorem pw_compL {vs : List Nat} {g : D → M Unit} {t : M Bool} {elt : M Opd} {xs : List D} (I : Nat → List D → Env → W → Prop) (h0 : I 0 [] e w)
    (step : ∀ i x ds e w, xs[i]? = some x → I i ds e w → pw (g x) (wipeE e vs) w fun _ e w => pw t e w fun b e w =>
      (b = true → pw elt e w fun o e w => pw (frz o) e w fun d e w => I (i + 1) (ds ++ [d]) e w) ∧ (b = false → I (i + 1) ds e w))
    (hend : ∀ ds e w, I xs.length ds e w → PL ds e w) : pw (compL vs g t elt xs) e w PL := by
  suffices ∀ (k : Nat) (ys : List D) (ds : List D) (e : Env) (w : W) (PL' : List D → Env → W → Prop), (∀ r e w, I xs.length (ds ++ r) e w → PL' r e w) → xs = xs.take k ++ ys → k ≤ xs.length → I k ds e w → pw (compL vs g t elt ys) e w PL' from
    this 0 xs [] e w PL (fun r e w h => hend r e w (by simpa using h)) rfl (Nat.zero_le _) h0
  intro k ys
  induction ys generalizing k with
  | nil =>
    intro ds e w PL' hP hx hk hI
    rw [pw_compL_nil]
    refine hP [] e w ?_
    have : k = xs.length := by
      have := congrArg List.length hx
      rw [List.append_nil, List.length_take] at this
      omega
    rw [← this, List.append_nil]; exact hI
  | cons y ys ih =>
    intro ds e w PL' hP hx hk hI
    have hlen : k < xs.length := by
      have := congrArg List.length hx
      rw [List.length_append, List.length_take, List.length_cons] at this
      omega
    have hy : xs[k]? = some y := by
      rw [hx, List.getElem?_append_right (by rw [List.length_take]; omega), List.length_take, Nat.min_eq_left hk, Nat.sub_self]; rfl
    have hx' : xs = xs.take (k + 1) ++ ys := by
      rw [List.take_add_one, hy]
      show xs = xs.take k ++ [y] ++ ys
      rw [List.append_assoc]; exact hx
    rw [pw_compL_cons]
    refine pw_mono (step k y ds e w hy hI) fun _ e1 w1 h1 => pw_mono h1 fun b e2 w2 h2 => ⟨fun hb => ?_, fun hb => ?_⟩
    · refine pw_mono (h2.1 hb) fun o e3 w3 h3 => pw_mono h3 fun d e4 w4 h4 => ?_
      exact ih (k + 1) (ds ++ [d]) e4 w4 _ (fun r e w h => hP (d :: r) e w (by simpa using h)) hx' hlen h4
    · exact ih (k + 1) ds e2 w2 _ hP hx' hlen (h2.2 hb)
/-! defs -/
@[simp] theorem pf_mkFn {n np : Nat} {b : M Flow} {as : List Sl} {PFn : Sl → W → Prop} : pf (mkFn n np b) as w PFn = (as.length = np ∧ pw b (as ++ List.replicate (n - np) .no) w fun f _ w => match f with
  | .ret s => PFn s w
  | .next => PFn (.val .non) w
  | _ => False) := by
  unfold pf mkFn
  by_cases h : as.length = np
  · rw [if_pos h, show (as.length = np) = True from eq_true h, true_and]
    unfold pw okR
    cases b (as ++ List.replicate (n - np) .no) w with
    | ok f e w' => cases f <;> rfl
    | ex x e w' => rfl
    | bad => rfl
  · rw [if_neg h, show (as.length = np) = False from eq_false h, false_and]
end
end Mnd
/-! Steps of the plain calculus; fractions as rationals. -/
namespace Mnd
open PySem
theorem log2_le {n k : Nat} (h : n < 2 ^ k) : n.log2 ≤ k := by
  by_cases z : n = 0
  · subst z; exact Nat.le_trans (by decide : Nat.log2 0 ≤ 0) (Nat.zero_le _)
  · exact Nat.le_of_lt ((Nat.log2_lt z).mpr h)
theorem dMul_ok {i j : Int} (n m : Nat) (h1 : i.natAbs < 2 ^ n) (h2 : j.natAbs < 2 ^ m) (h : n + m ≤ 400000) : dMul (.int i) (.int j) = some (.int (i * j)) := by
  have := log2_le h1
  have := log2_le h2
  exact if_pos (by omega)
theorem dFdiv_ok {i j : Int} (n : Nat) (h0 : j ≠ 0) (h1 : j.natAbs < 2 ^ n) (h : n < 8000) : dFdiv (.int i) (.int j) = some (.int (i.fdiv j)) := by
  have := log2_le h1
  exact if_pos ⟨h0, by omega⟩
theorem dGcd_ok {i j : Int} (n : Nat) (h1 : i.natAbs < 2 ^ n) (h2 : j.natAbs < 2 ^ n) (h : n < 8000) : dGcd (.int i) (.int j) = some (.int (Int.gcd i j)) := by
  have := log2_le h1
  have := log2_le h2
  exact if_pos (by omega)
theorem dMod_ok {i j : Int} (h : j ≠ 0) : dMod (.int i) (.int j) = some (.int (i.fmod j)) := if_pos h
@[simp] theorem dAdd_int {i j : Int} : dAdd (.int i) (.int j) = some (.int (i + j)) := rfl
@[simp] theorem dSub_int {i j : Int} : dSub (.int i) (.int j) = some (.int (i - j)) := rfl
@[simp] theorem dNeg_int {i : Int} : dNeg (.int i) = some (.int (-i)) := rfl
@[simp] theorem dAbs_int {i : Int} : dAbs (.int i) = some (.int (if i < 0 then -i else i)) := rfl
@[simp] theorem dInt_int {i : Int} : dInt (.int i) = some (.int i) := rfl
@[simp] theorem dLt_int {i j : Int} : dLt (.int i) (.int j) = some (.bl (decide (i < j))) := rfl
@[simp] theorem dLe_int {i j : Int} : dLe (.int i) (.int j) = some (.bl (decide (i ≤ j))) := rfl
@[simp] theorem dGt_int {i j : Int} : dGt (.int i) (.int j) = some (.bl (decide (j < i))) := rfl
@[simp] theorem dGe_int {i j : Int} : dGe (.int i) (.int j) = some (.bl (decide (j ≤ i))) := rfl
@[simp] theorem dMin_int {i j : Int} : dMin (.int i) (.int j) = some (.int (if j < i then j else i)) := rfl
@[simp] theorem dMax_int {i j : Int} : dMax (.int i) (.int j) = some (.int (if j > i then j else i)) := rfl
@[simp] theorem dIsB_int {t : Ty} {i : Int} : dIsB t (.int i) = some (.bl (match t with | .int => true | _ => false)) := by cases t <;> rfl
@[simp] theorem dIsB_bl {t : Ty} {i : Bool} : dIsB t (.bl i) = some (.bl (match t with | .int => true | .bool => true | _ => false)) := by cases t <;> rfl
@[simp] theorem dIsB_tup {t : Ty} {i : List D} : dIsB t (.tup i) = some (.bl (match t with | .tuple => true | _ => false)) := by cases t <;> rfl
@[simp] theorem dIsB_lst {t : Ty} {i : List D} : dIsB t (.lst i) = some (.bl (match t with | .list => true | _ => false)) := by cases t <;> rfl
@[simp] theorem dIsB_non {t : Ty} : dIsB t .non = some (.bl false) := by cases t <;> rfl
@[simp] theorem dIsB_str {t : Ty} {i : Str} : dIsB t (.str i) = some (.bl (match t with | .str => true | _ => false)) := by cases t <;> rfl
@[simp] theorem dLen_tup {xs : List D} : dLen (.tup xs) = some (.int xs.length) := rfl
@[simp] theorem dLen_lst {xs : List D} : dLen (.lst xs) = some (.int xs.length) := rfl
@[simp] theorem dLen_scr {xs : List Int} : dLen (.scr xs) = some (.int xs.length) := rfl
@[simp] theorem dTupOf_tup {xs : List D} : dTupOf (.tup xs) = some (.tup xs) := rfl
@[simp] theorem dTupOf_lst {xs : List D} : dTupOf (.lst xs) = some (.tup xs) := rfl
@[simp] theorem dLstOf_tup {xs : List D} : dLstOf (.tup xs) = some (.lst xs) := rfl
@[simp] theorem dLstOf_lst {xs : List D} : dLstOf (.lst xs) = some (.lst xs) := rfl
@[simp] theorem seqItems_tup {xs : List D} : seqItems (.tup xs) = some xs := rfl
@[simp] theorem seqItems_lst {xs : List D} : seqItems (.lst xs) = some xs := rfl
@[simp] theorem seqItems_scr {xs : List Int} : seqItems (.scr xs) = some (xs.map .int) := rfl
@[simp] theorem dIsN_of {d : D} : dIs2 d .non = dIsN d := rfl
@[simp] theorem dIsNot_of {d : D} : dIsNot2 d .non = dIsNotN d := rfl
@[simp] theorem dEq_int (i j : Int) : dEq (.int i) (.int j) = some (.bl (i == j)) := by
  simp [dEq, dEqB, D.py, SeqAt.shaped, PyData.eqv, PyData.canLay0, PyData.depth]
@[simp] theorem dNe_int (i j : Int) : dNe (.int i) (.int j) = some (.bl (!(i == j))) := by
  simp [dNe, dEqB, D.py, SeqAt.shaped, PyData.eqv, PyData.canLay0, PyData.depth]
@[simp] theorem dEq_int_non (i : Int) : dEq (.int i) .non = some (.bl false) := by
  simp [dEq, dEqB, D.py, SeqAt.shaped, PyData.eqv, PyData.canLay0, PyData.depth]
@[simp] theorem dEq_bl (i j : Bool) : dEq (.bl i) (.bl j) = some (.bl (i == j)) := by
  simp [dEq, dEqB, D.py, SeqAt.shaped, PyData.eqv, PyData.canLay0, PyData.depth]
@[simp] theorem dIsN_non : dIsN .non = some (.bl true) := rfl
@[simp] theorem dIsNotN_non : dIsNotN .non = some (.bl false) := rfl
@[simp] theorem dIsN_int {i : Int} : dIsN (.int i) = some (.bl false) := rfl
@[simp] theorem dIsNotN_int {i : Int} : dIsNotN (.int i) = some (.bl true) := rfl
@[simp] theorem dIsN_tup {i : List D} : dIsN (.tup i) = some (.bl false) := rfl
@[simp] theorem dIsNotN_tup {i : List D} : dIsNotN (.tup i) = some (.bl true) := rfl
@[simp] theorem dIx_pair0 {a b : D} : dIx (.tup [a, b]) (.int 0) = some a := rfl
@[simp] theorem dIx_pair1 {a b : D} : dIx (.tup [a, b]) (.int 1) = some b := rfl
theorem atI_nat {α : Type} {xs : List α} {i : Nat} {x : α} (h : xs[i]? = some x) : L2.atI xs (i : Int) = some x := by
  have hi := (List.getElem?_eq_some_iff.mp h).1
  unfold L2.atI L2.ixN
  rw [if_pos (by omega), if_pos (by omega)]
  simpa using h
theorem ixN_nat {n i : Nat} (h : i < n) : L2.ixN n (i : Int) = some i := by
  unfold L2.ixN
  rw [if_pos (by omega), if_pos (by omega)]
  simp
theorem pf_eq {f : Fn} {a : List Sl} {w w' : W} {X : Sl} (h : pf f a w fun s v => s = X ∧ v = w') (P : Sl → W → Prop) : pf f a w P = P X w' := by
  unfold pf at h ⊢
  cases q : f a w with
  | ok s v => rw [q] at h; obtain ⟨rfl, rfl⟩ := h; rfl
  | ex x v => rw [q] at h; exact h.elim
  | bad => rw [q] at h; exact h.elim
theorem pc_eq {g : Clo} {a : List D} {w w' : W} {X : D} (h : pc g a w fun s v => s = X ∧ v = w') (P : D → W → Prop) : pc g a w P = P X w' := by
  unfold pc at h ⊢
  cases q : g a w with
  | ok s v => rw [q] at h; obtain ⟨rfl, rfl⟩ := h; rfl
  | ex x v => rw [q] at h; exact h.elim
  | bad => rw [q] at h; exact h.elim
theorem sIx_some {n : Nat} {d : Nat} {i : Nat} (h : i ≤ n) : HT.sIx n d (some (i : Int)) = i := by
  rw [HT.sIx_nat]; omega
theorem cutL_to {α : Type} {xs : List α} {i : Nat} (h : i ≤ xs.length) : cutL xs none (some (i : Int)) = xs.take i := by
  unfold cutL
  rw [sIx_some h]
  simp [HT.sIx]
theorem cutL_from {α : Type} {xs : List α} {i : Nat} (h : i ≤ xs.length) : cutL xs (some (i : Int)) none = xs.drop i := by
  unfold cutL
  rw [sIx_some h]
  simp only [HT.sIx]
  rw [List.take_of_length_le]
  simp
@[simp] theorem dCut_tup {xs : List D} {l h : Option Int} : dCut (.tup xs) l h = some (.tup (cutL xs l h)) := rfl
@[simp] theorem dCut_lst {xs : List D} {l h : Option Int} : dCut (.lst xs) l h = some (.lst (cutL xs l h)) := rfl
@[simp] theorem dAll_lst {xs : List D} : dAll (.lst xs) = (allB xs).map fun bs => .bl (bs.all id) := rfl
@[simp] theorem allB_nil : allB [] = some [] := rfl
@[simp] theorem allB_cons {b : Bool} {r : List D} : allB (.bl b :: r) = (allB r).map (b :: ·) := rfl
/-! ### fractions -/
/-- a rational as the pair that the program keeps -/
def rD (q : Rat) : D := .tup [.int q.num, .int q.den]
theorem num_div {n d : Int} (h : 0 < d) : n.fdiv (Int.gcd n d) = (Rat.divInt n d).num := by
  rw [Rat.num_divInt, Int.sign_eq_one_of_pos h, Int.one_mul, Int.gcd_comm, Int.fdiv_eq_ediv_of_nonneg _ (by omega)]
theorem den_div {n d : Int} (h : 0 < d) : d.fdiv (Int.gcd n d) = ((Rat.divInt n d).den : Int) := by
  rw [Rat.den_divInt, if_neg (by omega), Int.gcd_comm, Int.fdiv_eq_ediv_of_nonneg _ (by omega)]
  have : (d.natAbs : Int) = d := by omega
  rw [Int.natCast_ediv, this]
end Mnd
/-! Comprehensions whose items do not depend on each other. -/
namespace Mnd
open PySem
theorem pw_seq {a b : M Flow} {e : Env} {w : W} {PF : Flow → Env → W → Prop} (R : Env → W → Prop) (h1 : pw a e w fun f e w => f = .next ∧ R e w) (h2 : ∀ e w, R e w → pw b e w PF) : pw (sSeq a b) e w PF := by
  rw [pw_sSeq]
  refine pw_mono h1 ?_
  rintro f e w ⟨rfl, h⟩
  exact h2 e w h
/-- items that are kept by a test and made one by one -/
theorem pw_fm {α : Type} {vs : List Nat} {g : D → M Unit} {t : M Bool} {elt : M Opd} {e : Env} {w : W} {as : List α} {it : α → D} {P : List D → Env → W → Prop} (E : α → Env) (c : α → Bool) (out : α → D)
    (hw : wipeE e vs = e) (hb : backE e e vs = e) (hE : ∀ a ∈ as, wipeE (E a) vs = e ∧ backE e (E a) vs = e)
    (hg : ∀ a ∈ as, pw (g (it a)) e w fun _ e' w' => e' = E a ∧ w' = w)
    (ht : ∀ a ∈ as, pw t (E a) w fun b e' w' => b = c a ∧ e' = E a ∧ w' = w)
    (he : ∀ a ∈ as, c a = true → pw elt (E a) w fun o e' w' => pw (frz o) e' w' fun d e2 w2 => d = out a ∧ e2 = E a ∧ w2 = w)
    (h : ∀ e', backE e e' vs = e → P ((as.filter c).map out) e' w) : pw (compL vs g t elt (as.map it)) e w P := by
  refine pw_compL (fun i ds e' w' => ds = ((as.take i).filter c).map out ∧ wipeE e' vs = e ∧ backE e e' vs = e ∧ w' = w) ⟨rfl, hw, hb, rfl⟩ ?_ ?_
  · rintro i x ds e' w' hx ⟨rfl, h1, h2, rfl⟩
    rw [List.getElem?_map] at hx
    obtain ⟨a, ha, rfl⟩ := Option.map_eq_some_iff.mp hx
    have hm := List.mem_of_getElem? ha
    rw [h1]
    refine pw_mono (hg a hm) ?_
    rintro _ _ _ ⟨rfl, rfl⟩
    refine pw_mono (ht a hm) ?_
    rintro b _ _ ⟨rfl, rfl, rfl⟩
    rw [List.take_add_one, ha]
    refine ⟨fun hc => ?_, fun hc => ?_⟩
    · refine pw_mono (he a hm hc) fun o e3 w3 h3 => pw_mono h3 ?_
      rintro d _ _ ⟨rfl, rfl, rfl⟩
      exact ⟨by simp [hc], (hE a hm).1, (hE a hm).2, rfl⟩
    · exact ⟨by simp [hc], (hE a hm).1, (hE a hm).2, rfl⟩
  · rintro ds e' w' ⟨rfl, h1, h2, rfl⟩
    rw [List.length_map, List.take_length]
    exact h e' h2
/-- items made one by one, each by what it draws -/
theorem pw_tm {α : Type} {v : Nat} {elt : M Opd} {e : Env} {w : W} {as : List α} {it : α → D} {P : List D → Env → W → Prop} (β : Type) (out : β → D) (Q : Nat → β → Prop) (I : Nat → W → Prop) (h0 : I 0 w) (hv : e[v]? = some .no)
    (he : ∀ i a w, as[i]? = some a → I i w → pw elt (e.set v (.val (it a))) w fun o e' w' => pw (frz o) e' w' fun d e2 w2 => (∃ b, d = out b ∧ Q i b) ∧ e2 = e.set v (.val (it a)) ∧ I (i + 1) w2)
    (h : ∀ bs e' w', List.length bs = as.length → (∀ (i : Nat) b, bs[i]? = some b → Q i b) → I as.length w' → backE e e' [v] = e → P (bs.map out) e' w') : pw (compL [v] (gVar v) tYes elt (as.map it)) e w P := by
  have hlt := (List.getElem?_eq_some_iff.mp hv).1
  have hset : ∀ x : Sl, (e.set v x).set v .no = e := fun x => by
    rw [List.set_set]
    refine List.ext_getElem? fun j => ?_
    by_cases hj : v = j
    · subst hj; rw [List.getElem?_set_self hlt, hv]
    · rw [List.getElem?_set_ne hj]
  have hback : ∀ e', e'.set v .no = e → backE e e' [v] = e := fun e' h => by
    show (match e[v]? with | some s => (backE e e' []).set v s | none => backE e e' []) = e
    rw [hv]; exact h
  refine pw_compL (fun i ds e' w' => (∃ bs : List β, ds = bs.map out ∧ bs.length = i ∧ ∀ (j : Nat) b, bs[j]? = some b → Q j b) ∧ e'.set v .no = e ∧ I i w') ⟨⟨[], rfl, rfl, by simp⟩, by
    refine List.ext_getElem? fun j => ?_
    by_cases hj : v = j
    · subst hj; rw [List.getElem?_set_self hlt, hv]
    · rw [List.getElem?_set_ne hj], h0⟩ ?_ ?_
  · rintro i x ds e' w' hx ⟨⟨bs, rfl, hl, hq⟩, h1, h2⟩
    rw [List.getElem?_map] at hx
    obtain ⟨a, ha, rfl⟩ := Option.map_eq_some_iff.mp hx
    have hwp : wipeE e' [v] = e := h1
    rw [hwp, pw_gVar]
    refine ⟨hlt, ?_⟩
    rw [pw_tYes]
    refine ⟨fun _ => ?_, fun z => by cases z⟩
    refine pw_mono (he i a w' ha h2) fun o e3 w3 h3 => pw_mono h3 ?_
    rintro d _ w4 ⟨⟨b, rfl, hb⟩, rfl, hI⟩
    refine ⟨⟨bs ++ [b], by simp, by simp [hl], fun j b' hj => ?_⟩, hset _, hI⟩
    by_cases hlt2 : j < bs.length
    · rw [List.getElem?_append_left hlt2] at hj
      exact hq j b' hj
    · rw [List.getElem?_append_right (by omega)] at hj
      have hj0 : j - bs.length = 0 := by
        have := (List.getElem?_eq_some_iff.mp hj).1
        simp at this; omega
      rw [hj0] at hj
      have : j = i := by omega
      subst this
      have : b = b' := by simpa using hj
      subst this; exact hb
  · rintro ds e' w' ⟨⟨bs, rfl, hl, hq⟩, h1, h2⟩
    rw [List.length_map] at hl h2
    exact h bs e' w' hl hq h2 (hback e' h1)
end Mnd
/-! Middles, no program in sight. -/
namespace Mnd
def midG {α : Type} (le : α → α → Bool) (near : α → α → α → Bool) (own : α) (xs : List α) : α :=
  let t := (own :: xs).mergeSort le
  let lo := t[(t.length - 1) / 2]?.getD own
  let hi := t[t.length / 2]?.getD own
  if near own lo hi then lo else hi
theorem sort_len {α : Type} {le : α → α → Bool} {l : List α} : (l.mergeSort le).length = l.length := (List.mergeSort_perm l le).length_eq
theorem midG_lo {α : Type} {le : α → α → Bool} {own : α} {xs : List α} {i : Nat} (h : i < xs.length + 1) : ∃ x, ((own :: xs).mergeSort le)[i]? = some x ∧ x ∈ own :: xs := by
  have hi : i < ((own :: xs).mergeSort le).length := by rw [sort_len]; exact h
  refine ⟨_, List.getElem?_eq_getElem hi, ?_⟩
  rw [← (List.mergeSort_perm (own :: xs) le).mem_iff]
  exact List.getElem_mem hi
theorem midG_mem {α : Type} {le : α → α → Bool} {near : α → α → α → Bool} {own : α} {xs : List α} : midG le near own xs ∈ own :: xs := by
  unfold midG
  dsimp only
  have hl : ((own :: xs).mergeSort le).length = xs.length + 1 := by rw [sort_len]; rfl
  obtain ⟨a, h1, h2⟩ := midG_lo (le := le) (own := own) (xs := xs) (i := (((own :: xs).mergeSort le).length - 1) / 2) (by rw [hl]; omega)
  obtain ⟨b, h3, h4⟩ := midG_lo (le := le) (own := own) (xs := xs) (i := ((own :: xs).mergeSort le).length / 2) (by rw [hl]; omega)
  rw [h1, h3]
  split
  · exact h2
  · exact h4
theorem midG_map {α β : Type} {le : α → α → Bool} {near : α → α → α → Bool} {le' : β → β → Bool} {near' : β → β → β → Bool} {f : α → β} {own : α} {xs : List α}
    (h1 : ∀ a ∈ own :: xs, ∀ b ∈ own :: xs, le a b = le' (f a) (f b)) (h2 : ∀ a ∈ own :: xs, ∀ b ∈ own :: xs, near' (f own) (f a) (f b) = near own a b) :
    midG le' near' (f own) (xs.map f) = f (midG le near own xs) := by
  have e : (f own :: xs.map f).mergeSort le' = ((own :: xs).mergeSort le).map f := (List.map_mergeSort (f := f) (l := own :: xs) h1).symm
  unfold midG
  rw [e]
  dsimp only
  rw [List.length_map]
  have hl : ((own :: xs).mergeSort le).length = xs.length + 1 := by rw [sort_len]; rfl
  obtain ⟨a, h3, h4⟩ := midG_lo (le := le) (own := own) (xs := xs) (i := (((own :: xs).mergeSort le).length - 1) / 2) (by rw [hl]; omega)
  obtain ⟨b, h5, h6⟩ := midG_lo (le := le) (own := own) (xs := xs) (i := ((own :: xs).mergeSort le).length / 2) (by rw [hl]; omega)
  rw [List.getElem?_map, List.getElem?_map, h3, h5]
  show (if near' (f own) (f a) (f b) = true then f a else f b) = f (if near own a b = true then a else b)
  rw [h2 a h4 b h6]
  split <;> rfl
def rle (a b : Rat) : Bool := decide (a ≤ b)
def rabs (q : Rat) : Rat := if q < 0 then -q else q
def rnear (o a b : Rat) : Bool := decide (rabs (o - a) ≤ rabs (o - b))
def mid (own : Rat) (xs : List Rat) : Rat := midG rle rnear own xs
def iabs (i : Int) : Int := if i < 0 then -i else i
def ile (a b : Int) : Bool := decide (a ≤ b)
def inear (o a b : Int) : Bool := decide (iabs (o - a) ≤ iabs (o - b))
def midI (own : Int) (xs : List Int) : Int := midG ile inear own xs
def srt (xs : List Rat) : List Rat := xs.mergeSort rle
theorem srt_sorted (xs : List Rat) : (srt xs).Pairwise (· ≤ ·) := by
  have := List.pairwise_mergeSort (le := rle) (fun a b c => by unfold rle; simp; grind) (fun a b => by unfold rle; simp; grind) xs
  exact this.imp fun h => by simpa [rle] using h
theorem srt_eq {xs ys : List Rat} (h1 : ys.Perm xs) (h2 : ys.Pairwise (· ≤ ·)) : ys = srt xs :=
  List.Perm.eq_of_pairwise (le := (· ≤ ·)) (fun a b _ _ h h' => Rat.le_antisymm h h') h2 (srt_sorted xs) (h1.trans (List.mergeSort_perm xs rle).symm)
theorem srt_perm {xs ys : List Rat} (h : xs.Perm ys) : srt xs = srt ys := srt_eq ((List.mergeSort_perm xs rle).trans h) (srt_sorted xs)
theorem mid_perm {own : Rat} {xs ys : List Rat} (h : xs.Perm ys) : mid own xs = mid own ys := by
  have e : (own :: xs).mergeSort rle = (own :: ys).mergeSort rle := srt_perm (h.cons own)
  unfold mid midG
  rw [e]
theorem mid_nil {own : Rat} : mid own [] = own := by
  have := midG_mem (le := rle) (near := rnear) (own := own) (xs := [])
  unfold mid
  simpa using this
/-! whole numbers -/
def wI (B : Nat) (q : Rat) : Int := q.num * (B / q.den : Nat)
theorem wI_cast {B : Nat} {q : Rat} (h : q.den ∣ B) : ((wI B q : Int) : Rat) = q * B := by
  obtain ⟨c, rfl⟩ := h
  have hp := q.den_pos
  unfold wI
  rw [Nat.mul_div_cancel_left _ hp]
  rw [Rat.mul_def']
  have e1 : q.num * ((q.den * c : Nat) : Rat).num = (q.num * (c : Int)) * (q.den : Int) := by
    rw [Rat.num_natCast, Int.natCast_mul, Int.mul_assoc, Int.mul_comm (c : Int)]
  have e2 : q.den * ((q.den * c : Nat) : Rat).den = 1 * q.den := by rw [Rat.den_natCast]; omega
  rw [e1, e2, Rat.mkRat_mul_right (Nat.pos_iff_ne_zero.mp hp)]
  simp [Rat.mkRat_one]
theorem rmul_le {a b c : Rat} (hc : 0 < c) : a * c ≤ b * c ↔ a ≤ b := ⟨fun h => Rat.le_of_mul_le_mul_right h hc, fun h => Rat.mul_le_mul_of_nonneg_right h (Rat.le_of_lt hc)⟩
theorem wI_le {B : Nat} (hB : 0 < B) {a b : Rat} (ha : a.den ∣ B) (hb : b.den ∣ B) : wI B a ≤ wI B b ↔ a ≤ b := by
  have hBr : (0 : Rat) < (B : Rat) := by exact_mod_cast hB
  rw [← Rat.intCast_le_intCast, wI_cast ha, wI_cast hb]
  exact rmul_le hBr
theorem rabs_mul {a c : Rat} (hc : 0 < c) : rabs (a * c) = rabs a * c := by
  unfold rabs
  have h : a * c < 0 ↔ a < 0 := by
    constructor
    · intro h
      rcases Rat.le_total (a := 0) (b := a) with h' | h'
      · have := Rat.mul_nonneg h' (Rat.le_of_lt hc); grind
      · by_cases z : a = 0
        · subst z; grind
        · grind
    · intro h
      have := Rat.mul_pos (show (0 : Rat) < -a by grind) hc
      grind
  by_cases ha : a < 0
  · rw [if_pos ha, if_pos (h.mpr ha)]; grind
  · rw [if_neg ha, if_neg (fun z => ha (h.mp z))]
theorem iabs_cast (i : Int) : ((iabs i : Int) : Rat) = rabs (i : Rat) := by
  unfold iabs rabs
  by_cases h : i < 0
  · rw [if_pos h, if_pos (by exact_mod_cast h)]; simp
  · rw [if_neg h, if_neg (by intro z; exact h (by exact_mod_cast z))]
theorem wI_near {B : Nat} (hB : 0 < B) {o a b : Rat} (ho : o.den ∣ B) (ha : a.den ∣ B) (hb : b.den ∣ B) : inear (wI B o) (wI B a) (wI B b) = rnear o a b := by
  have hBr : (0 : Rat) < (B : Rat) := by exact_mod_cast hB
  unfold inear rnear
  congr 1
  rw [← Rat.intCast_le_intCast, iabs_cast, iabs_cast, Rat.intCast_sub, Rat.intCast_sub, wI_cast ho, wI_cast ha, wI_cast hb]
  rw [show o * (B : Rat) - a * B = (o - a) * B by grind, show o * (B : Rat) - b * B = (o - b) * B by grind, rabs_mul hBr, rabs_mul hBr]
  rw [rmul_le hBr]
theorem midI_map {B : Nat} (hB : 0 < B) {own : Rat} {xs : List Rat} (h : ∀ q ∈ own :: xs, q.den ∣ B) : midI (wI B own) (xs.map (wI B)) = wI B (mid own xs) := by
  unfold midI mid
  refine midG_map (fun a ha b hb => ?_) (fun a ha b hb => ?_)
  · unfold rle ile
    congr 1
    exact propext (wI_le hB (h a ha) (h b hb)).symm
  · exact wI_near hB (h own (List.mem_cons_self ..)) (h a ha) (h b hb)
/-! webs -/
abbrev Web := List (Nat × Nat)
structure WebOk (n : Nat) (web : Web) : Prop where
  tie : ∀ p ∈ web, p.1 < p.2 ∧ p.2 < n
  asc : web.Pairwise fun p q => p.1 < q.1 ∨ (p.1 = q.1 ∧ p.2 < q.2)
def nbs (web : Web) (k : Nat) : List Nat := (web.filter fun p => decide (k = p.1 ∨ k = p.2)).map fun p => if p.1 = k then p.2 else p.1
def nbL (n : Nat) (web : Web) (k : Nat) : List Nat := (List.range n).filter fun j => decide ((min j k, max j k) ∈ web)
theorem nbs_lt {n : Nat} {web : Web} (h : WebOk n web) {k j : Nat} (hj : j ∈ nbs web k) : j < n := by
  unfold nbs at hj
  obtain ⟨p, hp, rfl⟩ := List.mem_map.mp hj
  have := h.tie p (List.mem_filter.mp hp).1
  split <;> omega
theorem mem_nbs {n : Nat} {web : Web} (h : WebOk n web) {k j : Nat} : j ∈ nbs web k ↔ (min j k, max j k) ∈ web := by
  unfold nbs
  simp only [List.mem_map, List.mem_filter, decide_eq_true_eq]
  constructor
  · rintro ⟨⟨a, b⟩, ⟨hp, hk⟩, rfl⟩
    have := h.tie _ hp
    dsimp only at this hk ⊢
    by_cases e : a = k
    · subst e
      rw [if_pos rfl, Nat.min_eq_right (by omega), Nat.max_eq_left (by omega)]; exact hp
    · have e2 : b = k := by omega
      subst e2
      rw [if_neg e, Nat.min_eq_left (by omega), Nat.max_eq_right (by omega)]; exact hp
  · intro hm
    have := h.tie _ hm
    dsimp only at this
    refine ⟨_, ⟨hm, ?_⟩, ?_⟩
    · dsimp only; omega
    · dsimp only; split <;> omega
theorem nodup_nbs {n : Nat} {web : Web} (h : WebOk n web) (k : Nat) : (nbs web k).Nodup := by
  unfold nbs
  have h1 : (web.filter fun p => decide (k = p.1 ∨ k = p.2)).Pairwise fun p q => p.1 < q.1 ∨ (p.1 = q.1 ∧ p.2 < q.2) := h.asc.filter _
  rw [List.Nodup, List.pairwise_map]
  refine h1.imp_of_mem fun {p q} hp hq l => ?_
  have p1 := List.mem_filter.mp hp
  have q1 := List.mem_filter.mp hq
  have p2 := h.tie p p1.1
  have q2 := h.tie q q1.1
  have p3 := of_decide_eq_true p1.2
  have q3 := of_decide_eq_true q1.2
  split <;> split <;> omega
theorem nbs_perm {n : Nat} {web : Web} (h : WebOk n web) (k : Nat) : (nbs web k).Perm (nbL n web k) := by
  have nd : (nbL n web k).Nodup := List.Pairwise.filter _ List.nodup_range
  rw [List.perm_ext_iff_of_nodup (nodup_nbs h k) nd]
  intro j
  rw [mem_nbs h]
  unfold nbL
  simp only [List.mem_filter, List.mem_range, decide_eq_true_eq]
  refine ⟨fun hm => ⟨?_, hm⟩, fun hm => hm.2⟩
  have := h.tie _ hm
  dsimp only at this; omega
def stepM (web : Web) (ms : List Rat) : List Rat := (List.range ms.length).map fun k => mid (ms[k]?.getD 0) ((nbs web k).map fun j => ms[j]?.getD 0)
def stepsM (web : Web) : Nat → List Rat → List Rat
  | 0, ms => ms
  | n + 1, ms => stepM web (stepsM web n ms)
@[simp] theorem stepM_len {web : Web} {ms : List Rat} : (stepM web ms).length = ms.length := by simp [stepM]
@[simp] theorem stepsM_len {web : Web} {n : Nat} {ms : List Rat} : (stepsM web n ms).length = ms.length := by
  induction n with
  | zero => rfl
  | succ n ih => rw [stepsM, stepM_len, ih]
theorem stepM_mem {web : Web} {ms : List Rat} (h : WebOk ms.length web) : ∀ q ∈ stepM web ms, q ∈ ms := by
  intro q hq
  unfold stepM at hq
  obtain ⟨k, hk, rfl⟩ := List.mem_map.mp hq
  rw [List.mem_range] at hk
  have hg : ∀ j, j < ms.length → ms[j]?.getD 0 ∈ ms := fun j hj => by rw [List.getElem?_eq_getElem hj]; exact List.getElem_mem hj
  rcases List.mem_cons.mp (midG_mem (le := rle) (near := rnear) (own := ms[k]?.getD 0) (xs := (nbs web k).map fun j => ms[j]?.getD 0)) with h1 | h1
  · show mid _ _ ∈ ms
    unfold mid; rw [h1]; exact hg k hk
  · obtain ⟨j, hj, e⟩ := List.mem_map.mp h1
    show mid _ _ ∈ ms
    unfold mid; rw [← e]; exact hg j (nbs_lt h hj)
theorem stepsM_mem {web : Web} {n : Nat} {ms : List Rat} (h : WebOk ms.length web) : ∀ q ∈ stepsM web n ms, q ∈ ms := by
  induction n with
  | zero => exact fun q hq => hq
  | succ n ih => exact fun q hq => ih q (stepM_mem (by rw [stepsM_len]; exact h) q hq)
theorem range_get {ms : List Rat} : (List.range ms.length).map (fun k => ms[k]?.getD 0) = ms := by
  apply List.ext_getElem?
  intro i
  by_cases h : i < ms.length
  · simp [h]
  · rw [List.getElem?_eq_none (by simp; omega), List.getElem?_eq_none (by omega)]
theorem stepM_nil {ms : List Rat} : stepM [] ms = ms := by
  unfold stepM nbs
  simp only [List.filter_nil, List.map_nil, mid_nil]
  exact range_get
theorem stepsM_nil {n : Nat} {ms : List Rat} : stepsM [] n ms = ms := by
  induction n with
  | zero => rfl
  | succ n ih => rw [stepsM, stepM_nil, ih]
end Mnd
/-! Plain data: whole numbers, texts, None, rows of them: what is equal, what is in what. -/
namespace Mnd
open PySem
def Leaf (d : D) : Prop := (∃ i, d = .int i) ∨ (∃ x, d = .str x ∧ PyData.strOk x = true) ∨ d = .non
def Pt : Nat → D → Prop
  | 0, d => Leaf d
  | n + 1, d => Leaf d ∨ (∃ xs, d = .tup xs ∧ ∀ x ∈ xs, Pt n x) ∨ (∃ xs, d = .lst xs ∧ ∀ x ∈ xs, Pt n x)
theorem Pt.int {n : Nat} {i : Int} : Pt n (.int i) := by
  cases n with
  | zero => exact .inl ⟨i, rfl⟩
  | succ n => exact .inl (.inl ⟨i, rfl⟩)
theorem Pt.tup {n : Nat} {xs : List D} (h : ∀ x ∈ xs, Pt n x) : Pt (n + 1) (.tup xs) := .inr (.inl ⟨xs, rfl, h⟩)
theorem Pt.lst {n : Nat} {xs : List D} (h : ∀ x ∈ xs, Pt n x) : Pt (n + 1) (.lst xs) := .inr (.inr ⟨xs, rfl, h⟩)
theorem Pt.leaf {n : Nat} {d : D} (h : Leaf d) : Pt n d := by
  cases n with
  | zero => exact h
  | succ n => exact .inl h
theorem Pt.succ : ∀ {n : Nat} {d : D}, Pt n d → Pt (n + 1) d
  | 0, d, h => .inl h
  | n + 1, d, h => by
    rcases h with h | ⟨xs, rfl, h⟩ | ⟨xs, rfl, h⟩
    · exact .inl h
    · exact .tup fun x hx => (h x hx).succ
    · exact .lst fun x hx => (h x hx).succ
theorem Pt.mono {n m : Nat} {d : D} (h : Pt n d) (l : n ≤ m) : Pt m d := by
  induction m with
  | zero => have : n = 0 := by omega
            subst this; exact h
  | succ m ih =>
    by_cases e : n = m + 1
    · subst e; exact h
    · exact (ih (by omega)).succ
theorem leaf_py {d : D} (h : Leaf d) : ∃ p, D.py d = some p ∧ p.canLay0 = true ∧ p.depth ≤ 1 := by
  rcases h with ⟨i, rfl⟩ | ⟨x, rfl, hx⟩ | rfl
  · exact ⟨_, by unfold D.py; rfl, by simp [PyData.canLay0], by simp [PyData.depth]⟩
  · exact ⟨_, by unfold D.py; rfl, by simpa [PyData.canLay0] using hx, by simp [PyData.depth]⟩
  · exact ⟨_, by unfold D.py; rfl, by simp [PyData.canLay0], by simp [PyData.depth]⟩
mutual
theorem pt_py : ∀ (n : Nat) (d : D), Pt n d → ∃ p, D.py d = some p ∧ p.canLay0 = true ∧ p.depth ≤ n + 1
  | 0, d, h => by obtain ⟨p, h1, h2, h3⟩ := leaf_py h; exact ⟨p, h1, h2, by omega⟩
  | n + 1, d, h => by
    rcases h with h | ⟨xs, rfl, h⟩ | ⟨xs, rfl, h⟩
    · obtain ⟨p, h1, h2, h3⟩ := leaf_py h; exact ⟨p, h1, h2, by omega⟩
    · obtain ⟨ps, h1, h2, h3⟩ := pts_py n xs h
      exact ⟨.tuple ps, by unfold D.py; rw [h1]; rfl, by simpa [PyData.canLay0] using h2, by simp [PyData.depth]; omega⟩
    · obtain ⟨ps, h1, h2, h3⟩ := pts_py n xs h
      exact ⟨.list ps, by unfold D.py; rw [h1]; rfl, by simpa [PyData.canLay0] using h2, by simp [PyData.depth]; omega⟩
theorem pts_py : ∀ (n : Nat) (xs : List D), (∀ x ∈ xs, Pt n x) → ∃ ps, D.pys xs = some ps ∧ PyData.canLayAll0 ps = true ∧ PyData.depthAll ps ≤ n + 1
  | n, [], _ => ⟨[], by unfold D.pys; rfl, by simp [PyData.canLayAll0], by simp [PyData.depthAll]⟩
  | n, x :: xs, h => by
    obtain ⟨p, h1, h2, h3⟩ := pt_py n x (h x (List.mem_cons_self ..))
    obtain ⟨ps, h4, h5, h6⟩ := pts_py n xs fun y hy => h y (List.mem_cons_of_mem _ hy)
    exact ⟨p :: ps, by unfold D.pys; rw [h1, h4], by simp [PyData.canLayAll0, h2, h5], by simp [PyData.depthAll]; omega⟩
end
theorem leaf_cases {d : D} {p : PyData} (h : Leaf d) (e : D.py d = some p) : (∃ i, d = .int i ∧ p = .int i) ∨ (∃ x, d = .str x ∧ p = .str x) ∨ (d = .non ∧ p = .none) := by
  rcases h with ⟨i, rfl⟩ | ⟨x, rfl, hx⟩ | rfl
  · exact .inl ⟨i, rfl, by unfold D.py at e; exact (Option.some.inj e).symm⟩
  · exact .inr (.inl ⟨x, rfl, by unfold D.py at e; exact (Option.some.inj e).symm⟩)
  · exact .inr (.inr ⟨rfl, by unfold D.py at e; exact (Option.some.inj e).symm⟩)
theorem py_tup {xs : List D} {p : PyData} (e : D.py (.tup xs) = some p) : ∃ ps, D.pys xs = some ps ∧ p = .tuple ps := by
  unfold D.py at e
  obtain ⟨ps, h1, h2⟩ := Option.map_eq_some_iff.mp e
  exact ⟨ps, h1, h2.symm⟩
theorem py_lst {xs : List D} {p : PyData} (e : D.py (.lst xs) = some p) : ∃ ps, D.pys xs = some ps ∧ p = .list ps := by
  unfold D.py at e
  obtain ⟨ps, h1, h2⟩ := Option.map_eq_some_iff.mp e
  exact ⟨ps, h1, h2.symm⟩
theorem pys_cons {x : D} {xs : List D} {ps : List PyData} (e : D.pys (x :: xs) = some ps) : ∃ q qs, D.py x = some q ∧ D.pys xs = some qs ∧ ps = q :: qs := by
  unfold D.pys at e
  cases h1 : D.py x with
  | none => rw [h1] at e; simp at e
  | some q =>
    cases h2 : D.pys xs with
    | none => rw [h1, h2] at e; simp at e
    | some qs => rw [h1, h2] at e; exact ⟨q, qs, rfl, rfl, (Option.some.inj e).symm⟩
theorem pys_nil {ps : List PyData} (e : D.pys [] = some ps) : ps = [] := by unfold D.pys at e; exact (Option.some.inj e).symm
theorem eqv_str (x y : Str) : ((x == y) = true) ↔ x = y := by simp
mutual
theorem pt_eqv : ∀ (n m : Nat) (d e : D) (p q : PyData), Pt n d → Pt m e → D.py d = some p → D.py e = some q → (PyData.eqv p q = true ↔ d = e)
  | 0, 0, d, e, p, q, hd, he, ep, eq => by
    rcases leaf_cases hd ep with ⟨i, rfl, rfl⟩ | ⟨x, rfl, rfl⟩ | ⟨rfl, rfl⟩ <;> rcases leaf_cases he eq with ⟨j, rfl, rfl⟩ | ⟨y, rfl, rfl⟩ | ⟨rfl, rfl⟩ <;> simp [PyData.eqv]
  | 0, m + 1, d, e, p, q, hd, he, ep, eq => by
    rcases he with he | ⟨ys, rfl, he⟩ | ⟨ys, rfl, he⟩
    · rcases leaf_cases hd ep with ⟨i, rfl, rfl⟩ | ⟨x, rfl, rfl⟩ | ⟨rfl, rfl⟩ <;> rcases leaf_cases he eq with ⟨j, rfl, rfl⟩ | ⟨y, rfl, rfl⟩ | ⟨rfl, rfl⟩ <;> simp [PyData.eqv]
    · obtain ⟨qs, _, rfl⟩ := py_tup eq
      rcases leaf_cases hd ep with ⟨i, rfl, rfl⟩ | ⟨x, rfl, rfl⟩ | ⟨rfl, rfl⟩ <;> simp [PyData.eqv]
    · obtain ⟨qs, _, rfl⟩ := py_lst eq
      rcases leaf_cases hd ep with ⟨i, rfl, rfl⟩ | ⟨x, rfl, rfl⟩ | ⟨rfl, rfl⟩ <;> simp [PyData.eqv]
  | n + 1, 0, d, e, p, q, hd, he, ep, eq => by
    rcases hd with hd | ⟨ys, rfl, hd⟩ | ⟨ys, rfl, hd⟩
    · rcases leaf_cases hd ep with ⟨i, rfl, rfl⟩ | ⟨x, rfl, rfl⟩ | ⟨rfl, rfl⟩ <;> rcases leaf_cases he eq with ⟨j, rfl, rfl⟩ | ⟨y, rfl, rfl⟩ | ⟨rfl, rfl⟩ <;> simp [PyData.eqv]
    · obtain ⟨qs, _, rfl⟩ := py_tup ep
      rcases leaf_cases he eq with ⟨i, rfl, rfl⟩ | ⟨x, rfl, rfl⟩ | ⟨rfl, rfl⟩ <;> simp [PyData.eqv]
    · obtain ⟨qs, _, rfl⟩ := py_lst ep
      rcases leaf_cases he eq with ⟨i, rfl, rfl⟩ | ⟨x, rfl, rfl⟩ | ⟨rfl, rfl⟩ <;> simp [PyData.eqv]
  | n + 1, m + 1, d, e, p, q, hd, he, ep, eq => by
    rcases hd with hd | ⟨xs, rfl, hd⟩ | ⟨xs, rfl, hd⟩ <;> rcases he with he | ⟨ys, rfl, he⟩ | ⟨ys, rfl, he⟩
    · rcases leaf_cases hd ep with ⟨i, rfl, rfl⟩ | ⟨x, rfl, rfl⟩ | ⟨rfl, rfl⟩ <;> rcases leaf_cases he eq with ⟨j, rfl, rfl⟩ | ⟨y, rfl, rfl⟩ | ⟨rfl, rfl⟩ <;> simp [PyData.eqv]
    · obtain ⟨qs, _, rfl⟩ := py_tup eq
      rcases leaf_cases hd ep with ⟨i, rfl, rfl⟩ | ⟨x, rfl, rfl⟩ | ⟨rfl, rfl⟩ <;> simp [PyData.eqv]
    · obtain ⟨qs, _, rfl⟩ := py_lst eq
      rcases leaf_cases hd ep with ⟨i, rfl, rfl⟩ | ⟨x, rfl, rfl⟩ | ⟨rfl, rfl⟩ <;> simp [PyData.eqv]
    · obtain ⟨qs, _, rfl⟩ := py_tup ep
      rcases leaf_cases he eq with ⟨i, rfl, rfl⟩ | ⟨x, rfl, rfl⟩ | ⟨rfl, rfl⟩ <;> simp [PyData.eqv]
    · obtain ⟨ps, e1, rfl⟩ := py_tup ep
      obtain ⟨qs, e2, rfl⟩ := py_tup eq
      have := pts_eqv n m xs ys ps qs hd he e1 e2
      simpa [PyData.eqv] using this
    · obtain ⟨ps, e1, rfl⟩ := py_tup ep
      obtain ⟨qs, e2, rfl⟩ := py_lst eq
      simp [PyData.eqv]
    · obtain ⟨qs, _, rfl⟩ := py_lst ep
      rcases leaf_cases he eq with ⟨i, rfl, rfl⟩ | ⟨x, rfl, rfl⟩ | ⟨rfl, rfl⟩ <;> simp [PyData.eqv]
    · obtain ⟨ps, e1, rfl⟩ := py_lst ep
      obtain ⟨qs, e2, rfl⟩ := py_tup eq
      simp [PyData.eqv]
    · obtain ⟨ps, e1, rfl⟩ := py_lst ep
      obtain ⟨qs, e2, rfl⟩ := py_lst eq
      have := pts_eqv n m xs ys ps qs hd he e1 e2
      simpa [PyData.eqv] using this
theorem pts_eqv : ∀ (n m : Nat) (xs ys : List D) (ps qs : List PyData), (∀ x ∈ xs, Pt n x) → (∀ x ∈ ys, Pt m x) → D.pys xs = some ps → D.pys ys = some qs → (PyData.eqvAll ps qs = true ↔ xs = ys)
  | n, m, [], [], ps, qs, _, _, e1, e2 => by rw [pys_nil e1, pys_nil e2]; simp [PyData.eqvAll]
  | n, m, [], y :: ys, ps, qs, _, _, e1, e2 => by
    obtain ⟨a, as, _, _, rfl⟩ := pys_cons e2
    rw [pys_nil e1]; simp [PyData.eqvAll]
  | n, m, x :: xs, [], ps, qs, _, _, e1, e2 => by
    obtain ⟨a, as, _, _, rfl⟩ := pys_cons e1
    rw [pys_nil e2]; simp [PyData.eqvAll]
  | n, m, x :: xs, y :: ys, ps, qs, h1, h2, e1, e2 => by
    obtain ⟨a, as, a1, a2, rfl⟩ := pys_cons e1
    obtain ⟨b, bs, b1, b2, rfl⟩ := pys_cons e2
    have k1 := pt_eqv n m x y a b (h1 x (List.mem_cons_self ..)) (h2 y (List.mem_cons_self ..)) a1 b1
    have k2 := pts_eqv n m xs ys as bs (fun z hz => h1 z (List.mem_cons_of_mem _ hz)) (fun z hz => h2 z (List.mem_cons_of_mem _ hz)) a2 b2
    simp [PyData.eqvAll, k1, k2]
end
theorem pt_shaped {n : Nat} {d : D} {p : PyData} (hn : n ≤ 63) (h : Pt n d) (e : D.py d = some p) : SeqAt.shaped p = true := by
  obtain ⟨p', h1, h2, h3⟩ := pt_py n d h
  rw [e] at h1; cases h1
  unfold SeqAt.shaped
  rw [h2, decide_eq_true (by omega)]; rfl
open Classical in
theorem dEqB_pt {n m : Nat} {d e : D} (hd : Pt n d) (he : Pt m e) (hn : n ≤ 63) (hm : m ≤ 63) : dEqB d e = some (decide (d = e)) := by
  obtain ⟨p, h1, _, _⟩ := pt_py n d hd
  obtain ⟨q, h2, _, _⟩ := pt_py m e he
  unfold dEqB
  rw [h1, h2]
  simp only [pt_shaped hn hd h1, pt_shaped hm he h2, Bool.and_self, if_true]
  have := pt_eqv n m d e p q hd he h1 h2
  congr 1
  by_cases z : d = e
  · rw [decide_eq_true z]; exact this.mpr z
  · rw [decide_eq_false z]
    cases k : PyData.eqv p q
    · rfl
    · exact absurd (this.mp k) z
open Classical in
theorem dEq_pt {n m : Nat} {d e : D} (hd : Pt n d) (he : Pt m e) (hn : n ≤ 63) (hm : m ≤ 63) : dEq d e = some (.bl (decide (d = e))) := by unfold dEq; rw [dEqB_pt hd he hn hm]; rfl
open Classical in
theorem dNe_pt {n m : Nat} {d e : D} (hd : Pt n d) (he : Pt m e) (hn : n ≤ 63) (hm : m ≤ 63) : dNe d e = some (.bl (!decide (d = e))) := by unfold dNe; rw [dEqB_pt hd he hn hm]; rfl
theorem any_eqv {n m : Nat} {x : D} {p : PyData} (hx : Pt n x) (ep : D.py x = some p) : ∀ {xs : List D} {ps : List PyData}, (∀ y ∈ xs, Pt m y) → D.pys xs = some ps → ((ps.any fun z => PyData.eqv z p) = true ↔ x ∈ xs)
  | [], ps, _, e => by rw [pys_nil e]; simp
  | y :: ys, ps, h, e => by
    obtain ⟨a, as, a1, a2, rfl⟩ := pys_cons e
    have k1 := pt_eqv m n y x a p (h y (List.mem_cons_self ..)) hx a1 ep
    have k2 := any_eqv hx ep (xs := ys) (fun z hz => h z (List.mem_cons_of_mem _ hz)) a2
    rw [List.any_cons, Bool.or_eq_true, k1, k2, List.mem_cons]
    exact or_congr ⟨fun h => h.symm, fun h => h.symm⟩ Iff.rfl
open Classical in
theorem dIn_tup {n m : Nat} {x : D} {xs : List D} (hx : Pt n x) (h : ∀ y ∈ xs, Pt m y) (hn : n ≤ 63) (hm : m ≤ 62) : dIn x (.tup xs) = some (.bl (decide (x ∈ xs))) := by
  obtain ⟨p, h1, _, _⟩ := pt_py n x hx
  obtain ⟨q, h2, _, _⟩ := pt_py (m + 1) (.tup xs) (.tup h)
  obtain ⟨qs, h3, rfl⟩ := py_tup h2
  unfold dIn dInB
  rw [h1, h2]
  simp only [pt_shaped hn hx h1, pt_shaped (by omega) (.tup h) h2, Bool.and_self, if_true, Option.map_some]
  have := any_eqv hx h1 h h3
  congr 2
  by_cases z : x ∈ xs
  · rw [decide_eq_true z]; exact this.mpr z
  · rw [decide_eq_false z]
    cases k : (qs.any fun z => PyData.eqv z p)
    · rfl
    · exact absurd (this.mp k) z
open Classical in
theorem dIn_lst {n m : Nat} {x : D} {xs : List D} (hx : Pt n x) (h : ∀ y ∈ xs, Pt m y) (hn : n ≤ 63) (hm : m ≤ 62) : dIn x (.lst xs) = some (.bl (decide (x ∈ xs))) := by
  obtain ⟨p, h1, _, _⟩ := pt_py n x hx
  obtain ⟨q, h2, _, _⟩ := pt_py (m + 1) (.lst xs) (.lst h)
  obtain ⟨qs, h3, rfl⟩ := py_lst h2
  unfold dIn dInB
  rw [h1, h2]
  simp only [pt_shaped hn hx h1, pt_shaped (by omega) (.lst h) h2, Bool.and_self, if_true, Option.map_some]
  have := any_eqv hx h1 h h3
  congr 2
  by_cases z : x ∈ xs
  · rw [decide_eq_true z]; exact this.mpr z
  · rw [decide_eq_false z]
    cases k : (qs.any fun z => PyData.eqv z p)
    · rfl
    · exact absurd (this.mp k) z
end Mnd
/-! sorted of a tuple of whole numbers; sorted of a list of pairs of them. -/
namespace SrtT
open PySem PySem.Spec PyProof.Rows SrtO
section
variable {prog : Program} {w : World} {A : Around} {E : Value → Shared → Prop} {s : Shared}
theorem collectT {l : Addr} {vs : List Value} {Q : List Value → Shared → Prop} (hl : IsTup s.heap l vs.toArray)
    (h : Q vs { s with heap := (s.heap.push (seqObj "list" #[] 0)).update s.heap.objs.size (Obj.mapSeq (· ++ vs.toArray)) }) (hsz : vs.length ≤ sizeLine) :
    wpAny (model prog w) A (collect (.ref l)) Q E s := by
  obtain ⟨o, ho, hc, n, hd⟩ := hl
  have ho1 : (s.heap.push (seqObj "list" #[] 0)).get? l = some o := Heap.get?_push_of_some _ ho
  have hz : (#[] ++ vs.toArray).size ≤ sizeLine + 1 := by simp; omega
  unfold collect
  refine wpAny_bind (wpAny_runValue (codeAny_builtin entry_proto_collect' ?_))
  show wpAny _ _ (do again (.builtin "list.__iadd__" ⟨[← newList [], .ref l], []⟩)) _ _ s
  refine wpAny_bind (wpAny_newList (wpAny_pure ⟨Code.quiet_builtin _ (by decide +kernel), codeAny_builtin entry_list_iadd' ?_⟩))
  show wpAny _ _ (Builtin.List.listExtendWith (.ref s.heap.objs.size) (.ref l) (.ref s.heap.objs.size)) _ _ { s with heap := s.heap.push (seqObj "list" #[] 0) }
  unfold Builtin.List.listExtendWith
  refine wpAny_bind (wpAny_typeOf (T := "tuple") ⟨o, ho1, hc⟩ ?_)
  have ht : (Value.type "tuple" == Value.type "tuple") = true := by rfl
  rw [if_pos (by rw [ht]; simp)]
  refine wpAny_bind (listItems_at ho1 hd ?_)
  refine wpAny_bind (listItems_at (xs := #[]) (n := 0) (Heap.get?_push_size _ rfl) rfl ?_)
  rw [if_neg (by simp)]
  refine wpAny_bind (listUpdate_at (xs := #[]) (n := 0) (Heap.get?_push_size _ rfl) rfl ?_ (Nat.zero_le _) hz)
  refine wpAny_pure ?_
  show wpAny (model prog w) A (do
      let o ← load s.heap.objs.size
      match o.data with
      | .seq xs _ => pure xs.toList
      | _ => unsupported "internal:collect") Q E { s with heap := (s.heap.push (seqObj "list" #[] 0)).update s.heap.objs.size (Obj.mapSeq (· ++ vs.toArray)) }
  refine wpAny_bind (wpAny_load (get?_update_seq (Heap.get?_push_size _ rfl) _) ?_)
  show wpAny _ _ (pure ((#[] : Array Value) ++ vs.toArray).toList) Q E _
  rw [show ((#[] : Array Value) ++ vs.toArray).toList = vs by simp]
  exact wpAny_pure h
theorem sorted_ordT {l : Addr} {vs : List Value} {ltv : Value → Value → Bool} {Q : Value → Shared → Prop} (O : Swo ltv) (hl : IsTup s.heap l vs.toArray) (hz : vs.length ≤ sizeLine)
    (hS : 2 ≤ vs.length → ∀ (h₁ : Heap) (a : Addr), h₁.get? a = some (seqObj "list" vs.toArray 0) → (∀ b o, s.heap.get? b = some o → b ≠ a ∧ h₁.get? b = some o) → SortableO prog w A.in1.in1 { s with heap := h₁ } a vs ltv)
    (h : ∀ out : List Value, Srtd ltv out → Stb ltv out vs → Q (.ref (s.heap.objs.size + 1)) { s with heap := sortedAll s.heap vs out.toArray }) :
    wpAny (model prog w) A (call (.builtin "sorted") [.ref l]) Q E s := by
  have hsz : ((s.heap.push (seqObj "list" #[] 0)).update s.heap.objs.size (Obj.mapSeq (· ++ vs.toArray))).objs.size = s.heap.objs.size + 1 := by
    rw [Heap.size_update, size_push']
  have hoL : (((s.heap.push (seqObj "list" #[] 0)).update s.heap.objs.size (Obj.mapSeq (· ++ vs.toArray))).push (seqObj "list" vs.toArray 0)).get? (s.heap.objs.size + 1) = some (seqObj "list" vs.toArray 0) := by
    rw [← hsz]; exact Heap.get?_push_size _ rfl
  have keep : ∀ b o, s.heap.get? b = some o → b ≠ s.heap.objs.size + 1 ∧ (((s.heap.push (seqObj "list" #[] 0)).update s.heap.objs.size (Obj.mapSeq (· ++ vs.toArray))).push (seqObj "list" vs.toArray 0)).get? b = some o := fun b o q => by
    have hlt : b < s.heap.objs.size := Heap.lt_size q
    refine ⟨Nat.ne_of_lt (Nat.lt_succ_of_lt hlt), Heap.get?_push_of_some _ ?_⟩
    rw [Heap.get?_update_ne _ _ _ _ (Nat.ne_of_lt hlt)]
    exact Heap.get?_push_of_some _ q
  refine Calls.call_function_entry kind_sorted plain_sorted entry_sorted (args_sorted1 _) ?_
  unfold Builtin.«sorted»
  refine wpAny_bind (m := checkCount "sorted" 1 1 _) (wpAny_pure ?_)
  refine wpAny_bind (collectT hl ?_ hz)
  refine wpAny_bind (wpAny_newList ?_ hz)
  show wpAny _ _ _ _ _ { s with heap := ((s.heap.push (seqObj "list" #[] 0)).update s.heap.objs.size (Obj.mapSeq (· ++ vs.toArray))).push (seqObj "list" vs.toArray 0) }
  rw [hsz]
  refine wpAny_bind (wpAny_holding (wpAny_call_entry slot_list_sort ⟨_, hoL, rfl⟩ entry_list_sort (list_sort_ord O hoL hz (fun h2 => hS h2 _ _ hoL keep) fun out a1 a2 => ⟨_, rfl, ?_⟩) (args_list_sort _)))
  exact wpAny_pure ⟨_, rfl, h out a1 a2⟩
end
end SrtT
namespace L2
open PySem PySem.Spec PyProof.Rows
def rSortedTI (K : PySem.W.Frag) : List V → Hp → VK → Prop := fun vs H Q => ∃ (a : Addr) (ns : List Int), vs = [V.ref a] ∧ SqT K H a (ns.map V.int) ∧
  ∀ (ns' : List Int) (p : Addr), ns'.Perm ns → ns'.Pairwise (· ≤ ·) → H p = none → Q (.ref p) (upd H p (.lst (ns'.map V.int)))
theorem cr_sortedTI {X : Cx} : CallR X (.builtin "sorted") (rSortedTI X.K) := by
  intro pins s σ H vs us Q I r h
  obtain ⟨a, ns, rfl, hs, q⟩ := h
  obtain ⟨its, rv, hl, hz⟩ := I.tuple hs
  rw [Vals.ref1 r]
  have hi := rv.ints
  refine SrtT.sorted_ordT SrtO.swo_int hl (by rw [← rv.length]; exact hz) (fun h2 h₁ a' _ _ => SrtO.ints_sortable hi h2) fun out h1 h2 => ?_
  obtain ⟨k1, k2, k3⟩ := SrtO.ints_out hi h1 h2
  obtain ⟨ep, he'⟩ := PyProof.Rows.sortedAll_at s.heap its out.toArray
  have hlen : ((out.map SrtO.iv).map V.int).length ≤ sizeLine := by
    rw [List.length_map, k2.length_eq]
    rw [List.length_map] at hz
    exact hz
  exact ⟨.ref _, upd H (s.heap.objs.size + 1) (.lst ((out.map SrtO.iv).map V.int)), I.laid (t' := s.toks) (fun _ _ => PyProof.Rows.sortedAll_old) (Nat.le_succ _) ⟨hlen, out, ep, vals_of_ints k1, he'⟩, rfl, q _ _ k2 k3 (I.hok.fresh (Nat.le_succ _))⟩
end L2
namespace Mnd
open PySem PySem.Spec PyProof.Rows L2
section
variable {Γ : Cg} {S : Sc} {G G' : Gh} {H H' : Hp} {σ : L2.St} {e : Env} {w : W} {Wx : WX} {a : Expr} {ma : M Opd} {pos p : Pos}
def dSortT : D → Option D
  | .tup xs => (allI xs).map fun ns => .lst ((ns.mergeSort (fun a b => decide (a ≤ b))).map .int)
  | _ => none
theorem so_sortedT (B : Blt Γ S "sorted") (ha : SE Γ S a ma) (he : ∀ env, starEach [a] env = (false, eval a env) :: starEach [] env := by intro _; rfl) : SO Γ S (.Call (.Name "sorted" p) [a] [] pos) (oUn dSortT ma) := by
  intro X g Wx tk
  have hc := cr_sortedTI (X := X)
  rw [g.ok.K] at hc
  refine PE.imp (pe_callB hc (B.gl g) (B.no g) (by rfl) (pa_cons (ha X g Wx tk) pa_nil (he _)) (by decide) (by decide) (he _) rfl) ?_
  rintro σ H Q ⟨e, w, G, R, h⟩
  refine ⟨e, w, G, R, (Wp.bnd h).mono fun o e1 w1 G1 H1 l1 R1 h1 x rx => ?_⟩
  obtain ⟨u, hu, h1⟩ := wp_look h1
  obtain ⟨p, hp, h1⟩ := Wp.lift h1
  have vx := rx.view R1 hu
  cases u <;> simp only [dSortT] at hp <;> first | cases hp | skip
  rename_i xs
  cases hi : allI xs with
  | none => rw [hi] at hp; cases hp
  | some ns =>
    rw [hi] at hp; cases hp
    obtain ⟨a, vs, rfl, q, r⟩ := vx.tup
    have ev := ints_of hi r
    subst ev
    refine ⟨a, ns, rfl, sub_sqT R1.st.sub q, fun ns' l pm pw hl => ?_⟩
    obtain ⟨R2, r2⟩ := own_new R1 hl (RepDs.of_ints (Γ := Γ) (F := G1.F) (mu := G1.mu) ns')
    rw [sortI_eq pm pw] at R2 r2 ⊢
    exact Wp.ret h1 R2 (.refl _) _ r2
/-! pairs -/
def pI (p : Int × Int) : D := .tup [.int p.1, .int p.2]
def pLe (p q : Int × Int) : Bool := decide (p.1 < q.1 ∨ (p.1 = q.1 ∧ p.2 ≤ q.2))
def allP : List D → Option (List (Int × Int))
  | [] => some []
  | .tup [.int a, .int b] :: r => (allP r).map ((a, b) :: ·)
  | _ :: _ => none
def dSortP : D → Option D
  | .lst xs => match allP xs with
    | some ps => if ps.length < 64 ∧ ∀ p ∈ ps, 0 ≤ p.1 ∧ p.1 < 1000 ∧ 0 ≤ p.2 ∧ p.2 < 1000 then some (.lst ((ps.mergeSort pLe).map pI)) else none
    | none => none
  | _ => none
theorem allP_eq : ∀ {xs : List D} {ps : List (Int × Int)}, allP xs = some ps → xs = ps.map pI
  | [], ps, h => by cases h; rfl
  | x :: r, ps, h => by
    unfold allP at h
    split at h
    · rename_i heq; cases heq
    · rename_i a b r' heq
      cases heq
      cases q : allP r with
      | none => rw [q] at h; cases h
      | some qs =>
        rw [q] at h; cases h
        rw [allP_eq q]; rfl
    · cases h
def TupE (Γ : Cg) (F : Hp) (x : V) (ns : List Int) : Prop := ∃ t, x = .ref t ∧ (SqT Γ.K F t (ns.map V.int) ∧ (Γ.kc = false → F t = some (.tup (ns.map V.int))))
theorem reps_pairs : ∀ {ps : List (Int × Int)} {vs : List V}, RepDs Γ G.F G.mu (ps.map pI) vs → ∃ zs : List (V × (Int × Int)), vs = zs.map (·.1) ∧ ps = zs.map (·.2) ∧ ∀ z ∈ zs, TupE Γ G.F z.1 [z.2.1, z.2.2]
  | [], vs, h => by
    unfold RepDs at h
    exact ⟨[], h, rfl, by simp⟩
  | p :: ps, vs, h => by
    obtain ⟨v, r, rfl, h1, h2⟩ := (show ∃ v r, vs = v :: r ∧ RepD Γ G.F G.mu (pI p) v ∧ RepDs Γ G.F G.mu (ps.map pI) r by unfold RepDs at h; exact h)
    obtain ⟨zs, rfl, rfl, hz⟩ := reps_pairs h2
    refine ⟨(v, p) :: zs, rfl, rfl, fun z hz' => ?_⟩
    rcases List.mem_cons.mp hz' with rfl | hz'
    · unfold pI RepD at h1
      obtain ⟨a, us, rfl, q, r⟩ := h1
      have e := ints_of (G := G) (bs := [p.1, p.2]) rfl r
      subst e
      exact ⟨a, rfl, q⟩
    · exact hz z hz'
theorem pairs_reps {F : Hp} {mu : List Addr} : ∀ {zs : List (V × (Int × Int))}, (∀ z ∈ zs, TupE Γ F z.1 [z.2.1, z.2.2]) → RepDs Γ F mu ((zs.map (·.2)).map pI) (zs.map (·.1))
  | [], _ => by unfold RepDs; rfl
  | z :: zs, h => by
    show RepDs Γ F mu (pI z.2 :: (zs.map (·.2)).map pI) (z.1 :: zs.map (·.1))
    refine .cons ?_ (pairs_reps fun z hz => h z (List.mem_cons_of_mem _ hz))
    obtain ⟨t, e, q⟩ := h z (List.mem_cons_self ..)
    unfold pI RepD
    exact ⟨t, _, e, q, RepDs.of_ints [z.2.1, z.2.2]⟩
theorem perm_lift {α β : Type} {f : α → β} : ∀ {zs : List α} {ys : List β}, ys.Perm (zs.map f) → ∃ ws : List α, ys = ws.map f ∧ ws.Perm zs := by
  intro zs ys h
  generalize e : zs.map f = xs at h
  induction h generalizing zs with
  | nil => cases zs with
    | nil => exact ⟨[], rfl, .refl _⟩
    | cons => cases e
  | cons x _ ih => cases zs with
    | nil => cases e
    | cons z zs =>
      simp at e
      obtain ⟨rfl, e⟩ := e
      obtain ⟨ws, rfl, p⟩ := ih e
      exact ⟨z :: ws, rfl, p.cons z⟩
  | swap x y l => match zs, e with
    | z1 :: z2 :: zs, e =>
      simp at e
      obtain ⟨rfl, rfl, rfl⟩ := e
      exact ⟨z2 :: z1 :: zs, rfl, .swap z1 z2 zs⟩
  | trans _ _ ih1 ih2 =>
    obtain ⟨ws, e2, p⟩ := ih2 e
    obtain ⟨us, e3, p3⟩ := ih1 e2.symm
    exact ⟨us, e3, p3.trans p⟩
theorem sortP_eq {ps qs : List (Int × Int)} (h1 : qs.Perm ps) (h2 : qs.Pairwise (fun p q => p.1 < q.1 ∨ (p.1 = q.1 ∧ p.2 ≤ q.2))) : qs = ps.mergeSort pLe := by
  have h3 : (ps.mergeSort pLe).Pairwise (fun p q => p.1 < q.1 ∨ (p.1 = q.1 ∧ p.2 ≤ q.2)) := (List.pairwise_mergeSort (le := pLe) (fun a b c => by unfold pLe; simp; omega) (fun a b => by unfold pLe; simp; omega) ps).imp fun h => by simpa [pLe] using h
  refine List.Perm.eq_of_pairwise (le := fun p q => p.1 < q.1 ∨ (p.1 = q.1 ∧ p.2 ≤ q.2)) (fun a b _ _ ha hb => ?_) h2 h3 (h1.trans (List.mergeSort_perm ps _).symm)
  obtain ⟨a1, a2⟩ := a
  obtain ⟨b1, b2⟩ := b
  dsimp only at ha hb
  have : a1 = b1 := by omega
  have : a2 = b2 := by omega
  simp [*]
theorem so_sortedP (B : Blt Γ S "sorted") (ha : SE Γ S a ma) (he : ∀ env, starEach [a] env = (false, eval a env) :: starEach [] env := by intro _; rfl) : SO Γ S (.Call (.Name "sorted" p) [a] [] pos) (oUn dSortP ma) := by
  intro X g Wx tk
  have hc := cr_sortT (X := X) (d := 2) (B := 1000) (by decide)
  rw [g.ok.K] at hc
  refine PE.imp (pe_callB hc (B.gl g) (B.no g) (by rfl) (pa_cons (ha X g Wx tk) pa_nil (he _)) (by decide) (by decide) (he _) rfl) ?_
  rintro σ H Q ⟨e, w, G, R, h⟩
  refine ⟨e, w, G, R, (Wp.bnd h).mono fun o e1 w1 G1 H1 l1 R1 h1 x rx => ?_⟩
  obtain ⟨u, hu, h2⟩ := wp_look h1
  obtain ⟨p, hp, h3⟩ := Wp.lift h2
  clear h1 h2
  have vx := rx.view R1 hu
  cases u <;> simp only [dSortP] at hp <;> first | cases hp | skip
  rename_i xs
  cases hi : allP xs with
  | none => rw [hi] at hp; cases hp
  | some ps =>
    rw [hi] at hp
    dsimp only at hp
    split at hp
    · rename_i hb
      cases hp
      have hx := allP_eq hi
      subst hx
      obtain ⟨a, vs, rfl, q, r⟩ := vx.lst R1.st
      obtain ⟨zs, rfl, rfl, hz⟩ := reps_pairs r
      have hzH : ∀ z ∈ zs, TupI Γ.K H1 z.1 [z.2.1, z.2.2] := fun z hz' => by
        obtain ⟨t, e, q⟩ := hz z hz'
        exact ⟨t, e, sub_sqT R1.st.sub q.1⟩
      refine ⟨a, _, rfl, SqL.of q, by simpa using hb.1, fun x hx => ?_, fun ys l pm pw hl => ?_⟩
      · obtain ⟨z, hz', rfl⟩ := List.mem_map.mp hx
        have := hb.2 z.2 (List.mem_map.mpr ⟨z, hz', rfl⟩)
        refine ⟨_, hzH z hz', rfl, fun m hm => ?_⟩
        simp at hm
        rcases hm with rfl | rfl <;> omega
      · obtain ⟨ws, rfl, pm2⟩ := perm_lift pm
        have hw : ∀ z ∈ ws, TupE Γ G1.F z.1 [z.2.1, z.2.2] := fun z hz' => hz z (pm2.mem_iff.mp hz')
        have hs : ws.map (·.2) = (zs.map (·.2)).mergeSort pLe := by
          refine sortP_eq (pm2.map _) ?_
          rw [List.pairwise_map] at pw ⊢
          refine pw.imp_of_mem fun {u v} hu hv hc => ?_
          have c := hc _ _ (hzH u (pm2.mem_iff.mp hu)) (hzH v (pm2.mem_iff.mp hv))
          have b1 := hb.2 u.2 (List.mem_map.mpr ⟨u, pm2.mem_iff.mp hu, rfl⟩)
          have b2 := hb.2 v.2 (List.mem_map.mpr ⟨v, pm2.mem_iff.mp hv, rfl⟩)
          simp [TS.code] at c
          omega
        obtain ⟨R2, r2⟩ := own_new R1 hl (pairs_reps (Γ := Γ) (mu := G1.mu) hw)
        rw [hs] at r2
        exact Wp.ret h3 R2 (.refl _) _ r2
    · cases hp
end
end Mnd
/-! t[::-1] of a tuple; is of bools. -/
namespace RevT
open PySem PySem.Spec PyProof.Rows HT
section
variable {prog : Program} {w : World} {A : Around} {E : Value → Shared → Prop} {s : Shared}
theorem adjust_rev (n : Nat) : Builtin.Slice.sliceAdjust none none (-1) (n : Int) = ((n : Int) - 1, -1) := by
  unfold Builtin.Slice.sliceAdjust
  simp
theorem places_rev (n : Nat) : Builtin.Slice.slicePlaces ((n : Int) - 1) (-1) (-1) = n := by
  unfold Builtin.Slice.slicePlaces
  simp
  omega
theorem applied_rev {sl : Addr} {vl vu vs : Value} {n : Nat} {Q : Int × Int × Nat → Shared → Prop} (hs : s.heap.IsSliceOf sl vl vu vs) (pl : IsPart vl none) (pu : IsPart vu none) (ps : IsPart vs (some (-1)))
    (h : Q ((n : Int) - 1, -1, n) s) : wpAny (model prog w) A (Builtin.Slice.sliceApplied (.ref sl) (pure (n : Int))) Q E s := by
  obtain ⟨os, hos, hcs, hds⟩ := id hs
  unfold Builtin.Slice.sliceApplied Builtin.Slice.sliceFields
  refine wpAny_bind (wpAny_bind (wpAny_field hos hds (x := vl) rfl (wpAny_bind (wpAny_field hos hds (x := vu) rfl (wpAny_bind (wpAny_field hos hds (x := vs) rfl (wpAny_pure ?_)))))))
  refine wpAny_bind (slicePart_ ps ?_)
  show wpAny _ _ (if ((-1 : Int) == 0) = true then _ else _) _ _ s
  rw [if_neg (by decide)]
  refine wpAny_bind (slicePart_ pl (wpAny_bind (slicePart_ pu (wpAny_bind (wpAny_pure ?_)))))
  show wpAny _ _ (match Builtin.Slice.sliceAdjust none none (-1) (n : Int) with | (lo, hi) => pure (lo, (-1 : Int), Builtin.Slice.slicePlaces lo hi (-1))) _ _ s
  rw [adjust_rev n]
  show wpAny _ _ (pure ((n : Int) - 1, (-1 : Int), Builtin.Slice.slicePlaces ((n : Int) - 1) (-1) (-1))) _ _ s
  rw [places_rev]
  exact wpAny_pure h
theorem pick_rev (xs : Array Value) : ((List.range xs.size).filterMap fun (m : Nat) => xs[(((xs.size : Int) - 1) + (m : Int) * (-1)).toNat]?) = xs.toList.reverse := by
  refine List.ext_getElem? fun i => ?_
  have e : ((List.range xs.size).filterMap fun (m : Nat) => xs[(((xs.size : Int) - 1) + (m : Int) * (-1)).toNat]?) = (List.range xs.size).map fun m => xs[xs.size - 1 - m]?.getD .none := by
    have gen : ∀ l : List Nat, (∀ m ∈ l, m < xs.size) → (l.filterMap fun (m : Nat) => xs[(((xs.size : Int) - 1) + (m : Int) * (-1)).toNat]?) = l.map fun m => xs[xs.size - 1 - m]?.getD .none := by
      intro l
      induction l with
      | nil => intro _; rfl
      | cons m r ih =>
        intro hl
        have hm := hl m (List.mem_cons_self ..)
        have e1 : (((xs.size : Int) - 1) + (m : Int) * (-1)).toNat = xs.size - 1 - m := by omega
        have h : xs.size - 1 - m < xs.size := by omega
        rw [List.filterMap_cons, e1, Array.getElem?_eq_getElem h, List.map_cons, Array.getElem?_eq_getElem h, ih fun k hk => hl k (List.mem_cons_of_mem _ hk)]
        rfl
    exact gen _ fun m hm => List.mem_range.mp hm
  rw [e]
  by_cases h : i < xs.size
  · rw [List.getElem?_map, List.getElem?_range h, List.getElem?_reverse (by simpa using h)]
    have h2 : xs.size - 1 - i < xs.size := by omega
    simp [Array.getElem?_eq_getElem h2]
  · rw [List.getElem?_eq_none (by simp; omega), List.getElem?_eq_none (by simp; omega)]
theorem getItem_rev {t sl : Addr} {items : Array Value} {vl vu vs : Value} {Q : Value → Shared → Prop} (ht : IsTup s.heap t items) (hs : s.heap.IsSliceOf sl vl vu vs) (pl : IsPart vl none) (pu : IsPart vu none) (ps : IsPart vs (some (-1)))
    (h : Q (.ref s.heap.objs.size) { s with heap := s.heap.push { cls := .type "tuple", data := .seq items.toList.reverse.toArray } })
    (hsz : items.size ≤ sizeLine) : wpAny (model prog w) A (getItem (.ref t) (.ref sl)) Q E s := by
  have htake : sizeOk (.seq items.toList.reverse.toArray) := by
    show items.toList.reverse.toArray.size ≤ sizeLine
    simpa using hsz
  obtain ⟨os, hos, hcs, hds⟩ := id hs
  have hTs : s.TypeIs (.ref sl) "slice" := ⟨os, hos, hcs⟩
  unfold getItem
  try with_reducible refine wpAny_holding ?_
  first | refine wpAny_bind (wpAny_pure ?_) | skip
  refine wpAny_bind (wpAny_sequenceKey ht.typeIs (by decide) ?_)
  refine wpAny_bind (wpAny_callSpecial?_slot (name := Str.ofString "__getitem__") ht.typeIs PyProof.Rows.slot_tuple_getitem
    (wpAny_call_entry PyProof.Rows.slot_tuple_getitem ht.typeIs entry_tuple_getitem ?_ (args_tuple_getitem _ _)))
  show wpAny _ _ (Builtin.Tuple.tupleItemsOf (.ref t) >>= _) _ _ s
  refine wpAny_bind (tupleItemsOf_ ht ?_)
  refine wpAny_bind (wpAny_typeOf hTs ?_)
  rw [if_pos (by decide)]
  refine wpAny_bind (applied_rev hs pl pu ps ?_)
  have hno : ¬ ((((items.size : Int) - 1) == 0 && (-1 : Int) == 1 && items.size == items.size) = true) := by simp
  show wpAny _ _ (if ((((items.size : Int) - 1) == 0 && (-1 : Int) == 1 && items.size == items.size) = true) then _ else _) _ _ s
  rw [if_neg hno, pick_rev]
  first
    | exact wpAny_bind (m := Builtin.Tuple.tupleExact _) (wpAny_newObj_type (wpAny_pure ⟨_, rfl, wpAny_pure h⟩) htake)
    | exact wpAny_bind (m := Builtin.Tuple.tupleExact _) (wpAny_newObj_type (wpAny_bind (wpAny_pure (wpAny_pure ⟨_, rfl, wpAny_pure h⟩))) htake)
    | exact wpAny_bind (wpAny_bind (m := Builtin.Tuple.tupleExact _) (wpAny_newObj_type (wpAny_pure (wpAny_pure ⟨_, rfl, wpAny_pure h⟩)) htake))
    | exact wpAny_bind (wpAny_bind (m := Builtin.Tuple.tupleExact _) (wpAny_newObj_type (wpAny_pure ⟨_, rfl, wpAny_pure h⟩) htake))
end
end RevT
namespace L2
open PySem PySem.Spec PyProof.Rows
def tRevT (K : PySem.W.Frag) (te : TE) : TE := fun σ H Q => te σ H fun x H1 => ∃ a xs, x = .ref a ∧ SqT K H1 a xs ∧ ∀ p, H1 p = none → Q (.ref p) (upd H1 p (.tup xs.reverse))
theorem pe_revT {X : Cx} {e : Expr} {te : TE} {k : Nat} {p1 p2 p3 pos : Pos} (he : PE X e te) : PE X (.Subscript e (.Slice none none (some (.UnaryOp .USub (.Constant (.int 1) k p1) p2)) p3) pos) (tRevT X.K te) := by
  refine ⟨fun pins s σ H Q I h => ?_⟩
  refine Subscript_ (thn (he.run pins s σ H _ I h) fun v s1 ⟨x, H1, I1, r1, q1⟩ => ?_)
  obtain ⟨a, xs, ex, hx, q⟩ := q1
  subst ex
  cases r1
  have hst : PO X (some (.UnaryOp .USub (.Constant (.int 1) k p1) p2)) (tPart (tUn (rU fun i => .int (-i)) (tC (.int 1)))) := po_some (pe_un un_neg pe_int)
  refine wpAny_Slice (thn (po_none.run pins s1 σ H1 (fun o H2 => o = none ∧ H2 = H1) I1 ⟨rfl, rfl⟩) fun vl s2 ⟨l, H2, I2, pl, el, e2⟩ => ?_)
  subst el e2
  refine thn (po_none.run pins s2 σ H2 (fun o H3 => o = none ∧ H3 = H2) I2 ⟨rfl, rfl⟩) fun vu s3 ⟨u, H3, I3, pu, eu, e3⟩ => ?_
  subst eu e3
  refine thn (hst.run pins s3 σ H3 (fun o H4 => o = some (-1) ∧ H4 = H3) I3 ⟨1, rfl, -1, rfl, rfl, rfl⟩) fun vs s4 ⟨o, H4, I4, ps, eo, e4⟩ => ?_
  subst eo e4
  have I5 : Inv X pins σ H4 { s4 with heap := s4.heap.push { cls := .type "slice", data := .fields #[vl, vu, vs] } } := I4.kept (t' := s4.toks) fun b ob q => Heap.get?_push_of_some _ q
  obtain ⟨its, r, ht, hz⟩ := I5.tuple hx
  have hlen := r.length
  show wpAny (model X.prog X.w) X.A (subscriptTail e (.Slice none none (some (.UnaryOp .USub (.Constant (.int 1) k p1) p2)) p3) (.ref a) (.ref s4.heap.objs.size)) (EP X pins σ Q) X.xe { s4 with heap := s4.heap.push { cls := .type "slice", data := .fields #[vl, vu, vs] } }
  refine tail_any (ops := [.ref a, .ref s4.heap.objs.size]) ht.typeIs (PyProof.Rows.slot_tuple_getitem.lookup) ?_ (by with_unfolding_all rfl)
  refine RevT.getItem_rev ht (Heap.IsSliceOf.new _ vl vu vs) pl pu ps ?_ (by rw [List.size_toArray]; omega)
  refine ⟨.ref _, _, I5.laid (t' := s4.toks) (o := .tup xs.reverse) (fun b ob q => Heap.get?_push_of_some _ q) (Nat.le_refl _) ?_, rfl, q _ (I5.hok.fresh (Nat.le_refl _))⟩
  exact ⟨by rw [List.length_reverse]; exact hz, _, r.reverse, IsTup.new _ _⟩
end L2
namespace Mnd
open PySem PySem.Spec PyProof.Rows L2
section
variable {Γ : Cg} {S : Sc} {G G' : Gh} {H H' : Hp} {σ : L2.St} {e : Env} {w : W} {Wx : WX} {a : Expr} {ma : M Opd} {pos p : Pos}
theorem rps_rev : ∀ {ds : List D} {vs : List V}, Rps Γ G ds vs → Rps Γ G ds.reverse vs.reverse
  | [], vs, h => by unfold Rps RepDs at h; subst h; unfold Rps RepDs; rfl
  | d :: ds, vs, h => by
    have h0 := h
    unfold Rps RepDs at h0
    obtain ⟨v, r, rfl, h1, h2⟩ := h0
    rw [List.reverse_cons, List.reverse_cons]
    exact RepDs.append (rps_rev h2) (.cons h1 (by unfold RepDs; rfl))
def dRevT : D → Option D
  | .tup xs => some (.tup xs.reverse)
  | _ => none
theorem se_revT {k : Nat} {p1 p2 p3 : Pos} (ha : SE Γ S a ma) : SE Γ S (.Subscript a (.Slice none none (some (.UnaryOp .USub (.Constant (.int 1) k p1) p2)) p3) pos) (eUn dRevT ma) := by
  intro X g Wx tk
  have hp0 := pe_revT (k := k) (p1 := p1) (p2 := p2) (p3 := p3) (pos := pos) (ha X g Wx tk)
  rw [g.ok.K] at hp0
  refine PE.imp hp0 ?_
  rintro σ H Q ⟨e, w, G, R, h⟩
  refine ⟨e, w, G, R, (Wp.bnd h).mono fun o e1 w1 G1 H1 l1 R1 h1 x rx => ?_⟩
  obtain ⟨u, hu, h2⟩ := wp_look h1
  obtain ⟨z, hz, h3⟩ := Wp.lift h2
  have vx := rx.view R1 hu
  cases u <;> simp only [dRevT] at hz <;> first | cases hz | skip
  obtain ⟨a, vs, rfl, q, r⟩ := vx.tup
  refine ⟨a, vs, rfl, sqT_sub R1.st q, fun p hp => ?_⟩
  obtain ⟨l, kk, r'⟩ := allocT R1.st hp (rps_rev r) rfl
  exact Wp.ret h3 (kk _ _ _ _ R1) l _ r'
def dIsBl : D → D → Option D
  | .bl a, .bl b => some (.bl (decide (a = b)))
  | _, _ => none
theorem bin_isBl : BinOk Γ rIsB dIsBl := by
  intro G H w u v d x y Q R vx vy hd k
  cases u <;> first | cases hd | skip
  cases v <;> first | cases hd | skip
  exact ⟨_, _, vx.bl, vy.bl, k _ G H (.refl G) (.refl _ _) (rp_bl _)⟩
theorem se_isT {j : Nat} {p2 : Pos} {b : Bool} (ha : SE Γ S a ma) : SE Γ S (.Compare a [.Is] [.Constant (.bool b) j p2] pos) (eBin dIsBl ma (eC (.bl b))) := se_cmp (fun X g => op_isBl) bin_isBl ha se_bl (nomark _)
theorem st_isT {j : Nat} {p2 : Pos} {b : Bool} (ha : SE Γ S a ma) : ST Γ S (.Compare a [.Is] [.Constant (.bool b) j p2] pos) (tVal (eBin dIsBl ma (eC (.bl b)))) := st_cmp (fun X g => op_isBl) bin_isBl ha se_bl (nomark _)
end
end Mnd
/-! t * k of a tuple and a whole number; three targets of which one is seen from within. -/
namespace L2
open PySem PySem.Spec PyProof.Rows
theorem tuple_mul1 (l : Addr) (items : Array Value) (n : Nat) (dd : Option Addr) (sl : Array (Option Value)) (u : Tok) :
    Meets (Builtin.«tuple.__mul__» ⟨[.ref l, .int 1 u], []⟩) (fun _ R s => s.heap.get? l = some { cls := .type "tuple", dict := dd, data := .seq items n, slots := sl } ∧ R (.ok (.ret (Value.ref l))) s) :=
  .of_wp fun prog w A R s h => by
    obtain ⟨hp, g, d, tk, os⟩ := s
    obtain ⟨hl, h⟩ := h
    have f1 := AutoSeq1.idx_int
    have c1 : (items.isEmpty || (1 : Int) == 1) = true := by simp
    wp_walk using wpAny_loadPart' hl
    repeat (first
      | (refine wpAny_ite_false (by decide) ?_; wp_walk using wpAny_loadPart' hl)
      | (refine wpAny_ite_true (decide_eq_true (by rw [c1])) ?_; wp_walk using wpAny_loadPart' hl))
    exact ⟨_, rfl, h⟩
def rRep1 (K : PySem.W.Frag) : R2 := fun x y H Q => ∃ l xs, x = .ref l ∧ y = .int 1 ∧ SqT K H l xs ∧ Q (.ref l) H
theorem op_rep1 {X : Cx} : OpR X (binaryOp .Mult) (rRep1 X.K) := by
  intro pins s σ H x y v u Q I rx ry h
  obtain ⟨l, xs, rfl, rfl, hT, q⟩ := h
  cases rx
  obtain ⟨t, rfl⟩ := ry
  obtain ⟨its, r, ⟨⟨cls, dd, data, sl⟩, ho, hc, n, hd⟩, hs⟩ := I.tuple hT
  simp only at hc hd
  subst hc hd
  refine wpAny_binaryOp_repeat_ref (T := "tuple") (U := "int") (by decide) ⟨_, ho, rfl⟩ (fun s' => typeIs_int s' 1 t) noFill_tuple_mul F.fills_int_mul F.slot_int_rmul repeat_tuple F.slot_int_index.lookup
    (call_meets F.slot_int_rmul (typeIs_int s 1 t) F.entry_int_rmul (F.args_int_rmul_2 _ _) (int_rmul_tuple 1 t l its.toArray n dd sl)
      ⟨ho, rfl, ⟨_, ho, rfl⟩, call_meets F.slot_tuple_mul ⟨_, ho, rfl⟩ F.entry_tuple_mul (F.args_tuple_mul_2 _ _) (tuple_mul1 l its.toArray n dd sl t) ⟨ho, ?_⟩⟩)
  exact ⟨.ref l, H, I, rfl, q⟩
end L2
namespace Mnd
open PySem PySem.Spec PyProof.Rows L2
section
variable {Γ : Cg} {S : Sc} {G G' : Gh} {H H' : Hp} {σ : L2.St} {e : Env} {w : W} {Wx : WX} {a b : Expr} {ma mb : M Opd} {pos p : Pos}
def dTupMul : D → D → Option D
  | .tup xs, .int k => if k = 1 then some (.tup xs) else if xs ≠ [] ∧ 2 ≤ k ∧ k ≤ 1000 ∧ xs.length ≤ 1000 then some (.tup (List.replicate k.toNat xs).flatten) else none
  | _, _ => none
theorem rps_rep {ds : List D} {vs : List V} (h : Rps Γ G ds vs) : ∀ n : Nat, Rps Γ G (List.replicate n ds).flatten (List.replicate n vs).flatten
  | 0 => by unfold Rps RepDs; rfl
  | n + 1 => by
    rw [List.replicate_succ, List.replicate_succ, List.flatten_cons, List.flatten_cons]
    exact RepDs.append h (rps_rep h n)
theorem bin_tupMul : BinOk Γ (fun x y H Q => rRepT Γ.K x y H Q ∨ rRep1 Γ.K x y H Q) dTupMul := by
  intro G H w u v d x y Q R vx vy hd k
  cases u <;> first | (cases hd; done) | skip
  rename_i xs
  cases v <;> first | (cases hd; done) | skip
  rename_i i
  obtain ⟨a, vs, rfl, h1, r1⟩ := vx.tup'
  have hd : (if i = 1 then some (D.tup xs) else if xs ≠ [] ∧ 2 ≤ i ∧ i ≤ 1000 ∧ xs.length ≤ 1000 then some (.tup (List.replicate i.toNat xs).flatten) else none) = some d := hd
  by_cases c : i = 1
  · subst c
    rw [if_pos rfl] at hd
    cases hd
    exact .inr ⟨a, vs, rfl, vy.int, sqT_sub R h1.1, k _ G H (.refl G) (.refl _ _) (rp_tup h1 r1)⟩
  · rw [if_neg c] at hd
    split at hd
    · rename_i hc
      cases hd
      refine .inl ⟨a, i, vs, rfl, vy.int, sqT_sub R h1.1, fun z => hc.1 ((rps_nil_iff r1).mp z), hc.2.1, hc.2.2.1, by rw [r1.length]; exact hc.2.2.2, fun p hp => ?_⟩
      obtain ⟨l, kk, r⟩ := allocT R hp (rps_rep r1 i.toNat) rfl
      exact k _ _ _ l kk r
    · cases hd
theorem se_tupMul (ha : SE Γ S a ma) (hb : SE Γ S b mb) : SE Γ S (.BinOp a .Mult b pos) (eBin dTupMul ma mb) :=
  se_bin (fun X g => by
    have h1 := op_repT (X := X)
    have h2 := op_rep1 (X := X)
    rw [g.ok.K] at h1 h2
    exact h1.or h2) bin_tupMul ha hb
theorem swapCell3 {x y z : Str} {a b c : Expr} {px py pz pt pt2 : Pos} {kt k2 : Nat} (h : S.names.lookup x = some .cell ∨ S.names.lookup y = some .cell ∨ S.names.lookup z = some .cell) : ∀ env : PySem.Env, env.scope.names = S.names → swappedStores [.Tuple [.Name x px, .Name y py, .Name z pz] kt pt] (.Tuple [a, b, c] k2 pt2) env = pure none := by
  intro env hn
  have e1 : (some NameKind.cell == some NameKind.local) = false := by decide
  have short : ∀ (f : Expr → Option Str), f (.Name x px) = none ∨ f (.Name y py) = none ∨ f (.Name z pz) = none → ([Expr.Name x px, .Name y py, .Name z pz].filterMap f).length ≠ 3 := by
    intro f hf
    cases h1 : f (.Name x px) <;> cases h2 : f (.Name y py) <;> cases h3 : f (.Name z pz) <;> simp [h1, h2, h3] at hf ⊢
  unfold swappedStores
  simp only [pure_bind]
  split
  · rfl
  · split
    · rfl
    · split
      · rfl
      · rename_i hcon
        exfalso
        apply hcon
        have := short (fun
          | .Name id pos => if env.kindOf id == some .local && pos.line == ((([Expr.Name x px, .Name y py, .Name z pz] : List Expr).head?.map (·.pos.line)).getD 0) then some id else none
          | _ => none) (by
          rcases h with h | h | h
          · have kx : env.kindOf x = some .cell := by show env.scope.names.lookup x = _; rw [hn]; exact h
            exact .inl (by simp [kx, e1])
          · have kx : env.kindOf y = some .cell := by show env.scope.names.lookup y = _; rw [hn]; exact h
            exact .inr (.inl (by simp [kx, e1]))
          · have kx : env.kindOf z = some .cell := by show env.scope.names.lookup z = _; rw [hn]; exact h
            exact .inr (.inr (by simp [kx, e1])))
        rw [Bool.or_eq_true]
        exact .inl (bne_iff_ne.mpr this)
end
end Mnd
/-! dicts of one's own whose keys are tuples of whole numbers and texts (modules without tuples among their constants). -/
namespace Mnd
open PySem PySem.Spec PyProof.Rows L2
def allK : List D → Option (List Key)
  | [] => some []
  | .int i :: r => (allK r).map (.inl i :: ·)
  | .str x :: r => (allK r).map (.inr x :: ·)
  | _ :: _ => none
def dKeyL : D → Option (List Key)
  | .tup xs => allK xs
  | _ => none
def hasK (ks : List D) (kk : List Key) : Bool := ks.any fun k => decide (dKeyL k = some kk)
def dNotInD : D → D → Option D
  | x, .dct ks _ => (dKeyL x).map fun kk => .bl (!hasK ks kk)
  | _, _ => none
def findK : List D → List D → List Key → Option D
  | k :: ks, v :: vs, kk => if dKeyL k = some kk then some v else findK ks vs kk
  | _, _, _ => none
def dDctGet : D → D → Option D
  | .dct ks vs, x => (dKeyL x).bind fun kk => findK ks vs kk
  | _, _ => none
def dDctPut : D → D → D → Option D
  | .dct ks vs, x, d => (dKeyL x).bind fun kk => if hasK ks kk = false ∧ ks.length < 100000 then some (.dct (ks ++ [x]) (vs ++ [d])) else none
  | _, _, _ => none
def oDct : M Sl := ret (.own (.dct [] []))
def putStep (i : Nat) (kd d : D) : M Flow := fun e w => match e[i]? with
  | some (.own du) => match dDctPut du kd d with
    | some dv => .ok .next (e.set i (.own dv)) w
    | none => .bad
  | _ => .bad
def isDct : D → Bool
  | .dct _ _ => true
  | _ => false
def putStep2 (i : Nat) (k : M Opd) (d : D) : M Flow := fun e w => match e[i]? with
  | some (.own _) => (bnd k fun ok => bnd (frz ok) fun kd => putStep i kd d) e w
  | _ => .bad
def sPutD (i : Nat) (k v : M Opd) : M Flow := bnd v fun o => bnd (frz o) fun d => putStep2 i k d
section
variable {Γ : Cg} {S : Sc} {G G' : Gh} {H H' : Hp} {σ : L2.St} {e : Env} {w : W} {Wx : WX} {a b : Expr} {ma mb : M Opd} {pos p : Pos}
theorem allK_back : ∀ {xs : List D} {kk : List Key}, allK xs = some kk → xs = kk.map keyD
  | [], kk, h => by cases h; rfl
  | x :: r, kk, h => by
    unfold allK at h
    split at h
    · rename_i q; cases q
    · rename_i i r' q
      cases q
      cases e : allK r with
      | none => rw [e] at h; cases h
      | some ks => rw [e] at h; cases h; rw [allK_back e]; rfl
    · rename_i i r' q
      cases q
      cases e : allK r with
      | none => rw [e] at h; cases h
      | some ks => rw [e] at h; cases h; rw [allK_back e]; rfl
    · cases h
theorem allK_of : ∀ kk : List Key, allK (kk.map keyD) = some kk
  | [] => rfl
  | .inl i :: r => by
    show (allK (r.map keyD)).map _ = _
    rw [allK_of r]; rfl
  | .inr i :: r => by
    show (allK (r.map keyD)).map _ = _
    rw [allK_of r]; rfl
theorem reps_keys : ∀ {kk : List Key} {vs : List V}, Rps Γ G (kk.map keyD) vs → vs = kk.map kV
  | [], vs, h => by unfold Rps RepDs at h; exact h
  | k :: r, vs, h => by
    have h0 := h
    unfold Rps RepDs at h0
    obtain ⟨v, us, rfl, h1, h2⟩ := (show ∃ v us, vs = v :: us ∧ RepD Γ G.F G.mu (keyD k) v ∧ RepDs Γ G.F G.mu (r.map keyD) us from h0)
    rw [reps_keys h2, List.map_cons]
    congr 1
    cases k with
    | inl i => unfold keyD RepD at h1; exact h1
    | inr x => unfold keyD RepD at h1; exact h1
theorem view_key (hk : Γ.kc = false) (R : RelW Γ G H w) {x : D} {y : V} {kk : List Key} (v : Vw Γ G H x y) (h : dKeyL x = some kk) : ∃ b, y = .ref b ∧ H b = some (.tup (kk.map kV)) ∧ x = .tup (kk.map keyD) := by
  cases x <;> simp only [dKeyL] at h <;> first | cases h | skip
  obtain ⟨b, vs, rfl, q, r⟩ := v.tup'
  have e := allK_back h
  subst e
  have e2 := reps_keys r
  subst e2
  exact ⟨b, rfl, R.sub _ _ (q.2 hk), rfl⟩
theorem view_dct (hk : Γ.kc = false) (R : RelW Γ G H w) {ks ds : List D} {y : V} (v : Vw Γ G H (.dct ks ds) y) : ∃ a kvs, y = .ref a ∧ H a = some (.dT kvs) ∧ ks = kvs.map (fun p => .tup (p.1.map keyD)) ∧ Rps Γ G ds (kvs.map (·.2)) := by
  obtain ⟨a, vs, rfl, q, r⟩ := v.dct R
  rcases q with ⟨kvs, _, _, _, z⟩ | ⟨kvs, q1, q2, q3, _⟩
  · rw [hk] at z; cases z
  · subst q3; exact ⟨a, kvs, rfl, q1, q2, r⟩
theorem hasK_any (kvs : List (List Key × V)) (kk : List Key) : hasK (kvs.map fun p => D.tup (p.1.map keyD)) kk = (valV kvs kk).isSome := by
  rw [← valV_any]
  unfold hasK
  rw [List.any_map]
  congr 1
  funext p
  show decide (allK (p.1.map keyD) = some kk) = _
  rw [allK_of]
  simp
theorem findK_val : ∀ {kvs : List (List Key × V)} {ds : List D} {kk : List Key} {d : D}, Rps Γ G ds (kvs.map (·.2)) → findK (kvs.map fun p => D.tup (p.1.map keyD)) ds kk = some d → ∃ v, valV kvs kk = some v ∧ Rp Γ G d v
  | [], ds, kk, d, r, h => by cases ds <;> cases h
  | p :: kvs, ds, kk, d, r, h => by
    cases ds with
    | nil => cases h
    | cons d0 ds =>
      have r0 := r
      unfold Rps RepDs at r0
      obtain ⟨v, us, e, h1, h2⟩ := (show ∃ v us, (p :: kvs).map (·.2) = v :: us ∧ RepD Γ G.F G.mu d0 v ∧ RepDs Γ G.F G.mu ds us from r0)
      rw [List.map_cons] at e
      cases e
      have h : (if allK (p.1.map keyD) = some kk then some d0 else findK (kvs.map fun p => D.tup (p.1.map keyD)) ds kk) = some d := h
      rw [allK_of] at h
      by_cases c : p.1 = kk
      · rw [if_pos (by rw [c])] at h
        cases h
        exact ⟨p.2, valV_pos c, h1⟩
      · rw [if_neg (fun z => c (Option.some.inj z))] at h
        rw [valV_neg c]
        exact findK_val h2 h
def rNotInDct : R2 := fun x y H Q => ∃ a o, y = .ref a ∧ DGet H a x o ∧ Q (.bl (!o.isSome)) H
theorem op_notInDct {X : Cx} (hu : X.A.units + 1 < cLine) : OpR X (compareOp .NotIn) rNotInDct := by
  intro pins s σ H x y v u Q I rx ry h
  obtain ⟨a, o, rfl, g, q⟩ := h
  obtain rfl : u = Value.ref a := ry
  exact d_notIn hu I g rx fun s' I' => ⟨.bl (!o.isSome), H, I', rfl, q⟩
theorem bin_notInDct (hk : Γ.kc = false) : BinOk Γ rNotInDct dNotInD := by
  intro G H w u v d x y Q R vx vy hd k
  cases v <;> simp only [dNotInD] at hd <;> first | cases hd | skip
  rename_i ks ds
  obtain ⟨kk, hkk, rfl⟩ := Option.map_eq_some_iff.mp hd
  obtain ⟨b, rfl, hb, _⟩ := view_key hk R vx hkk
  obtain ⟨a, kvs, rfl, ha, rfl, r⟩ := view_dct hk R vy
  refine ⟨a, valV kvs kk, rfl, DGet.t ha hb, ?_⟩
  rw [← hasK_any]
  exact k _ G H (.refl G) (.refl _ _) (rp_bl _)
theorem st_notInDct (hk : Γ.kc = false) (ha : SE Γ S a ma) (hb : SE Γ S b mb) (hm : behindInMarks .NotIn b = false := by rfl) : ST Γ S (.Compare a [.NotIn] [b] pos) (tVal (eBin dNotInD ma mb)) :=
  st_cmp (fun X g => op_notInDct (by have := g.room.units; omega)) (bin_notInDct hk) ha hb hm
theorem so_dct (hk : Γ.kc = false) : SO Γ S (.Dict [] [] pos) oDct := fun X g Wx tk => PE.imp pe_dnewT fun σ H Q ⟨e, w, G, R, h⟩ p hp => by
  have f := R.st.own_new hp
  refine Wp.ret h (R.alloc hp) (.refl _) _ ⟨⟨p, rfl, f.1, f.2.1, f.2.2, [], .inr ⟨[], upd_same, rfl, rfl, hk⟩, by unfold RepDs; rfl⟩, fun _ _ => noSlot_new (o := .dT []) R hp⟩
theorem se_dctGet (hk : Γ.kc = false) (ha : SE Γ S a ma) (hb : SE Γ S b mb) (hs : NoSl b) : SE Γ S (.Subscript a b pos) (eBin dDctGet ma mb) := by
  intro X g Wx tk
  refine PE.imp (pe_dget (by have := g.room.units; omega) (ha X g Wx tk) (hb X g Wx tk) hs) ?_
  rintro σ H Q ⟨e, w, G, R, h⟩
  refine ⟨e, w, G, R, (Wp.bnd h).mono fun o e1 w1 G1 H1 l1 R1 h1 x rx => ⟨e1, w1, G1, R1, (Wp.bnd h1).mono fun o2 e2 w2 G2 H2 l2 R2 h2 y ry => ?_⟩⟩
  obtain ⟨u, hu, h3⟩ := wp_look h2
  obtain ⟨v, hv, h4⟩ := wp_look h3
  obtain ⟨z, hz, h5⟩ := Wp.lift h4
  have vx := (rx.le l2 (e' := e2)).view R2 hu
  have vy := ry.view R2 hv
  obtain ⟨d, hd, rfl⟩ := Option.map_eq_some_iff.mp hz
  cases u <;> simp only [dDctGet] at hd <;> first | cases hd | skip
  rename_i ks ds
  obtain ⟨kk, hkk, hf⟩ := Option.bind_eq_some_iff.mp hd
  obtain ⟨b, rfl, hb, _⟩ := view_key hk R2.st vy hkk
  obtain ⟨a, kvs, rfl, ha, rfl, r⟩ := view_dct hk R2.st vx
  obtain ⟨v, hv2, rv⟩ := findK_val r hf
  exact ⟨a, v, rfl, by rw [← hv2]; exact DGet.t ha hb, Wp.ret h5 R2 (.refl _) v rv⟩
theorem ss_putD (hk : Γ.kc = false) {i : Nat} {x : Str} {px pos' : Pos} (hN : S.N[i]? = some x) (hv : visB S.names x = true) (hval : SE Γ S a ma) (hkey : SE Γ S b mb)
    (hd : (x == ("__debug__" : Str)) = false := by decide +kernel) (hcd : (x == ("__classdict__" : Str)) = false := by decide +kernel)
    (hs : ∀ env, swapsWith a (some (.Subscript (.Name x px) b pos')) pos.line env = pure false := by intro _; rfl) : SS Γ S (.Assign [.Subscript (.Name x px) b pos'] a pos) (sPutD i mb ma) := by
  intro X g Wx tk
  refine PS.imp (ps_dput (by have := g.room.units; omega) (pe_var (X := X) (pos := px) (i := i) (by rw [g.N]; exact hN) (vis_of hv g.names) hd hcd) (hkey X g Wx tk) (hval X g Wx tk) (hs _)) ?_
  rintro D σ H ⟨e, w, G, R, h⟩
  refine ⟨e, w, G, R, (WpT.bndE h σ).mono fun o e1 w1 G1 H1 l1 R1 h1 v rv => ?_⟩
  obtain ⟨d, e2, G2, l2, R2, rd, h2⟩ := wpT_frz h1 R1 rv
  unfold WpT at h2
  have h2 : WpTR Γ S Wx (match e2[i]? with | some (.own _) => (bnd mb fun ok => bnd (frz ok) fun kd => putStep i kd d) e2 w1 | _ => .bad) G2 _ := h2
  cases es : e2[i]? with
  | none => rw [es] at h2; exact h2.elim
  | some s0 =>
    rw [es] at h2
    cases s0 <;> first | exact h2.elim | skip
    rename_i du0
    have hi : i < σ.length := by rw [← R2.len]; exact (List.getElem?_eq_some_iff.mp es).1
    obtain ⟨l, e0, _⟩ := R2.slot i _ _ es (List.getElem?_eq_getElem hi)
    have hσ : σ[i]? = some (some (.ref l)) := by rw [List.getElem?_eq_getElem hi, e0]
    refine ⟨.ref l, hσ, ?_⟩
    have h3 : WpT Γ S Wx (bnd mb fun ok => bnd (frz ok) fun kd => putStep i kd d) e2 w1 G2 _ := h2
    refine ⟨e2, w1, G2, R2, (WpT.bndE h3 σ).mono fun ok e3 w3 G3 H3 l3 R3 h4 kv rk => ?_⟩
    obtain ⟨kd, e4, G4, l4, R4, rkd, h5⟩ := wpT_frz h4 R3 rk
    unfold WpT at h5
    have h5 : WpTR Γ S Wx (match e4[i]? with | some (.own du) => (match dDctPut du kd d with | some dv => .ok Mnd.Flow.next (e4.set i (.own dv)) w3 | none => .bad) | _ => .bad) G4 _ := h5
    cases es4 : e4[i]? with
    | none => rw [es4] at h5; exact h5.elim
    | some s4 =>
      rw [es4] at h5
      cases s4 <;> first | exact h5.elim | skip
      rename_i du
      have h5 : WpTR Γ S Wx (match dDctPut du kd d with | some dv => .ok Mnd.Flow.next (e4.set i (.own dv)) w3 | none => .bad) G4 _ := h5
      cases ep : dDctPut du kd d with
      | none => rw [ep] at h5; exact h5.elim
      | some dv =>
        rw [ep] at h5
        cases du <;> simp only [dDctPut] at ep <;> first | cases ep | skip
        rename_i ks ds
        obtain ⟨kk, hkk, hif⟩ := Option.bind_eq_some_iff.mp ep
        split at hif
        · rename_i hc
          cases hif
          obtain ⟨l', e6, r6⟩ := R4.slot i _ _ es4 hσ
          cases e6
          obtain ⟨f1, f2, f3, vs, q, rr⟩ := r6
          rcases q with ⟨kvs, _, _, _, z⟩ | ⟨kvs, q1, q2, q3, _⟩
          · rw [hk] at z; cases z
          subst q2 q3
          obtain ⟨bk, rfl, hb, ekd⟩ := view_key hk R4.st (Or.inl rkd) hkk
          have hnone : valV kvs kk = none := by
            have := hasK_any kvs kk
            rw [hc.1] at this
            cases q : valV kvs kk with
            | none => rfl
            | some v => rw [q] at this; cases this
          have hlen : kvs.length < sizeLine := by
            have := hc.2
            rw [List.length_map] at this
            rw [sizeLine_eq]; omega
          refine ⟨l, upd _ l (.dT (putK kvs kk v)), rfl, DPut.t q1 hb hlen, ?_⟩
          rw [putK_new v hnone]
          have rd4 : Rp Γ G4 d v := Rp.le (l3.trans l4).lt rd
          refine h5 G4 _ σ (.refl _) (R4.own_write es4 hσ ⟨(kvs ++ [(kk, v)]).map (·.2), .inr ⟨kvs ++ [(kk, v)], upd_same, ?_, rfl, hk⟩, ?_⟩)
          · rw [List.map_append, ekd]; rfl
          · rw [List.map_append]
            exact RepDs.append rr (.one rd4)
        · cases hif
end
end Mnd
/-! sum of a tuple or a list. -/
namespace L2
open PySem PySem.Spec PyProof.Rows
def rSumT (K : PySem.W.Frag) : List V → Hp → VK → Prop := fun vs H Q => ∃ (a : Addr) (ns : List Int), vs = [V.ref a] ∧ (SqL K H a (ns.map V.int) ∨ SqT K H a (ns.map V.int)) ∧ Q (.int ns.sum) H
theorem cr_sumT {X : Cx} (hc : X.calm = true) : CallR X (.builtin "sum") (rSumT X.K) := by
  intro pins s σ H vs us Q I r h
  obtain ⟨a, ns, rfl, hs, q⟩ := h
  rcases hs with hs | hs
  · obtain ⟨its, rv, hl, _⟩ := I.list hs
    rw [Vals.ref1 r]
    exact sum_raw (I.ok.hd hc) hl.isList rv.ints fun h' tk t' hk => ⟨.int _, H, I.kept hk, ⟨_, rfl⟩, q⟩
  · obtain ⟨its, rv, hl, _⟩ := I.tuple hs
    rw [Vals.ref1 r]
    obtain ⟨xs, e⟩ := rv.ints.allInts.items
    have hn : numsOf (intItems xs).toList = ns := by rw [← e]; exact rv.ints.numsOf
    rw [nums_intItems] at hn
    have hl2 : s.heap.IsTuple a (intItems xs) := by rw [← e]; exact hl
    refine PySem.W.ktm_sumG (I.ok.hd hc) hl2 fun h' tk t' hk => ?_
    rw [preSum_eq, List.take_of_length_le (by simp), hn]
    exact ⟨.int _, H, I.kept hk, ⟨_, rfl⟩, q⟩
end L2
namespace Mnd
open PySem PySem.Spec PyProof.Rows L2
section
variable {Γ : Cg} {S : Sc} {G G' : Gh} {H H' : Hp} {σ : L2.St} {e : Env} {w : W} {Wx : WX} {a : Expr} {ma : M Opd} {pos p : Pos}
def dSumA : D → Option D
  | .tup xs => (allI xs).map fun ns => .int ns.sum
  | d => dSum d
theorem se_sumA (B : Blt Γ S "sum") (ha : SE Γ S a ma) (he : ∀ env, starEach [a] env = (false, eval a env) :: starEach [] env := by intro _; rfl) : SE Γ S (.Call (.Name "sum" p) [a] [] pos) (eUn dSumA ma) :=
  se_b1 (r := rSumT Γ.K) B PyProof.Rows.boot_sum (fun X g => by have := cr_sumT (X := X) g.calm; rw [g.ok.K] at this; exact this) (fun G H w u d x Q R vx hd k => by
    cases u <;> simp only [dSumA, dSum] at hd <;> first | cases hd | skip
    · obtain ⟨bs, h, rfl⟩ := Option.map_eq_some_iff.mp hd
      obtain ⟨a, vs, rfl, q, r⟩ := vx.tup
      rw [ints_of h r] at q
      exact ⟨a, bs, rfl, .inr (sqT_sub R q), k _ G H (.refl G) (.refl _ _) (rp_int _)⟩
    · obtain ⟨bs, h, rfl⟩ := Option.map_eq_some_iff.mp hd
      obtain ⟨a, vs, rfl, q, r⟩ := vx.lst R
      rw [ints_of h r] at q
      exact ⟨a, bs, rfl, .inl (.inl (.inl q)), k _ G H (.refl G) (.refl _ _) (rp_int _)⟩
    · obtain ⟨a, rfl, q⟩ := vx.scr R
      exact ⟨a, _, rfl, .inl q, k _ G H (.refl G) (.refl _ _) (rp_int _)⟩) ha (by decide) (by decide) he
end
end Mnd
namespace Mnd
open PySem
theorem ftrue {α : Type} (xs : List α) : xs.filter (fun _ => true) = xs := List.filter_eq_self.mpr fun _ _ => rfl
/-- items that are made one by one, none left out -/
theorem pw_mp {α : Type} {vs : List Nat} {g : D → M Unit} {elt : M Opd} {e : Env} {w : W} {as : List α} {it : α → D} {P : List D → Env → W → Prop} (E : α → Env) (out : α → D)
    (hw : wipeE e vs = e) (hb : backE e e vs = e) (hE : ∀ a ∈ as, wipeE (E a) vs = e ∧ backE e (E a) vs = e)
    (hg : ∀ a ∈ as, pw (g (it a)) e w fun _ e' w' => e' = E a ∧ w' = w)
    (he : ∀ a ∈ as, pw elt (E a) w fun o e' w' => pw (frz o) e' w' fun d e2 w2 => d = out a ∧ e2 = E a ∧ w2 = w)
    (h : ∀ e', backE e e' vs = e → P (as.map out) e' w) : pw (compL vs g tYes elt (as.map it)) e w P := by
  refine pw_fm E (fun _ => true) out hw hb hE hg (fun a _ => ?_) (fun a ha _ => he a ha) fun e' hb' => ?_
  · rw [pw_tYes]; exact ⟨rfl, rfl, rfl⟩
  · rw [ftrue]; exact h e' hb'
theorem pw_eqn {α : Type} {m : M α} {e e1 : Env} {w w1 : W} {X : α} (h : pw m e w fun a e' w' => a = X ∧ e' = e1 ∧ w' = w1) (P : α → Env → W → Prop) : pw m e w P = P X e1 w1 := by
  unfold pw okR at h ⊢
  cases q : m e w with
  | ok a e' w' => rw [q] at h; obtain ⟨rfl, rfl, rfl⟩ := h; rfl
  | ex x e' w' => rw [q] at h; exact h.elim
  | bad => rw [q] at h; exact h.elim
theorem set_self {e : Env} {v : Nat} {s : Sl} (hv : e[v]? = some s) : e.set v s = e := by
  have hlt := (List.getElem?_eq_some_iff.mp hv).1
  refine List.ext_getElem? fun j => ?_
  by_cases hj : v = j
  · subst hj; rw [List.getElem?_set_self hlt, hv]
  · rw [List.getElem?_set_ne hj]
theorem wipe1 {e : Env} {v : Nat} (hv : e[v]? = some .no) : wipeE e [v] = e := set_self hv
theorem back1 {e e' : Env} {v : Nat} (hv : e[v]? = some .no) : backE e e' [v] = e'.set v .no := by
  show (match e[v]? with | some s => (backE e e' []).set v s | none => backE e e' []) = _
  rw [hv]; rfl
/-- a comprehension over items that are known, with one name, each made without a draw -/
theorem c_mapI {α : Type} {v : Nat} {i : M (List D)} {elt : M Opd} {e e1 : Env} {w : W} (xs : List α) (it out : α → D) (hv : e1[v]? = some .no) (hi : pw i e w fun ds e' w' => ds = xs.map it ∧ e' = e1 ∧ w' = w) (hl : xs.length ≤ 100000)
    (he : ∀ a ∈ xs, pw elt (e1.set v (.val (it a))) w fun o e' w' => pw (frz o) e' w' fun d e2 w2 => d = out a ∧ e2 = e1.set v (.val (it a)) ∧ w2 = w) (P : Opd → Env → W → Prop) :
    pw (eComp [v] i (gVar v) tYes elt) e w P = P (.d (.lst (xs.map out))) e1 w := by
  refine pw_eqn ?_ P
  have hlt := (List.getElem?_eq_some_iff.mp hv).1
  have hs : ∀ x : Sl, (e1.set v x).set v .no = e1 := fun x => by rw [List.set_set]; exact set_self hv
  rw [pw_eComp, pw_comp, pw_eqn hi]
  refine ⟨⟨?_, by simpa using hl⟩, ?_⟩
  · simp [hv, isOwn]
  · refine pw_mp (fun a => e1.set v (.val (it a))) out (wipe1 hv) (by rw [back1 hv]; exact set_self hv) (fun a _ => ⟨hs _, by rw [back1 hv]; exact hs _⟩) (fun a _ => ?_) he fun e' hb => ⟨rfl, hb, rfl⟩
    rw [pw_gVar]; exact ⟨hlt, rfl, rfl⟩
theorem c_map {α : Type} {v s : Nat} {elt : M Opd} {e : Env} {w : W} (xs : List α) (it out : α → D) (hs : e[s]? = some (.val (.tup (xs.map it))) ∨ e[s]? = some (.val (.lst (xs.map it)))) (hv : e[v]? = some .no) (hl : xs.length ≤ 100000)
    (he : ∀ a ∈ xs, pw elt (e.set v (.val (it a))) w fun o e' w' => pw (frz o) e' w' fun d e2 w2 => d = out a ∧ e2 = e.set v (.val (it a)) ∧ w2 = w) (P : Opd → Env → W → Prop) :
    pw (eComp [v] (iSeq (eVar s)) (gVar v) tYes elt) e w P = P (.d (.lst (xs.map out))) e w := by
  refine c_mapI xs it out hv ?_ hl he P
  rcases hs with hs | hs <;> rw [pw_iSeq, pw_eVar, hs] <;> simp [hs]
theorem c_mapO {α : Type} {v s : Nat} {elt : M Opd} {e : Env} {w : W} (xs : List α) (it out : α → D) (hs : e[s]? = some (.own (.lst (xs.map it)))) (hv : (e.set s (.val (.lst (xs.map it))))[v]? = some .no) (hl : xs.length ≤ 100000)
    (he : ∀ a ∈ xs, pw elt ((e.set s (.val (.lst (xs.map it)))).set v (.val (it a))) w fun o e' w' => pw (frz o) e' w' fun d e2 w2 => d = out a ∧ e2 = (e.set s (.val (.lst (xs.map it)))).set v (.val (it a)) ∧ w2 = w) (P : Opd → Env → W → Prop) :
    pw (eComp [v] (iSeq (eVar s)) (gVar v) tYes elt) e w P = P (.d (.lst (xs.map out))) (e.set s (.val (.lst (xs.map it)))) w := by
  refine c_mapI xs it out hv ?_ hl he P
  rw [pw_iSeq, pw_eVar, hs]; simp [hs]
theorem c_rng {n v s : Nat} {elt : M Opd} {e : Env} {w : W} (out : Nat → D) (hs : e[s]? = some (.val (.int n))) (hv : e[v]? = some .no) (hl : n ≤ 100000)
    (he : ∀ a, a < n → pw elt (e.set v (.val (.int a))) w fun o e' w' => pw (frz o) e' w' fun d e2 w2 => d = out a ∧ e2 = e.set v (.val (.int a)) ∧ w2 = w) (P : Opd → Env → W → Prop) :
    pw (eComp [v] (iRange (bnd (aCons (eVar s) (aNil)) fun ds => if ds.length = 1 then ret ds else bad)) (gVar v) tYes elt) e w P = P (.d (.lst ((List.range n).map out))) e w := by
  refine c_mapI (List.range n) (fun k => .int k) out hv ?_ (by simpa using hl) (fun a ha => he a (List.mem_range.mp ha)) P
  have q1 : (n : Int) ≤ 100000 := by omega
  have q2 : (-100000 : Int) ≤ n := by omega
  rw [pw_iRange, pw_bnd, pw_aCons, pw_eVar, hs]
  simp [hs, q1, q2]
/-- so many draws -/
theorem d_rng {n v s : Nat} {elt : M Opd} {e : Env} {w : W} (β : Type) (out : β → D) (Q : β → Prop) (I : Nat → W → Prop) (h0 : I 0 w) (hs : e[s]? = some (.val (.int n))) (hv : e[v]? = some .no) (hl : n ≤ 100000)
    (he : ∀ i (a : Nat) w, i < n → I i w → pw elt (e.set v (.val (.int a))) w fun o e' w' => pw (frz o) e' w' fun d e2 w2 => (∃ b, d = out b ∧ Q b) ∧ e2 = e.set v (.val (.int a)) ∧ I (i + 1) w2) {P : Opd → Env → W → Prop}
    (h : ∀ bs w', List.length bs = n → (∀ b ∈ bs, Q b) → I n w' → P (.d (.lst (bs.map out))) e w') :
    pw (eComp [v] (iRange (bnd (aCons (eVar s) (aNil)) fun ds => if ds.length = 1 then ret ds else bad)) (gVar v) tYes elt) e w P := by
  have q1 : (n : Int) ≤ 100000 := by omega
  have q2 : (-100000 : Int) ≤ n := by omega
  have hi : pw (iRange (bnd (aCons (eVar s) (aNil)) fun ds => if ds.length = 1 then ret ds else bad)) e w fun ds e' w' => ds = (List.range n).map (fun (k : Nat) => D.int k) ∧ e' = e ∧ w' = w := by
    rw [pw_iRange, pw_bnd, pw_aCons, pw_eVar, hs]
    simp [hs, q1, q2]
  rw [pw_eComp, pw_comp, pw_eqn hi]
  refine ⟨⟨by simp [hv, isOwn], by simpa using hl⟩, ?_⟩
  refine pw_tm β out (fun _ b => Q b) I h0 hv (fun i a w ha hI => he i a w (by simpa using (List.getElem?_eq_some_iff.mp ha).1) hI) fun bs e' w' h1 h2 h3 h4 => ?_
  rw [h4]
  rw [List.length_range] at h1 h3
  exact h bs w' h1 (fun b hb => by
    obtain ⟨i, hi⟩ := List.getElem?_of_mem hb
    exact h2 i b hi) h3
theorem pf_a0 {g : Fn} {w : W} {P : Sl → W → Prop} : pf g (List.map Sl.val (id [])) w P = pf g [] w P := rfl
theorem pf_a1 {g : Fn} {a : D} {w : W} {P : Sl → W → Prop} : pf g (List.map Sl.val (id [a])) w P = pf g [.val a] w P := rfl
theorem pf_a2 {g : Fn} {a b : D} {w : W} {P : Sl → W → Prop} : pf g (List.map Sl.val (id [a, b])) w P = pf g [.val a, .val b] w P := rfl
theorem pf_a3 {g : Fn} {a b c : D} {w : W} {P : Sl → W → Prop} : pf g (List.map Sl.val (id [a, b, c])) w P = pf g [.val a, .val b, .val c] w P := rfl
theorem pf_a4 {g : Fn} {a b c d : D} {w : W} {P : Sl → W → Prop} : pf g (List.map Sl.val (id [a, b, c, d])) w P = pf g [.val a, .val b, .val c, .val d] w P := rfl
/-! looks without a match (a match is dear to the kernel) -/
def slS (s : Option Sl) : Bool := match s with
  | some (.val _) => true
  | some (.own _) => true
  | _ => false
def slV' (s : Option Sl) : Bool := match s with
  | some (.val _) => true
  | _ => false
def slD (s : Option Sl) : D := match s with
  | some (.val d) => d
  | some (.own d) => d
  | _ => .non
@[simp] theorem slS_val {d : D} : slS (some (.val d)) = true := rfl
@[simp] theorem slS_own {d : D} : slS (some (.own d)) = true := rfl
@[simp] theorem slV'_val {d : D} : slV' (some (.val d)) = true := rfl
@[simp] theorem slD_val {d : D} : slD (some (.val d)) = d := rfl
@[simp] theorem slD_own {d : D} : slD (some (.own d)) = d := rfl
@[simp] theorem isOwn_own {d : D} : isOwn (some (.own d)) = true := rfl
theorem slS_of {s : Option Sl} (h : slS s = true) : slotD s = some (slD s) := by
  match s, h with
  | some (.val d), _ => rfl
  | some (.own d), _ => rfl
@[simp 3000] theorem pw_eVar_c {i : Nat} {e : Env} {w : W} {P : Opd → Env → W → Prop} (h : slS e[i]? = true) : pw (eVar i) e w P = P (.sl i) e w := by
  rw [pw_eVar, slS_of h]
@[simp 3000] theorem pw_look_c {i : Nat} {e : Env} {w : W} {P : D → Env → W → Prop} (h : slS e[i]? = true) : pw (look (.sl i)) e w P = P (slD e[i]?) e w := by
  rw [pw_look_sl, slS_of h]
@[simp 3000] theorem pw_frz_c {i : Nat} {e : Env} {w : W} {P : D → Env → W → Prop} (h : slV' e[i]? = true) : pw (frz (.sl i)) e w P = P (slD e[i]?) e w := by
  rw [pw_frz_sl]
  match e[i]?, h with
  | some (.val d), _ => rfl
@[simp 3000] theorem pw_frz_o {i : Nat} {e : Env} {w : W} {P : D → Env → W → Prop} (h : isOwn e[i]? = true) : pw (frz (.sl i)) e w P = P (slD e[i]?) (e.set i (.val (slD e[i]?))) w := by
  rw [pw_frz_sl]
  match e[i]?, h with
  | some (.own d), _ => rfl
def opG (o : Option D) : D := match o with
  | some d => d
  | none => .non
@[simp] theorem opG_some {d : D} : opG (some d) = d := rfl
theorem pw_lift_c {o : Option D} {e : Env} {w : W} {P : Opd → Env → W → Prop} (h : o.isSome = true) : pw (lift (o.map Opd.d)) e w P = P (.d (opG o)) e w := by
  match o, h with
  | some d, _ => rfl
theorem pw_lift_o {o : Option D} {e : Env} {w : W} {P : Sl → Env → W → Prop} (h : o.isSome = true) : pw (lift (o.map Sl.own)) e w P = P (.own (opG o)) e w := by
  match o, h with
  | some d, _ => rfl
theorem pw_ite_c {α : Type} {c : Prop} [Decidable c] {a b : M α} {e : Env} {w : W} {P : α → Env → W → Prop} (h : c) : pw (if c then a else b) e w P = pw a e w P := by rw [if_pos h]
end Mnd
namespace Mnd
open PySem
/-- a comprehension with one name and a test, over items that are known -/
theorem c_filI {α : Type} {v : Nat} {i : M (List D)} {t : M Bool} {elt : M Opd} {e e1 : Env} {w : W} (xs : List α) (it out : α → D) (c : α → Bool) (hv : e1[v]? = some .no) (hi : pw i e w fun ds e' w' => ds = xs.map it ∧ e' = e1 ∧ w' = w) (hl : xs.length ≤ 100000)
    (ht : ∀ a ∈ xs, pw t (e1.set v (.val (it a))) w fun b e' w' => b = c a ∧ e' = e1.set v (.val (it a)) ∧ w' = w)
    (he : ∀ a ∈ xs, c a = true → pw elt (e1.set v (.val (it a))) w fun o e' w' => pw (frz o) e' w' fun d e2 w2 => d = out a ∧ e2 = e1.set v (.val (it a)) ∧ w2 = w) (P : Opd → Env → W → Prop) :
    pw (eComp [v] i (gVar v) t elt) e w P = P (.d (.lst ((xs.filter c).map out))) e1 w := by
  refine pw_eqn ?_ P
  have hlt := (List.getElem?_eq_some_iff.mp hv).1
  have hs : ∀ x : Sl, (e1.set v x).set v .no = e1 := fun x => by rw [List.set_set]; exact set_self hv
  rw [pw_eComp, pw_comp, pw_eqn hi]
  refine ⟨⟨?_, by simpa using hl⟩, ?_⟩
  · simp [hv, isOwn]
  · refine pw_fm (fun a => e1.set v (.val (it a))) c out (wipe1 hv) (by rw [back1 hv]; exact set_self hv) (fun a _ => ⟨hs _, by rw [back1 hv]; exact hs _⟩) (fun a _ => ?_) ht he fun e' hb => ⟨rfl, hb, rfl⟩
    rw [pw_gVar]; exact ⟨hlt, rfl, rfl⟩
theorem i_seq {α : Type} {s : Nat} {e : Env} {w : W} {xs : List α} {it : α → D} (hs : e[s]? = some (.val (.tup (xs.map it))) ∨ e[s]? = some (.val (.lst (xs.map it)))) : pw (iSeq (eVar s)) e w fun ds e' w' => ds = xs.map it ∧ e' = e ∧ w' = w := by
  rcases hs with hs | hs <;> rw [pw_iSeq, pw_eVar, hs] <;> simp [hs]
theorem i_rng {s n : Nat} {e : Env} {w : W} (hs : e[s]? = some (.val (.int n))) (hl : n ≤ 100000) : pw (iRange (bnd (aCons (eVar s) (aNil)) fun ds => if ds.length = 1 then ret ds else bad)) e w fun ds e' w' => ds = (List.range n).map (fun (k : Nat) => D.int k) ∧ e' = e ∧ w' = w := by
  have q1 : (n : Int) ≤ 100000 := by omega
  have q2 : (-100000 : Int) ≤ n := by omega
  rw [pw_iRange, pw_bnd, pw_aCons, pw_eVar, hs]
  simp [hs, q1, q2]
theorem i_own {α : Type} {s : Nat} {e : Env} {w : W} {xs : List α} {it : α → D} (hs : e[s]? = some (.own (.lst (xs.map it)))) : pw (iSeq (eVar s)) e w fun ds e' w' => ds = xs.map it ∧ e' = e.set s (.val (.lst (xs.map it))) ∧ w' = w := by
  rw [pw_iSeq, pw_eVar, hs]; simp [hs]
end Mnd
namespace Mnd
open PySem
/-- as pw_fm, where the names stood for something before -/
theorem pw_fmR {α : Type} {vs : List Nat} {g : D → M Unit} {t : M Bool} {elt : M Opd} {e e0 : Env} {w : W} {as : List α} {it : α → D} {P : List D → Env → W → Prop} (E : α → Env) (c : α → Bool) (out : α → D)
    (hw : wipeE e vs = e0) (hb : backE e e vs = e) (hE : ∀ a ∈ as, wipeE (E a) vs = e0 ∧ backE e (E a) vs = e)
    (hg : ∀ a ∈ as, pw (g (it a)) e0 w fun _ e' w' => e' = E a ∧ w' = w)
    (ht : ∀ a ∈ as, pw t (E a) w fun b e' w' => b = c a ∧ e' = E a ∧ w' = w)
    (he : ∀ a ∈ as, c a = true → pw elt (E a) w fun o e' w' => pw (frz o) e' w' fun d e2 w2 => d = out a ∧ e2 = E a ∧ w2 = w)
    (h : ∀ e', backE e e' vs = e → P ((as.filter c).map out) e' w) : pw (compL vs g t elt (as.map it)) e w P := by
  refine pw_compL (fun i ds e' w' => ds = ((as.take i).filter c).map out ∧ wipeE e' vs = e0 ∧ backE e e' vs = e ∧ w' = w) ⟨rfl, hw, hb, rfl⟩ ?_ ?_
  · rintro i x ds e' w' hx ⟨rfl, h1, h2, rfl⟩
    rw [List.getElem?_map] at hx
    obtain ⟨a, ha, rfl⟩ := Option.map_eq_some_iff.mp hx
    have hm := List.mem_of_getElem? ha
    rw [h1]
    refine pw_mono (hg a hm) ?_
    rintro _ _ _ ⟨rfl, rfl⟩
    refine pw_mono (ht a hm) ?_
    rintro b _ _ ⟨rfl, rfl, rfl⟩
    rw [List.take_add_one, ha]
    refine ⟨fun hc => ?_, fun hc => ?_⟩
    · refine pw_mono (he a hm hc) fun o e3 w3 h3 => pw_mono h3 ?_
      rintro d _ _ ⟨rfl, rfl, rfl⟩
      exact ⟨by simp [hc], (hE a hm).1, (hE a hm).2, rfl⟩
    · exact ⟨by simp [hc], (hE a hm).1, (hE a hm).2, rfl⟩
  · rintro ds e' w' ⟨rfl, h1, h2, rfl⟩
    rw [List.length_map, List.take_length]
    exact h e' h2
theorem pys_get : ∀ {xs : List D} {ps : List PyData}, D.pys xs = some ps → ps.length = xs.length ∧ ∀ (i : Nat) p, ps[i]? = some p → ∃ x, xs[i]? = some x ∧ D.py x = some p
  | [], ps, h => by
    rw [pys_nil h]
    exact ⟨rfl, fun i p hp => by simp at hp⟩
  | x :: xs, ps, h => by
    obtain ⟨q, qs, h1, h2, rfl⟩ := pys_cons h
    obtain ⟨l, ih⟩ := pys_get h2
    refine ⟨by simp [l], fun i p hp => ?_⟩
    cases i with
    | zero =>
      have : q = p := by simpa using hp
      subst this
      exact ⟨x, rfl, h1⟩
    | succ i => exact ih i p (by simpa using hp)
/-- where something first stands in a list of plain data -/
theorem dIndex_pt {n m : Nat} {x : D} {xs : List D} (hx : Pt n x) (hxs : ∀ y ∈ xs, Pt m y) (hn : n ≤ 63) (hm : m ≤ 62) {j : Nat} (hj : xs[j]? = some x) (hmin : ∀ i, i < j → xs[i]? ≠ some x) : dIndex (.lst xs) x = some (.int j) := by
  obtain ⟨p, ep, _, _⟩ := pt_py n x hx
  obtain ⟨ps, eps, _, _⟩ := pts_py m xs hxs
  obtain ⟨hl, hg⟩ := pys_get eps
  have e1 : D.py (.lst xs) = some (.list ps) := by unfold D.py; rw [eps]; rfl
  have s1 := pt_shaped (n := m + 1) (by omega) (.lst hxs) e1
  have s2 := pt_shaped hn hx ep
  have hjl : j < ps.length := by rw [hl]; exact (List.getElem?_eq_some_iff.mp hj).1
  have hq : ∀ i (hi : i < ps.length), (PyData.eqv ps[i] p = true ↔ xs[i]? = some x) := fun i hi => by
    obtain ⟨y, hy, ey⟩ := hg i ps[i] (List.getElem?_eq_getElem hi)
    rw [pt_eqv m n y x ps[i] p (hxs y (List.mem_of_getElem? hy)) hx ey ep, hy]
    exact ⟨fun z => by rw [z], fun z => Option.some.inj z⟩
  unfold dIndex
  rw [e1, ep]
  dsimp only
  rw [s1, s2]
  simp only [Bool.and_self, if_true]
  have : (ps.findIdx? fun z => PyData.eqv z p) = some j := by
    rw [List.findIdx?_eq_some_iff_getElem]
    refine ⟨hjl, (hq j hjl).mpr hj, fun i hi z => ?_⟩
    exact hmin i hi ((hq i (by omega)).mp z)
  rw [this]; rfl
end Mnd
/-! Middles among odd many: what comes again comes again at once or after two beats. No program in sight. -/
namespace Mnd
/-! sums -/
def sumR (n : Nat) (f : Nat → Int) : Int := ((List.range n).map f).sum
theorem sumR_succ {n : Nat} {f : Nat → Int} : sumR (n + 1) f = sumR n f + f n := by
  unfold sumR; rw [List.range_succ, List.map_append, List.sum_append]; simp
theorem sumR_zero {f : Nat → Int} : sumR 0 f = 0 := rfl
theorem sumR_congr {n : Nat} {f g : Nat → Int} (h : ∀ k, k < n → f k = g k) : sumR n f = sumR n g := by
  induction n with
  | zero => rfl
  | succ n ih => rw [sumR_succ, sumR_succ, ih fun k hk => h k (by omega), h n (by omega)]
theorem sumR_add {n : Nat} {f g : Nat → Int} : sumR n (fun k => f k + g k) = sumR n f + sumR n g := by
  induction n with
  | zero => rfl
  | succ n ih => rw [sumR_succ, sumR_succ, sumR_succ, ih]; omega
theorem sumR_mul {n : Nat} {f : Nat → Int} {c : Int} : sumR n (fun k => c * f k) = c * sumR n f := by
  induction n with
  | zero => simp [sumR_zero]
  | succ n ih => rw [sumR_succ, sumR_succ, ih, Int.mul_add]
theorem sumR_zero' {n : Nat} : sumR n (fun _ => 0) = 0 := by
  induction n with
  | zero => rfl
  | succ n ih => rw [sumR_succ, ih]; rfl
theorem sumR_swap {n m : Nat} {f : Nat → Nat → Int} : sumR n (fun i => sumR m fun j => f i j) = sumR m fun j => sumR n fun i => f i j := by
  induction n with
  | zero => simp only [sumR_zero]; exact sumR_zero'.symm
  | succ n ih =>
    rw [sumR_succ, ih, ← sumR_add]
    exact sumR_congr fun k _ => sumR_succ.symm
theorem sumR_le {n : Nat} {f g : Nat → Int} (h : ∀ k, k < n → f k ≤ g k) : sumR n f ≤ sumR n g ∧ (sumR n f = sumR n g → ∀ k, k < n → f k = g k) := by
  induction n with
  | zero => exact ⟨Int.le_refl _, fun _ k hk => by omega⟩
  | succ n ih =>
    have i1 := ih fun k hk => h k (by omega)
    have i2 := h n (by omega)
    rw [sumR_succ, sumR_succ]
    refine ⟨by omega, fun e k hk => ?_⟩
    by_cases c : k = n
    · subst c; omega
    · exact i1.2 (by omega) k (by omega)
/-! sides -/
open Classical in
noncomputable def sgn (θ q : Rat) : Int := if θ ≤ q then 1 else -1
theorem sgn_cases (θ q : Rat) : sgn θ q = 1 ∨ sgn θ q = -1 := by unfold sgn; split <;> simp
theorem sgn_pos {θ q : Rat} : sgn θ q = 1 ↔ θ ≤ q := by
  unfold sgn; split
  · rename_i h; simp [h]
  · rename_i h; simp [h]
noncomputable def sgnS (θ : Rat) (xs : List Rat) : Int := (xs.map (sgn θ)).sum
theorem sgnS_perm {θ : Rat} {xs ys : List Rat} (h : xs.Perm ys) : sgnS θ xs = sgnS θ ys := by
  unfold sgnS
  induction h with
  | nil => rfl
  | cons x _ ih => simp only [List.map_cons, List.sum_cons, ih]
  | swap x y l => simp only [List.map_cons, List.sum_cons]; omega
  | trans _ _ i1 i2 => rw [i1, i2]
theorem sgnS_app {θ : Rat} {xs ys : List Rat} : sgnS θ (xs ++ ys) = sgnS θ xs + sgnS θ ys := by
  unfold sgnS; rw [List.map_append, List.sum_append]
theorem sgnS_hi {θ : Rat} : ∀ {xs : List Rat}, (∀ q ∈ xs, θ ≤ q) → sgnS θ xs = xs.length
  | [], _ => rfl
  | x :: xs, h => by
    have := sgnS_hi (θ := θ) (xs := xs) fun q hq => h q (List.mem_cons_of_mem _ hq)
    unfold sgnS at this ⊢
    rw [List.map_cons, List.sum_cons, this, sgn_pos.mpr (h x (List.mem_cons_self ..)), List.length_cons]; omega
theorem sgnS_lo {θ : Rat} : ∀ {xs : List Rat}, (∀ q ∈ xs, ¬ θ ≤ q) → sgnS θ xs = -(xs.length : Int)
  | [], _ => rfl
  | x :: xs, h => by
    have := sgnS_lo (θ := θ) (xs := xs) fun q hq => h q (List.mem_cons_of_mem _ hq)
    have hx : sgn θ x = -1 := by
      rcases sgn_cases θ x with z | z
      · exact absurd (sgn_pos.mp z) (h x (List.mem_cons_self ..))
      · exact z
    unfold sgnS at this ⊢
    rw [List.map_cons, List.sum_cons, this, hx, List.length_cons]; omega
theorem sgnS_bd {θ : Rat} : ∀ {xs : List Rat}, -(xs.length : Int) ≤ sgnS θ xs ∧ sgnS θ xs ≤ xs.length
  | [] => ⟨Int.le_refl _, Int.le_refl _⟩
  | x :: xs => by
    have := sgnS_bd (θ := θ) (xs := xs)
    have hx := sgn_cases θ x
    unfold sgnS at this ⊢
    rw [List.map_cons, List.sum_cons, List.length_cons]
    rcases hx with e | e <;> rw [e] <;> omega
/-- the middle of odd many is above θ when most are -/
theorem mid_sgn {own : Rat} {xs : List Rat} (ho : xs.length % 2 = 0) (θ : Rat) : θ ≤ mid own xs ↔ 0 < sgnS θ (own :: xs) := by
  have hl : (srt (own :: xs)).length = xs.length + 1 := sort_len
  have hp : sgnS θ (own :: xs) = sgnS θ (srt (own :: xs)) := sgnS_perm (List.mergeSort_perm _ _).symm
  have hs := srt_sorted (own :: xs)
  have em : mid own xs = (if rnear own ((srt (own :: xs))[((srt (own :: xs)).length - 1) / 2]?.getD own) ((srt (own :: xs))[(srt (own :: xs)).length / 2]?.getD own) then ((srt (own :: xs))[((srt (own :: xs)).length - 1) / 2]?.getD own) else ((srt (own :: xs))[(srt (own :: xs)).length / 2]?.getD own)) := rfl
  rw [hp, em]
  generalize srt (own :: xs) = t at *
  have e1 : (t.length - 1) / 2 = t.length / 2 := by omega
  rw [e1]
  simp only [ite_self]
  have hlt : t.length / 2 < t.length := by omega
  rw [List.getElem?_eq_getElem hlt, Option.getD_some]
  have split1 : t = t.take (t.length / 2) ++ t.drop (t.length / 2) := (List.take_append_drop _ _).symm
  have split2 : t = t.take (t.length / 2 + 1) ++ t.drop (t.length / 2 + 1) := (List.take_append_drop _ _).symm
  have pw := List.pairwise_iff_getElem.mp hs
  constructor
  · intro h
    have h1 : sgnS θ (t.drop (t.length / 2)) = ((t.drop (t.length / 2)).length : Nat) := sgnS_hi fun q hq => by
      obtain ⟨i, hi, rfl⟩ := List.mem_iff_getElem.mp hq
      rw [List.getElem_drop]
      rw [List.length_drop] at hi
      by_cases z : i = 0
      · subst z; exact h
      · exact Rat.le_trans h (pw _ _ hlt (by omega) (by omega))
    have h2 := (sgnS_bd (θ := θ) (xs := t.take (t.length / 2))).1
    rw [split1, sgnS_app, h1]
    rw [List.length_take] at h2
    rw [List.length_drop]
    omega
  · intro h
    refine Classical.byContradiction fun hn => ?_
    have h1 : sgnS θ (t.take (t.length / 2 + 1)) = -(((t.take (t.length / 2 + 1)).length : Nat) : Int) := sgnS_lo fun q hq z => by
      obtain ⟨i, hi, rfl⟩ := List.mem_iff_getElem.mp hq
      rw [List.getElem_take] at z
      rw [List.length_take] at hi
      by_cases c : i = t.length / 2
      · subst c; exact hn z
      · exact hn (Rat.le_trans z (pw _ _ (by omega) hlt (by omega)))
    have h2 := (sgnS_bd (θ := θ) (xs := t.drop (t.length / 2 + 1))).2
    rw [split2, sgnS_app, h1] at h
    rw [List.length_drop] at h2
    rw [List.length_take] at h
    omega
/-! energy -/
def adj (web : Web) (k j : Nat) : Int := if (min j k, max j k) ∈ web then 1 else 0
theorem adj_sym (web : Web) (k j : Nat) : adj web k j = adj web j k := by
  unfold adj; rw [Nat.min_comm, Nat.max_comm]
theorem filt_sum {p : Nat → Bool} {f : Nat → Int} : ∀ n : Nat, (((List.range n).filter p).map f).sum = sumR n fun j => if p j = true then f j else 0
  | 0 => rfl
  | n + 1 => by
    rw [List.range_succ, List.filter_append, List.map_append, List.sum_append, filt_sum n, sumR_succ]
    by_cases h : p n = true
    · simp [h]
    · simp [h]
noncomputable def hsum (web : Web) (θ : Rat) (ms : List Rat) (k : Nat) : Int := sgn θ (ms[k]?.getD 0) + sumR ms.length fun j => adj web k j * sgn θ (ms[j]?.getD 0)
theorem hsum_eq {web : Web} {θ : Rat} {ms : List Rat} (hw : WebOk ms.length web) (k : Nat) : sgnS θ (ms[k]?.getD 0 :: (nbs web k).map fun j => ms[j]?.getD 0) = hsum web θ ms k := by
  have h1 : sgnS θ ((nbs web k).map fun j => ms[j]?.getD 0) = sgnS θ ((nbL ms.length web k).map fun j => ms[j]?.getD 0) := sgnS_perm ((nbs_perm hw k).map _)
  have h2 : sgnS θ (ms[k]?.getD 0 :: (nbs web k).map fun j => ms[j]?.getD 0) = sgn θ (ms[k]?.getD 0) + sgnS θ ((nbs web k).map fun j => ms[j]?.getD 0) := by
    unfold sgnS; rw [List.map_cons, List.sum_cons]
  rw [h2, h1]
  unfold hsum
  congr 1
  unfold sgnS nbL
  rw [List.map_map]
  have := filt_sum (p := fun j => decide ((min j k, max j k) ∈ web)) (f := fun j => sgn θ (ms[j]?.getD 0)) ms.length
  refine Eq.trans ?_ (this.trans (sumR_congr fun j _ => ?_))
  · rfl
  · unfold adj
    by_cases c : (min j k, max j k) ∈ web <;> simp [c]
theorem step_sgn {web : Web} {θ : Rat} {ms : List Rat} (hw : WebOk ms.length web) (he : ∀ k, k < ms.length → (nbs web k).length % 2 = 0) {k : Nat} (hk : k < ms.length) : (sgn θ ((stepM web ms)[k]?.getD 0) = 1 ∧ 0 < hsum web θ ms k) ∨ (sgn θ ((stepM web ms)[k]?.getD 0) = -1 ∧ hsum web θ ms k < 0) := by
  have e : (stepM web ms)[k]?.getD 0 = mid (ms[k]?.getD 0) ((nbs web k).map fun j => ms[j]?.getD 0) := by
    unfold stepM
    rw [List.getElem?_map, List.getElem?_range hk]; rfl
  have hm := mid_sgn (own := ms[k]?.getD 0) (xs := (nbs web k).map fun j => ms[j]?.getD 0) (by rw [List.length_map]; exact he k hk) θ
  have hpar : ∀ xs : List Rat, (sgnS θ xs - xs.length) % 2 = 0 := by
    intro xs
    induction xs with
    | nil => rfl
    | cons x r ih =>
      unfold sgnS at ih ⊢
      rw [List.map_cons, List.sum_cons, List.length_cons]
      rcases sgn_cases θ x with z | z <;> rw [z] <;> omega
  have hp := hpar (ms[k]?.getD 0 :: (nbs web k).map fun j => ms[j]?.getD 0)
  rw [hsum_eq hw] at hm hp
  rw [List.length_cons, List.length_map] at hp
  have := he k hk
  rw [← e] at hm
  by_cases c : θ ≤ (stepM web ms)[k]?.getD 0
  · exact .inl ⟨sgn_pos.mpr c, hm.mp c⟩
  · refine .inr ⟨?_, ?_⟩
    · rcases sgn_cases θ ((stepM web ms)[k]?.getD 0) with z | z
      · exact absurd (sgn_pos.mp z) c
      · exact z
    · have : ¬ 0 < hsum web θ ms k := fun z => c (hm.mpr z)
      omega
noncomputable def enr (web : Web) (θ : Rat) (xs ys : List Rat) : Int := sumR xs.length fun k => sgn θ (ys[k]?.getD 0) * hsum web θ xs k
theorem enr_sym {web : Web} {θ : Rat} {xs ys : List Rat} (hl : xs.length = ys.length) : enr web θ xs ys = enr web θ ys xs := by
  have ex : ∀ xs ys : List Rat, xs.length = ys.length → enr web θ xs ys = (sumR xs.length fun k => sgn θ (ys[k]?.getD 0) * sgn θ (xs[k]?.getD 0)) + sumR xs.length fun k => sumR xs.length fun j => sgn θ (ys[k]?.getD 0) * (adj web k j * sgn θ (xs[j]?.getD 0)) := by
    intro xs ys _
    unfold enr
    rw [← sumR_add]
    refine sumR_congr fun k _ => ?_
    unfold hsum
    rw [Int.mul_add, sumR_mul]
  rw [ex xs ys hl, ex ys xs hl.symm, hl]
  congr 1
  · exact sumR_congr fun k _ => Int.mul_comm _ _
  · rw [sumR_swap]
    refine sumR_congr fun j _ => sumR_congr fun k _ => ?_
    rw [adj_sym web k j]
    generalize adj web j k = a
    generalize sgn θ (xs[j]?.getD 0) = b
    generalize sgn θ (ys[k]?.getD 0) = c
    grind
theorem enr_up {web : Web} {θ : Rat} {ms : List Rat} (hw : WebOk ms.length web) (he : ∀ k, k < ms.length → (nbs web k).length % 2 = 0) : enr web θ ms (stepM web ms) ≤ enr web θ (stepM web ms) (stepM web (stepM web ms)) ∧
    (enr web θ ms (stepM web ms) = enr web θ (stepM web ms) (stepM web (stepM web ms)) → ∀ k, k < ms.length → sgn θ (ms[k]?.getD 0) = sgn θ ((stepM web (stepM web ms))[k]?.getD 0)) := by
  have hl : ms.length = (stepM web ms).length := by simp
  have hw2 : WebOk (stepM web ms).length web := by rw [← hl]; exact hw
  rw [enr_sym hl]
  unfold enr
  rw [← hl]
  have key : ∀ k, k < ms.length → (sgn θ ((stepM web (stepM web ms))[k]?.getD 0) = 1 ∧ 0 < hsum web θ (stepM web ms) k) ∨ (sgn θ ((stepM web (stepM web ms))[k]?.getD 0) = -1 ∧ hsum web θ (stepM web ms) k < 0) := fun k hk =>
    step_sgn hw2 (fun k hk => he k (by omega)) (by omega)
  have hle : ∀ k, k < ms.length → sgn θ (ms[k]?.getD 0) * hsum web θ (stepM web ms) k ≤ sgn θ ((stepM web (stepM web ms))[k]?.getD 0) * hsum web θ (stepM web ms) k := fun k hk => by
    rcases key k hk with ⟨a, b⟩ | ⟨a, b⟩ <;> rcases sgn_cases θ (ms[k]?.getD 0) with c | c <;> rw [a, c] <;> omega
  have := sumR_le hle
  refine ⟨this.1, fun e k hk => ?_⟩
  have e2 := this.2 e k hk
  rcases key k hk with ⟨a, b⟩ | ⟨a, b⟩ <;> rcases sgn_cases θ (ms[k]?.getD 0) with c | c <;> rw [a, c] at e2 ⊢ <;> omega
/-- with even many at each one's side nothing comes again later than after two beats -/
theorem period_two {web : Web} {ms : List Rat} (hw : WebOk ms.length web) (he : ∀ k, k < ms.length → (nbs web k).length % 2 = 0) {i p : Nat} (hp : 0 < p) (h : stepsM web i ms = stepsM web (i + p) ms) : stepsM web i ms = stepsM web (i + 2) ms := by
  have hwk : ∀ t, WebOk (stepsM web t ms).length web := fun t => by rw [stepsM_len]; exact hw
  have hek : ∀ t, ∀ k, k < (stepsM web t ms).length → (nbs web k).length % 2 = 0 := fun t k hk => he k (by rw [stepsM_len] at hk; exact hk)
  have sg : ∀ θ k, k < ms.length → sgn θ ((stepsM web i ms)[k]?.getD 0) = sgn θ ((stepsM web (i + 2) ms)[k]?.getD 0) := by
    intro θ
    have up := fun t => enr_up (θ := θ) (hwk t) (hek t)
    have mono : ∀ d t, enr web θ (stepsM web t ms) (stepsM web (t + 1) ms) ≤ enr web θ (stepsM web (t + d) ms) (stepsM web (t + d + 1) ms) := by
      intro d
      induction d with
      | zero => intro t; exact Int.le_refl _
      | succ d ih => intro t; exact Int.le_trans (ih t) (up (t + d)).1
    have hper : stepsM web (i + p + 1) ms = stepsM web (i + 1) ms := by
      show stepM web (stepsM web (i + p) ms) = stepM web (stepsM web i ms)
      rw [← h]
    have e1 : enr web θ (stepsM web i ms) (stepsM web (i + 1) ms) = enr web θ (stepsM web (i + 1) ms) (stepsM web (i + 1 + 1) ms) := by
      have a1 := (up i).1
      have a2 := mono (p - 1) (i + 1)
      rw [show i + 1 + (p - 1) = i + p by omega, hper, ← h] at a2
      exact Int.le_antisymm a1 a2
    intro k hk
    exact (up i).2 e1 k (by rw [stepsM_len]; exact hk)
  refine List.ext_getElem (by simp) fun k h1 h2 => ?_
  have hk : k < ms.length := by simpa using h1
  have g1 : (stepsM web i ms)[k]?.getD 0 = (stepsM web i ms)[k] := by rw [List.getElem?_eq_getElem h1]; rfl
  have g2 : (stepsM web (i + 2) ms)[k]?.getD 0 = (stepsM web (i + 2) ms)[k] := by rw [List.getElem?_eq_getElem h2]; rfl
  have s1 := sg (stepsM web i ms)[k] k hk
  have s2 := sg (stepsM web (i + 2) ms)[k] k hk
  rw [g1, g2] at s1 s2
  rw [sgn_pos.mpr Rat.le_refl] at s1
  rw [sgn_pos.mpr (Rat.le_refl (a := (stepsM web (i + 2) ms)[k]))] at s2
  exact Rat.le_antisymm (sgn_pos.mp s1.symm) (sgn_pos.mp s2)
end Mnd
namespace Mnd
namespace K60
open PySem PySem.Spec PyProof.Rows L2
def top (i : Nat) : Stmt := PySem.Challenge.pw_mindmeans_k60_whole_minds_that_come_agai.main.body.getD i (.Pass ⟨0, 0, 0, 0⟩)
/-! ### what the defs do -/
noncomputable def b__law_well : M Flow := sSeq (sSet 2 (oVal (eBin dAdd (eInt 704969) (eBin dMul (eInt 6121) (eVar 1)))))
    (sSeq (sFor (iSeq (eCut (eVar 0) (pNone) (pSome (eInt 16)))) (gVar 3)
    (sSet 2 (oVal (eBin dMod (eUn dInt (eBin dAdd (eBin dAdd (eBin dMul (eVar 2) (eInt 48271)) (eBin dMod (eUn dInt (eVar 3)) (eInt 2147483549))) (eInt 23))) (eInt 2147483587)))))
    (sSeq (sSet 4 (oVal (eIf (tVal (eBin dLt (eVar 1) (eUn dLen (eVar 0)))) (eUn dInt (eIx (eVar 0) (eVar 1))) (eInt 0))))
    (sSeq (sSet 2 (oVal (eBin dMod (eUn dInt (eBin dAdd (eBin dAdd (eBin dMul (eVar 2) (eInt 53)) (eBin dMul (eBin dMod (eUn dInt (eVar 4)) (eInt 2147483549)) (eInt 15013))) (eInt 11))) (eInt 2147483587))))
    (sRet (oLst (bnd (aCons (eIf (Mnd.tOr (tVal (eBin dLt (eVar 4) (eInt 0))) (tVal (eBin dGe (eVar 4) (eBin dPow (eInt 10) (eInt 15))))) (eUn dAbs (eVar 4)) (eInt 0)) (aCons (eVar 2) (aCons (eInt 0) (aNil)))) fun ds => if ds.length ≤ 100000 then ret ds else bad))))))
noncomputable def f__law_well : Fn := mkFn 5 2 b__law_well
noncomputable def b__law_draw : M Flow := sSeq (sIf (tVal (eBin dGt (eIx (eVar 0) (eInt 0)) (eInt 0)))
    (sSeq (sAsg (eBin dDivmod (eIx (eVar 0) (eInt 0)) (eVar 1)) (gTup 2 (gCons (gIx 0 (eInt 0)) (gCons (gVar 3) (gNil)))))
    (sRet (oVar 3))) (sNil))
    (sSeq (sAsg (eBin dAdd (eIx (eVar 0) (eInt 2)) (eInt 1)) (gIx 0 (eInt 2)))
    (sSeq (sSet 2 (oVal (eBin dMod (eUn dInt (eBin dAdd (eBin dAdd (eBin dMul (eIx (eVar 0) (eInt 1)) (eInt 40009)) (eBin dMul (eInt 15013) (eIx (eVar 0) (eInt 2)))) (eInt 3))) (eInt 2147483587))))
    (sSeq (sAsg (eBin dMod (eUn dInt (eBin dAdd (eBin dMul (eVar 2) (eBin dAdd (eBin dMod (eUn dInt (eVar 2)) (eInt 5003)) (eInt 20011))) (eIx (eVar 0) (eInt 2)))) (eInt 2147483587)) (gIx 0 (eInt 1)))
    (sRet (oVal (eBin dMod (eUn dInt (eBin dFdiv (eIx (eVar 0) (eInt 1)) (eInt 1031))) (eVar 1)))))))
noncomputable def f__law_draw : Fn := mkFn 4 2 b__law_draw
noncomputable def b__law_of : M Flow := sRet (oVal (eIx (eVar 1) (eOf (callV f__law_draw id (aCons (eVar 0) (aCons (eUn dLen (eVar 1)) (aNil)))))))
noncomputable def f__law_of : Fn := mkFn 2 2 b__law_of
noncomputable def b__law_web : M Flow := sSeq (sAsg (eTup (bnd (aCons (eOf (callV f__law_of id (aCons (eVar 0) (aCons (eTup (bnd (aCons (eInt 0) (aCons (eInt 1) (aCons (eInt 2) (aCons (eInt 4) (aNil))))) fun ds => if ds.length ≤ 100000 then ret ds else bad)) (aNil))))) (aCons (eLst (bnd (aNil) fun ds => if ds.length ≤ 100000 then ret ds else bad)) (aNil))) fun ds => if ds.length ≤ 100000 then ret ds else bad)) (gTup 2 (gCons (gVar 3) (gCons (gVar 4) (gNil)))))
    (sSeq (sFor (iRange (bnd (aCons (eVar 1) (aNil)) fun ds => if ds.length = 1 then ret ds else bad)) (gVar 2)
    (sSet 4 (oBin dCatL (eVar 4) (eComp [5] (iRange (bnd (aCons (eBin dAdd (eVar 2) (eInt 1)) (aCons (eVar 1) (aNil))) fun ds => if ds.length = 2 then ret ds else bad)) (gVar 5) (tVal (eBin dLt (eOf (callV f__law_draw id (aCons (eVar 0) (aCons (eInt 4) (aNil))))) (eVar 3))) (eTup (bnd (aCons (eVar 2) (aCons (eVar 5) (aNil))) fun ds => if ds.length ≤ 100000 then ret ds else bad))))))
    (sRet (oVal (eUn dTupOf (eVar 4)))))
noncomputable def f__law_web : Fn := mkFn 6 2 b__law_web
noncomputable def b__law_upto : M Flow := sRet (oVal (eBin dLe (eBin dMul (eIx (eVar 0) (eInt 0)) (eIx (eVar 1) (eInt 1))) (eBin dMul (eIx (eVar 1) (eInt 0)) (eIx (eVar 0) (eInt 1)))))
noncomputable def f__law_upto : Fn := mkFn 2 2 b__law_upto
noncomputable def b__law_ascending : M Flow := sSeq (sSet 1 (oLst (bnd (aNil) fun ds => if ds.length ≤ 100000 then ret ds else bad)))
    (sSeq (sFor (iSeq (eVar 0)) (gVar 2)
    (sSeq (sSet 3 (oVal (eUn dLen (eComp [4] (iSeq (eVar 1)) (gVar 4) (tVal (eOf (callV f__law_upto id (aCons (eVar 4) (aCons (eVar 2) (aNil)))))) (eVar 4)))))
    (sSet 1 (oVal (eBin dAdd (eBin dAdd (eCut (eVar 1) (pNone) (pSome (eVar 3))) (eLst (bnd (aCons (eVar 2) (aNil)) fun ds => if ds.length ≤ 100000 then ret ds else bad))) (eCut (eVar 1) (pSome (eVar 3)) (pNone)))))))
    (sRet (oVar 1)))
noncomputable def f__law_ascending : Fn := mkFn 5 1 b__law_ascending
noncomputable def b__law_divisor : M Flow := sSeq (sWhile (tVal (eBin dGt (eVar 1) (eInt 0)))
    (sPar 0 1 (oVal (eVar 1)) (oVal (eBin dMod (eUn dInt (eVar 0)) (eVar 1)))))
    (sRet (oVar 0))
noncomputable def f__law_divisor : Fn := mkFn 2 2 b__law_divisor
noncomputable def b__law_frac : M Flow := sSeq (sSet 2 (callV f__law_divisor id (aCons (eUn dAbs (eVar 0)) (aCons (eVar 1) (aNil)))))
    (sRet (oVal (eTup (bnd (aCons (eBin dFdiv (eVar 0) (eVar 2)) (aCons (eBin dFdiv (eVar 1) (eVar 2)) (aNil))) fun ds => if ds.length ≤ 100000 then ret ds else bad))))
noncomputable def f__law_frac : Fn := mkFn 3 2 b__law_frac
noncomputable def b__law_add : M Flow := sRet (callV f__law_frac id (aCons (eBin dAdd (eBin dMul (eIx (eVar 0) (eInt 0)) (eIx (eVar 1) (eInt 1))) (eBin dMul (eIx (eVar 1) (eInt 0)) (eIx (eVar 0) (eInt 1)))) (aCons (eBin dMul (eIx (eVar 0) (eInt 1)) (eIx (eVar 1) (eInt 1))) (aNil))))
noncomputable def f__law_add : Fn := mkFn 2 2 b__law_add
noncomputable def b__law_less : M Flow := sRet (oVal (eTup (bnd (aCons (eBin dSub (eInt 0) (eIx (eVar 0) (eInt 0))) (aCons (eIx (eVar 0) (eInt 1)) (aNil))) fun ds => if ds.length ≤ 100000 then ret ds else bad)))
noncomputable def f__law_less : Fn := mkFn 1 1 b__law_less
noncomputable def b__law_far : M Flow := sSeq (sSet 2 (callV f__law_add id (aCons (eVar 0) (aCons (eOf (callV f__law_less id (aCons (eVar 1) (aNil)))) (aNil)))))
    (sRet (oVal (eTup (bnd (aCons (eUn dAbs (eIx (eVar 2) (eInt 0))) (aCons (eIx (eVar 2) (eInt 1)) (aNil))) fun ds => if ds.length ≤ 100000 then ret ds else bad))))
noncomputable def f__law_far : Fn := mkFn 3 2 b__law_far
noncomputable def b__law_middles : M Flow := sSeq (sSet 2 (oLst (bnd (aNil) fun ds => if ds.length ≤ 100000 then ret ds else bad)))
    (sSeq (sFor (iRange (bnd (aCons (eUn dLen (eVar 0)) (aNil)) fun ds => if ds.length = 1 then ret ds else bad)) (gVar 3)
    (sSeq (sSet 4 (oBin dCatL (eLst (bnd (aCons (eIx (eVar 0) (eVar 3)) (aNil)) fun ds => if ds.length ≤ 100000 then ret ds else bad)) (eComp [8] (iRange (bnd (aCons (eUn dLen (eVar 0)) (aNil)) fun ds => if ds.length = 1 then ret ds else bad)) (gVar 8) (tVal (eBin dIn (eTup (bnd (aCons (eBin dMin (eVar 8) (eVar 3)) (aCons (eBin dMax (eVar 8) (eVar 3)) (aNil))) fun ds => if ds.length ≤ 100000 then ret ds else bad)) (eVar 1))) (eIx (eVar 0) (eVar 8)))))
    (sSeq (sSet 5 (callV f__law_ascending id (aCons (eVar 4) (aNil))))
    (sSeq (sPar 6 7 (oVal (eIx (eVar 5) (eBin dFdiv (eBin dSub (eUn dLen (eVar 5)) (eInt 1)) (eInt 2)))) (oVal (eIx (eVar 5) (eBin dFdiv (eUn dLen (eVar 5)) (eInt 2)))))
    (sAppend 2 (eIf (tVal (eOf (callV f__law_upto id (aCons (eOf (callV f__law_far id (aCons (eVar 6) (aCons (eIx (eVar 0) (eVar 3)) (aNil))))) (aCons (eOf (callV f__law_far id (aCons (eVar 7) (aCons (eIx (eVar 0) (eVar 3)) (aNil))))) (aNil)))))) (eVar 6) (eVar 7)))))))
    (sRet (oVal (eUn dTupOf (eVar 2)))))
noncomputable def f__law_middles : Fn := mkFn 9 2 b__law_middles
noncomputable def b__law_again : M Flow := sSeq (sSet 2 (oLst (bnd (aCons (eVar 0) (aNil)) fun ds => if ds.length ≤ 100000 then ret ds else bad)))
    (sSeq (sFor (iRange (bnd (aCons (eInt 4000) (aNil)) fun ds => if ds.length = 1 then ret ds else bad)) (gVar 3)
    (sSeq (sSet 4 (callV f__law_middles id (aCons (eIx (eVar 2) (eUn dNeg (eInt 1))) (aCons (eVar 1) (aNil)))))
    (sSeq (sIf (tVal (eBin dIn (eVar 4) (eVar 2)))
    (sRet (oVal (eTup (bnd (aCons (eIndex (eVar 2) (eVar 4)) (aCons (eBin dSub (eUn dLen (eVar 2)) (eIndex (eVar 2) (eVar 4))) (aNil))) fun ds => if ds.length ≤ 100000 then ret ds else bad)))) (sNil))
    (sAppend 2 (eVar 4)))))
    (sRet (oVal (eC .non))))
noncomputable def f__law_again : Fn := mkFn 5 2 b__law_again
def b__law_same (rec : Fn) : M Flow := sSeq (sIf (tVal (eUn (dIsB .tuple) (eVar 1)))
    (sSeq (sIf (Mnd.tOr (Mnd.tNot (tVal (eUn (dIsB .tuple) (eVar 0)))) (tVal (eBin dNe (eUn dLen (eVar 0)) (eUn dLen (eVar 1)))))
    (sRet (oVal (eC (.bl false)))) (sNil))
    (sRet (oVal (eUn dAll (eComp [3] (iRange (bnd (aCons (eUn dLen (eVar 1)) (aNil)) fun ds => if ds.length = 1 then ret ds else bad)) (gVar 3) (Mnd.tYes) (eOf (callV rec id (aCons (eIx (eVar 0) (eVar 3)) (aCons (eIx (eVar 1) (eVar 3)) (aNil)))))))))) (sNil))
    (sSeq (sIf (tVal (eUn (dIsB .bool) (eVar 1)))
    (sRet (oVal (eAnd (eUn (dIsB .bool) (eVar 0)) (eBin dEq (eVar 0) (eVar 1))))) (sNil))
    (sSeq (sIf (tVal (eUn (dIsB .int) (eVar 1)))
    (sRet (oVal (eAnd (eUn (dIsB .int) (eVar 0)) (eAnd (eNot (eUn (dIsB .bool) (eVar 0))) (eBin dEq (eVar 0) (eVar 1)))))) (sNil))
    (sSeq (sIf (tVal (eUn (dIsB .str) (eVar 1)))
    (sRet (oVal (eAnd (eUn (dIsB .str) (eVar 0)) (eBin dEq (eVar 0) (eVar 1))))) (sNil))
    (sSeq (sIf (tVal (eBin dIs2 (eVar 1) (eC .non)))
    (sRet (oVal (eBin dIs2 (eVar 0) (eC .non)))) (sNil))
    (sSeq (sSet 2 (oVal (eAnd (eBin dEq (eUn (dIsB .list) (eVar 0)) (eUn (dIsB .list) (eVar 1))) (eBin dEq (eUn (dIsB .dict) (eVar 0)) (eUn (dIsB .dict) (eVar 1))))))
    (sRet (oVal (eAnd (eVar 2) (eAnd (eNot (eUn (dIsB .tuple) (eVar 0))) (eBin dIsBl (eBin dEq (eVar 0) (eVar 1)) (eC (.bl true))))))))))))
def fr__law_same : Nat → Fn
  | 0 => fun _ _ => .bad
  | k + 1 => mkFn 4 2 (b__law_same (fr__law_same k))
def f__law_same : Fn := fr__law_same 4
noncomputable def b__law_mind : M Flow := sSeq (sSet 1 (callV f__law_of id (aCons (eVar 0) (aCons (eTup (bnd (aCons (eInt 1) (aCons (eInt 1) (aCons (eInt 2) (aCons (eInt 3) (aNil))))) fun ds => if ds.length ≤ 100000 then ret ds else bad)) (aNil)))))
    (sRet (callV f__law_frac id (aCons (eBin dSub (eOf (callV f__law_draw id (aCons (eVar 0) (aCons (eBin dMul (eInt 9) (eVar 1)) (aNil))))) (eInt 3)) (aCons (eVar 1) (aNil)))))
noncomputable def f__law_mind : Fn := mkFn 2 1 b__law_mind
noncomputable def b_is_tuple_of : M Flow := sRet (oVal (eAnd (eUn (dIsB .tuple) (eVar 0)) (eBin dEq (eUn dLen (eVar 0)) (eVar 1))))
noncomputable def f_is_tuple_of : Fn := mkFn 2 2 b_is_tuple_of
noncomputable def b_wrong_in : M Flow := sSeq (sIf (Mnd.tOr (Mnd.tNot (tVal (eUn (dIsB .tuple) (eVar 0)))) (tVal (eBin dLt (eUn dLen (eVar 0)) (eVar 1))))
    (sRet (oLst (bnd (aCons (eC .non) (aNil)) fun ds => if ds.length ≤ 100000 then ret ds else bad))) (sNil))
    (sSeq (sFor (iEnum (aCons (eVar 0) (aNil))) (gTup 2 (gCons (gVar 4) (gCons (gVar 5) (gNil))))
    (sIf (Mnd.tOr (tVal (eBin dEq (eVar 4) (eVar 2))) (Mnd.tNot (tVal (eCallS 24 3 (aCons (eCut (eVar 0) (pNone) (pSome (eVar 4))) (aCons (eVar 5) (aNil)))))))
    (sRet (oLst (bnd (aCons (eVar 4) (aNil)) fun ds => if ds.length ≤ 100000 then ret ds else bad))) (sNil)))
    (sRet (oLst (bnd (aNil) fun ds => if ds.length ≤ 100000 then ret ds else bad))))
noncomputable def f_wrong_in : Fn := mkFn 6 4 b_wrong_in
noncomputable def b_wrong_in_all : M Flow := sRet (oVal (eIf (tVal (eOf (callV f_is_tuple_of id (aCons (eVar 0) (aCons (eVar 1) (aNil)))))) (eOf (call f_wrong_in (kVal (eVar 0) (kVal (eVar 1) (kVal (eVar 1) (kLam 13 3 2 [2] (eCallS 12 2 (aCons (eVar 1) (aNil))))))))) (eLst (bnd (aCons (eC .non) (aNil)) fun ds => if ds.length ≤ 100000 then ret ds else bad))))
noncomputable def f_wrong_in_all : Fn := mkFn 3 3 b_wrong_in_all
noncomputable def b_is_pair : M Flow := sRet (callV f_is_tuple_of id (aCons (eVar 0) (aCons (eInt 2) (aNil))))
noncomputable def f_is_pair : Fn := mkFn 1 1 b_is_pair
noncomputable def b_is_whole : M Flow := sRet (oVal (eAnd (eUn (dIsB .int) (eVar 0)) (eNot (eUn (dIsB .bool) (eVar 0)))))
noncomputable def f_is_whole : Fn := mkFn 1 1 b_is_whole
noncomputable def b_is_fraction : M Flow := sSeq (sIf (Mnd.tOr (Mnd.tNot (tVal (eOf (callV f_is_pair id (aCons (eVar 0) (aNil)))))) (Mnd.tNot (tVal (eUn dAll (eComp [1] (iSeq (eVar 0)) (gVar 1) (Mnd.tYes) (eOf (callV f_is_whole id (aCons (eVar 1) (aNil)))))))))
    (sRet (oVal (eC (.bl false)))) (sNil))
    (sRet (oVal (eAnd (eBin dGt (eIx (eVar 0) (eInt 1)) (eInt 0)) (eBin dEq (eBin dGcd (eIx (eVar 0) (eInt 0)) (eIx (eVar 0) (eInt 1))) (eInt 1)))))
noncomputable def f_is_fraction : Fn := mkFn 2 1 b_is_fraction
noncomputable def b_wrong_in_minds : M Flow := sSeq (sIf (tVal (eBin dIsNot2 (eVar 1) (eC .non)))
    (sRet (call f_wrong_in_all (kVal (eVar 0) (kVal (eVar 1) (kDef 3 (cloOf f_is_fraction) (kNil)))))) (sNil))
    (sSeq (sIf (Mnd.tOr (Mnd.tNot (tVal (eUn (dIsB .tuple) (eVar 0)))) (Mnd.tNot (tVal (eChain dLe dLe (eInt 1) (eUn dLen (eVar 0)) (eC (.int 5))))))
    (sRet (oLst (bnd (aCons (eC .non) (aNil)) fun ds => if ds.length ≤ 100000 then ret ds else bad))) (sNil))
    (sRet (call f_wrong_in_all (kVal (eVar 0) (kVal (eUn dLen (eVar 0)) (kDef 3 (cloOf f_is_fraction) (kNil)))))))
noncomputable def f_wrong_in_minds : Fn := mkFn 2 2 b_wrong_in_minds
noncomputable def b_check_lone_minds : M Flow := sFor (iSeq (eOf (callV f_wrong_in_minds id (aCons (eVar 0) (aCons (eC .non) (aNil)))))) (gVar 1)
    (bad)
noncomputable def f_check_lone_minds : Fn := mkFn 2 1 b_check_lone_minds
noncomputable def b_is_between : M Flow := sRet (oVal (eAnd (eOf (callV f_is_whole id (aCons (eVar 0) (aNil)))) (eChain dLe dLe (eVar 1) (eVar 0) (eVar 2))))
noncomputable def f_is_between : Fn := mkFn 3 3 b_is_between
noncomputable def b_is_tie : M Flow := sSeq (sIf (Mnd.tOr (Mnd.tNot (tVal (eOf (callV f_is_pair id (aCons (eVar 1) (aNil)))))) (Mnd.tNot (tVal (eOf (callV f_is_between id (aCons (eIx (eVar 1) (eInt 0)) (aCons (eInt 0) (aCons (eBin dSub (eVar 0) (eInt 1)) (aNil)))))))))
    (sRet (oVal (eC (.bl false)))) (sNil))
    (sRet (callV f_is_between id (aCons (eIx (eVar 1) (eInt 1)) (aCons (eBin dAdd (eIx (eVar 1) (eInt 0)) (eInt 1)) (aCons (eBin dSub (eVar 0) (eInt 1)) (aNil))))))
noncomputable def f_is_tie : Fn := mkFn 2 2 b_is_tie
noncomputable def b_are_below : M Flow := sRet (oVal (eOr (eBin dEq (eVar 0) (eTup (bnd (aNil) fun ds => if ds.length ≤ 100000 then ret ds else bad))) (eBin dLt (eIx (eVar 0) (eUn dNeg (eInt 1))) (eVar 1))))
noncomputable def f_are_below : Fn := mkFn 2 2 b_are_below
noncomputable def b_wrong_in_web : M Flow := sRet (call f_wrong_in (kVal (eVar 1) (kVal (eInt 0) (kVal (eC .non) (kLam 4 3 2 [0] (eAnd (eOf (callV f_is_tie id (aCons (eVar 2) (aCons (eVar 1) (aNil))))) (eOf (callV f_are_below id (aCons (eVar 0) (aCons (eVar 1) (aNil)))))))))))
noncomputable def f_wrong_in_web : Fn := mkFn 2 2 b_wrong_in_web
noncomputable def b_check_web : M Flow := sSeq (sExpr (eOf (callV f_check_lone_minds id (aCons (eVar 0) (aNil)))))
    (sFor (iSeq (eOf (callV f_wrong_in_web id (aCons (eUn dLen (eVar 0)) (aCons (eVar 1) (aNil)))))) (gVar 2)
    (bad))
noncomputable def f_check_web : Fn := mkFn 3 2 b_check_web
noncomputable def b_middle_for : M Flow := sSeq (sSet 2 (oUn dSortI (eLst (bnd (aCons (eVar 0) (aStar (eVar 1) (aNil))) fun ds => if ds.length ≤ 100000 then ret ds else bad))))
    (sSeq (sPar 3 4 (oVal (eIx (eVar 2) (eBin dFdiv (eBin dSub (eUn dLen (eVar 2)) (eInt 1)) (eInt 2)))) (oVal (eIx (eVar 2) (eBin dFdiv (eUn dLen (eVar 2)) (eInt 2)))))
    (sRet (oVal (eIf (tVal (eBin dLe (eUn dAbs (eBin dSub (eVar 0) (eVar 3))) (eUn dAbs (eBin dSub (eVar 0) (eVar 4))))) (eVar 3) (eVar 4)))))
noncomputable def f_middle_for : Fn := mkFn 5 2 b_middle_for
noncomputable def b_beside : M Flow := sRet (oComp [2, 3] (iSeq (eVar 0)) (gTup 2 (gCons (gVar 2) (gCons (gVar 3) (gNil)))) (tVal (eBin dIn (eVar 1) (eTup (bnd (aCons (eVar 2) (aCons (eVar 3) (aNil))) fun ds => if ds.length ≤ 100000 then ret ds else bad)))) (eIf (tVal (eBin dEq (eVar 2) (eVar 1))) (eVar 3) (eVar 2)))
noncomputable def f_beside : Fn := mkFn 4 2 b_beside
noncomputable def b_next_minds : M Flow := sRet (oVal (eUn dTupOf (eComp [2, 3] (iEnum (aCons (eVar 1) (aNil))) (gTup 2 (gCons (gVar 2) (gCons (gVar 3) (gNil)))) (Mnd.tYes) (eOf (callV f_middle_for id (aCons (eVar 3) (aCons (eComp [4] (iSeq (eOf (callV f_beside id (aCons (eVar 0) (aCons (eVar 2) (aNil)))))) (gVar 4) (Mnd.tYes) (eIx (eVar 1) (eVar 4))) (aNil))))))))
noncomputable def f_next_minds : Fn := mkFn 5 2 b_next_minds
noncomputable def b_common_below : M Flow := sSeq (sSet 1 (oVal (eInt 1)))
    (sSeq (sFor (iSeq (eVar 0)) (gVar 2)
    (sSet 1 (oVal (eBin dLcm (eVar 1) (eIx (eVar 2) (eInt 1))))))
    (sRet (oVar 1)))
noncomputable def f_common_below : Fn := mkFn 3 1 b_common_below
noncomputable def b_whole_of : M Flow := sRet (oVal (eBin dMul (eIx (eVar 0) (eInt 0)) (eBin dFdiv (eVar 1) (eIx (eVar 0) (eInt 1)))))
noncomputable def f_whole_of : Fn := mkFn 2 2 b_whole_of
noncomputable def b_whole_minds : M Flow := sSeq (sSet 1 (callV f_common_below id (aCons (eOf (oUn dLstOf (eVar 0))) (aNil))))
    (sRet (oVal (eTup (bnd (aCons (eUn dTupOf (eComp [2] (iSeq (eVar 0)) (gVar 2) (Mnd.tYes) (eOf (callV f_whole_of id (aCons (eVar 2) (aCons (eVar 1) (aNil))))))) (aCons (eVar 1) (aNil))) fun ds => if ds.length ≤ 100000 then ret ds else bad))))
noncomputable def f_whole_minds : Fn := mkFn 3 1 b_whole_minds
noncomputable def b_again_by : M Flow := sSeq (sPar 2 3 (oVal (eIx (eOf (callV f_whole_minds id (aCons (eVar 0) (aNil)))) (eInt 0))) (oDct))
    (sSeq (sWhile (tVal (eBin dNotInD (eVar 2) (eVar 3)))
    (sSeq (sPutD 3 (eVar 2) (eUn dLen (eVar 3)))
    (sSet 2 (callV f_next_minds id (aCons (eVar 1) (aCons (eVar 2) (aNil)))))))
    (sRet (oVal (eTup (bnd (aCons (eBin dDctGet (eVar 3) (eVar 2)) (aCons (eBin dSub (eUn dLen (eVar 3)) (eBin dDctGet (eVar 3) (eVar 2))) (aNil))) fun ds => if ds.length ≤ 100000 then ret ds else bad)))))
noncomputable def f_again_by : Fn := mkFn 4 2 b_again_by
noncomputable def b_again : M Flow := sSeq (sExpr (eOf (callV f_check_web id (aCons (eVar 0) (aCons (eVar 1) (aNil))))))
    (sRet (callV f_again_by id (aCons (eVar 0) (aCons (eVar 1) (aNil)))))
noncomputable def f_again : Fn := mkFn 2 2 b_again
noncomputable def b_check_number : M Flow := sIf (Mnd.tNot (tVal (eOf (callV f_is_between id (aCons (eVar 0) (aCons (eVar 1) (aCons (eVar 2) (aNil))))))))
    (bad) (sNil)
noncomputable def f_check_number : Fn := mkFn 3 3 b_check_number
noncomputable def b_check_many : M Flow := sExpr (eOf (callV f_check_number id (aCons (eVar 0) (aCons (eInt 0) (aCons (eC (.int 40)) (aNil))))))
noncomputable def f_check_many : Fn := mkFn 1 1 b_check_many
noncomputable def b_lowest : M Flow := sSeq (sSet 2 (oVal (eIf (tVal (eBin dGt (eVar 1) (eInt 0))) (eBin dGcd (eVar 0) (eVar 1)) (eUn dNeg (eBin dGcd (eVar 0) (eVar 1))))))
    (sRet (oVal (eTup (bnd (aCons (eBin dFdiv (eVar 0) (eVar 2)) (aCons (eBin dFdiv (eVar 1) (eVar 2)) (aNil))) fun ds => if ds.length ≤ 100000 then ret ds else bad))))
noncomputable def f_lowest : Fn := mkFn 3 2 b_lowest
noncomputable def b_middles_by : M Flow := sSeq (sAsg (eOf (callV f_whole_minds id (aCons (eVar 0) (aNil)))) (gTup 2 (gCons (gVar 4) (gCons (gVar 5) (gNil)))))
    (sSeq (sFor (iRange (bnd (aCons (eVar 2) (aNil)) fun ds => if ds.length = 1 then ret ds else bad)) (gVar 3)
    (sSet 4 (callV f_next_minds id (aCons (eVar 1) (aCons (eVar 4) (aNil))))))
    (sRet (oVal (eUn dTupOf (eComp [6] (iSeq (eVar 4)) (gVar 6) (Mnd.tYes) (eOf (callV f_lowest id (aCons (eVar 6) (aCons (eVar 5) (aNil))))))))))
noncomputable def f_middles_by : Fn := mkFn 7 3 b_middles_by
noncomputable def b_middles_after : M Flow := sSeq (sExpr (eOf (callV f_check_web id (aCons (eVar 0) (aCons (eVar 1) (aNil))))))
    (sSeq (sExpr (eOf (callV f_check_many id (aCons (eVar 2) (aNil)))))
    (sRet (callV f_middles_by id (aCons (eVar 0) (aCons (eVar 1) (aCons (eVar 2) (aNil)))))))
noncomputable def f_middles_after : Fn := mkFn 3 3 b_middles_after
noncomputable def b__law_right : M Flow := sSeq (sSet 1 (oVal (eBin dAdd (eInt 1) (eOf (callV f__law_draw id (aCons (eVar 0) (aCons (eInt 5) (aNil))))))))
    (sSeq (sSet 2 (oLst (bnd (aNil) fun ds => if ds.length ≤ 100000 then ret ds else bad)))
    (sSeq (sFor (iRange (bnd (aCons (eVar 1) (aNil)) fun ds => if ds.length = 1 then ret ds else bad)) (gVar 3)
    (sSet 2 (oBin dCatL (eVar 2) (eComp [9] (iRange (bnd (aCons (eBin dAdd (eVar 3) (eInt 1)) (aCons (eVar 1) (aNil))) fun ds => if ds.length = 2 then ret ds else bad)) (gVar 9) (Mnd.tYes) (eTup (bnd (aCons (eVar 3) (aCons (eVar 9) (aNil))) fun ds => if ds.length ≤ 100000 then ret ds else bad))))))
    (sSeq (sSet 4 (oVal (eIf (tVal (eBin dGt (eVar 1) (eInt 2))) (eUn dTupOf (eOf (oUn dSortP (eComp [3] (iRange (bnd (aCons (eVar 1) (aNil)) fun ds => if ds.length = 1 then ret ds else bad)) (gVar 3) (Mnd.tYes) (eUn dTupOf (eOf (oUn dSortT (eTup (bnd (aCons (eVar 3) (aCons (eBin dMod (eUn dInt (eBin dAdd (eVar 3) (eInt 1))) (eVar 1)) (aNil))) fun ds => if ds.length ≤ 100000 then ret ds else bad))))))))) (eTup (bnd (aNil) fun ds => if ds.length ≤ 100000 then ret ds else bad)))))
    (sSeq (sFor (iSeq (eTup (bnd (aCons (eOf (callV f__law_web id (aCons (eVar 0) (aCons (eVar 1) (aNil))))) (aCons (eOf (callV f__law_web id (aCons (eVar 0) (aCons (eVar 1) (aNil))))) (aCons (eVar 4) (aCons (eUn dTupOf (eVar 2)) (aCons (eTup (bnd (aNil) fun ds => if ds.length ≤ 100000 then ret ds else bad)) (aNil)))))) fun ds => if ds.length ≤ 100000 then ret ds else bad))) (gVar 5)
    (sSeq (sSet 6 (oVal (eUn dTupOf (eComp [10] (iRange (bnd (aCons (eVar 1) (aNil)) fun ds => if ds.length = 1 then ret ds else bad)) (gVar 10) (Mnd.tYes) (eOf (callV f__law_mind id (aCons (eVar 0) (aNil))))))))
    (sSeq (sSet 7 (callV f__law_again id (aCons (eVar 6) (aCons (eVar 5) (aNil)))))
    (sSeq (sIf (Mnd.tNot (tVal (eOf (callV f__law_same id (aCons (eTup (bnd (aCons (eOf (callV f_again id (aCons (eVar 6) (aCons (eVar 5) (aNil))))) (aCons (eOf (callV f_again (pmI [1, 0]) (aCons (eVar 5) (aCons (eVar 6) (aNil))))) (aNil))) fun ds => if ds.length ≤ 100000 then ret ds else bad)) (aCons (eTup (bnd (aCons (eVar 7) (aCons (eVar 7) (aNil))) fun ds => if ds.length ≤ 100000 then ret ds else bad)) (aNil)))))))
    (sRet (oVal (eC (.bl false)))) (sNil))
    (sSeq (sSet 8 (oComp [3] (iRange (bnd (aCons (eVar 1) (aNil)) fun ds => if ds.length = 1 then ret ds else bad)) (gVar 3) (tVal (eBin dEq (eBin dMod (eUn dInt (eUn dLen (eComp [11] (iSeq (eVar 5)) (gVar 11) (tVal (eBin dIn (eVar 3) (eVar 11))) (eVar 11)))) (eInt 2)) (eInt 1))) (eVar 3)))
    (sSeq (sIf (Mnd.tOr (Mnd.tAnd (tVal (eBin dEq (eVar 8) (eLst (bnd (aNil) fun ds => if ds.length ≤ 100000 then ret ds else bad)))) (tVal (eBin dGt (eIx (eVar 7) (eInt 1)) (eInt 2)))) (Mnd.tAnd (tVal (eBin dEq (eVar 5) (eTup (bnd (aNil) fun ds => if ds.length ≤ 100000 then ret ds else bad)))) (tVal (eBin dNe (eVar 7) (eTup (bnd (aCons (eInt 0) (aCons (eInt 1) (aNil))) fun ds => if ds.length ≤ 100000 then ret ds else bad))))))
    (sRet (oVal (eC (.bl false)))) (sNil))
    (sIf (Mnd.tAnd (Mnd.tNot (tVal (eOf (callV f__law_same id (aCons (eOf (callV f_middles_after id (aCons (eVar 6) (aCons (eVar 5) (aCons (eBin dMin (eInt 40) (eBin dAdd (eIx (eVar 7) (eInt 0)) (eIx (eVar 7) (eInt 1)))) (aNil)))))) (aCons (eOf (callV f_middles_after id (aCons (eVar 6) (aCons (eVar 5) (aCons (eBin dMin (eInt 40) (eIx (eVar 7) (eInt 0))) (aNil)))))) (aNil))))))) (tVal (eBin dLt (eUn dSumA (eVar 7)) (eInt 41))))
    (sRet (oVal (eC (.bl false)))) (sNil))))))))
    (sRet (oVal (eC (.bl true))))))))
noncomputable def f__law_right : Fn := mkFn 12 1 b__law_right
noncomputable def b_law : M Flow := sSeq (sSet 1 (oComp [2] (iRange (bnd (aCons (eBin dMax (eInt 1) (eBin dMin (eUn dLen (eVar 0)) (eInt 3))) (aNil)) fun ds => if ds.length = 1 then ret ds else bad)) (gVar 2) (Mnd.tYes) (eRef (callV f__law_well id (aCons (eVar 0) (aCons (eVar 2) (aNil)))))))
    (sRet (oVal (eUn dAll (eComp [2] (iRange (bnd (aCons (eInt 10) (aNil)) fun ds => if ds.length = 1 then ret ds else bad)) (gVar 2) (Mnd.tYes) (eOf (callV f__law_right id (aCons (eIx (eVar 1) (eBin dMod (eUn dInt (eVar 2)) (eUn dLen (eVar 1)))) (aNil))))))))
noncomputable def f_law : Fn := mkFn 3 1 b_law
/-! ### what is known of the module -/
structure Kn (Γ : Cg) : Prop where
  free : ∀ x : Str, x ∈ (["abs", "all", "bool", "dict", "divmod", "enumerate", "int", "isinstance", "len", "list", "max", "min", "range", "sorted", "str", "sum", "tuple"] : List Str) → Γ.mg x = none
  kc : Γ.kc = false
  g_MOST_BEATS : GlobD Γ "MOST_BEATS" (.int 40)
  g_MOST_PEOPLE : GlobD Γ "MOST_PEOPLE" (.int 5)
  g_gcd : Γ.mg "gcd" = some (.builtin "math.gcd")
  g_lcm : Γ.mg "lcm" = some (.builtin "math.lcm")
/-! ### each def does so -/
section
variable {Γ : Cg}
theorem sb__law_well (C : Kn Γ) {qu : Str} {cd : Value} (h0 : Heap) (H0 : Hp) : SB Γ ⟨["script", "lap", "stirred", "cell", "own"], (defScope (top 41)).names, 0, true, fun _ => true, h0, H0, qu, cd⟩ (defBody (top 41)) b__law_well := by
  unfold b__law_well
  exact sb_cons (ss_set (i := 2) rfl (by kernel_rfl) rfl (so_val (se_add (se_int) (se_mul (se_int) (se_var (x := "lap") (i := 1) rfl (by kernel_rfl))))))
    (sb_cons (ss_for rfl (si_seq (se_cut (se_var (x := "script") (i := 0) rfl (by kernel_rfl)) (sp_none) (sp_some (se_int)))) (sg_var (i := 3) rfl (by kernel_rfl) (by first | exact .inl rfl | exact .inr (by kernel_rfl)))
    (sb_one (ss_set (i := 2) rfl (by kernel_rfl) rfl (so_val (se_mod (se_intf ⟨(by kernel_rfl), C.free "int" (by decide +kernel)⟩ (se_add (se_add (se_mul (se_var (x := "stirred") (i := 2) rfl (by kernel_rfl)) (se_int)) (se_mod (se_intf ⟨(by kernel_rfl), C.free "int" (by decide +kernel)⟩ (se_var (x := "cell") (i := 3) rfl (by kernel_rfl))) (se_int))) (se_int))) (se_int))))))
    (sb_cons (ss_set (i := 4) rfl (by kernel_rfl) rfl (so_val (se_if (st_lt (se_var (x := "lap") (i := 1) rfl (by kernel_rfl)) (se_len ⟨(by kernel_rfl), C.free "len" (by decide +kernel)⟩ (se_var (x := "script") (i := 0) rfl (by kernel_rfl)))) (se_intf ⟨(by kernel_rfl), C.free "int" (by decide +kernel)⟩ (se_ix (se_var (x := "script") (i := 0) rfl (by kernel_rfl)) (se_var (x := "lap") (i := 1) rfl (by kernel_rfl)))) (se_int))))
    (sb_cons (ss_set (i := 2) rfl (by kernel_rfl) rfl (so_val (se_mod (se_intf ⟨(by kernel_rfl), C.free "int" (by decide +kernel)⟩ (se_add (se_add (se_mul (se_var (x := "stirred") (i := 2) rfl (by kernel_rfl)) (se_int)) (se_mul (se_mod (se_intf ⟨(by kernel_rfl), C.free "int" (by decide +kernel)⟩ (se_var (x := "own") (i := 4) rfl (by kernel_rfl))) (se_int)) (se_int))) (se_int))) (se_int))))
    (sb_one (ss_ret (so_lst (sa_cons (se_if (st_of (sw_or (st_lt (se_var (x := "own") (i := 4) rfl (by kernel_rfl)) (se_int)) (sw_or1 (st_ge (se_var (x := "own") (i := 4) rfl (by kernel_rfl)) (se_pow (se_int) (se_int)))))) (se_abs ⟨(by kernel_rfl), C.free "abs" (by decide +kernel)⟩ (se_var (x := "own") (i := 4) rfl (by kernel_rfl))) (se_int)) (sa_cons (se_var (x := "stirred") (i := 2) rfl (by kernel_rfl)) (sa_cons (se_int) (sa_nil))))))))))
theorem sb__law_draw (C : Kn Γ) {qu : Str} {cd : Value} (h0 : Heap) (H0 : Hp) : SB Γ ⟨["well", "limit", "mixed", "figure"], (defScope (top 42)).names, 0, true, fun _ => true, h0, H0, qu, cd⟩ (defBody (top 42)) b__law_draw := by
  unfold b__law_draw
  exact sb_cons (ss_if (st_gt (se_ix (se_var (x := "well") (i := 0) rfl (by kernel_rfl)) (se_int)) (se_int))
    (sb_cons (ss_asg (se_divmod ⟨(by kernel_rfl), C.free "divmod" (by decide +kernel)⟩ (se_ix (se_var (x := "well") (i := 0) rfl (by kernel_rfl)) (se_int)) (se_var (x := "limit") (i := 1) rfl (by kernel_rfl))) (sg_tup (sgs_cons (sg_ix (i := 0) (se_var (x := "well") rfl (by kernel_rfl)) (se_int)) (sgs_cons (sg_var (i := 3) rfl (by kernel_rfl) (by first | exact .inl rfl | exact .inr (by kernel_rfl))) (sgs_nil))) rfl))
    (sb_one (ss_retV (x := "figure") (i := 3) rfl (by kernel_rfl)))) (sb_nil))
    (sb_cons (ss_asg (se_add (se_ix (se_var (x := "well") (i := 0) rfl (by kernel_rfl)) (se_int)) (se_int)) (sg_ix (i := 0) (se_var (x := "well") rfl (by kernel_rfl)) (se_int)))
    (sb_cons (ss_set (i := 2) rfl (by kernel_rfl) rfl (so_val (se_mod (se_intf ⟨(by kernel_rfl), C.free "int" (by decide +kernel)⟩ (se_add (se_add (se_mul (se_ix (se_var (x := "well") (i := 0) rfl (by kernel_rfl)) (se_int)) (se_int)) (se_mul (se_int) (se_ix (se_var (x := "well") (i := 0) rfl (by kernel_rfl)) (se_int)))) (se_int))) (se_int))))
    (sb_cons (ss_asg (se_mod (se_intf ⟨(by kernel_rfl), C.free "int" (by decide +kernel)⟩ (se_add (se_mul (se_var (x := "mixed") (i := 2) rfl (by kernel_rfl)) (se_add (se_mod (se_intf ⟨(by kernel_rfl), C.free "int" (by decide +kernel)⟩ (se_var (x := "mixed") (i := 2) rfl (by kernel_rfl))) (se_int)) (se_int))) (se_ix (se_var (x := "well") (i := 0) rfl (by kernel_rfl)) (se_int)))) (se_int)) (sg_ix (i := 0) (se_var (x := "well") rfl (by kernel_rfl)) (se_int)))
    (sb_one (ss_ret (so_val (se_mod (se_intf ⟨(by kernel_rfl), C.free "int" (by decide +kernel)⟩ (se_fdiv (se_ix (se_var (x := "well") (i := 0) rfl (by kernel_rfl)) (se_int)) (se_int))) (se_var (x := "limit") (i := 1) rfl (by kernel_rfl)))))))))
theorem sb__law_of (C : Kn Γ) (D__law_draw : DefOk Γ "_law_draw" f__law_draw ["well", "limit"] 1) {qu : Str} {cd : Value} (h0 : Heap) (H0 : Hp) : SB Γ ⟨["well", "some"], (defScope (top 43)).names, 1, true, fun _ => true, h0, H0, qu, cd⟩ (defBody (top 43)) b__law_of := by
  unfold b__law_of
  exact sb_one (ss_ret (so_val (se_ix (se_var (x := "some") (i := 1) rfl (by kernel_rfl)) (se_of (c_v D__law_draw (by kernel_rfl) (Nat.le_of_ble_eq_true rfl) (sa_cons (se_var (x := "well") (i := 0) rfl (by kernel_rfl)) (sa_cons (se_len ⟨(by kernel_rfl), C.free "len" (by decide +kernel)⟩ (se_var (x := "some") (i := 1) rfl (by kernel_rfl))) (sa_nil))))))))
theorem sb__law_web (C : Kn Γ) (D__law_of : DefOk Γ "_law_of" f__law_of ["well", "some"] 2) (D__law_draw : DefOk Γ "_law_draw" f__law_draw ["well", "limit"] 1) {qu : Str} {cd : Value} (h0 : Heap) (H0 : Hp) : SB Γ ⟨["well", "many", "k", "often", "found", "j"], (defScope (top 51)).names, 2, true, fun _ => true, h0, H0, qu, cd⟩ (defBody (top 51)) b__law_web := by
  unfold b__law_web
  exact sb_cons (ss_asgN (se_tup (sa_cons (se_of (c_v D__law_of (by kernel_rfl) (Nat.le_of_ble_eq_true rfl) (sa_cons (se_var (x := "well") (i := 0) rfl (by kernel_rfl)) (sa_cons (se_tup (sa_cons (se_int) (sa_cons (se_int) (sa_cons (se_int) (sa_cons (se_int) (sa_nil)))))) (sa_nil))))) (sa_cons (se_lst (sa_nil)) (sa_nil)))) (sg_tup (sgs_cons (sg_var (i := 3) rfl (by kernel_rfl) (by first | exact .inl rfl | exact .inr (by kernel_rfl))) (sgs_cons (sg_var (i := 4) rfl (by kernel_rfl) (by first | exact .inl rfl | exact .inr (by kernel_rfl))) (sgs_nil))) rfl) (swapCell (.inl (by kernel_rfl))))
    (sb_cons (ss_for rfl (si_range1 ⟨(by kernel_rfl), C.free "range" (by decide +kernel)⟩ (sa_cons (se_var (x := "many") (i := 1) rfl (by kernel_rfl)) (sa_nil))) (sg_var (i := 2) rfl (by kernel_rfl) (by first | exact .inl rfl | exact .inr (by kernel_rfl)))
    (sb_one (ss_set (i := 4) rfl (by kernel_rfl) rfl (so_cat (se_var (x := "found") (i := 4) rfl (by kernel_rfl)) (se_comp (own := [("j", 5)]) (by kernel_rfl) (si_range2 ⟨(by kernel_rfl), C.free "range" (by decide +kernel)⟩ (sa_cons (se_add (se_var (x := "k") (i := 2) rfl (by kernel_rfl)) (se_int)) (sa_cons (se_var (x := "many") (i := 1) rfl (by kernel_rfl)) (sa_nil)))) (sg_var (i := 5) rfl (by kernel_rfl) (by first | exact .inl rfl | exact .inr (by kernel_rfl))) (by decide) (sf_one (st_lt (se_of (c_v D__law_draw (by kernel_rfl) (Nat.le_of_ble_eq_true rfl) (sa_cons (se_var (x := "well") (i := 0) rfl (by kernel_rfl)) (sa_cons (se_int) (sa_nil))))) (se_var (x := "often") (i := 3) rfl (by kernel_rfl)))) (se_tup (sa_cons (se_var (x := "k") (i := 2) rfl (by kernel_rfl)) (sa_cons (se_var (x := "j") (i := 5) rfl (by kernel_rfl)) (sa_nil)))))))))
    (sb_one (ss_ret (so_val (se_tuple ⟨(by kernel_rfl), C.free "tuple" (by decide +kernel)⟩ (se_var (x := "found") (i := 4) rfl (by kernel_rfl)))))))
theorem sb__law_upto (C : Kn Γ) {qu : Str} {cd : Value} (h0 : Heap) (H0 : Hp) : SB Γ ⟨["a", "b"], (defScope (top 49)).names, 0, true, fun _ => true, h0, H0, qu, cd⟩ (defBody (top 49)) b__law_upto := by
  unfold b__law_upto
  exact sb_one (ss_ret (so_val (se_le (se_mul (se_ix (se_var (x := "a") (i := 0) rfl (by kernel_rfl)) (se_int)) (se_ix (se_var (x := "b") (i := 1) rfl (by kernel_rfl)) (se_int))) (se_mul (se_ix (se_var (x := "b") (i := 1) rfl (by kernel_rfl)) (se_int)) (se_ix (se_var (x := "a") (i := 0) rfl (by kernel_rfl)) (se_int))))))
theorem sb__law_ascending (C : Kn Γ) (D__law_upto : DefOk Γ "_law_upto" f__law_upto ["a", "b"] 1) {qu : Str} {cd : Value} (h0 : Heap) (H0 : Hp) : SB Γ ⟨["values", "found", "value", "at", "each"], (defScope (top 52)).names, 1, true, fun _ => true, h0, H0, qu, cd⟩ (defBody (top 52)) b__law_ascending := by
  unfold b__law_ascending
  exact sb_cons (ss_set (i := 1) rfl (by kernel_rfl) rfl (so_lst (sa_nil)))
    (sb_cons (ss_for rfl (si_seq (se_var (x := "values") (i := 0) rfl (by kernel_rfl))) (sg_var (i := 2) rfl (by kernel_rfl) (by first | exact .inl rfl | exact .inr (by kernel_rfl)))
    (sb_cons (ss_set (i := 3) rfl (by kernel_rfl) rfl (so_val (se_len ⟨(by kernel_rfl), C.free "len" (by decide +kernel)⟩ (se_comp (own := [("each", 4)]) (by kernel_rfl) (si_seq (se_var (x := "found") (i := 1) rfl (by kernel_rfl))) (sg_var (i := 4) rfl (by kernel_rfl) (by first | exact .inl rfl | exact .inr (by kernel_rfl))) (by decide) (sf_one (st_val (se_of (c_v D__law_upto (by kernel_rfl) (Nat.le_of_ble_eq_true rfl) (sa_cons (se_var (x := "each") (i := 4) rfl (by kernel_rfl)) (sa_cons (se_var (x := "value") (i := 2) rfl (by kernel_rfl)) (sa_nil))))))) (se_var (x := "each") (i := 4) rfl (by kernel_rfl))))))
    (sb_one (ss_set (i := 1) rfl (by kernel_rfl) rfl (so_val (se_add (se_add (se_cut (se_var (x := "found") (i := 1) rfl (by kernel_rfl)) (sp_none) (sp_some (se_var (x := "at") (i := 3) rfl (by kernel_rfl)))) (se_lst (sa_cons (se_var (x := "value") (i := 2) rfl (by kernel_rfl)) (sa_nil)))) (se_cut (se_var (x := "found") (i := 1) rfl (by kernel_rfl)) (sp_some (se_var (x := "at") (i := 3) rfl (by kernel_rfl))) (sp_none))))))))
    (sb_one (ss_retV (x := "found") (i := 1) rfl (by kernel_rfl))))
theorem sb__law_divisor (C : Kn Γ) {qu : Str} {cd : Value} (h0 : Heap) (H0 : Hp) : SB Γ ⟨["one", "two"], (defScope (top 45)).names, 0, true, fun _ => true, h0, H0, qu, cd⟩ (defBody (top 45)) b__law_divisor := by
  unfold b__law_divisor
  exact sb_cons (ss_while rfl (st_gt (se_var (x := "two") (i := 1) rfl (by kernel_rfl)) (se_int))
    (sb_one (ss_par (i := 0) (j := 1) rfl rfl (by decide) (by kernel_rfl) (by kernel_rfl) (so_val (se_var (x := "two") (i := 1) rfl (by kernel_rfl))) (so_val (se_mod (se_intf ⟨(by kernel_rfl), C.free "int" (by decide +kernel)⟩ (se_var (x := "one") (i := 0) rfl (by kernel_rfl))) (se_var (x := "two") (i := 1) rfl (by kernel_rfl)))) (swap2 (by kernel_rfl) (by kernel_rfl) rfl rfl (by kernel_rfl) (by kernel_rfl)))))
    (sb_one (ss_retV (x := "one") (i := 0) rfl (by kernel_rfl)))
theorem sb__law_frac (C : Kn Γ) (D__law_divisor : DefOk Γ "_law_divisor" f__law_divisor ["one", "two"] 1) {qu : Str} {cd : Value} (h0 : Heap) (H0 : Hp) : SB Γ ⟨["n", "m", "by"], (defScope (top 46)).names, 1, true, fun _ => true, h0, H0, qu, cd⟩ (defBody (top 46)) b__law_frac := by
  unfold b__law_frac
  exact sb_cons (ss_set (i := 2) rfl (by kernel_rfl) rfl (c_v D__law_divisor (by kernel_rfl) (Nat.le_of_ble_eq_true rfl) (sa_cons (se_abs ⟨(by kernel_rfl), C.free "abs" (by decide +kernel)⟩ (se_var (x := "n") (i := 0) rfl (by kernel_rfl))) (sa_cons (se_var (x := "m") (i := 1) rfl (by kernel_rfl)) (sa_nil)))))
    (sb_one (ss_ret (so_val (se_tup (sa_cons (se_fdiv (se_var (x := "n") (i := 0) rfl (by kernel_rfl)) (se_var (x := "by") (i := 2) rfl (by kernel_rfl))) (sa_cons (se_fdiv (se_var (x := "m") (i := 1) rfl (by kernel_rfl)) (se_var (x := "by") (i := 2) rfl (by kernel_rfl))) (sa_nil)))))))
theorem sb__law_add (C : Kn Γ) (D__law_frac : DefOk Γ "_law_frac" f__law_frac ["n", "m"] 2) {qu : Str} {cd : Value} (h0 : Heap) (H0 : Hp) : SB Γ ⟨["a", "b"], (defScope (top 47)).names, 2, true, fun _ => true, h0, H0, qu, cd⟩ (defBody (top 47)) b__law_add := by
  unfold b__law_add
  exact sb_one (ss_ret (c_v D__law_frac (by kernel_rfl) (Nat.le_of_ble_eq_true rfl) (sa_cons (se_add (se_mul (se_ix (se_var (x := "a") (i := 0) rfl (by kernel_rfl)) (se_int)) (se_ix (se_var (x := "b") (i := 1) rfl (by kernel_rfl)) (se_int))) (se_mul (se_ix (se_var (x := "b") (i := 1) rfl (by kernel_rfl)) (se_int)) (se_ix (se_var (x := "a") (i := 0) rfl (by kernel_rfl)) (se_int)))) (sa_cons (se_mul (se_ix (se_var (x := "a") (i := 0) rfl (by kernel_rfl)) (se_int)) (se_ix (se_var (x := "b") (i := 1) rfl (by kernel_rfl)) (se_int))) (sa_nil)))))
theorem sb__law_less (C : Kn Γ) {qu : Str} {cd : Value} (h0 : Heap) (H0 : Hp) : SB Γ ⟨["a"], (defScope (top 48)).names, 0, true, fun _ => true, h0, H0, qu, cd⟩ (defBody (top 48)) b__law_less := by
  unfold b__law_less
  exact sb_one (ss_ret (so_val (se_tup (sa_cons (se_sub (se_int) (se_ix (se_var (x := "a") (i := 0) rfl (by kernel_rfl)) (se_int))) (sa_cons (se_ix (se_var (x := "a") (i := 0) rfl (by kernel_rfl)) (se_int)) (sa_nil))))))
theorem sb__law_far (C : Kn Γ) (D__law_add : DefOk Γ "_law_add" f__law_add ["a", "b"] 3) (D__law_less : DefOk Γ "_law_less" f__law_less ["a"] 1) {qu : Str} {cd : Value} (h0 : Heap) (H0 : Hp) : SB Γ ⟨["one", "two", "gap"], (defScope (top 53)).names, 3, true, fun _ => true, h0, H0, qu, cd⟩ (defBody (top 53)) b__law_far := by
  unfold b__law_far
  exact sb_cons (ss_set (i := 2) rfl (by kernel_rfl) rfl (c_v D__law_add (by kernel_rfl) (Nat.le_of_ble_eq_true rfl) (sa_cons (se_var (x := "one") (i := 0) rfl (by kernel_rfl)) (sa_cons (se_of (c_v D__law_less (by kernel_rfl) (Nat.le_of_ble_eq_true rfl) (sa_cons (se_var (x := "two") (i := 1) rfl (by kernel_rfl)) (sa_nil)))) (sa_nil)))))
    (sb_one (ss_ret (so_val (se_tup (sa_cons (se_abs ⟨(by kernel_rfl), C.free "abs" (by decide +kernel)⟩ (se_ix (se_var (x := "gap") (i := 2) rfl (by kernel_rfl)) (se_int))) (sa_cons (se_ix (se_var (x := "gap") (i := 2) rfl (by kernel_rfl)) (se_int)) (sa_nil)))))))
theorem sb__law_middles (C : Kn Γ) (D__law_ascending : DefOk Γ "_law_ascending" f__law_ascending ["values"] 2) (D__law_upto : DefOk Γ "_law_upto" f__law_upto ["a", "b"] 1) (D__law_far : DefOk Γ "_law_far" f__law_far ["one", "two"] 4) {qu : Str} {cd : Value} (h0 : Heap) (H0 : Hp) : SB Γ ⟨["minds", "web", "found", "k", "seen", "order", "low", "high", "j"], (defScope (top 54)).names, 4, true, fun _ => true, h0, H0, qu, cd⟩ (defBody (top 54)) b__law_middles := by
  unfold b__law_middles
  exact sb_cons (ss_set (i := 2) rfl (by kernel_rfl) rfl (so_lst (sa_nil)))
    (sb_cons (ss_for rfl (si_range1 ⟨(by kernel_rfl), C.free "range" (by decide +kernel)⟩ (sa_cons (se_len ⟨(by kernel_rfl), C.free "len" (by decide +kernel)⟩ (se_var (x := "minds") (i := 0) rfl (by kernel_rfl))) (sa_nil))) (sg_var (i := 3) rfl (by kernel_rfl) (by first | exact .inl rfl | exact .inr (by kernel_rfl)))
    (sb_cons (ss_set (i := 4) rfl (by kernel_rfl) rfl (so_cat (se_lst (sa_cons (se_ix (se_var (x := "minds") (i := 0) rfl (by kernel_rfl)) (se_var (x := "k") (i := 3) rfl (by kernel_rfl))) (sa_nil))) (se_comp (own := [("j", 8)]) (by kernel_rfl) (si_range1 ⟨(by kernel_rfl), C.free "range" (by decide +kernel)⟩ (sa_cons (se_len ⟨(by kernel_rfl), C.free "len" (by decide +kernel)⟩ (se_var (x := "minds") (i := 0) rfl (by kernel_rfl))) (sa_nil))) (sg_var (i := 8) rfl (by kernel_rfl) (by first | exact .inl rfl | exact .inr (by kernel_rfl))) (by decide) (sf_one (st_in (se_tup (sa_cons (se_min ⟨(by kernel_rfl), C.free "min" (by decide +kernel)⟩ (se_var (x := "j") (i := 8) rfl (by kernel_rfl)) (se_var (x := "k") (i := 3) rfl (by kernel_rfl))) (sa_cons (se_max ⟨(by kernel_rfl), C.free "max" (by decide +kernel)⟩ (se_var (x := "j") (i := 8) rfl (by kernel_rfl)) (se_var (x := "k") (i := 3) rfl (by kernel_rfl))) (sa_nil)))) (se_var (x := "web") (i := 1) rfl (by kernel_rfl)))) (se_ix (se_var (x := "minds") (i := 0) rfl (by kernel_rfl)) (se_var (x := "j") (i := 8) rfl (by kernel_rfl))))))
    (sb_cons (ss_set (i := 5) rfl (by kernel_rfl) rfl (c_v D__law_ascending (by kernel_rfl) (Nat.le_of_ble_eq_true rfl) (sa_cons (se_var (x := "seen") (i := 4) rfl (by kernel_rfl)) (sa_nil))))
    (sb_cons (ss_par (i := 6) (j := 7) rfl rfl (by decide) (by kernel_rfl) (by kernel_rfl) (so_val (se_ix (se_var (x := "order") (i := 5) rfl (by kernel_rfl)) (se_fdiv (se_sub (se_len ⟨(by kernel_rfl), C.free "len" (by decide +kernel)⟩ (se_var (x := "order") (i := 5) rfl (by kernel_rfl))) (se_int)) (se_int)))) (so_val (se_ix (se_var (x := "order") (i := 5) rfl (by kernel_rfl)) (se_fdiv (se_len ⟨(by kernel_rfl), C.free "len" (by decide +kernel)⟩ (se_var (x := "order") (i := 5) rfl (by kernel_rfl))) (se_int)))) (swap2 (by kernel_rfl) (by kernel_rfl) rfl rfl (by kernel_rfl) (by kernel_rfl)))
    (sb_one (ss_append (x := "found") (i := 2) rfl (by kernel_rfl) (se_if (st_val (se_of (c_v D__law_upto (by kernel_rfl) (Nat.le_of_ble_eq_true rfl) (sa_cons (se_of (c_v D__law_far (by kernel_rfl) (Nat.le_of_ble_eq_true rfl) (sa_cons (se_var (x := "low") (i := 6) rfl (by kernel_rfl)) (sa_cons (se_ix (se_var (x := "minds") (i := 0) rfl (by kernel_rfl)) (se_var (x := "k") (i := 3) rfl (by kernel_rfl))) (sa_nil))))) (sa_cons (se_of (c_v D__law_far (by kernel_rfl) (Nat.le_of_ble_eq_true rfl) (sa_cons (se_var (x := "high") (i := 7) rfl (by kernel_rfl)) (sa_cons (se_ix (se_var (x := "minds") (i := 0) rfl (by kernel_rfl)) (se_var (x := "k") (i := 3) rfl (by kernel_rfl))) (sa_nil))))) (sa_nil)))))) (se_var (x := "low") (i := 6) rfl (by kernel_rfl)) (se_var (x := "high") (i := 7) rfl (by kernel_rfl)))))))))
    (sb_one (ss_ret (so_val (se_tuple ⟨(by kernel_rfl), C.free "tuple" (by decide +kernel)⟩ (se_var (x := "found") (i := 2) rfl (by kernel_rfl)))))))
theorem sb__law_again (C : Kn Γ) (D__law_middles : DefOk Γ "_law_middles" f__law_middles ["minds", "web"] 5) {qu : Str} {cd : Value} (h0 : Heap) (H0 : Hp) : SB Γ ⟨["minds", "web", "rows", "lap", "then"], (defScope (top 55)).names, 5, true, fun _ => true, h0, H0, qu, cd⟩ (defBody (top 55)) b__law_again := by
  unfold b__law_again
  exact sb_cons (ss_set (i := 2) rfl (by kernel_rfl) rfl (so_lst (sa_cons (se_var (x := "minds") (i := 0) rfl (by kernel_rfl)) (sa_nil))))
    (sb_cons (ss_for rfl (si_range1 ⟨(by kernel_rfl), C.free "range" (by decide +kernel)⟩ (sa_cons (se_int) (sa_nil))) (sg_var (i := 3) rfl (by kernel_rfl) (by first | exact .inl rfl | exact .inr (by kernel_rfl)))
    (sb_cons (ss_set (i := 4) rfl (by kernel_rfl) rfl (c_v D__law_middles (by kernel_rfl) (Nat.le_of_ble_eq_true rfl) (sa_cons (se_ix (se_var (x := "rows") (i := 2) rfl (by kernel_rfl)) (se_neg (se_int))) (sa_cons (se_var (x := "web") (i := 1) rfl (by kernel_rfl)) (sa_nil)))))
    (sb_cons (ss_if (st_in (se_var (x := "then") (i := 4) rfl (by kernel_rfl)) (se_var (x := "rows") (i := 2) rfl (by kernel_rfl)))
    (sb_one (ss_ret (so_val (se_tup (sa_cons (se_index (se_var (x := "rows") (i := 2) rfl (by kernel_rfl)) (se_var (x := "then") (i := 4) rfl (by kernel_rfl))) (sa_cons (se_sub (se_len ⟨(by kernel_rfl), C.free "len" (by decide +kernel)⟩ (se_var (x := "rows") (i := 2) rfl (by kernel_rfl))) (se_index (se_var (x := "rows") (i := 2) rfl (by kernel_rfl)) (se_var (x := "then") (i := 4) rfl (by kernel_rfl)))) (sa_nil))))))) (sb_nil))
    (sb_one (ss_append (x := "rows") (i := 2) rfl (by kernel_rfl) (se_var (x := "then") (i := 4) rfl (by kernel_rfl)))))))
    (sb_one (ss_ret (so_val (se_non)))))
theorem sb__law_same (C : Kn Γ) {rec : Fn} {kr kk : Nat} (D_rec : DefOk Γ "_law_same" rec ["one", "two"] kr) (hkk : kr ≤ kk) {qu : Str} {cd : Value} (h0 : Heap) (H0 : Hp) : SB Γ ⟨["one", "two", "alike", "k"], (defScope (top 44)).names, kk, true, fun _ => true, h0, H0, qu, cd⟩ (defBody (top 44)) (b__law_same rec) := by
  unfold b__law_same
  exact sb_cons (ss_if (st_val (se_isB (t := .tuple) ⟨(by kernel_rfl), C.free "isinstance" (by decide +kernel)⟩ ⟨(by kernel_rfl), C.free "tuple" (by decide +kernel)⟩ rfl (by rfl) (se_var (x := "two") (i := 1) rfl (by kernel_rfl)) (by decide +kernel) (by decide +kernel)))
    (sb_cons (ss_if (st_of (sw_or (st_not (st_val (se_isB (t := .tuple) ⟨(by kernel_rfl), C.free "isinstance" (by decide +kernel)⟩ ⟨(by kernel_rfl), C.free "tuple" (by decide +kernel)⟩ rfl (by rfl) (se_var (x := "one") (i := 0) rfl (by kernel_rfl)) (by decide +kernel) (by decide +kernel)))) (sw_or1 (st_ne (se_len ⟨(by kernel_rfl), C.free "len" (by decide +kernel)⟩ (se_var (x := "one") (i := 0) rfl (by kernel_rfl))) (se_len ⟨(by kernel_rfl), C.free "len" (by decide +kernel)⟩ (se_var (x := "two") (i := 1) rfl (by kernel_rfl)))))))
    (sb_one (ss_ret (so_val (se_bl)))) (sb_nil))
    (sb_one (ss_ret (so_val (se_all ⟨(by kernel_rfl), C.free "all" (by decide +kernel)⟩ (se_comp (own := [("k", 3)]) (by kernel_rfl) (si_range1 ⟨(by kernel_rfl), C.free "range" (by decide +kernel)⟩ (sa_cons (se_len ⟨(by kernel_rfl), C.free "len" (by decide +kernel)⟩ (se_var (x := "two") (i := 1) rfl (by kernel_rfl))) (sa_nil))) (sg_var (i := 3) rfl (by kernel_rfl) (by first | exact .inl rfl | exact .inr (by kernel_rfl))) (by decide) (sf_nil) (se_of (c_v D_rec (by kernel_rfl) hkk (sa_cons (se_ix (se_var (x := "one") (i := 0) rfl (by kernel_rfl)) (se_var (x := "k") (i := 3) rfl (by kernel_rfl))) (sa_cons (se_ix (se_var (x := "two") (i := 1) rfl (by kernel_rfl)) (se_var (x := "k") (i := 3) rfl (by kernel_rfl))) (sa_nil))))))))))) (sb_nil))
    (sb_cons (ss_if (st_val (se_isB (t := .bool) ⟨(by kernel_rfl), C.free "isinstance" (by decide +kernel)⟩ ⟨(by kernel_rfl), C.free "bool" (by decide +kernel)⟩ rfl (by rfl) (se_var (x := "two") (i := 1) rfl (by kernel_rfl)) (by decide +kernel) (by decide +kernel)))
    (sb_one (ss_ret (so_val (se_and (se_isB (t := .bool) ⟨(by kernel_rfl), C.free "isinstance" (by decide +kernel)⟩ ⟨(by kernel_rfl), C.free "bool" (by decide +kernel)⟩ rfl (by rfl) (se_var (x := "one") (i := 0) rfl (by kernel_rfl)) (by decide +kernel) (by decide +kernel)) (se_one (se_eq (se_var (x := "one") (i := 0) rfl (by kernel_rfl)) (se_var (x := "two") (i := 1) rfl (by kernel_rfl)))))))) (sb_nil))
    (sb_cons (ss_if (st_val (se_isB (t := .int) ⟨(by kernel_rfl), C.free "isinstance" (by decide +kernel)⟩ ⟨(by kernel_rfl), C.free "int" (by decide +kernel)⟩ rfl (by rfl) (se_var (x := "two") (i := 1) rfl (by kernel_rfl)) (by decide +kernel) (by decide +kernel)))
    (sb_one (ss_ret (so_val (se_and (se_isB (t := .int) ⟨(by kernel_rfl), C.free "isinstance" (by decide +kernel)⟩ ⟨(by kernel_rfl), C.free "int" (by decide +kernel)⟩ rfl (by rfl) (se_var (x := "one") (i := 0) rfl (by kernel_rfl)) (by decide +kernel) (by decide +kernel)) (se_and (se_not (se_isB (t := .bool) ⟨(by kernel_rfl), C.free "isinstance" (by decide +kernel)⟩ ⟨(by kernel_rfl), C.free "bool" (by decide +kernel)⟩ rfl (by rfl) (se_var (x := "one") (i := 0) rfl (by kernel_rfl)) (by decide +kernel) (by decide +kernel))) (se_one (se_eq (se_var (x := "one") (i := 0) rfl (by kernel_rfl)) (se_var (x := "two") (i := 1) rfl (by kernel_rfl))))))))) (sb_nil))
    (sb_cons (ss_if (st_val (se_isB (t := .str) ⟨(by kernel_rfl), C.free "isinstance" (by decide +kernel)⟩ ⟨(by kernel_rfl), C.free "str" (by decide +kernel)⟩ rfl (by rfl) (se_var (x := "two") (i := 1) rfl (by kernel_rfl)) (by decide +kernel) (by decide +kernel)))
    (sb_one (ss_ret (so_val (se_and (se_isB (t := .str) ⟨(by kernel_rfl), C.free "isinstance" (by decide +kernel)⟩ ⟨(by kernel_rfl), C.free "str" (by decide +kernel)⟩ rfl (by rfl) (se_var (x := "one") (i := 0) rfl (by kernel_rfl)) (by decide +kernel) (by decide +kernel)) (se_one (se_eq (se_var (x := "one") (i := 0) rfl (by kernel_rfl)) (se_var (x := "two") (i := 1) rfl (by kernel_rfl)))))))) (sb_nil))
    (sb_cons (ss_if (st_isN (se_var (x := "two") (i := 1) rfl (by kernel_rfl)))
    (sb_one (ss_ret (so_val (se_isN (se_var (x := "one") (i := 0) rfl (by kernel_rfl)))))) (sb_nil))
    (sb_cons (ss_set (i := 2) rfl (by kernel_rfl) rfl (so_val (se_and (se_eq (se_isB (t := .list) ⟨(by kernel_rfl), C.free "isinstance" (by decide +kernel)⟩ ⟨(by kernel_rfl), C.free "list" (by decide +kernel)⟩ rfl (by rfl) (se_var (x := "one") (i := 0) rfl (by kernel_rfl)) (by decide +kernel) (by decide +kernel)) (se_isB (t := .list) ⟨(by kernel_rfl), C.free "isinstance" (by decide +kernel)⟩ ⟨(by kernel_rfl), C.free "list" (by decide +kernel)⟩ rfl (by rfl) (se_var (x := "two") (i := 1) rfl (by kernel_rfl)) (by decide +kernel) (by decide +kernel))) (se_one (se_eq (se_isB (t := .dict) ⟨(by kernel_rfl), C.free "isinstance" (by decide +kernel)⟩ ⟨(by kernel_rfl), C.free "dict" (by decide +kernel)⟩ rfl (by rfl) (se_var (x := "one") (i := 0) rfl (by kernel_rfl)) (by decide +kernel) (by decide +kernel)) (se_isB (t := .dict) ⟨(by kernel_rfl), C.free "isinstance" (by decide +kernel)⟩ ⟨(by kernel_rfl), C.free "dict" (by decide +kernel)⟩ rfl (by rfl) (se_var (x := "two") (i := 1) rfl (by kernel_rfl)) (by decide +kernel) (by decide +kernel)))))))
    (sb_one (ss_ret (so_val (se_and (se_var (x := "alike") (i := 2) rfl (by kernel_rfl)) (se_and (se_not (se_isB (t := .tuple) ⟨(by kernel_rfl), C.free "isinstance" (by decide +kernel)⟩ ⟨(by kernel_rfl), C.free "tuple" (by decide +kernel)⟩ rfl (by rfl) (se_var (x := "one") (i := 0) rfl (by kernel_rfl)) (by decide +kernel) (by decide +kernel))) (se_one (se_isT (se_eq (se_var (x := "one") (i := 0) rfl (by kernel_rfl)) (se_var (x := "two") (i := 1) rfl (by kernel_rfl)))))))))))))))
theorem sb__law_mind (C : Kn Γ) (D__law_of : DefOk Γ "_law_of" f__law_of ["well", "some"] 2) (D__law_frac : DefOk Γ "_law_frac" f__law_frac ["n", "m"] 2) (D__law_draw : DefOk Γ "_law_draw" f__law_draw ["well", "limit"] 1) {qu : Str} {cd : Value} (h0 : Heap) (H0 : Hp) : SB Γ ⟨["well", "m"], (defScope (top 50)).names, 2, true, fun _ => true, h0, H0, qu, cd⟩ (defBody (top 50)) b__law_mind := by
  unfold b__law_mind
  exact sb_cons (ss_set (i := 1) rfl (by kernel_rfl) rfl (c_v D__law_of (by kernel_rfl) (Nat.le_of_ble_eq_true rfl) (sa_cons (se_var (x := "well") (i := 0) rfl (by kernel_rfl)) (sa_cons (se_tup (sa_cons (se_int) (sa_cons (se_int) (sa_cons (se_int) (sa_cons (se_int) (sa_nil)))))) (sa_nil)))))
    (sb_one (ss_ret (c_v D__law_frac (by kernel_rfl) (Nat.le_of_ble_eq_true rfl) (sa_cons (se_sub (se_of (c_v D__law_draw (by kernel_rfl) (Nat.le_of_ble_eq_true rfl) (sa_cons (se_var (x := "well") (i := 0) rfl (by kernel_rfl)) (sa_cons (se_mul (se_int) (se_var (x := "m") (i := 1) rfl (by kernel_rfl))) (sa_nil))))) (se_int)) (sa_cons (se_var (x := "m") (i := 1) rfl (by kernel_rfl)) (sa_nil))))))
theorem sb_is_tuple_of (C : Kn Γ) {qu : Str} {cd : Value} (h0 : Heap) (H0 : Hp) : SB Γ ⟨["value", "many"], (defScope (top 4)).names, 0, true, fun _ => true, h0, H0, qu, cd⟩ (defBody (top 4)) b_is_tuple_of := by
  unfold b_is_tuple_of
  exact sb_one (ss_ret (so_val (se_and (se_isB (t := .tuple) ⟨(by kernel_rfl), C.free "isinstance" (by decide +kernel)⟩ ⟨(by kernel_rfl), C.free "tuple" (by decide +kernel)⟩ rfl (by rfl) (se_var (x := "value") (i := 0) rfl (by kernel_rfl)) (by decide +kernel) (by decide +kernel)) (se_one (se_eq (se_len ⟨(by kernel_rfl), C.free "len" (by decide +kernel)⟩ (se_var (x := "value") (i := 0) rfl (by kernel_rfl))) (se_var (x := "many") (i := 1) rfl (by kernel_rfl)))))))
theorem sb_wrong_in (C : Kn Γ) {qu : Str} {cd : Value} (h0 : Heap) (H0 : Hp) : SB Γ ⟨["value", "least", "most", "is_right", "index", "each"], (defScope (top 6)).names, 24, true, fun _ => true, h0, H0, qu, cd⟩ (defBody (top 6)) b_wrong_in := by
  unfold b_wrong_in
  exact sb_cons (ss_if (st_of (sw_or (st_not (st_val (se_isB (t := .tuple) ⟨(by kernel_rfl), C.free "isinstance" (by decide +kernel)⟩ ⟨(by kernel_rfl), C.free "tuple" (by decide +kernel)⟩ rfl (by rfl) (se_var (x := "value") (i := 0) rfl (by kernel_rfl)) (by decide +kernel) (by decide +kernel)))) (sw_or1 (st_lt (se_len ⟨(by kernel_rfl), C.free "len" (by decide +kernel)⟩ (se_var (x := "value") (i := 0) rfl (by kernel_rfl))) (se_var (x := "least") (i := 1) rfl (by kernel_rfl))))))
    (sb_one (ss_ret (so_lst (sa_cons (se_non) (sa_nil))))) (sb_nil))
    (sb_cons (ss_for rfl (si_enum ⟨(by kernel_rfl), C.free "enumerate" (by decide +kernel)⟩ (sa_cons (se_var (x := "value") (i := 0) rfl (by kernel_rfl)) (sa_nil))) (sg_tup (sgs_cons (sg_var (i := 4) rfl (by kernel_rfl) (by first | exact .inl rfl | exact .inr (by kernel_rfl))) (sgs_cons (sg_var (i := 5) rfl (by kernel_rfl) (by first | exact .inl rfl | exact .inr (by kernel_rfl))) (sgs_nil))) rfl)
    (sb_one (ss_if (st_of (sw_or (st_eq (se_var (x := "index") (i := 4) rfl (by kernel_rfl)) (se_var (x := "most") (i := 2) rfl (by kernel_rfl))) (sw_or1 (st_not (st_val (se_callS (x := "is_right") (i := 3) (n := 24) rfl (Nat.le_of_ble_eq_true rfl) rfl (by kernel_rfl) (sa_cons (se_cut (se_var (x := "value") (i := 0) rfl (by kernel_rfl)) (sp_none) (sp_some (se_var (x := "index") (i := 4) rfl (by kernel_rfl)))) (sa_cons (se_var (x := "each") (i := 5) rfl (by kernel_rfl)) (sa_nil)))))))))
    (sb_one (ss_ret (so_lst (sa_cons (se_var (x := "index") (i := 4) rfl (by kernel_rfl)) (sa_nil))))) (sb_nil))))
    (sb_one (ss_ret (so_lst (sa_nil)))))
theorem sb_wrong_in_all (C : Kn Γ) (D_is_tuple_of : DefOk Γ "is_tuple_of" f_is_tuple_of ["value", "many"] 1) (D_wrong_in : DefOk Γ "wrong_in" f_wrong_in ["value", "least", "most", "is_right"] 25) {qu : Str} {cd : Value} (LT : ∀ h0 H0, LamT Γ ⟨["value", "many", "is_right"], (defScope (top 7)).names, 25, true, fun _ => true, h0, H0, qu, cd⟩) (h0 : Heap) (H0 : Hp) : SB Γ ⟨["value", "many", "is_right"], (defScope (top 7)).names, 25, true, fun _ => true, h0, H0, qu, cd⟩ (defBody (top 7)) b_wrong_in_all := by
  unfold b_wrong_in_all
  exact sb_one (ss_ret (so_val (se_if (st_val (se_of (c_v D_is_tuple_of (by kernel_rfl) (Nat.le_of_ble_eq_true rfl) (sa_cons (se_var (x := "value") (i := 0) rfl (by kernel_rfl)) (sa_cons (se_var (x := "many") (i := 1) rfl (by kernel_rfl)) (sa_nil)))))) (se_of (c_k D_wrong_in (by kernel_rfl) (Nat.le_of_ble_eq_true rfl) (sk_val (se_var (x := "value") (i := 0) rfl (by kernel_rfl)) (sk_val (se_var (x := "many") (i := 1) rfl (by kernel_rfl)) (sk_val (se_var (x := "many") (i := 1) rfl (by kernel_rfl)) (sk_lam (k := 12) (N := ["ahead", "each", "is_right"]) (ps := ["ahead", "each"]) (fr := ["is_right"]) (js := [2]) rfl (LT h0 H0) (NdefX.nscope_by (by kernel_rfl)) (by intro _; rfl) (by kernel_rfl) (by decide +kernel) rfl (by intro _ _ _ _ _ us hl; match us, hl with | [_, _], _ => rfl) (fun h0 H0 q cd => se_callS (x := "is_right") (i := 2) (n := 12) rfl (Nat.le_of_ble_eq_true rfl) rfl (by kernel_rfl) (sa_cons (se_var (x := "each") (i := 1) rfl (by kernel_rfl)) (sa_nil))))))))) (se_lst (sa_cons (se_non) (sa_nil))))))
theorem sb_is_pair (C : Kn Γ) (D_is_tuple_of : DefOk Γ "is_tuple_of" f_is_tuple_of ["value", "many"] 1) {qu : Str} {cd : Value} (h0 : Heap) (H0 : Hp) : SB Γ ⟨["value"], (defScope (top 5)).names, 1, true, fun _ => true, h0, H0, qu, cd⟩ (defBody (top 5)) b_is_pair := by
  unfold b_is_pair
  exact sb_one (ss_ret (c_v D_is_tuple_of (by kernel_rfl) (Nat.le_of_ble_eq_true rfl) (sa_cons (se_var (x := "value") (i := 0) rfl (by kernel_rfl)) (sa_cons (se_int) (sa_nil)))))
theorem sb_is_whole (C : Kn Γ) {qu : Str} {cd : Value} (h0 : Heap) (H0 : Hp) : SB Γ ⟨["value"], (defScope (top 2)).names, 0, true, fun _ => true, h0, H0, qu, cd⟩ (defBody (top 2)) b_is_whole := by
  unfold b_is_whole
  exact sb_one (ss_ret (so_val (se_and (se_isB (t := .int) ⟨(by kernel_rfl), C.free "isinstance" (by decide +kernel)⟩ ⟨(by kernel_rfl), C.free "int" (by decide +kernel)⟩ rfl (by rfl) (se_var (x := "value") (i := 0) rfl (by kernel_rfl)) (by decide +kernel) (by decide +kernel)) (se_one (se_not (se_isB (t := .bool) ⟨(by kernel_rfl), C.free "isinstance" (by decide +kernel)⟩ ⟨(by kernel_rfl), C.free "bool" (by decide +kernel)⟩ rfl (by rfl) (se_var (x := "value") (i := 0) rfl (by kernel_rfl)) (by decide +kernel) (by decide +kernel)))))))
theorem sb_is_fraction (C : Kn Γ) (D_is_pair : DefOk Γ "is_pair" f_is_pair ["value"] 2) (D_is_whole : DefOk Γ "is_whole" f_is_whole ["value"] 1) {qu : Str} {cd : Value} (h0 : Heap) (H0 : Hp) : SB Γ ⟨["value", "each"], (defScope (top 11)).names, 2, true, fun _ => true, h0, H0, qu, cd⟩ (defBody (top 11)) b_is_fraction := by
  unfold b_is_fraction
  exact sb_cons (ss_if (st_of (sw_or (st_not (st_val (se_of (c_v D_is_pair (by kernel_rfl) (Nat.le_of_ble_eq_true rfl) (sa_cons (se_var (x := "value") (i := 0) rfl (by kernel_rfl)) (sa_nil)))))) (sw_or1 (st_not (st_val (se_all ⟨(by kernel_rfl), C.free "all" (by decide +kernel)⟩ (se_comp (own := [("each", 1)]) (by kernel_rfl) (si_seq (se_var (x := "value") (i := 0) rfl (by kernel_rfl))) (sg_var (i := 1) rfl (by kernel_rfl) (by first | exact .inl rfl | exact .inr (by kernel_rfl))) (by decide) (sf_nil) (se_of (c_v D_is_whole (by kernel_rfl) (Nat.le_of_ble_eq_true rfl) (sa_cons (se_var (x := "each") (i := 1) rfl (by kernel_rfl)) (sa_nil)))))))))))
    (sb_one (ss_ret (so_val (se_bl)))) (sb_nil))
    (sb_one (ss_ret (so_val (se_and (se_gt (se_ix (se_var (x := "value") (i := 0) rfl (by kernel_rfl)) (se_int)) (se_int)) (se_one (se_eq (se_gcd (by kernel_rfl) C.g_gcd (se_ix (se_var (x := "value") (i := 0) rfl (by kernel_rfl)) (se_int)) (se_ix (se_var (x := "value") (i := 0) rfl (by kernel_rfl)) (se_int))) (se_int)))))))
theorem sb_wrong_in_minds (C : Kn Γ) (D_wrong_in_all : DefOk Γ "wrong_in_all" f_wrong_in_all ["value", "many", "is_right"] 26) (D_is_fraction : DefOk Γ "is_fraction" f_is_fraction ["value"] 3) {qu : Str} {cd : Value} (h0 : Heap) (H0 : Hp) : SB Γ ⟨["value", "many"], (defScope (top 17)).names, 26, true, fun _ => true, h0, H0, qu, cd⟩ (defBody (top 17)) b_wrong_in_minds := by
  unfold b_wrong_in_minds
  exact sb_cons (ss_if (st_notN (se_var (x := "many") (i := 1) rfl (by kernel_rfl)))
    (sb_one (ss_ret (c_k D_wrong_in_all (by kernel_rfl) (Nat.le_of_ble_eq_true rfl) (sk_val (se_var (x := "value") (i := 0) rfl (by kernel_rfl)) (sk_val (se_var (x := "many") (i := 1) rfl (by kernel_rfl)) (k_def D_is_fraction (by kernel_rfl) (Nat.le_of_ble_eq_true rfl) (sk_nil))))))) (sb_nil))
    (sb_cons (ss_if (st_of (sw_or (st_not (st_val (se_isB (t := .tuple) ⟨(by kernel_rfl), C.free "isinstance" (by decide +kernel)⟩ ⟨(by kernel_rfl), C.free "tuple" (by decide +kernel)⟩ rfl (by rfl) (se_var (x := "value") (i := 0) rfl (by kernel_rfl)) (by decide +kernel) (by decide +kernel)))) (sw_or1 (st_not (st_chain (fun X g => op_le) bin_le (fun X g => op_le) bin_le (se_int) (se_len ⟨(by kernel_rfl), C.free "len" (by decide +kernel)⟩ (se_var (x := "value") (i := 0) rfl (by kernel_rfl))) (se_glob (by kernel_rfl) C.g_MOST_PEOPLE))))))
    (sb_one (ss_ret (so_lst (sa_cons (se_non) (sa_nil))))) (sb_nil))
    (sb_one (ss_ret (c_k D_wrong_in_all (by kernel_rfl) (Nat.le_of_ble_eq_true rfl) (sk_val (se_var (x := "value") (i := 0) rfl (by kernel_rfl)) (sk_val (se_len ⟨(by kernel_rfl), C.free "len" (by decide +kernel)⟩ (se_var (x := "value") (i := 0) rfl (by kernel_rfl))) (k_def D_is_fraction (by kernel_rfl) (Nat.le_of_ble_eq_true rfl) (sk_nil))))))))
theorem sb_check_lone_minds (C : Kn Γ) (D_wrong_in_minds : DefOk Γ "wrong_in_minds" f_wrong_in_minds ["value", "many"] 27) {qu : Str} {cd : Value} (h0 : Heap) (H0 : Hp) : SB Γ ⟨["minds", "index"], (defScope (top 24)).names, 27, true, fun _ => true, h0, H0, qu, cd⟩ (defBody (top 24)) b_check_lone_minds := by
  unfold b_check_lone_minds
  exact sb_one (ss_for rfl (si_seq (se_of (c_v D_wrong_in_minds (by kernel_rfl) (Nat.le_of_ble_eq_true rfl) (sa_cons (se_var (x := "minds") (i := 0) rfl (by kernel_rfl)) (sa_cons (se_non) (sa_nil)))))) (sg_var (i := 1) rfl (by kernel_rfl) (by first | exact .inl rfl | exact .inr (by kernel_rfl)))
    (sb_one (ss_bad)))
theorem sb_is_between (C : Kn Γ) (D_is_whole : DefOk Γ "is_whole" f_is_whole ["value"] 1) {qu : Str} {cd : Value} (h0 : Heap) (H0 : Hp) : SB Γ ⟨["value", "least", "most"], (defScope (top 3)).names, 1, true, fun _ => true, h0, H0, qu, cd⟩ (defBody (top 3)) b_is_between := by
  unfold b_is_between
  exact sb_one (ss_ret (so_val (se_and (se_of (c_v D_is_whole (by kernel_rfl) (Nat.le_of_ble_eq_true rfl) (sa_cons (se_var (x := "value") (i := 0) rfl (by kernel_rfl)) (sa_nil)))) (se_one (se_chain (fun X g => op_le) bin_le (fun X g => op_le) bin_le (se_var (x := "least") (i := 1) rfl (by kernel_rfl)) (se_var (x := "value") (i := 0) rfl (by kernel_rfl)) (se_var (x := "most") (i := 2) rfl (by kernel_rfl)))))))
theorem sb_is_tie (C : Kn Γ) (D_is_between : DefOk Γ "is_between" f_is_between ["value", "least", "most"] 2) (D_is_pair : DefOk Γ "is_pair" f_is_pair ["value"] 2) {qu : Str} {cd : Value} (h0 : Heap) (H0 : Hp) : SB Γ ⟨["many", "value"], (defScope (top 28)).names, 2, true, fun _ => true, h0, H0, qu, cd⟩ (defBody (top 28)) b_is_tie := by
  unfold b_is_tie
  exact sb_cons (ss_if (st_of (sw_or (st_not (st_val (se_of (c_v D_is_pair (by kernel_rfl) (Nat.le_of_ble_eq_true rfl) (sa_cons (se_var (x := "value") (i := 1) rfl (by kernel_rfl)) (sa_nil)))))) (sw_or1 (st_not (st_val (se_of (c_v D_is_between (by kernel_rfl) (Nat.le_of_ble_eq_true rfl) (sa_cons (se_ix (se_var (x := "value") (i := 1) rfl (by kernel_rfl)) (se_int)) (sa_cons (se_int) (sa_cons (se_sub (se_var (x := "many") (i := 0) rfl (by kernel_rfl)) (se_int)) (sa_nil)))))))))))
    (sb_one (ss_ret (so_val (se_bl)))) (sb_nil))
    (sb_one (ss_ret (c_v D_is_between (by kernel_rfl) (Nat.le_of_ble_eq_true rfl) (sa_cons (se_ix (se_var (x := "value") (i := 1) rfl (by kernel_rfl)) (se_int)) (sa_cons (se_add (se_ix (se_var (x := "value") (i := 1) rfl (by kernel_rfl)) (se_int)) (se_int)) (sa_cons (se_sub (se_var (x := "many") (i := 0) rfl (by kernel_rfl)) (se_int)) (sa_nil)))))))
theorem sb_are_below (C : Kn Γ) {qu : Str} {cd : Value} (h0 : Heap) (H0 : Hp) : SB Γ ⟨["ahead", "value"], (defScope (top 8)).names, 0, true, fun _ => true, h0, H0, qu, cd⟩ (defBody (top 8)) b_are_below := by
  unfold b_are_below
  exact sb_one (ss_ret (so_val (se_or (se_eq (se_var (x := "ahead") (i := 0) rfl (by kernel_rfl)) (se_tup (sa_nil))) (se_one (se_lt (se_ix (se_var (x := "ahead") (i := 0) rfl (by kernel_rfl)) (se_neg (se_int))) (se_var (x := "value") (i := 1) rfl (by kernel_rfl)))))))
theorem sb_wrong_in_web (C : Kn Γ) (D_wrong_in : DefOk Γ "wrong_in" f_wrong_in ["value", "least", "most", "is_right"] 25) (D_is_tie : DefOk Γ "is_tie" f_is_tie ["many", "value"] 3) (D_are_below : DefOk Γ "are_below" f_are_below ["ahead", "value"] 1) {qu : Str} {cd : Value} (LT : ∀ h0 H0, LamT Γ ⟨["many", "value"], (defScope (top 29)).names, 25, true, fun _ => true, h0, H0, qu, cd⟩) (h0 : Heap) (H0 : Hp) : SB Γ ⟨["many", "value"], (defScope (top 29)).names, 25, true, fun _ => true, h0, H0, qu, cd⟩ (defBody (top 29)) b_wrong_in_web := by
  unfold b_wrong_in_web
  exact sb_one (ss_ret (c_k D_wrong_in (by kernel_rfl) (Nat.le_of_ble_eq_true rfl) (sk_val (se_var (x := "value") (i := 1) rfl (by kernel_rfl)) (sk_val (se_int) (sk_val (se_non) (sk_lam (k := 3) (N := ["ahead", "each", "many"]) (ps := ["ahead", "each"]) (fr := ["many"]) (js := [0]) rfl (LT h0 H0) (NdefX.nscope_by (by kernel_rfl)) (by intro _; rfl) (by kernel_rfl) (by decide +kernel) rfl (by intro _ _ _ _ _ us hl; match us, hl with | [_, _], _ => rfl) (fun h0 H0 q cd => se_and (se_of (c_v D_is_tie (by kernel_rfl) (Nat.le_of_ble_eq_true rfl) (sa_cons (se_var (x := "many") (i := 2) rfl (by kernel_rfl)) (sa_cons (se_var (x := "each") (i := 1) rfl (by kernel_rfl)) (sa_nil))))) (se_one (se_of (c_v D_are_below (by kernel_rfl) (Nat.le_of_ble_eq_true rfl) (sa_cons (se_var (x := "ahead") (i := 0) rfl (by kernel_rfl)) (sa_cons (se_var (x := "each") (i := 1) rfl (by kernel_rfl)) (sa_nil)))))))))))))
theorem sb_check_web (C : Kn Γ) (D_check_lone_minds : DefOk Γ "check_lone_minds" f_check_lone_minds ["minds"] 28) (D_wrong_in_web : DefOk Γ "wrong_in_web" f_wrong_in_web ["many", "value"] 26) {qu : Str} {cd : Value} (h0 : Heap) (H0 : Hp) : SB Γ ⟨["minds", "web", "index"], (defScope (top 37)).names, 28, true, fun _ => true, h0, H0, qu, cd⟩ (defBody (top 37)) b_check_web := by
  unfold b_check_web
  exact sb_cons (ss_expr (se_of (c_v D_check_lone_minds (by kernel_rfl) (Nat.le_of_ble_eq_true rfl) (sa_cons (se_var (x := "minds") (i := 0) rfl (by kernel_rfl)) (sa_nil)))))
    (sb_one (ss_for rfl (si_seq (se_of (c_v D_wrong_in_web (by kernel_rfl) (Nat.le_of_ble_eq_true rfl) (sa_cons (se_len ⟨(by kernel_rfl), C.free "len" (by decide +kernel)⟩ (se_var (x := "minds") (i := 0) rfl (by kernel_rfl))) (sa_cons (se_var (x := "web") (i := 1) rfl (by kernel_rfl)) (sa_nil)))))) (sg_var (i := 2) rfl (by kernel_rfl) (by first | exact .inl rfl | exact .inr (by kernel_rfl)))
    (sb_one (ss_bad))))
theorem sb_middle_for (C : Kn Γ) {qu : Str} {cd : Value} (h0 : Heap) (H0 : Hp) : SB Γ ⟨["own", "others", "told", "low", "high"], (defScope (top 30)).names, 0, true, fun _ => true, h0, H0, qu, cd⟩ (defBody (top 30)) b_middle_for := by
  unfold b_middle_for
  exact sb_cons (ss_set (i := 2) rfl (by kernel_rfl) rfl (so_sorted ⟨(by kernel_rfl), C.free "sorted" (by decide +kernel)⟩ (se_lst (sa_cons (se_var (x := "own") (i := 0) rfl (by kernel_rfl)) (sa_star (se_var (x := "others") (i := 1) rfl (by kernel_rfl)) (sa_nil))))))
    (sb_cons (ss_par (i := 3) (j := 4) rfl rfl (by decide) (by kernel_rfl) (by kernel_rfl) (so_val (se_ix (se_var (x := "told") (i := 2) rfl (by kernel_rfl)) (se_fdiv (se_sub (se_len ⟨(by kernel_rfl), C.free "len" (by decide +kernel)⟩ (se_var (x := "told") (i := 2) rfl (by kernel_rfl))) (se_int)) (se_int)))) (so_val (se_ix (se_var (x := "told") (i := 2) rfl (by kernel_rfl)) (se_fdiv (se_len ⟨(by kernel_rfl), C.free "len" (by decide +kernel)⟩ (se_var (x := "told") (i := 2) rfl (by kernel_rfl))) (se_int)))) (swap2 (by kernel_rfl) (by kernel_rfl) rfl rfl (by kernel_rfl) (by kernel_rfl)))
    (sb_one (ss_ret (so_val (se_if (st_le (se_abs ⟨(by kernel_rfl), C.free "abs" (by decide +kernel)⟩ (se_sub (se_var (x := "own") (i := 0) rfl (by kernel_rfl)) (se_var (x := "low") (i := 3) rfl (by kernel_rfl)))) (se_abs ⟨(by kernel_rfl), C.free "abs" (by decide +kernel)⟩ (se_sub (se_var (x := "own") (i := 0) rfl (by kernel_rfl)) (se_var (x := "high") (i := 4) rfl (by kernel_rfl))))) (se_var (x := "low") (i := 3) rfl (by kernel_rfl)) (se_var (x := "high") (i := 4) rfl (by kernel_rfl)))))))
theorem sb_beside (C : Kn Γ) {qu : Str} {cd : Value} (h0 : Heap) (H0 : Hp) : SB Γ ⟨["web", "at", "one", "two"], (defScope (top 31)).names, 0, true, fun _ => true, h0, H0, qu, cd⟩ (defBody (top 31)) b_beside := by
  unfold b_beside
  exact sb_one (ss_ret (so_comp (own := [("one", 2), ("two", 3)]) (by kernel_rfl) (si_seq (se_var (x := "web") (i := 0) rfl (by kernel_rfl))) (sg_tup (sgs_cons (sg_var (i := 2) rfl (by kernel_rfl) (by first | exact .inl rfl | exact .inr (by kernel_rfl))) (sgs_cons (sg_var (i := 3) rfl (by kernel_rfl) (by first | exact .inl rfl | exact .inr (by kernel_rfl))) (sgs_nil))) rfl) (by decide) (sf_one (st_in (se_var (x := "at") (i := 1) rfl (by kernel_rfl)) (se_tup (sa_cons (se_var (x := "one") (i := 2) rfl (by kernel_rfl)) (sa_cons (se_var (x := "two") (i := 3) rfl (by kernel_rfl)) (sa_nil)))))) (se_if (st_eq (se_var (x := "one") (i := 2) rfl (by kernel_rfl)) (se_var (x := "at") (i := 1) rfl (by kernel_rfl))) (se_var (x := "two") (i := 3) rfl (by kernel_rfl)) (se_var (x := "one") (i := 2) rfl (by kernel_rfl)))))
theorem sb_next_minds (C : Kn Γ) (D_middle_for : DefOk Γ "middle_for" f_middle_for ["own", "others"] 1) (D_beside : DefOk Γ "beside" f_beside ["web", "at"] 1) {qu : Str} {cd : Value} (h0 : Heap) (H0 : Hp) : SB Γ ⟨["web", "minds", "at", "own", "other"], (defScope (top 32)).names, 1, true, fun _ => true, h0, H0, qu, cd⟩ (defBody (top 32)) b_next_minds := by
  unfold b_next_minds
  exact sb_one (ss_ret (so_val (se_tuple ⟨(by kernel_rfl), C.free "tuple" (by decide +kernel)⟩ (se_comp (own := [("at", 2), ("own", 3)]) (by kernel_rfl) (si_enum ⟨(by kernel_rfl), C.free "enumerate" (by decide +kernel)⟩ (sa_cons (se_var (x := "minds") (i := 1) rfl (by kernel_rfl)) (sa_nil))) (sg_tup (sgs_cons (sg_var (i := 2) rfl (by kernel_rfl) (by first | exact .inl rfl | exact .inr (by kernel_rfl))) (sgs_cons (sg_var (i := 3) rfl (by kernel_rfl) (by first | exact .inl rfl | exact .inr (by kernel_rfl))) (sgs_nil))) rfl) (by decide) (sf_nil) (se_of (c_v D_middle_for (by kernel_rfl) (Nat.le_of_ble_eq_true rfl) (sa_cons (se_var (x := "own") (i := 3) rfl (by kernel_rfl)) (sa_cons (se_comp (own := [("other", 4)]) (by kernel_rfl) (si_seq (se_of (c_v D_beside (by kernel_rfl) (Nat.le_of_ble_eq_true rfl) (sa_cons (se_var (x := "web") (i := 0) rfl (by kernel_rfl)) (sa_cons (se_var (x := "at") (i := 2) rfl (by kernel_rfl)) (sa_nil)))))) (sg_var (i := 4) rfl (by kernel_rfl) (by first | exact .inl rfl | exact .inr (by kernel_rfl))) (by decide) (sf_nil) (se_ix (se_var (x := "minds") (i := 1) rfl (by kernel_rfl)) (se_var (x := "other") (i := 4) rfl (by kernel_rfl)))) (sa_nil)))))))))
theorem sb_common_below (C : Kn Γ) {qu : Str} {cd : Value} (h0 : Heap) (H0 : Hp) : SB Γ ⟨["some", "found", "each"], (defScope (top 12)).names, 0, true, fun _ => true, h0, H0, qu, cd⟩ (defBody (top 12)) b_common_below := by
  unfold b_common_below
  exact sb_cons (ss_set (i := 1) rfl (by kernel_rfl) rfl (so_val (se_int)))
    (sb_cons (ss_for rfl (si_seq (se_var (x := "some") (i := 0) rfl (by kernel_rfl))) (sg_var (i := 2) rfl (by kernel_rfl) (by first | exact .inl rfl | exact .inr (by kernel_rfl)))
    (sb_one (ss_set (i := 1) rfl (by kernel_rfl) rfl (so_val (se_lcm (by kernel_rfl) C.g_lcm (se_var (x := "found") (i := 1) rfl (by kernel_rfl)) (se_ix (se_var (x := "each") (i := 2) rfl (by kernel_rfl)) (se_int)))))))
    (sb_one (ss_retV (x := "found") (i := 1) rfl (by kernel_rfl))))
theorem sb_whole_of (C : Kn Γ) {qu : Str} {cd : Value} (h0 : Heap) (H0 : Hp) : SB Γ ⟨["value", "below"], (defScope (top 13)).names, 0, true, fun _ => true, h0, H0, qu, cd⟩ (defBody (top 13)) b_whole_of := by
  unfold b_whole_of
  exact sb_one (ss_ret (so_val (se_mul (se_ix (se_var (x := "value") (i := 0) rfl (by kernel_rfl)) (se_int)) (se_fdiv (se_var (x := "below") (i := 1) rfl (by kernel_rfl)) (se_ix (se_var (x := "value") (i := 0) rfl (by kernel_rfl)) (se_int))))))
theorem sb_whole_minds (C : Kn Γ) (D_common_below : DefOk Γ "common_below" f_common_below ["some"] 1) (D_whole_of : DefOk Γ "whole_of" f_whole_of ["value", "below"] 1) {qu : Str} {cd : Value} (h0 : Heap) (H0 : Hp) : SB Γ ⟨["minds", "below", "mind"], (defScope (top 33)).names, 1, true, fun _ => true, h0, H0, qu, cd⟩ (defBody (top 33)) b_whole_minds := by
  unfold b_whole_minds
  exact sb_cons (ss_set (i := 1) rfl (by kernel_rfl) rfl (c_v D_common_below (by kernel_rfl) (Nat.le_of_ble_eq_true rfl) (sa_cons (se_of (so_listf ⟨(by kernel_rfl), C.free "list" (by decide +kernel)⟩ (se_var (x := "minds") (i := 0) rfl (by kernel_rfl)))) (sa_nil))))
    (sb_one (ss_ret (so_val (se_tup (sa_cons (se_tuple ⟨(by kernel_rfl), C.free "tuple" (by decide +kernel)⟩ (se_comp (own := [("mind", 2)]) (by kernel_rfl) (si_seq (se_var (x := "minds") (i := 0) rfl (by kernel_rfl))) (sg_var (i := 2) rfl (by kernel_rfl) (by first | exact .inl rfl | exact .inr (by kernel_rfl))) (by decide) (sf_nil) (se_of (c_v D_whole_of (by kernel_rfl) (Nat.le_of_ble_eq_true rfl) (sa_cons (se_var (x := "mind") (i := 2) rfl (by kernel_rfl)) (sa_cons (se_var (x := "below") (i := 1) rfl (by kernel_rfl)) (sa_nil))))))) (sa_cons (se_var (x := "below") (i := 1) rfl (by kernel_rfl)) (sa_nil)))))))
theorem sb_again_by (C : Kn Γ) (D_next_minds : DefOk Γ "next_minds" f_next_minds ["web", "minds"] 2) (D_whole_minds : DefOk Γ "whole_minds" f_whole_minds ["minds"] 2) {qu : Str} {cd : Value} (h0 : Heap) (H0 : Hp) : SB Γ ⟨["minds", "web", "now", "seen"], (defScope (top 35)).names, 2, true, fun _ => true, h0, H0, qu, cd⟩ (defBody (top 35)) b_again_by := by
  unfold b_again_by
  exact sb_cons (ss_par (i := 2) (j := 3) rfl rfl (by decide) (by kernel_rfl) (by kernel_rfl) (so_val (se_ix (se_of (c_v D_whole_minds (by kernel_rfl) (Nat.le_of_ble_eq_true rfl) (sa_cons (se_var (x := "minds") (i := 0) rfl (by kernel_rfl)) (sa_nil)))) (se_int))) (so_dct C.kc) (swap2 (by kernel_rfl) (by kernel_rfl) rfl rfl (by kernel_rfl) (by kernel_rfl)))
    (sb_cons (ss_while rfl (st_notInDct C.kc (se_var (x := "now") (i := 2) rfl (by kernel_rfl)) (se_var (x := "seen") (i := 3) rfl (by kernel_rfl)))
    (sb_cons (ss_putD C.kc (x := "seen") (i := 3) rfl (by kernel_rfl) (se_len ⟨(by kernel_rfl), C.free "len" (by decide +kernel)⟩ (se_var (x := "seen") (i := 3) rfl (by kernel_rfl))) (se_var (x := "now") (i := 2) rfl (by kernel_rfl)))
    (sb_one (ss_set (i := 2) rfl (by kernel_rfl) rfl (c_v D_next_minds (by kernel_rfl) (Nat.le_of_ble_eq_true rfl) (sa_cons (se_var (x := "web") (i := 1) rfl (by kernel_rfl)) (sa_cons (se_var (x := "now") (i := 2) rfl (by kernel_rfl)) (sa_nil))))))))
    (sb_one (ss_ret (so_val (se_tup (sa_cons (se_dctGet C.kc (se_var (x := "seen") (i := 3) rfl (by kernel_rfl)) (se_var (x := "now") (i := 2) rfl (by kernel_rfl)) (by intro _ _; rfl)) (sa_cons (se_sub (se_len ⟨(by kernel_rfl), C.free "len" (by decide +kernel)⟩ (se_var (x := "seen") (i := 3) rfl (by kernel_rfl))) (se_dctGet C.kc (se_var (x := "seen") (i := 3) rfl (by kernel_rfl)) (se_var (x := "now") (i := 2) rfl (by kernel_rfl)) (by intro _ _; rfl))) (sa_nil))))))))
theorem sb_again (C : Kn Γ) (D_check_web : DefOk Γ "check_web" f_check_web ["minds", "web"] 29) (D_again_by : DefOk Γ "again_by" f_again_by ["minds", "web"] 3) {qu : Str} {cd : Value} (h0 : Heap) (H0 : Hp) : SB Γ ⟨["minds", "web"], (defScope (top 39)).names, 29, true, fun _ => true, h0, H0, qu, cd⟩ (defBody (top 39)) b_again := by
  unfold b_again
  exact sb_cons (ss_expr (se_of (c_v D_check_web (by kernel_rfl) (Nat.le_of_ble_eq_true rfl) (sa_cons (se_var (x := "minds") (i := 0) rfl (by kernel_rfl)) (sa_cons (se_var (x := "web") (i := 1) rfl (by kernel_rfl)) (sa_nil))))))
    (sb_one (ss_ret (c_v D_again_by (by kernel_rfl) (Nat.le_of_ble_eq_true rfl) (sa_cons (se_var (x := "minds") (i := 0) rfl (by kernel_rfl)) (sa_cons (se_var (x := "web") (i := 1) rfl (by kernel_rfl)) (sa_nil))))))
theorem sb_check_number (C : Kn Γ) (D_is_between : DefOk Γ "is_between" f_is_between ["value", "least", "most"] 2) {qu : Str} {cd : Value} (h0 : Heap) (H0 : Hp) : SB Γ ⟨["number", "least", "most"], (defScope (top 25)).names, 2, true, fun _ => true, h0, H0, qu, cd⟩ (defBody (top 25)) b_check_number := by
  unfold b_check_number
  exact sb_one (ss_if (st_not (st_val (se_of (c_v D_is_between (by kernel_rfl) (Nat.le_of_ble_eq_true rfl) (sa_cons (se_var (x := "number") (i := 0) rfl (by kernel_rfl)) (sa_cons (se_var (x := "least") (i := 1) rfl (by kernel_rfl)) (sa_cons (se_var (x := "most") (i := 2) rfl (by kernel_rfl)) (sa_nil))))))))
    (sb_one (ss_bad)) (sb_nil))
theorem sb_check_many (C : Kn Γ) (D_check_number : DefOk Γ "check_number" f_check_number ["number", "least", "most"] 3) {qu : Str} {cd : Value} (h0 : Heap) (H0 : Hp) : SB Γ ⟨["many"], (defScope (top 26)).names, 3, true, fun _ => true, h0, H0, qu, cd⟩ (defBody (top 26)) b_check_many := by
  unfold b_check_many
  exact sb_one (ss_expr (se_of (c_v D_check_number (by kernel_rfl) (Nat.le_of_ble_eq_true rfl) (sa_cons (se_var (x := "many") (i := 0) rfl (by kernel_rfl)) (sa_cons (se_int) (sa_cons (se_glob (by kernel_rfl) C.g_MOST_BEATS) (sa_nil)))))))
theorem sb_lowest (C : Kn Γ) {qu : Str} {cd : Value} (h0 : Heap) (H0 : Hp) : SB Γ ⟨["one", "two", "common"], (defScope (top 10)).names, 0, true, fun _ => true, h0, H0, qu, cd⟩ (defBody (top 10)) b_lowest := by
  unfold b_lowest
  exact sb_cons (ss_set (i := 2) rfl (by kernel_rfl) rfl (so_val (se_if (st_gt (se_var (x := "two") (i := 1) rfl (by kernel_rfl)) (se_int)) (se_gcd (by kernel_rfl) C.g_gcd (se_var (x := "one") (i := 0) rfl (by kernel_rfl)) (se_var (x := "two") (i := 1) rfl (by kernel_rfl))) (se_neg (se_gcd (by kernel_rfl) C.g_gcd (se_var (x := "one") (i := 0) rfl (by kernel_rfl)) (se_var (x := "two") (i := 1) rfl (by kernel_rfl)))))))
    (sb_one (ss_ret (so_val (se_tup (sa_cons (se_fdiv (se_var (x := "one") (i := 0) rfl (by kernel_rfl)) (se_var (x := "common") (i := 2) rfl (by kernel_rfl))) (sa_cons (se_fdiv (se_var (x := "two") (i := 1) rfl (by kernel_rfl)) (se_var (x := "common") (i := 2) rfl (by kernel_rfl))) (sa_nil)))))))
theorem sb_middles_by (C : Kn Γ) (D_whole_minds : DefOk Γ "whole_minds" f_whole_minds ["minds"] 2) (D_next_minds : DefOk Γ "next_minds" f_next_minds ["web", "minds"] 2) (D_lowest : DefOk Γ "lowest" f_lowest ["one", "two"] 1) {qu : Str} {cd : Value} (h0 : Heap) (H0 : Hp) : SB Γ ⟨["minds", "web", "many", "_", "now", "below", "mind"], (defScope (top 34)).names, 2, true, fun _ => true, h0, H0, qu, cd⟩ (defBody (top 34)) b_middles_by := by
  unfold b_middles_by
  exact sb_cons (ss_asg (se_of (c_v D_whole_minds (by kernel_rfl) (Nat.le_of_ble_eq_true rfl) (sa_cons (se_var (x := "minds") (i := 0) rfl (by kernel_rfl)) (sa_nil)))) (sg_tup (sgs_cons (sg_var (i := 4) rfl (by kernel_rfl) (by first | exact .inl rfl | exact .inr (by kernel_rfl))) (sgs_cons (sg_var (i := 5) rfl (by kernel_rfl) (by first | exact .inl rfl | exact .inr (by kernel_rfl))) (sgs_nil))) rfl))
    (sb_cons (ss_for rfl (si_range1 ⟨(by kernel_rfl), C.free "range" (by decide +kernel)⟩ (sa_cons (se_var (x := "many") (i := 2) rfl (by kernel_rfl)) (sa_nil))) (sg_var (i := 3) rfl (by kernel_rfl) (by first | exact .inl rfl | exact .inr (by kernel_rfl)))
    (sb_one (ss_set (i := 4) rfl (by kernel_rfl) rfl (c_v D_next_minds (by kernel_rfl) (Nat.le_of_ble_eq_true rfl) (sa_cons (se_var (x := "web") (i := 1) rfl (by kernel_rfl)) (sa_cons (se_var (x := "now") (i := 4) rfl (by kernel_rfl)) (sa_nil)))))))
    (sb_one (ss_ret (so_val (se_tuple ⟨(by kernel_rfl), C.free "tuple" (by decide +kernel)⟩ (se_comp (own := [("mind", 6)]) (by kernel_rfl) (si_seq (se_var (x := "now") (i := 4) rfl (by kernel_rfl))) (sg_var (i := 6) rfl (by kernel_rfl) (by first | exact .inl rfl | exact .inr (by kernel_rfl))) (by decide) (sf_nil) (se_of (c_v D_lowest (by kernel_rfl) (Nat.le_of_ble_eq_true rfl) (sa_cons (se_var (x := "mind") (i := 6) rfl (by kernel_rfl)) (sa_cons (se_var (x := "below") (i := 5) rfl (by kernel_rfl)) (sa_nil)))))))))))
theorem sb_middles_after (C : Kn Γ) (D_check_web : DefOk Γ "check_web" f_check_web ["minds", "web"] 29) (D_check_many : DefOk Γ "check_many" f_check_many ["many"] 4) (D_middles_by : DefOk Γ "middles_by" f_middles_by ["minds", "web", "many"] 3) {qu : Str} {cd : Value} (h0 : Heap) (H0 : Hp) : SB Γ ⟨["minds", "web", "many"], (defScope (top 38)).names, 29, true, fun _ => true, h0, H0, qu, cd⟩ (defBody (top 38)) b_middles_after := by
  unfold b_middles_after
  exact sb_cons (ss_expr (se_of (c_v D_check_web (by kernel_rfl) (Nat.le_of_ble_eq_true rfl) (sa_cons (se_var (x := "minds") (i := 0) rfl (by kernel_rfl)) (sa_cons (se_var (x := "web") (i := 1) rfl (by kernel_rfl)) (sa_nil))))))
    (sb_cons (ss_expr (se_of (c_v D_check_many (by kernel_rfl) (Nat.le_of_ble_eq_true rfl) (sa_cons (se_var (x := "many") (i := 2) rfl (by kernel_rfl)) (sa_nil)))))
    (sb_one (ss_ret (c_v D_middles_by (by kernel_rfl) (Nat.le_of_ble_eq_true rfl) (sa_cons (se_var (x := "minds") (i := 0) rfl (by kernel_rfl)) (sa_cons (se_var (x := "web") (i := 1) rfl (by kernel_rfl)) (sa_cons (se_var (x := "many") (i := 2) rfl (by kernel_rfl)) (sa_nil))))))))
theorem sb__law_right (C : Kn Γ) (D__law_draw : DefOk Γ "_law_draw" f__law_draw ["well", "limit"] 1) (D__law_web : DefOk Γ "_law_web" f__law_web ["well", "many"] 3) (D__law_again : DefOk Γ "_law_again" f__law_again ["minds", "web"] 6) (D__law_same : DefOk Γ "_law_same" f__law_same ["one", "two"] 4) (D__law_mind : DefOk Γ "_law_mind" f__law_mind ["well"] 3) (D_again : DefOk Γ "again" f_again ["minds", "web"] 30) (D_middles_after : DefOk Γ "middles_after" f_middles_after ["minds", "web", "many"] 30) (k_again_web_minds : DefKw Γ "again" f_again ["minds", "web"] ["web", "minds"] [1, 0] 30) {qu : Str} {cd : Value} (h0 : Heap) (H0 : Hp) : SB Γ ⟨["well", "many", "every", "k", "ring", "web", "minds", "due", "odd", "j", "person", "pair"], (defScope (top 56)).names, 30, true, fun _ => true, h0, H0, qu, cd⟩ (defBody (top 56)) b__law_right := by
  unfold b__law_right
  exact sb_cons (ss_set (i := 1) rfl (by kernel_rfl) rfl (so_val (se_add (se_int) (se_of (c_v D__law_draw (by kernel_rfl) (Nat.le_of_ble_eq_true rfl) (sa_cons (se_var (x := "well") (i := 0) rfl (by kernel_rfl)) (sa_cons (se_int) (sa_nil))))))))
    (sb_cons (ss_set (i := 2) rfl (by kernel_rfl) rfl (so_lst (sa_nil)))
    (sb_cons (ss_for rfl (si_range1 ⟨(by kernel_rfl), C.free "range" (by decide +kernel)⟩ (sa_cons (se_var (x := "many") (i := 1) rfl (by kernel_rfl)) (sa_nil))) (sg_var (i := 3) rfl (by kernel_rfl) (by first | exact .inl rfl | exact .inr (by kernel_rfl)))
    (sb_one (ss_set (i := 2) rfl (by kernel_rfl) rfl (so_cat (se_var (x := "every") (i := 2) rfl (by kernel_rfl)) (se_comp (own := [("j", 9)]) (by kernel_rfl) (si_range2 ⟨(by kernel_rfl), C.free "range" (by decide +kernel)⟩ (sa_cons (se_add (se_var (x := "k") (i := 3) rfl (by kernel_rfl)) (se_int)) (sa_cons (se_var (x := "many") (i := 1) rfl (by kernel_rfl)) (sa_nil)))) (sg_var (i := 9) rfl (by kernel_rfl) (by first | exact .inl rfl | exact .inr (by kernel_rfl))) (by decide) (sf_nil) (se_tup (sa_cons (se_var (x := "k") (i := 3) rfl (by kernel_rfl)) (sa_cons (se_var (x := "j") (i := 9) rfl (by kernel_rfl)) (sa_nil)))))))))
    (sb_cons (ss_set (i := 4) rfl (by kernel_rfl) rfl (so_val (se_if (st_gt (se_var (x := "many") (i := 1) rfl (by kernel_rfl)) (se_int)) (se_tuple ⟨(by kernel_rfl), C.free "tuple" (by decide +kernel)⟩ (se_of (so_sortedP ⟨(by kernel_rfl), C.free "sorted" (by decide +kernel)⟩ (se_comp (own := [("k", 3)]) (by kernel_rfl) (si_range1 ⟨(by kernel_rfl), C.free "range" (by decide +kernel)⟩ (sa_cons (se_var (x := "many") (i := 1) rfl (by kernel_rfl)) (sa_nil))) (sg_var (i := 3) rfl (by kernel_rfl) (by first | exact .inl rfl | exact .inr (by kernel_rfl))) (by decide) (sf_nil) (se_tuple ⟨(by kernel_rfl), C.free "tuple" (by decide +kernel)⟩ (se_of (so_sortedT ⟨(by kernel_rfl), C.free "sorted" (by decide +kernel)⟩ (se_tup (sa_cons (se_var (x := "k") (i := 3) rfl (by kernel_rfl)) (sa_cons (se_mod (se_intf ⟨(by kernel_rfl), C.free "int" (by decide +kernel)⟩ (se_add (se_var (x := "k") (i := 3) rfl (by kernel_rfl)) (se_int))) (se_var (x := "many") (i := 1) rfl (by kernel_rfl))) (sa_nil))))))))))) (se_tup (sa_nil)))))
    (sb_cons (ss_for rfl (si_seq (se_tup (sa_cons (se_of (c_v D__law_web (by kernel_rfl) (Nat.le_of_ble_eq_true rfl) (sa_cons (se_var (x := "well") (i := 0) rfl (by kernel_rfl)) (sa_cons (se_var (x := "many") (i := 1) rfl (by kernel_rfl)) (sa_nil))))) (sa_cons (se_of (c_v D__law_web (by kernel_rfl) (Nat.le_of_ble_eq_true rfl) (sa_cons (se_var (x := "well") (i := 0) rfl (by kernel_rfl)) (sa_cons (se_var (x := "many") (i := 1) rfl (by kernel_rfl)) (sa_nil))))) (sa_cons (se_var (x := "ring") (i := 4) rfl (by kernel_rfl)) (sa_cons (se_tuple ⟨(by kernel_rfl), C.free "tuple" (by decide +kernel)⟩ (se_var (x := "every") (i := 2) rfl (by kernel_rfl))) (sa_cons (se_tup (sa_nil)) (sa_nil)))))))) (sg_var (i := 5) rfl (by kernel_rfl) (by first | exact .inl rfl | exact .inr (by kernel_rfl)))
    (sb_cons (ss_set (i := 6) rfl (by kernel_rfl) rfl (so_val (se_tuple ⟨(by kernel_rfl), C.free "tuple" (by decide +kernel)⟩ (se_comp (own := [("person", 10)]) (by kernel_rfl) (si_range1 ⟨(by kernel_rfl), C.free "range" (by decide +kernel)⟩ (sa_cons (se_var (x := "many") (i := 1) rfl (by kernel_rfl)) (sa_nil))) (sg_var (i := 10) rfl (by kernel_rfl) (by first | exact .inl rfl | exact .inr (by kernel_rfl))) (by decide) (sf_nil) (se_of (c_v D__law_mind (by kernel_rfl) (Nat.le_of_ble_eq_true rfl) (sa_cons (se_var (x := "well") (i := 0) rfl (by kernel_rfl)) (sa_nil))))))))
    (sb_cons (ss_set (i := 7) rfl (by kernel_rfl) rfl (c_v D__law_again (by kernel_rfl) (Nat.le_of_ble_eq_true rfl) (sa_cons (se_var (x := "minds") (i := 6) rfl (by kernel_rfl)) (sa_cons (se_var (x := "web") (i := 5) rfl (by kernel_rfl)) (sa_nil)))))
    (sb_cons (ss_if (st_not (st_val (se_of (c_v D__law_same (by kernel_rfl) (Nat.le_of_ble_eq_true rfl) (sa_cons (se_tup (sa_cons (se_of (c_v D_again (by kernel_rfl) (Nat.le_of_ble_eq_true rfl) (sa_cons (se_var (x := "minds") (i := 6) rfl (by kernel_rfl)) (sa_cons (se_var (x := "web") (i := 5) rfl (by kernel_rfl)) (sa_nil))))) (sa_cons (se_of (c_kw k_again_web_minds (by kernel_rfl) (Nat.le_of_ble_eq_true rfl) (skw_cons (se_var (x := "web") (i := 5) rfl (by kernel_rfl)) (skw_cons (se_var (x := "minds") (i := 6) rfl (by kernel_rfl)) (skw_nil))))) (sa_nil)))) (sa_cons (se_tup (sa_cons (se_var (x := "due") (i := 7) rfl (by kernel_rfl)) (sa_cons (se_var (x := "due") (i := 7) rfl (by kernel_rfl)) (sa_nil)))) (sa_nil)))))))
    (sb_one (ss_ret (so_val (se_bl)))) (sb_nil))
    (sb_cons (ss_setComp (i := 8) rfl (by kernel_rfl) (by kernel_rfl) (by kernel_rfl) (own := [("k", 3)]) (by kernel_rfl) (si_range1 ⟨(by kernel_rfl), C.free "range" (by decide +kernel)⟩ (sa_cons (se_var (x := "many") (i := 1) rfl (by kernel_rfl)) (sa_nil))) (sg_var (i := 3) rfl (by kernel_rfl) (by first | exact .inl rfl | exact .inr (by kernel_rfl))) (by decide) (sf_one (st_eq (se_mod (se_intf ⟨(by kernel_rfl), C.free "int" (by decide +kernel)⟩ (se_len ⟨(by kernel_rfl), C.free "len" (by decide +kernel)⟩ (se_comp (own := [("pair", 11)]) (by kernel_rfl) (si_seq (se_var (x := "web") (i := 5) rfl (by kernel_rfl))) (sg_var (i := 11) rfl (by kernel_rfl) (by first | exact .inl rfl | exact .inr (by kernel_rfl))) (by decide) (sf_one (st_in (se_var (x := "k") (i := 3) rfl (by kernel_rfl)) (se_var (x := "pair") (i := 11) rfl (by kernel_rfl)))) (se_var (x := "pair") (i := 11) rfl (by kernel_rfl))))) (se_int)) (se_int))) (se_var (x := "k") (i := 3) rfl (by kernel_rfl)))
    (sb_cons (ss_if (st_of (sw_or (st_of (sw_and (st_eq (se_var (x := "odd") (i := 8) rfl (by kernel_rfl)) (se_lst (sa_nil))) (sw_and1 (st_gt (se_ix (se_var (x := "due") (i := 7) rfl (by kernel_rfl)) (se_int)) (se_int))))) (sw_or1 (st_of (sw_and (st_eq (se_var (x := "web") (i := 5) rfl (by kernel_rfl)) (se_tup (sa_nil))) (sw_and1 (st_ne (se_var (x := "due") (i := 7) rfl (by kernel_rfl)) (se_tup (sa_cons (se_int) (sa_cons (se_int) (sa_nil)))))))))))
    (sb_one (ss_ret (so_val (se_bl)))) (sb_nil))
    (sb_one (ss_if (st_of (sw_and (st_not (st_val (se_of (c_v D__law_same (by kernel_rfl) (Nat.le_of_ble_eq_true rfl) (sa_cons (se_of (c_v D_middles_after (by kernel_rfl) (Nat.le_of_ble_eq_true rfl) (sa_cons (se_var (x := "minds") (i := 6) rfl (by kernel_rfl)) (sa_cons (se_var (x := "web") (i := 5) rfl (by kernel_rfl)) (sa_cons (se_min ⟨(by kernel_rfl), C.free "min" (by decide +kernel)⟩ (se_int) (se_add (se_ix (se_var (x := "due") (i := 7) rfl (by kernel_rfl)) (se_int)) (se_ix (se_var (x := "due") (i := 7) rfl (by kernel_rfl)) (se_int)))) (sa_nil)))))) (sa_cons (se_of (c_v D_middles_after (by kernel_rfl) (Nat.le_of_ble_eq_true rfl) (sa_cons (se_var (x := "minds") (i := 6) rfl (by kernel_rfl)) (sa_cons (se_var (x := "web") (i := 5) rfl (by kernel_rfl)) (sa_cons (se_min ⟨(by kernel_rfl), C.free "min" (by decide +kernel)⟩ (se_int) (se_ix (se_var (x := "due") (i := 7) rfl (by kernel_rfl)) (se_int))) (sa_nil)))))) (sa_nil))))))) (sw_and1 (st_lt (se_sumA ⟨(by kernel_rfl), C.free "sum" (by decide +kernel)⟩ (se_var (x := "due") (i := 7) rfl (by kernel_rfl))) (se_int)))))
    (sb_one (ss_ret (so_val (se_bl)))) (sb_nil)))))))))
    (sb_one (ss_ret (so_val (se_bl))))))))
theorem sb_law (C : Kn Γ) (D__law_well : DefOk Γ "_law_well" f__law_well ["script", "lap"] 1) (D__law_right : DefOk Γ "_law_right" f__law_right ["well"] 31) {qu : Str} {cd : Value} (h0 : Heap) (H0 : Hp) : SB Γ ⟨["script", "wells", "lap"], (defScope (top 57)).names, 31, true, fun _ => true, h0, H0, qu, cd⟩ (defBody (top 57)) b_law := by
  unfold b_law
  exact sb_cons (ss_set (i := 1) rfl (by kernel_rfl) rfl (so_comp (own := [("lap", 2)]) (by kernel_rfl) (si_range1 ⟨(by kernel_rfl), C.free "range" (by decide +kernel)⟩ (sa_cons (se_max ⟨(by kernel_rfl), C.free "max" (by decide +kernel)⟩ (se_int) (se_min ⟨(by kernel_rfl), C.free "min" (by decide +kernel)⟩ (se_len ⟨(by kernel_rfl), C.free "len" (by decide +kernel)⟩ (se_var (x := "script") (i := 0) rfl (by kernel_rfl))) (se_int))) (sa_nil))) (sg_var (i := 2) rfl (by kernel_rfl) (by first | exact .inl rfl | exact .inr (by kernel_rfl))) (by decide) (sf_nil) (se_ref (c_v D__law_well (by kernel_rfl) (Nat.le_of_ble_eq_true rfl) (sa_cons (se_var (x := "script") (i := 0) rfl (by kernel_rfl)) (sa_cons (se_var (x := "lap") (i := 2) rfl (by kernel_rfl)) (sa_nil)))))) (hs := swapC (by kernel_rfl)))
    (sb_one (ss_ret (so_val (se_all ⟨(by kernel_rfl), C.free "all" (by decide +kernel)⟩ (se_comp (own := [("lap", 2)]) (by kernel_rfl) (si_range1 ⟨(by kernel_rfl), C.free "range" (by decide +kernel)⟩ (sa_cons (se_int) (sa_nil))) (sg_var (i := 2) rfl (by kernel_rfl) (by first | exact .inl rfl | exact .inr (by kernel_rfl))) (by decide) (sf_nil) (se_of (c_v D__law_right (by kernel_rfl) (Nat.le_of_ble_eq_true rfl) (sa_cons (se_ix (se_var (x := "wells") (i := 1) rfl (by kernel_rfl)) (se_mod (se_intf ⟨(by kernel_rfl), C.free "int" (by decide +kernel)⟩ (se_var (x := "lap") (i := 2) rfl (by kernel_rfl))) (se_len ⟨(by kernel_rfl), C.free "len" (by decide +kernel)⟩ (se_var (x := "wells") (i := 1) rfl (by kernel_rfl))))) (sa_nil)))))))))
end
end K60
end Mnd
namespace Mnd
namespace K60
open PySem
theorem s_lowest {n d : Int} {w : W} (hd : 0 < d) (h1 : n.natAbs < 2 ^ 7000) (h2 : d.natAbs < 2 ^ 7000) : pf f_lowest [.val (.int n), .val (.int d)] w fun s w' => s = .val (rD (Rat.divInt n d)) ∧ w' = w := by
  have g1 : (Int.gcd n d : Int) ≠ 0 := by
    intro z
    have : Int.gcd n d = 0 := by omega
    rw [Int.gcd_eq_zero_iff] at this
    omega
  have g2 : ((Int.gcd n d : Int)).natAbs < 2 ^ 7000 := by
    have : Int.gcd n d ≤ d.natAbs := Nat.le_of_dvd (by omega) (Int.gcd_dvd_natAbs_right n d)
    simp; omega
  unfold f_lowest b_lowest
  simp [hd, dGcd_ok 7000 h1 h2, dFdiv_ok 7000 g1 g2, num_div hd, den_div hd, rD]
def Sz (B : Nat) (q : Rat) : Prop := q.num.natAbs < 2 ^ B ∧ q.den < 2 ^ B
theorem natAbs_mul_lt {i j : Int} {n m : Nat} (h1 : i.natAbs < 2 ^ n) (h2 : j.natAbs < 2 ^ m) : (i * j).natAbs < 2 ^ (n + m) := by
  rw [Int.natAbs_mul, Nat.pow_add]
  exact Nat.mul_lt_mul'' h1 h2
theorem natAbs_add_lt {i j : Int} {n : Nat} (h1 : i.natAbs < 2 ^ n) (h2 : j.natAbs < 2 ^ n) : (i + j).natAbs < 2 ^ (n + 1) := by
  have := Int.natAbs_add_le i j
  rw [Nat.pow_succ]; omega
theorem gcd_emod_r (x y : Int) (hx : 0 ≤ x) (hy : 0 ≤ y) : Int.gcd y (x % y) = Int.gcd y x := by
  obtain ⟨a, rfl⟩ := Int.eq_ofNat_of_zero_le hx
  obtain ⟨b, rfl⟩ := Int.eq_ofNat_of_zero_le hy
  rw [← Int.natCast_emod]
  simp only [Int.gcd, Int.natAbs_natCast]
  rw [Nat.gcd_comm b (a % b), ← Nat.gcd_rec]
theorem s__law_divisor {a b : Int} {w : W} (ha : 0 ≤ a) (hb : 0 ≤ b) : pf f__law_divisor [.val (.int a), .val (.int b)] w fun s w' => s = .val (.int (Int.gcd a b)) ∧ w' = w := by
  unfold f__law_divisor b__law_divisor
  simp only [pf_mkFn, pw_sSeq]
  refine ⟨rfl, pw_sWhile (fun k e w' => ∃ x y : Int, e = [.val (.int x), .val (.int y)] ∧ 0 ≤ x ∧ 0 ≤ y ∧ y.toNat = k ∧ Int.gcd x y = Int.gcd a b ∧ w' = w) (k := b.toNat) ⟨a, b, rfl, ha, hb, rfl, rfl, rfl⟩ ?_⟩
  rintro k e w' ⟨x, y, rfl, hx, hy, rfl, hg, rfl⟩
  simp
  constructor
  · intro h
    have hne : y ≠ 0 := by omega
    simp [dMod_ok hne]
    have hm : x.fmod y = x % y := Int.fmod_eq_emod_of_nonneg _ hy
    have h1 := Int.emod_nonneg x hne
    have h2 := Int.emod_lt_of_pos x h
    refine ⟨_, ?_, y, x.fmod y, ⟨rfl, rfl⟩, hy, by omega, rfl, ?_⟩
    · omega
    · rw [hm, ← hg, Int.gcd_comm x y]; exact gcd_emod_r x y hx hy
  · intro h
    have : y = 0 := by omega
    subst this
    rw [← hg]
    simp; omega
theorem s__law_frac {n d : Int} {w : W} (hd : 0 < d) (h1 : n.natAbs < 2 ^ 7000) (h2 : d.natAbs < 2 ^ 7000) : pf f__law_frac [.val (.int n), .val (.int d)] w fun s w' => s = .val (rD (Rat.divInt n d)) ∧ w' = w := by
  have g1 : (Int.gcd n d : Int) ≠ 0 := by
    intro z
    have : Int.gcd n d = 0 := by omega
    rw [Int.gcd_eq_zero_iff] at this
    omega
  have g2 : ((Int.gcd n d : Int)).natAbs < 2 ^ 7000 := by
    have : Int.gcd n d ≤ d.natAbs := Nat.le_of_dvd (by omega) (Int.gcd_dvd_natAbs_right n d)
    simp; omega
  have e1 : (if n < 0 then -n else n) = (n.natAbs : Int) := by split <;> omega
  have key := s__law_divisor (w := w) (a := n.natAbs) (b := d) (by omega) (by omega)
  have e2 : Int.gcd (n.natAbs : Int) d = Int.gcd n d := by simp [Int.gcd]
  rw [e2] at key
  unfold f__law_frac b__law_frac
  simp [e1]
  refine pf_mono key ?_
  rintro s w' ⟨rfl, rfl⟩
  simp [dFdiv_ok 7000 g1 g2, num_div hd, den_div hd, rD]
theorem s__law_add {a b : Rat} {w : W} (ha : Sz 3000 a) (hb : Sz 3000 b) : pf f__law_add [.val (rD a), .val (rD b)] w fun s w' => s = .val (rD (a + b)) ∧ w' = w := by
  have pa := a.den_pos
  have pb := b.den_pos
  have m1 := natAbs_mul_lt (i := a.num) (j := b.den) ha.1 (by simpa using hb.2)
  have m2 := natAbs_mul_lt (i := b.num) (j := a.den) hb.1 (by simpa using ha.2)
  have m3 := natAbs_mul_lt (i := a.den) (j := b.den) (by simpa using ha.2) (by simpa using hb.2)
  have hp : (0 : Int) < (a.den : Int) * b.den := Int.mul_pos (by omega) (by omega)
  have key := s__law_frac (w := w) hp (n := a.num * b.den + b.num * a.den) (Nat.lt_of_lt_of_le (natAbs_add_lt m1 m2) (Nat.pow_le_pow_right (by decide) (by decide))) (Nat.lt_of_lt_of_le m3 (Nat.pow_le_pow_right (by decide) (by decide)))
  have e : Rat.divInt (a.num * b.den + b.num * a.den) (a.den * b.den) = a + b := by rw [Rat.add_def', ← Rat.divInt_ofNat]; simp
  rw [e] at key
  unfold f__law_add b__law_add
  simp [rD, dMul_ok 3000 3000 ha.1 (by simpa using hb.2 : ((b.den : Int)).natAbs < 2 ^ 3000), dMul_ok 3000 3000 hb.1 (by simpa using ha.2 : ((a.den : Int)).natAbs < 2 ^ 3000), dMul_ok 3000 3000 (by simpa using ha.2 : ((a.den : Int)).natAbs < 2 ^ 3000) (by simpa using hb.2 : ((b.den : Int)).natAbs < 2 ^ 3000)]
  exact key
theorem s__law_upto {a b : Rat} {w : W} (ha : Sz 3000 a) (hb : Sz 3000 b) : pf f__law_upto [.val (rD a), .val (rD b)] w fun s w' => s = .val (.bl (decide (a ≤ b))) ∧ w' = w := by
  unfold f__law_upto b__law_upto
  simp [rD, dMul_ok 3000 3000 ha.1 (by simpa using hb.2 : ((b.den : Int)).natAbs < 2 ^ 3000), dMul_ok 3000 3000 hb.1 (by simpa using ha.2 : ((a.den : Int)).natAbs < 2 ^ 3000)]
  rw [Rat.le_iff]
theorem s_is_whole {i : Int} {w : W} : pf f_is_whole [.val (.int i)] w fun s w' => s = .val (.bl true) ∧ w' = w := by
  unfold f_is_whole b_is_whole
  simp
theorem s_is_tuple_of {xs : List D} {n : Int} {w : W} : pf f_is_tuple_of [.val (.tup xs), .val (.int n)] w fun s w' => s = .val (.bl ((xs.length : Int) == n)) ∧ w' = w := by
  unfold f_is_tuple_of b_is_tuple_of
  simp
theorem s_is_pair {xs : List D} {w : W} : pf f_is_pair [.val (.tup xs)] w fun s w' => s = .val (.bl ((xs.length : Int) == 2)) ∧ w' = w := by
  unfold f_is_pair b_is_pair
  simp
  exact s_is_tuple_of
@[simp] theorem e_is_whole {i : Int} {w : W} {P : Sl → W → Prop} : pf f_is_whole [.val (.int i)] w P = P (.val (.bl true)) w := pf_eq s_is_whole P
@[simp] theorem e_is_tuple_of {xs : List D} {n : Int} {w : W} {P : Sl → W → Prop} : pf f_is_tuple_of [.val (.tup xs), .val (.int n)] w P = P (.val (.bl ((xs.length : Int) == n))) w := pf_eq s_is_tuple_of P
@[simp] theorem e_is_pair {xs : List D} {w : W} {P : Sl → W → Prop} : pf f_is_pair [.val (.tup xs)] w P = P (.val (.bl ((xs.length : Int) == 2))) w := pf_eq s_is_pair P
theorem s_is_fraction {q : Rat} {w : W} (h : Sz 7000 q) : pf f_is_fraction [.val (rD q)] w fun s w' => s = .val (.bl true) ∧ w' = w := by
  have hp := q.den_pos
  have hr := q.reduced
  have g1 : Int.gcd q.num q.den = 1 := by simpa [Int.gcd, Nat.Coprime] using hr
  unfold f_is_fraction b_is_fraction
  simp [rD, pw_compL_cons, pw_compL_nil, wipeE, backE, isOwn, dGcd_ok 7000 h.1 (by simpa using h.2 : ((q.den : Int)).natAbs < 2 ^ 7000), g1, hp]
theorem s_wrong_in {xs : List D} {least : Int} {most : D} {k : Nat} {g : Clo} {w : W} (hk : k ≤ 24) (hl : least ≤ xs.length) (hm : ∀ i, i < xs.length → dEq (.int i) most = some (.bl false))
    (hg : ∀ i x, xs[i]? = some x → pc g [.tup (xs.take i), x] w fun d w' => d = .bl true ∧ w' = w) : pf f_wrong_in [.val (.tup xs), .val (.int least), .val most, .fn k g] w fun s w' => s = .own (.lst []) ∧ w' = w := by
  unfold f_wrong_in b_wrong_in
  simp [hl, hk]
  refine pw_forL (fun _ e w' => ∃ a b, e = [.val (.tup xs), .val (.int least), .val most, .fn k g, a, b] ∧ w' = w) ⟨_, _, rfl, rfl⟩ ?_ ?_
  · rintro i x e w' hx ⟨a, b, rfl, rfl⟩
    rw [enumD_get] at hx
    obtain ⟨y, hy, rfl⟩ := Option.map_eq_some_iff.mp hx
    have hi := (List.getElem?_eq_some_iff.mp hy).1
    have hc := pc_eq (hg i y hy)
    simp [hm i hi, hk, cutL_to (Nat.le_of_lt hi), hc]
  · rintro e w' ⟨a, b, rfl, rfl⟩
    simp
theorem s_wrong_in_all {xs : List D} {k : Nat} {g : Clo} {w : W} (hk : k ≤ 12) (hg : ∀ x ∈ xs, ∀ w, pc g [x] w fun d w' => d = .bl true ∧ w' = w) : pf f_wrong_in_all [.val (.tup xs), .val (.int xs.length), .fn k g] w fun s w' => s = .val (.lst []) ∧ w' = w := by
  unfold f_wrong_in_all b_wrong_in_all
  simp
  refine pf_mono (s_wrong_in (xs := xs) (least := xs.length) (by decide) (Int.le_refl _) (fun i hi => by simp; omega) fun i x hx => ?_) ?_
  · have hc := pc_eq (hg x (List.mem_of_getElem? hx) w)
    simp [hk, hc]
  · rintro s w' ⟨rfl, rfl⟩
    simp
def mD (ms : List Rat) : List D := ms.map rD
theorem s_wrong_in_minds {ms : List Rat} {w : W} (h1 : 1 ≤ ms.length) (h5 : ms.length ≤ 5) (hs : ∀ q ∈ ms, Sz 7000 q) : pf f_wrong_in_minds [.val (.tup (mD ms)), .val .non] w fun s w' => s = .val (.lst []) ∧ w' = w := by
  unfold f_wrong_in_minds b_wrong_in_minds
  have e1 : (1 : Int) ≤ ((mD ms).length : Int) := by simp [mD]; omega
  have e2 : ((mD ms).length : Int) ≤ 5 := by simp [mD]; omega
  simp [e1, e2]
  refine pf_mono (s_wrong_in_all (xs := mD ms) (k := 3) (by decide) fun x hx w => ?_) ?_
  · obtain ⟨q, hq, rfl⟩ := List.mem_map.mp hx
    have := pf_eq (s_is_fraction (w := w) (hs q hq))
    simp [this]
  · rintro s w' ⟨rfl, rfl⟩
    simp
theorem s_check_lone_minds {ms : List Rat} {w : W} (h1 : 1 ≤ ms.length) (h5 : ms.length ≤ 5) (hs : ∀ q ∈ ms, Sz 7000 q) : pf f_check_lone_minds [.val (.tup (mD ms))] w fun s w' => s = .val .non ∧ w' = w := by
  unfold f_check_lone_minds b_check_lone_minds
  simp [pf_eq (s_wrong_in_minds (w := w) h1 h5 hs), pw_forL_nil]
@[simp] theorem e_is_between {v a b : Int} {w : W} {P : Sl → W → Prop} : pf f_is_between [.val (.int v), .val (.int a), .val (.int b)] w P = P (.val (.bl (decide (a ≤ v) && decide (v ≤ b)))) w := by
  refine pf_eq ?_ P
  unfold f_is_between b_is_between
  by_cases h : a ≤ v <;> simp [h]
def pD (p : Nat × Nat) : D := .tup [.int p.1, .int p.2]
theorem Sz_add {a b : Rat} {n : Nat} (ha : Sz n a) (hb : Sz n b) : Sz (n + n + 1) (a + b) := by
  have m1 := natAbs_mul_lt (i := a.num) (j := b.den) ha.1 (by simpa using hb.2)
  have m2 := natAbs_mul_lt (i := b.num) (j := a.den) hb.1 (by simpa using ha.2)
  have m3 := natAbs_add_lt m1 m2
  constructor
  · rw [Rat.num_add]
    refine Nat.lt_of_le_of_lt ?_ m3
    rw [← Int.ofNat_eq_natCast]
    exact Int.natAbs_ediv_le_natAbs _ _
  · rw [Rat.den_add]
    refine Nat.lt_of_le_of_lt (Nat.div_le_self _ _) ?_
    refine Nat.lt_of_lt_of_le (Nat.mul_lt_mul'' ha.2 hb.2) ?_
    rw [← Nat.pow_add]
    exact Nat.pow_le_pow_right (by decide) (by omega)
theorem Sz_mono {a : Rat} {n m : Nat} (h : Sz n a) (l : n ≤ m) : Sz m a := ⟨Nat.lt_of_lt_of_le h.1 (Nat.pow_le_pow_right (by decide) l), Nat.lt_of_lt_of_le h.2 (Nat.pow_le_pow_right (by decide) l)⟩
theorem mD_get {ms : List Rat} {i : Nat} (h : i < ms.length) : L2.atI (mD ms) (i : Int) = some (rD (ms[i]?.getD 0)) := by
  refine atI_nat ?_
  unfold mD
  rw [List.getElem?_map, List.getElem?_eq_getElem h]; rfl
def Pl : Nat → D → Prop
  | 0, d => ∃ i, d = .int i
  | n + 1, d => (∃ i, d = .int i) ∨ ∃ xs, d = .tup xs ∧ xs.length ≤ 100000 ∧ ∀ x ∈ xs, Pl n x
theorem all_true (n : Nat) : allB (List.replicate n (.bl true)) = some (List.replicate n true) := by
  induction n with
  | zero => rfl
  | succ n ih => rw [List.replicate_succ, allB_cons, ih]; rfl
theorem s__law_same : ∀ (n : Nat) {d : D} {w : W}, Pl n d → pf (fr__law_same (n + 1)) [.val d, .val d] w fun s w' => s = .val (.bl true) ∧ w' = w
  | 0, d, w, h => by
    obtain ⟨i, rfl⟩ := h
    unfold fr__law_same b__law_same
    simp
  | n + 1, d, w, h => by
    rcases h with ⟨i, rfl⟩ | ⟨xs, rfl, hl, hx⟩
    · unfold fr__law_same b__law_same
      simp
    · unfold fr__law_same b__law_same
      have hl1 : (xs.length : Int) ≤ 100000 := by omega
      have hl2 : (-100000 : Int) ≤ (xs.length : Int) := by omega
      simp [wipeE, backE, isOwn, hl, hl1, hl2]
      refine pw_compL (fun i ds e w' => ds = List.replicate i (.bl true) ∧ (∃ a, e = [.val (.tup xs), .val (.tup xs), .no, a]) ∧ w' = w) ⟨rfl, ⟨_, rfl⟩, rfl⟩ ?_ ?_
      · rintro i x ds e w' hi ⟨rfl, ⟨a, rfl⟩, rfl⟩
        rw [List.getElem?_map] at hi
        obtain ⟨k, hk, rfl⟩ := Option.map_eq_some_iff.mp hi
        have hk2 := (List.getElem?_eq_some_iff.mp hk).1
        rw [List.length_range] at hk2
        have hki : k = i := by
          rw [List.getElem?_range (by omega)] at hk
          exact (Option.some.inj hk).symm
        subst hki
        have hk3 : k < xs.length := by omega
        have ek : xs[k]? = some xs[k] := List.getElem?_eq_getElem hk3
        have e1 := pf_eq (s__law_same n (w := w') (hx _ (List.getElem_mem hk3)))
        simp [wipeE, dIx, atI_nat ek, e1, List.replicate_succ']
      · rintro ds e w' ⟨rfl, ⟨a, rfl⟩, rfl⟩
        simp [all_true, backE]
def WOk (n : Nat) (w : W) : Prop := ∀ (l : Nat) xs, w[l]? = some xs → ∃ a b c : Int, xs = [.int a, .int b, .int c] ∧ 0 ≤ a ∧ 0 ≤ b ∧ b < 2147483587 ∧ 0 ≤ c ∧ c ≤ n
theorem WOk.mono {n m : Nat} {w : W} (h : WOk n w) (l : n ≤ m) : WOk m w := fun i xs q => by
  obtain ⟨a, b, c, e, h1, h2, h3, h4, h5⟩ := h i xs q
  exact ⟨a, b, c, e, h1, h2, h3, h4, by omega⟩
theorem WOk.set {n : Nat} {w : W} (h : WOk n w) {l : Nat} {a b c : Int} (h1 : 0 ≤ a) (h2 : 0 ≤ b) (h3 : b < 2147483587) (h4 : 0 ≤ c) (h5 : c ≤ n) : WOk n (w.set l [.int a, .int b, .int c]) := fun i xs q => by
  rcases List.getElem?_set_cases q with ⟨_, e, _⟩ | ⟨_, q⟩
  · exact ⟨a, b, c, e.symm, h1, h2, h3, h4, h5⟩
  · exact h i xs q
theorem lt_pow {i : Int} {n : Nat} (h0 : 0 ≤ i) (h : i < 2 ^ n) : i.natAbs < 2 ^ n := by
  have : ((i.natAbs : Nat) : Int) < ((2 ^ n : Nat) : Int) := by
    rw [show ((2 ^ n : Nat) : Int) = (2 : Int) ^ n by simp]
    omega
  omega
theorem s__law_draw {n l : Nat} {lim : Int} {w : W} (hw : WOk n w) (hl : l < w.length) (hn : n ≤ 1000000) (l0 : 0 < lim) (l1 : lim < 1000000) :
    pf f__law_draw [.val (.ref l), .val (.int lim)] w fun s w' => (∃ r : Nat, s = .val (.int r) ∧ (r : Int) < lim) ∧ WOk (n + 1) w' ∧ w'.length = w.length := by
  obtain ⟨a, b, c, e, h1, h2, h3, h4, h5⟩ := hw l _ (List.getElem?_eq_getElem hl)
  have e' : w[l]? = some [.int a, .int b, .int c] := by rw [List.getElem?_eq_getElem hl, e]
  unfold f__law_draw b__law_draw
  by_cases ha : 0 < a
  · have dd : dDivmod (.int a) (.int lim) = some (.tup [.int (a / lim), .int (a % lim)]) := if_pos ⟨l0, by omega⟩
    have x0 : L2.atI [D.int a, .int b, .int c] 0 = some (.int a) := rfl
    have y0 : L2.ixN 3 0 = some 0 := rfl
    simp [e', e, x0, y0, ha, dd]
    refine ⟨⟨(a % lim).toNat, ?_, ?_⟩, ?_⟩
    · have := Int.emod_nonneg a (show lim ≠ 0 by omega); omega
    · have := Int.emod_lt_of_pos a l0; omega
    · exact (hw.mono (Nat.le_succ n)).set (Int.ediv_nonneg h1 (by omega)) h2 h3 h4 (by omega)
  · have x0 : L2.atI [D.int a, .int b, .int c] 0 = some (.int a) := rfl
    have x2 : L2.atI [D.int a, .int b, .int c] 2 = some (.int c) := rfl
    have z1 : ∀ a b c : Int, L2.atI [D.int a, .int b, .int c] 1 = some (.int b) := fun _ _ _ => rfl
    have z2 : ∀ a b c : Int, L2.atI [D.int a, .int b, .int c] 2 = some (.int c) := fun _ _ _ => rfl
    have y2 : L2.ixN 3 2 = some 2 := rfl
    have y1 : L2.ixN 3 1 = some 1 := rfl
    have m1 : dMul (.int b) (.int 40009) = some (.int (b * 40009)) := dMul_ok 40 40 (lt_pow h2 (by omega)) (by decide) (by decide)
    have m2 : dMul (.int 15013) (.int (c + 1)) = some (.int (15013 * (c + 1))) := dMul_ok 40 40 (by decide) (lt_pow (by omega) (by omega)) (by decide)
    have p1 : (0 : Int) ≤ (b * 40009 + 15013 * (c + 1) + 3) % 2147483587 := Int.emod_nonneg _ (by decide)
    have p2 : (b * 40009 + 15013 * (c + 1) + 3) % 2147483587 < 2147483587 := Int.emod_lt_of_pos _ (by decide)
    have f1 : ∀ x : Int, x.fmod 2147483587 = x % 2147483587 := fun x => Int.fmod_eq_emod_of_nonneg _ (by decide)
    have f2 : ∀ x : Int, x.fmod 5003 = x % 5003 := fun x => Int.fmod_eq_emod_of_nonneg _ (by decide)
    have d1 : ∀ x : Int, dMod (.int x) (.int 2147483587) = some (.int (x % 2147483587)) := fun x => by rw [dMod_ok (by decide), f1]
    have d2 : ∀ x : Int, dMod (.int x) (.int 5003) = some (.int (x % 5003)) := fun x => by rw [dMod_ok (by decide), f2]
    have d3 : ∀ x : Int, dMod (.int x) (.int lim) = some (.int (x % lim)) := fun x => by rw [dMod_ok (by omega), Int.fmod_eq_emod_of_nonneg _ (by omega)]
    have d4 : ∀ x : Int, dFdiv (.int x) (.int 1031) = some (.int (x.fdiv 1031)) := fun x => dFdiv_ok 11 (by decide) (by decide) (by decide)
    generalize hm : (b * 40009 + 15013 * (c + 1) + 3) % 2147483587 = mx at *
    have q1 := Int.emod_nonneg mx (show (5003 : Int) ≠ 0 by decide)
    have q2 := Int.emod_lt_of_pos mx (show (0 : Int) < 5003 by decide)
    have m3 : dMul (.int mx) (.int (mx % 5003 + 20011)) = some (.int (mx * (mx % 5003 + 20011))) := dMul_ok 40 40 (lt_pow p1 (by omega)) (lt_pow (by omega) (by omega)) (by decide)
    simp [e', e, x0, x2, z1, z2, y1, y2, ha, m1, m2, d1, d2, d3, d4, m3, hl, hm]
    refine ⟨⟨_, (Int.toNat_of_nonneg (Int.emod_nonneg _ (show lim ≠ 0 by omega))).symm, ?_⟩, ?_⟩
    · rw [Int.toNat_of_nonneg (Int.emod_nonneg _ (show lim ≠ 0 by omega))]
      exact Int.emod_lt_of_pos _ l0
    · exact (hw.mono (Nat.le_succ n)).set h1 (Int.emod_nonneg _ (by decide)) (Int.emod_lt_of_pos _ (by decide)) (by omega) (by omega)
theorem s__law_of {n l : Nat} {xs : List D} {w : W} (hw : WOk n w) (hl : l < w.length) (hn : n ≤ 1000000) (l0 : 0 < xs.length) (l1 : xs.length < 1000000) :
    pf f__law_of [.val (.ref l), .val (.tup xs)] w fun s w' => (∃ x ∈ xs, s = .val x) ∧ WOk (n + 1) w' ∧ w'.length = w.length := by
  unfold f__law_of b__law_of
  simp
  refine pf_mono (s__law_draw hw hl hn (lim := xs.length) (by omega) (by omega)) ?_
  rintro s w' ⟨⟨r, rfl, hr⟩, h1, h2⟩
  have hr : r < xs.length := by omega
  simp [dIx, atI_nat (List.getElem?_eq_getElem hr), h1, h2]
theorem divInt_le {a b c d : Int} (hb : 0 < b) (hd : 0 < d) : Rat.divInt a b ≤ Rat.divInt c d ↔ a * d ≤ c * b := by
  rw [Rat.le_iff_sub_nonneg, Rat.divInt_sub_divInt _ _ (by omega) (by omega), Rat.divInt_nonneg_iff_of_pos_right (Int.mul_pos hd hb)]
  omega
def In0 (q : Rat) : Prop := q.den ∣ 6 ∧ -27 ≤ q ∧ q ≤ 27
theorem in0_of {r m : Int} (hm : m = 1 ∨ m = 2 ∨ m = 3) (h0 : -3 ≤ r) (h1 : r ≤ 27) : In0 (Rat.divInt r m) := by
  have hp : 0 < m := by omega
  refine ⟨?_, ?_, ?_⟩
  · rw [Rat.den_divInt, if_neg (by omega)]
    refine Nat.dvd_trans (Nat.div_dvd_of_dvd (Int.gcd_dvd_natAbs_left m r)) ?_
    rcases hm with rfl | rfl | rfl <;> decide
  · have e : (-27 : Rat) = Rat.divInt (-27) 1 := by decide +kernel
    rw [e, divInt_le (by decide) hp]
    rcases hm with rfl | rfl | rfl <;> omega
  · have e : (27 : Rat) = Rat.divInt 27 1 := by decide +kernel
    rw [e, divInt_le hp (by decide)]
    rcases hm with rfl | rfl | rfl <;> omega
theorem s__law_mind {n l : Nat} {w : W} (hw : WOk n w) (hl : l < w.length) (hn : n ≤ 100000) :
    pf f__law_mind [.val (.ref l)] w fun s w' => (∃ q, s = .val (rD q) ∧ In0 q) ∧ WOk (n + 2) w' ∧ w'.length = w.length := by
  unfold f__law_mind b__law_mind
  simp
  refine pf_mono (s__law_of hw hl (by omega) (xs := [.int 1, .int 1, .int 2, .int 3]) (by decide) (by decide)) ?_
  rintro s w1 ⟨⟨x, hx, rfl⟩, h1, h2⟩
  obtain ⟨m, rfl, hm⟩ : ∃ m : Int, x = .int m ∧ (m = 1 ∨ m = 2 ∨ m = 3) := by
    simp at hx
    rcases hx with rfl | rfl | rfl
    · exact ⟨1, rfl, .inl rfl⟩
    · exact ⟨2, rfl, .inr (.inl rfl)⟩
    · exact ⟨3, rfl, .inr (.inr rfl)⟩
  have e1 : dMul (.int 9) (.int m) = some (.int (9 * m)) := dMul_ok 4 4 (by decide) (lt_pow (by omega) (by omega)) (by decide)
  simp [e1]
  refine pf_mono (s__law_draw h1 (by omega) (by omega) (lim := 9 * m) (by omega) (by omega)) ?_
  rintro s w2 ⟨⟨r, rfl, hr⟩, h3, h4⟩
  simp
  refine pf_mono (s__law_frac (n := r - 3) (d := m) (by omega) ?_ ?_) ?_
  · have : ((r : Int) - 3).natAbs < 2 ^ 10 := by omega
    exact Nat.lt_of_lt_of_le this (Nat.pow_le_pow_right (by decide) (by decide))
  · have : m.natAbs < 2 ^ 10 := by omega
    exact Nat.lt_of_lt_of_le this (Nat.pow_le_pow_right (by decide) (by decide))
  · rintro s w3 ⟨rfl, rfl⟩
    exact ⟨⟨_, rfl, in0_of hm (by omega) (by omega)⟩, h3, by omega⟩
theorem s__law_well {ns : List Int} {lap : Nat} {w : W} (hlap : lap ≤ 5) : pf f__law_well [.val (.scr ns), .val (.int lap)] w fun s w' => (∃ a b : Int, s = .own (.lst [.int a, .int b, .int 0]) ∧ 0 ≤ a ∧ 0 ≤ b ∧ b < 2147483587) ∧ w' = w := by
  obtain ⟨md1, d1, d1a, d1b⟩ : ∃ md : Int → Int, (∀ x, dMod (.int x) (.int 2147483587) = some (.int (md x))) ∧ (∀ x, 0 ≤ md x) ∧ ∀ x, md x < 2147483587 :=
    ⟨fun x => x % 2147483587, fun x => by rw [dMod_ok (by decide), Int.fmod_eq_emod_of_nonneg _ (by decide)], fun x => Int.emod_nonneg _ (by decide), fun x => Int.emod_lt_of_pos _ (by decide)⟩
  obtain ⟨md2, d2, d2a, d2b⟩ : ∃ md : Int → Int, (∀ x, dMod (.int x) (.int 2147483549) = some (.int (md x))) ∧ (∀ x, 0 ≤ md x) ∧ ∀ x, md x < 2147483549 :=
    ⟨fun x => x % 2147483549, fun x => by rw [dMod_ok (by decide), Int.fmod_eq_emod_of_nonneg _ (by decide)], fun x => Int.emod_nonneg _ (by decide), fun x => Int.emod_lt_of_pos _ (by decide)⟩
  have m0 : dMul (.int 6121) (.int lap) = some (.int (6121 * lap)) := dMul_ok 20 20 (by decide) (lt_pow (by omega) (by omega)) (by decide)
  have dc : dCut (.scr ns) none (some 16) = some (.lst ((cutL ns none (some 16)).map .int)) := rfl
  unfold f__law_well b__law_well
  rw [pf_mkFn]
  refine ⟨rfl, ?_⟩
  have e0 : [Sl.val (.scr ns), .val (.int lap)] ++ List.replicate (5 - 2) Sl.no = [.val (.scr ns), .val (.int lap), .no, .no, .no] := rfl
  rw [e0]
  refine pw_seq (fun e w1 => (∃ b : Int, e = [.val (.scr ns), .val (.int lap), .val (.int b), .no, .no] ∧ 0 ≤ b ∧ b < 2147483587) ∧ w1 = w) ?_ ?_
  · simp [↓pw_bnd, ↓pw_ret, ↓pw_bad, ↓pw_look_d, ↓pw_frz_d, ↓slotD_val, ↓slotD_own, ↓pw_eC, ↓pw_eInt, ↓pw_eUn, ↓pw_eBin, ↓pw_eTup, ↓pw_eLst, ↓pw_aNil, ↓pw_aCons, ↓pw_tVal, ↓pw_tNot, ↓pw_tAnd, ↓pw_tOr, ↓pw_eAnd, ↓pw_eOr, ↓pw_eNot, ↓pw_eIf, ↓pw_eChain, ↓pw_eIx, ↓pw_ixM_ref, ↓pw_ixM_tup, ↓pw_ixM_lst, ↓pw_ixM_scr, ↓pw_pNone, ↓pw_pSome, ↓pw_eCut, ↓pw_callV, ↓pw_call, ↓pw_eOf, ↓pw_kNil, ↓pw_kVal, ↓pw_kDef, ↓pw_kFn, ↓pw_kLam, ↓pw_cap_nil, ↓pw_cap_cons, ↓pw_eCallS, ↓pc_cloOf, ↓pc_lamC, ↓pw_aStar, ↓pw_eIndex, ↓pw_oVal, ↓pw_oLst, ↓pw_oUn, ↓pw_oBin, ↓pw_oVar, ↓pw_oCut, ↓pw_iSeq, ↓pw_iRange, ↓pw_iEnum, ↓pw_iZip, ↓pw_gVar, ↓pw_gNil, ↓pw_gCons, ↓pw_gTup, ↓pw_gIx, ↓pw_putAt, ↓pw_sNil, ↓pw_sSeq, ↓pw_sRet, ↓pw_sRetN, ↓pw_sBrk, ↓pw_sCnt, ↓pw_sExpr, ↓pw_put, ↓pw_sSet, ↓pw_sPar, ↓pw_sAsg, ↓pw_sIf, ↓pw_sFor, ↓pw_appStep, ↓pw_sAppend, ↓pw_ePopAt, ↓pw_tYes, ↓pw_eVar_c, ↓pw_look_c, ↓pw_frz_c, ↓pw_frz_o, ↓pw_lift_c, ↓pw_lift_o, ↓pw_ite_c, ↓pf_a0, ↓pf_a1, ↓pf_a2, ↓pf_a3, ↓pf_a4, m0]; omega
  rintro e w1 ⟨⟨b, rfl, b1, b2⟩, rfl⟩
  refine pw_seq (fun e w2 => (∃ (a : Sl) (b : Int), e = [.val (.scr ns), .val (.int lap), .val (.int b), a, .no] ∧ 0 ≤ b ∧ b < 2147483587) ∧ w2 = w1) ?_ ?_
  · rw [pw_sFor]
    refine pw_mono (P := fun xs e w2 => xs = (cutL ns none (some 16)).map .int ∧ e = [.val (.scr ns), .val (.int lap), .val (.int b), .no, .no] ∧ w2 = w1) (by simp [↓pw_bnd, ↓pw_ret, ↓pw_bad, ↓pw_look_d, ↓pw_frz_d, ↓slotD_val, ↓slotD_own, ↓pw_eC, ↓pw_eInt, ↓pw_eUn, ↓pw_eBin, ↓pw_eTup, ↓pw_eLst, ↓pw_aNil, ↓pw_aCons, ↓pw_tVal, ↓pw_tNot, ↓pw_tAnd, ↓pw_tOr, ↓pw_eAnd, ↓pw_eOr, ↓pw_eNot, ↓pw_eIf, ↓pw_eChain, ↓pw_eIx, ↓pw_ixM_ref, ↓pw_ixM_tup, ↓pw_ixM_lst, ↓pw_ixM_scr, ↓pw_pNone, ↓pw_pSome, ↓pw_eCut, ↓pw_callV, ↓pw_call, ↓pw_eOf, ↓pw_kNil, ↓pw_kVal, ↓pw_kDef, ↓pw_kFn, ↓pw_kLam, ↓pw_cap_nil, ↓pw_cap_cons, ↓pw_eCallS, ↓pc_cloOf, ↓pc_lamC, ↓pw_aStar, ↓pw_eIndex, ↓pw_oVal, ↓pw_oLst, ↓pw_oUn, ↓pw_oBin, ↓pw_oVar, ↓pw_oCut, ↓pw_iSeq, ↓pw_iRange, ↓pw_iEnum, ↓pw_iZip, ↓pw_gVar, ↓pw_gNil, ↓pw_gCons, ↓pw_gTup, ↓pw_gIx, ↓pw_putAt, ↓pw_sNil, ↓pw_sSeq, ↓pw_sRet, ↓pw_sRetN, ↓pw_sBrk, ↓pw_sCnt, ↓pw_sExpr, ↓pw_put, ↓pw_sSet, ↓pw_sPar, ↓pw_sAsg, ↓pw_sIf, ↓pw_sFor, ↓pw_appStep, ↓pw_sAppend, ↓pw_ePopAt, ↓pw_tYes, ↓pw_eVar_c, ↓pw_look_c, ↓pw_frz_c, ↓pw_frz_o, ↓pw_lift_c, ↓pw_lift_o, ↓pw_ite_c, ↓pf_a0, ↓pf_a1, ↓pf_a2, ↓pf_a3, ↓pf_a4, dc]) ?_
    rintro xs e w2 ⟨rfl, rfl, rfl⟩
    refine pw_forL (fun k e w' => (∃ (a : Sl) (b : Int), e = [.val (.scr ns), .val (.int lap), .val (.int b), a, .no] ∧ 0 ≤ b ∧ b < 2147483587) ∧ w' = w2) ⟨⟨_, _, rfl, by omega, by omega⟩, rfl⟩ ?_ ?_
    · rintro k x e w' hk ⟨⟨a, b, rfl, h1, h2⟩, rfl⟩
      rw [List.getElem?_map] at hk
      obtain ⟨c, hc, rfl⟩ := Option.map_eq_some_iff.mp hk
      have m1 : dMul (.int b) (.int 48271) = some (.int (b * 48271)) := dMul_ok 40 20 (lt_pow h1 (by omega)) (by decide) (by decide)
      simp [↓pw_bnd, ↓pw_ret, ↓pw_bad, ↓pw_look_d, ↓pw_frz_d, ↓slotD_val, ↓slotD_own, ↓pw_eC, ↓pw_eInt, ↓pw_eUn, ↓pw_eBin, ↓pw_eTup, ↓pw_eLst, ↓pw_aNil, ↓pw_aCons, ↓pw_tVal, ↓pw_tNot, ↓pw_tAnd, ↓pw_tOr, ↓pw_eAnd, ↓pw_eOr, ↓pw_eNot, ↓pw_eIf, ↓pw_eChain, ↓pw_eIx, ↓pw_ixM_ref, ↓pw_ixM_tup, ↓pw_ixM_lst, ↓pw_ixM_scr, ↓pw_pNone, ↓pw_pSome, ↓pw_eCut, ↓pw_callV, ↓pw_call, ↓pw_eOf, ↓pw_kNil, ↓pw_kVal, ↓pw_kDef, ↓pw_kFn, ↓pw_kLam, ↓pw_cap_nil, ↓pw_cap_cons, ↓pw_eCallS, ↓pc_cloOf, ↓pc_lamC, ↓pw_aStar, ↓pw_eIndex, ↓pw_oVal, ↓pw_oLst, ↓pw_oUn, ↓pw_oBin, ↓pw_oVar, ↓pw_oCut, ↓pw_iSeq, ↓pw_iRange, ↓pw_iEnum, ↓pw_iZip, ↓pw_gVar, ↓pw_gNil, ↓pw_gCons, ↓pw_gTup, ↓pw_gIx, ↓pw_putAt, ↓pw_sNil, ↓pw_sSeq, ↓pw_sRet, ↓pw_sRetN, ↓pw_sBrk, ↓pw_sCnt, ↓pw_sExpr, ↓pw_put, ↓pw_sSet, ↓pw_sPar, ↓pw_sAsg, ↓pw_sIf, ↓pw_sFor, ↓pw_appStep, ↓pw_sAppend, ↓pw_ePopAt, ↓pw_tYes, ↓pw_eVar_c, ↓pw_look_c, ↓pw_frz_c, ↓pw_frz_o, ↓pw_lift_c, ↓pw_lift_o, ↓pw_ite_c, ↓pf_a0, ↓pf_a1, ↓pf_a2, ↓pf_a3, ↓pf_a4, m1, d1, d2]
      exact ⟨_, _, ⟨rfl, rfl⟩, d1a _, d1b _⟩
    · rintro e w' ⟨h, rfl⟩
      exact ⟨rfl, h, rfl⟩
  rintro e w2 ⟨⟨a, b, rfl, b1, b2⟩, rfl⟩
  refine pw_seq (fun e w3 => (∃ o : Int, e = [.val (.scr ns), .val (.int lap), .val (.int b), a, .val (.int o)]) ∧ w3 = w2) ?_ ?_
  · by_cases hl : (lap : Int) < (ns.length : Int)
    · have hl' : lap < ns.length := by omega
      have ei : dIx (.scr ns) (.int lap) = some (.int ns[lap]) := by
        show Option.map D.int (L2.atI ns (lap : Int)) = _
        rw [atI_nat (List.getElem?_eq_getElem hl')]; rfl
      simp [↓pw_bnd, ↓pw_ret, ↓pw_bad, ↓pw_look_d, ↓pw_frz_d, ↓slotD_val, ↓slotD_own, ↓pw_eC, ↓pw_eInt, ↓pw_eUn, ↓pw_eBin, ↓pw_eTup, ↓pw_eLst, ↓pw_aNil, ↓pw_aCons, ↓pw_tVal, ↓pw_tNot, ↓pw_tAnd, ↓pw_tOr, ↓pw_eAnd, ↓pw_eOr, ↓pw_eNot, ↓pw_eIf, ↓pw_eChain, ↓pw_eIx, ↓pw_ixM_ref, ↓pw_ixM_tup, ↓pw_ixM_lst, ↓pw_ixM_scr, ↓pw_pNone, ↓pw_pSome, ↓pw_eCut, ↓pw_callV, ↓pw_call, ↓pw_eOf, ↓pw_kNil, ↓pw_kVal, ↓pw_kDef, ↓pw_kFn, ↓pw_kLam, ↓pw_cap_nil, ↓pw_cap_cons, ↓pw_eCallS, ↓pc_cloOf, ↓pc_lamC, ↓pw_aStar, ↓pw_eIndex, ↓pw_oVal, ↓pw_oLst, ↓pw_oUn, ↓pw_oBin, ↓pw_oVar, ↓pw_oCut, ↓pw_iSeq, ↓pw_iRange, ↓pw_iEnum, ↓pw_iZip, ↓pw_gVar, ↓pw_gNil, ↓pw_gCons, ↓pw_gTup, ↓pw_gIx, ↓pw_putAt, ↓pw_sNil, ↓pw_sSeq, ↓pw_sRet, ↓pw_sRetN, ↓pw_sBrk, ↓pw_sCnt, ↓pw_sExpr, ↓pw_put, ↓pw_sSet, ↓pw_sPar, ↓pw_sAsg, ↓pw_sIf, ↓pw_sFor, ↓pw_appStep, ↓pw_sAppend, ↓pw_ePopAt, ↓pw_tYes, ↓pw_eVar_c, ↓pw_look_c, ↓pw_frz_c, ↓pw_frz_o, ↓pw_lift_c, ↓pw_lift_o, ↓pw_ite_c, ↓pf_a0, ↓pf_a1, ↓pf_a2, ↓pf_a3, ↓pf_a4, hl, ei]
    · simp [↓pw_bnd, ↓pw_ret, ↓pw_bad, ↓pw_look_d, ↓pw_frz_d, ↓slotD_val, ↓slotD_own, ↓pw_eC, ↓pw_eInt, ↓pw_eUn, ↓pw_eBin, ↓pw_eTup, ↓pw_eLst, ↓pw_aNil, ↓pw_aCons, ↓pw_tVal, ↓pw_tNot, ↓pw_tAnd, ↓pw_tOr, ↓pw_eAnd, ↓pw_eOr, ↓pw_eNot, ↓pw_eIf, ↓pw_eChain, ↓pw_eIx, ↓pw_ixM_ref, ↓pw_ixM_tup, ↓pw_ixM_lst, ↓pw_ixM_scr, ↓pw_pNone, ↓pw_pSome, ↓pw_eCut, ↓pw_callV, ↓pw_call, ↓pw_eOf, ↓pw_kNil, ↓pw_kVal, ↓pw_kDef, ↓pw_kFn, ↓pw_kLam, ↓pw_cap_nil, ↓pw_cap_cons, ↓pw_eCallS, ↓pc_cloOf, ↓pc_lamC, ↓pw_aStar, ↓pw_eIndex, ↓pw_oVal, ↓pw_oLst, ↓pw_oUn, ↓pw_oBin, ↓pw_oVar, ↓pw_oCut, ↓pw_iSeq, ↓pw_iRange, ↓pw_iEnum, ↓pw_iZip, ↓pw_gVar, ↓pw_gNil, ↓pw_gCons, ↓pw_gTup, ↓pw_gIx, ↓pw_putAt, ↓pw_sNil, ↓pw_sSeq, ↓pw_sRet, ↓pw_sRetN, ↓pw_sBrk, ↓pw_sCnt, ↓pw_sExpr, ↓pw_put, ↓pw_sSet, ↓pw_sPar, ↓pw_sAsg, ↓pw_sIf, ↓pw_sFor, ↓pw_appStep, ↓pw_sAppend, ↓pw_ePopAt, ↓pw_tYes, ↓pw_eVar_c, ↓pw_look_c, ↓pw_frz_c, ↓pw_frz_o, ↓pw_lift_c, ↓pw_lift_o, ↓pw_ite_c, ↓pf_a0, ↓pf_a1, ↓pf_a2, ↓pf_a3, ↓pf_a4, hl]
  rintro e w3 ⟨⟨o, rfl⟩, rfl⟩
  refine pw_seq (fun e w4 => (∃ b : Int, e = [.val (.scr ns), .val (.int lap), .val (.int b), a, .val (.int o)] ∧ 0 ≤ b ∧ b < 2147483587) ∧ w4 = w3) ?_ ?_
  · have m1 : dMul (.int b) (.int 53) = some (.int (b * 53)) := dMul_ok 40 20 (lt_pow b1 (by omega)) (by decide) (by decide)
    have m2 : ∀ x : Int, dMul (.int (md2 x)) (.int 15013) = some (.int (md2 x * 15013)) := fun x => dMul_ok 40 20 (lt_pow (d2a x) (by have := d2b x; omega)) (by decide) (by decide)
    simp [↓pw_bnd, ↓pw_ret, ↓pw_bad, ↓pw_look_d, ↓pw_frz_d, ↓slotD_val, ↓slotD_own, ↓pw_eC, ↓pw_eInt, ↓pw_eUn, ↓pw_eBin, ↓pw_eTup, ↓pw_eLst, ↓pw_aNil, ↓pw_aCons, ↓pw_tVal, ↓pw_tNot, ↓pw_tAnd, ↓pw_tOr, ↓pw_eAnd, ↓pw_eOr, ↓pw_eNot, ↓pw_eIf, ↓pw_eChain, ↓pw_eIx, ↓pw_ixM_ref, ↓pw_ixM_tup, ↓pw_ixM_lst, ↓pw_ixM_scr, ↓pw_pNone, ↓pw_pSome, ↓pw_eCut, ↓pw_callV, ↓pw_call, ↓pw_eOf, ↓pw_kNil, ↓pw_kVal, ↓pw_kDef, ↓pw_kFn, ↓pw_kLam, ↓pw_cap_nil, ↓pw_cap_cons, ↓pw_eCallS, ↓pc_cloOf, ↓pc_lamC, ↓pw_aStar, ↓pw_eIndex, ↓pw_oVal, ↓pw_oLst, ↓pw_oUn, ↓pw_oBin, ↓pw_oVar, ↓pw_oCut, ↓pw_iSeq, ↓pw_iRange, ↓pw_iEnum, ↓pw_iZip, ↓pw_gVar, ↓pw_gNil, ↓pw_gCons, ↓pw_gTup, ↓pw_gIx, ↓pw_putAt, ↓pw_sNil, ↓pw_sSeq, ↓pw_sRet, ↓pw_sRetN, ↓pw_sBrk, ↓pw_sCnt, ↓pw_sExpr, ↓pw_put, ↓pw_sSet, ↓pw_sPar, ↓pw_sAsg, ↓pw_sIf, ↓pw_sFor, ↓pw_appStep, ↓pw_sAppend, ↓pw_ePopAt, ↓pw_tYes, ↓pw_eVar_c, ↓pw_look_c, ↓pw_frz_c, ↓pw_frz_o, ↓pw_lift_c, ↓pw_lift_o, ↓pw_ite_c, ↓pf_a0, ↓pf_a1, ↓pf_a2, ↓pf_a3, ↓pf_a4, m1, m2, d1, d2]
    exact ⟨d1a _, d1b _⟩
  rintro e w4 ⟨⟨b, rfl, b1, b2⟩, rfl⟩
  have pw15 : dPow (.int 10) (.int 15) = some (.int 1000000000000000) := by simp [dPow]
  by_cases c1 : o < 0
  · simp [↓pw_bnd, ↓pw_ret, ↓pw_bad, ↓pw_look_d, ↓pw_frz_d, ↓slotD_val, ↓slotD_own, ↓pw_eC, ↓pw_eInt, ↓pw_eUn, ↓pw_eBin, ↓pw_eTup, ↓pw_eLst, ↓pw_aNil, ↓pw_aCons, ↓pw_tVal, ↓pw_tNot, ↓pw_tAnd, ↓pw_tOr, ↓pw_eAnd, ↓pw_eOr, ↓pw_eNot, ↓pw_eIf, ↓pw_eChain, ↓pw_eIx, ↓pw_ixM_ref, ↓pw_ixM_tup, ↓pw_ixM_lst, ↓pw_ixM_scr, ↓pw_pNone, ↓pw_pSome, ↓pw_eCut, ↓pw_callV, ↓pw_call, ↓pw_eOf, ↓pw_kNil, ↓pw_kVal, ↓pw_kDef, ↓pw_kFn, ↓pw_kLam, ↓pw_cap_nil, ↓pw_cap_cons, ↓pw_eCallS, ↓pc_cloOf, ↓pc_lamC, ↓pw_aStar, ↓pw_eIndex, ↓pw_oVal, ↓pw_oLst, ↓pw_oUn, ↓pw_oBin, ↓pw_oVar, ↓pw_oCut, ↓pw_iSeq, ↓pw_iRange, ↓pw_iEnum, ↓pw_iZip, ↓pw_gVar, ↓pw_gNil, ↓pw_gCons, ↓pw_gTup, ↓pw_gIx, ↓pw_putAt, ↓pw_sNil, ↓pw_sSeq, ↓pw_sRet, ↓pw_sRetN, ↓pw_sBrk, ↓pw_sCnt, ↓pw_sExpr, ↓pw_put, ↓pw_sSet, ↓pw_sPar, ↓pw_sAsg, ↓pw_sIf, ↓pw_sFor, ↓pw_appStep, ↓pw_sAppend, ↓pw_ePopAt, ↓pw_tYes, ↓pw_eVar_c, ↓pw_look_c, ↓pw_frz_c, ↓pw_frz_o, ↓pw_lift_c, ↓pw_lift_o, ↓pw_ite_c, ↓pf_a0, ↓pf_a1, ↓pf_a2, ↓pf_a3, ↓pf_a4, c1]
    exact ⟨_, _, ⟨rfl, rfl⟩, by omega, by omega, by omega⟩
  · by_cases c2 : 1000000000000000 ≤ o
    · simp [↓pw_bnd, ↓pw_ret, ↓pw_bad, ↓pw_look_d, ↓pw_frz_d, ↓slotD_val, ↓slotD_own, ↓pw_eC, ↓pw_eInt, ↓pw_eUn, ↓pw_eBin, ↓pw_eTup, ↓pw_eLst, ↓pw_aNil, ↓pw_aCons, ↓pw_tVal, ↓pw_tNot, ↓pw_tAnd, ↓pw_tOr, ↓pw_eAnd, ↓pw_eOr, ↓pw_eNot, ↓pw_eIf, ↓pw_eChain, ↓pw_eIx, ↓pw_ixM_ref, ↓pw_ixM_tup, ↓pw_ixM_lst, ↓pw_ixM_scr, ↓pw_pNone, ↓pw_pSome, ↓pw_eCut, ↓pw_callV, ↓pw_call, ↓pw_eOf, ↓pw_kNil, ↓pw_kVal, ↓pw_kDef, ↓pw_kFn, ↓pw_kLam, ↓pw_cap_nil, ↓pw_cap_cons, ↓pw_eCallS, ↓pc_cloOf, ↓pc_lamC, ↓pw_aStar, ↓pw_eIndex, ↓pw_oVal, ↓pw_oLst, ↓pw_oUn, ↓pw_oBin, ↓pw_oVar, ↓pw_oCut, ↓pw_iSeq, ↓pw_iRange, ↓pw_iEnum, ↓pw_iZip, ↓pw_gVar, ↓pw_gNil, ↓pw_gCons, ↓pw_gTup, ↓pw_gIx, ↓pw_putAt, ↓pw_sNil, ↓pw_sSeq, ↓pw_sRet, ↓pw_sRetN, ↓pw_sBrk, ↓pw_sCnt, ↓pw_sExpr, ↓pw_put, ↓pw_sSet, ↓pw_sPar, ↓pw_sAsg, ↓pw_sIf, ↓pw_sFor, ↓pw_appStep, ↓pw_sAppend, ↓pw_ePopAt, ↓pw_tYes, ↓pw_eVar_c, ↓pw_look_c, ↓pw_frz_c, ↓pw_frz_o, ↓pw_lift_c, ↓pw_lift_o, ↓pw_ite_c, ↓pf_a0, ↓pf_a1, ↓pf_a2, ↓pf_a3, ↓pf_a4, c1, pw15, c2]
      exact ⟨_, _, ⟨rfl, rfl⟩, by omega, by omega, by omega⟩
    · simp [↓pw_bnd, ↓pw_ret, ↓pw_bad, ↓pw_look_d, ↓pw_frz_d, ↓slotD_val, ↓slotD_own, ↓pw_eC, ↓pw_eInt, ↓pw_eUn, ↓pw_eBin, ↓pw_eTup, ↓pw_eLst, ↓pw_aNil, ↓pw_aCons, ↓pw_tVal, ↓pw_tNot, ↓pw_tAnd, ↓pw_tOr, ↓pw_eAnd, ↓pw_eOr, ↓pw_eNot, ↓pw_eIf, ↓pw_eChain, ↓pw_eIx, ↓pw_ixM_ref, ↓pw_ixM_tup, ↓pw_ixM_lst, ↓pw_ixM_scr, ↓pw_pNone, ↓pw_pSome, ↓pw_eCut, ↓pw_callV, ↓pw_call, ↓pw_eOf, ↓pw_kNil, ↓pw_kVal, ↓pw_kDef, ↓pw_kFn, ↓pw_kLam, ↓pw_cap_nil, ↓pw_cap_cons, ↓pw_eCallS, ↓pc_cloOf, ↓pc_lamC, ↓pw_aStar, ↓pw_eIndex, ↓pw_oVal, ↓pw_oLst, ↓pw_oUn, ↓pw_oBin, ↓pw_oVar, ↓pw_oCut, ↓pw_iSeq, ↓pw_iRange, ↓pw_iEnum, ↓pw_iZip, ↓pw_gVar, ↓pw_gNil, ↓pw_gCons, ↓pw_gTup, ↓pw_gIx, ↓pw_putAt, ↓pw_sNil, ↓pw_sSeq, ↓pw_sRet, ↓pw_sRetN, ↓pw_sBrk, ↓pw_sCnt, ↓pw_sExpr, ↓pw_put, ↓pw_sSet, ↓pw_sPar, ↓pw_sAsg, ↓pw_sIf, ↓pw_sFor, ↓pw_appStep, ↓pw_sAppend, ↓pw_ePopAt, ↓pw_tYes, ↓pw_eVar_c, ↓pw_look_c, ↓pw_frz_c, ↓pw_frz_o, ↓pw_lift_c, ↓pw_lift_o, ↓pw_ite_c, ↓pf_a0, ↓pf_a1, ↓pf_a2, ↓pf_a3, ↓pf_a4, c1, pw15, c2]
      exact ⟨_, _, ⟨rfl, rfl⟩, by omega, by omega, by omega⟩
theorem pl_mD (ms : List Rat) (h : ms.length ≤ 5) : Pl 2 (.tup (mD ms)) := .inr ⟨_, rfl, by simp [mD]; omega, fun x hx => by
  obtain ⟨q, _, rfl⟩ := List.mem_map.mp hx
  exact .inr ⟨_, rfl, by simp, fun y hy => by
    simp at hy
    rcases hy with rfl | rfl
    · exact ⟨_, rfl⟩
    · exact ⟨_, rfl⟩⟩⟩
theorem e_same {d : D} {w : W} {P : Sl → W → Prop} (h : Pl 3 d) : pf f__law_same [.val d, .val d] w P = P (.val (.bl true)) w := pf_eq (s__law_same 3 h) P
def In9 (q : Rat) : Prop := q.den ∣ 630 ∧ -1000 ≤ q ∧ q ≤ 1000
def wD (web : Web) : List D := web.map pD
theorem pt_pD (p : Nat × Nat) : Pt 1 (pD p) := .tup fun x hx => by
  simp at hx
  rcases hx with rfl | rfl <;> exact Pt.int
theorem pt_wD {web : Web} : ∀ x ∈ wD web, Pt 1 x := fun x hx => by
  obtain ⟨p, _, rfl⟩ := List.mem_map.mp hx
  exact pt_pD p
theorem pD_inj {p q : Nat × Nat} : pD p = pD q ↔ p = q := by
  obtain ⟨a, b⟩ := p
  obtain ⟨c, d⟩ := q
  simp [pD]
  omega
theorem mem_wD {web : Web} {p : Nat × Nat} : pD p ∈ wD web ↔ p ∈ web := by
  unfold wD
  constructor
  · intro h
    obtain ⟨q, hq, e⟩ := List.mem_map.mp h
    rw [pD_inj] at e; subst e; exact hq
  · exact fun h => List.mem_map.mpr ⟨p, h, rfl⟩
theorem s_is_tie {m : Nat} {p : Nat × Nat} {w : W} (h : p.1 < p.2 ∧ p.2 < m) : pf f_is_tie [.val (.int m), .val (pD p)] w fun s w' => s = .val (.bl true) ∧ w' = w := by
  have h1 : (0 : Int) ≤ p.1 := by omega
  have h2 : (p.1 : Int) ≤ m - 1 := by omega
  have h3 : (p.1 : Int) + 1 ≤ p.2 := by omega
  have h4 : (p.2 : Int) ≤ m - 1 := by omega
  unfold f_is_tie b_is_tie
  simp [pD, h1, h2, h3, h4]
theorem lexLt_pair {a b c d : Int} : HT.lexLt [a, b] [c, d] = decide (a < c ∨ (a = c ∧ b < d)) := by
  simp [HT.lexLt]
  by_cases h : a = c
  · subst h; simp; omega
  · simp [h]
theorem atI_last {α : Type} {xs : List α} {x : α} : L2.atI (xs ++ [x]) (-1) = some x := by
  unfold L2.atI L2.ixN
  rw [if_neg (by decide), if_pos (by simp; omega)]
  simp
  rw [show ((-1 : Int) + ((xs.length : Int) + 1)).toNat = xs.length by omega]
  simp
theorem dLt_pD (p q : Nat × Nat) : dLt (pD p) (pD q) = some (.bl (decide (p.1 < q.1 ∨ (p.1 = q.1 ∧ p.2 < q.2)))) := by
  show (match allI [D.int p.1, .int p.2], allI [D.int q.1, .int q.2] with
    | some ns, some ms => some (D.bl (HT.lexLt ns ms))
    | _, _ => none) = _
  simp only [allI, Option.map_some, lexLt_pair]
  congr 2
  apply decide_eq_decide.mpr
  omega
theorem dEq_wD {xs : Web} : dEq (.tup (wD xs)) (.tup []) = some (.bl (decide (xs = []))) := by
  rw [dEq_pt (Pt.tup (pt_wD (web := xs))) (Pt.tup (n := 0) (xs := []) (by simp)) (by decide) (by decide)]
  congr 2
  apply decide_eq_decide.mpr
  simp [wD]
theorem s_are_below {xs : Web} {p : Nat × Nat} {w : W} (h : ∀ q ∈ xs, q.1 < p.1 ∨ (q.1 = p.1 ∧ q.2 < p.2)) : pf f_are_below [.val (.tup (wD xs)), .val (pD p)] w fun s w' => s = .val (.bl true) ∧ w' = w := by
  unfold f_are_below b_are_below
  rcases List.eq_nil_or_concat xs with rfl | ⟨r, q, rfl⟩
  · have e := dEq_wD (xs := []); simp [e]
  · have e := dEq_wD (xs := r ++ [q])
    have e1 : dIx (.tup (wD (r ++ [q]))) (.int (-1)) = some (pD q) := by
      show L2.atI (wD (r ++ [q])) (-1) = _
      unfold wD
      rw [List.map_append]
      exact atI_last
    have e2 := h q (by simp)
    have e3 : decide (r ++ [q] = []) = false := by simp
    rw [e3] at e
    simp [e, e1, dLt_pD, e2]
@[simp] theorem dEq_int_non' {i : Int} : dEq (.int i) .non = some (.bl false) := dEq_int_non i
theorem s_wrong_in_web {m : Nat} {web : Web} {w : W} (h : WebOk m web) : pf f_wrong_in_web [.val (.int m), .val (.tup (wD web))] w fun s w' => s = .own (.lst []) ∧ w' = w := by
  unfold f_wrong_in_web b_wrong_in_web
  simp
  refine pf_mono (s_wrong_in (xs := wD web) (least := 0) (most := .non) (by decide) (by omega) (fun i hi => dEq_int_non _) fun i x hx => ?_) ?_
  · unfold wD at hx
    rw [List.getElem?_map] at hx
    obtain ⟨p, hp, rfl⟩ := Option.map_eq_some_iff.mp hx
    have k1 := pf_eq (s_is_tie (w := w) (h.tie p (List.mem_of_getElem? hp)))
    have k2 := pf_eq (s_are_below (w := w) (xs := web.take i) (p := p) (by
      intro q hq
      obtain ⟨j, hj, e⟩ := List.mem_iff_getElem.mp hq
      rw [List.length_take] at hj
      rw [List.getElem_take] at e
      have hi := (List.getElem?_eq_some_iff.mp hp)
      obtain ⟨hi1, hi2⟩ := hi
      have := List.pairwise_iff_getElem.mp h.asc j i (by omega) hi1 (by omega)
      rw [e, hi2] at this
      exact this))
    have k3 : wD (web.take i) = (wD web).take i := by unfold wD; rw [List.map_take]
    rw [k3] at k2
    simp [k1, k2]
  · rintro s w' ⟨rfl, rfl⟩
    simp
theorem s_check_web {ms : List Rat} {web : Web} {w : W} (h1 : 1 ≤ ms.length) (h5 : ms.length ≤ 5) (hs : ∀ q ∈ ms, Sz 7000 q) (h : WebOk ms.length web) : pf f_check_web [.val (.tup (mD ms)), .val (.tup (wD web))] w fun s w' => s = .val .non ∧ w' = w := by
  unfold f_check_web b_check_web
  have l : (mD ms).length = ms.length := by simp [mD]
  simp [pf_eq (s_check_lone_minds (w := w) h1 h5 hs), l, pf_eq (s_wrong_in_web (w := w) h), pw_forL_nil]
theorem s_check_many {n : Nat} {w : W} (h : n ≤ 40) : pf f_check_many [.val (.int n)] w fun s w' => s = .val .non ∧ w' = w := by
  have h1 : (n : Int) ≤ 40 := by omega
  have h2 : (0 : Int) ≤ n := by omega
  unfold f_check_many b_check_many f_check_number b_check_number
  simp [h1, h2]
theorem lcm_dvd {a b m : Nat} (h1 : a ∣ m) (h2 : b ∣ m) : Nat.lcm a b ∣ m := Nat.lcm_dvd h1 h2
def lcmD (ms : List Rat) : Nat := ms.foldl (fun b q => Nat.lcm b q.den) 1
theorem lcm_fold (ms : List Rat) : ∀ b : Nat, 0 < b → (∀ q ∈ ms, q.den ∣ 630) → b ∣ 630 → ∀ B, B = ms.foldl (fun b q => Nat.lcm b q.den) b → 0 < B ∧ B ∣ 630 ∧ b ∣ B ∧ ∀ q ∈ ms, q.den ∣ B := by
  induction ms with
  | nil => rintro b hb _ h6 B rfl; exact ⟨hb, h6, Nat.dvd_refl _, by simp⟩
  | cons q r ih =>
    rintro b hb hq h6 B rfl
    rw [List.foldl_cons]
    have hp : 0 < Nat.lcm b q.den := Nat.lcm_pos hb q.den_pos
    obtain ⟨g1, g2, g3, g4⟩ := ih (Nat.lcm b q.den) hp (fun x hx => hq x (List.mem_cons_of_mem _ hx)) (Nat.lcm_dvd h6 (hq q (List.mem_cons_self ..))) _ rfl
    refine ⟨g1, g2, Nat.dvd_trans (Nat.dvd_lcm_left ..) g3, fun x hx => ?_⟩
    rcases List.mem_cons.mp hx with rfl | hx
    · exact Nat.dvd_trans (Nat.dvd_lcm_right ..) g3
    · exact g4 x hx
theorem lcmD_ok {ms : List Rat} (h : ∀ q ∈ ms, In9 q) : 0 < lcmD ms ∧ lcmD ms ∣ 630 ∧ ∀ q ∈ ms, q.den ∣ lcmD ms := by
  obtain ⟨g1, g2, g3, g4⟩ := lcm_fold ms 1 (by decide) (fun q hq => (h q hq).1) (by decide) _ rfl
  exact ⟨g1, g2, g4⟩
theorem dvd9_le {n : Nat} (h : n ∣ 630) : n ≤ 630 := Nat.le_of_dvd (by decide) h
theorem s_common_below {ms : List Rat} {w : W} (h : ∀ q ∈ ms, In9 q) : pf f_common_below [.val (.lst (mD ms))] w fun s w' => s = .val (.int (lcmD ms)) ∧ w' = w := by
  unfold f_common_below b_common_below
  simp
  refine pw_forL (fun i e w' => (∃ a, e = [.val (.lst (mD ms)), .val (.int (lcmD (ms.take i) : Nat)), a]) ∧ w' = w) ⟨⟨_, rfl⟩, rfl⟩ ?_ ?_
  · rintro i x e w' hx ⟨⟨a, rfl⟩, rfl⟩
    unfold mD at hx
    rw [List.getElem?_map] at hx
    obtain ⟨q, hq, rfl⟩ := Option.map_eq_some_iff.mp hx
    have l1 := dvd9_le (lcmD_ok (ms := ms.take i) (fun q hq => h q (List.mem_of_mem_take hq))).2.1
    have l2 := dvd9_le (h q (List.mem_of_getElem? hq)).1
    have e1 : dLcm (.int (lcmD (ms.take i) : Nat)) (.int (q.den : Nat)) = some (.int (lcmD (ms.take (i + 1)) : Nat)) := by
      show (if _ ∧ _ then _ else _) = _
      rw [if_pos (by rw [Int.natAbs_natCast, Int.natAbs_natCast]; omega)]
      rw [List.take_add_one, hq]
      simp [lcmD, Int.lcm]
    simp [rD, e1]
  · rintro e w' ⟨⟨a, rfl⟩, rfl⟩
    have : (ms.take (mD ms).length) = ms := by simp [mD]
    rw [this]
    simp
theorem in9_sz {q : Rat} (h : In9 q) {n : Nat} (hn : 20 ≤ n) : Sz n q := by
  obtain ⟨h1, h2, h3⟩ := h
  have hd := dvd9_le h1
  have hp := q.den_pos
  have hb : q.num.natAbs < 2 ^ 20 := by
    rw [Rat.le_iff] at h2 h3
    simp at h2 h3
    have l : -(1000 * (q.den : Int)) ≤ q.num := by omega
    have u : q.num ≤ 1000 * (q.den : Int) := by omega
    omega
  have m : (2 : Nat) ^ 20 ≤ 2 ^ n := Nat.pow_le_pow_right (by decide) hn
  exact ⟨by omega, by omega⟩
theorem s_whole_of {q : Rat} {B : Nat} {w : W} (h : In9 q) (hB : B ≤ 630) : pf f_whole_of [.val (rD q), .val (.int B)] w fun s w' => s = .val (.int (wI B q)) ∧ w' = w := by
  have sz := in9_sz h (n := 100) (by decide)
  have hp := q.den_pos
  have e1 : dFdiv (.int (B : Nat)) (.int (q.den : Nat)) = some (.int (B / q.den : Nat)) := by
    rw [dFdiv_ok 100 (by omega) (by simpa using sz.2) (by decide), Int.fdiv_eq_ediv_of_nonneg _ (by omega)]
    simp
  have hl : B / q.den ≤ 630 := Nat.le_trans (Nat.div_le_self _ _) hB
  have e2 : dMul (.int q.num) (.int (B / q.den : Nat)) = some (.int (q.num * (B / q.den : Nat))) := dMul_ok 100 100 sz.1 (Nat.lt_of_le_of_lt (show ((B / q.den : Nat) : Int).natAbs ≤ 630 by rw [Int.natAbs_natCast]; exact hl) (by decide)) (by decide)
  unfold f_whole_of b_whole_of
  have e3 : ((B / q.den : Nat) : Int) = (B : Int) / (q.den : Int) := by simp
  rw [e3] at e1 e2
  simp [rD, e1, e2, wI]
def iD (ns : List Int) : List D := ns.map .int
def wMs (B : Nat) (ms : List Rat) : List Int := ms.map (wI B)
theorem s_whole_minds {ms : List Rat} {w : W} (h : ∀ q ∈ ms, In9 q) (hl : ms.length ≤ 5) : pf f_whole_minds [.val (.tup (mD ms))] w fun s w' => s = .val (.tup [.tup (iD (wMs (lcmD ms) ms)), .int (lcmD ms)]) ∧ w' = w := by
  have l : (mD ms).length = ms.length := by simp [mD]
  have l1 : ms.length ≤ 100000 := by omega
  unfold f_whole_minds b_whole_minds
  simp [pf_eq (s_common_below (w := w) h), isOwn, l, l1]
  refine pw_compL (fun i ds e w' => ds = iD (wMs (lcmD ms) (ms.take i)) ∧ (∃ a, e = [.val (.tup (mD ms)), .val (.int (lcmD ms)), a]) ∧ w' = w) ⟨rfl, ⟨_, rfl⟩, rfl⟩ ?_ ?_
  · rintro i x ds e w' hx ⟨rfl, ⟨a, rfl⟩, rfl⟩
    unfold mD at hx
    rw [List.getElem?_map] at hx
    obtain ⟨q, hq, rfl⟩ := Option.map_eq_some_iff.mp hx
    have k := pf_eq (s_whole_of (w := w') (h q (List.mem_of_getElem? hq)) (dvd9_le (lcmD_ok h).2.1))
    simp [wipeE, k]
    rw [List.take_add_one, hq]
    simp [iD, wMs]
  · rintro ds e w' ⟨rfl, ⟨a, rfl⟩, rfl⟩
    rw [l, List.take_length]
    simp [backE]
theorem allI_iD (ns : List Int) : allI (iD ns) = some ns := by
  induction ns with
  | nil => rfl
  | cons a r ih =>
    show (allI (iD r)).map (a :: ·) = _
    rw [ih]; rfl
theorem iD_get {t : List Int} {i : Nat} {x : Int} (h : t[i]? = some x) : dIx (.lst (iD t)) (.int (i : Nat)) = some (.int x) := by
  show L2.atI (iD t) (i : Int) = _
  refine atI_nat ?_
  unfold iD
  rw [List.getElem?_map, h]; rfl
theorem half_pred {n : Nat} (h : 0 < n) : dFdiv (.int ((n : Int) - 1)) (.int 2) = some (.int ((n - 1) / 2 : Nat)) := by
  rw [dFdiv_ok 10 (by decide) (by decide) (by decide), Int.fdiv_eq_ediv_of_nonneg _ (by decide)]
  congr 2; omega
theorem half_of {n : Nat} : dFdiv (.int (n : Int)) (.int 2) = some (.int (n / 2 : Nat)) := by
  rw [dFdiv_ok 10 (by decide) (by decide) (by decide), Int.fdiv_eq_ediv_of_nonneg _ (by decide)]
  congr 2
theorem s_middle_for {own : Int} {xs : List Int} {w : W} (hl : xs.length ≤ 1000) : pf f_middle_for [.val (.int own), .val (.lst (iD xs))] w fun s w' => s = .val (.int (midI own xs)) ∧ w' = w := by
  have hn : ((own :: xs).mergeSort ile).length = xs.length + 1 := by rw [sort_len]; rfl
  have es : dSortI (.lst (.int own :: iD xs)) = some (.lst (iD ((own :: xs).mergeSort ile))) := by
    show (allI (iD (own :: xs))).map _ = _
    rw [allI_iD]; rfl
  have em : midI own xs = (if inear own ((((own :: xs).mergeSort ile)[(((own :: xs).mergeSort ile).length - 1) / 2]?).getD own) ((((own :: xs).mergeSort ile)[((own :: xs).mergeSort ile).length / 2]?).getD own) then ((((own :: xs).mergeSort ile)[(((own :: xs).mergeSort ile).length - 1) / 2]?).getD own) else ((((own :: xs).mergeSort ile)[((own :: xs).mergeSort ile).length / 2]?).getD own)) := rfl
  generalize (own :: xs).mergeSort ile = t at hn es em
  have l1 : (t.length - 1) / 2 < t.length := by omega
  have l2 : t.length / 2 < t.length := by omega
  have g1 := List.getElem?_eq_getElem l1
  have g2 := List.getElem?_eq_getElem l2
  generalize t[(t.length - 1) / 2] = lo at g1
  generalize t[t.length / 2] = hi at g2
  rw [g1, g2] at em
  have il : (iD t).length = t.length := by simp [iD]
  have il2 : (iD xs).length ≤ 99999 := by simp [iD]; omega
  have f1 := half_pred (n := t.length) (by omega)
  have f2 := half_of (n := t.length)
  have x1 := iD_get g1
  have x2 := iD_get g2
  generalize (t.length - 1) / 2 = j1 at f1 x1
  generalize t.length / 2 = j2 at f2 x2
  rw [em]
  unfold f_middle_for b_middle_for
  simp [es, il, il2, f1, f2, x1, x2, inear, iabs]
  refine ⟨fun h => ?_, fun h => ?_⟩
  · exact fun z => absurd z (Int.not_lt.mpr h)
  · exact fun z => absurd z (Int.not_le.mpr h)
def nD (ns : List Nat) : List D := ns.map fun (n : Nat) => .int n
theorem dIn_two {k a b : Nat} : dIn (.int k) (.tup [.int a, .int b]) = some (.bl (decide (k = a ∨ k = b))) := by
  rw [dIn_tup (n := 0) (m := 0) Pt.int (by intro y hy; simp at hy; rcases hy with rfl | rfl <;> exact Pt.int) (by decide) (by decide)]
  congr 2
  apply decide_eq_decide.mpr
  simp
  omega
theorem nbs_snoc {r : Web} {p : Nat × Nat} {k : Nat} : nbs (r ++ [p]) k = nbs r k ++ (if k = p.1 ∨ k = p.2 then [if p.1 = k then p.2 else p.1] else []) := by
  unfold nbs
  rw [List.filter_append, List.map_append]
  congr 1
  by_cases h : k = p.1 ∨ k = p.2
  · simp [h]
  · simp [h]
theorem s_beside {web : Web} {k : Nat} {w : W} (hl : web.length ≤ 100000) : pf f_beside [.val (.tup (wD web)), .val (.int k)] w fun s w' => s = .own (.lst (nD (nbs web k))) ∧ w' = w := by
  have l : (wD web).length = web.length := by simp [wD]
  unfold f_beside b_beside
  simp [isOwn, l, hl]
  refine pw_compL (fun i ds e w' => ds = nD (nbs (web.take i) k) ∧ (∃ a b, e = [.val (.tup (wD web)), .val (.int k), a, b]) ∧ w' = w) ⟨rfl, ⟨_, _, rfl⟩, rfl⟩ ?_ ?_
  · rintro i x ds e w' hx ⟨rfl, ⟨a, b, rfl⟩, rfl⟩
    unfold wD at hx
    rw [List.getElem?_map] at hx
    obtain ⟨p, hp, rfl⟩ := Option.map_eq_some_iff.mp hx
    rw [List.take_add_one, hp]
    simp only [Option.toList_some, nbs_snoc]
    by_cases h : k = p.1 ∨ k = p.2
    · by_cases h2 : p.1 = k
      · simp [wipeE, pD, dIn_two, h, h2, nD]
      · have h3 : ((p.1 : Int) == k) = false := by simp; omega
        simp [wipeE, pD, dIn_two, h, h2, nD, h3]
    · simp [wipeE, pD, dIn_two, h, nD]
  · rintro ds e w' ⟨rfl, ⟨a, b, rfl⟩, rfl⟩
    rw [l, List.take_length]
    simp [backE]
def stepI (web : Web) (ws : List Int) : List Int := (List.range ws.length).map fun k => midI (ws[k]?.getD 0) ((nbs web k).map fun j => ws[j]?.getD 0)
theorem s_next_minds {web : Web} {ws : List Int} {w : W} (h : WebOk ws.length web) (hl : web.length ≤ 1000) (hw : ws.length ≤ 1000) : pf f_next_minds [.val (.tup (wD web)), .val (.tup (iD ws))] w fun s w' => s = .val (.tup (iD (stepI web ws))) ∧ w' = w := by
  have l : (iD ws).length = ws.length := by simp [iD]
  have l2 : (enumD 0 (iD ws)).length = ws.length := by rw [enumD_length, l]
  have l3 : ws.length ≤ 100000 := by omega
  unfold f_next_minds b_next_minds
  simp [isOwn, l2, l3]
  refine pw_compL (fun i ds e w' => ds = iD (((List.range ws.length).take i).map fun k => midI (ws[k]?.getD 0) ((nbs web k).map fun j => ws[j]?.getD 0)) ∧ (∃ a b, e = [.val (.tup (wD web)), .val (.tup (iD ws)), a, b, .no]) ∧ w' = w) ⟨rfl, ⟨_, _, rfl⟩, rfl⟩ ?_ ?_
  · rintro i x ds e w' hx ⟨rfl, ⟨a, b, rfl⟩, rfl⟩
    rw [enumD_get] at hx
    obtain ⟨y, hy, rfl⟩ := Option.map_eq_some_iff.mp hx
    unfold iD at hy
    rw [List.getElem?_map] at hy
    obtain ⟨q, hq, rfl⟩ := Option.map_eq_some_iff.mp hy
    have hi := (List.getElem?_eq_some_iff.mp hq).1
    have k1 := pf_eq (s_beside (w := w') (web := web) (k := i) (by omega))
    have l4 : (nD (nbs web i)).length ≤ 1000 := by
      simp only [nD, List.length_map]
      unfold nbs
      rw [List.length_map]
      exact Nat.le_trans (List.length_filter_le _ _) hl
    have l5 : (nD (nbs web i)).length ≤ 100000 := by omega
    simp [wipeE, isOwn, k1, l5]
    refine pw_compL (fun j ds e w2 => ds = iD (((nbs web i).take j).map fun j => ws[j]?.getD 0) ∧ (∃ a, e = [.val (.tup (wD web)), .val (.tup (iD ws)), .val (.int i), .val (.int q), a]) ∧ w2 = w') ⟨rfl, ⟨_, rfl⟩, rfl⟩ ?_ ?_
    · rintro j x ds e w2 hx ⟨rfl, ⟨a, rfl⟩, rfl⟩
      unfold nD at hx
      rw [List.getElem?_map] at hx
      obtain ⟨n, hn, rfl⟩ := Option.map_eq_some_iff.mp hx
      have hlt := nbs_lt h (List.mem_of_getElem? hn)
      have g := List.getElem?_eq_getElem hlt
      have e1 : dIx (.tup (iD ws)) (.int (n : Nat)) = some (.int (ws[n]?.getD 0)) := by
        show L2.atI (iD ws) (n : Int) = _
        refine atI_nat ?_
        unfold iD
        rw [List.getElem?_map, g]; rfl
      simp [wipeE, e1]
      rw [List.take_add_one, List.getElem?_map, hn]
      simp [iD]
    · rintro ds e w2 ⟨rfl, ⟨a, rfl⟩, rfl⟩
      have l6 : (nD (nbs web i)).length = (nbs web i).length := by simp [nD]
      rw [l6] at l4
      rw [l6, List.take_length]
      have k2 := pf_eq (s_middle_for (w := w2) (own := q) (xs := (nbs web i).map fun j => ws[j]?.getD 0) (by rw [List.length_map]; exact l4))
      simp [backE, k2]
      rw [Nat.min_eq_left (by omega), Nat.min_eq_left (by omega), List.range_succ]
      simp [iD, hq]
  · rintro ds e w' ⟨rfl, ⟨a, b, rfl⟩, rfl⟩
    rw [l2, List.take_of_length_le (by simp)]
    simp [backE, stepI]
theorem stepI_wMs {B : Nat} (hB : 0 < B) {web : Web} {ms : List Rat} (h : WebOk ms.length web) (hd : ∀ q ∈ ms, q.den ∣ B) : stepI web (wMs B ms) = wMs B (stepM web ms) := by
  unfold stepI stepM
  have l : (wMs B ms).length = ms.length := by simp [wMs]
  rw [l]
  show _ = List.map (wI B) _
  rw [List.map_map]
  refine List.map_congr_left fun k hk => ?_
  rw [List.mem_range] at hk
  have hg : ∀ j, j < ms.length → (wMs B ms)[j]?.getD 0 = wI B (ms[j]?.getD 0) := fun j hj => by
    unfold wMs
    rw [List.getElem?_map, List.getElem?_eq_getElem hj]; rfl
  have hm : ∀ j, j < ms.length → ms[j]?.getD 0 ∈ ms := fun j hj => by rw [List.getElem?_eq_getElem hj]; exact List.getElem_mem hj
  rw [hg k hk]
  have e : ((nbs web k).map fun j => (wMs B ms)[j]?.getD 0) = ((nbs web k).map fun j => ms[j]?.getD 0).map (wI B) := by
    rw [List.map_map]
    exact List.map_congr_left fun j hj => hg j (nbs_lt h hj)
  rw [e]
  show _ = wI B (mid _ _)
  refine midI_map hB fun q hq => ?_
  rcases List.mem_cons.mp hq with rfl | hq
  · exact hd _ (hm k hk)
  · obtain ⟨j, hj, rfl⟩ := List.mem_map.mp hq
    exact hd _ (hm j (nbs_lt h hj))
theorem divInt_wI {B : Nat} (hB : 0 < B) {q : Rat} (h : q.den ∣ B) : Rat.divInt (wI B q) B = q := by
  obtain ⟨c, rfl⟩ := h
  have hp := q.den_pos
  have hc : 0 < c := Nat.pos_of_ne_zero (by rintro rfl; simp at hB)
  unfold wI
  rw [Nat.mul_div_cancel_left _ hp, Int.natCast_mul, Rat.divInt_mul_right (by omega)]
  exact Rat.num_divInt_den q
theorem s_middles_by {ms : List Rat} {web : Web} {n : Nat} {w : W} (h : ∀ q ∈ ms, In9 q) (hl : ms.length ≤ 5) (hw : WebOk ms.length web) (hwl : web.length ≤ 1000) (hn : n ≤ 40) : pf f_middles_by [.val (.tup (mD ms)), .val (.tup (wD web)), .val (.int n)] w fun s w' => s = .val (.tup (mD (stepsM web n ms))) ∧ w' = w := by
  obtain ⟨b1, b2, b3⟩ := lcmD_ok h
  have b6 := dvd9_le b2
  have k1 := pf_eq (s_whole_minds (w := w) h hl)
  generalize hB : lcmD ms = B at *
  have q1 : (n : Int) ≤ 100000 := by omega
  have q2 : (-100000 : Int) ≤ n := by omega
  unfold f_middles_by b_middles_by
  simp [k1, q1, q2]
  refine pw_forL (fun i e w' => (∃ a, e = [.val (.tup (mD ms)), .val (.tup (wD web)), .val (.int n), a, .val (.tup (iD (wMs B (stepsM web i ms)))), .val (.int B), .no]) ∧ w' = w) ⟨⟨_, rfl⟩, rfl⟩ ?_ ?_
  · rintro i x e w' hx ⟨⟨a, rfl⟩, rfl⟩
    have hd : ∀ q ∈ stepsM web i ms, q.den ∣ B := fun q hq => b3 q (stepsM_mem hw q hq)
    have hw2 : WebOk (stepsM web i ms).length web := by rw [stepsM_len]; exact hw
    have hl2 : (wMs B (stepsM web i ms)).length = ms.length := by simp [wMs]
    have k2 := pf_eq (s_next_minds (w := w') (web := web) (ws := wMs B (stepsM web i ms)) (by rw [hl2]; exact hw) hwl (by omega))
    rw [stepI_wMs b1 hw2 hd] at k2
    simp [k2, stepsM]
  · rintro e w' ⟨⟨a, rfl⟩, rfl⟩
    have hl2 : (iD (wMs B (stepsM web n ms))).length = ms.length := by simp [wMs, iD]
    have l1 : ms.length ≤ 100000 := by omega
    simp [isOwn, hl2, l1]
    refine pw_compL (fun i ds e w2 => ds = mD ((stepsM web n ms).take i) ∧ (∃ a b, e = [.val (.tup (mD ms)), .val (.tup (wD web)), .val (.int n), a, .val (.tup (iD (wMs B (stepsM web n ms)))), .val (.int B), b]) ∧ w2 = w') ⟨rfl, ⟨_, _, rfl⟩, rfl⟩ ?_ ?_
    · rintro i x ds e w2 hx ⟨rfl, ⟨a, b, rfl⟩, rfl⟩
      unfold iD wMs at hx
      rw [List.getElem?_map, List.getElem?_map] at hx
      obtain ⟨y, hy, rfl⟩ := Option.map_eq_some_iff.mp hx
      obtain ⟨q, hq, rfl⟩ := Option.map_eq_some_iff.mp hy
      have hm := stepsM_mem hw q (List.mem_of_getElem? hq)
      have sz := in9_sz (h q hm) (n := 100) (by decide)
      have k3 := pf_eq (s_lowest (w := w2) (n := wI B q) (d := B) (by omega) (by
        have h1 := natAbs_mul_lt (i := q.num) (j := (B / q.den : Nat)) sz.1 (m := 100) (Nat.lt_of_le_of_lt (show ((B / q.den : Nat) : Int).natAbs ≤ 630 by rw [Int.natAbs_natCast]; exact Nat.le_trans (Nat.div_le_self _ _) b6) (by decide))
        exact Nat.lt_of_lt_of_le h1 (Nat.pow_le_pow_right (by decide) (by decide))) (Nat.lt_of_le_of_lt (show ((B : Int)).natAbs ≤ 2 ^ 10 by omega) (Nat.pow_lt_pow_right (by decide) (by decide))))
      rw [divInt_wI b1 (b3 q hm)] at k3
      simp [wipeE, k3]
      rw [List.take_add_one, hq]
      simp [mD]
    · rintro ds e w2 ⟨rfl, ⟨a, b, rfl⟩, rfl⟩
      rw [hl2, List.take_of_length_le (by simp)]
      simp [backE]
theorem s_middles_after {ms : List Rat} {web : Web} {n : Nat} {w : W} (h : ∀ q ∈ ms, In9 q) (h1 : 1 ≤ ms.length) (hl : ms.length ≤ 5) (hw : WebOk ms.length web) (hwl : web.length ≤ 1000) (hn : n ≤ 40) : pf f_middles_after [.val (.tup (mD ms)), .val (.tup (wD web)), .val (.int n)] w fun s w' => s = .val (.tup (mD (stepsM web n ms))) ∧ w' = w := by
  unfold f_middles_after b_middles_after
  simp [pf_eq (s_check_web (w := w) h1 hl (fun q hq => in9_sz (h q hq) (by decide)) hw), pf_eq (s_check_many (w := w) hn), pf_eq (s_middles_by (w := w) h hl hw hwl hn)]
theorem ins_mem {fs : List Rat} {v : Rat} {n : Nat} : (fs.take n ++ [v] ++ fs.drop n).Perm (v :: fs) := by
  have h : (fs.take n ++ [v] ++ fs.drop n).Perm ([v] ++ fs.take n ++ fs.drop n) := (List.perm_append_comm).append_right _
  refine h.trans ?_
  rw [List.append_assoc, List.take_append_drop]
  exact List.Perm.refl _
theorem ins_sorted {fs : List Rat} {v : Rat} (h : fs.Pairwise (· ≤ ·)) : (fs.take (fs.filter fun x => decide (x ≤ v)).length ++ [v] ++ fs.drop (fs.filter fun x => decide (x ≤ v)).length).Pairwise (· ≤ ·) := by
  induction fs with
  | nil => simp
  | cons a r ih =>
    rw [List.pairwise_cons] at h
    by_cases c : a ≤ v
    · rw [List.filter_cons_of_pos (by simpa using c)]
      simp only [List.length_cons, List.take_succ_cons, List.drop_succ_cons, List.cons_append]
      rw [List.pairwise_cons]
      refine ⟨fun x hx => ?_, ih h.2⟩
      rw [(ins_mem (fs := r) (v := v)).mem_iff] at hx
      rcases List.mem_cons.mp hx with rfl | hx
      · exact c
      · exact h.1 x hx
    · have e : ((a :: r).filter fun x => decide (x ≤ v)) = [] := by
        rw [List.filter_eq_nil_iff]
        intro x hx
        simp only [decide_eq_true_eq]
        rcases List.mem_cons.mp hx with rfl | hx
        · exact c
        · have := h.1 x hx
          intro z
          exact c (Rat.le_trans this z)
      rw [e]
      have hva : v ≤ a := by
        rcases Rat.le_total (a := a) (b := v) with z | z
        · exact absurd z c
        · exact z
      simp only [List.length_nil, List.take_zero, List.drop_zero, List.nil_append, List.singleton_append]
      rw [List.pairwise_cons]
      refine ⟨fun x hx => ?_, List.pairwise_cons.mpr h⟩
      rcases List.mem_cons.mp hx with rfl | hx
      · exact hva
      · exact Rat.le_trans hva (h.1 x hx)
theorem srt_snoc {xs : List Rat} {v : Rat} : srt (xs ++ [v]) = (srt xs).take ((srt xs).filter fun x => decide (x ≤ v)).length ++ [v] ++ (srt xs).drop ((srt xs).filter fun x => decide (x ≤ v)).length := by
  refine (srt_eq ?_ (ins_sorted (srt_sorted xs))).symm
  refine ins_mem.trans ?_
  refine ((List.mergeSort_perm xs rle).cons v).trans ?_
  exact (List.perm_append_comm (l₁ := [v]) (l₂ := xs))
theorem mem_srt {xs : List Rat} {q : Rat} : q ∈ srt xs ↔ q ∈ xs := (List.mergeSort_perm xs rle).mem_iff
theorem srt_len {xs : List Rat} : (srt xs).length = xs.length := sort_len
theorem s__law_ascending {xs : List Rat} {w : W} (h : ∀ q ∈ xs, Sz 3000 q) (hl : xs.length ≤ 1000) : pf f__law_ascending [.val (.lst (mD xs))] w fun s w' => (s = .val (.lst (mD (srt xs))) ∨ s = .own (.lst (mD (srt xs)))) ∧ w' = w := by
  unfold f__law_ascending b__law_ascending
  simp
  refine pw_forL (fun i e w' => (∃ a b s, e = [.val (.lst (mD xs)), s, a, b, .no] ∧ (s = .val (.lst (mD (srt (xs.take i)))) ∨ s = .own (.lst (mD (srt (xs.take i)))))) ∧ w' = w) ⟨⟨_, _, _, rfl, .inr (by simp [srt, mD])⟩, rfl⟩ ?_ ?_
  · rintro i x e w' hx ⟨⟨a, b, s, rfl, hs⟩, rfl⟩
    unfold mD at hx
    rw [List.getElem?_map] at hx
    obtain ⟨v, hv, rfl⟩ := Option.map_eq_some_iff.mp hx
    have zv := h v (List.mem_of_getElem? hv)
    have zf : ∀ q ∈ srt (xs.take i), Sz 3000 q := fun q hq => h q (List.mem_of_mem_take (mem_srt.mp hq))
    have e1 : srt (xs.take (i + 1)) = srt (xs.take i ++ [v]) := by rw [List.take_add_one, hv]; rfl
    have ln : (srt (xs.take i)).length ≤ 1000 := by rw [srt_len, List.length_take]; omega
    rw [e1, srt_snoc]
    clear e1
    generalize srt (xs.take i) = fs at *
    have ln2 : (mD fs).length ≤ 100000 := by simp [mD]; omega
    have key : ∀ (s0 : Sl), slotD (some s0) = some (.lst (mD fs)) → ∀ PL : List D → Env → W → Prop,
        (∀ e a, e = [.val (.lst (mD xs)), s0, .val (rD v), b, a] → PL (mD (fs.filter fun x => decide (x ≤ v))) e w') →
        pw (compL [4] (gVar 4) (tVal (eOf (callV f__law_upto id (aCons (eVar 4) (aCons (eVar 2) aNil))))) (eVar 4) (mD fs)) [.val (.lst (mD xs)), s0, .val (rD v), b, .no] w' PL := by
      intro s0 h0 PL hP
      refine pw_compL (fun j ds e w2 => ds = mD ((fs.take j).filter fun x => decide (x ≤ v)) ∧ (∃ a, e = [.val (.lst (mD xs)), s0, .val (rD v), b, a]) ∧ w2 = w') ⟨rfl, ⟨_, rfl⟩, rfl⟩ ?_ ?_
      · rintro j x ds e w2 hx ⟨rfl, ⟨a, rfl⟩, rfl⟩
        unfold mD at hx
        rw [List.getElem?_map] at hx
        obtain ⟨u, hu, rfl⟩ := Option.map_eq_some_iff.mp hx
        have k := pf_eq (s__law_upto (w := w2) (zf u (List.mem_of_getElem? hu)) zv)
        rw [List.take_add_one, hu]
        by_cases c : u ≤ v <;> simp [wipeE, k, c, mD]
      · rintro ds e w2 ⟨rfl, ⟨a, rfl⟩, rfl⟩
        have : fs.take (mD fs).length = fs := by simp [mD]
        rw [this]
        exact hP _ a rfl
    generalize hc : (fs.filter fun x => decide (x ≤ v)) = cs at *
    have cl : cs.length ≤ fs.length := by rw [← hc]; exact List.length_filter_le _ _
    have l1 : (mD cs).length = cs.length := by simp [mD]
    have c1 : cutL (mD fs) none (some (cs.length : Int)) = mD (fs.take cs.length) := by
      rw [cutL_to (by simp [mD]; exact cl)]; simp [mD, List.map_take]
    have c2 : cutL (mD fs) (some (cs.length : Int)) none = mD (fs.drop cs.length) := by
      rw [cutL_from (by simp [mD]; exact cl)]; simp [mD, List.map_drop]
    have a1 : dAdd (.lst (mD (fs.take cs.length))) (.lst [rD v]) = some (.lst (mD (fs.take cs.length ++ [v]))) := by
      show (if _ then _ else _) = _
      rw [if_pos (by simp [mD]; omega)]; simp [mD]
    have a2 : dAdd (.lst (mD (fs.take cs.length ++ [v]))) (.lst (mD (fs.drop cs.length))) = some (.lst (mD (fs.take cs.length ++ [v] ++ fs.drop cs.length))) := by
      show (if _ then _ else _) = _
      rw [if_pos (by simp [mD]; omega)]; simp [mD]
    rcases hs with rfl | rfl
    · simp [isOwn, ln2]
      refine key _ rfl _ ?_
      rintro e a' rfl
      simp only [List.append_assoc] at a1 a2
      simp [backE, l1, c1, c2, a1, a2]
      exact ⟨_, _, _, ⟨rfl, rfl, rfl⟩, .inl rfl⟩
    · simp [isOwn, ln2]
      refine key _ rfl _ ?_
      rintro e a' rfl
      simp only [List.append_assoc] at a1 a2
      simp [backE, l1, c1, c2, a1, a2]
      exact ⟨_, _, _, ⟨rfl, rfl, rfl⟩, .inl rfl⟩
  · rintro e w' ⟨⟨a, b, s, rfl, hs⟩, rfl⟩
    have : (xs.take (mD xs).length) = xs := by simp [mD]
    rw [this] at hs
    rcases hs with rfl | rfl <;> simp
theorem s__law_less {q : Rat} {w : W} : pf f__law_less [.val (rD q)] w fun s w' => s = .val (rD (-q)) ∧ w' = w := by
  unfold f__law_less b__law_less
  simp [rD]
theorem Sz_neg {n : Nat} {q : Rat} (h : Sz n q) : Sz n (-q) := by
  unfold Sz at *
  simpa using h
theorem rD_abs {q : Rat} : D.tup [.int (if q.num < 0 then -q.num else q.num), .int q.den] = rD (rabs q) := by
  unfold rabs rD
  have : q < 0 ↔ q.num < 0 := by simp [Rat.lt_iff]
  by_cases h : q.num < 0
  · rw [if_pos h, if_pos (this.mpr h)]; simp
  · rw [if_neg h, if_neg (fun z => h (this.mp z))]
theorem s__law_far {a b : Rat} {w : W} (ha : Sz 3000 a) (hb : Sz 3000 b) : pf f__law_far [.val (rD a), .val (rD b)] w fun s w' => s = .val (rD (rabs (a - b))) ∧ w' = w := by
  have k1 := pf_eq (s__law_less (w := w) (q := b))
  have k2 := pf_eq (s__law_add (w := w) ha (Sz_neg hb))
  have e1 : a + -b = a - b := by grind
  rw [e1] at k2
  have i0 : dIx (rD (a - b)) (.int 0) = some (.int (a - b).num) := rfl
  have i1 : dIx (rD (a - b)) (.int 1) = some (.int (a - b).den) := rfl
  have t : ∀ i : D, ∀ PO e w', pw (ixM (rD (a - b)) i) e w' PO = pw (lift ((dIx (rD (a - b)) i).map Opd.d)) e w' PO := fun i PO e w' => pw_ixM_tup
  unfold f__law_far b__law_far
  simp [k1, k2, t, i0, i1]
  exact rD_abs
theorem rabs_comm {a b : Rat} : rabs (a - b) = rabs (b - a) := by
  unfold rabs
  split <;> split <;> grind
theorem rabs_cases (q : Rat) : rabs q = q ∨ rabs q = -q := by
  unfold rabs; split
  · exact .inr rfl
  · exact .inl rfl
theorem Sz_rabs {n : Nat} {q : Rat} (h : Sz n q) : Sz n (rabs q) := by
  rcases rabs_cases q with e | e <;> rw [e]
  · exact h
  · exact Sz_neg h
theorem Sz_sub {a b : Rat} {n : Nat} (ha : Sz n a) (hb : Sz n b) : Sz (n + n + 1) (a - b) := by
  have := Sz_add ha (Sz_neg hb)
  rwa [show a + -b = a - b by grind] at this
theorem dIn_wD {web : Web} {a b : Nat} : dIn (.tup [.int a, .int b]) (.tup (wD web)) = some (.bl (decide ((a, b) ∈ web))) := by
  have e : D.tup [.int a, .int b] = pD (a, b) := rfl
  rw [e, dIn_tup (pt_pD (a, b)) (pt_wD (web := web)) (by decide) (by decide)]
  congr 2
  apply decide_eq_decide.mpr
  exact mem_wD
theorem dMin_nat {a b : Nat} : dMin (.int a) (.int b) = some (.int (min a b : Nat)) := by
  rw [dMin_int]; congr 2; split <;> omega
theorem dMax_nat {a b : Nat} : dMax (.int a) (.int b) = some (.int (max a b : Nat)) := by
  rw [dMax_int]; congr 2; split <;> omega
theorem mid_nbs {web : Web} {ms : List Rat} (h : WebOk ms.length web) {k : Nat} : mid (ms[k]?.getD 0) ((nbs web k).map fun j => ms[j]?.getD 0) = mid (ms[k]?.getD 0) ((nbL ms.length web k).map fun j => ms[j]?.getD 0) := mid_perm ((nbs_perm h k).map _)
theorem mD_ix {ms : List Rat} {i : Nat} (h : i < ms.length) : dIx (.tup (mD ms)) (.int (i : Nat)) = some (rD (ms[i]?.getD 0)) := mD_get h
theorem mD_ixl {ms : List Rat} {i : Nat} (h : i < ms.length) : dIx (.lst (mD ms)) (.int (i : Nat)) = some (rD (ms[i]?.getD 0)) := mD_get h
theorem s__law_middles {ms : List Rat} {web : Web} {w : W} (hs : ∀ q ∈ ms, Sz 1000 q) (hl : ms.length ≤ 100) (h : WebOk ms.length web) : pf f__law_middles [.val (.tup (mD ms)), .val (.tup (wD web))] w fun s w' => s = .val (.tup (mD (stepM web ms))) ∧ w' = w := by
  have l : (mD ms).length = ms.length := by simp [mD]
  have q1 : (ms.length : Int) ≤ 100000 := by omega
  have q2 : (-100000 : Int) ≤ ms.length := by omega
  have q3 : ms.length ≤ 100000 := by omega
  have hg : ∀ j, j < ms.length → ms[j]?.getD 0 ∈ ms := fun j hj => by rw [List.getElem?_eq_getElem hj]; exact List.getElem_mem hj
  unfold f__law_middles b__law_middles
  simp [l, q1, q2]
  refine pw_forL (fun i e w' => (∃ a b c d f, e = [.val (.tup (mD ms)), .val (.tup (wD web)), .own (.lst (mD (((List.range ms.length).take i).map fun k => mid (ms[k]?.getD 0) ((nbs web k).map fun j => ms[j]?.getD 0)))), a, b, c, d, f, .no]) ∧ w' = w) ⟨⟨_, _, _, _, _, rfl⟩, rfl⟩ ?_ ?_
  · rintro k x e w' hx ⟨⟨a, b, c, d, f, rfl⟩, rfl⟩
    have hk := (List.getElem?_eq_some_iff.mp hx).1
    simp at hk
    rw [List.getElem?_map, List.getElem?_range hk] at hx
    obtain rfl := Option.some.inj hx
    rw [List.take_add_one, List.getElem?_range hk]
    rw [List.map_append]
    simp only [Option.toList_some, List.map_cons, List.map_nil]
    rw [mid_nbs h]
    have hacc : (((List.range ms.length).take k).map fun k => mid (ms[k]?.getD 0) ((nbs web k).map fun j => ms[j]?.getD 0)).length ≤ 100 := by
      simp; omega
    generalize (((List.range ms.length).take k).map fun k => mid (ms[k]?.getD 0) ((nbs web k).map fun j => ms[j]?.getD 0)) = acc at *
    have x0 := mD_ix hk
    simp [isOwn, l, q1, q2, q3, x0]
    have e0 : dIx (.tup (mD ms)) (.int k) = some (rD (ms[k]?.getD 0)) := mD_ix hk
    have hown := hg k hk
    generalize ms[k]?.getD 0 = own at *
    refine pw_compL (fun j ds e w2 => ds = mD ((((List.range ms.length).take j).filter fun j => decide ((min j k, max j k) ∈ web)).map fun j => ms[j]?.getD 0) ∧ (∃ z, e = [.val (.tup (mD ms)), .val (.tup (wD web)), .own (.lst (mD acc)), .val (.int k), b, c, d, f, z]) ∧ w2 = w') ⟨rfl, ⟨_, rfl⟩, rfl⟩ ?_ ?_
    · rintro j x ds e w2 hx ⟨rfl, ⟨z, rfl⟩, rfl⟩
      have hj := (List.getElem?_eq_some_iff.mp hx).1
      simp at hj
      rw [List.getElem?_map, List.getElem?_range hj] at hx
      obtain rfl := Option.some.inj hx
      rw [List.take_add_one, List.getElem?_range hj]
      have y1 := mD_ix hj
      simp only [Option.toList_some, List.filter_append, List.map_append]
      have ef : [j].filter (fun j => decide ((min j k, max j k) ∈ web)) = if (min j k, max j k) ∈ web then [j] else [] := by
        by_cases hc : (min j k, max j k) ∈ web <;> simp [hc]
      rw [ef]
      have y2 : dIx (.tup (List.map rD ms)) (.int (j : Nat)) = some (rD (ms[j]?.getD 0)) := y1
      clear ef
      have m1 : (if k < j then (k : Int) else (j : Int)) = ((min j k : Nat) : Int) := by split <;> omega
      have m2 : (if j < k then (k : Int) else (j : Int)) = ((max j k : Nat) : Int) := by split <;> omega
      have m3 := dIn_wD (web := web) (a := min j k) (b := max j k)
      generalize min j k = mn at *
      generalize max j k = mx at *
      by_cases hc : (mn, mx) ∈ web
      · simp [wipeE, m1, m2, m3, hc, y2, mD]
      · simp [wipeE, m1, m2, m3, hc, mD]
    · rintro ds e w2 ⟨rfl, ⟨z, rfl⟩, rfl⟩
      have et : ((List.range ms.length).take ((List.range ms.length).map fun (k : Nat) => D.int k).length) = List.range ms.length := by simp
      rw [et]
      have en : ((List.range ms.length).filter fun j => decide ((min j k, max j k) ∈ web)) = nbL ms.length web k := rfl
      rw [en]
      have hxs : ∀ q ∈ (nbL ms.length web k).map (fun j => ms[j]?.getD 0), q ∈ ms := fun q hq => by
        obtain ⟨j, hj, rfl⟩ := List.mem_map.mp hq
        unfold nbL at hj
        exact hg j (by simpa using (List.mem_filter.mp hj).1)
      have hxl : ((nbL ms.length web k).map (fun j => ms[j]?.getD 0)).length ≤ 100 := by
        rw [List.length_map]
        unfold nbL
        refine Nat.le_trans (List.length_filter_le _ _) ?_
        simp; exact hl
      have em : mid own ((nbL ms.length web k).map fun j => ms[j]?.getD 0) = _ := rfl
      generalize ((nbL ms.length web k).map fun j => ms[j]?.getD 0) = xs at *
      have hall : ∀ q ∈ own :: xs, q ∈ ms := fun q hq => by
        rcases List.mem_cons.mp hq with rfl | hq
        · exact hown
        · exact hxs q hq
      have cat : dCatL (.lst [rD own]) (.lst (mD xs)) = some (.lst (mD (own :: xs))) := by
        show (if _ then _ else _) = _
        rw [if_pos (by simp [mD]; omega)]; simp [mD]
      simp [backE, cat]
      refine pf_mono (s__law_ascending (xs := own :: xs) (fun q hq => Sz_mono (hs q (hall q hq)) (by decide)) (by simp; omega)) ?_
      have tl : (srt (own :: xs)).length = xs.length + 1 := by rw [srt_len]; rfl
      have tm : ∀ q ∈ srt (own :: xs), q ∈ ms := fun q hq => hall q (mem_srt.mp hq)
      have em' : mid own xs = (if rnear own ((srt (own :: xs))[((srt (own :: xs)).length - 1) / 2]?.getD own) ((srt (own :: xs))[(srt (own :: xs)).length / 2]?.getD own) then ((srt (own :: xs))[((srt (own :: xs)).length - 1) / 2]?.getD own) else ((srt (own :: xs))[(srt (own :: xs)).length / 2]?.getD own)) := rfl
      rw [em']
      generalize srt (own :: xs) = t at *
      have l1 : (t.length - 1) / 2 < t.length := by omega
      have l2 : t.length / 2 < t.length := by omega
      have g1 := List.getElem?_eq_getElem l1
      have g2 := List.getElem?_eq_getElem l2
      have mlo := tm _ (List.getElem_mem l1)
      have mhi := tm _ (List.getElem_mem l2)
      have x1 := mD_ixl l1
      have x2 := mD_ixl l2
      rw [g1] at x1 ⊢
      rw [g2] at x2 ⊢
      generalize t[(t.length - 1) / 2] = lo at *
      generalize t[t.length / 2] = hi at *
      have il : (mD t).length = t.length := by simp [mD]
      have f1 := half_pred (n := t.length) (by omega)
      have f2 := half_of (n := t.length)
      generalize (t.length - 1) / 2 = j1 at *
      generalize t.length / 2 = j2 at *
      simp only [Option.getD_some] at x1 x2 ⊢
      have zo := Sz_mono (hs own hown) (by decide : 1000 ≤ 3000)
      have zl := Sz_mono (hs lo mlo) (by decide : 1000 ≤ 3000)
      have zh := Sz_mono (hs hi mhi) (by decide : 1000 ≤ 3000)
      have k1 := pf_eq (s__law_far (w := w2) zl zo)
      have k2 := pf_eq (s__law_far (w := w2) zh zo)
      have k3 := pf_eq (s__law_upto (w := w2) (a := rabs (lo - own)) (b := rabs (hi - own)) (Sz_mono (Sz_rabs (Sz_sub (hs lo mlo) (hs own hown))) (by decide)) (Sz_mono (Sz_rabs (Sz_sub (hs hi mhi) (hs own hown))) (by decide)))
      have al : (mD acc).length < 100000 := by simp [mD]; omega
      have er : rnear own lo hi = decide (rabs (lo - own) ≤ rabs (hi - own)) := by unfold rnear; rw [rabs_comm, rabs_comm (a := own) (b := hi)]
      rw [er]
      rintro s w3 ⟨hs', rfl⟩
      by_cases hc : rabs (lo - own) ≤ rabs (hi - own)
      · rcases hs' with rfl | rfl <;> simp [il, f1, f2, x1, x2, x0, e0, k1, k2, k3, hc, al] <;> simp [mD]
      · rcases hs' with rfl | rfl <;> simp [il, f1, f2, x1, x2, x0, e0, k1, k2, k3, hc, al] <;> simp [mD]
  · rintro e w' ⟨⟨a, b, c, d, f, rfl⟩, rfl⟩
    have et : ((List.range ms.length).take ((List.range ms.length).map fun (k : Nat) => D.int k).length) = List.range ms.length := by simp
    rw [et]
    simp [stepM]
theorem s__law_web {n l m : Nat} {w : W} (hw : WOk n w) (hl : l < w.length) (hn : n ≤ 100000) (hm : m ≤ 5) : pf f__law_web [.val (.ref l), .val (.int m)] w fun s w' => (∃ web, s = .val (.tup (wD web)) ∧ WebOk m web ∧ web.length ≤ 25) ∧ WOk (n + 26) w' ∧ w'.length = w.length := by
  unfold f__law_web b__law_web
  rw [pf_mkFn]
  refine ⟨rfl, ?_⟩
  have e0 : [Sl.val (.ref l), .val (.int m)] ++ List.replicate (6 - 2) Sl.no = [.val (.ref l), .val (.int m), .no, .no, .no, .no] := rfl
  rw [e0]
  refine pw_seq (fun e w1 => (∃ lk : Int, e = [.val (.ref l), .val (.int m), .no, .val (.int lk), .val (.lst []), .no]) ∧ WOk (n + 1) w1 ∧ w1.length = w.length) ?_ ?_
  · simp
    refine pf_mono (s__law_of hw hl (by omega) (xs := [.int 0, .int 1, .int 2, .int 4]) (by decide) (by decide)) ?_
    rintro s w1 ⟨⟨x, hx, rfl⟩, h1, h2⟩
    simp at hx
    rcases hx with rfl | rfl | rfl | rfl <;> simp [h1, h2]
  rintro e w1 ⟨⟨lk, rfl⟩, h1, h2⟩
  have q1 : (m : Int) ≤ 100000 := by omega
  have q2 : (-100000 : Int) ≤ (m : Int) := by omega
  refine pw_seq (fun e w2 => (∃ web s2 s4, e = [.val (.ref l), .val (.int m), s2, .val (.int lk), s4, .no] ∧ slotD (some s4) = some (.lst (wD web)) ∧ WebOk m web ∧ web.length ≤ 25) ∧ WOk (n + 26) w2 ∧ w2.length = w.length) ?_ ?_
  · rw [pw_sFor]
    refine pw_mono (P := fun xs e w2 => xs = (List.range m).map (fun (j : Nat) => D.int j) ∧ e = [.val (.ref l), .val (.int m), .no, .val (.int lk), .val (.lst []), .no] ∧ w2 = w1) (by simp [q1, q2]) ?_
    rintro xs e w2 ⟨rfl, rfl, rfl⟩
    refine pw_forL (fun i e w' => (∃ web s2 s4, e = [.val (.ref l), .val (.int m), s2, .val (.int lk), s4, .no] ∧ slotD (some s4) = some (.lst (wD web)) ∧ WebOk m web ∧ (∀ p ∈ web, p.1 < i) ∧ web.length ≤ 5 * i) ∧ WOk (n + 1 + 5 * i) w' ∧ w'.length = w.length) ⟨⟨[], _, _, rfl, rfl, ⟨by simp, by simp⟩, by simp, by simp⟩, h1, h2⟩ ?_ ?_
    · rintro i x e w3 hx ⟨⟨web, s2, s4, rfl, hs4, hweb, hlt, hlen⟩, h3, h4⟩
      have hi := (List.getElem?_eq_some_iff.mp hx).1
      simp at hi
      rw [List.getElem?_map, List.getElem?_range hi] at hx
      obtain rfl := Option.some.inj hx
      rw [pw_gVar]
      refine ⟨by simp, ?_⟩
      simp only [List.set_cons_succ, List.set_cons_zero]
      rw [pw_sSet, pw_oBin]
      rw [pw_eVar]
      simp only [List.getElem?_cons_succ, List.getElem?_cons_zero, hs4]
      rw [pw_eComp, pw_comp]
      have q3 : (-100000 : Int) ≤ (i : Int) + 1 := by omega
      have q4 : (i : Int) + 1 ≤ 100000 := by omega
      refine pw_mono (P := fun xs e w' => xs = (List.range (m - (i + 1))).map (fun (j : Nat) => D.int ((i + 1 + j : Nat) : Int)) ∧ e = [.val (.ref l), .val (.int m), .val (.int i), .val (.int lk), s4, .no] ∧ w' = w3) ?_ ?_
      · simp [q1, q2, q3, q4]
        rw [show ((m : Int) - (i + 1)).toNat = m - (i + 1) by omega]
      rintro xs e w' ⟨rfl, rfl, rfl⟩
      refine ⟨⟨by simp [isOwn], by simp; omega⟩, ?_⟩
      refine pw_compL (fun j ds e w4 => (∃ (row : Web) (z : Sl), ds = wD row ∧ e = [.val (.ref l), .val (.int m), .val (.int i), .val (.int lk), s4, z] ∧ (∀ p ∈ row, p.1 = i ∧ i < p.2 ∧ p.2 < i + 1 + j) ∧ row.Pairwise (fun p q => p.1 < q.1 ∨ (p.1 = q.1 ∧ p.2 < q.2)) ∧ row.length ≤ j) ∧ WOk (n + 1 + 5 * i + j) w4 ∧ w4.length = w.length) ⟨⟨[], _, rfl, rfl, by simp, by simp, by simp⟩, h3, h4⟩ ?_ ?_
      · rintro j x ds e w4 hx ⟨⟨row, z, rfl, rfl, r1, r2, r3⟩, h5, h6⟩
        have hj := (List.getElem?_eq_some_iff.mp hx).1
        simp at hj
        rw [List.getElem?_map, List.getElem?_range hj] at hx
        obtain rfl := Option.some.inj hx
        simp [wipeE]
        refine pf_mono (s__law_draw h5 (by omega) (by omega) (lim := 4) (by decide) (by decide)) ?_
        rintro s w5 ⟨⟨r, rfl, hr⟩, h7, h8⟩
        simp
        refine ⟨fun _ => ⟨⟨row ++ [(i, i + 1 + j)], by simp [wD, pD], ?_, ?_, by simp; omega⟩, h7, by omega⟩, fun _ => ⟨⟨row, rfl, fun a b hab => ?_, r2, by omega⟩, h7, by omega⟩⟩
        · intro a b hab
          rcases List.mem_append.mp hab with hp | hp
          · have := r1 (a, b) hp; dsimp only at this; omega
          · simp at hp; omega
        · rw [List.pairwise_append]
          refine ⟨r2, by simp, fun p hp q hq => ?_⟩
          simp at hq
          subst hq
          have := r1 p hp
          dsimp only; omega
        · have := r1 (a, b) hab; dsimp only at this; omega
      · rintro ds e w4 ⟨⟨row, z, rfl, rfl, r1, r2, r3⟩, h5, h6⟩
        simp only [List.length_map, List.length_range] at r1 r3 h5
        have cat : dCatL (.lst (wD web)) (.lst (wD row)) = some (.lst (wD (web ++ row))) := by
          show (if _ then _ else _) = _
          rw [if_pos (by simp [wD]; omega)]; simp [wD]
        simp [backE, hs4, cat]
        refine ⟨⟨web ++ row, _, _, ⟨rfl, rfl⟩, rfl, ⟨?_, ?_⟩, ?_, by (try simp only [List.length_append]); omega⟩, h5.mono (by omega), h6⟩
        · intro p hp
          rcases List.mem_append.mp hp with hp | hp
          · exact hweb.tie p hp
          · have := r1 p hp; omega
        · rw [List.pairwise_append]
          refine ⟨hweb.asc, r2, fun p hp q hq => ?_⟩
          have := hlt p hp
          have := r1 q hq
          omega
        · intro a b hab
          rcases List.mem_append.mp hab with hp | hp
          · have := hlt (a, b) hp; dsimp only at this; omega
          · have := r1 (a, b) hp; dsimp only at this; omega
    · rintro e w3 ⟨⟨web, s2, s4, rfl, hs4, hweb, hlt, hlen⟩, h3, h4⟩
      simp at hlen h3
      exact ⟨rfl, ⟨web, s2, s4, rfl, hs4, hweb, by omega⟩, h3.mono (by omega), h4⟩
  rintro e w2 ⟨⟨web, s2, s4, rfl, hs4, hweb, hlen⟩, h3, h4⟩
  simp [hs4]
  exact ⟨⟨web, rfl, hweb, hlen⟩, h3, h4⟩
theorem Pl.succ : ∀ {n : Nat} {d : D}, Pl n d → Pl (n + 1) d
  | 0, d, h => .inl h
  | n + 1, d, h => by
    rcases h with h | ⟨xs, rfl, hl, hx⟩
    · exact .inl h
    · exact .inr ⟨xs, rfl, hl, fun x hm => Pl.succ (hx x hm)⟩
theorem wokWeb_nil {m : Nat} : WebOk m [] := ⟨by simp, by simp⟩
theorem ext_getD {a b : List Rat} (hl : a.length = b.length) (h : ∀ i, i < a.length → a[i]?.getD 0 = b[i]?.getD 0) : a = b := by
  refine List.ext_getElem hl fun i h1 h2 => ?_
  have := h i h1
  rw [List.getElem?_eq_getElem h1, List.getElem?_eq_getElem h2] at this
  exact this
theorem pt_rD (q : Rat) : Pt 1 (rD q) := .tup fun x hx => by
  simp at hx
  rcases hx with rfl | rfl <;> exact Pt.int
theorem rD_inj {a b : Rat} : rD a = rD b ↔ a = b := by
  constructor
  · intro h
    simp [rD] at h
    exact Rat.ext h.1 (by omega)
  · rintro rfl; rfl
theorem dNe_rr (a b : Rat) : dNe (rD a) (rD b) = some (.bl (!decide (a = b))) := by
  rw [dNe_pt (pt_rD a) (pt_rD b) (by decide) (by decide)]
  congr 3
  exact decide_eq_decide.mpr rD_inj
theorem pl_mD3 (ms : List Rat) (h : ms.length ≤ 5) : Pl 3 (.tup (mD ms)) := .inr ⟨_, rfl, by simp [mD]; omega, fun x hx => by
  obtain ⟨q, _, rfl⟩ := List.mem_map.mp hx
  exact .inr ⟨_, rfl, by simp, fun y hy => by
    simp at hy
    rcases hy with rfl | rfl
    · exact .inl ⟨_, rfl⟩
    · exact .inl ⟨_, rfl⟩⟩⟩
theorem sort2 {a b : Nat} : dSortT (.tup [.int a, .int b]) = some (.lst [.int (min a b : Nat), .int (max a b : Nat)]) := by
  have e : ([(a : Int), (b : Int)].mergeSort fun a b => decide (a ≤ b)) = [((min a b : Nat) : Int), ((max a b : Nat) : Int)] := by
    refine (sortI_eq ?_ ?_).symm
    · rcases Nat.le_total a b with h | h
      · rw [Nat.min_eq_left h, Nat.max_eq_right h]
      · rw [Nat.min_eq_right h, Nat.max_eq_left h]; exact .swap _ _ _
    · simp; omega
  simp only [dSortT, allI, Option.map_some]
  rw [e]; rfl
def AgainS {α : Type} (s : Nat → α) (i p : Nat) : Prop := 0 < p ∧ s i = s (i + p) ∧ ∀ a b, a < b → b < i + p → s a ≠ s b
theorem again_uniq {α β : Type} {s : Nat → α} {s' : Nat → β} (he : ∀ a b, s a = s b ↔ s' a = s' b) {i p i' p' : Nat} (h : AgainS s i p) (h' : AgainS s' i' p') : i = i' ∧ p = p' := by
  obtain ⟨h1, h2, h3⟩ := h
  obtain ⟨k1, k2, k3⟩ := h'
  have ht : i + p = i' + p' := by
    rcases Nat.lt_trichotomy (i + p) (i' + p') with z | z | z
    · exact absurd ((he _ _).mp h2) (k3 i (i + p) (by omega) z)
    · exact z
    · exact absurd ((he _ _).mpr k2) (h3 i' (i' + p') (by omega) z)
  have hi : i = i' := by
    rcases Nat.lt_trichotomy i i' with z | z | z
    · refine absurd ?_ (k3 i i' z (by omega))
      rw [(he _ _).mp h2, ht, k2]
    · exact z
    · refine absurd ?_ (h3 i' i z (by omega))
      rw [(he _ _).mpr k2, ← ht, ← h2]
  exact ⟨hi, by omega⟩
def seqs {α : Type} (vals : List α) : Nat → List (List α)
  | 0 => [[]]
  | n + 1 => (seqs vals n).flatMap fun r => vals.map fun v => v :: r
theorem mem_seqs {α : Type} {vals : List α} : ∀ (n : Nat) (l : List α), l.length = n → (∀ x ∈ l, x ∈ vals) → l ∈ seqs vals n
  | 0, l, h, _ => by
    have := List.eq_nil_of_length_eq_zero h
    subst this
    simp [seqs]
  | n + 1, l, h, hv => by
    match l, h, hv with
    | x :: r, h, hv =>
      unfold seqs
      rw [List.mem_flatMap]
      exact ⟨r, mem_seqs n r (by simpa using h) (fun y hy => hv y (List.mem_cons_of_mem _ hy)), List.mem_map.mpr ⟨x, hv x (List.mem_cons_self ..), rfl⟩⟩
theorem seqs_len {α : Type} {vals : List α} : ∀ n : Nat, (seqs vals n).length = vals.length ^ n
  | 0 => rfl
  | n + 1 => by
    have gen : ∀ L : List (List α), (L.flatMap fun r => vals.map fun v => v :: r).length = L.length * vals.length := by
      intro L
      induction L with
      | nil => simp
      | cons a r ih => rw [List.flatMap_cons, List.length_append, ih, List.length_map, List.length_cons, Nat.succ_mul]; omega
    unfold seqs
    rw [gen, seqs_len n, Nat.pow_succ]
theorem pow_le {n : Nat} (h : n ≤ 5) : n ^ n ≤ 3125 := by
  match n, h with
  | 0, _ => decide
  | 1, _ => decide
  | 2, _ => decide
  | 3, _ => decide
  | 4, _ => decide
  | 5, _ => decide
theorem orbit_le {web : Web} {ms : List Rat} (hw : WebOk ms.length web) (h5 : ms.length ≤ 5) {k : Nat} (hd : ∀ a b, a < b → b ≤ k → stepsM web a ms ≠ stepsM web b ms) : k + 1 ≤ 3125 := by
  have nd : ((List.range (k + 1)).map fun j => stepsM web j ms).Nodup := by
    rw [List.nodup_iff_pairwise_ne, List.pairwise_map]
    refine List.pairwise_lt_range.imp_of_mem fun {a b} ha hb hab => hd a b hab ?_
    have := List.mem_range.mp hb
    omega
  have sub : ((List.range (k + 1)).map fun j => stepsM web j ms) ⊆ seqs ms ms.length := by
    intro l hl
    obtain ⟨j, _, rfl⟩ := List.mem_map.mp hl
    exact mem_seqs _ _ (by simp) (stepsM_mem hw)
  have := nd.length_le_of_subset sub
  rw [seqs_len, List.length_map, List.length_range] at this
  exact Nat.le_trans this (pow_le h5)
theorem wI_inj {B : Nat} (hB : 0 < B) {a b : Rat} (ha : a.den ∣ B) (hb : b.den ∣ B) (h : wI B a = wI B b) : a = b :=
  Rat.le_antisymm ((wI_le hB ha hb).mp (by omega)) ((wI_le hB hb ha).mp (by omega))
theorem wMs_inj {B : Nat} (hB : 0 < B) : ∀ {xs ys : List Rat}, (∀ q ∈ xs, q.den ∣ B) → (∀ q ∈ ys, q.den ∣ B) → wMs B xs = wMs B ys → xs = ys
  | [], [], _, _, _ => rfl
  | [], _ :: _, _, _, h => by cases h
  | _ :: _, [], _, _, h => by cases h
  | x :: xs, y :: ys, hx, hy, h => by
    unfold wMs at h
    rw [List.map_cons, List.map_cons] at h
    have h1 := (List.cons.inj h).1
    have h2 := (List.cons.inj h).2
    rw [wI_inj hB (hx x (List.mem_cons_self ..)) (hy y (List.mem_cons_self ..)) h1, wMs_inj hB (fun q hq => hx q (List.mem_cons_of_mem _ hq)) (fun q hq => hy q (List.mem_cons_of_mem _ hq)) h2]
def kkD (ns : List Int) : List L2.Key := ns.map .inl
theorem dKey_iD (ns : List Int) : dKeyL (.tup (iD ns)) = some (kkD ns) := by
  show allK (iD ns) = _
  induction ns with
  | nil => rfl
  | cons n r ih =>
    show (allK (iD r)).map _ = _
    rw [ih]; rfl
theorem kkD_inj {a b : List Int} : kkD a = kkD b ↔ a = b := by
  constructor
  · intro h
    induction a generalizing b with
    | nil => cases b with
      | nil => rfl
      | cons => cases h
    | cons x r ih => cases b with
      | nil => cases h
      | cons y t =>
        unfold kkD at h
        rw [List.map_cons, List.map_cons] at h
        have h1 := (List.cons.inj h).1
        have h2 := (List.cons.inj h).2
        rw [Sum.inl.inj h1, ih h2]
  · rintro rfl; rfl
def ksD (x : Nat → List Int) (l : List Nat) : List D := l.map fun j => .tup (iD (x j))
def vsD (l : List Nat) : List D := l.map fun (j : Nat) => .int j
theorem hasK_ks {x : Nat → List Int} {l : List Nat} {y : List Int} : hasK (ksD x l) (kkD y) = true ↔ ∃ j ∈ l, x j = y := by
  unfold hasK ksD
  rw [List.any_map, List.any_eq_true]
  simp only [Function.comp_apply, dKey_iD, decide_eq_true_eq, Option.some.injEq, kkD_inj]
theorem findK_ks {x : Nat → List Int} {y : List Int} {j : Nat} : ∀ {l : List Nat}, j ∈ l → x j = y → (∀ i ∈ l, x i = y → i = j) → findK (ksD x l) (vsD l) (kkD y) = some (.int j)
  | i :: l, hj, hx, hu => by
    show (if dKeyL (.tup (iD (x i))) = some (kkD y) then some (D.int i) else findK (ksD x l) (vsD l) (kkD y)) = _
    rw [dKey_iD]
    by_cases c : x i = y
    · rw [if_pos (by rw [c]), hu i (List.mem_cons_self ..) c]
    · rw [if_neg (fun z => c (kkD_inj.mp (Option.some.inj z)))]
      refine findK_ks ?_ hx fun i' hi' => hu i' (List.mem_cons_of_mem _ hi')
      rcases List.mem_cons.mp hj with z | z
      · subst z; exact absurd hx c
      · exact z
theorem pw_sPutD {i : Nat} {k v : M Opd} {e : Env} {w : W} {PF : Mnd.Flow → Env → W → Prop} : pw (sPutD i k v) e w PF = pw v e w fun o e w => pw (frz o) e w fun d e w => pw (putStep2 i k d) e w PF := by
  unfold sPutD; rw [pw_bnd]; congr 1; funext o e w; rw [pw_bnd]
theorem pw_putStep2 {i : Nat} {k : M Opd} {d du : D} {e : Env} {w : W} {PF : Mnd.Flow → Env → W → Prop} (h : e[i]? = some (.own du)) : pw (putStep2 i k d) e w PF = pw k e w fun ok e w => pw (frz ok) e w fun kd e w => pw (putStep i kd d) e w PF := by
  have e1 : pw (putStep2 i k d) e w PF = pw (bnd k fun ok => bnd (frz ok) fun kd => putStep i kd d) e w PF := by
    unfold pw okR putStep2
    rw [h]
  rw [e1, pw_bnd]; congr 1; funext o e w; rw [pw_bnd]
theorem pw_putStep {i : Nat} {kd d du dv : D} {e : Env} {w : W} {PF : Mnd.Flow → Env → W → Prop} (h : e[i]? = some (.own du)) (hp : dDctPut du kd d = some dv) : pw (putStep i kd d) e w PF = PF .next (e.set i (.own dv)) w := by
  unfold pw okR putStep
  rw [h]
  dsimp only
  rw [hp]
theorem pw_oDct {e : Env} {w : W} {P : Sl → Env → W → Prop} : pw oDct e w P = P (.own (.dct [] [])) e w := rfl
theorem s_again_by {ms : List Rat} {web : Web} {w : W} (h : ∀ q ∈ ms, In9 q) (hl : ms.length ≤ 5) (hw : WebOk ms.length web) (hwl : web.length ≤ 1000) : pf f_again_by [.val (.tup (mD ms)), .val (.tup (wD web))] w fun s w' => (∃ i p : Nat, s = .val (.tup [.int i, .int p]) ∧ AgainS (fun k => stepsM web k ms) i p) ∧ w' = w := by
  obtain ⟨b1, b2, b3⟩ := lcmD_ok h
  have k1 := pf_eq (s_whole_minds (w := w) h hl)
  generalize hB : lcmD ms = B at *
  have hden : ∀ k, ∀ q ∈ stepsM web k ms, q.den ∣ B := fun k q hq => b3 q (stepsM_mem hw q hq)
  obtain ⟨x, hx⟩ : ∃ x : Nat → List Int, x = fun k => wMs B (stepsM web k ms) := ⟨_, rfl⟩
  have hxe : ∀ a b, x a = x b ↔ stepsM web a ms = stepsM web b ms := fun a b => by
    rw [hx]
    exact ⟨wMs_inj b1 (hden a) (hden b), fun z => by dsimp only; rw [z]⟩
  have hx0 : wMs B ms = x 0 := by rw [hx]; rfl
  have hstep : ∀ k (w : W) (P : Sl → W → Prop), pf f_next_minds [.val (.tup (wD web)), .val (.tup (iD (x k)))] w P = P (.val (.tup (iD (x (k + 1))))) w := fun k w P => by
    have hl2 : (wMs B (stepsM web k ms)).length = ms.length := by simp [wMs]
    have k2 := pf_eq (s_next_minds (w := w) (web := web) (ws := wMs B (stepsM web k ms)) (by rw [hl2]; exact hw) hwl (by omega)) P
    rw [stepI_wMs b1 (by rw [stepsM_len]; exact hw) (hden k)] at k2
    rw [hx]
    exact k2
  unfold f_again_by b_again_by
  rw [pf_mkFn]
  refine ⟨rfl, ?_⟩
  have e0 : [Sl.val (.tup (mD ms)), .val (.tup (wD web))] ++ List.replicate (4 - 2) Sl.no = [.val (.tup (mD ms)), .val (.tup (wD web)), .no, .no] := rfl
  rw [e0]
  have x0d : dIx (.tup [.tup (iD (wMs B ms)), .int B]) (.int 0) = some (.tup (iD (wMs B ms))) := rfl
  refine pw_seq (fun e w1 => e = [.val (.tup (mD ms)), .val (.tup (wD web)), .val (.tup (iD (x 0))), .own (.dct [] [])] ∧ w1 = w) ?_ ?_
  · rw [← hx0]
    simp [k1, x0d, pw_oDct]
  rintro e w1 ⟨rfl, rfl⟩
  refine pw_seq (fun e w2 => (∃ k j : Nat, e = [.val (.tup (mD ms)), .val (.tup (wD web)), .val (.tup (iD (x k))), .own (.dct (ksD x (List.range k)) (vsD (List.range k)))] ∧ j < k ∧ x j = x k ∧ ∀ a b, a < b → b < k → x a ≠ x b) ∧ w2 = w1) ?_ ?_
  · refine pw_sWhile (fun m e w2 => ∃ k : Nat, m + k = 4000 ∧ e = [.val (.tup (mD ms)), .val (.tup (wD web)), .val (.tup (iD (x k))), .own (.dct (ksD x (List.range k)) (vsD (List.range k)))] ∧ (∀ a b, a < b → b < k → x a ≠ x b) ∧ w2 = w1) (k := 4000) ⟨0, rfl, rfl, fun a b _ hb => by omega, rfl⟩ ?_
    rintro m e w2 ⟨k, hm, rfl, hd, rfl⟩
    have ein : dNotInD (.tup (iD (x k))) (.dct (ksD x (List.range k)) (vsD (List.range k))) = some (.bl (!hasK (ksD x (List.range k)) (kkD (x k)))) := by
      show (dKeyL (.tup (iD (x k)))).map _ = _
      rw [dKey_iD]; rfl
    have hiff := hasK_ks (x := x) (l := List.range k) (y := x k)
    refine pw_mono (P := fun c e w3 => c = (!hasK (ksD x (List.range k)) (kkD (x k))) ∧ e = [.val (.tup (mD ms)), .val (.tup (wD web)), .val (.tup (iD (x k))), .own (.dct (ksD x (List.range k)) (vsD (List.range k)))] ∧ w3 = w2) (by simp [ein]) ?_
    rintro c e w3 ⟨rfl, rfl, rfl⟩
    refine ⟨fun hc => ?_, fun hc => ?_⟩
    · have hno : hasK (ksD x (List.range k)) (kkD (x k)) = false := by simpa using hc
      have hnx : ∀ j, j < k → x j ≠ x k := fun j hj z => by
        rw [hiff.mpr ⟨j, List.mem_range.mpr hj, z⟩] at hno; cases hno
      have hd2 : ∀ a b, a < b → b ≤ k → x a ≠ x b := fun a b hab hb => by
        by_cases z : b = k
        · subst z; exact hnx a hab
        · exact hd a b hab (by omega)
      have hk : k + 1 ≤ 3125 := orbit_le hw hl fun a b hab hb z => hd2 a b hab hb ((hxe a b).mpr z)
      have kl : (ksD x (List.range k)).length = k := by simp [ksD]
      have ep : dDctPut (.dct (ksD x (List.range k)) (vsD (List.range k))) (.tup (iD (x k))) (.int k) = some (.dct (ksD x (List.range (k + 1))) (vsD (List.range (k + 1)))) := by
        show (dKeyL (.tup (iD (x k)))).bind _ = _
        rw [dKey_iD]
        show (if hasK (ksD x (List.range k)) (kkD (x k)) = false ∧ (ksD x (List.range k)).length < 100000 then _ else _) = _
        rw [if_pos ⟨hno, by rw [kl]; omega⟩]
        simp [ksD, vsD, List.range_succ]
      have dl : dLen (.dct (ksD x (List.range k)) (vsD (List.range k))) = some (.int k) := by
        show some (D.int (ksD x (List.range k)).length) = _
        rw [kl]
      generalize ksD x (List.range k) = K0 at *
      generalize vsD (List.range k) = V0 at *
      rw [pw_sSeq]
      refine pw_mono (P := fun f e w4 => f = .next ∧ e = [.val (.tup (mD ms)), .val (.tup (wD web)), .val (.tup (iD (x k))), .own (.dct (ksD x (List.range (k + 1))) (vsD (List.range (k + 1))))] ∧ w4 = w3) ?_ ?_
      · rw [pw_sPutD]
        refine pw_mono (P := fun o e w4 => o = .d (.int k) ∧ e = [.val (.tup (mD ms)), .val (.tup (wD web)), .val (.tup (iD (x k))), .own (.dct K0 V0)] ∧ w4 = w3) (by simp [dl]) ?_
        rintro o e w4 ⟨rfl, rfl, rfl⟩
        rw [pw_frz_d, pw_putStep2 (du := .dct K0 V0) rfl]
        refine pw_mono (P := fun o e w5 => o = .sl 2 ∧ e = [.val (.tup (mD ms)), .val (.tup (wD web)), .val (.tup (iD (x k))), .own (.dct K0 V0)] ∧ w5 = w4) (by simp) ?_
        rintro o e w5 ⟨rfl, rfl, rfl⟩
        refine pw_mono (P := fun o e w6 => o = .tup (iD (x k)) ∧ e = [.val (.tup (mD ms)), .val (.tup (wD web)), .val (.tup (iD (x k))), .own (.dct K0 V0)] ∧ w6 = w5) (by simp) ?_
        rintro o e w6 ⟨rfl, rfl, rfl⟩
        rw [pw_putStep (du := .dct K0 V0) rfl ep]
        exact ⟨rfl, rfl, rfl⟩
      · rintro f e w4 ⟨rfl, rfl, rfl⟩
        simp [hstep]
        exact ⟨3999 - k, by omega, k + 1, by omega, ⟨rfl, rfl, rfl⟩, fun a b hab hb => hd2 a b hab (by omega)⟩
    · have hyes : hasK (ksD x (List.range k)) (kkD (x k)) = true := by simpa using hc
      obtain ⟨j, hj, hxj⟩ := hiff.mp hyes
      exact ⟨rfl, ⟨k, j, rfl, List.mem_range.mp hj, hxj, hd⟩, rfl⟩
  rintro e w2 ⟨⟨k, j, rfl, hj, hxj, hd⟩, rfl⟩
  have kl : (ksD x (List.range k)).length = k := by simp [ksD]
  have eg : dDctGet (.dct (ksD x (List.range k)) (vsD (List.range k))) (.tup (iD (x k))) = some (.int j) := by
    show (dKeyL (.tup (iD (x k)))).bind _ = _
    rw [dKey_iD]
    show findK (ksD x (List.range k)) (vsD (List.range k)) (kkD (x k)) = _
    refine findK_ks (List.mem_range.mpr hj) hxj fun i hi hxi => ?_
    have hi := List.mem_range.mp hi
    rcases Nat.lt_trichotomy i j with z | z | z
    · exact absurd (hxi.trans hxj.symm) (hd i j z hj)
    · exact z
    · exact absurd (hxj.trans hxi.symm) (hd j i z hi)
  have dl : dLen (.dct (ksD x (List.range k)) (vsD (List.range k))) = some (.int k) := by
    show some (D.int (ksD x (List.range k)).length) = _
    rw [kl]
  generalize ksD x (List.range k) = K0 at *
  generalize vsD (List.range k) = V0 at *
  simp [eg, dl]
  refine ⟨j, k - j, ⟨rfl, by omega⟩, by omega, ?_, fun a b hab hb z => ?_⟩
  · rw [show j + (k - j) = k by omega]; exact (hxe j k).mp hxj
  · exact hd a b hab (by omega) ((hxe a b).mpr z)
theorem s_again {ms : List Rat} {web : Web} {w : W} (h : ∀ q ∈ ms, In9 q) (h1 : 1 ≤ ms.length) (hl : ms.length ≤ 5) (hw : WebOk ms.length web) (hwl : web.length ≤ 1000) : pf f_again [.val (.tup (mD ms)), .val (.tup (wD web))] w fun s w' => (∃ i p : Nat, s = .val (.tup [.int i, .int p]) ∧ AgainS (fun k => stepsM web k ms) i p) ∧ w' = w := by
  unfold f_again b_again
  simp [pf_eq (s_check_web (w := w) h1 hl (fun q hq => in9_sz (h q hq) (by decide)) hw)]
  exact s_again_by h hl hw hwl
theorem In9.of0 {q : Rat} (h : In0 q) : In9 q := ⟨Nat.dvd_trans h.1 (by decide), by have := h.2.1; grind, by have := h.2.2; grind⟩
theorem ex_again {ms : List Rat} {web : Web} (h : ∀ q ∈ ms, In9 q) (h1 : 1 ≤ ms.length) (hl : ms.length ≤ 5) (hw : WebOk ms.length web) (hwl : web.length ≤ 1000) : ∃ i p, AgainS (fun k => stepsM web k ms) i p := by
  have := s_again (w := []) h h1 hl hw hwl
  unfold pf at this
  cases q : f_again [.val (.tup (mD ms)), .val (.tup (wD web))] [] with
  | ok s w' => rw [q] at this; obtain ⟨⟨i, p, _, hA⟩, _⟩ := this; exact ⟨i, p, hA⟩
  | ex x w' => rw [q] at this; exact this.elim
  | bad => rw [q] at this; exact this.elim
theorem e_again {α : Type} {s0 : Nat → α} {ai ap : Nat} (hA : AgainS s0 ai ap) {ms : List Rat} {web : Web} {w : W} (he : ∀ a b, s0 a = s0 b ↔ stepsM web a ms = stepsM web b ms) (h : ∀ q ∈ ms, In9 q) (h1 : 1 ≤ ms.length) (hl : ms.length ≤ 5) (hw : WebOk ms.length web) (hwl : web.length ≤ 1000) (P : Sl → W → Prop) :
    pf f_again [.val (.tup (mD ms)), .val (.tup (wD web))] w P = P (.val (.tup [.int ai, .int ap])) w := by
  refine pf_eq (pf_mono (s_again (w := w) h h1 hl hw hwl) ?_) P
  rintro s w' ⟨⟨i, p, rfl, hB⟩, rfl⟩
  obtain ⟨rfl, rfl⟩ := again_uniq he hA hB
  exact ⟨rfl, rfl⟩
theorem dNe_nil0 : dNe (.lst []) (.lst []) = some (.bl false) := by
  rw [dNe_pt (n := 1) (m := 1) (.lst (by simp)) (.lst (by simp)) (by decide) (by decide)]
  simp
theorem pl_pair {a b : D} (ha : Pl 2 a) (hb : Pl 2 b) : Pl 3 (.tup [a, b]) := .inr ⟨_, rfl, by simp, fun y hy => by
  simp at hy
  rcases hy with rfl | rfl
  · exact ha
  · exact hb⟩
theorem pl_ii (i p : Int) : Pl 2 (.tup [.int i, .int p]) := .inr ⟨_, rfl, by simp, fun y hy => by
  simp at hy
  rcases hy with rfl | rfl
  · exact .inl ⟨_, rfl⟩
  · exact .inl ⟨_, rfl⟩⟩
end K60
end Mnd
namespace Mnd
namespace K60
open PySem
def tD (ms : List Rat) : D := .tup (mD ms)
theorem pt_tD (ms : List Rat) : Pt 2 (tD ms) := .tup fun x hx => by
  obtain ⟨q, _, rfl⟩ := List.mem_map.mp hx
  exact pt_rD q
theorem mD_inj : ∀ {a b : List Rat}, mD a = mD b → a = b
  | [], [], _ => rfl
  | [], _ :: _, h => by cases h
  | _ :: _, [], h => by cases h
  | x :: a, y :: b, h => by
    have h1 : rD x = rD y := (List.cons.inj h).1
    have h2 : mD a = mD b := (List.cons.inj h).2
    rw [rD_inj.mp h1, mD_inj h2]
theorem tD_inj {a b : List Rat} : tD a = tD b ↔ a = b := ⟨fun h => mD_inj (by injection h), fun h => by rw [h]⟩
theorem again_le {web : Web} {ms : List Rat} (hw : WebOk ms.length web) (h5 : ms.length ≤ 5) {i p : Nat} (hA : AgainS (fun k => stepsM web k ms) i p) : i + p ≤ 3125 := by
  obtain ⟨h1, h2, h3⟩ := hA
  have := orbit_le hw h5 (k := i + p - 1) fun a b hab hb => h3 a b hab (by omega)
  omega
theorem s__law_again {ms : List Rat} {web : Web} {w : W} (h : ∀ q ∈ ms, In9 q) (hl : ms.length ≤ 5) (hw : WebOk ms.length web) {i p : Nat} (hA : AgainS (fun k => stepsM web k ms) i p) :
    pf f__law_again [.val (.tup (mD ms)), .val (.tup (wD web))] w fun s w' => s = .val (.tup [.int i, .int p]) ∧ w' = w := by
  have hle := again_le hw hl hA
  obtain ⟨hp, hi, hd⟩ := hA
  obtain ⟨S, hS⟩ : ∃ S : Nat → List Rat, S = fun k => stepsM web k ms := ⟨_, rfl⟩
  have hS0 : mD ms = mD (S 0) := by rw [hS]; rfl
  have hi : S i = S (i + p) := by rw [hS]; exact hi
  have hd : ∀ a b, a < b → b < i + p → S a ≠ S b := by rw [hS]; exact hd
  have hstep : ∀ k (w : W) (P : Sl → W → Prop), pf f__law_middles [.val (tD (S k)), .val (.tup (wD web))] w P = P (.val (tD (S (k + 1)))) w := fun k w P => by
    rw [hS]
    exact pf_eq (s__law_middles (w := w) (ms := stepsM web k ms) (web := web) (fun q hq => in9_sz (h q (stepsM_mem hw q hq)) (by decide)) (by rw [stepsM_len]; omega) (by rw [stepsM_len]; exact hw)) P
  obtain ⟨rows, hr⟩ : ∃ rows : Nat → List D, rows = fun k => (List.range (k + 1)).map fun j => tD (S j) := ⟨_, rfl⟩
  have hlast : ∀ k, dIx (.lst (rows k)) (.int (-1)) = some (tD (S k)) := fun k => by
    show L2.atI (rows k) (-1) = _
    rw [hr]
    dsimp only
    rw [List.range_succ, List.map_append]
    exact atI_last
  have hlen : ∀ k, (rows k).length = k + 1 := fun k => by rw [hr]; simp
  have happ : ∀ k, rows k ++ [tD (S (k + 1))] = rows (k + 1) := fun k => by
    rw [hr]
    show _ = (List.range (k + 1 + 1)).map _
    rw [List.range_succ (n := k + 1), List.map_append]; rfl
  have hpt : ∀ k, ∀ y ∈ rows k, Pt 2 y := fun k y hy => by
    rw [hr] at hy
    obtain ⟨j, _, rfl⟩ := List.mem_map.mp hy
    exact pt_tD _
  have hin : ∀ k, k < i + p → dIn (tD (S (k + 1))) (.lst (rows k)) = some (.bl (decide (k + 1 = i + p))) := fun k hk => by
    rw [dIn_lst (pt_tD _) (hpt k) (by decide) (by decide)]
    congr 2
    apply decide_eq_decide.mpr
    rw [hr]
    dsimp only
    rw [List.mem_map]
    constructor
    · rintro ⟨j, hj, e⟩
      have hj := List.mem_range.mp hj
      refine Classical.byContradiction fun hn => ?_
      exact hd j (k + 1) hj (by omega) (tD_inj.mp e)
    · intro e
      exact ⟨i, List.mem_range.mpr (by omega), by rw [hi, e]⟩
  have hidx : ∀ k, k + 1 = i + p → dIndex (.lst (rows k)) (tD (S (k + 1))) = some (.int i) := fun k hk => by
    refine dIndex_pt (pt_tD _) (hpt k) (by decide) (by decide) ?_ fun a ha z => ?_
    · rw [hr]
      dsimp only
      rw [List.getElem?_map, List.getElem?_range (by omega), hk, ← hi]; rfl
    · rw [hr] at z
      dsimp only at z
      rw [List.getElem?_map, List.getElem?_range (by omega)] at z
      have z : S a = S (k + 1) := tD_inj.mp (Option.some.inj z)
      rw [hk, ← hi] at z
      exact hd a i ha (by omega) z
  have hr0 : ∀ D0, D0 = tD (S 0) → rows 0 = [D0] := fun D0 e => by rw [e, hr]; rfl
  have il : ∀ xs, isLst (.lst xs) = true := fun _ => rfl
  unfold f__law_again b__law_again
  rw [pf_mkFn]
  refine ⟨rfl, ?_⟩
  have e0 : [Sl.val (.tup (mD ms)), .val (.tup (wD web))] ++ List.replicate (5 - 2) Sl.no = [.val (.tup (mD ms)), .val (.tup (wD web)), .no, .no, .no] := rfl
  rw [e0]
  refine pw_seq (fun e w1 => e = [.val (.tup (mD ms)), .val (.tup (wD web)), .own (.lst (rows 0)), .no, .no] ∧ w1 = w) ?_ ?_
  · rw [hr0 (.tup (mD ms)) (by rw [hS0]; rfl)]
    simp
  rintro e w1 ⟨rfl, rfl⟩
  rw [pw_sSeq, pw_sFor]
  refine pw_mono (P := fun xs e w2 => xs = (List.range 4000).map (fun (j : Nat) => D.int j) ∧ e = [.val (.tup (mD ms)), .val (.tup (wD web)), .own (.lst (rows 0)), .no, .no] ∧ w2 = w1) ?_ ?_
  · rw [pw_iRange, pw_bnd, pw_aCons, pw_eInt, pw_frz_d, pw_aNil]
    exact ⟨⟨by decide, by decide⟩, rfl, rfl, rfl⟩
  rintro xs e w2 ⟨rfl, rfl, rfl⟩
  refine pw_forL (fun k e w' => (k < i + p ∧ ∃ a b, e = [.val (.tup (mD ms)), .val (.tup (wD web)), .own (.lst (rows k)), a, b]) ∧ w' = w2) ⟨⟨by omega, _, _, rfl⟩, rfl⟩ ?_ ?_
  · rintro k x e w3 _ ⟨⟨hk, a, b, rfl⟩, rfl⟩
    rw [pw_gVar]
    refine ⟨by simp, ?_⟩
    simp only [List.set_cons_succ, List.set_cons_zero]
    have l1 := hlast k
    have s1 := hstep k w3
    have n1 := hin k hk
    have x1 := hidx k
    have ln := hlen k
    have ap := happ k
    generalize rows k = Rk at *
    generalize hT : tD (S (k + 1)) = T at *
    rw [pw_sSeq]
    refine pw_mono (P := fun f e w4 => f = .next ∧ e = [.val (.tup (mD ms)), .val (.tup (wD web)), .own (.lst Rk), .val x, .val T] ∧ w4 = w3) (by simp [l1, s1]) ?_
    rintro f e w4 ⟨rfl, rfl, rfl⟩
    by_cases c : k + 1 = i + p
    · have x2 := x1 c
      rw [decide_eq_true c] at n1
      simp [n1, il, x2, ln]
      omega
    · rw [decide_eq_false c] at n1
      have : Rk.length < 100000 := by omega
      simp [n1, this, ap]
      omega
  · rintro e w3 ⟨⟨hk, _⟩, _⟩
    rw [List.length_map, List.length_range] at hk
    omega
end K60
end Mnd
namespace Mnd
namespace K60
open PySem
/-! whether two are the same, whatever they are -/
theorem g_same_int {n : Nat} {a b : Int} {w : W} : pf (fr__law_same (n + 1)) [.val (.int a), .val (.int b)] w fun s w' => (∃ c : Bool, s = .val (.bl c)) ∧ w' = w := by
  unfold fr__law_same b__law_same
  simp
  exact (Classical.em (a = b)).symm
theorem allB_bs (bs : List Bool) : allB (bs.map D.bl) = some bs := by
  induction bs with
  | nil => rfl
  | cons b r ih => rw [List.map_cons, allB_cons, ih]; rfl
theorem g_same_tup {n : Nat} {xs ys : List D} {w : W} (hl : xs.length = ys.length) (h5 : ys.length ≤ 1000) (he : ∀ (k : Nat) (x y : D) (w : W), xs[k]? = some x → ys[k]? = some y → pf (fr__law_same n) [.val x, .val y] w fun s w' => (∃ c : Bool, s = .val (.bl c)) ∧ w' = w) :
    pf (fr__law_same (n + 1)) [.val (.tup xs), .val (.tup ys)] w fun s w' => (∃ c : Bool, s = .val (.bl c)) ∧ w' = w := by
  unfold fr__law_same b__law_same
  have q1 : (ys.length : Int) ≤ 100000 := by omega
  have q2 : (-100000 : Int) ≤ (ys.length : Int) := by omega
  have q3 : ys.length ≤ 100000 := by omega
  have eb : ((xs.length : Int) == (ys.length : Int)) = true := by rw [hl]; simp
  simp [isOwn, hl, q1, q2, q3]
  refine pw_compL (fun i ds e w' => (∃ bs : List Bool, ds = bs.map D.bl) ∧ (∃ a, e = [.val (.tup xs), .val (.tup ys), .no, a]) ∧ w' = w) ⟨⟨[], rfl⟩, ⟨_, rfl⟩, rfl⟩ ?_ ?_
  · rintro i x ds e w' hi ⟨⟨bs, rfl⟩, ⟨a, rfl⟩, rfl⟩
    have hi2 := (List.getElem?_eq_some_iff.mp hi).1
    simp at hi2
    rw [List.getElem?_map, List.getElem?_range hi2] at hi
    obtain rfl := Option.some.inj hi
    have gx := List.getElem?_eq_getElem (l := xs) (i := i) (by omega)
    have gy := List.getElem?_eq_getElem (l := ys) (i := i) hi2
    have ix : dIx (.tup xs) (.int (i : Nat)) = some xs[i] := atI_nat gx
    have iy : dIx (.tup ys) (.int (i : Nat)) = some ys[i] := atI_nat gy
    simp [wipeE, ix, iy]
    refine pf_mono (he i _ _ w' gx gy) ?_
    rintro s w2 ⟨⟨c, rfl⟩, rfl⟩
    simp
    exact ⟨bs ++ [c], by simp⟩
  · rintro ds e w' ⟨⟨bs, rfl⟩, ⟨a, rfl⟩, rfl⟩
    simp [allB_bs, backE]
    exact Classical.em _
theorem rD_form (q : Rat) : ∃ xs, rD q = .tup xs ∧ xs.length = 2 ∧ ∀ z ∈ xs, ∃ i, z = .int i := ⟨[.int q.num, .int q.den], rfl, rfl, by simp⟩
theorem g_same_tt {k : Nat} {xs ys : List D} {w : W} (hl : xs.length = ys.length) (h5 : ys.length ≤ 1000) (hx : ∀ z ∈ xs, ∃ us, z = .tup us ∧ us.length = 2 ∧ ∀ u ∈ us, ∃ i, u = .int i) (hy : ∀ z ∈ ys, ∃ us, z = .tup us ∧ us.length = 2 ∧ ∀ u ∈ us, ∃ i, u = .int i) :
    pf (fr__law_same (k + 1 + 1 + 1)) [.val (.tup xs), .val (.tup ys)] w fun s w' => (∃ c : Bool, s = .val (.bl c)) ∧ w' = w := by
  refine g_same_tup (n := k + 1 + 1) hl h5 fun j x y w gx gy => ?_
  obtain ⟨us, e1, l1, i1⟩ := hx x (List.mem_of_getElem? gx)
  obtain ⟨vs, e2, l2, i2⟩ := hy y (List.mem_of_getElem? gy)
  rw [e1, e2]
  refine g_same_tup (n := k + 1) (l1.trans l2.symm) (by rw [l2]; omega) fun j x y w hx hy => ?_
  obtain ⟨i, rfl⟩ := i1 x (List.mem_of_getElem? hx)
  obtain ⟨j, rfl⟩ := i2 y (List.mem_of_getElem? hy)
  exact g_same_int (n := k)
theorem mD_form (xs : List Rat) : ∀ z ∈ mD xs, ∃ us, z = .tup us ∧ us.length = 2 ∧ ∀ u ∈ us, ∃ i, u = .int i := by
  intro z hz
  unfold mD at hz
  obtain ⟨q, _, rfl⟩ := List.mem_map.mp hz
  exact rD_form q
theorem f_same_s : ∃ k : Nat, f__law_same = fr__law_same (k + 1 + 1 + 1) := ⟨1, rfl⟩
theorem mD_length (xs : List Rat) : (mD xs).length = xs.length := by unfold mD; exact List.length_map _
theorem g_same_mD {xs ys : List Rat} {w : W} (hl : xs.length = ys.length) (h5 : ys.length ≤ 5) : pf f__law_same [.val (.tup (mD xs)), .val (.tup (mD ys))] w fun s w' => (∃ c : Bool, s = .val (.bl c)) ∧ w' = w := by
  obtain ⟨k, e⟩ := f_same_s
  rw [e]
  exact g_same_tt (k := k) (by rw [mD_length, mD_length]; exact hl) (by rw [mD_length]; omega) (mD_form xs) (mD_form ys)
/-! webs -/
def wle (p q : Nat × Nat) : Bool := decide (p.1 < q.1 ∨ (p.1 = q.1 ∧ p.2 ≤ q.2))
theorem sort_ok {n : Nat} {l : Web} (tie : ∀ p ∈ l, p.1 < p.2 ∧ p.2 < n) (nd : l.Nodup) : WebOk n (l.mergeSort wle) := by
  constructor
  · intro p hp
    exact tie p ((List.mergeSort_perm _ _).mem_iff.mp hp)
  · have nd : (l.mergeSort wle).Nodup := (List.mergeSort_perm _ _).nodup_iff.mpr nd
    have st : (l.mergeSort wle).Pairwise fun p q => wle p q = true := List.pairwise_mergeSort (le := wle) (fun a b c => by unfold wle; simp; omega) (fun a b => by unfold wle; simp; omega) _
    rw [List.nodup_iff_pairwise_ne] at nd
    refine (st.and nd).imp fun {p q} hpq => ?_
    obtain ⟨h1, h2⟩ := hpq
    unfold wle at h1
    have h1 := of_decide_eq_true h1
    rcases h1 with z | ⟨z1, z2⟩
    · exact .inl z
    · refine .inr ⟨z1, ?_⟩
      rcases Nat.lt_or_eq_of_le z2 with z | z
      · exact z
      · exact absurd (Prod.ext z1 z) h2
theorem sortL {l : Web} (hl : l.length < 64) (hb : ∀ p ∈ l, p.1 < 1000 ∧ p.2 < 1000) : dSortP (.lst (wD l)) = some (.lst (wD (l.mergeSort wle))) := by
  have e1 : wD l = (l.map fun p : Nat × Nat => ((p.1 : Int), (p.2 : Int))).map pI := by
    unfold wD; rw [List.map_map]; rfl
  have al : ∀ ps : List (Int × Int), allP (ps.map pI) = some ps := by
    intro ps
    induction ps with
    | nil => rfl
    | cons p r ih =>
      show (allP (r.map pI)).map _ = _
      rw [ih]; rfl
  rw [e1]
  have e5 : ∀ xs : List D, dSortP (.lst xs) = (match allP xs with
    | some ps => if ps.length < 64 ∧ ∀ p ∈ ps, 0 ≤ p.1 ∧ p.1 < 1000 ∧ 0 ≤ p.2 ∧ p.2 < 1000 then some (.lst ((ps.mergeSort pLe).map pI)) else none
    | none => none) := fun xs => rfl
  rw [e5, al]
  dsimp only
  rw [if_pos ⟨by simpa using hl, fun p hp => by
    obtain ⟨q, hq, rfl⟩ := List.mem_map.mp hp
    have := hb q hq
    dsimp only
    omega⟩]
  congr 2
  have e3 := List.map_mergeSort (r := wle) (s := pLe) (f := fun p : Nat × Nat => ((p.1 : Int), (p.2 : Int))) (l := l) (fun a _ b _ => by
    unfold wle pLe
    apply decide_eq_decide.mpr
    dsimp only
    omega)
  rw [← e3, List.map_map]
  rfl
def rowK (m k : Nat) : Web := (List.range (m - (k + 1))).map fun j => (k, k + 1 + j)
def evK (m i : Nat) : Web := (List.range i).flatMap (rowK m)
theorem evK_succ {m i : Nat} : evK m (i + 1) = evK m i ++ rowK m i := by
  unfold evK; rw [List.range_succ, List.flatMap_append]; simp
theorem evK_ok {m : Nat} (h1 : 1 ≤ m) (h5 : m ≤ 5) : WebOk m (evK m m) ∧ (evK m m).length ≤ 25 := by
  match m, h1, h5 with
  | 1, _, _ => exact ⟨⟨by decide +kernel, by decide +kernel⟩, by decide +kernel⟩
  | 2, _, _ => exact ⟨⟨by decide +kernel, by decide +kernel⟩, by decide +kernel⟩
  | 3, _, _ => exact ⟨⟨by decide +kernel, by decide +kernel⟩, by decide +kernel⟩
  | 4, _, _ => exact ⟨⟨by decide +kernel, by decide +kernel⟩, by decide +kernel⟩
  | 5, _, _ => exact ⟨⟨by decide +kernel, by decide +kernel⟩, by decide +kernel⟩
theorem evK_len {m : Nat} (h5 : m ≤ 5) : ∀ i, i ≤ m → (evK m i).length ≤ 5 * i
  | 0, _ => by simp [evK]
  | i + 1, h => by
    have := evK_len h5 i (by omega)
    rw [evK_succ, List.length_append]
    simp [rowK]
    omega
def ringL (m : Nat) : Web := (List.range m).map fun k => (min k ((k + 1) % m), max k ((k + 1) % m))
theorem ringL_ok {m : Nat} (h1 : 2 < m) (h5 : m ≤ 5) : (∀ p ∈ ringL m, p.1 < p.2 ∧ p.2 < m) ∧ (ringL m).Nodup := by
  match m, h1, h5 with
  | 3, _, _ => exact ⟨by decide +kernel, by decide +kernel⟩
  | 4, _, _ => exact ⟨by decide +kernel, by decide +kernel⟩
  | 5, _, _ => exact ⟨by decide +kernel, by decide +kernel⟩
theorem dMin40 {k : Nat} : dMin (.int 40) (.int (k : Int)) = some (.int ((min 40 k : Nat) : Int)) := by
  rw [dMin_int]; congr 2; split <;> omega
theorem dNe_ii {i p : Nat} : dNe (.tup [.int i, .int p]) (.tup [.int 0, .int 1]) = some (.bl (!decide (i = 0 ∧ p = 1))) := by
  have pt : ∀ a b : Int, Pt 1 (.tup [.int a, .int b]) := fun a b => .tup fun x hx => by
    simp at hx
    rcases hx with rfl | rfl <;> exact Pt.int
  rw [dNe_pt (pt _ _) (pt _ _) (by decide) (by decide)]
  congr 3
  apply decide_eq_decide.mpr
  simp
  omega
theorem dEq_nD {ns : List Nat} : dEq (.lst (nD ns)) (.lst []) = some (.bl (decide (ns = []))) := by
  rw [dEq_pt (n := 1) (m := 1) (.lst fun x hx => by
    obtain ⟨k, _, rfl⟩ := List.mem_map.mp hx
    exact Pt.int) (.lst (by simp)) (by decide) (by decide)]
  congr 2
  apply decide_eq_decide.mpr
  simp [nD]
theorem nbs_len {web : Web} {k : Nat} : (web.filter fun p => decide (k = p.1 ∨ k = p.2)).length = (nbs web k).length := by simp [nbs]
theorem s__law_right {n l : Nat} {w : W} (hw : WOk n w) (hl : l < w.length) (hn : n ≤ 50000) : pf f__law_right [.val (.ref l)] w fun s w' => s = .val (.bl true) ∧ WOk (n + 110) w' ∧ w'.length = w.length := by
  unfold f__law_right b__law_right
  rw [pf_mkFn]
  refine ⟨rfl, ?_⟩
  have e0 : [Sl.val (.ref l)] ++ List.replicate (12 - 1) Sl.no = [.val (.ref l), .no, .no, .no, .no, .no, .no, .no, .no, .no, .no, .no] := rfl
  rw [e0]
  refine pw_seq (fun e w1 => ∃ m : Nat, 1 ≤ m ∧ m ≤ 5 ∧ e = [.val (.ref l), .val (.int m), .no, .no, .no, .no, .no, .no, .no, .no, .no, .no] ∧ WOk (n + 1) w1 ∧ w1.length = w.length) ?_ ?_
  · simp
    refine pf_mono (s__law_draw hw hl (by omega) (lim := 5) (by decide) (by decide)) ?_
    rintro s w1 ⟨⟨r, rfl, hr⟩, h1, h2⟩
    simp
    exact ⟨1 + r, by omega, by omega, by omega, h1, h2⟩
  rintro e w1 ⟨m, hm1, hm5, rfl, h1, h2⟩
  have q1 : (m : Int) ≤ 100000 := by omega
  have q2 : (-100000 : Int) ≤ m := by omega
  refine pw_seq (fun e w2 => e = [.val (.ref l), .val (.int m), .own (.lst []), .no, .no, .no, .no, .no, .no, .no, .no, .no] ∧ w2 = w1) ?_ ?_
  · simp
  rintro e w2 ⟨rfl, rfl⟩
  refine pw_seq (fun e w3 => (∃ s2 s3, e = [.val (.ref l), .val (.int m), s2, s3, .no, .no, .no, .no, .no, .no, .no, .no] ∧ slotD (some s2) = some (.lst (wD (evK m m))) ∧ isOwn (some s3) = false) ∧ w3 = w2) ?_ ?_
  · rw [pw_sFor, pw_eqn (i_rng (n := m) rfl (by omega))]
    refine pw_forL (fun i e w' => (i ≤ m ∧ ∃ s2 s3, e = [.val (.ref l), .val (.int m), s2, s3, .no, .no, .no, .no, .no, .no, .no, .no] ∧ slotD (some s2) = some (.lst (wD (evK m i))) ∧ isOwn (some s3) = false) ∧ w' = w2) ⟨⟨by omega, _, _, rfl, rfl, rfl⟩, rfl⟩ ?_ ?_
    · rintro i x e w3 hx ⟨⟨_, s2, s3, rfl, hs2, hs3⟩, rfl⟩
      have hi := (List.getElem?_eq_some_iff.mp hx).1
      simp at hi
      rw [List.getElem?_map, List.getElem?_range hi] at hx
      obtain rfl := Option.some.inj hx
      have q3 : (-100000 : Int) ≤ (i : Int) + 1 := by omega
      have q4 : (i : Int) + 1 ≤ 100000 := by omega
      have a1 := c_mapI (v := 9) (i := iRange (bnd (aCons (eBin dAdd (eVar 3) (eInt 1)) (aCons (eVar 1) (aNil))) fun ds => if ds.length = 2 then ret ds else bad)) (elt := eTup (bnd (aCons (eVar 3) (aCons (eVar 9) (aNil))) fun ds => if ds.length ≤ 100000 then ret ds else bad)) (e := [.val (.ref l), .val (.int m), s2, .val (.int i), .no, .no, .no, .no, .no, .no, .no, .no]) (e1 := [.val (.ref l), .val (.int m), s2, .val (.int i), .no, .no, .no, .no, .no, .no, .no, .no]) (w := w3) (List.range (m - (i + 1))) (fun j => .int ((i + 1 + j : Nat) : Int)) (fun j => pD (i, i + 1 + j)) rfl (by
        simp [q1, q2, q3, q4]
        rw [show ((m : Int) - (i + 1)).toNat = m - (i + 1) by omega]) (by simp; omega) (fun j _ => by simp [pD])
      have x1 : (List.range (m - (i + 1))).map (fun j => pD (i, i + 1 + j)) = wD (rowK m i) := by unfold wD rowK; rw [List.map_map]; rfl
      rw [x1] at a1
      have ln := evK_len hm5 i (by omega)
      have cat : dCatL (.lst (wD (evK m i))) (.lst (wD (rowK m i))) = some (.lst (wD (evK m (i + 1)))) := by
        show (if _ then _ else _) = _
        rw [if_pos (by simp [wD, rowK]; omega), evK_succ]; simp [wD]
      rw [pw_gVar]
      refine ⟨by simp, ?_⟩
      simp only [List.set_cons_succ, List.set_cons_zero]
      rw [pw_sSet, pw_oBin, pw_eVar]
      simp only [List.getElem?_cons_succ, List.getElem?_cons_zero, hs2]
      rw [a1]
      simp [hs2, cat]
      exact ⟨by omega, _, _, ⟨rfl, rfl⟩, rfl, rfl⟩
    · rintro e w3 ⟨⟨_, s2, s3, rfl, hs2, hs3⟩, rfl⟩
      have : ((List.range m).map fun (k : Nat) => D.int k).length = m := by simp
      rw [this] at hs2
      exact ⟨rfl, ⟨_, _, rfl, hs2, hs3⟩, rfl⟩
  rintro e w3 ⟨⟨s2, s3, rfl, hs2, hs3⟩, rfl⟩
  refine pw_seq (fun e w4 => (∃ ringW : Web, e = [.val (.ref l), .val (.int m), s2, s3, .val (.tup (wD ringW)), .no, .no, .no, .no, .no, .no, .no] ∧ WebOk m ringW ∧ ringW.length ≤ 25) ∧ w4 = w3) ?_ ?_
  · by_cases c : 2 < m
    · have c' : (2 : Int) < m := by omega
      obtain ⟨r1, r2⟩ := ringL_ok c hm5
      have hso := sort_ok r1 r2
      have hrl : (ringL m).length = m := by simp [ringL]
      have hsl : ((ringL m).mergeSort wle).length = m := by rw [(List.mergeSort_perm _ _).length_eq, hrl]
      have hsd := sortL (l := ringL m) (by omega) (fun p hp => by have := r1 p hp; omega)
      rw [pw_sSet, pw_oVal, pw_eIf]
      refine pw_mono (P := fun b e w4 => b = true ∧ e = [.val (.ref l), .val (.int m), s2, s3, .no, .no, .no, .no, .no, .no, .no, .no] ∧ w4 = w3) (by simp [c']) ?_
      rintro b e w4 ⟨rfl, rfl, rfl⟩
      refine ⟨fun _ => ?_, fun z => by cases z⟩
      rw [pw_eUn, pw_eOf, pw_oUn, pw_eComp, pw_comp, pw_eqn (i_rng (n := m) rfl (by omega))]
      refine ⟨⟨by simp [hs3], by simp; omega⟩, ?_⟩
      refine pw_fmR (e0 := [.val (.ref l), .val (.int m), s2, .no, .no, .no, .no, .no, .no, .no, .no, .no]) (fun k => [.val (.ref l), .val (.int m), s2, .val (.int k), .no, .no, .no, .no, .no, .no, .no, .no]) (fun _ => true) (fun k => pD (min k ((k + 1) % m), max k ((k + 1) % m))) rfl rfl (fun a _ => ⟨rfl, rfl⟩) (fun a _ => by simp) (fun a _ => by simp) (fun k hk _ => ?_) ?_
      · have dm : dMod (.int ((k : Int) + 1)) (.int (m : Int)) = some (.int (((k + 1) % m : Nat) : Int)) := by
          rw [dMod_ok (by omega), Int.fmod_eq_emod_of_nonneg _ (by omega)]; rfl
        have s2 := sort2 (a := k) (b := (k + 1) % m)
        generalize (k + 1) % m = t at *
        generalize hz1 : min k t = z1 at *
        generalize hz2 : max k t = z2 at *
        simp [dm, s2, pD]
      · intro e' he
        have x1 : ((List.range m).filter fun _ => true).map (fun k => pD (min k ((k + 1) % m), max k ((k + 1) % m))) = wD (ringL m) := by
          rw [ftrue]; unfold wD ringL; rw [List.map_map]; rfl
        rw [x1]
        generalize (ringL m).mergeSort wle = rw0 at *
        generalize wD (ringL m) = rl0 at *
        simp [he, hsd]
        exact ⟨rw0, rfl, hso, by omega⟩
    · have c' : ¬ (2 : Int) < m := by omega
      simp [c']
      exact ⟨[], rfl, wokWeb_nil, by simp⟩
  rintro e w4 ⟨⟨ringW, rfl, hring, hringl⟩, rfl⟩
  obtain ⟨hev, hevl⟩ := evK_ok hm1 hm5
  rw [pw_sSeq, pw_sFor]
  refine pw_mono (P := fun xs e w5 => (∃ webs : List Web, xs = webs.map (fun W => D.tup (wD W)) ∧ (∀ W ∈ webs, WebOk m W ∧ W.length ≤ 25) ∧ webs.length = 5) ∧ e = [.val (.ref l), .val (.int m), s2, s3, .val (.tup (wD ringW)), .no, .no, .no, .no, .no, .no, .no] ∧ WOk (n + 53) w5 ∧ w5.length = w.length) ?_ ?_
  · skip
    rw [pw_iSeq, pw_eTup, pw_bnd, pw_aCons, pw_eOf, pw_callV]
    simp only [↓pw_bnd, ↓pw_ret, ↓pw_bad, ↓pw_look_d, ↓pw_frz_d, ↓slotD_val, ↓slotD_own, ↓pw_eC, ↓pw_eInt, ↓pw_eUn, ↓pw_eBin, ↓pw_eTup, ↓pw_eLst, ↓pw_aNil, ↓pw_aCons, ↓pw_tVal, ↓pw_tNot, ↓pw_tAnd, ↓pw_tOr, ↓pw_eAnd, ↓pw_eOr, ↓pw_eNot, ↓pw_eIf, ↓pw_eChain, ↓pw_eIx, ↓pw_ixM_ref, ↓pw_ixM_tup, ↓pw_ixM_lst, ↓pw_ixM_scr, ↓pw_pNone, ↓pw_pSome, ↓pw_eCut, ↓pw_callV, ↓pw_call, ↓pw_eOf, ↓pw_kNil, ↓pw_kVal, ↓pw_kDef, ↓pw_kFn, ↓pw_kLam, ↓pw_cap_nil, ↓pw_cap_cons, ↓pw_eCallS, ↓pc_cloOf, ↓pc_lamC, ↓pw_aStar, ↓pw_eIndex, ↓pw_oVal, ↓pw_oLst, ↓pw_oUn, ↓pw_oBin, ↓pw_oVar, ↓pw_oCut, ↓pw_iSeq, ↓pw_iRange, ↓pw_iEnum, ↓pw_iZip, ↓pw_gVar, ↓pw_gNil, ↓pw_gCons, ↓pw_gTup, ↓pw_gIx, ↓pw_putAt, ↓pw_sNil, ↓pw_sSeq, ↓pw_sRet, ↓pw_sRetN, ↓pw_sBrk, ↓pw_sCnt, ↓pw_sExpr, ↓pw_put, ↓pw_sSet, ↓pw_sPar, ↓pw_sAsg, ↓pw_sIf, ↓pw_sFor, ↓pw_appStep, ↓pw_sAppend, ↓pw_ePopAt, ↓pw_tYes, ↓pw_eVar_c, ↓pw_look_c, ↓pw_frz_c, ↓pw_frz_o, ↓pw_lift_c, ↓pw_lift_o, ↓pw_ite_c, ↓pf_a0, ↓pf_a1, ↓pf_a2, ↓pf_a3, ↓pf_a4, List.getElem?_cons_succ, List.getElem?_cons_zero, slS_val, slV'_val, slD_val]
    refine pf_mono (s__law_web h1 (by omega) (by omega) hm5) ?_
    rintro s w5 ⟨⟨web1, rfl, wa1, wa2⟩, g1, g2⟩
    simp only [↓pw_bnd, ↓pw_ret, ↓pw_bad, ↓pw_look_d, ↓pw_frz_d, ↓slotD_val, ↓slotD_own, ↓pw_eC, ↓pw_eInt, ↓pw_eUn, ↓pw_eBin, ↓pw_eTup, ↓pw_eLst, ↓pw_aNil, ↓pw_aCons, ↓pw_tVal, ↓pw_tNot, ↓pw_tAnd, ↓pw_tOr, ↓pw_eAnd, ↓pw_eOr, ↓pw_eNot, ↓pw_eIf, ↓pw_eChain, ↓pw_eIx, ↓pw_ixM_ref, ↓pw_ixM_tup, ↓pw_ixM_lst, ↓pw_ixM_scr, ↓pw_pNone, ↓pw_pSome, ↓pw_eCut, ↓pw_callV, ↓pw_call, ↓pw_eOf, ↓pw_kNil, ↓pw_kVal, ↓pw_kDef, ↓pw_kFn, ↓pw_kLam, ↓pw_cap_nil, ↓pw_cap_cons, ↓pw_eCallS, ↓pc_cloOf, ↓pc_lamC, ↓pw_aStar, ↓pw_eIndex, ↓pw_oVal, ↓pw_oLst, ↓pw_oUn, ↓pw_oBin, ↓pw_oVar, ↓pw_oCut, ↓pw_iSeq, ↓pw_iRange, ↓pw_iEnum, ↓pw_iZip, ↓pw_gVar, ↓pw_gNil, ↓pw_gCons, ↓pw_gTup, ↓pw_gIx, ↓pw_putAt, ↓pw_sNil, ↓pw_sSeq, ↓pw_sRet, ↓pw_sRetN, ↓pw_sBrk, ↓pw_sCnt, ↓pw_sExpr, ↓pw_put, ↓pw_sSet, ↓pw_sPar, ↓pw_sAsg, ↓pw_sIf, ↓pw_sFor, ↓pw_appStep, ↓pw_sAppend, ↓pw_ePopAt, ↓pw_tYes, ↓pw_eVar_c, ↓pw_look_c, ↓pw_frz_c, ↓pw_frz_o, ↓pw_lift_c, ↓pw_lift_o, ↓pw_ite_c, ↓pf_a0, ↓pf_a1, ↓pf_a2, ↓pf_a3, ↓pf_a4, List.getElem?_cons_succ, List.getElem?_cons_zero, slS_val, slV'_val, slD_val]
    refine pf_mono (s__law_web g1 (by omega) (by omega) hm5) ?_
    rintro s w6 ⟨⟨web2, rfl, wb1, wb2⟩, g3, g4⟩
    simp [hs2]
    refine ⟨⟨[web1, web2, ringW, evK m m, []], rfl, ?_, rfl⟩, g3.mono (by omega), by omega⟩
    intro W hW
    simp at hW
    rcases hW with rfl | rfl | rfl | rfl | rfl
    · exact ⟨wa1, wa2⟩
    · exact ⟨wb1, wb2⟩
    · exact ⟨hring, hringl⟩
    · exact ⟨hev, hevl⟩
    · exact ⟨wokWeb_nil, by simp⟩
  rintro xs e w5 ⟨⟨webs, rfl, hwebs, hw5⟩, rfl, h3, h4⟩
  refine pw_forL (fun k e w' => (∃ s5 s6 s7 s8, e = [.val (.ref l), .val (.int m), s2, s3, .val (.tup (wD ringW)), s5, s6, s7, s8, .no, .no, .no]) ∧ WOk (n + 53 + 10 * k) w' ∧ w'.length = w.length) ⟨⟨_, _, _, _, rfl⟩, h3, h4⟩ ?_ ?_
  · rintro k x e w6 hx ⟨⟨s5, s6, s7, s8, rfl⟩, g1, g2⟩
    have hk := (List.getElem?_eq_some_iff.mp hx).1
    simp [hw5] at hk
    rw [List.getElem?_map] at hx
    obtain ⟨web, hwb, rfl⟩ := Option.map_eq_some_iff.mp hx
    obtain ⟨hweb0, hwl⟩ := hwebs web (List.mem_of_getElem? hwb)
    rw [pw_gVar]
    refine ⟨by simp, ?_⟩
    simp only [List.set_cons_succ, List.set_cons_zero]
    refine pw_seq (fun e w7 => (∃ ms : List Rat, e = [.val (.ref l), .val (.int m), s2, s3, .val (.tup (wD ringW)), .val (.tup (wD web)), .val (.tup (mD ms)), s7, s8, .no, .no, .no] ∧ ms.length = m ∧ ∀ q ∈ ms, In0 q) ∧ WOk (n + 53 + 10 * (k + 1)) w7 ∧ w7.length = w.length) ?_ ?_
    · rw [pw_sSet, pw_oVal, pw_eUn]
      refine d_rng Rat rD In0 (fun i w' => WOk (n + 53 + 10 * k + 2 * i) w' ∧ w'.length = w6.length) ⟨g1, rfl⟩ rfl rfl (by omega) ?_ ?_
      · rintro i a w7 hi ⟨g3, g4⟩
        simp
        refine pf_mono (s__law_mind g3 (by omega) (by omega)) ?_
        rintro s w8 ⟨⟨q, rfl, hq0⟩, g7, g8⟩
        simp
        exact ⟨⟨q, rfl, hq0⟩, g7, by omega⟩
      · rintro ms w7 b1 b2 ⟨g3, g4⟩
        have x1 : ms.map rD = mD ms := rfl
        rw [x1]
        simp
        exact ⟨⟨ms, rfl, b1, b2⟩, g3.mono (by omega), by omega⟩
    rintro e w7 ⟨⟨ms, rfl, hml, hq⟩, g3, g4⟩
    have hweb : WebOk ms.length web := by rw [hml]; exact hweb0
    have hq9 : ∀ q ∈ ms, In9 q := fun q h => .of0 (hq q h)
    obtain ⟨ai, ap, hA⟩ := ex_again hq9 (by omega) (by omega) hweb (by omega)
    have k1 := fun (w : W) (P : Sl → W → Prop) => pf_eq (s__law_again (w := w) hq9 (by omega) hweb hA) P
    have k2 := fun (w : W) (P : Sl → W → Prop) => e_again hA (w := w) (fun _ _ => Iff.rfl) hq9 (by omega) (by omega) hweb (by omega) P
    refine pw_seq (fun e w8 => e = [.val (.ref l), .val (.int m), s2, s3, .val (.tup (wD ringW)), .val (.tup (wD web)), .val (.tup (mD ms)), .val (.tup [.int ai, .int ap]), s8, .no, .no, .no] ∧ w8 = w7) ?_ ?_
    · have k1 := k1 w7
      simp [↓pw_bnd, ↓pw_ret, ↓pw_bad, ↓pw_look_d, ↓pw_frz_d, ↓slotD_val, ↓slotD_own, ↓pw_eC, ↓pw_eInt, ↓pw_eUn, ↓pw_eBin, ↓pw_eTup, ↓pw_eLst, ↓pw_aNil, ↓pw_aCons, ↓pw_tVal, ↓pw_tNot, ↓pw_tAnd, ↓pw_tOr, ↓pw_eAnd, ↓pw_eOr, ↓pw_eNot, ↓pw_eIf, ↓pw_eChain, ↓pw_eIx, ↓pw_ixM_ref, ↓pw_ixM_tup, ↓pw_ixM_lst, ↓pw_ixM_scr, ↓pw_pNone, ↓pw_pSome, ↓pw_eCut, ↓pw_callV, ↓pw_call, ↓pw_eOf, ↓pw_kNil, ↓pw_kVal, ↓pw_kDef, ↓pw_kFn, ↓pw_kLam, ↓pw_cap_nil, ↓pw_cap_cons, ↓pw_eCallS, ↓pc_cloOf, ↓pc_lamC, ↓pw_aStar, ↓pw_eIndex, ↓pw_oVal, ↓pw_oLst, ↓pw_oUn, ↓pw_oBin, ↓pw_oVar, ↓pw_oCut, ↓pw_iSeq, ↓pw_iRange, ↓pw_iEnum, ↓pw_iZip, ↓pw_gVar, ↓pw_gNil, ↓pw_gCons, ↓pw_gTup, ↓pw_gIx, ↓pw_putAt, ↓pw_sNil, ↓pw_sSeq, ↓pw_sRet, ↓pw_sRetN, ↓pw_sBrk, ↓pw_sCnt, ↓pw_sExpr, ↓pw_put, ↓pw_sSet, ↓pw_sPar, ↓pw_sAsg, ↓pw_sIf, ↓pw_sFor, ↓pw_appStep, ↓pw_sAppend, ↓pw_ePopAt, ↓pw_tYes, ↓pw_eVar_c, ↓pw_look_c, ↓pw_frz_c, ↓pw_frz_o, ↓pw_lift_c, ↓pw_lift_o, ↓pw_ite_c, ↓pf_a0, ↓pf_a1, ↓pf_a2, ↓pf_a3, ↓pf_a4, ↓k1]
    rintro e w8 ⟨rfl, rfl⟩
    refine pw_seq (fun e w9 => e = [.val (.ref l), .val (.int m), s2, s3, .val (.tup (wD ringW)), .val (.tup (wD web)), .val (.tup (mD ms)), .val (.tup [.int ai, .int ap]), s8, .no, .no, .no] ∧ w9 = w8) ?_ ?_
    · have k2 := k2 w8
      have pp : pmI [1, 0] [D.tup (wD web), .tup (mD ms)] = [.tup (mD ms), .tup (wD web)] := rfl
      have k3 := fun P => e_same (w := w8) (P := P) (pl_pair (pl_ii ai ap) (pl_ii ai ap))
      have A : ∀ P, pw (eOf (callV f_again id (aCons (eVar 6) (aCons (eVar 5) (aNil))))) [.val (.ref l), .val (.int m), s2, s3, .val (.tup (wD ringW)), .val (.tup (wD web)), .val (.tup (mD ms)), .val (.tup [.int ai, .int ap]), s8, .no, .no, .no] w8 P = P (.d (.tup [.int ai, .int ap])) [.val (.ref l), .val (.int m), s2, s3, .val (.tup (wD ringW)), .val (.tup (wD web)), .val (.tup (mD ms)), .val (.tup [.int ai, .int ap]), s8, .no, .no, .no] w8 := fun P => by simp [↓pw_bnd, ↓pw_ret, ↓pw_bad, ↓pw_look_d, ↓pw_frz_d, ↓slotD_val, ↓slotD_own, ↓pw_eC, ↓pw_eInt, ↓pw_eUn, ↓pw_eBin, ↓pw_eTup, ↓pw_eLst, ↓pw_aNil, ↓pw_aCons, ↓pw_tVal, ↓pw_tNot, ↓pw_tAnd, ↓pw_tOr, ↓pw_eAnd, ↓pw_eOr, ↓pw_eNot, ↓pw_eIf, ↓pw_eChain, ↓pw_eIx, ↓pw_ixM_ref, ↓pw_ixM_tup, ↓pw_ixM_lst, ↓pw_ixM_scr, ↓pw_pNone, ↓pw_pSome, ↓pw_eCut, ↓pw_callV, ↓pw_call, ↓pw_eOf, ↓pw_kNil, ↓pw_kVal, ↓pw_kDef, ↓pw_kFn, ↓pw_kLam, ↓pw_cap_nil, ↓pw_cap_cons, ↓pw_eCallS, ↓pc_cloOf, ↓pc_lamC, ↓pw_aStar, ↓pw_eIndex, ↓pw_oVal, ↓pw_oLst, ↓pw_oUn, ↓pw_oBin, ↓pw_oVar, ↓pw_oCut, ↓pw_iSeq, ↓pw_iRange, ↓pw_iEnum, ↓pw_iZip, ↓pw_gVar, ↓pw_gNil, ↓pw_gCons, ↓pw_gTup, ↓pw_gIx, ↓pw_putAt, ↓pw_sNil, ↓pw_sSeq, ↓pw_sRet, ↓pw_sRetN, ↓pw_sBrk, ↓pw_sCnt, ↓pw_sExpr, ↓pw_put, ↓pw_sSet, ↓pw_sPar, ↓pw_sAsg, ↓pw_sIf, ↓pw_sFor, ↓pw_appStep, ↓pw_sAppend, ↓pw_ePopAt, ↓pw_tYes, ↓pw_eVar_c, ↓pw_look_c, ↓pw_frz_c, ↓pw_frz_o, ↓pw_lift_c, ↓pw_lift_o, ↓pw_ite_c, ↓pf_a0, ↓pf_a1, ↓pf_a2, ↓pf_a3, ↓pf_a4, ↓k2]
      have B : ∀ P, pw (eOf (callV f_again (pmI [1, 0]) (aCons (eVar 5) (aCons (eVar 6) (aNil))))) [.val (.ref l), .val (.int m), s2, s3, .val (.tup (wD ringW)), .val (.tup (wD web)), .val (.tup (mD ms)), .val (.tup [.int ai, .int ap]), s8, .no, .no, .no] w8 P = P (.d (.tup [.int ai, .int ap])) [.val (.ref l), .val (.int m), s2, s3, .val (.tup (wD ringW)), .val (.tup (wD web)), .val (.tup (mD ms)), .val (.tup [.int ai, .int ap]), s8, .no, .no, .no] w8 := fun P => by simp [pp, ↓k2]
      generalize hT : D.tup [.int ai, .int ap] = T at *
      simp [↓pw_bnd, ↓pw_ret, ↓pw_bad, ↓pw_look_d, ↓pw_frz_d, ↓slotD_val, ↓slotD_own, ↓pw_eC, ↓pw_eInt, ↓pw_eUn, ↓pw_eBin, ↓pw_eTup, ↓pw_eLst, ↓pw_aNil, ↓pw_aCons, ↓pw_tVal, ↓pw_tNot, ↓pw_tAnd, ↓pw_tOr, ↓pw_eAnd, ↓pw_eOr, ↓pw_eNot, ↓pw_eIf, ↓pw_eChain, ↓pw_eIx, ↓pw_ixM_ref, ↓pw_ixM_tup, ↓pw_ixM_lst, ↓pw_ixM_scr, ↓pw_pNone, ↓pw_pSome, ↓pw_eCut, ↓pw_callV, ↓pw_call, ↓pw_eOf, ↓pw_kNil, ↓pw_kVal, ↓pw_kDef, ↓pw_kFn, ↓pw_kLam, ↓pw_cap_nil, ↓pw_cap_cons, ↓pw_eCallS, ↓pc_cloOf, ↓pc_lamC, ↓pw_aStar, ↓pw_eIndex, ↓pw_oVal, ↓pw_oLst, ↓pw_oUn, ↓pw_oBin, ↓pw_oVar, ↓pw_oCut, ↓pw_iSeq, ↓pw_iRange, ↓pw_iEnum, ↓pw_iZip, ↓pw_gVar, ↓pw_gNil, ↓pw_gCons, ↓pw_gTup, ↓pw_gIx, ↓pw_putAt, ↓pw_sNil, ↓pw_sSeq, ↓pw_sRet, ↓pw_sRetN, ↓pw_sBrk, ↓pw_sCnt, ↓pw_sExpr, ↓pw_put, ↓pw_sSet, ↓pw_sPar, ↓pw_sAsg, ↓pw_sIf, ↓pw_sFor, ↓pw_appStep, ↓pw_sAppend, ↓pw_ePopAt, ↓pw_tYes, ↓pw_eVar_c, ↓pw_look_c, ↓pw_frz_c, ↓pw_frz_o, ↓pw_lift_c, ↓pw_lift_o, ↓pw_ite_c, ↓pf_a0, ↓pf_a1, ↓pf_a2, ↓pf_a3, ↓pf_a4, ↓A, ↓B, ↓k3]
    rintro e w9 ⟨rfl, rfl⟩
    obtain ⟨odd, hodd⟩ : ∃ odd : List Nat, odd = (List.range m).filter fun k => decide ((nbs web k).length % 2 = 1) := ⟨_, rfl⟩
    refine pw_seq (fun e w10 => e = [.val (.ref l), .val (.int m), s2, s3, .val (.tup (wD ringW)), .val (.tup (wD web)), .val (.tup (mD ms)), .val (.tup [.int ai, .int ap]), .own (.lst (nD odd)), .no, .no, .no] ∧ w10 = w9) ?_ ?_
    · rw [pw_sSet, pw_oComp, pw_comp, pw_eqn (i_rng (n := m) rfl (by omega))]
      refine ⟨⟨by simp [hs3], by simp; omega⟩, ?_⟩
      refine pw_fmR (e0 := [.val (.ref l), .val (.int m), s2, .no, .val (.tup (wD ringW)), .val (.tup (wD web)), .val (.tup (mD ms)), .val (.tup [.int ai, .int ap]), s8, .no, .no, .no]) (fun j => [.val (.ref l), .val (.int m), s2, .val (.int j), .val (.tup (wD ringW)), .val (.tup (wD web)), .val (.tup (mD ms)), .val (.tup [.int ai, .int ap]), s8, .no, .no, .no]) (fun j => decide ((nbs web j).length % 2 = 1)) (fun j => .int j) rfl rfl (fun a _ => ⟨rfl, rfl⟩) (fun a _ => by simp) (fun j hj => ?_) (fun j hj _ => by simp) ?_
      · have a1 := c_filI (v := 11) (i := iSeq (eVar 5)) (t := tVal (eBin dIn (eVar 3) (eVar 11))) (elt := eVar 11) (e := [.val (.ref l), .val (.int m), s2, .val (.int j), .val (.tup (wD ringW)), .val (.tup (wD web)), .val (.tup (mD ms)), .val (.tup [.int ai, .int ap]), s8, .no, .no, .no]) (w := w9) web pD pD (fun p => decide (j = p.1 ∨ j = p.2)) rfl (i_seq (.inl rfl)) (by omega) (fun p hp => by simp [↓pw_bnd, ↓pw_ret, ↓pw_bad, ↓pw_look_d, ↓pw_frz_d, ↓slotD_val, ↓slotD_own, ↓pw_eC, ↓pw_eInt, ↓pw_eUn, ↓pw_eBin, ↓pw_eTup, ↓pw_eLst, ↓pw_aNil, ↓pw_aCons, ↓pw_tVal, ↓pw_tNot, ↓pw_tAnd, ↓pw_tOr, ↓pw_eAnd, ↓pw_eOr, ↓pw_eNot, ↓pw_eIf, ↓pw_eChain, ↓pw_eIx, ↓pw_ixM_ref, ↓pw_ixM_tup, ↓pw_ixM_lst, ↓pw_ixM_scr, ↓pw_pNone, ↓pw_pSome, ↓pw_eCut, ↓pw_callV, ↓pw_call, ↓pw_eOf, ↓pw_kNil, ↓pw_kVal, ↓pw_kDef, ↓pw_kFn, ↓pw_kLam, ↓pw_cap_nil, ↓pw_cap_cons, ↓pw_eCallS, ↓pc_cloOf, ↓pc_lamC, ↓pw_aStar, ↓pw_eIndex, ↓pw_oVal, ↓pw_oLst, ↓pw_oUn, ↓pw_oBin, ↓pw_oVar, ↓pw_oCut, ↓pw_iSeq, ↓pw_iRange, ↓pw_iEnum, ↓pw_iZip, ↓pw_gVar, ↓pw_gNil, ↓pw_gCons, ↓pw_gTup, ↓pw_gIx, ↓pw_putAt, ↓pw_sNil, ↓pw_sSeq, ↓pw_sRet, ↓pw_sRetN, ↓pw_sBrk, ↓pw_sCnt, ↓pw_sExpr, ↓pw_put, ↓pw_sSet, ↓pw_sPar, ↓pw_sAsg, ↓pw_sIf, ↓pw_sFor, ↓pw_appStep, ↓pw_sAppend, ↓pw_ePopAt, ↓pw_tYes, ↓pw_eVar_c, ↓pw_look_c, ↓pw_frz_c, ↓pw_frz_o, ↓pw_lift_c, ↓pw_lift_o, ↓pw_ite_c, ↓pf_a0, ↓pf_a1, ↓pf_a2, ↓pf_a3, ↓pf_a4, pD, dIn_two]) (fun p hp _ => by simp [↓pw_bnd, ↓pw_ret, ↓pw_bad, ↓pw_look_d, ↓pw_frz_d, ↓slotD_val, ↓slotD_own, ↓pw_eC, ↓pw_eInt, ↓pw_eUn, ↓pw_eBin, ↓pw_eTup, ↓pw_eLst, ↓pw_aNil, ↓pw_aCons, ↓pw_tVal, ↓pw_tNot, ↓pw_tAnd, ↓pw_tOr, ↓pw_eAnd, ↓pw_eOr, ↓pw_eNot, ↓pw_eIf, ↓pw_eChain, ↓pw_eIx, ↓pw_ixM_ref, ↓pw_ixM_tup, ↓pw_ixM_lst, ↓pw_ixM_scr, ↓pw_pNone, ↓pw_pSome, ↓pw_eCut, ↓pw_callV, ↓pw_call, ↓pw_eOf, ↓pw_kNil, ↓pw_kVal, ↓pw_kDef, ↓pw_kFn, ↓pw_kLam, ↓pw_cap_nil, ↓pw_cap_cons, ↓pw_eCallS, ↓pc_cloOf, ↓pc_lamC, ↓pw_aStar, ↓pw_eIndex, ↓pw_oVal, ↓pw_oLst, ↓pw_oUn, ↓pw_oBin, ↓pw_oVar, ↓pw_oCut, ↓pw_iSeq, ↓pw_iRange, ↓pw_iEnum, ↓pw_iZip, ↓pw_gVar, ↓pw_gNil, ↓pw_gCons, ↓pw_gTup, ↓pw_gIx, ↓pw_putAt, ↓pw_sNil, ↓pw_sSeq, ↓pw_sRet, ↓pw_sRetN, ↓pw_sBrk, ↓pw_sCnt, ↓pw_sExpr, ↓pw_put, ↓pw_sSet, ↓pw_sPar, ↓pw_sAsg, ↓pw_sIf, ↓pw_sFor, ↓pw_appStep, ↓pw_sAppend, ↓pw_ePopAt, ↓pw_tYes, ↓pw_eVar_c, ↓pw_look_c, ↓pw_frz_c, ↓pw_frz_o, ↓pw_lift_c, ↓pw_lift_o, ↓pw_ite_c, ↓pf_a0, ↓pf_a1, ↓pf_a2, ↓pf_a3, ↓pf_a4])
        have dl : dLen (.lst ((web.filter fun p => decide (j = p.1 ∨ j = p.2)).map pD)) = some (.int ((nbs web j).length : Nat)) := by
          show some (D.int ((web.filter fun p => decide (j = p.1 ∨ j = p.2)).map pD).length) = _
          rw [List.length_map, nbs_len]
        have dm : dMod (.int ((nbs web j).length : Nat)) (.int 2) = some (.int (((nbs web j).length % 2 : Nat) : Int)) := by
          rw [dMod_ok (by decide), Int.fmod_eq_emod_of_nonneg _ (by decide)]; rfl
        have de : dEq (.int (((nbs web j).length % 2 : Nat) : Int)) (.int 1) = some (.bl (decide ((nbs web j).length % 2 = 1))) := by
          rw [dEq_int]
          congr 2
          by_cases c : (nbs web j).length % 2 = 1
          · rw [c]; rfl
          · rw [decide_eq_false c]
            exact beq_eq_false_iff_ne.mpr (by omega)
        generalize (web.filter fun p => decide (j = p.1 ∨ j = p.2)).map pD = L0 at *
        generalize (nbs web j).length = L1 at *
        generalize L1 % 2 = L2 at *
        simp [↓pw_bnd, ↓pw_ret, ↓pw_bad, ↓pw_look_d, ↓pw_frz_d, ↓slotD_val, ↓slotD_own, ↓pw_eC, ↓pw_eInt, ↓pw_eUn, ↓pw_eBin, ↓pw_eTup, ↓pw_eLst, ↓pw_aNil, ↓pw_aCons, ↓pw_tVal, ↓pw_tNot, ↓pw_tAnd, ↓pw_tOr, ↓pw_eAnd, ↓pw_eOr, ↓pw_eNot, ↓pw_eIf, ↓pw_eChain, ↓pw_eIx, ↓pw_ixM_ref, ↓pw_ixM_tup, ↓pw_ixM_lst, ↓pw_ixM_scr, ↓pw_pNone, ↓pw_pSome, ↓pw_eCut, ↓pw_callV, ↓pw_call, ↓pw_eOf, ↓pw_kNil, ↓pw_kVal, ↓pw_kDef, ↓pw_kFn, ↓pw_kLam, ↓pw_cap_nil, ↓pw_cap_cons, ↓pw_eCallS, ↓pc_cloOf, ↓pc_lamC, ↓pw_aStar, ↓pw_eIndex, ↓pw_oVal, ↓pw_oLst, ↓pw_oUn, ↓pw_oBin, ↓pw_oVar, ↓pw_oCut, ↓pw_iSeq, ↓pw_iRange, ↓pw_iEnum, ↓pw_iZip, ↓pw_gVar, ↓pw_gNil, ↓pw_gCons, ↓pw_gTup, ↓pw_gIx, ↓pw_putAt, ↓pw_sNil, ↓pw_sSeq, ↓pw_sRet, ↓pw_sRetN, ↓pw_sBrk, ↓pw_sCnt, ↓pw_sExpr, ↓pw_put, ↓pw_sSet, ↓pw_sPar, ↓pw_sAsg, ↓pw_sIf, ↓pw_sFor, ↓pw_appStep, ↓pw_sAppend, ↓pw_ePopAt, ↓pw_tYes, ↓pw_eVar_c, ↓pw_look_c, ↓pw_frz_c, ↓pw_frz_o, ↓pw_lift_c, ↓pw_lift_o, ↓pw_ite_c, ↓pf_a0, ↓pf_a1, ↓pf_a2, ↓pf_a3, ↓pf_a4, ↓a1, dl, dm, de]
      · intro e' he
        have x1 : ((List.range m).filter fun j => decide ((nbs web j).length % 2 = 1)).map (fun (j : Nat) => D.int j) = nD odd := by rw [hodd]; rfl
        rw [x1]
        simp [he]
    rintro e w10 ⟨rfl, rfl⟩
    obtain ⟨hp0, hpi, hpd⟩ := hA
    have hper : odd = [] → ¬ (2 : Int) < ap := fun ho z => by
      have hev : ∀ k, k < ms.length → (nbs web k).length % 2 = 0 := fun k hk => by
        have hnot : k ∉ odd := by rw [ho]; simp
        rw [hodd, List.mem_filter] at hnot
        refine Classical.byContradiction fun h => hnot ⟨List.mem_range.mpr (by omega), by simp; omega⟩
      exact hpd ai (ai + 2) (by omega) (by omega) (period_two hweb hev hp0 hpi)
    have hnil : web = [] → ai = 0 ∧ ap = 1 := fun hz => by
      subst hz
      have := again_uniq (fun _ _ => Iff.rfl) (show AgainS (fun k => stepsM [] k ms) ai ap from ⟨hp0, hpi, hpd⟩) (show AgainS (fun k => stepsM [] k ms) 0 1 from ⟨by decide, by simp [stepsM_nil], fun a b hab hb => by omega⟩)
      exact this
    have d1 := dEq_nD (ns := odd)
    have d2 := dEq_wD (xs := web)
    have d3 := dNe_ii (i := ai) (p := ap)
    refine pw_seq (fun e w11 => (∃ s8, e = [.val (.ref l), .val (.int m), s2, s3, .val (.tup (wD ringW)), .val (.tup (wD web)), .val (.tup (mD ms)), .val (.tup [.int ai, .int ap]), s8, .no, .no, .no]) ∧ w11 = w10) ?_ ?_
    · by_cases c1 : odd = []
      · have c2 := hper c1
        rw [decide_eq_true c1] at d1
        by_cases c3 : web = []
        · rw [decide_eq_true c3] at d2
          rw [decide_eq_true (hnil c3)] at d3
          simp [↓pw_bnd, ↓pw_ret, ↓pw_bad, ↓pw_look_d, ↓pw_frz_d, ↓slotD_val, ↓slotD_own, ↓pw_eC, ↓pw_eInt, ↓pw_eUn, ↓pw_eBin, ↓pw_eTup, ↓pw_eLst, ↓pw_aNil, ↓pw_aCons, ↓pw_tVal, ↓pw_tNot, ↓pw_tAnd, ↓pw_tOr, ↓pw_eAnd, ↓pw_eOr, ↓pw_eNot, ↓pw_eIf, ↓pw_eChain, ↓pw_eIx, ↓pw_ixM_ref, ↓pw_ixM_tup, ↓pw_ixM_lst, ↓pw_ixM_scr, ↓pw_pNone, ↓pw_pSome, ↓pw_eCut, ↓pw_callV, ↓pw_call, ↓pw_eOf, ↓pw_kNil, ↓pw_kVal, ↓pw_kDef, ↓pw_kFn, ↓pw_kLam, ↓pw_cap_nil, ↓pw_cap_cons, ↓pw_eCallS, ↓pc_cloOf, ↓pc_lamC, ↓pw_aStar, ↓pw_eIndex, ↓pw_oVal, ↓pw_oLst, ↓pw_oUn, ↓pw_oBin, ↓pw_oVar, ↓pw_oCut, ↓pw_iSeq, ↓pw_iRange, ↓pw_iEnum, ↓pw_iZip, ↓pw_gVar, ↓pw_gNil, ↓pw_gCons, ↓pw_gTup, ↓pw_gIx, ↓pw_putAt, ↓pw_sNil, ↓pw_sSeq, ↓pw_sRet, ↓pw_sRetN, ↓pw_sBrk, ↓pw_sCnt, ↓pw_sExpr, ↓pw_put, ↓pw_sSet, ↓pw_sPar, ↓pw_sAsg, ↓pw_sIf, ↓pw_sFor, ↓pw_appStep, ↓pw_sAppend, ↓pw_ePopAt, ↓pw_tYes, ↓pw_eVar_c, ↓pw_look_c, ↓pw_frz_c, ↓pw_frz_o, ↓pw_lift_c, ↓pw_lift_o, ↓pw_ite_c, ↓pf_a0, ↓pf_a1, ↓pf_a2, ↓pf_a3, ↓pf_a4, d1, d2, d3, c2]
        · rw [decide_eq_false c3] at d2
          simp [↓pw_bnd, ↓pw_ret, ↓pw_bad, ↓pw_look_d, ↓pw_frz_d, ↓slotD_val, ↓slotD_own, ↓pw_eC, ↓pw_eInt, ↓pw_eUn, ↓pw_eBin, ↓pw_eTup, ↓pw_eLst, ↓pw_aNil, ↓pw_aCons, ↓pw_tVal, ↓pw_tNot, ↓pw_tAnd, ↓pw_tOr, ↓pw_eAnd, ↓pw_eOr, ↓pw_eNot, ↓pw_eIf, ↓pw_eChain, ↓pw_eIx, ↓pw_ixM_ref, ↓pw_ixM_tup, ↓pw_ixM_lst, ↓pw_ixM_scr, ↓pw_pNone, ↓pw_pSome, ↓pw_eCut, ↓pw_callV, ↓pw_call, ↓pw_eOf, ↓pw_kNil, ↓pw_kVal, ↓pw_kDef, ↓pw_kFn, ↓pw_kLam, ↓pw_cap_nil, ↓pw_cap_cons, ↓pw_eCallS, ↓pc_cloOf, ↓pc_lamC, ↓pw_aStar, ↓pw_eIndex, ↓pw_oVal, ↓pw_oLst, ↓pw_oUn, ↓pw_oBin, ↓pw_oVar, ↓pw_oCut, ↓pw_iSeq, ↓pw_iRange, ↓pw_iEnum, ↓pw_iZip, ↓pw_gVar, ↓pw_gNil, ↓pw_gCons, ↓pw_gTup, ↓pw_gIx, ↓pw_putAt, ↓pw_sNil, ↓pw_sSeq, ↓pw_sRet, ↓pw_sRetN, ↓pw_sBrk, ↓pw_sCnt, ↓pw_sExpr, ↓pw_put, ↓pw_sSet, ↓pw_sPar, ↓pw_sAsg, ↓pw_sIf, ↓pw_sFor, ↓pw_appStep, ↓pw_sAppend, ↓pw_ePopAt, ↓pw_tYes, ↓pw_eVar_c, ↓pw_look_c, ↓pw_frz_c, ↓pw_frz_o, ↓pw_lift_c, ↓pw_lift_o, ↓pw_ite_c, ↓pf_a0, ↓pf_a1, ↓pf_a2, ↓pf_a3, ↓pf_a4, d1, d2, c2]
      · rw [decide_eq_false c1] at d1
        by_cases c3 : web = []
        · rw [decide_eq_true c3] at d2
          rw [decide_eq_true (hnil c3)] at d3
          simp [↓pw_bnd, ↓pw_ret, ↓pw_bad, ↓pw_look_d, ↓pw_frz_d, ↓slotD_val, ↓slotD_own, ↓pw_eC, ↓pw_eInt, ↓pw_eUn, ↓pw_eBin, ↓pw_eTup, ↓pw_eLst, ↓pw_aNil, ↓pw_aCons, ↓pw_tVal, ↓pw_tNot, ↓pw_tAnd, ↓pw_tOr, ↓pw_eAnd, ↓pw_eOr, ↓pw_eNot, ↓pw_eIf, ↓pw_eChain, ↓pw_eIx, ↓pw_ixM_ref, ↓pw_ixM_tup, ↓pw_ixM_lst, ↓pw_ixM_scr, ↓pw_pNone, ↓pw_pSome, ↓pw_eCut, ↓pw_callV, ↓pw_call, ↓pw_eOf, ↓pw_kNil, ↓pw_kVal, ↓pw_kDef, ↓pw_kFn, ↓pw_kLam, ↓pw_cap_nil, ↓pw_cap_cons, ↓pw_eCallS, ↓pc_cloOf, ↓pc_lamC, ↓pw_aStar, ↓pw_eIndex, ↓pw_oVal, ↓pw_oLst, ↓pw_oUn, ↓pw_oBin, ↓pw_oVar, ↓pw_oCut, ↓pw_iSeq, ↓pw_iRange, ↓pw_iEnum, ↓pw_iZip, ↓pw_gVar, ↓pw_gNil, ↓pw_gCons, ↓pw_gTup, ↓pw_gIx, ↓pw_putAt, ↓pw_sNil, ↓pw_sSeq, ↓pw_sRet, ↓pw_sRetN, ↓pw_sBrk, ↓pw_sCnt, ↓pw_sExpr, ↓pw_put, ↓pw_sSet, ↓pw_sPar, ↓pw_sAsg, ↓pw_sIf, ↓pw_sFor, ↓pw_appStep, ↓pw_sAppend, ↓pw_ePopAt, ↓pw_tYes, ↓pw_eVar_c, ↓pw_look_c, ↓pw_frz_c, ↓pw_frz_o, ↓pw_lift_c, ↓pw_lift_o, ↓pw_ite_c, ↓pf_a0, ↓pf_a1, ↓pf_a2, ↓pf_a3, ↓pf_a4, d1, d2, d3]
        · rw [decide_eq_false c3] at d2
          simp [↓pw_bnd, ↓pw_ret, ↓pw_bad, ↓pw_look_d, ↓pw_frz_d, ↓slotD_val, ↓slotD_own, ↓pw_eC, ↓pw_eInt, ↓pw_eUn, ↓pw_eBin, ↓pw_eTup, ↓pw_eLst, ↓pw_aNil, ↓pw_aCons, ↓pw_tVal, ↓pw_tNot, ↓pw_tAnd, ↓pw_tOr, ↓pw_eAnd, ↓pw_eOr, ↓pw_eNot, ↓pw_eIf, ↓pw_eChain, ↓pw_eIx, ↓pw_ixM_ref, ↓pw_ixM_tup, ↓pw_ixM_lst, ↓pw_ixM_scr, ↓pw_pNone, ↓pw_pSome, ↓pw_eCut, ↓pw_callV, ↓pw_call, ↓pw_eOf, ↓pw_kNil, ↓pw_kVal, ↓pw_kDef, ↓pw_kFn, ↓pw_kLam, ↓pw_cap_nil, ↓pw_cap_cons, ↓pw_eCallS, ↓pc_cloOf, ↓pc_lamC, ↓pw_aStar, ↓pw_eIndex, ↓pw_oVal, ↓pw_oLst, ↓pw_oUn, ↓pw_oBin, ↓pw_oVar, ↓pw_oCut, ↓pw_iSeq, ↓pw_iRange, ↓pw_iEnum, ↓pw_iZip, ↓pw_gVar, ↓pw_gNil, ↓pw_gCons, ↓pw_gTup, ↓pw_gIx, ↓pw_putAt, ↓pw_sNil, ↓pw_sSeq, ↓pw_sRet, ↓pw_sRetN, ↓pw_sBrk, ↓pw_sCnt, ↓pw_sExpr, ↓pw_put, ↓pw_sSet, ↓pw_sPar, ↓pw_sAsg, ↓pw_sIf, ↓pw_sFor, ↓pw_appStep, ↓pw_sAppend, ↓pw_ePopAt, ↓pw_tYes, ↓pw_eVar_c, ↓pw_look_c, ↓pw_frz_c, ↓pw_frz_o, ↓pw_lift_c, ↓pw_lift_o, ↓pw_ite_c, ↓pf_a0, ↓pf_a1, ↓pf_a2, ↓pf_a3, ↓pf_a4, d1, d2]
    clear s8
    rintro e w11 ⟨⟨s8, rfl⟩, rfl⟩
    have m1 := dMin40 (k := ai + ap)
    have m2 := dMin40 (k := ai)
    have j1 := pf_eq (s_middles_after (w := w11) (ms := ms) (web := web) (n := min 40 (ai + ap)) hq9 (by omega) (by omega) hweb (by omega) (by omega))
    have j2 := pf_eq (s_middles_after (w := w11) (ms := ms) (web := web) (n := min 40 ai) hq9 (by omega) (by omega) hweb (by omega) (by omega))
    have sm : dSumA (.tup [.int ai, .int ap]) = some (.int (((ai + ap : Nat)) : Int)) := by
      simp [dSumA, allI]
    have ac : ((ai : Int) + (ap : Int)) = ((ai + ap : Nat) : Int) := by simp
    by_cases c : ai + ap ≤ 40
    · have e1 : min 40 (ai + ap) = ai + ap := by omega
      have e2 : min 40 ai = ai := by omega
      rw [e1] at m1 j1
      rw [e2] at m2 j2
      have hpi' : stepsM web ai ms = stepsM web (ai + ap) ms := hpi
      rw [← hpi'] at j1
      have k3 := fun P => e_same (w := w11) (P := P) (pl_mD3 (stepsM web ai ms) (by rw [stepsM_len]; omega))
      generalize hz : stepsM web ai ms = Z at *
      rw [← ac] at m1 j1
      have A : ∀ P, pw (eOf (callV f_middles_after id (aCons (eVar 6) (aCons (eVar 5) (aCons (eBin dMin (eInt 40) (eBin dAdd (eIx (eVar 7) (eInt 0)) (eIx (eVar 7) (eInt 1)))) (aNil)))))) [.val (.ref l), .val (.int m), s2, s3, .val (.tup (wD ringW)), .val (.tup (wD web)), .val (.tup (mD ms)), .val (.tup [.int ai, .int ap]), s8, .no, .no, .no] w11 P = P (.d (.tup (mD Z))) [.val (.ref l), .val (.int m), s2, s3, .val (.tup (wD ringW)), .val (.tup (wD web)), .val (.tup (mD ms)), .val (.tup [.int ai, .int ap]), s8, .no, .no, .no] w11 := fun P => by simp [m1, ↓j1]
      have B : ∀ P, pw (eOf (callV f_middles_after id (aCons (eVar 6) (aCons (eVar 5) (aCons (eBin dMin (eInt 40) (eIx (eVar 7) (eInt 0))) (aNil)))))) [.val (.ref l), .val (.int m), s2, s3, .val (.tup (wD ringW)), .val (.tup (wD web)), .val (.tup (mD ms)), .val (.tup [.int ai, .int ap]), s8, .no, .no, .no] w11 P = P (.d (.tup (mD Z))) [.val (.ref l), .val (.int m), s2, s3, .val (.tup (wD ringW)), .val (.tup (wD web)), .val (.tup (mD ms)), .val (.tup [.int ai, .int ap]), s8, .no, .no, .no] w11 := fun P => by simp [m2, ↓j2]
      simp [↓pw_bnd, ↓pw_ret, ↓pw_bad, ↓pw_look_d, ↓pw_frz_d, ↓slotD_val, ↓slotD_own, ↓pw_eC, ↓pw_eInt, ↓pw_eUn, ↓pw_eBin, ↓pw_eTup, ↓pw_eLst, ↓pw_aNil, ↓pw_aCons, ↓pw_tVal, ↓pw_tNot, ↓pw_tAnd, ↓pw_tOr, ↓pw_eAnd, ↓pw_eOr, ↓pw_eNot, ↓pw_eIf, ↓pw_eChain, ↓pw_eIx, ↓pw_ixM_ref, ↓pw_ixM_tup, ↓pw_ixM_lst, ↓pw_ixM_scr, ↓pw_pNone, ↓pw_pSome, ↓pw_eCut, ↓pw_callV, ↓pw_call, ↓pw_eOf, ↓pw_kNil, ↓pw_kVal, ↓pw_kDef, ↓pw_kFn, ↓pw_kLam, ↓pw_cap_nil, ↓pw_cap_cons, ↓pw_eCallS, ↓pc_cloOf, ↓pc_lamC, ↓pw_aStar, ↓pw_eIndex, ↓pw_oVal, ↓pw_oLst, ↓pw_oUn, ↓pw_oBin, ↓pw_oVar, ↓pw_oCut, ↓pw_iSeq, ↓pw_iRange, ↓pw_iEnum, ↓pw_iZip, ↓pw_gVar, ↓pw_gNil, ↓pw_gCons, ↓pw_gTup, ↓pw_gIx, ↓pw_putAt, ↓pw_sNil, ↓pw_sSeq, ↓pw_sRet, ↓pw_sRetN, ↓pw_sBrk, ↓pw_sCnt, ↓pw_sExpr, ↓pw_put, ↓pw_sSet, ↓pw_sPar, ↓pw_sAsg, ↓pw_sIf, ↓pw_sFor, ↓pw_appStep, ↓pw_sAppend, ↓pw_ePopAt, ↓pw_tYes, ↓pw_eVar_c, ↓pw_look_c, ↓pw_frz_c, ↓pw_frz_o, ↓pw_lift_c, ↓pw_lift_o, ↓pw_ite_c, ↓pf_a0, ↓pf_a1, ↓pf_a2, ↓pf_a3, ↓pf_a4, ↓A, ↓B, ↓k3]
      exact ⟨g3, g4⟩
    · have k3 := g_same_mD (xs := stepsM web (min 40 (ai + ap)) ms) (ys := stepsM web (min 40 ai) ms) (w := w11) (by rw [stepsM_len, stepsM_len]) (by rw [stepsM_len]; omega)
      have hlt : ¬ ((ai + ap : Nat) : Int) < 41 := by omega
      generalize stepsM web (min 40 (ai + ap)) ms = Z1 at *
      generalize stepsM web (min 40 ai) ms = Z2 at *
      generalize min 40 (ai + ap) = n1 at *
      generalize min 40 ai = n2 at *
      rw [← ac] at m1
      have A : ∀ P, pw (eOf (callV f_middles_after id (aCons (eVar 6) (aCons (eVar 5) (aCons (eBin dMin (eInt 40) (eBin dAdd (eIx (eVar 7) (eInt 0)) (eIx (eVar 7) (eInt 1)))) (aNil)))))) [.val (.ref l), .val (.int m), s2, s3, .val (.tup (wD ringW)), .val (.tup (wD web)), .val (.tup (mD ms)), .val (.tup [.int ai, .int ap]), s8, .no, .no, .no] w11 P = P (.d (.tup (mD Z1))) [.val (.ref l), .val (.int m), s2, s3, .val (.tup (wD ringW)), .val (.tup (wD web)), .val (.tup (mD ms)), .val (.tup [.int ai, .int ap]), s8, .no, .no, .no] w11 := fun P => by simp [m1, ↓j1]
      have B : ∀ P, pw (eOf (callV f_middles_after id (aCons (eVar 6) (aCons (eVar 5) (aCons (eBin dMin (eInt 40) (eIx (eVar 7) (eInt 0))) (aNil)))))) [.val (.ref l), .val (.int m), s2, s3, .val (.tup (wD ringW)), .val (.tup (wD web)), .val (.tup (mD ms)), .val (.tup [.int ai, .int ap]), s8, .no, .no, .no] w11 P = P (.d (.tup (mD Z2))) [.val (.ref l), .val (.int m), s2, s3, .val (.tup (wD ringW)), .val (.tup (wD web)), .val (.tup (mD ms)), .val (.tup [.int ai, .int ap]), s8, .no, .no, .no] w11 := fun P => by simp [m2, ↓j2]
      rw [pw_sIf, pw_tAnd, pw_tNot, pw_tVal, pw_eOf, pw_callV, pw_aCons, A, pw_frz_d, pw_aCons, B, pw_frz_d, pw_aNil, pf_a2]
      refine pf_mono k3 ?_
      rintro s w12 ⟨⟨b, rfl⟩, rfl⟩
      cases b with
      | true =>
        simp
        exact ⟨g3, g4⟩
      | false =>
        generalize ((ai + ap : Nat) : Int) = sm1 at *
        simp [↓pw_bnd, ↓pw_ret, ↓pw_bad, ↓pw_look_d, ↓pw_frz_d, ↓slotD_val, ↓slotD_own, ↓pw_eC, ↓pw_eInt, ↓pw_eUn, ↓pw_eBin, ↓pw_eTup, ↓pw_eLst, ↓pw_aNil, ↓pw_aCons, ↓pw_tVal, ↓pw_tNot, ↓pw_tAnd, ↓pw_tOr, ↓pw_eAnd, ↓pw_eOr, ↓pw_eNot, ↓pw_eIf, ↓pw_eChain, ↓pw_eIx, ↓pw_ixM_ref, ↓pw_ixM_tup, ↓pw_ixM_lst, ↓pw_ixM_scr, ↓pw_pNone, ↓pw_pSome, ↓pw_eCut, ↓pw_callV, ↓pw_call, ↓pw_eOf, ↓pw_kNil, ↓pw_kVal, ↓pw_kDef, ↓pw_kFn, ↓pw_kLam, ↓pw_cap_nil, ↓pw_cap_cons, ↓pw_eCallS, ↓pc_cloOf, ↓pc_lamC, ↓pw_aStar, ↓pw_eIndex, ↓pw_oVal, ↓pw_oLst, ↓pw_oUn, ↓pw_oBin, ↓pw_oVar, ↓pw_oCut, ↓pw_iSeq, ↓pw_iRange, ↓pw_iEnum, ↓pw_iZip, ↓pw_gVar, ↓pw_gNil, ↓pw_gCons, ↓pw_gTup, ↓pw_gIx, ↓pw_putAt, ↓pw_sNil, ↓pw_sSeq, ↓pw_sRet, ↓pw_sRetN, ↓pw_sBrk, ↓pw_sCnt, ↓pw_sExpr, ↓pw_put, ↓pw_sSet, ↓pw_sPar, ↓pw_sAsg, ↓pw_sIf, ↓pw_sFor, ↓pw_appStep, ↓pw_sAppend, ↓pw_ePopAt, ↓pw_tYes, ↓pw_eVar_c, ↓pw_look_c, ↓pw_frz_c, ↓pw_frz_o, ↓pw_lift_c, ↓pw_lift_o, ↓pw_ite_c, ↓pf_a0, ↓pf_a1, ↓pf_a2, ↓pf_a3, ↓pf_a4, sm, hlt]
        exact ⟨g3, g4⟩
  · rintro e w6 ⟨⟨s5, s6, s7, s8, rfl⟩, g1, g2⟩
    rw [List.length_map, hw5] at g1
    simp
    exact ⟨g1.mono (by omega), g2⟩
end K60
end Mnd
namespace Mnd
namespace K60
open PySem
def refs (k : Nat) : List D := (List.range k).map fun (j : Nat) => D.ref j
theorem s_law (ns : List Int) : pf f_law [.val (.scr ns)] [] fun s _ => s = .val (.bl true) := by
  unfold f_law b_law
  rw [pf_mkFn]
  refine ⟨rfl, ?_⟩
  have e0 : [Sl.val (.scr ns)] ++ List.replicate (3 - 1) Sl.no = [.val (.scr ns), .no, .no] := rfl
  rw [e0]
  obtain ⟨k, hk, k1, k3⟩ : ∃ k : Nat, (if (if (3 : Int) < ns.length then 3 else (ns.length : Int)) > 1 then (if (3 : Int) < ns.length then 3 else (ns.length : Int)) else 1) = (k : Int) ∧ 1 ≤ k ∧ k ≤ 3 := by
    refine ⟨(if (if (3 : Int) < ns.length then 3 else (ns.length : Int)) > 1 then (if (3 : Int) < ns.length then 3 else (ns.length : Int)) else 1).toNat, ?_, ?_, ?_⟩ <;> (split <;> (try split) <;> omega)
  refine pw_seq (fun e w => e = [.val (.scr ns), .own (.lst (refs k)), .no] ∧ WOk 0 w ∧ w.length = k) ?_ ?_
  · rw [pw_sSet, pw_oComp, pw_comp]
    refine pw_mono (P := fun xs e w => xs = (List.range k).map (fun (j : Nat) => D.int j) ∧ e = [.val (.scr ns), .no, .no] ∧ w = []) ?_ ?_
    · have q1 : (k : Int) ≤ 100000 := by omega
      have q2 : (-100000 : Int) ≤ (k : Int) := by omega
      simp
      simp only [gt_iff_lt] at hk
      rw [hk]
      exact ⟨⟨q1, q2⟩, by simp⟩
    rintro xs e w ⟨rfl, rfl, rfl⟩
    refine ⟨⟨by simp [isOwn], by simp; omega⟩, ?_⟩
    refine pw_compL (fun i ds e w => ds = refs i ∧ (∃ a, e = [.val (.scr ns), .no, a]) ∧ WOk 0 w ∧ w.length = i) ⟨rfl, ⟨_, rfl⟩, fun i xs q => by simp at q, rfl⟩ ?_ ?_
    · rintro i x ds e w hx ⟨rfl, ⟨a, rfl⟩, h1, h2⟩
      have hi := (List.getElem?_eq_some_iff.mp hx).1
      simp at hi
      rw [List.getElem?_map, List.getElem?_range hi] at hx
      obtain rfl := Option.some.inj hx
      simp [wipeE, pw_eRef]
      refine pf_mono (s__law_well (lap := i) (by omega)) ?_
      rintro s w2 ⟨⟨p, r, rfl, p1, p2, p3⟩, rfl⟩
      simp
      refine ⟨by simp [refs, List.range_succ, h2], ?_, h2⟩
      intro l xs q
      by_cases hl : l < w2.length
      · rw [List.getElem?_append_left hl] at q
        exact h1 l xs q
      · rw [List.getElem?_append_right (by omega)] at q
        have : l - w2.length = 0 := by
          have := (List.getElem?_eq_some_iff.mp q).1
          simp at this; omega
        rw [this] at q
        simp at q
        exact ⟨p, r, 0, q.symm, p1, p2, p3, by omega, by omega⟩
    · rintro ds e w ⟨rfl, ⟨a, rfl⟩, h1, h2⟩
      simp at h2
      simp [backE]
      exact ⟨h1, h2⟩
  rintro e w ⟨rfl, h1, h2⟩
  rw [pw_sRet, pw_oVal, pw_eUn, pw_eComp, pw_comp]
  refine pw_mono (P := fun xs e w' => xs = (List.range 10).map (fun (j : Nat) => D.int j) ∧ e = [.val (.scr ns), .own (.lst (refs k)), .no] ∧ w' = w) (by simp) ?_
  rintro xs e w' ⟨rfl, rfl, rfl⟩
  refine ⟨⟨by simp [isOwn], by simp⟩, ?_⟩
  refine pw_compL (fun i ds e w => ds = List.replicate i (.bl true) ∧ (∃ a, e = [.val (.scr ns), .own (.lst (refs k)), a]) ∧ WOk (i * 110) w ∧ w.length = k) ⟨rfl, ⟨_, rfl⟩, by simpa using h1, h2⟩ ?_ ?_
  · rintro i x ds e w hx ⟨rfl, ⟨a, rfl⟩, h3, h4⟩
    have hi := (List.getElem?_eq_some_iff.mp hx).1
    simp at hi
    rw [List.getElem?_map, List.getElem?_range (by simpa using hi)] at hx
    obtain rfl := Option.some.inj hx
    have hkz : ((k : Int)) ≠ 0 := by omega
    have em : (i : Int).fmod (k : Int) = ((i % k : Nat) : Int) := by rw [Int.fmod_eq_emod_of_nonneg _ (by omega)]; simp
    have hlt : i % k < k := Nat.mod_lt _ (by omega)
    have er : L2.atI (refs k) ((i % k : Nat) : Int) = some (.ref (i % k)) := atI_nat (by simp [refs, hlt])
    have rl : (refs k).length = k := by simp [refs]
    have er' : dIx (.lst (refs k)) (.int ((i % k : Nat) : Int)) = some (.ref (i % k)) := er
    have dm : dMod (.int (i : Int)) (.int (k : Int)) = some (.int ((i % k : Nat) : Int)) := by rw [dMod_ok hkz, em]
    simp only [wipeE, List.set_cons_succ, List.set_cons_zero, pw_gVar, List.length_cons, List.length_nil, pw_tYes, pw_eOf, pw_callV, pw_aCons, pw_aNil]
    refine ⟨by decide, fun _ => ?_, fun h => by cases h⟩
    rw [pw_eIx]
    have er'' : dIx (.lst (refs k)) (.int ((i : Int) % (k : Int))) = some (.ref (i % k)) := by have := er'; rw [Int.natCast_emod] at this; exact this
    simp [rl, dm, er', er'']
    refine pf_mono (s__law_right (l := i % k) h3 (by rw [h4]; exact hlt) (by omega)) ?_
    rintro s w2 ⟨rfl, h5, h6⟩
    simp
    exact ⟨by simp [List.replicate_succ'], by rw [show (i + 1) * 110 = i * 110 + 110 by omega]; exact h5, by omega⟩
  · rintro ds e w ⟨rfl, ⟨a, rfl⟩, h3, h4⟩
    simp [all_true]
theorem law_true (ns : List Int) (hl : ns.length ≤ 63) (hb : ∀ z ∈ ns, Builtin.Int.intBits z ≤ 1048576) : ∃ w', f_law [.val (.scr ns)] [] = .ok (.val (.bl true)) w' := by
  have h := s_law ns
  unfold pf at h
  cases q : f_law [.val (.scr ns)] [] with
  | ok s w' => rw [q] at h; exact ⟨w', by rw [h]⟩
  | ex x w' => rw [q] at h; exact h.elim
  | bad => rw [q] at h; exact h.elim
end K60
end Mnd
namespace Mnd
namespace K60
open PySem PySem.Spec PyProof.Rows L2
def d__law_well : He.DefD := ⟨("_law_well", none), "_law_well", "_law_well", defArgs (top 41), defBody (top 41), defScope (top 41), [], []⟩
theorem sc__law_well : FnScope ["script", "lap", "stirred", "cell", "own"] ["script", "lap"] (defScope (top 41)) := ⟨by kernel_rfl, by kernel_rfl, by kernel_rfl, by decide +kernel, rfl, by decide +kernel, by decide +kernel⟩
def d__law_draw : He.DefD := ⟨("_law_draw", none), "_law_draw", "_law_draw", defArgs (top 42), defBody (top 42), defScope (top 42), [], []⟩
theorem sc__law_draw : FnScope ["well", "limit", "mixed", "figure"] ["well", "limit"] (defScope (top 42)) := ⟨by kernel_rfl, by kernel_rfl, by kernel_rfl, by decide +kernel, rfl, by decide +kernel, by decide +kernel⟩
def d__law_of : He.DefD := ⟨("_law_of", none), "_law_of", "_law_of", defArgs (top 43), defBody (top 43), defScope (top 43), [], []⟩
theorem sc__law_of : FnScope ["well", "some"] ["well", "some"] (defScope (top 43)) := ⟨by kernel_rfl, by kernel_rfl, by kernel_rfl, by decide +kernel, rfl, by decide +kernel, by decide +kernel⟩
def d__law_web : He.DefD := ⟨("_law_web", none), "_law_web", "_law_web", defArgs (top 51), defBody (top 51), defScope (top 51), [], []⟩
theorem sc__law_web : FnScope ["well", "many", "k", "often", "found", "j"] ["well", "many"] (defScope (top 51)) := ⟨by kernel_rfl, by kernel_rfl, by kernel_rfl, by decide +kernel, rfl, by decide +kernel, by decide +kernel⟩
def d__law_upto : He.DefD := ⟨("_law_upto", none), "_law_upto", "_law_upto", defArgs (top 49), defBody (top 49), defScope (top 49), [], []⟩
theorem sc__law_upto : FnScope ["a", "b"] ["a", "b"] (defScope (top 49)) := ⟨by kernel_rfl, by kernel_rfl, by kernel_rfl, by decide +kernel, rfl, by decide +kernel, by decide +kernel⟩
def d__law_ascending : He.DefD := ⟨("_law_ascending", none), "_law_ascending", "_law_ascending", defArgs (top 52), defBody (top 52), defScope (top 52), [], []⟩
theorem sc__law_ascending : FnScope ["values", "found", "value", "at", "each"] ["values"] (defScope (top 52)) := ⟨by kernel_rfl, by kernel_rfl, by kernel_rfl, by decide +kernel, rfl, by decide +kernel, by decide +kernel⟩
def d__law_divisor : He.DefD := ⟨("_law_divisor", none), "_law_divisor", "_law_divisor", defArgs (top 45), defBody (top 45), defScope (top 45), [], []⟩
theorem sc__law_divisor : FnScope ["one", "two"] ["one", "two"] (defScope (top 45)) := ⟨by kernel_rfl, by kernel_rfl, by kernel_rfl, by decide +kernel, rfl, by decide +kernel, by decide +kernel⟩
def d__law_frac : He.DefD := ⟨("_law_frac", none), "_law_frac", "_law_frac", defArgs (top 46), defBody (top 46), defScope (top 46), [], []⟩
theorem sc__law_frac : FnScope ["n", "m", "by"] ["n", "m"] (defScope (top 46)) := ⟨by kernel_rfl, by kernel_rfl, by kernel_rfl, by decide +kernel, rfl, by decide +kernel, by decide +kernel⟩
def d__law_add : He.DefD := ⟨("_law_add", none), "_law_add", "_law_add", defArgs (top 47), defBody (top 47), defScope (top 47), [], []⟩
theorem sc__law_add : FnScope ["a", "b"] ["a", "b"] (defScope (top 47)) := ⟨by kernel_rfl, by kernel_rfl, by kernel_rfl, by decide +kernel, rfl, by decide +kernel, by decide +kernel⟩
def d__law_less : He.DefD := ⟨("_law_less", none), "_law_less", "_law_less", defArgs (top 48), defBody (top 48), defScope (top 48), [], []⟩
theorem sc__law_less : FnScope ["a"] ["a"] (defScope (top 48)) := ⟨by kernel_rfl, by kernel_rfl, by kernel_rfl, by decide +kernel, rfl, by decide +kernel, by decide +kernel⟩
def d__law_far : He.DefD := ⟨("_law_far", none), "_law_far", "_law_far", defArgs (top 53), defBody (top 53), defScope (top 53), [], []⟩
theorem sc__law_far : FnScope ["one", "two", "gap"] ["one", "two"] (defScope (top 53)) := ⟨by kernel_rfl, by kernel_rfl, by kernel_rfl, by decide +kernel, rfl, by decide +kernel, by decide +kernel⟩
def d__law_middles : He.DefD := ⟨("_law_middles", none), "_law_middles", "_law_middles", defArgs (top 54), defBody (top 54), defScope (top 54), [], []⟩
theorem sc__law_middles : FnScope ["minds", "web", "found", "k", "seen", "order", "low", "high", "j"] ["minds", "web"] (defScope (top 54)) := ⟨by kernel_rfl, by kernel_rfl, by kernel_rfl, by decide +kernel, rfl, by decide +kernel, by decide +kernel⟩
def d__law_again : He.DefD := ⟨("_law_again", none), "_law_again", "_law_again", defArgs (top 55), defBody (top 55), defScope (top 55), [], []⟩
theorem sc__law_again : FnScope ["minds", "web", "rows", "lap", "then"] ["minds", "web"] (defScope (top 55)) := ⟨by kernel_rfl, by kernel_rfl, by kernel_rfl, by decide +kernel, rfl, by decide +kernel, by decide +kernel⟩
def d__law_same : He.DefD := ⟨("_law_same", none), "_law_same", "_law_same", defArgs (top 44), defBody (top 44), defScope (top 44), [], []⟩
theorem sc__law_same : FnScope ["one", "two", "alike", "k"] ["one", "two"] (defScope (top 44)) := ⟨by kernel_rfl, by kernel_rfl, by kernel_rfl, by decide +kernel, rfl, by decide +kernel, by decide +kernel⟩
def d__law_mind : He.DefD := ⟨("_law_mind", none), "_law_mind", "_law_mind", defArgs (top 50), defBody (top 50), defScope (top 50), [], []⟩
theorem sc__law_mind : FnScope ["well", "m"] ["well"] (defScope (top 50)) := ⟨by kernel_rfl, by kernel_rfl, by kernel_rfl, by decide +kernel, rfl, by decide +kernel, by decide +kernel⟩
def d_is_tuple_of : He.DefD := ⟨("is_tuple_of", none), "is_tuple_of", "is_tuple_of", defArgs (top 4), defBody (top 4), defScope (top 4), [], []⟩
theorem sc_is_tuple_of : FnScope ["value", "many"] ["value", "many"] (defScope (top 4)) := ⟨by kernel_rfl, by kernel_rfl, by kernel_rfl, by decide +kernel, rfl, by decide +kernel, by decide +kernel⟩
def d_wrong_in : He.DefD := ⟨("wrong_in", none), "wrong_in", "wrong_in", defArgs (top 6), defBody (top 6), defScope (top 6), [], []⟩
theorem sc_wrong_in : FnScope ["value", "least", "most", "is_right", "index", "each"] ["value", "least", "most", "is_right"] (defScope (top 6)) := ⟨by kernel_rfl, by kernel_rfl, by kernel_rfl, by decide +kernel, rfl, by decide +kernel, by decide +kernel⟩
def d_wrong_in_all : He.DefD := ⟨("wrong_in_all", none), "wrong_in_all", "wrong_in_all", defArgs (top 7), defBody (top 7), defScope (top 7), [], []⟩
theorem sc_wrong_in_all : FnScope ["value", "many", "is_right"] ["value", "many", "is_right"] (defScope (top 7)) := ⟨by kernel_rfl, by kernel_rfl, by kernel_rfl, by decide +kernel, rfl, by decide +kernel, by decide +kernel⟩
def d_is_pair : He.DefD := ⟨("is_pair", none), "is_pair", "is_pair", defArgs (top 5), defBody (top 5), defScope (top 5), [], []⟩
theorem sc_is_pair : FnScope ["value"] ["value"] (defScope (top 5)) := ⟨by kernel_rfl, by kernel_rfl, by kernel_rfl, by decide +kernel, rfl, by decide +kernel, by decide +kernel⟩
def d_is_whole : He.DefD := ⟨("is_whole", none), "is_whole", "is_whole", defArgs (top 2), defBody (top 2), defScope (top 2), [], []⟩
theorem sc_is_whole : FnScope ["value"] ["value"] (defScope (top 2)) := ⟨by kernel_rfl, by kernel_rfl, by kernel_rfl, by decide +kernel, rfl, by decide +kernel, by decide +kernel⟩
def d_is_fraction : He.DefD := ⟨("is_fraction", none), "is_fraction", "is_fraction", defArgs (top 11), defBody (top 11), defScope (top 11), [], []⟩
theorem sc_is_fraction : FnScope ["value", "each"] ["value"] (defScope (top 11)) := ⟨by kernel_rfl, by kernel_rfl, by kernel_rfl, by decide +kernel, rfl, by decide +kernel, by decide +kernel⟩
def d_wrong_in_minds : He.DefD := ⟨("wrong_in_minds", none), "wrong_in_minds", "wrong_in_minds", defArgs (top 17), defBody (top 17), defScope (top 17), [], []⟩
theorem sc_wrong_in_minds : FnScope ["value", "many"] ["value", "many"] (defScope (top 17)) := ⟨by kernel_rfl, by kernel_rfl, by kernel_rfl, by decide +kernel, rfl, by decide +kernel, by decide +kernel⟩
def d_check_lone_minds : He.DefD := ⟨("check_lone_minds", none), "check_lone_minds", "check_lone_minds", defArgs (top 24), defBody (top 24), defScope (top 24), [], []⟩
theorem sc_check_lone_minds : FnScope ["minds", "index"] ["minds"] (defScope (top 24)) := ⟨by kernel_rfl, by kernel_rfl, by kernel_rfl, by decide +kernel, rfl, by decide +kernel, by decide +kernel⟩
def d_is_between : He.DefD := ⟨("is_between", none), "is_between", "is_between", defArgs (top 3), defBody (top 3), defScope (top 3), [], []⟩
theorem sc_is_between : FnScope ["value", "least", "most"] ["value", "least", "most"] (defScope (top 3)) := ⟨by kernel_rfl, by kernel_rfl, by kernel_rfl, by decide +kernel, rfl, by decide +kernel, by decide +kernel⟩
def d_is_tie : He.DefD := ⟨("is_tie", none), "is_tie", "is_tie", defArgs (top 28), defBody (top 28), defScope (top 28), [], []⟩
theorem sc_is_tie : FnScope ["many", "value"] ["many", "value"] (defScope (top 28)) := ⟨by kernel_rfl, by kernel_rfl, by kernel_rfl, by decide +kernel, rfl, by decide +kernel, by decide +kernel⟩
def d_are_below : He.DefD := ⟨("are_below", none), "are_below", "are_below", defArgs (top 8), defBody (top 8), defScope (top 8), [], []⟩
theorem sc_are_below : FnScope ["ahead", "value"] ["ahead", "value"] (defScope (top 8)) := ⟨by kernel_rfl, by kernel_rfl, by kernel_rfl, by decide +kernel, rfl, by decide +kernel, by decide +kernel⟩
def d_wrong_in_web : He.DefD := ⟨("wrong_in_web", none), "wrong_in_web", "wrong_in_web", defArgs (top 29), defBody (top 29), defScope (top 29), [], []⟩
theorem sc_wrong_in_web : FnScope ["many", "value"] ["many", "value"] (defScope (top 29)) := ⟨by kernel_rfl, by kernel_rfl, by kernel_rfl, by decide +kernel, rfl, by decide +kernel, by decide +kernel⟩
def d_check_web : He.DefD := ⟨("check_web", none), "check_web", "check_web", defArgs (top 37), defBody (top 37), defScope (top 37), [], []⟩
theorem sc_check_web : FnScope ["minds", "web", "index"] ["minds", "web"] (defScope (top 37)) := ⟨by kernel_rfl, by kernel_rfl, by kernel_rfl, by decide +kernel, rfl, by decide +kernel, by decide +kernel⟩
def d_middle_for : He.DefD := ⟨("middle_for", none), "middle_for", "middle_for", defArgs (top 30), defBody (top 30), defScope (top 30), [], []⟩
theorem sc_middle_for : FnScope ["own", "others", "told", "low", "high"] ["own", "others"] (defScope (top 30)) := ⟨by kernel_rfl, by kernel_rfl, by kernel_rfl, by decide +kernel, rfl, by decide +kernel, by decide +kernel⟩
def d_beside : He.DefD := ⟨("beside", none), "beside", "beside", defArgs (top 31), defBody (top 31), defScope (top 31), [], []⟩
theorem sc_beside : FnScope ["web", "at", "one", "two"] ["web", "at"] (defScope (top 31)) := ⟨by kernel_rfl, by kernel_rfl, by kernel_rfl, by decide +kernel, rfl, by decide +kernel, by decide +kernel⟩
def d_next_minds : He.DefD := ⟨("next_minds", none), "next_minds", "next_minds", defArgs (top 32), defBody (top 32), defScope (top 32), [], []⟩
theorem sc_next_minds : FnScope ["web", "minds", "at", "own", "other"] ["web", "minds"] (defScope (top 32)) := ⟨by kernel_rfl, by kernel_rfl, by kernel_rfl, by decide +kernel, rfl, by decide +kernel, by decide +kernel⟩
def d_common_below : He.DefD := ⟨("common_below", none), "common_below", "common_below", defArgs (top 12), defBody (top 12), defScope (top 12), [], []⟩
theorem sc_common_below : FnScope ["some", "found", "each"] ["some"] (defScope (top 12)) := ⟨by kernel_rfl, by kernel_rfl, by kernel_rfl, by decide +kernel, rfl, by decide +kernel, by decide +kernel⟩
def d_whole_of : He.DefD := ⟨("whole_of", none), "whole_of", "whole_of", defArgs (top 13), defBody (top 13), defScope (top 13), [], []⟩
theorem sc_whole_of : FnScope ["value", "below"] ["value", "below"] (defScope (top 13)) := ⟨by kernel_rfl, by kernel_rfl, by kernel_rfl, by decide +kernel, rfl, by decide +kernel, by decide +kernel⟩
def d_whole_minds : He.DefD := ⟨("whole_minds", none), "whole_minds", "whole_minds", defArgs (top 33), defBody (top 33), defScope (top 33), [], []⟩
theorem sc_whole_minds : FnScope ["minds", "below", "mind"] ["minds"] (defScope (top 33)) := ⟨by kernel_rfl, by kernel_rfl, by kernel_rfl, by decide +kernel, rfl, by decide +kernel, by decide +kernel⟩
def d_again_by : He.DefD := ⟨("again_by", none), "again_by", "again_by", defArgs (top 35), defBody (top 35), defScope (top 35), [], []⟩
theorem sc_again_by : FnScope ["minds", "web", "now", "seen"] ["minds", "web"] (defScope (top 35)) := ⟨by kernel_rfl, by kernel_rfl, by kernel_rfl, by decide +kernel, rfl, by decide +kernel, by decide +kernel⟩
def d_again : He.DefD := ⟨("again", none), "again", "again", defArgs (top 39), defBody (top 39), defScope (top 39), [], []⟩
theorem sc_again : FnScope ["minds", "web"] ["minds", "web"] (defScope (top 39)) := ⟨by kernel_rfl, by kernel_rfl, by kernel_rfl, by decide +kernel, rfl, by decide +kernel, by decide +kernel⟩
def d_check_number : He.DefD := ⟨("check_number", none), "check_number", "check_number", defArgs (top 25), defBody (top 25), defScope (top 25), [], []⟩
theorem sc_check_number : FnScope ["number", "least", "most"] ["number", "least", "most"] (defScope (top 25)) := ⟨by kernel_rfl, by kernel_rfl, by kernel_rfl, by decide +kernel, rfl, by decide +kernel, by decide +kernel⟩
def d_check_many : He.DefD := ⟨("check_many", none), "check_many", "check_many", defArgs (top 26), defBody (top 26), defScope (top 26), [], []⟩
theorem sc_check_many : FnScope ["many"] ["many"] (defScope (top 26)) := ⟨by kernel_rfl, by kernel_rfl, by kernel_rfl, by decide +kernel, rfl, by decide +kernel, by decide +kernel⟩
def d_lowest : He.DefD := ⟨("lowest", none), "lowest", "lowest", defArgs (top 10), defBody (top 10), defScope (top 10), [], []⟩
theorem sc_lowest : FnScope ["one", "two", "common"] ["one", "two"] (defScope (top 10)) := ⟨by kernel_rfl, by kernel_rfl, by kernel_rfl, by decide +kernel, rfl, by decide +kernel, by decide +kernel⟩
def d_middles_by : He.DefD := ⟨("middles_by", none), "middles_by", "middles_by", defArgs (top 34), defBody (top 34), defScope (top 34), [], []⟩
theorem sc_middles_by : FnScope ["minds", "web", "many", "_", "now", "below", "mind"] ["minds", "web", "many"] (defScope (top 34)) := ⟨by kernel_rfl, by kernel_rfl, by kernel_rfl, by decide +kernel, rfl, by decide +kernel, by decide +kernel⟩
def d_middles_after : He.DefD := ⟨("middles_after", none), "middles_after", "middles_after", defArgs (top 38), defBody (top 38), defScope (top 38), [], []⟩
theorem sc_middles_after : FnScope ["minds", "web", "many"] ["minds", "web", "many"] (defScope (top 38)) := ⟨by kernel_rfl, by kernel_rfl, by kernel_rfl, by decide +kernel, rfl, by decide +kernel, by decide +kernel⟩
def d__law_right : He.DefD := ⟨("_law_right", none), "_law_right", "_law_right", defArgs (top 56), defBody (top 56), defScope (top 56), [], []⟩
theorem sc__law_right : FnScope ["well", "many", "every", "k", "ring", "web", "minds", "due", "odd", "j", "person", "pair"] ["well"] (defScope (top 56)) := ⟨by kernel_rfl, by kernel_rfl, by kernel_rfl, by decide +kernel, rfl, by decide +kernel, by decide +kernel⟩
def d_law : He.DefD := ⟨("law", none), "law", "law", defArgs (top 57), defBody (top 57), defScope (top 57), [], []⟩
theorem sc_law : FnScope ["script", "wells", "lap"] ["script"] (defScope (top 57)) := ⟨by kernel_rfl, by kernel_rfl, by kernel_rfl, by decide +kernel, rfl, by decide +kernel, by decide +kernel⟩
def fnL : List He.DefD := [d__law_well, d__law_draw, d__law_of, d__law_web, d__law_upto, d__law_ascending, d__law_divisor, d__law_frac, d__law_add, d__law_less, d__law_far, d__law_middles, d__law_again, d__law_same, d__law_mind, d_is_tuple_of, d_wrong_in, d_wrong_in_all, d_is_pair, d_is_whole, d_is_fraction, d_wrong_in_minds, d_check_lone_minds, d_is_between, d_is_tie, d_are_below, d_wrong_in_web, d_check_web, d_middle_for, d_beside, d_next_minds, d_common_below, d_whole_of, d_whole_minds, d_again_by, d_again, d_check_number, d_check_many, d_lowest, d_middles_by, d_middles_after, d__law_right, d_law]
def frL : List Str := [("abs" : Str), ("all" : Str), ("bool" : Str), ("dict" : Str), ("divmod" : Str), ("enumerate" : Str), ("int" : Str), ("isinstance" : Str), ("len" : Str), ("list" : Str), ("max" : Str), ("min" : Str), ("range" : Str), ("sorted" : Str), ("str" : Str), ("sum" : Str), ("tuple" : Str)]
def glL : List Str := [("_law_well" : Str), ("_law_draw" : Str), ("_law_of" : Str), ("_law_web" : Str), ("_law_upto" : Str), ("_law_ascending" : Str), ("_law_divisor" : Str), ("_law_frac" : Str), ("_law_add" : Str), ("_law_less" : Str), ("_law_far" : Str), ("_law_middles" : Str), ("_law_again" : Str), ("_law_same" : Str), ("_law_mind" : Str), ("is_tuple_of" : Str), ("wrong_in" : Str), ("wrong_in_all" : Str), ("is_pair" : Str), ("is_whole" : Str), ("is_fraction" : Str), ("wrong_in_minds" : Str), ("check_lone_minds" : Str), ("is_between" : Str), ("is_tie" : Str), ("are_below" : Str), ("wrong_in_web" : Str), ("check_web" : Str), ("middle_for" : Str), ("beside" : Str), ("next_minds" : Str), ("common_below" : Str), ("whole_of" : Str), ("whole_minds" : Str), ("again_by" : Str), ("again" : Str), ("check_number" : Str), ("check_many" : Str), ("lowest" : Str), ("middles_by" : Str), ("middles_after" : Str), ("_law_right" : Str), ("law" : Str)]
def inL : List He.Fa := [.int "MOST_BEATS" 40, .int "MOST_PEOPLE" 5]
def faL : List He.Fa := glL.map .glo ++ (frL.map .free ++ inL)
def tfL : List He.Defn := [("wrong_in_all", none), ("wrong_in_web", none)]
def exB (K : PySem.W.Frag) : Bool := He.eqO (PySem.W.nsIn K mainGlobals "gcd") (some (some (.builtin "math.gcd"))) && (He.eqO (PySem.W.nsIn K mainGlobals "lcm") (some (some (.builtin "math.lcm"))) && (decide (tfL.map fun p => (He.cT K p).2).Nodup))
abbrev lw : PySem.W.OpenLaw := PySem.Challenge.rw_mindmeans_k60_whole_minds_that_come_agai
abbrev R : PySem.W.OpenRow := PySem.W.OpenLaw.row lw
abbrev hk : PySem.W.Hook := He.hookX 5 faL fnL [] tfL exB
def ob (s : PySem.W.SharedT) : He.AlX := He.obsX 5 faL fnL [] tfL exB (HandSHeadRun.getT s)
theorem ob_eq (s : PySem.W.SharedT) : ob s = hk.obs s.abs := He.obsX_eq (HandSHeadRun.getT_eq s)
def nmz0 : List Str := [("is_whole" : Str), ("is_between" : Str), ("is_tuple_of" : Str), ("is_pair" : Str), ("wrong_in" : Str), ("wrong_in_all" : Str), ("are_below" : Str), ("lowest" : Str), ("is_fraction" : Str), ("common_below" : Str), ("whole_of" : Str), ("MOST_PEOPLE" : Str), ("MOST_BEATS" : Str), ("wrong_in_minds" : Str), ("MindError" : Str), ("InvalidNumber" : Str), ("InvalidMinds" : Str), ("InvalidWeb" : Str), ("check_lone_minds" : Str), ("check_number" : Str), ("check_many" : Str), ("is_tie" : Str), ("wrong_in_web" : Str), ("middle_for" : Str), ("beside" : Str), ("next_minds" : Str), ("whole_minds" : Str), ("middles_by" : Str), ("again_by" : Str), ("check_web" : Str), ("middles_after" : Str), ("again" : Str), ("_law_well" : Str), ("_law_draw" : Str), ("_law_of" : Str)]
def nmz1 : List Str := [("_law_same" : Str), ("_law_divisor" : Str), ("_law_frac" : Str), ("_law_add" : Str), ("_law_less" : Str), ("_law_upto" : Str), ("_law_mind" : Str), ("_law_web" : Str), ("_law_ascending" : Str), ("_law_far" : Str), ("_law_middles" : Str), ("_law_again" : Str), ("_law_right" : Str)]
def names : List Str := nmz0 ++ nmz1
abbrev qv : Program := PySem.W.view R.prog [0, 57]
theorem run (w : World) : HandSHeadRun.RunEqI R qv hk ob 6000 names w := by
  unfold HandSHeadRun.RunEqI
  kernel_rfl
theorem chain {Γ : Cg} {w : World} {h : Heap} (X : Γ.K.In h) (Gm : h.Ns mainGlobals Γ.mg) (c : He.SaysX faL fnL [] tfL exB w h Γ.K) (hT : Γ.T = tabT Γ.K tfL) (hkc : Γ.kc = false) (tb : ∀ p ∈ tfL, LamX.TabB Γ.base Γ.mg (He.cT Γ.K p).1 (He.cT Γ.K p).2) : DefOk Γ "law" f_law ["script"] 32 := by
  have cd := c.t.d
  have glo : ∀ x ∈ glL, Γ.mg x = some (.ref (He.ga Γ.K x)) := fun x hx => He.glo_ok X Gm (cd.facts (List.mem_append_left _ (List.mem_map.mpr ⟨x, hx, rfl⟩)))
  have ex0 : exB Γ.K = true := c.more
  unfold exB at ex0
  obtain ⟨e_gcd, ex0⟩ := He.ba ex0
  obtain ⟨e_lcm, ex0⟩ := He.ba ex0
  have e_nd : (tfL.map fun p => (He.cT Γ.K p).2).Nodup := of_decide_eq_true ex0
  have C : Kn Γ := {
    free := fun x hx => He.free_ok X Gm (cd.facts (List.mem_append_right _ (List.mem_append_left _ (List.mem_map.mpr ⟨x, hx, rfl⟩)))),
    kc := hkc,
    g_MOST_BEATS := globD_int (He.int_ok X Gm (cd.facts (List.mem_append_right _ (List.mem_append_right _ (List.mem_of_getElem? (i := 0) rfl))))),
    g_MOST_PEOPLE := globD_int (He.int_ok X Gm (cd.facts (List.mem_append_right _ (List.mem_append_right _ (List.mem_of_getElem? (i := 1) rfl))))),
    g_gcd := PySem.W.mg_of X Gm (He.eqO_ok e_gcd),
    g_lcm := PySem.W.mg_of X Gm (He.eqO_ok e_lcm) }
  obtain ⟨z__law_well, F__law_well⟩ := cd.def_ 0 (d := d__law_well) rfl
  have m__law_well : Γ.mg "_law_well" = some (.ref (He.fAd Γ.K d__law_well.at_)) := glo "_law_well" (List.mem_of_getElem? (i := 0) rfl)
  have D__law_well : DefOk Γ "_law_well" f__law_well ["script", "lap"] 1 := defOk_of (N := ["script", "lap", "stirred", "cell", "own"]) F__law_well m__law_well sc__law_well (fun h0 H0 => sb__law_well C h0 H0) (by intro _ _ _ _ _ _ us hl; match us, hl with | [_, _], _ => rfl)
  obtain ⟨z__law_draw, F__law_draw⟩ := cd.def_ 1 (d := d__law_draw) rfl
  have m__law_draw : Γ.mg "_law_draw" = some (.ref (He.fAd Γ.K d__law_draw.at_)) := glo "_law_draw" (List.mem_of_getElem? (i := 1) rfl)
  have D__law_draw : DefOk Γ "_law_draw" f__law_draw ["well", "limit"] 1 := defOk_of (N := ["well", "limit", "mixed", "figure"]) F__law_draw m__law_draw sc__law_draw (fun h0 H0 => sb__law_draw C h0 H0) (by intro _ _ _ _ _ _ us hl; match us, hl with | [_, _], _ => rfl)
  obtain ⟨z__law_of, F__law_of⟩ := cd.def_ 2 (d := d__law_of) rfl
  have m__law_of : Γ.mg "_law_of" = some (.ref (He.fAd Γ.K d__law_of.at_)) := glo "_law_of" (List.mem_of_getElem? (i := 2) rfl)
  have D__law_of : DefOk Γ "_law_of" f__law_of ["well", "some"] 2 := defOk_of (N := ["well", "some"]) F__law_of m__law_of sc__law_of (fun h0 H0 => sb__law_of C D__law_draw h0 H0) (by intro _ _ _ _ _ _ us hl; match us, hl with | [_, _], _ => rfl)
  obtain ⟨z__law_web, F__law_web⟩ := cd.def_ 3 (d := d__law_web) rfl
  have m__law_web : Γ.mg "_law_web" = some (.ref (He.fAd Γ.K d__law_web.at_)) := glo "_law_web" (List.mem_of_getElem? (i := 3) rfl)
  have D__law_web : DefOk Γ "_law_web" f__law_web ["well", "many"] 3 := defOk_of (N := ["well", "many", "k", "often", "found", "j"]) F__law_web m__law_web sc__law_web (fun h0 H0 => sb__law_web C D__law_of D__law_draw h0 H0) (by intro _ _ _ _ _ _ us hl; match us, hl with | [_, _], _ => rfl)
  obtain ⟨z__law_upto, F__law_upto⟩ := cd.def_ 4 (d := d__law_upto) rfl
  have m__law_upto : Γ.mg "_law_upto" = some (.ref (He.fAd Γ.K d__law_upto.at_)) := glo "_law_upto" (List.mem_of_getElem? (i := 4) rfl)
  have D__law_upto : DefOk Γ "_law_upto" f__law_upto ["a", "b"] 1 := defOk_of (N := ["a", "b"]) F__law_upto m__law_upto sc__law_upto (fun h0 H0 => sb__law_upto C h0 H0) (by intro _ _ _ _ _ _ us hl; match us, hl with | [_, _], _ => rfl)
  obtain ⟨z__law_ascending, F__law_ascending⟩ := cd.def_ 5 (d := d__law_ascending) rfl
  have m__law_ascending : Γ.mg "_law_ascending" = some (.ref (He.fAd Γ.K d__law_ascending.at_)) := glo "_law_ascending" (List.mem_of_getElem? (i := 5) rfl)
  have D__law_ascending : DefOk Γ "_law_ascending" f__law_ascending ["values"] 2 := defOk_of (N := ["values", "found", "value", "at", "each"]) F__law_ascending m__law_ascending sc__law_ascending (fun h0 H0 => sb__law_ascending C D__law_upto h0 H0) (by intro _ _ _ _ _ _ us hl; match us, hl with | [_], _ => rfl)
  obtain ⟨z__law_divisor, F__law_divisor⟩ := cd.def_ 6 (d := d__law_divisor) rfl
  have m__law_divisor : Γ.mg "_law_divisor" = some (.ref (He.fAd Γ.K d__law_divisor.at_)) := glo "_law_divisor" (List.mem_of_getElem? (i := 6) rfl)
  have D__law_divisor : DefOk Γ "_law_divisor" f__law_divisor ["one", "two"] 1 := defOk_of (N := ["one", "two"]) F__law_divisor m__law_divisor sc__law_divisor (fun h0 H0 => sb__law_divisor C h0 H0) (by intro _ _ _ _ _ _ us hl; match us, hl with | [_, _], _ => rfl)
  obtain ⟨z__law_frac, F__law_frac⟩ := cd.def_ 7 (d := d__law_frac) rfl
  have m__law_frac : Γ.mg "_law_frac" = some (.ref (He.fAd Γ.K d__law_frac.at_)) := glo "_law_frac" (List.mem_of_getElem? (i := 7) rfl)
  have D__law_frac : DefOk Γ "_law_frac" f__law_frac ["n", "m"] 2 := defOk_of (N := ["n", "m", "by"]) F__law_frac m__law_frac sc__law_frac (fun h0 H0 => sb__law_frac C D__law_divisor h0 H0) (by intro _ _ _ _ _ _ us hl; match us, hl with | [_, _], _ => rfl)
  obtain ⟨z__law_add, F__law_add⟩ := cd.def_ 8 (d := d__law_add) rfl
  have m__law_add : Γ.mg "_law_add" = some (.ref (He.fAd Γ.K d__law_add.at_)) := glo "_law_add" (List.mem_of_getElem? (i := 8) rfl)
  have D__law_add : DefOk Γ "_law_add" f__law_add ["a", "b"] 3 := defOk_of (N := ["a", "b"]) F__law_add m__law_add sc__law_add (fun h0 H0 => sb__law_add C D__law_frac h0 H0) (by intro _ _ _ _ _ _ us hl; match us, hl with | [_, _], _ => rfl)
  obtain ⟨z__law_less, F__law_less⟩ := cd.def_ 9 (d := d__law_less) rfl
  have m__law_less : Γ.mg "_law_less" = some (.ref (He.fAd Γ.K d__law_less.at_)) := glo "_law_less" (List.mem_of_getElem? (i := 9) rfl)
  have D__law_less : DefOk Γ "_law_less" f__law_less ["a"] 1 := defOk_of (N := ["a"]) F__law_less m__law_less sc__law_less (fun h0 H0 => sb__law_less C h0 H0) (by intro _ _ _ _ _ _ us hl; match us, hl with | [_], _ => rfl)
  obtain ⟨z__law_far, F__law_far⟩ := cd.def_ 10 (d := d__law_far) rfl
  have m__law_far : Γ.mg "_law_far" = some (.ref (He.fAd Γ.K d__law_far.at_)) := glo "_law_far" (List.mem_of_getElem? (i := 10) rfl)
  have D__law_far : DefOk Γ "_law_far" f__law_far ["one", "two"] 4 := defOk_of (N := ["one", "two", "gap"]) F__law_far m__law_far sc__law_far (fun h0 H0 => sb__law_far C D__law_add D__law_less h0 H0) (by intro _ _ _ _ _ _ us hl; match us, hl with | [_, _], _ => rfl)
  obtain ⟨z__law_middles, F__law_middles⟩ := cd.def_ 11 (d := d__law_middles) rfl
  have m__law_middles : Γ.mg "_law_middles" = some (.ref (He.fAd Γ.K d__law_middles.at_)) := glo "_law_middles" (List.mem_of_getElem? (i := 11) rfl)
  have D__law_middles : DefOk Γ "_law_middles" f__law_middles ["minds", "web"] 5 := defOk_of (N := ["minds", "web", "found", "k", "seen", "order", "low", "high", "j"]) F__law_middles m__law_middles sc__law_middles (fun h0 H0 => sb__law_middles C D__law_ascending D__law_upto D__law_far h0 H0) (by intro _ _ _ _ _ _ us hl; match us, hl with | [_, _], _ => rfl)
  obtain ⟨z__law_again, F__law_again⟩ := cd.def_ 12 (d := d__law_again) rfl
  have m__law_again : Γ.mg "_law_again" = some (.ref (He.fAd Γ.K d__law_again.at_)) := glo "_law_again" (List.mem_of_getElem? (i := 12) rfl)
  have D__law_again : DefOk Γ "_law_again" f__law_again ["minds", "web"] 6 := defOk_of (N := ["minds", "web", "rows", "lap", "then"]) F__law_again m__law_again sc__law_again (fun h0 H0 => sb__law_again C D__law_middles h0 H0) (by intro _ _ _ _ _ _ us hl; match us, hl with | [_, _], _ => rfl)
  obtain ⟨z__law_same, F__law_same⟩ := cd.def_ 13 (d := d__law_same) rfl
  have m__law_same : Γ.mg "_law_same" = some (.ref (He.fAd Γ.K d__law_same.at_)) := glo "_law_same" (List.mem_of_getElem? (i := 13) rfl)
  have R__law_same : ∀ j, DefOk Γ "_law_same" (fr__law_same j) ["one", "two"] (0 + j) := fun j => by
    induction j with
    | zero => exact defBad F__law_same m__law_same (by intro _ _ _ _ _ _ us hl; match us, hl with | [_, _], _ => rfl)
    | succ j ih => exact defOk_of (N := ["one", "two", "alike", "k"]) F__law_same m__law_same sc__law_same (fun h0 H0 => sb__law_same C ih (Nat.le_refl _) h0 H0) (by intro _ _ _ _ _ _ us hl; match us, hl with | [_, _], _ => rfl)
  have D__law_same : DefOk Γ "_law_same" f__law_same ["one", "two"] 4 := R__law_same 4
  obtain ⟨z__law_mind, F__law_mind⟩ := cd.def_ 14 (d := d__law_mind) rfl
  have m__law_mind : Γ.mg "_law_mind" = some (.ref (He.fAd Γ.K d__law_mind.at_)) := glo "_law_mind" (List.mem_of_getElem? (i := 14) rfl)
  have D__law_mind : DefOk Γ "_law_mind" f__law_mind ["well"] 3 := defOk_of (N := ["well", "m"]) F__law_mind m__law_mind sc__law_mind (fun h0 H0 => sb__law_mind C D__law_of D__law_frac D__law_draw h0 H0) (by intro _ _ _ _ _ _ us hl; match us, hl with | [_], _ => rfl)
  obtain ⟨z_is_tuple_of, F_is_tuple_of⟩ := cd.def_ 15 (d := d_is_tuple_of) rfl
  have m_is_tuple_of : Γ.mg "is_tuple_of" = some (.ref (He.fAd Γ.K d_is_tuple_of.at_)) := glo "is_tuple_of" (List.mem_of_getElem? (i := 15) rfl)
  have D_is_tuple_of : DefOk Γ "is_tuple_of" f_is_tuple_of ["value", "many"] 1 := defOk_of (N := ["value", "many"]) F_is_tuple_of m_is_tuple_of sc_is_tuple_of (fun h0 H0 => sb_is_tuple_of C h0 H0) (by intro _ _ _ _ _ _ us hl; match us, hl with | [_, _], _ => rfl)
  obtain ⟨z_wrong_in, F_wrong_in⟩ := cd.def_ 16 (d := d_wrong_in) rfl
  have m_wrong_in : Γ.mg "wrong_in" = some (.ref (He.fAd Γ.K d_wrong_in.at_)) := glo "wrong_in" (List.mem_of_getElem? (i := 16) rfl)
  have D_wrong_in : DefOk Γ "wrong_in" f_wrong_in ["value", "least", "most", "is_right"] 25 := defOk_of (N := ["value", "least", "most", "is_right", "index", "each"]) F_wrong_in m_wrong_in sc_wrong_in (fun h0 H0 => sb_wrong_in C h0 H0) (by intro _ _ _ _ _ _ us hl; match us, hl with | [_, _, _, _], _ => rfl)
  obtain ⟨z_wrong_in_all, F_wrong_in_all⟩ := cd.def_ 17 (d := d_wrong_in_all) rfl
  have m_wrong_in_all : Γ.mg "wrong_in_all" = some (.ref (He.fAd Γ.K d_wrong_in_all.at_)) := glo "wrong_in_all" (List.mem_of_getElem? (i := 17) rfl)
  have D_wrong_in_all : DefOk Γ "wrong_in_all" f_wrong_in_all ["value", "many", "is_right"] 26 := defOk_of (N := ["value", "many", "is_right"]) F_wrong_in_all m_wrong_in_all sc_wrong_in_all (fun h0 H0 => sb_wrong_in_all C D_is_tuple_of D_wrong_in (fun h0 H0 => lamT_of (tf := tfL) (d := ("wrong_in_all", none)) hT (List.mem_of_getElem? (i := 0) rfl) e_nd rfl (code_of (p := ("wrong_in_all", none)) F_wrong_in_all) (tb _ (List.mem_of_getElem? (i := 0) rfl))) h0 H0) (by intro _ _ _ _ _ _ us hl; match us, hl with | [_, _, _], _ => rfl)
  obtain ⟨z_is_pair, F_is_pair⟩ := cd.def_ 18 (d := d_is_pair) rfl
  have m_is_pair : Γ.mg "is_pair" = some (.ref (He.fAd Γ.K d_is_pair.at_)) := glo "is_pair" (List.mem_of_getElem? (i := 18) rfl)
  have D_is_pair : DefOk Γ "is_pair" f_is_pair ["value"] 2 := defOk_of (N := ["value"]) F_is_pair m_is_pair sc_is_pair (fun h0 H0 => sb_is_pair C D_is_tuple_of h0 H0) (by intro _ _ _ _ _ _ us hl; match us, hl with | [_], _ => rfl)
  obtain ⟨z_is_whole, F_is_whole⟩ := cd.def_ 19 (d := d_is_whole) rfl
  have m_is_whole : Γ.mg "is_whole" = some (.ref (He.fAd Γ.K d_is_whole.at_)) := glo "is_whole" (List.mem_of_getElem? (i := 19) rfl)
  have D_is_whole : DefOk Γ "is_whole" f_is_whole ["value"] 1 := defOk_of (N := ["value"]) F_is_whole m_is_whole sc_is_whole (fun h0 H0 => sb_is_whole C h0 H0) (by intro _ _ _ _ _ _ us hl; match us, hl with | [_], _ => rfl)
  obtain ⟨z_is_fraction, F_is_fraction⟩ := cd.def_ 20 (d := d_is_fraction) rfl
  have m_is_fraction : Γ.mg "is_fraction" = some (.ref (He.fAd Γ.K d_is_fraction.at_)) := glo "is_fraction" (List.mem_of_getElem? (i := 20) rfl)
  have D_is_fraction : DefOk Γ "is_fraction" f_is_fraction ["value"] 3 := defOk_of (N := ["value", "each"]) F_is_fraction m_is_fraction sc_is_fraction (fun h0 H0 => sb_is_fraction C D_is_pair D_is_whole h0 H0) (by intro _ _ _ _ _ _ us hl; match us, hl with | [_], _ => rfl)
  obtain ⟨z_wrong_in_minds, F_wrong_in_minds⟩ := cd.def_ 21 (d := d_wrong_in_minds) rfl
  have m_wrong_in_minds : Γ.mg "wrong_in_minds" = some (.ref (He.fAd Γ.K d_wrong_in_minds.at_)) := glo "wrong_in_minds" (List.mem_of_getElem? (i := 21) rfl)
  have D_wrong_in_minds : DefOk Γ "wrong_in_minds" f_wrong_in_minds ["value", "many"] 27 := defOk_of (N := ["value", "many"]) F_wrong_in_minds m_wrong_in_minds sc_wrong_in_minds (fun h0 H0 => sb_wrong_in_minds C D_wrong_in_all D_is_fraction h0 H0) (by intro _ _ _ _ _ _ us hl; match us, hl with | [_, _], _ => rfl)
  obtain ⟨z_check_lone_minds, F_check_lone_minds⟩ := cd.def_ 22 (d := d_check_lone_minds) rfl
  have m_check_lone_minds : Γ.mg "check_lone_minds" = some (.ref (He.fAd Γ.K d_check_lone_minds.at_)) := glo "check_lone_minds" (List.mem_of_getElem? (i := 22) rfl)
  have D_check_lone_minds : DefOk Γ "check_lone_minds" f_check_lone_minds ["minds"] 28 := defOk_of (N := ["minds", "index"]) F_check_lone_minds m_check_lone_minds sc_check_lone_minds (fun h0 H0 => sb_check_lone_minds C D_wrong_in_minds h0 H0) (by intro _ _ _ _ _ _ us hl; match us, hl with | [_], _ => rfl)
  obtain ⟨z_is_between, F_is_between⟩ := cd.def_ 23 (d := d_is_between) rfl
  have m_is_between : Γ.mg "is_between" = some (.ref (He.fAd Γ.K d_is_between.at_)) := glo "is_between" (List.mem_of_getElem? (i := 23) rfl)
  have D_is_between : DefOk Γ "is_between" f_is_between ["value", "least", "most"] 2 := defOk_of (N := ["value", "least", "most"]) F_is_between m_is_between sc_is_between (fun h0 H0 => sb_is_between C D_is_whole h0 H0) (by intro _ _ _ _ _ _ us hl; match us, hl with | [_, _, _], _ => rfl)
  obtain ⟨z_is_tie, F_is_tie⟩ := cd.def_ 24 (d := d_is_tie) rfl
  have m_is_tie : Γ.mg "is_tie" = some (.ref (He.fAd Γ.K d_is_tie.at_)) := glo "is_tie" (List.mem_of_getElem? (i := 24) rfl)
  have D_is_tie : DefOk Γ "is_tie" f_is_tie ["many", "value"] 3 := defOk_of (N := ["many", "value"]) F_is_tie m_is_tie sc_is_tie (fun h0 H0 => sb_is_tie C D_is_between D_is_pair h0 H0) (by intro _ _ _ _ _ _ us hl; match us, hl with | [_, _], _ => rfl)
  obtain ⟨z_are_below, F_are_below⟩ := cd.def_ 25 (d := d_are_below) rfl
  have m_are_below : Γ.mg "are_below" = some (.ref (He.fAd Γ.K d_are_below.at_)) := glo "are_below" (List.mem_of_getElem? (i := 25) rfl)
  have D_are_below : DefOk Γ "are_below" f_are_below ["ahead", "value"] 1 := defOk_of (N := ["ahead", "value"]) F_are_below m_are_below sc_are_below (fun h0 H0 => sb_are_below C h0 H0) (by intro _ _ _ _ _ _ us hl; match us, hl with | [_, _], _ => rfl)
  obtain ⟨z_wrong_in_web, F_wrong_in_web⟩ := cd.def_ 26 (d := d_wrong_in_web) rfl
  have m_wrong_in_web : Γ.mg "wrong_in_web" = some (.ref (He.fAd Γ.K d_wrong_in_web.at_)) := glo "wrong_in_web" (List.mem_of_getElem? (i := 26) rfl)
  have D_wrong_in_web : DefOk Γ "wrong_in_web" f_wrong_in_web ["many", "value"] 26 := defOk_of (N := ["many", "value"]) F_wrong_in_web m_wrong_in_web sc_wrong_in_web (fun h0 H0 => sb_wrong_in_web C D_wrong_in D_is_tie D_are_below (fun h0 H0 => lamT_of (tf := tfL) (d := ("wrong_in_web", none)) hT (List.mem_of_getElem? (i := 1) rfl) e_nd rfl (code_of (p := ("wrong_in_web", none)) F_wrong_in_web) (tb _ (List.mem_of_getElem? (i := 1) rfl))) h0 H0) (by intro _ _ _ _ _ _ us hl; match us, hl with | [_, _], _ => rfl)
  obtain ⟨z_check_web, F_check_web⟩ := cd.def_ 27 (d := d_check_web) rfl
  have m_check_web : Γ.mg "check_web" = some (.ref (He.fAd Γ.K d_check_web.at_)) := glo "check_web" (List.mem_of_getElem? (i := 27) rfl)
  have D_check_web : DefOk Γ "check_web" f_check_web ["minds", "web"] 29 := defOk_of (N := ["minds", "web", "index"]) F_check_web m_check_web sc_check_web (fun h0 H0 => sb_check_web C D_check_lone_minds D_wrong_in_web h0 H0) (by intro _ _ _ _ _ _ us hl; match us, hl with | [_, _], _ => rfl)
  obtain ⟨z_middle_for, F_middle_for⟩ := cd.def_ 28 (d := d_middle_for) rfl
  have m_middle_for : Γ.mg "middle_for" = some (.ref (He.fAd Γ.K d_middle_for.at_)) := glo "middle_for" (List.mem_of_getElem? (i := 28) rfl)
  have D_middle_for : DefOk Γ "middle_for" f_middle_for ["own", "others"] 1 := defOk_of (N := ["own", "others", "told", "low", "high"]) F_middle_for m_middle_for sc_middle_for (fun h0 H0 => sb_middle_for C h0 H0) (by intro _ _ _ _ _ _ us hl; match us, hl with | [_, _], _ => rfl)
  obtain ⟨z_beside, F_beside⟩ := cd.def_ 29 (d := d_beside) rfl
  have m_beside : Γ.mg "beside" = some (.ref (He.fAd Γ.K d_beside.at_)) := glo "beside" (List.mem_of_getElem? (i := 29) rfl)
  have D_beside : DefOk Γ "beside" f_beside ["web", "at"] 1 := defOk_of (N := ["web", "at", "one", "two"]) F_beside m_beside sc_beside (fun h0 H0 => sb_beside C h0 H0) (by intro _ _ _ _ _ _ us hl; match us, hl with | [_, _], _ => rfl)
  obtain ⟨z_next_minds, F_next_minds⟩ := cd.def_ 30 (d := d_next_minds) rfl
  have m_next_minds : Γ.mg "next_minds" = some (.ref (He.fAd Γ.K d_next_minds.at_)) := glo "next_minds" (List.mem_of_getElem? (i := 30) rfl)
  have D_next_minds : DefOk Γ "next_minds" f_next_minds ["web", "minds"] 2 := defOk_of (N := ["web", "minds", "at", "own", "other"]) F_next_minds m_next_minds sc_next_minds (fun h0 H0 => sb_next_minds C D_middle_for D_beside h0 H0) (by intro _ _ _ _ _ _ us hl; match us, hl with | [_, _], _ => rfl)
  obtain ⟨z_common_below, F_common_below⟩ := cd.def_ 31 (d := d_common_below) rfl
  have m_common_below : Γ.mg "common_below" = some (.ref (He.fAd Γ.K d_common_below.at_)) := glo "common_below" (List.mem_of_getElem? (i := 31) rfl)
  have D_common_below : DefOk Γ "common_below" f_common_below ["some"] 1 := defOk_of (N := ["some", "found", "each"]) F_common_below m_common_below sc_common_below (fun h0 H0 => sb_common_below C h0 H0) (by intro _ _ _ _ _ _ us hl; match us, hl with | [_], _ => rfl)
  obtain ⟨z_whole_of, F_whole_of⟩ := cd.def_ 32 (d := d_whole_of) rfl
  have m_whole_of : Γ.mg "whole_of" = some (.ref (He.fAd Γ.K d_whole_of.at_)) := glo "whole_of" (List.mem_of_getElem? (i := 32) rfl)
  have D_whole_of : DefOk Γ "whole_of" f_whole_of ["value", "below"] 1 := defOk_of (N := ["value", "below"]) F_whole_of m_whole_of sc_whole_of (fun h0 H0 => sb_whole_of C h0 H0) (by intro _ _ _ _ _ _ us hl; match us, hl with | [_, _], _ => rfl)
  obtain ⟨z_whole_minds, F_whole_minds⟩ := cd.def_ 33 (d := d_whole_minds) rfl
  have m_whole_minds : Γ.mg "whole_minds" = some (.ref (He.fAd Γ.K d_whole_minds.at_)) := glo "whole_minds" (List.mem_of_getElem? (i := 33) rfl)
  have D_whole_minds : DefOk Γ "whole_minds" f_whole_minds ["minds"] 2 := defOk_of (N := ["minds", "below", "mind"]) F_whole_minds m_whole_minds sc_whole_minds (fun h0 H0 => sb_whole_minds C D_common_below D_whole_of h0 H0) (by intro _ _ _ _ _ _ us hl; match us, hl with | [_], _ => rfl)
  obtain ⟨z_again_by, F_again_by⟩ := cd.def_ 34 (d := d_again_by) rfl
  have m_again_by : Γ.mg "again_by" = some (.ref (He.fAd Γ.K d_again_by.at_)) := glo "again_by" (List.mem_of_getElem? (i := 34) rfl)
  have D_again_by : DefOk Γ "again_by" f_again_by ["minds", "web"] 3 := defOk_of (N := ["minds", "web", "now", "seen"]) F_again_by m_again_by sc_again_by (fun h0 H0 => sb_again_by C D_next_minds D_whole_minds h0 H0) (by intro _ _ _ _ _ _ us hl; match us, hl with | [_, _], _ => rfl)
  obtain ⟨z_again, F_again⟩ := cd.def_ 35 (d := d_again) rfl
  have m_again : Γ.mg "again" = some (.ref (He.fAd Γ.K d_again.at_)) := glo "again" (List.mem_of_getElem? (i := 35) rfl)
  have D_again : DefOk Γ "again" f_again ["minds", "web"] 30 := defOk_of (N := ["minds", "web"]) F_again m_again sc_again (fun h0 H0 => sb_again C D_check_web D_again_by h0 H0) (by intro _ _ _ _ _ _ us hl; match us, hl with | [_, _], _ => rfl)
  have k_again_web_minds : DefKw Γ "again" f_again ["minds", "web"] ["web", "minds"] [1, 0] 30 := defKw_of F_again m_again D_again (by decide) rfl (by intro _ _ _ _ _ _ ws hl; match ws, hl with | [_, _], _ => rfl)
  obtain ⟨z_check_number, F_check_number⟩ := cd.def_ 36 (d := d_check_number) rfl
  have m_check_number : Γ.mg "check_number" = some (.ref (He.fAd Γ.K d_check_number.at_)) := glo "check_number" (List.mem_of_getElem? (i := 36) rfl)
  have D_check_number : DefOk Γ "check_number" f_check_number ["number", "least", "most"] 3 := defOk_of (N := ["number", "least", "most"]) F_check_number m_check_number sc_check_number (fun h0 H0 => sb_check_number C D_is_between h0 H0) (by intro _ _ _ _ _ _ us hl; match us, hl with | [_, _, _], _ => rfl)
  obtain ⟨z_check_many, F_check_many⟩ := cd.def_ 37 (d := d_check_many) rfl
  have m_check_many : Γ.mg "check_many" = some (.ref (He.fAd Γ.K d_check_many.at_)) := glo "check_many" (List.mem_of_getElem? (i := 37) rfl)
  have D_check_many : DefOk Γ "check_many" f_check_many ["many"] 4 := defOk_of (N := ["many"]) F_check_many m_check_many sc_check_many (fun h0 H0 => sb_check_many C D_check_number h0 H0) (by intro _ _ _ _ _ _ us hl; match us, hl with | [_], _ => rfl)
  obtain ⟨z_lowest, F_lowest⟩ := cd.def_ 38 (d := d_lowest) rfl
  have m_lowest : Γ.mg "lowest" = some (.ref (He.fAd Γ.K d_lowest.at_)) := glo "lowest" (List.mem_of_getElem? (i := 38) rfl)
  have D_lowest : DefOk Γ "lowest" f_lowest ["one", "two"] 1 := defOk_of (N := ["one", "two", "common"]) F_lowest m_lowest sc_lowest (fun h0 H0 => sb_lowest C h0 H0) (by intro _ _ _ _ _ _ us hl; match us, hl with | [_, _], _ => rfl)
  obtain ⟨z_middles_by, F_middles_by⟩ := cd.def_ 39 (d := d_middles_by) rfl
  have m_middles_by : Γ.mg "middles_by" = some (.ref (He.fAd Γ.K d_middles_by.at_)) := glo "middles_by" (List.mem_of_getElem? (i := 39) rfl)
  have D_middles_by : DefOk Γ "middles_by" f_middles_by ["minds", "web", "many"] 3 := defOk_of (N := ["minds", "web", "many", "_", "now", "below", "mind"]) F_middles_by m_middles_by sc_middles_by (fun h0 H0 => sb_middles_by C D_whole_minds D_next_minds D_lowest h0 H0) (by intro _ _ _ _ _ _ us hl; match us, hl with | [_, _, _], _ => rfl)
  obtain ⟨z_middles_after, F_middles_after⟩ := cd.def_ 40 (d := d_middles_after) rfl
  have m_middles_after : Γ.mg "middles_after" = some (.ref (He.fAd Γ.K d_middles_after.at_)) := glo "middles_after" (List.mem_of_getElem? (i := 40) rfl)
  have D_middles_after : DefOk Γ "middles_after" f_middles_after ["minds", "web", "many"] 30 := defOk_of (N := ["minds", "web", "many"]) F_middles_after m_middles_after sc_middles_after (fun h0 H0 => sb_middles_after C D_check_web D_check_many D_middles_by h0 H0) (by intro _ _ _ _ _ _ us hl; match us, hl with | [_, _, _], _ => rfl)
  obtain ⟨z__law_right, F__law_right⟩ := cd.def_ 41 (d := d__law_right) rfl
  have m__law_right : Γ.mg "_law_right" = some (.ref (He.fAd Γ.K d__law_right.at_)) := glo "_law_right" (List.mem_of_getElem? (i := 41) rfl)
  have D__law_right : DefOk Γ "_law_right" f__law_right ["well"] 31 := defOk_of (N := ["well", "many", "every", "k", "ring", "web", "minds", "due", "odd", "j", "person", "pair"]) F__law_right m__law_right sc__law_right (fun h0 H0 => sb__law_right C D__law_draw D__law_web D__law_again D__law_same D__law_mind D_again D_middles_after k_again_web_minds h0 H0) (by intro _ _ _ _ _ _ us hl; match us, hl with | [_], _ => rfl)
  obtain ⟨z_law, F_law⟩ := cd.def_ 42 (d := d_law) rfl
  have m_law : Γ.mg "law" = some (.ref (He.fAd Γ.K d_law.at_)) := glo "law" (List.mem_of_getElem? (i := 42) rfl)
  have D_law : DefOk Γ "law" f_law ["script"] 32 := defOk_of (N := ["script", "wells", "lap"]) F_law m_law sc_law (fun h0 H0 => sb_law C D__law_well D__law_right h0 H0) (by intro _ _ _ _ _ _ us hl; match us, hl with | [_], _ => rfl)
  exact D_law
theorem holds (hf : ∀ ns : List Int, ns.length ≤ 63 → (∀ z ∈ ns, Builtin.Int.intBits z ≤ 1048576) → ∃ w', f_law [.val (.scr ns)] [] = .ok (.val (.bl true)) w') : lw.Holds := by
  w_on; o_law
  refine HandSHeadRun.head_imp (r := R) (q := qv) (H := hk) (ob := ob) (M := 6000) (loose := names) (d := HandSHeadRun.topDef R.prog 57) (kwd := []) ob_eq run
    (by kernel_rfl) (by kernel_rfl) (by kernel_rfl) (by rfl) (by first | assumption | decide +kernel) (by decide +kernel) ⟨rfl, rfl, rfl, rfl, rfl, by decide +kernel⟩ ?hw ?hc
  case hw => w_witness2
  case hc =>
    refine LamX.walk_ofTsE (l := lw) (n := 63) (k := 32) (x := "script") (CX := fun w => L2.CX lw.prog w) rfl (by decide) (by kernel_rfl) ⟨rfl, by decide, by decide⟩ ?F (fun w H s e s' z => by obtain ⟨_, _, _, _, _, _, _, _, _, _, _, _, z⟩ := z; exact z)
    intro w mg fa h Y G hmg0
    obtain ⟨K, KX, c⟩ := Y
    have hmg : mg ("law" : PySem.Str) = some (.ref fa) := by
      have e : (HandSHeadRun.topDef R.prog 57).name = ("law" : PySem.Str) := by kernel_rfl
      rw [← e]
      exact hmg0
    refine ⟨K, KX, ?_⟩
    obtain ⟨fd, F⟩ := c.t.d.def_ 42 (d := d_law) rfl
    have e := hmg.symm.trans (He.glo_ok KX G (c.t.d.facts (f := .glo "law") (List.mem_append_left _ (List.mem_map.mpr ⟨"law", List.mem_of_getElem? (i := 42) rfl, rfl⟩))))
    cases e
    exact lawAtS_of (cs := tfL.map (He.cT K)) (T := tabT K tfL) (C := 0) (fun p hp => by obtain ⟨d, hd, rfl⟩ := List.mem_map.mp hp; exact c.empty d hd) (fun p hp => by obtain ⟨d, hd, rfl⟩ := List.mem_map.mp hp; exact c.out d hd)
      (fun p hp => by obtain ⟨d, hd, rfl⟩ := List.mem_map.mp hp; exact PySem.W.codeHd_of_K KX (c.hd d hd))
      (fun s u => FunD.bindsA (ps := ["script"]) F (by intro _ _ _ _ _ _ us hl; match us, hl with | [_], _ => rfl) s [u] rfl)
      (fun p hp => by obtain ⟨d, hd, rfl⟩ := List.mem_map.mp hp; exact ⟨_, List.mem_map.mpr ⟨d, hd, rfl⟩, rfl⟩) hf
      (fun base hk hn tb => (chain (Γ := ⟨lw.prog, w, K, mg, base, 0, tabT K tfL, false⟩) KX G c rfl rfl (fun p hp => tb _ (List.mem_map.mpr ⟨p, hp, rfl⟩))).get hmg (lk_of F))
end K60
end Mnd
theorem PySem.Challenge.cw_mindmeans_k60_whole_minds_that_come_agai_holds : PySem.Challenge.rw_mindmeans_k60_whole_minds_that_come_agai.Holds := by
  exact Mnd.K60.holds Mnd.K60.law_true
