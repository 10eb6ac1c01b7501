import PyProof.Rows.All
import Wide.All
import OpenK.AllK
import Wide.FinOn
import HandS.ForMost
import HandS.ForExc
import HandS.Deep
import HandS.TupAny
import HandS.Walk
import HandS.CallSlots
import HandS.Wide
import HandS.IsInst
import KE.SortData
import HandS.TupLe
import HandS.TupLen
import HandS.More
import HandS.Defaults
import HandS.Codes
import HandS.WordsExc
import HandS.HeadEnd
import PyProof.P3Eq
import HandS.Head0
import HandS.Head1
import HandS.Head2
import HandS.HeadHook1
import HandS.HeadHook2
import PySem.Challenge.RW_heightrings_k06_gates_listed
set_option Elab.async false
set_option linter.all false
set_option maxRecDepth 100000
set_option maxHeartbeats 0
/-! Rg1: a small language of data. Values are trees (D); a def's names are slots; a body is run by ev, evs, evI, ex. Nothing of the machine stands here. -/
namespace Rg
open PySem L2

inductive D where
  | non | bl (b : Bool) | int (i : Int) | str (s : Str)
  | tup (xs : List D) | lst (xs : List D)
  | dT (ks : List (List Key)) (ds : List D) | dK (ks : List Key) (ds : List D)
  | scr (ns : List Int)
instance : Inhabited D := ⟨.non⟩

/-- what a run ends in -/
inductive R (α : Type) where
  | ok (a : α) | exc (c : String) (fs : List (Str × D)) | stuck
def R.bind {α β : Type} (x : R α) (f : α → R β) : R β := match x with
  | .ok a => f a
  | .exc c fs => .exc c fs
  | .stuck => .stuck
instance : Monad R where
  pure := .ok
  bind := R.bind
@[simp] theorem R.bind_ok {α β : Type} (a : α) (f : α → R β) : (R.ok a >>= f) = f a := rfl
@[simp] theorem R.bind_exc {α β : Type} (c : String) (fs : List (Str × D)) (f : α → R β) : ((R.exc c fs : R α) >>= f) = .exc c fs := rfl
@[simp] theorem R.bind_stuck {α β : Type} (f : α → R β) : ((R.stuck : R α) >>= f) = .stuck := rfl
@[simp] theorem R.pure_eq {α : Type} (a : α) : (pure a : R α) = .ok a := rfl
def R.of {α : Type} : Option α → R α
  | some a => .ok a
  | none => .stuck
@[simp] theorem R.of_some {α : Type} (a : α) : R.of (some a) = .ok a := rfl
@[simp] theorem R.of_none {α : Type} : R.of (none : Option α) = .stuck := rfl

mutual
def imm : D → Bool
  | .non => true
  | .bl _ => true
  | .int _ => true
  | .str _ => true
  | .tup xs => immL xs
  | .lst _ => false
  | .dT _ _ => false
  | .dK _ _ => false
  | .scr _ => false
def immL : List D → Bool
  | [] => true
  | x :: r => imm x && immL r
end

/-- a value on its way: shared for ever, one's own, or what a slot owns -/
inductive Val where
  | fz (d : D) | own (full : Bool) (d : D) | slot (i : Nat)
inductive Slot where
  | un | fz (d : D) | ow (full : Bool) (d : D) | lk (full : Bool) (d : D)
instance : Inhabited Slot := ⟨.un⟩
abbrev Sts := List Slot
def slotD : Slot → Option D
  | .ow _ d => some d
  | _ => none
def dat (τ : Sts) : Val → Option D
  | .fz d => some d
  | .own _ d => some d
  | .slot i => (τ[i]?).bind slotD
def dats (τ : Sts) : List Val → Option (List D)
  | [] => some []
  | v :: r => (dat τ v).bind fun d => (dats τ r).map fun ds => d :: ds
def noSlot : Val → Bool
  | .slot _ => false
  | _ => true
/-- to be kept: what a slot owns leaves it -/
def sto (τ : Sts) : Val → Option (Val × Sts)
  | .slot i => match τ[i]? with
    | some (.ow f d) => some (.own f d, τ.set i .un)
    | _ => none
  | v => some (v, τ)
def stos (τ : Sts) : List Val → Option (List Val × Sts)
  | [] => some ([], τ)
  | v :: r => sto τ v >>= fun p => stos p.2 r >>= fun q => some (p.1 :: q.1, q.2)
/-- the data of kept values; whether each is one's own, all through -/
def vD : Val → D
  | .fz d => d
  | .own _ d => d
  | .slot _ => .non
def vFull : Val → Bool
  | .fz d => imm d
  | .own f _ => f
  | .slot _ => false

/-- what an operation hands back: a thing that stands, a new tuple, a new list -/
inductive Res where
  | old (d : D) | nt (ds : List D) | nu (ds : List D)
def resV (fz : Bool) : Res → Option Val
  | .old d => if fz || imm d then some (.fz d) else none
  | .nt ds => if fz || immL ds then some (.fz (.tup ds)) else none
  | .nu ds => if immL ds then some (.own true (.lst ds)) else if fz then some (.own false (.lst ds)) else none

mutual
def toPy : D → PyData
  | .non => .none
  | .bl b => .bool b
  | .int i => .int i
  | .str s => .str s
  | .tup xs => .tuple (toPyL xs)
  | .lst xs => .list (toPyL xs)
  | .dT _ _ => .dict []
  | .dK _ _ => .dict []
  | .scr _ => .dict []
def toPyL : List D → List PyData
  | [] => []
  | x :: r => toPy x :: toPyL r
end
def keyOf : D → Option Key
  | .int i => some (.inl i)
  | .str s => some (.inr s)
  | _ => none
def keysOf : List D → Option (List Key)
  | [] => some []
  | d :: r => (keyOf d).bind fun k => (keysOf r).map fun ks => k :: ks
def keyD : Key → D
  | .inl i => .int i
  | .inr s => .str s
def look {κ : Type} [DecidableEq κ] (ks : List κ) (ds : List D) (k : κ) : Option D := ((ks.zip ds).find? fun kv => decide (kv.1 = k)).map (·.2)
def mulOk (i j : Int) : Prop := (-(2 ^ 64) < i ∧ i < 2 ^ 64) ∨ (-(2 ^ 64) < j ∧ j < 2 ^ 64) ∨ i.natAbs.log2 + j.natAbs.log2 < 1000000
instance (i j : Int) : Decidable (mulOk i j) := by unfold mulOk; infer_instance
def divOk (j : Int) : Prop := 0 < j ∧ (j < 1073741824 ∨ j.natAbs.log2 < 9000)
instance (j : Int) : Decidable (divOk j) := by unfold divOk; infer_instance
def powOk (i j : Int) : Prop := 0 ≤ j ∧ j ≤ 1000000 ∧ i.natAbs < 2 ^ 64
instance (i j : Int) : Decidable (powOk i j) := by unfold powOk; infer_instance

inductive Prim where
  | add | sub | mul | fdiv | mod | pow | neg
  | lt | le | gt | ge | eq | ne | isN | notN | isB | notB | inn | nin | ind | nind
  | ix | ixd | len | lend | min2 | max2 | abs | sum | minL | maxL | tup | list
  | sorted | isa (t : String)
  deriving DecidableEq

def isNonD : D → Bool
  | .non => true
  | _ => false
def eqP (a b : D) : Option Bool := match a, b with
  | .int i, .int j => some (decide (i = j))
  | .str x, .str y => some (decide (x = y))
  | a, b => if SeqAt.shaped (toPy a) && SeqAt.shaped (toPy b) then some (PyData.eqv (toPy a) (toPy b)) else none
def intsOf : List D → Option (List Int)
  | [] => some []
  | .int i :: r => (intsOf r).map fun ns => i :: ns
  | _ => none
def ixD (a i : D) : Option D := match a, i with
  | .lst ds, .int i => atI ds i
  | .tup ds, .int i => atI ds i
  | .scr ns, .int i => (atI ns i).map .int
  | _, _ => none
/-- a dict is asked by a key -/
def lookD (a k : D) : Option (Option D) := match a, k with
  | .dT ks ds, .tup k => (keysOf k).map fun k => look ks ds k
  | .dK ks ds, .int i => some (look ks ds (.inl i))
  | .dK ks ds, .str s => some (look ks ds (.inr s))
  | _, _ => none
def inD (x a : D) : Option Bool := match a with
  | .lst ds => if SeqAt.shaped (toPy x) && SeqAt.shaped (.list (toPyL ds)) then some ((toPyL ds).any fun z => PyData.eqv z (toPy x)) else none
  | _ => none
def lenD : D → Option Int
  | .lst ds => some ds.length
  | .tup ds => some ds.length
  | .scr ns => some ns.length
  | _ => none
def lenDD : D → Option Int
  | .dT ks ds => some ks.length
  | .dK ks ds => some ks.length
  | _ => none
def minI : List Int → Int
  | [] => 0
  | [x] => x
  | x :: r => min x (minI r)
def maxI : List Int → Int
  | [] => 0
  | [x] => x
  | x :: r => max x (maxI r)

def pAdd : List D → Option Res
  | [.int i, .int j] => some (.old (.int (i + j)))
  | [.str a, .str b] => if a.length + b.length ≤ sizeLine then some (.old (.str (a ++ b))) else none
  | [.tup xs, .tup ys] => if xs.length + ys.length ≤ sizeLine then some (.nt (xs ++ ys)) else none
  | [.lst xs, .lst ys] => if xs.length + ys.length ≤ sizeLine then some (.nu (xs ++ ys)) else none
  | _ => none
def pSub : List D → Option Res
  | [.int i, .int j] => some (.old (.int (i - j)))
  | _ => none
def pMul : List D → Option Res
  | [.int i, .int j] => if mulOk i j then some (.old (.int (i * j))) else none
  | [.lst xs, .int k] => if -(2 ^ 63) ≤ k ∧ k < 2 ^ 63 ∧ xs.length * k.toNat ≤ sizeLine then some (.nu (List.replicate k.toNat xs).flatten) else none
  | _ => none
def pFdiv : List D → Option Res
  | [.int i, .int j] => if divOk j then some (.old (.int (i / j))) else none
  | _ => none
def pMod : List D → Option Res
  | [.int i, .int j] => if 0 < j then some (.old (.int (i % j))) else none
  | _ => none
def pPow : List D → Option Res
  | [.int i, .int j] => if powOk i j then some (.old (.int (i ^ j.toNat))) else none
  | _ => none
def pNeg : List D → Option Res
  | [.int i] => some (.old (.int (-i)))
  | _ => none
def pLt : List D → Option Res
  | [.int i, .int j] => some (.old (.bl (decide (i < j))))
  | _ => none
def pLe : List D → Option Res
  | [.int i, .int j] => some (.old (.bl (decide (i ≤ j))))
  | _ => none
def pGt : List D → Option Res
  | [.int i, .int j] => some (.old (.bl (decide (j < i))))
  | _ => none
def pGe : List D → Option Res
  | [.int i, .int j] => some (.old (.bl (decide (j ≤ i))))
  | _ => none
def pEq : List D → Option Res
  | [a, b] => eqP a b >>= fun k => some (.old (.bl k))
  | _ => none
def pNe : List D → Option Res
  | [a, b] => eqP a b >>= fun k => some (.old (.bl (!k)))
  | _ => none
def pIsN : List D → Option Res
  | [a, .non] => some (.old (.bl (isNonD a)))
  | _ => none
def pNotN : List D → Option Res
  | [a, .non] => some (.old (.bl (!isNonD a)))
  | _ => none
def pIsB : List D → Option Res
  | [.bl a, .bl b] => some (.old (.bl (decide (a = b))))
  | _ => none
def pNotB : List D → Option Res
  | [.bl a, .bl b] => some (.old (.bl (!decide (a = b))))
  | _ => none
def pInn : List D → Option Res
  | [x, a] => inD x a >>= fun k => some (.old (.bl k))
  | _ => none
def pNin : List D → Option Res
  | [x, a] => inD x a >>= fun k => some (.old (.bl (!k)))
  | _ => none
def pInd : List D → Option Res
  | [x, a] => lookD a x >>= fun o => some (.old (.bl o.isSome))
  | _ => none
def pNind : List D → Option Res
  | [x, a] => lookD a x >>= fun o => some (.old (.bl (!o.isSome)))
  | _ => none
def pIx : List D → Option Res
  | [a, i] => ixD a i >>= fun d => some (.old d)
  | _ => none
def pIxd : List D → Option Res
  | [a, k] => lookD a k >>= fun o => o >>= fun d => some (.old d)
  | _ => none
def pLen : List D → Option Res
  | [a] => lenD a >>= fun n => some (.old (.int n))
  | _ => none
def pLend : List D → Option Res
  | [a] => lenDD a >>= fun n => some (.old (.int n))
  | _ => none
def pMin2 : List D → Option Res
  | [.int i, .int j] => some (.old (.int (if j < i then j else i)))
  | _ => none
def pMax2 : List D → Option Res
  | [.int i, .int j] => some (.old (.int (if j > i then j else i)))
  | _ => none
def pAbs : List D → Option Res
  | [.int i] => some (.old (.int (if i < 0 then -i else i)))
  | _ => none
def pSum : List D → Option Res
  | [.lst xs] => intsOf xs >>= fun ns => some (.old (.int ns.sum))
  | _ => none
def pMinL : List D → Option Res
  | [.lst xs] => intsOf xs >>= fun ns => if ns = [] then none else some (.old (.int (minI ns)))
  | _ => none
def pMaxL : List D → Option Res
  | [.lst xs] => intsOf xs >>= fun ns => if ns = [] then none else some (.old (.int (maxI ns)))
  | _ => none
def pTup : List D → Option Res
  | [.lst xs] => some (.nt xs)
  | [.tup xs] => some (.nt xs)
  | _ => none
def pList : List D → Option Res
  | [.lst xs] => some (.nu xs)
  | [.tup xs] => some (.nu xs)
  | _ => none
def tupNe : D → Bool
  | .tup (_ :: _) => true
  | _ => false
def noTup : D → Bool
  | .tup _ => false
  | .non => false
  | _ => true
def sortOk (ds : List D) : Bool := (ds.all fun d => SeqAt.shaped (toPy d) && ds.all fun e => PySem.W.alike (toPy d) (toPy e)) && (ds.all tupNe || ds.all noTup) && decide (ds.length ≤ sizeLine)
def leD : D → D → Bool := PySem.W.dataLe false toPy
def pSorted : List D → Option Res
  | [.lst xs] => if sortOk xs then some (.nu (xs.mergeSort leD)) else none
  | _ => none
def tyName : D → Option String
  | .non => some "NoneType"
  | .bl _ => some "bool"
  | .int _ => some "int"
  | .str _ => some "str"
  | .tup _ => some "tuple"
  | .lst _ => some "list"
  | _ => none
def pIsa (t : String) : List D → Option Res
  | [d] => tyName d >>= fun a => kitB a t >>= fun b => some (.old (.bl b))
  | _ => none
def primD : Prim → List D → Option Res
  | .sorted => pSorted
  | .isa t => pIsa t
  | .add => pAdd
  | .sub => pSub
  | .mul => pMul
  | .fdiv => pFdiv
  | .mod => pMod
  | .pow => pPow
  | .neg => pNeg
  | .lt => pLt
  | .le => pLe
  | .gt => pGt
  | .ge => pGe
  | .eq => pEq
  | .ne => pNe
  | .isN => pIsN
  | .notN => pNotN
  | .isB => pIsB
  | .notB => pNotB
  | .inn => pInn
  | .nin => pNin
  | .ind => pInd
  | .nind => pNind
  | .ix => pIx
  | .ixd => pIxd
  | .len => pLen
  | .lend => pLend
  | .min2 => pMin2
  | .max2 => pMax2
  | .abs => pAbs
  | .sum => pSum
  | .minL => pMinL
  | .maxL => pMaxL
  | .tup => pTup
  | .list => pList

/-- what changes the list that a slot owns: whether it is one's own all through, the items then, what is handed back -/
inductive Mut1 where
  | append | pop | popAt | insert | clear | setAt
  deriving DecidableEq
def mAppend (f : Bool) (xs : List D) : List Val → Option (Bool × List D × D)
  | [v] => if xs.length < sizeLine then some (f && vFull v, xs ++ [vD v], .non) else none
  | _ => none
def mPop (f : Bool) (xs : List D) : List Val → Option (Bool × List D × D)
  | [] => match xs[xs.length - 1]? with
    | some y => if imm y then some (f, xs.dropLast, y) else none
    | none => none
  | _ => none
def mPopAt (f : Bool) (xs : List D) : List Val → Option (Bool × List D × D)
  | [.fz (.int i)] => match seqIndex? i xs.length with
    | some k => match xs[k]? with
      | some y => if imm y ∧ -(2 ^ 63) ≤ i ∧ i < 2 ^ 63 then some (f, xs.eraseIdx k, y) else none
      | none => none
    | none => none
  | _ => none
def mInsert (f : Bool) (xs : List D) : List Val → Option (Bool × List D × D)
  | [.fz (.int i), v] => if xs.length < sizeLine ∧ 0 ≤ i ∧ i < 2 ^ 63 then some (f && vFull v, xs.take i.toNat ++ [vD v] ++ xs.drop i.toNat, .non) else none
  | _ => none
def mClear (f : Bool) (xs : List D) : List Val → Option (Bool × List D × D)
  | [] => some (true, [], .non)
  | _ => none
def mSetAt (f : Bool) (xs : List D) : List Val → Option (Bool × List D × D)
  | [v, .fz (.int k)] => (ixN xs.length k).map fun j => (f && vFull v, xs.set j (vD v), .non)
  | _ => none
def mutL : Mut1 → Bool → List D → List Val → Option (Bool × List D × D)
  | .append => mAppend
  | .pop => mPop
  | .popAt => mPopAt
  | .insert => mInsert
  | .clear => mClear
  | .setAt => mSetAt
/-- x[k] = v -/
def putIt (f : Bool) (d : D) (k : D) (v : Val) : Option (Bool × D) := match d, k with
  | .lst xs, .int i => (ixN xs.length i).map fun j => (f && vFull v, .lst (xs.set j (vD v)))
  | .dT ks ds, .tup k => (keysOf k).bind fun k => if ks.length < sizeLine then some (f && vFull v, match ks.findIdx? (fun q => decide (q = k)) with
      | some j => .dT ks (ds.set j (vD v))
      | none => .dT (ks ++ [k]) (ds ++ [vD v])) else none
  | .dK ks ds, k => (keyOf k).bind fun k => if ks.length < sizeLine then some (f && vFull v, match ks.findIdx? (fun q => decide (q = k)) with
      | some j => .dK ks (ds.set j (vD v))
      | none => .dK (ks ++ [k]) (ds ++ [vD v])) else none
  | _, _ => none

/-- a def by what its run hands back: the room that it wants, how many parameters it changes (the first ones), how many it has; its answer (a value of its own, or one that never changes) and what the changed ones are then -/
structure Fn where
  lv : Nat
  io : Nat
  ar : Nat
  run : List D → R (D × List D)

inductive E where
  | var (i : Nat) | cst (d : D) | glb (x : Str) (d : D)
  | prim (p : Prim) (args : E)
  | and (a b : E) | or (a b : E) | not (a : E) | ite (c a b : E)
  | chain (p q : Prim) (a b c : E)
  | tup (args : E) | lst (args : E) | dnewT | dnewK
  | call (k : Nat) (args : E)
  | mut (m : Mut1) (i : Nat) (args : E)
  | comp (tg : List Nat) (one : Bool) (it cond elt : E)
  | yes
  | nil | cons (a r : E)
  | iRange (a : E) | iRange2 (a b : E) | iSeq (a : E) | iRev (a : E) | iEnum (a : E)

def boolOf (τ : Sts) (v : Val) : Option Bool := match dat τ v with
  | some (.bl b) => some b
  | _ => none
/-- names are given values; a locked one isn't -/
def put1 (τ : Sts) (i : Nat) (s : Slot) : Option Sts := match τ[i]? with
  | some (.lk _ _) => none
  | some _ => some (τ.set i s)
  | none => none
def putL (τ : Sts) : List Nat → List D → Option Sts
  | [], [] => some τ
  | i :: r, d :: ds => put1 τ i (.fz d) >>= fun τ' => putL τ' r ds
  | _, _ => none
/-- a target: one name, or several for a tuple -/
def bindTg (tg : List Nat) (one : Bool) (τ : Sts) (d : D) : Option Sts := match one, d with
  | true, d => putL τ tg [d]
  | false, .tup ds => putL τ tg ds
  | _, _ => none
def wipeS (τ : Sts) : List Nat → Sts
  | [] => τ
  | i :: r => (wipeS τ r).set i .un
def unlocked (τ : Sts) (tg : List Nat) : Bool := tg.all fun i => match τ[i]? with
  | some (.un) => true
  | some (.fz _) => true
  | _ => false
def wipeC (τ : Sts) (tg : List Nat) : Option Sts := if unlocked τ tg then some (wipeS τ tg) else none
def lock (τ : Sts) : Option Nat → Sts
  | none => τ
  | some i => match τ[i]? with
    | some (.ow f d) => τ.set i (.lk f d)
    | _ => τ
/-- τ0: the slots as they were ahead of the lock -/
def unlock (τ0 τ : Sts) : Option Nat → Option Sts
  | none => some τ
  | some i => match τ[i]?, τ0[i]? with
    | some (.lk _ _), some (.ow f d) => some (τ.set i (.ow f d))
    | _, _ => none
/-- a list or a tuple that is walked: its items, the slot to be locked meanwhile -/
def seqOf (τ : Sts) (tupToo : Bool) : Val → Option (List D × Option Nat)
  | .slot i => match τ[i]? with
    | some (.ow _ (.lst ds)) => if immL ds then some (ds, some i) else none
    | _ => none
  | v => match dat τ v with
    | some (.lst ds) => some (ds, none)
    | some (.tup ds) => if tupToo then some (ds, none) else none
    | _ => none
/-- the turns of a comprehension -/
def compGo (step : Sts → D → R (Option Val × Sts)) : List D → List D → Bool → Sts → R (Bool × List D × Sts)
  | [], acc, full, τ => .ok (full, acc, τ)
  | d :: r, acc, full, τ => step τ d >>= fun p => match p.1 with
    | some v => if acc.length < sizeLine then compGo step r (acc ++ [vD v]) (full && vFull v) p.2 else .stuck
    | none => compGo step r acc full p.2
def ioData (τ : Sts) : List Nat → Option (List D)
  | [] => some []
  | i :: r => match τ[i]? with
    | some (.ow true d) => (ioData τ r).map fun ds => d :: ds
    | _ => none
def setIo (τ : Sts) : List Nat → List D → Option Sts
  | [], [] => some τ
  | i :: r, d :: ds => setIo (τ.set i (.ow true d)) r ds
  | _, _ => none
def slotIn (ios : List Nat) : Val → Bool
  | .slot i => decide (i ∈ ios)
  | _ => false
def slotsOf : List Val → Option (List Nat)
  | [] => some []
  | .slot i :: r => (slotsOf r).map fun is => i :: is
  | _ => none
/-- a def is called: the first io arguments are slots that it changes -/
def callD (f : Fn) (vs : List Val) (τ : Sts) : R (Val × Sts) :=
  match slotsOf (vs.take f.io), dats τ (vs.drop f.io) with
  | some ios, some ds => if ios.Nodup ∧ (vs.drop f.io).any (slotIn ios) = false ∧ vs.length = f.ar ∧ f.io ≤ f.ar then
      match ioData τ ios with
      | some es => f.run (es ++ ds) >>= fun r => R.of (setIo τ ios r.2) >>= fun τ' => .ok (if imm r.1 then .fz r.1 else .own true r.1, τ')
      | none => .stuck
    else .stuck
  | _, _ => .stuck
def R.calm {α : Type} : R α → R α
  | .ok a => .ok a
  | _ => .stuck
@[simp] theorem R.calm_ok {α : Type} (a : α) : (R.ok a).calm = .ok a := rfl
@[simp] theorem R.calm_stuck {α : Type} : (R.stuck : R α).calm = .stuck := rfl

def int2 : List D → Option (Int × Int)
  | [.int a, .int b] => some (a, b)
  | _ => none
abbrev Env1 := List (Str × Fn)
mutual
def ev (Γ : Env1) : E → Sts → R (Val × Sts)
  | .var i, τ => match τ[i]? with
    | some (.fz d) => .ok (.fz d, τ)
    | some (.ow _ _) => .ok (.slot i, τ)
    | _ => .stuck
  | .cst d, τ => .ok (.fz d, τ)
  | .glb _ d, τ => .ok (.fz d, τ)
  | .yes, τ => .ok (.fz (.bl true), τ)
  | .prim p args, τ => evs Γ args τ >>= fun r => R.of (dats r.2 r.1) >>= fun ds => R.of (primD p ds) >>= fun q => R.of (resV (r.1.all noSlot) q) >>= fun v => .ok (v, r.2)
  | .and a b, τ => ev Γ a τ >>= fun r => R.of (boolOf r.2 r.1) >>= fun c => if c then ev Γ b r.2 else .ok (.fz (.bl false), r.2)
  | .or a b, τ => ev Γ a τ >>= fun r => R.of (boolOf r.2 r.1) >>= fun c => if c then .ok (.fz (.bl true), r.2) else ev Γ b r.2
  | .not a, τ => ev Γ a τ >>= fun r => R.of (boolOf r.2 r.1) >>= fun c => .ok (.fz (.bl (!c)), r.2)
  | .ite c a b, τ => ev Γ c τ >>= fun r => R.of (boolOf r.2 r.1) >>= fun k => if k then ev Γ a r.2 else ev Γ b r.2
  | .chain p q a b c, τ => ev Γ a τ >>= fun ra => ev Γ b ra.2 >>= fun rb => R.of (dats rb.2 [ra.1, rb.1]) >>= fun ds => R.of (primD p ds) >>= fun z => match z with
      | .old (.bl true) => ev Γ c rb.2 >>= fun rc => R.of (dats rc.2 [rb.1, rc.1]) >>= fun es => R.of (primD q es) >>= fun z => R.of (resV false z) >>= fun v => .ok (v, rc.2)
      | .old (.bl false) => .ok (.fz (.bl false), rb.2)
      | _ => .stuck
  | .tup args, τ => evs Γ args τ >>= fun r => R.of (stos r.2 r.1) >>= fun q => if q.1.length ≤ sizeLine then .ok (.fz (.tup (q.1.map vD)), q.2) else .stuck
  | .lst args, τ => evs Γ args τ >>= fun r => R.of (stos r.2 r.1) >>= fun q => if q.1.length ≤ sizeLine then .ok (.own (q.1.all vFull) (.lst (q.1.map vD)), q.2) else .stuck
  | .dnewT, τ => .ok (.own true (.dT [] []), τ)
  | .dnewK, τ => .ok (.own true (.dK [] []), τ)
  | .call k args, τ => evs Γ args τ >>= fun r => match Γ[k]? with
    | some f => callD f.2 r.1 r.2
    | none => .stuck
  | .mut m i args, τ => match τ[i]? with
    | some (.ow _ (.lst _)) => evs Γ args τ >>= fun r => R.of (stos r.2 r.1) >>= fun q => match q.2[i]? with
      | some (.ow f (.lst xs)) => R.of (mutL m f xs q.1) >>= fun z => .ok (.fz z.2.2, q.2.set i (.ow z.1 (.lst z.2.1)))
      | _ => .stuck
    | _ => .stuck
  | .comp tg one it cond elt, τ => evI Γ it τ >>= fun s => R.of (wipeC s.2.2 tg) >>= fun τ0 =>
      compGo (fun τ d => R.calm (R.of (bindTg tg one τ d) >>= fun τ1 => ev Γ cond τ1 >>= fun r => R.of (boolOf r.2 r.1) >>= fun k =>
        if k then ev Γ elt r.2 >>= fun r2 => R.of (sto r2.2 r2.1) >>= fun q => R.of (wipeC q.2 tg) >>= fun τ2 => .ok (some q.1, τ2) else R.of (wipeC r.2 tg) >>= fun τ2 => .ok (none, τ2))) s.1 [] true (lock τ0 s.2.1) >>= fun q => R.of (unlock τ0 q.2.2 s.2.1) >>= fun τ3 => .ok (.own q.1 (.lst q.2.1), τ3)
  | _, _ => .stuck
def evs (Γ : Env1) : E → Sts → R (List Val × Sts)
  | .nil, τ => .ok ([], τ)
  | .cons a r, τ => ev Γ a τ >>= fun x => evs Γ r x.2 >>= fun y => .ok (x.1 :: y.1, y.2)
  | _, _ => .stuck
/-- what is walked: the items, the slot that is locked, the slots behind it -/
def evI (Γ : Env1) : E → Sts → R (List D × Option Nat × Sts)
  | .iRange a, τ => ev Γ a τ >>= fun r => match dat r.2 r.1 with
    | some (.int n) => if n < 2 ^ 62 ∧ -(2 ^ 62) ≤ n then .ok ((List.range n.toNat).map fun k => .int (k : Nat), none, r.2) else .stuck
    | _ => .stuck
  | .iRange2 a b, τ => ev Γ a τ >>= fun r => ev Γ b r.2 >>= fun q => R.of (dats q.2 [r.1, q.1]) >>= fun ds => R.of (int2 ds) >>= fun p =>
    if -(2 ^ 62) ≤ p.1 ∧ p.1 < 2 ^ 62 ∧ -(2 ^ 62) ≤ p.2 ∧ p.2 < 2 ^ 62 then .ok ((List.range (p.2 - p.1).toNat).map fun (k : Nat) => .int (p.1 + (k : Int)), none, q.2) else .stuck
  | .iSeq a, τ => ev Γ a τ >>= fun r => R.of (seqOf r.2 true r.1) >>= fun s => .ok (s.1, s.2, r.2)
  | .iRev a, τ => ev Γ a τ >>= fun r => R.of (seqOf r.2 false r.1) >>= fun s => .ok (s.1.reverse, s.2, r.2)
  | .iEnum a, τ => ev Γ a τ >>= fun r => R.of (seqOf r.2 false r.1) >>= fun s => .ok (s.1.zipIdx.map fun p => .tup [.int (p.2 : Nat), p.1], s.2, r.2)
  | _, _ => .stuck
end

inductive S where
  | skip
  | seq (a b : S)
  | asg (i : Nat) (e : E)
  | unpack (tg : List Nat) (e : E)
  | par (i j : Nat) (a b : E)
  | put (i : Nat) (k v : E)
  | expr (e : E)
  | ret (e : E)
  | ifs (c : E) (a b : S)
  | fors (tg : List Nat) (one : Bool) (it : E) (b : S)
  | whl (c : E) (b : S)
  | raise (c : String) (args : E)
  | frz (i : Nat)
  | never

inductive Fl where
  | next (τ : Sts) | ret (v : Val) (τ : Sts)
def forGo (step : Sts → D → R Fl) : List D → Sts → R Fl
  | [], τ => .ok (.next τ)
  | d :: r, τ => step τ d >>= fun f => match f with
    | .next τ' => forGo step r τ'
    | .ret v τ' => .ok (.ret v τ')
def whileGo (c : Sts → R (Bool × Sts)) (b : Sts → R Fl) : Nat → Sts → R Fl
  | 0, _ => .stuck
  | n + 1, τ => c τ >>= fun k => if k.1 then b k.2 >>= fun f => match f with
      | .next τ' => whileGo c b n τ'
      | .ret v τ' => .ok (.ret v τ')
    else .ok (.next k.2)
def slotOf : Val → Slot
  | .fz d => .fz d
  | .own f d => .ow f d
  | .slot _ => .un
/-- n bounds the turns of each while -/
def ex (Γ : Env1) (n : Nat) : S → Sts → R Fl
  | .skip, τ => .ok (.next τ)
  | .seq a b, τ => ex Γ n a τ >>= fun f => match f with
    | .next τ' => ex Γ n b τ'
    | .ret v τ' => .ok (.ret v τ')
  | .asg i e, τ => ev Γ e τ >>= fun r => R.of (sto r.2 r.1) >>= fun q => R.of (put1 q.2 i (slotOf q.1)) >>= fun τ' => .ok (.next τ')
  | .unpack tg e, τ => ev Γ e τ >>= fun r => match r.1 with
    | .fz d => R.of (bindTg tg false r.2 d) >>= fun τ' => .ok (.next τ')
    | _ => .stuck
  | .par i j a b, τ => ev Γ a τ >>= fun r => ev Γ b r.2 >>= fun q => match r.1, q.1 with
    | .fz d, .fz e => R.of (put1 q.2 i (.fz d)) >>= fun τ1 => R.of (put1 τ1 j (.fz e)) >>= fun τ2 => .ok (.next τ2)
    | _, _ => .stuck
  | .put i k v, τ => ev Γ v τ >>= fun rv => R.of (sto rv.2 rv.1) >>= fun sv => ev Γ k sv.2 >>= fun rk => match rk.2[i]? with
    | some (.ow f d) => R.of (dat rk.2 rk.1) >>= fun dk => R.of (putIt f d dk sv.1) >>= fun z => .ok (.next (rk.2.set i (.ow z.1 z.2)))
    | _ => .stuck
  | .expr e, τ => ev Γ e τ >>= fun r => .ok (.next r.2)
  | .ret e, τ => ev Γ e τ >>= fun r => .ok (.ret r.1 r.2)
  | .ifs c a b, τ => ev Γ c τ >>= fun r => R.of (boolOf r.2 r.1) >>= fun k => if k then ex Γ n a r.2 else ex Γ n b r.2
  | .fors tg one it b, τ => evI Γ it τ >>= fun s => forGo (fun τ d => R.of (bindTg tg one τ d) >>= fun τ' => ex Γ n b τ') s.1 (lock s.2.2 s.2.1) >>= fun f => match f with
    | .next τ' => R.of (unlock s.2.2 τ' s.2.1) >>= fun τ3 => .ok (.next τ3)
    | .ret v τ' => .ok (.ret v τ')
  | .whl c b, τ => whileGo (fun τ => ev Γ c τ >>= fun r => R.of (boolOf r.2 r.1) >>= fun k => .ok (k, r.2)) (fun τ => ex Γ n b τ) n τ
  | .raise c args, τ => .stuck
  | .frz i, τ => match τ[i]? with
    | some (.ow _ d) => .ok (.next (τ.set i (.fz d)))
    | some (.fz _) => .ok (.next τ)
    | _ => .stuck
  | .never, _ => .stuck
/-- the slots at a def's entry -/
def entry (io n : Nat) (ds : List D) : Sts := (ds.take io).map (.ow true) ++ (ds.drop io).map .fz ++ List.replicate (n - ds.length) .un
/-- what a def hands back -/
def outV (io : Nat) (τ : Sts) : Val → Option D
  | .fz d => if imm d then some d else none
  | .own true d => some d
  | .own false _ => none
  | .slot i => if i < io then none else match τ[i]? with
    | some (.ow true d) => some d
    | _ => none
def endOf (io : Nat) : R Fl → R (D × List D)
  | .ok (.next τ) => match ioData τ (List.range io) with
    | some es => .ok (.non, es)
    | none => .stuck
  | .ok (.ret v τ) => match outV io τ v, ioData τ (List.range io) with
    | some d, some es => .ok (d, es)
    | _, _ => .stuck
  | .exc c fs => .exc c fs
  | .stuck => .stuck
/-- a def by its body: n slots, the callees, the whiles' bound by the arguments -/
def Fn.of (Γ : Env1) (lv io ar n : Nat) (b : S) (fuel : List D → Nat) : Fn := ⟨lv, io, ar, fun ds => if ds.length = ar then endOf io (ex Γ (fuel ds) b (entry io n ds)) else .stuck⟩
end Rg

/-! Rg2: how data stands in the abstract heap: shared for ever (Rep, over the frozen part F), one's own (Own, its addresses told). -/
namespace Rg
open PySem L2

mutual
def Rep (K : PySem.W.Frag) (F H : Hp) : D → V → Prop
  | .non, v => v = .non
  | .bl b, v => v = .bl b
  | .int i, v => v = .int i
  | .str s, v => v = .str s
  | .tup ds, v => ∃ a vs, v = .ref a ∧ H a = some (.tup vs) ∧ RepL K F H ds vs
  | .lst ds, v => ∃ a vs, v = .ref a ∧ F a = some (.lst vs) ∧ RepL K F H ds vs
  | .dT ks ds, v => ∃ a vs, v = .ref a ∧ F a = some (.dT (ks.zip vs)) ∧ ks.length = vs.length ∧ RepL K F H ds vs
  | .dK ks ds, v => ∃ a vs, v = .ref a ∧ F a = some (.dK (ks.zip vs)) ∧ ks.length = vs.length ∧ RepL K F H ds vs
  | .scr ns, v => ∃ a, v = .ref a ∧ SqL K F a (ns.map V.int)
def RepL (K : PySem.W.Frag) (F H : Hp) : List D → List V → Prop
  | [], vs => vs = []
  | d :: ds, vs => ∃ v r, vs = v :: r ∧ Rep K F H d v ∧ RepL K F H ds r
end
mutual
def Own (K : PySem.W.Frag) (F H : Hp) (f : Bool) : D → V → List Addr → Prop
  | .lst ds, v, A => ∃ a vs B, v = .ref a ∧ H a = some (.lst vs) ∧ A = a :: B ∧ Kids K F H f ds vs B
  | .dT ks ds, v, A => ∃ a vs B, v = .ref a ∧ H a = some (.dT (ks.zip vs)) ∧ ks.length = vs.length ∧ A = a :: B ∧ Kids K F H f ds vs B
  | .dK ks ds, v, A => ∃ a vs B, v = .ref a ∧ H a = some (.dK (ks.zip vs)) ∧ ks.length = vs.length ∧ A = a :: B ∧ Kids K F H f ds vs B
  | _, _, _ => False
def Kids (K : PySem.W.Frag) (F H : Hp) (f : Bool) : List D → List V → List Addr → Prop
  | [], vs, A => vs = [] ∧ A = []
  | d :: ds, vs, A => ∃ v r A1 A2, vs = v :: r ∧ A = A1 ++ A2 ∧ ((A1 = [] ∧ Rep K F H d v ∧ (f = true → imm d = true)) ∨ Own K F H f d v A1) ∧ Kids K F H f ds r A2
end
def Le (F H : Hp) : Prop := ∀ a o, F a = some o → H a = some o
def Tk (H H' : Hp) : Prop := ∀ a xs, H a = some (.tup xs) → H' a = some (.tup xs)
theorem Le.refl (F : Hp) : Le F F := fun _ _ h => h
theorem Le.trans {F G H : Hp} (h : Le F G) (k : Le G H) : Le F H := fun a o e => k a o (h a o e)
theorem Tk.refl (H : Hp) : Tk H H := fun _ _ h => h
theorem Tk.trans {F G H : Hp} (h : Tk F G) (k : Tk G H) : Tk F H := fun a o e => k a o (h a o e)

section
variable {K : PySem.W.Frag} {F F' H H' : Hp}
theorem sql_le {a : Addr} {xs : List V} (h : Le F F') (s : SqL K F a xs) : SqL K F' a xs := by
  rcases s with (s | ⟨o, s⟩) | s
  · exact .inl (.inl (h _ _ s))
  · exact .inl (.inr ⟨o, h _ _ s⟩)
  · exact .inr s
mutual
theorem Rep.mono (h : Le F F') (k : Tk H H') : ∀ {d : D} {v : V}, Rep K F H d v → Rep K F' H' d v
  | .non, _, e => e
  | .bl _, _, e => e
  | .int _, _, e => e
  | .str _, _, e => e
  | .tup ds, _, e => by
    unfold Rep at e ⊢
    obtain ⟨a, vs, e1, e2, e3⟩ := e
    exact ⟨a, vs, e1, k _ _ e2, RepL.mono h k e3⟩
  | .lst ds, _, e => by
    unfold Rep at e ⊢
    obtain ⟨a, vs, e1, e2, e3⟩ := e
    exact ⟨a, vs, e1, h _ _ e2, RepL.mono h k e3⟩
  | .dT ks ds, _, e => by
    unfold Rep at e ⊢
    obtain ⟨a, vs, e1, e2, e4, e3⟩ := e
    exact ⟨a, vs, e1, h _ _ e2, e4, RepL.mono h k e3⟩
  | .dK ks ds, _, e => by
    unfold Rep at e ⊢
    obtain ⟨a, vs, e1, e2, e4, e3⟩ := e
    exact ⟨a, vs, e1, h _ _ e2, e4, RepL.mono h k e3⟩
  | .scr ns, _, e => by
    unfold Rep at e ⊢
    obtain ⟨a, e1, e2⟩ := e
    exact ⟨a, e1, sql_le h e2⟩
theorem RepL.mono (h : Le F F') (k : Tk H H') : ∀ {ds : List D} {vs : List V}, RepL K F H ds vs → RepL K F' H' ds vs
  | [], _, e => e
  | d :: ds, _, e => by
    unfold RepL at e ⊢
    obtain ⟨v, r, e1, e2, e3⟩ := e
    exact ⟨v, r, e1, Rep.mono h k e2, RepL.mono h k e3⟩
end
mutual
/-- what never changes stands in its tuples alone -/
theorem Rep.imm (k : Tk H H') : ∀ {d : D} {v : V}, imm d = true → Rep K F H d v → Rep K F' H' d v
  | .non, _, _, e => e
  | .bl _, _, _, e => e
  | .int _, _, _, e => e
  | .str _, _, _, e => e
  | .tup ds, _, i, e => by
    unfold Rep at e ⊢
    obtain ⟨a, vs, e1, e2, e3⟩ := e
    exact ⟨a, vs, e1, k _ _ e2, RepL.imm k (by unfold Rg.imm at i; exact i) e3⟩
theorem RepL.imm (k : Tk H H') : ∀ {ds : List D} {vs : List V}, immL ds = true → RepL K F H ds vs → RepL K F' H' ds vs
  | [], _, _, e => e
  | d :: ds, _, i, e => by
    unfold RepL at e ⊢
    unfold immL at i
    obtain ⟨i1, i2⟩ := Bool.and_eq_true_iff.mp i
    obtain ⟨v, r, e1, e2, e3⟩ := e
    exact ⟨v, r, e1, Rep.imm k i1 e2, RepL.imm k i2 e3⟩
end
theorem RepL.len : ∀ {ds : List D} {vs : List V}, RepL K F H ds vs → ds.length = vs.length
  | [], _, e => by unfold RepL at e; subst e; rfl
  | d :: ds, _, e => by
    unfold RepL at e
    obtain ⟨v, r, rfl, _, e3⟩ := e
    simp [RepL.len e3]
theorem RepL.get : ∀ {ds : List D} {vs : List V} {j : Nat} {d : D}, RepL K F H ds vs → ds[j]? = some d → ∃ v, vs[j]? = some v ∧ Rep K F H d v
  | [], _, _, _, _, e => by simp at e
  | c :: ds, _, 0, d, h, e => by
    unfold RepL at h
    obtain ⟨v, r, rfl, h2, _⟩ := h
    simp at e
    subst e
    exact ⟨v, rfl, h2⟩
  | c :: ds, _, j + 1, d, h, e => by
    unfold RepL at h
    obtain ⟨v, r, rfl, _, h3⟩ := h
    obtain ⟨w, h4, h5⟩ := RepL.get h3 (by simpa using e)
    exact ⟨w, by simpa using h4, h5⟩
theorem RepL.app : ∀ {ds es : List D} {vs ws : List V}, RepL K F H ds vs → RepL K F H es ws → RepL K F H (ds ++ es) (vs ++ ws)
  | [], _, _, _, e, k => by
    unfold RepL at e
    subst e
    exact k
  | d :: ds, _, _, _, e, k => by
    unfold RepL at e
    obtain ⟨v, r, rfl, e2, e3⟩ := e
    show RepL K F H (d :: (ds ++ _)) (v :: (r ++ _))
    unfold RepL
    exact ⟨v, _, rfl, e2, RepL.app e3 k⟩
theorem RepL.one {d : D} {v : V} (h : Rep K F H d v) : RepL K F H [d] [v] := by
  unfold RepL
  exact ⟨v, [], rfl, h, by unfold RepL; rfl⟩
theorem RepL.nil : RepL K F H [] [] := by unfold RepL; rfl
theorem RepL.cons {d : D} {v : V} {ds : List D} {vs : List V} (h : Rep K F H d v) (k : RepL K F H ds vs) : RepL K F H (d :: ds) (v :: vs) := by
  unfold RepL
  exact ⟨v, vs, rfl, h, k⟩
theorem RepL.uncons {d : D} {ds : List D} {vs : List V} (h : RepL K F H (d :: ds) vs) : ∃ v r, vs = v :: r ∧ Rep K F H d v ∧ RepL K F H ds r := by
  unfold RepL at h
  exact h
theorem RepL.unnil {vs : List V} (h : RepL K F H [] vs) : vs = [] := by
  unfold RepL at h
  exact h
theorem RepL.drop : ∀ (n : Nat) {ds : List D} {vs : List V}, RepL K F H ds vs → RepL K F H (ds.drop n) (vs.drop n)
  | 0, _, _, h => h
  | n + 1, [], _, h => by
    rw [h.unnil]
    exact RepL.nil
  | n + 1, d :: ds, _, h => by
    obtain ⟨v, r, rfl, _, h3⟩ := h.uncons
    exact RepL.drop n h3
theorem RepL.take : ∀ (n : Nat) {ds : List D} {vs : List V}, RepL K F H ds vs → RepL K F H (ds.take n) (vs.take n)
  | 0, _, _, h => RepL.nil
  | n + 1, [], _, h => by
    rw [h.unnil]
    exact RepL.nil
  | n + 1, d :: ds, _, h => by
    obtain ⟨v, r, rfl, h2, h3⟩ := h.uncons
    exact RepL.cons h2 (RepL.take n h3)
/-! ### one's own -/
mutual
theorem Own.mono {f : Bool} (h : Le F F') (k : Tk H H') : ∀ {d : D} {v : V} {A : List Addr}, (∀ a ∈ A, H' a = H a) → Own K F H f d v A → Own K F' H' f d v A
  | .lst ds, _, _, s, e => by
    unfold Own at e ⊢
    obtain ⟨a, vs, B, e1, e2, rfl, e4⟩ := e
    exact ⟨a, vs, B, e1, (s a List.mem_cons_self).trans e2, rfl, Kids.mono h k (fun b hb => s b (List.mem_cons_of_mem _ hb)) e4⟩
  | .dT ks ds, _, _, s, e => by
    unfold Own at e ⊢
    obtain ⟨a, vs, B, e1, e2, e5, rfl, e4⟩ := e
    exact ⟨a, vs, B, e1, (s a List.mem_cons_self).trans e2, e5, rfl, Kids.mono h k (fun b hb => s b (List.mem_cons_of_mem _ hb)) e4⟩
  | .dK ks ds, _, _, s, e => by
    unfold Own at e ⊢
    obtain ⟨a, vs, B, e1, e2, e5, rfl, e4⟩ := e
    exact ⟨a, vs, B, e1, (s a List.mem_cons_self).trans e2, e5, rfl, Kids.mono h k (fun b hb => s b (List.mem_cons_of_mem _ hb)) e4⟩
  | .non, _, _, _, e => by unfold Own at e; exact e.elim
  | .bl _, _, _, _, e => by unfold Own at e; exact e.elim
  | .int _, _, _, _, e => by unfold Own at e; exact e.elim
  | .str _, _, _, _, e => by unfold Own at e; exact e.elim
  | .tup _, _, _, _, e => by unfold Own at e; exact e.elim
  | .scr _, _, _, _, e => by unfold Own at e; exact e.elim
theorem Kids.mono {f : Bool} (h : Le F F') (k : Tk H H') : ∀ {ds : List D} {vs : List V} {A : List Addr}, (∀ a ∈ A, H' a = H a) → Kids K F H f ds vs A → Kids K F' H' f ds vs A
  | [], _, _, _, e => e
  | d :: ds, _, _, s, e => by
    unfold Kids at e ⊢
    obtain ⟨v, r, A1, A2, e1, rfl, e3, e4⟩ := e
    refine ⟨v, r, A1, A2, e1, rfl, ?_, Kids.mono h k (fun b hb => s b (List.mem_append_right _ hb)) e4⟩
    rcases e3 with ⟨e5, e6, e7⟩ | e5
    · exact .inl ⟨e5, Rep.mono h k e6, e7⟩
    · exact .inr (Own.mono h k (fun b hb => s b (List.mem_append_left _ hb)) e5)
end
mutual
/-- frozen: it is read in any part that has what it had -/
theorem Own.freeze {f : Bool} (h : Le F F') : ∀ {d : D} {v : V} {A : List Addr}, (∀ a ∈ A, F' a = H a) → Own K F H f d v A → Rep K F' H d v
  | .lst ds, _, _, s, e => by
    unfold Own at e
    unfold Rep
    obtain ⟨a, vs, B, e1, e2, rfl, e4⟩ := e
    exact ⟨a, vs, e1, (s a List.mem_cons_self).trans e2, Kids.freeze h (fun b hb => s b (List.mem_cons_of_mem _ hb)) e4⟩
  | .dT ks ds, _, _, s, e => by
    unfold Own at e
    unfold Rep
    obtain ⟨a, vs, B, e1, e2, e5, rfl, e4⟩ := e
    exact ⟨a, vs, e1, (s a List.mem_cons_self).trans e2, e5, Kids.freeze h (fun b hb => s b (List.mem_cons_of_mem _ hb)) e4⟩
  | .dK ks ds, _, _, s, e => by
    unfold Own at e
    unfold Rep
    obtain ⟨a, vs, B, e1, e2, e5, rfl, e4⟩ := e
    exact ⟨a, vs, e1, (s a List.mem_cons_self).trans e2, e5, Kids.freeze h (fun b hb => s b (List.mem_cons_of_mem _ hb)) e4⟩
  | .non, _, _, _, e => by unfold Own at e; exact e.elim
  | .bl _, _, _, _, e => by unfold Own at e; exact e.elim
  | .int _, _, _, _, e => by unfold Own at e; exact e.elim
  | .str _, _, _, _, e => by unfold Own at e; exact e.elim
  | .tup _, _, _, _, e => by unfold Own at e; exact e.elim
  | .scr _, _, _, _, e => by unfold Own at e; exact e.elim
theorem Kids.freeze {f : Bool} (h : Le F F') : ∀ {ds : List D} {vs : List V} {A : List Addr}, (∀ a ∈ A, F' a = H a) → Kids K F H f ds vs A → RepL K F' H ds vs
  | [], _, _, _, e => by
    unfold Kids at e
    unfold RepL
    exact e.1
  | d :: ds, _, _, s, e => by
    unfold Kids at e
    unfold RepL
    obtain ⟨v, r, A1, A2, e1, rfl, e3, e4⟩ := e
    refine ⟨v, r, e1, ?_, Kids.freeze h (fun b hb => s b (List.mem_append_right _ hb)) e4⟩
    rcases e3 with ⟨e5, e6, e7⟩ | e5
    · exact Rep.mono h (Tk.refl H) e6
    · exact Own.freeze h (fun b hb => s b (List.mem_append_left _ hb)) e5
end
theorem Own.read {f : Bool} {d : D} {v : V} {A : List Addr} (h : Le F H) (e : Own K F H f d v A) : Rep K H H d v := Own.freeze h (fun _ _ => rfl) e
mutual
theorem Own.weak : ∀ {d : D} {v : V} {A : List Addr} {f : Bool}, Own K F H f d v A → Own K F H false d v A
  | .lst ds, _, _, f, e => by
    unfold Own at e ⊢
    obtain ⟨a, vs, B, e1, e2, e3, e4⟩ := e
    exact ⟨a, vs, B, e1, e2, e3, Kids.weak e4⟩
  | .dT ks ds, _, _, f, e => by
    unfold Own at e ⊢
    obtain ⟨a, vs, B, e1, e2, e5, e3, e4⟩ := e
    exact ⟨a, vs, B, e1, e2, e5, e3, Kids.weak e4⟩
  | .dK ks ds, _, _, f, e => by
    unfold Own at e ⊢
    obtain ⟨a, vs, B, e1, e2, e5, e3, e4⟩ := e
    exact ⟨a, vs, B, e1, e2, e5, e3, Kids.weak e4⟩
  | .non, _, _, _, e => by unfold Own at e; exact e.elim
  | .bl _, _, _, _, e => by unfold Own at e; exact e.elim
  | .int _, _, _, _, e => by unfold Own at e; exact e.elim
  | .str _, _, _, _, e => by unfold Own at e; exact e.elim
  | .tup _, _, _, _, e => by unfold Own at e; exact e.elim
  | .scr _, _, _, _, e => by unfold Own at e; exact e.elim
theorem Kids.weak : ∀ {ds : List D} {vs : List V} {A : List Addr} {f : Bool}, Kids K F H f ds vs A → Kids K F H false ds vs A
  | [], _, _, _, e => e
  | d :: ds, _, _, f, e => by
    unfold Kids at e ⊢
    obtain ⟨v, r, A1, A2, e1, e2, e3, e4⟩ := e
    refine ⟨v, r, A1, A2, e1, e2, ?_, Kids.weak e4⟩
    rcases e3 with ⟨e5, e6, e7⟩ | e5
    · exact .inl ⟨e5, e6, fun z => by cases z⟩
    · exact .inr (Own.weak e5)
end
theorem Own.to {d : D} {v : V} {A : List Addr} {f g : Bool} (e : Own K F H f d v A) (h : g = true → f = true) : Own K F H g d v A := by
  cases g with
  | false => exact e.weak
  | true =>
    have := h rfl
    subst this
    exact e
theorem Kids.to {ds : List D} {vs : List V} {A : List Addr} {f g : Bool} (e : Kids K F H f ds vs A) (h : g = true → f = true) : Kids K F H g ds vs A := by
  cases g with
  | false => exact e.weak
  | true =>
    have := h rfl
    subst this
    exact e
/-- no tuple, no frozen thing -/
def Nt : HO → Prop
  | .lst _ => True
  | .dT _ => True
  | .dK _ => True
  | _ => False
mutual
theorem Own.dom {f : Bool} : ∀ {d : D} {v : V} {A : List Addr}, Own K F H f d v A → ∀ a ∈ A, ∃ o, H a = some o ∧ Nt o
  | .lst ds, _, _, e => by
    unfold Own at e
    obtain ⟨a, vs, B, e1, e2, rfl, e4⟩ := e
    intro b hb
    rcases List.mem_cons.mp hb with rfl | hb
    · exact ⟨_, e2, trivial⟩
    · exact Kids.dom e4 b hb
  | .dT ks ds, _, _, e => by
    unfold Own at e
    obtain ⟨a, vs, B, e1, e2, e5, rfl, e4⟩ := e
    intro b hb
    rcases List.mem_cons.mp hb with rfl | hb
    · exact ⟨_, e2, trivial⟩
    · exact Kids.dom e4 b hb
  | .dK ks ds, _, _, e => by
    unfold Own at e
    obtain ⟨a, vs, B, e1, e2, e5, rfl, e4⟩ := e
    intro b hb
    rcases List.mem_cons.mp hb with rfl | hb
    · exact ⟨_, e2, trivial⟩
    · exact Kids.dom e4 b hb
  | .non, _, _, e => by unfold Own at e; exact e.elim
  | .bl _, _, _, e => by unfold Own at e; exact e.elim
  | .int _, _, _, e => by unfold Own at e; exact e.elim
  | .str _, _, _, e => by unfold Own at e; exact e.elim
  | .tup _, _, _, e => by unfold Own at e; exact e.elim
  | .scr _, _, _, e => by unfold Own at e; exact e.elim
theorem Kids.dom {f : Bool} : ∀ {ds : List D} {vs : List V} {A : List Addr}, Kids K F H f ds vs A → ∀ a ∈ A, ∃ o, H a = some o ∧ Nt o
  | [], _, _, e => by
    unfold Kids at e
    obtain ⟨_, rfl⟩ := e
    intro b hb
    cases hb
  | d :: ds, _, _, e => by
    unfold Kids at e
    obtain ⟨v, r, A1, A2, e1, rfl, e3, e4⟩ := e
    intro b hb
    rcases List.mem_append.mp hb with hb | hb
    · rcases e3 with ⟨rfl, _⟩ | e3
      · cases hb
      · exact Own.dom e3 b hb
    · exact Kids.dom e4 b hb
end
theorem Kids.app {f : Bool} : ∀ {ds es : List D} {vs ws : List V} {A B : List Addr}, Kids K F H f ds vs A → Kids K F H f es ws B → Kids K F H f (ds ++ es) (vs ++ ws) (A ++ B)
  | [], _, _, _, _, _, e, k => by
    unfold Kids at e
    obtain ⟨rfl, rfl⟩ := e
    exact k
  | d :: ds, es, _, ws, _, B, e, k => by
    unfold Kids at e
    obtain ⟨v, r, A1, A2, rfl, rfl, e3, e4⟩ := e
    show Kids K F H f (d :: (ds ++ es)) (v :: (r ++ ws)) (A1 ++ A2 ++ B)
    unfold Kids
    exact ⟨v, r ++ ws, A1, A2 ++ B, rfl, List.append_assoc _ _ _, e3, Kids.app e4 k⟩
theorem Kids.nil {f : Bool} : Kids K F H f [] [] [] := by
  unfold Kids
  exact ⟨rfl, rfl⟩
theorem Kids.cons {f : Bool} {d : D} {v : V} {ds : List D} {vs : List V} {A B : List Addr} (h : (A = [] ∧ Rep K F H d v ∧ (f = true → imm d = true)) ∨ Own K F H f d v A) (k : Kids K F H f ds vs B) : Kids K F H f (d :: ds) (v :: vs) (A ++ B) := by
  unfold Kids
  exact ⟨v, vs, A, B, rfl, rfl, h, k⟩
theorem Kids.uncons {f : Bool} {d : D} {ds : List D} {vs : List V} {A : List Addr} (h : Kids K F H f (d :: ds) vs A) : ∃ v r A1 A2, vs = v :: r ∧ A = A1 ++ A2 ∧ ((A1 = [] ∧ Rep K F H d v ∧ (f = true → imm d = true)) ∨ Own K F H f d v A1) ∧ Kids K F H f ds r A2 := by
  unfold Kids at h
  exact h
theorem Kids.unnil {f : Bool} {vs : List V} {A : List Addr} (h : Kids K F H f [] vs A) : vs = [] ∧ A = [] := by
  unfold Kids at h
  exact h
theorem Kids.len {f : Bool} : ∀ {ds : List D} {vs : List V} {A : List Addr}, Kids K F H f ds vs A → ds.length = vs.length
  | [], _, _, h => by
    rw [h.unnil.1]
    rfl
  | d :: ds, _, _, h => by
    obtain ⟨v, r, A1, A2, rfl, _, _, h4⟩ := h.uncons
    simp [Kids.len h4]
/-- items that never change -/
theorem Kids.ofRep {f : Bool} : ∀ {ds : List D} {vs : List V}, RepL K F H ds vs → (f = true → immL ds = true) → Kids K F H f ds vs []
  | [], _, h, _ => by
    rw [h.unnil]
    exact Kids.nil
  | d :: ds, _, h, i => by
    obtain ⟨v, r, rfl, h2, h3⟩ := h.uncons
    refine Kids.cons (A := []) (.inl ⟨rfl, h2, fun z => ?_⟩) (Kids.ofRep h3 fun z => ?_)
    · have := i z
      unfold immL at this
      exact (Bool.and_eq_true_iff.mp this).1
    · have := i z
      unfold immL at this
      exact (Bool.and_eq_true_iff.mp this).2
/-- the items at places: taken out of the middle -/
theorem Kids.split {f : Bool} : ∀ {ds es : List D} {vs : List V} {A : List Addr}, Kids K F H f (ds ++ es) vs A → ∃ v1 v2 A1 A2, vs = v1 ++ v2 ∧ A = A1 ++ A2 ∧ Kids K F H f ds v1 A1 ∧ Kids K F H f es v2 A2
  | [], es, vs, A, h => ⟨[], vs, [], A, rfl, rfl, Kids.nil, h⟩
  | d :: ds, es, vs, A, h => by
    obtain ⟨v, r, A1, A2, rfl, rfl, h3, h4⟩ := Kids.uncons (ds := ds ++ es) h
    obtain ⟨v1, v2, B1, B2, rfl, rfl, h5, h6⟩ := Kids.split h4
    exact ⟨v :: v1, v2, A1 ++ B1, B2, rfl, by simp, Kids.cons h3 h5, h6⟩
theorem RepL.split : ∀ {ds es : List D} {vs : List V}, RepL K F H (ds ++ es) vs → ∃ v1 v2, vs = v1 ++ v2 ∧ RepL K F H ds v1 ∧ RepL K F H es v2
  | [], es, vs, h => ⟨[], vs, rfl, RepL.nil, h⟩
  | d :: ds, es, vs, h => by
    obtain ⟨v, r, rfl, h3, h4⟩ := RepL.uncons (ds := ds ++ es) h
    obtain ⟨v1, v2, rfl, h5, h6⟩ := RepL.split h4
    exact ⟨v :: v1, v2, rfl, RepL.cons h3 h5, h6⟩
end
end Rg

/-! Rg3: the slots as data stand for the slots as values (SR); a step (Step); a value on its way (VR). -/
namespace Rg
open PySem L2

def SlotR (K : PySem.W.Frag) (F H : Hp) (v0 : V) : Slot → Option V → List Addr → Prop
  | .un, _, A => A = []
  | .fz d, o, A => A = [] ∧ ∃ v, o = some v ∧ Rep K F H d v
  | .ow f d, o, A => ∃ v, o = some v ∧ Own K F H f d v A
  | .lk f d, o, A => A = [] ∧ o = some v0
/-- the slots from the n-th on; L tells what a locked one holds -/
def SlotsR (K : PySem.W.Frag) (F H : Hp) (L : Nat → V) : Nat → Sts → St → List Addr → Prop
  | _, [], σ, A => σ = [] ∧ A = []
  | n, s :: τ, σ, A => ∃ o r A1 A2, σ = o :: r ∧ A = A1 ++ A2 ∧ SlotR K F H (L n) s o A1 ∧ SlotsR K F H L (n + 1) τ r A2
def Sl (K : PySem.W.Frag) (F H : Hp) (τ : Sts) (σ : St) (A : List Addr) (L : Nat → V) : Prop := ∃ A0, SlotsR K F H L 0 τ σ A0 ∧ A0.Perm A
structure SR (K : PySem.W.Frag) (τ : Sts) (σ : St) (F H : Hp) (A : List Addr) (L : Nat → V) : Prop where
  le : Le F H
  slots : Sl K F H τ σ A L
  nd : A.Nodup
  off : ∀ a ∈ A, F a = none
structure Step (F H : Hp) (A : List Addr) (F' H' : Hp) (A' : List Addr) : Prop where
  mono : Le F F'
  fresh : ∀ a, F' a ≠ none → F a ≠ none ∨ H a = none ∨ a ∈ A
  frame : ∀ a o, H a = some o → a ∉ A → H' a = some o
  own : ∀ a ∈ A', a ∈ A ∨ H a = none
  dom : ∀ a, H' a = none → H a = none
  tk : Tk H H'
section
variable {K : PySem.W.Frag} {F F' F1 F2 H H' H1 H2 : Hp} {A A' A1 A2 : List Addr} {L : Nat → V} {τ : Sts} {σ : St}
theorem Step.refl (F H : Hp) (A : List Addr) : Step F H A F H A := ⟨Le.refl F, fun _ h => .inl h, fun _ _ h _ => h, fun _ h => .inl h, fun _ h => h, Tk.refl H⟩
theorem Step.trans (s : Step F H A F1 H1 A1) (t : Step F1 H1 A1 F2 H2 A2) : Step F H A F2 H2 A2 where
  mono := s.mono.trans t.mono
  fresh := fun a h => by
    rcases t.fresh a h with h | h | h
    · exact s.fresh a h
    · exact .inr (.inl (s.dom a h))
    · rcases s.own a h with h | h
      · exact .inr (.inr h)
      · exact .inr (.inl h)
  frame := fun a o h n => t.frame a o (s.frame a o h n) fun z => by
    rcases s.own a z with z | z
    · exact n z
    · rw [h] at z; cases z
  own := fun a h => by
    rcases t.own a h with h | h
    · exact s.own a h
    · exact .inr (s.dom a h)
  dom := fun a h => s.dom a (t.dom a h)
  tk := s.tk.trans t.tk
/-- a new object is laid -/
theorem upd_tk {p : Addr} {o : HO} (h : H p = none) : Tk H (upd H p o) := fun a xs e => by
  rw [upd_ne (ne_of_none e h)]
  exact e
theorem upd_le {p : Addr} {o : HO} (h : H p = none) : Le H (upd H p o) := fun a u e => by
  rw [upd_ne (ne_of_none e h)]
  exact e
theorem upd_dom {p a : Addr} {o : HO} (h : upd H p o a = none) : H a = none := by
  by_cases e : a = p
  · subst e
    rw [upd_same] at h
    cases h
  · rw [upd_ne e] at h
    exact h
theorem Step.laid {p : Addr} {o : HO} (h : H p = none) : Step F H A F (upd H p o) A :=
  ⟨Le.refl F, fun _ h => .inl h, fun a u e _ => upd_le h a u e, fun _ h => .inl h, fun _ e => upd_dom e, upd_tk h⟩

theorem SlotR.mono {s : Slot} {o : Option V} {v0 : V} {A : List Addr} (h : Le F F') (k : Tk H H') (e : ∀ a ∈ A, H' a = H a) (r : SlotR K F H v0 s o A) : SlotR K F' H' v0 s o A := by
  cases s with
  | un => exact r
  | fz d =>
    obtain ⟨r1, v, r3, r4⟩ := r
    exact ⟨r1, v, r3, r4.mono h k⟩
  | ow f d =>
    obtain ⟨v, r2, r3⟩ := r
    exact ⟨v, r2, r3.mono h k e⟩
  | lk f d => exact r
theorem SlotR.dom {s : Slot} {o : Option V} {v0 : V} {A : List Addr} (r : SlotR K F H v0 s o A) : ∀ a ∈ A, ∃ u, H a = some u ∧ Nt u := by
  intro a ha
  cases s with
  | un =>
    cases (show A = [] from r)
    cases ha
  | fz d =>
    obtain ⟨rfl, _⟩ := r
    cases ha
  | ow f d =>
    obtain ⟨v, r2, r3⟩ := r
    exact r3.dom a ha
  | lk f d =>
    obtain ⟨rfl, _⟩ := r
    cases ha
theorem SlotsR.mono (h : Le F F') (k : Tk H H') : ∀ {n : Nat} {τ : Sts} {σ : St} {A : List Addr}, (∀ a ∈ A, H' a = H a) → SlotsR K F H L n τ σ A → SlotsR K F' H' L n τ σ A
  | _, [], _, _, _, r => r
  | n, s :: τ, _, _, e, r => by
    obtain ⟨o, q, A1, A2, rfl, rfl, r4, r5⟩ := r
    exact ⟨o, q, A1, A2, rfl, rfl, r4.mono h k fun a ha => e a (List.mem_append_left _ ha), SlotsR.mono h k (fun a ha => e a (List.mem_append_right _ ha)) r5⟩
theorem SlotsR.dom : ∀ {n : Nat} {τ : Sts} {σ : St} {A : List Addr}, SlotsR K F H L n τ σ A → ∀ a ∈ A, ∃ u, H a = some u ∧ Nt u
  | _, [], _, _, r => by
    obtain ⟨rfl, rfl⟩ := r
    intro a ha
    cases ha
  | n, s :: τ, _, _, r => by
    obtain ⟨o, q, A1, A2, rfl, rfl, r4, r5⟩ := r
    intro a ha
    rcases List.mem_append.mp ha with ha | ha
    · exact r4.dom a ha
    · exact SlotsR.dom r5 a ha
theorem SlotsR.len : ∀ {n : Nat} {τ : Sts} {σ : St} {A : List Addr}, SlotsR K F H L n τ σ A → τ.length = σ.length
  | _, [], _, _, r => by
    obtain ⟨rfl, _⟩ := r
    rfl
  | n, s :: τ, _, _, r => by
    obtain ⟨o, q, A1, A2, rfl, rfl, r4, r5⟩ := r
    simp [SlotsR.len r5]
/-- one slot out of all; what the others' locks hold is asked no more of it -/
theorem SlotsR.at : ∀ {n : Nat} {τ : Sts} {σ : St} {A : List Addr} {i : Nat} {s : Slot}, SlotsR K F H L n τ σ A → τ[i]? = some s →
    ∃ o P A1 Q, σ[i]? = some o ∧ A = P ++ A1 ++ Q ∧ SlotR K F H (L (n + i)) s o A1 ∧
      ∀ (M : Nat → V) s' o' A1', (∀ j, j ≠ n + i → M j = L j) → SlotR K F H (M (n + i)) s' o' A1' → SlotsR K F H M n (τ.set i s') (σ.set i o') (P ++ A1' ++ Q)
  | _, [], _, _, _, _, _, e => by simp at e
  | n, s :: τ, _, _, 0, s0, r, e => by
    obtain ⟨o, q, A1, A2, rfl, rfl, r4, r5⟩ := r
    simp at e
    subst e
    refine ⟨o, [], A1, A2, rfl, rfl, r4, fun M s' o' A1' hM h => ⟨o', q, A1', A2, rfl, rfl, h, ?_⟩⟩
    have : ∀ (k : Nat) (τ : Sts) (σ : St) (A : List Addr), n < k → SlotsR K F H L k τ σ A → SlotsR K F H M k τ σ A := by
      intro k τ
      induction τ generalizing k with
      | nil => intro σ A _ r; exact r
      | cons s τ ih =>
        intro σ A hk r
        obtain ⟨o, q, A1, A2, rfl, rfl, r4, r5⟩ := r
        refine ⟨o, q, A1, A2, rfl, rfl, ?_, ih _ _ _ (by omega) r5⟩
        rw [hM k (by omega)]
        exact r4
    exact this _ _ _ _ (by omega) r5
  | n, s :: τ, _, _, i + 1, s0, r, e => by
    obtain ⟨o, q, A1, A2, rfl, rfl, r4, r5⟩ := r
    obtain ⟨o2, P, B1, Q, h1, h2, h4, h5⟩ := SlotsR.at (i := i) r5 (by simpa using e)
    have en : n + 1 + i = n + (i + 1) := by omega
    rw [en] at h4 h5
    refine ⟨o2, A1 ++ P, B1, Q, by simpa using h1, by rw [h2]; simp, h4, fun M s' o' A1' hM h => ?_⟩
    refine ⟨o, q.set i o', A1, P ++ A1' ++ Q, rfl, by simp, ?_, h5 M s' o' A1' hM h⟩
    rw [hM n (by omega)]
    exact r4
theorem Sl.mono (h : Le F F') (k : Tk H H') (e : ∀ a ∈ A, H' a = H a) (r : Sl K F H τ σ A L) : Sl K F' H' τ σ A L := by
  obtain ⟨A0, r, pa⟩ := r
  exact ⟨A0, r.mono h k fun a ha => e a (pa.mem_iff.mp ha), pa⟩
theorem Sl.dom (r : Sl K F H τ σ A L) : ∀ a ∈ A, ∃ u, H a = some u ∧ Nt u := by
  obtain ⟨A0, r, pa⟩ := r
  exact fun a ha => r.dom a (pa.mem_iff.mpr ha)
theorem Sl.len (r : Sl K F H τ σ A L) : τ.length = σ.length := by
  obtain ⟨A0, r, pa⟩ := r
  exact r.len
theorem Sl.perm {B : List Addr} (r : Sl K F H τ σ A L) (pa : A.Perm B) : Sl K F H τ σ B L := by
  obtain ⟨A0, r, qa⟩ := r
  exact ⟨A0, r, qa.trans pa⟩
theorem set_back {α : Type} {xs : List α} {i : Nat} {x : α} (h : xs[i]? = some x) : xs.set i x = xs := by
  obtain ⟨hi, e⟩ := List.getElem?_eq_some_iff.mp h
  rw [← e]
  exact List.set_getElem_self hi
/-- one slot is looked at -/
theorem Sl.at {i : Nat} {s : Slot} (r : Sl K F H τ σ A L) (e : τ[i]? = some s) : ∃ o A1, σ[i]? = some o ∧ SlotR K F H (L i) s o A1 ∧ ∀ a ∈ A1, a ∈ A := by
  obtain ⟨A0, r, pa⟩ := r
  obtain ⟨o, P, A1, Q, h1, h2, h4, _⟩ := r.at e
  rw [Nat.zero_add] at h4
  refine ⟨o, A1, h1, h4, fun a ha => pa.mem_iff.mp ?_⟩
  rw [h2]
  exact List.mem_append_left _ (List.mem_append_right _ ha)
theorem perm_mid {α : Type} (P A Q : List α) : (P ++ A ++ Q).Perm (A ++ (P ++ Q)) := by
  rw [← List.append_assoc]
  exact (List.perm_append_comm (l₁ := P) (l₂ := A)).append_right Q
/-- one slot is emptied, or locked -/
theorem Sl.out {i : Nat} {s : Slot} (r : Sl K F H τ σ A L) (e : τ[i]? = some s) : ∃ o A1 Ar, σ[i]? = some o ∧ SlotR K F H (L i) s o A1 ∧ A.Perm (A1 ++ Ar) ∧
    ∀ (M : Nat → V) s', (∀ j, j ≠ i → M j = L j) → SlotR K F H (M i) s' o [] → Sl K F H (τ.set i s') σ Ar M := by
  obtain ⟨A0, r, pa⟩ := r
  obtain ⟨o, P, A1, Q, h1, rfl, h4, h5⟩ := r.at e
  rw [Nat.zero_add] at h4 h5
  refine ⟨o, A1, P ++ Q, h1, h4, pa.symm.trans (perm_mid _ _ _), fun M s' hM hs => ?_⟩
  have h6 := h5 M s' o [] hM hs
  rw [set_back h1] at h6
  exact ⟨_, h6, by simp⟩
/-- a slot that owns nothing is filled -/
theorem Sl.into {i : Nat} {s s0 : Slot} {o : Option V} {A1 : List Addr} {M : Nat → V} (r : Sl K F H τ σ A L) (e : τ[i]? = some s0) (he : ∀ f d, s0 ≠ .ow f d) (hM : ∀ j, j ≠ i → M j = L j) (h : SlotR K F H (M i) s o A1) : Sl K F H (τ.set i s) (σ.set i o) (A1 ++ A) M := by
  obtain ⟨A0, r, pa⟩ := r
  obtain ⟨o2, P, A2, Q, h1, rfl, h4, h5⟩ := r.at e
  rw [Nat.zero_add] at h4 h5
  have : A2 = [] := by
    cases s0 with
    | un => exact h4
    | fz d => exact h4.1
    | ow f d => exact (he f d rfl).elim
    | lk f d => exact h4.1
  subst this
  refine ⟨_, h5 M s o A1 hM h, (perm_mid _ _ _).trans ?_⟩
  refine List.Perm.append_left _ ?_
  simpa using pa
theorem SR.step (r : SR K τ σ F H A L) {o : HO} {p : Addr} (h : H p = none) : SR K τ σ F (upd H p o) A L :=
  ⟨r.le.trans (upd_le h), r.slots.mono (Le.refl F) (upd_tk h) (fun a ha => by
    obtain ⟨u, e, _⟩ := r.slots.dom a ha
    rw [upd_ne (ne_of_none e h)]), r.nd, r.off⟩
/-- any step that leaves the slots' own things -/
theorem SR.keep (r : SR K τ σ F H A L) (h : Le F F') (le : Le F' H') (k : Tk H H') (s : ∀ a ∈ A, H' a = H a) (o : ∀ a ∈ A, F' a = none) : SR K τ σ F' H' A L :=
  ⟨le, r.slots.mono h k s, r.nd, o⟩

def VR (K : PySem.W.Frag) (σ : St) (F H : Hp) : Val → V → List Addr → Prop
  | .fz d, v, B => B = [] ∧ Rep K F H d v
  | .own f d, v, B => Own K F H f d v B
  | .slot i, v, B => B = [] ∧ σ[i]? = some (some v)
/-- addresses of one's own beside those of the slots -/
structure Ap (F : Hp) (A B : List Addr) : Prop where
  nd : B.Nodup
  a : ∀ b ∈ B, b ∉ A
  off : ∀ b ∈ B, F b = none
structure Post (K : PySem.W.Frag) (σ : St) (L : Nat → V) (F H : Hp) (A : List Addr) (τ' : Sts) (F' H' : Hp) (A' : List Addr) (r : Val) (v : V) (B : List Addr) : Prop where
  st : Step F H A F' H' A'
  sr : SR K τ' σ F' H' A' L
  vr : VR K σ F' H' r v B
  ap : Ap F' A' B
  bn : ∀ b ∈ B, b ∈ A ∨ H b = none
theorem Ap.nil : Ap F A [] := ⟨List.nodup_nil, fun _ h => (List.not_mem_nil h).elim, fun _ h => (List.not_mem_nil h).elim⟩
theorem VR.dom {r : Val} {v : V} {B : List Addr} (h : VR K σ F H r v B) : ∀ b ∈ B, ∃ o, H b = some o ∧ Nt o := by
  cases r with
  | fz d =>
    obtain ⟨rfl, _⟩ := h
    intro b hb
    cases hb
  | own f d => exact Own.dom h
  | slot i =>
    obtain ⟨rfl, _⟩ := h
    intro b hb
    cases hb
/-- a value on its way is kept by a step -/
theorem VR.step {r : Val} {v : V} {B : List Addr} (h : VR K σ F H r v B) (ap : Ap F A B) (s : Step F H A F' H' A') : VR K σ F' H' r v B ∧ Ap F' A' B := by
  have same : ∀ b ∈ B, H' b = H b := fun b hb => by
    obtain ⟨o, e, _⟩ := h.dom b hb
    rw [e]
    exact s.frame b o e (ap.a b hb)
  constructor
  · cases r with
    | fz d => exact ⟨h.1, h.2.mono s.mono s.tk⟩
    | own f d => exact Own.mono s.mono s.tk same h
    | slot i => exact h
  · refine ⟨ap.nd, fun b hb z => ?_, fun b hb => ?_⟩
    · rcases s.own b z with z | z
      · exact ap.a b hb z
      · obtain ⟨o, e, _⟩ := h.dom b hb
        rw [e] at z
        cases z
    · cases q : F' b with
      | none => rfl
      | some o =>
        obtain ⟨u, e, _⟩ := h.dom b hb
        rcases s.fresh b (by rw [q]; intro z; cases z) with z | z | z
        · exact (z (ap.off b hb)).elim
        · rw [e] at z
          cases z
        · exact (ap.a b hb z).elim
theorem SlotR.rep {s : Slot} {v v0 : V} {d : D} {A : List Addr} (h : SlotR K F H v0 s (some v) A) (le : Le F H) (e : slotD s = some d) : Rep K H H d v := by
  cases s with
  | un => cases e
  | fz d => cases e
  | ow f d0 =>
    cases e
    obtain ⟨w, q, r⟩ := h
    cases q
    exact r.read le
  | lk f d0 => cases e
/-- what a value holds, as it is read now -/
theorem VR.read {r : Val} {v : V} {B : List Addr} {d : D} (h : VR K σ F H r v B) (s : SR K τ σ F H A L) (e : dat τ r = some d) : Rep K H H d v := by
  cases r with
  | fz d0 =>
    cases e
    exact h.2.mono s.le (Tk.refl H)
  | own f d0 =>
    cases e
    exact Own.read s.le h
  | slot i =>
    have e0 : (τ[i]?).bind slotD = some d := e
    cases q : τ[i]? with
    | none =>
      rw [q] at e0
      cases e0
    | some sl =>
      have e2 : slotD sl = some d := by
        rw [q] at e0
        exact e0
      obtain ⟨o, A1, h1, h4, _⟩ := s.slots.at q
      have : o = some v := Option.some.inj (h1.symm.trans h.2)
      subst this
      exact h4.rep s.le e2
/-! ### several values -/
def VRL (K : PySem.W.Frag) (σ : St) (F H : Hp) : List Val → List V → List Addr → Prop
  | [], vs, B => vs = [] ∧ B = []
  | r :: rs, vs, B => ∃ v w B1 B2, vs = v :: w ∧ B = B1 ++ B2 ∧ VR K σ F H r v B1 ∧ VRL K σ F H rs w B2
theorem VRL.reads {rs : List Val} : ∀ {vs : List V} {B : List Addr} {ds : List D}, VRL K σ F H rs vs B → SR K τ σ F H A L → dats τ rs = some ds → RepL K H H ds vs := by
  induction rs with
  | nil =>
    intro vs B ds h s e
    obtain ⟨rfl, _⟩ := h
    cases e
    exact RepL.nil
  | cons r rs ih =>
    intro vs B ds h s e
    obtain ⟨v, w, B1, B2, rfl, rfl, h1, h2⟩ := h
    unfold dats at e
    cases q : dat τ r with
    | none => rw [q] at e; cases e
    | some d =>
      rw [q] at e
      cases q2 : dats τ rs with
      | none => rw [q2] at e; cases e
      | some ds2 =>
        rw [q2] at e
        cases e
        exact RepL.cons (h1.read s q) (ih h2 s q2)
theorem VRL.dom : ∀ {rs : List Val} {vs : List V} {B : List Addr}, VRL K σ F H rs vs B → ∀ b ∈ B, ∃ o, H b = some o ∧ Nt o
  | [], _, _, h => by
    obtain ⟨_, rfl⟩ := h
    intro b hb
    cases hb
  | r :: rs, _, _, h => by
    obtain ⟨v, w, B1, B2, rfl, rfl, h1, h2⟩ := h
    intro b hb
    rcases List.mem_append.mp hb with hb | hb
    · exact h1.dom b hb
    · exact VRL.dom h2 b hb
theorem Ap.app {B C : List Addr} (h : Ap F A B) (k : Ap F A C) (d : ∀ b ∈ B, b ∉ C) : Ap F A (B ++ C) :=
  ⟨List.nodup_append.mpr ⟨h.nd, k.nd, fun a ha b hb e => d a ha (e ▸ hb)⟩, fun b hb => (List.mem_append.mp hb).elim (h.a b) (k.a b), fun b hb => (List.mem_append.mp hb).elim (h.off b) (k.off b)⟩
theorem Ap.left {B C : List Addr} (h : Ap F A (B ++ C)) : Ap F A B := ⟨(List.nodup_append.mp h.nd).1, fun b hb => h.a b (List.mem_append_left _ hb), fun b hb => h.off b (List.mem_append_left _ hb)⟩
theorem Ap.right {B C : List Addr} (h : Ap F A (B ++ C)) : Ap F A C := ⟨(List.nodup_append.mp h.nd).2.1, fun b hb => h.a b (List.mem_append_right _ hb), fun b hb => h.off b (List.mem_append_right _ hb)⟩
structure PostL (K : PySem.W.Frag) (σ : St) (L : Nat → V) (F H : Hp) (A : List Addr) (τ' : Sts) (F' H' : Hp) (A' : List Addr) (rs : List Val) (vs : List V) (B : List Addr) : Prop where
  st : Step F H A F' H' A'
  sr : SR K τ' σ F' H' A' L
  vr : VRL K σ F' H' rs vs B
  ap : Ap F' A' B
  bn : ∀ b ∈ B, b ∈ A ∨ H b = none
theorem PostL.nil (r : SR K τ σ F H A L) : PostL K σ L F H A τ F H A [] [] [] := ⟨Step.refl F H A, r, ⟨rfl, rfl⟩, Ap.nil, fun _ h => (List.not_mem_nil h).elim⟩
/-- one value, then the others -/
theorem PostL.cons {τ1 τ2 : Sts} {r : Val} {v : V} {rs : List Val} {vs : List V} {B1 B2 : List Addr} (h : Post K σ L F H A τ1 F1 H1 A1 r v B1) (k : PostL K σ L F1 H1 A1 τ2 F2 H2 A2 rs vs B2) : PostL K σ L F H A τ2 F2 H2 A2 (r :: rs) (v :: vs) (B1 ++ B2) := by
  obtain ⟨v1, ap1⟩ := h.vr.step h.ap k.st
  have dj : ∀ b ∈ B1, b ∉ B2 := fun b hb z => by
    obtain ⟨o, e, _⟩ := h.vr.dom b hb
    rcases k.bn b z with z | z
    · exact h.ap.a b hb z
    · rw [e] at z
      cases z
  refine ⟨h.st.trans k.st, k.sr, ⟨v, vs, B1, B2, rfl, rfl, v1, k.vr⟩, ap1.app k.ap dj, fun b hb => ?_⟩
  rcases List.mem_append.mp hb with hb | hb
  · exact h.bn b hb
  · rcases k.bn b hb with z | z
    · exact h.st.own b z
    · exact .inr (h.st.dom b z)
end
end Rg

/-! Rg4: readings by runs over data (DE, DA); expressions. -/
namespace Rg
open PySem L2

/-- what is wanted of an exception of the text's own -/
def XW (K : PySem.W.Frag) (mg : Str → Option Value) (W : WX) (c : String) (fs : List (Str × D)) (σ : St) (H : Hp) : Prop := ∃ C, mg (Str.ofString c) = some (.ref C) ∧ match fs with
  | [] => W (.ref C) none σ H
  | [(f, d)] => ∀ a v, H a = some (.xd [(f, v)]) → Rep K H H d v → W (.ref C) (some a) σ H
  | _ => False
section
variable (K : PySem.W.Frag) (mg : Str → Option Value) (W : WX) (Γ : Env1)
def DE (m : E) : TE := fun σ H Q => ∃ τ F A L, SR K τ σ F H A L ∧ match ev Γ m τ with
  | .ok r => ∀ v F' H' A' B, Post K σ L F H A r.2 F' H' A' r.1 v B → Q v H'
  | .exc c fs => ∀ F' H' A', Step F H A F' H' A' → XW K mg W c fs σ H'
  | .stuck => False
def DA (m : E) : TA := fun σ H Q => ∃ τ F A L, SR K τ σ F H A L ∧ match evs Γ m τ with
  | .ok r => ∀ vs F' H' A' B, PostL K σ L F H A r.2 F' H' A' r.1 vs B → Q vs H'
  | .exc c fs => ∀ F' H' A', Step F H A F' H' A' → XW K mg W c fs σ H'
  | .stuck => False
def DT (m : E) : TT := fun σ H Q => ∃ τ F A L, SR K τ σ F H A L ∧ match ev Γ m τ >>= fun r => R.of (boolOf r.2 r.1) >>= fun k => R.ok (k, r.2) with
  | .ok r => ∀ F' H' A', Step F H A F' H' A' → SR K r.2 σ F' H' A' L → Q r.1 H'
  | .exc c fs => ∀ F' H' A', Step F H A F' H' A' → XW K mg W c fs σ H'
  | .stuck => False
end
theorem PE.imp {X : Cx} {e : Expr} {t t' : TE} (h : PE X e t) (k : ∀ σ H Q, t' σ H Q → t σ H Q) : PE X e t' := ⟨fun pins s σ H Q I q => h.run pins s σ H Q I (k σ H Q q)⟩
theorem PT.imp {X : Cx} {e : Expr} {t t' : TT} (h : PT X e t) (k : ∀ σ H Q, t' σ H Q → t σ H Q) : PT X e t' := ⟨fun pins s σ H Q I q => h.run pins s σ H Q I (k σ H Q q)⟩
theorem PA.imp {X : Cx} {e : List Expr} {t t' : TA} (h : PA X e t) (k : ∀ σ H Q, t' σ H Q → t σ H Q) : PA X e t' := ⟨fun pos pins s σ H Q I q => h.run pos pins s σ H Q I (k σ H Q q)⟩
section
variable {K : PySem.W.Frag} {mg : Str → Option Value} {W : WX} {Γ : Env1} {σ : St} {H : Hp}
theorem Post.fz {τ : Sts} {F : Hp} {A : List Addr} {L : Nat → V} {d : D} {v : V} (r : SR K τ σ F H A L) (h : Rep K F H d v) : Post K σ L F H A τ F H A (.fz d) v [] :=
  ⟨Step.refl F H A, r, ⟨rfl, h⟩, Ap.nil, fun _ h => (List.not_mem_nil h).elim⟩
theorem Post.fzImm {τ : Sts} {F : Hp} {A : List Addr} {L : Nat → V} {d : D} {v : V} (r : SR K τ σ F H A L) (h : ∀ F' H', Rep K F' H' d v) : Post K σ L F H A τ F H A (.fz d) v [] := Post.fz r (h F H)
/-- args: a first one and the rest -/
theorem da_split {a r : E} {Q : List V → Hp → Prop} (h : DA K mg W Γ (.cons a r) σ H Q) : DE K mg W Γ a σ H fun v H1 => DA K mg W Γ r σ H1 fun vs H2 => Q (v :: vs) H2 := by
  obtain ⟨τ, F, A, L, sr, h⟩ := h
  refine ⟨τ, F, A, L, sr, ?_⟩
  simp only [evs] at h
  cases e : ev Γ a τ with
  | stuck => rw [e] at h; exact h
  | exc c fs => rw [e] at h; exact h
  | ok x =>
    rw [e] at h
    simp only [R.bind_ok] at h ⊢
    intro v F1 H1 A1 B1 p1
    refine ⟨x.2, F1, A1, L, p1.sr, ?_⟩
    cases e2 : evs Γ r x.2 with
    | stuck => rw [e2] at h; exact h
    | exc c fs =>
      rw [e2] at h
      exact fun F' H' A' s => h F' H' A' (p1.st.trans s)
    | ok y =>
      rw [e2] at h
      simp only [R.bind_ok] at h ⊢
      intro vs F2 H2 A2 B2 p2
      exact h _ F2 H2 A2 _ (PostL.cons p1 p2)
theorem da_nil {Q : List V → Hp → Prop} (h : DA K mg W Γ .nil σ H Q) : Q [] H := by
  obtain ⟨τ, F, A, L, sr, h⟩ := h
  simp only [evs] at h
  exact h [] F H A [] (PostL.nil sr)
theorem da_one {a : E} {Q : List V → Hp → Prop} (h : DA K mg W Γ (.cons a .nil) σ H Q) : DE K mg W Γ a σ H fun v H1 => Q [v] H1 := by
  have h1 := da_split h
  obtain ⟨τ, F, A, L, sr, h⟩ := h1
  refine ⟨τ, F, A, L, sr, ?_⟩
  cases e : ev Γ a τ with
  | stuck => rw [e] at h; exact h
  | exc c fs => rw [e] at h; exact h
  | ok x =>
    rw [e] at h
    exact fun v F' H' A' B p => da_nil (h v F' H' A' B p)
theorem de_mono {a : E} {Q Q' : VK} (h : DE K mg W Γ a σ H Q) (k : ∀ v H', Q v H' → Q' v H') : DE K mg W Γ a σ H Q' := by
  obtain ⟨τ, F, A, L, sr, h⟩ := h
  refine ⟨τ, F, A, L, sr, ?_⟩
  cases e : ev Γ a τ with
  | stuck => rw [e] at h; exact h
  | exc c fs => rw [e] at h; exact h
  | ok x =>
    rw [e] at h
    exact fun v F' H' A' B p => k _ _ (h v F' H' A' B p)
theorem da_two {a b : E} {Q : List V → Hp → Prop} (h : DA K mg W Γ (.cons a (.cons b .nil)) σ H Q) : DE K mg W Γ a σ H fun v H1 => DE K mg W Γ b σ H1 fun w H2 => Q [v, w] H2 :=
  de_mono (da_split h) fun v H1 q => da_one q
/-! ### operations -/
/-- a rule by values that is right over data -/
def PrimOk (K : PySem.W.Frag) (p : Prim) (r : List V → Hp → VK → Prop) : Prop := ∀ (ds : List D) (res : Res) (vs : List V) (H G : Hp) (Q : VK), Le G H → RepL K G H ds vs → primD p ds = some res →
  (match res with
    | .old d => ∀ v, Rep K G H d v → Q v H
    | .nt es => ∀ v H', (H' = H ∨ ∃ p ws, H p = none ∧ H' = upd H p (.tup ws)) → Rep K G H' (.tup es) v → Q v H'
    | .nu es => ∀ p ws, H p = none → RepL K G H es ws → Q (.ref p) (upd H p (.lst ws))) → r vs H Q
/-- the values on their way, frozen -/
theorem VRL.frozen {F F' : Hp} {τ : Sts} (hle : Le F F') : ∀ {rs : List Val} {vs : List V} {B : List Addr} {ds : List D}, (∀ b ∈ B, F' b = H b) → VRL K σ F H rs vs B → dats τ rs = some ds → rs.all noSlot = true → RepL K F' H ds vs
  | [], _, _, _, _, h, e, _ => by
    obtain ⟨rfl, _⟩ := h
    cases e
    exact RepL.nil
  | r :: rs, _, _, ds, hb, h, e, ns => by
    obtain ⟨v, w, B1, B2, rfl, rfl, h1, h2⟩ := h
    have e0 : ((dat τ r).bind fun d => (dats τ rs).map fun ds => d :: ds) = some ds := e
    cases q : dat τ r with
    | none => rw [q] at e0; cases e0
    | some d =>
      rw [q] at e0
      cases q2 : dats τ rs with
      | none => rw [q2] at e0; cases e0
      | some ds2 =>
        rw [q2] at e0
        cases e0
        simp only [List.all_cons, Bool.and_eq_true] at ns
        refine RepL.cons ?_ (VRL.frozen hle (fun b hb2 => hb b (List.mem_append_right _ hb2)) h2 q2 ns.2)
        cases r with
        | fz d0 =>
          cases q
          exact h1.2.mono hle (Tk.refl H)
        | own f d0 =>
          cases q
          exact Own.freeze hle (fun b hb2 => hb b (List.mem_append_left _ hb2)) h1
        | slot i => cases ns.1
/-- B is frozen -/
def frzB (F H : Hp) (B : List Addr) : Hp := fun a => if a ∈ B then H a else F a
theorem frzB_le {F : Hp} {B : List Addr} (h : ∀ b ∈ B, F b = none) : Le F (frzB F H B) := fun a o e => by
  unfold frzB
  rw [if_neg fun z => by rw [h a z] at e; cases e]
  exact e
theorem frzB_in {F : Hp} {B : List Addr} {b : Addr} (h : b ∈ B) : frzB F H B b = H b := by
  unfold frzB
  rw [if_pos h]
theorem frzB_out {F : Hp} {B : List Addr} {b : Addr} (h : b ∉ B) : frzB F H B b = F b := by
  unfold frzB
  rw [if_neg h]
theorem frzB_leH {F : Hp} {B : List Addr} (h : Le F H) : Le (frzB F H B) H := fun a o e => by
  by_cases z : a ∈ B
  · rw [frzB_in z] at e
    exact e
  · rw [frzB_out z] at e
    exact h a o e
theorem SR.frozen {τ : Sts} {F : Hp} {A B : List Addr} {L : Nat → V} (r : SR K τ σ F H A L) (ap : Ap F A B) : SR K τ σ (frzB F H B) H A L :=
  r.keep (frzB_le ap.off) (frzB_leH r.le) (Tk.refl H) (fun _ _ => rfl) fun a ha => by
    have nb : a ∉ B := fun z => ap.a a z ha
    rw [frzB_out nb]
    exact r.off a ha
theorem Step.frozen {F F' H0 : Hp} {A A' B : List Addr} (s : Step F H0 A F' H A') (off : ∀ b ∈ B, F' b = none) (bn : ∀ b ∈ B, b ∈ A ∨ H0 b = none) : Step F H0 A (frzB F' H B) H A' where
  mono := s.mono.trans (frzB_le off)
  fresh := fun a h => by
    by_cases z : a ∈ B
    · rcases bn a z with q | q
      · exact .inr (.inr q)
      · exact .inr (.inl q)
    · rw [frzB_out z] at h
      exact s.fresh a h
  frame := s.frame
  own := s.own
  dom := s.dom
  tk := s.tk
theorem Step.withLaid {F F' H0 H1 : Hp} {A A' : List Addr} {p : Addr} {o : HO} (s : Step F H0 A F' H1 A') (h : H1 p = none) : Step F H0 A F' (upd H1 p o) A' := s.trans (Step.laid h)
theorem Own.newList {F : Hp} {p : Addr} {ws : List V} {es : List D} {f : Bool} (hp : H p = none) (h : RepL K F H es ws) (i : f = true → immL es = true) : Own K F (upd H p (.lst ws)) f (.lst es) (.ref p) [p] := by
  unfold Own
  exact ⟨p, ws, [], rfl, upd_same, rfl, Kids.ofRep (h.mono (Le.refl F) (upd_tk hp)) i⟩
theorem SR.off_none {τ : Sts} {F : Hp} {A : List Addr} {L : Nat → V} {p : Addr} (r : SR K τ σ F H A L) (hp : H p = none) : p ∉ A ∧ F p = none := by
  refine ⟨fun z => ?_, ?_⟩
  · obtain ⟨u, e, _⟩ := r.slots.dom p z
    rw [e] at hp
    cases hp
  · cases q : F p with
    | none => rfl
    | some o => rw [r.le p o q] at hp; cases hp
theorem Ap.one {F : Hp} {A : List Addr} {p : Addr} (h : p ∉ A ∧ F p = none) : Ap F A [p] := by
  refine ⟨List.nodup_cons.mpr ⟨List.not_mem_nil, List.nodup_nil⟩, fun b hb => ?_, fun b hb => ?_⟩
  · rw [List.mem_singleton.mp hb]
    exact h.1
  · rw [List.mem_singleton.mp hb]
    exact h.2
/-- an operation is asked -/
theorem de_prim {p : Prim} {args : E} {r : List V → Hp → VK → Prop} {Q : VK} (ok : PrimOk K p r) (h : DE K mg W Γ (.prim p args) σ H Q) : DA K mg W Γ args σ H fun vs H' => r vs H' Q := by
  obtain ⟨τ, F, A, L, sr, h⟩ := h
  refine ⟨τ, F, A, L, sr, ?_⟩
  simp only [ev] at h
  cases e : evs Γ args τ with
  | stuck => rw [e] at h; exact h
  | exc c fs => rw [e] at h; exact h
  | ok x =>
    rw [e] at h
    simp only [R.bind_ok] at h ⊢
    intro vs F' H' A' B pl
    cases e2 : dats x.2 x.1 with
    | none => rw [e2] at h; exact h.elim
    | some ds =>
      rw [e2] at h
      simp only [R.of_some, R.bind_ok] at h
      cases e3 : primD p ds with
      | none => rw [e3] at h; exact h.elim
      | some res =>
        rw [e3] at h
        simp only [R.of_some, R.bind_ok] at h
        have bn := pl.bn
        by_cases ns : x.1.all noSlot = true
        · -- frozen
          rw [ns] at h
          have srF := pl.sr.frozen pl.ap
          have stF := pl.st.frozen (B := B) pl.ap.off pl.bn
          have rp : RepL K (frzB F' H' B) H' ds vs := VRL.frozen (frzB_le pl.ap.off) (fun b hb => frzB_in hb) pl.vr e2 ns
          refine ok ds res vs H' (frzB F' H' B) Q srF.le rp e3 ?_
          cases res with
          | old d =>
            simp only [resV, Bool.true_or, if_true, R.of_some, R.bind_ok] at h
            exact fun v hv => h v _ H' A' [] ⟨stF, srF, ⟨rfl, hv⟩, Ap.nil, fun _ z => (List.not_mem_nil z).elim⟩
          | nt es =>
            simp only [resV, Bool.true_or, if_true, R.of_some, R.bind_ok] at h
            intro v H2 hh hv
            rcases hh with rfl | ⟨p, ws, hp, rfl⟩
            · exact h v _ _ A' [] ⟨stF, srF, ⟨rfl, hv⟩, Ap.nil, fun _ z => (List.not_mem_nil z).elim⟩
            · exact h v _ _ A' [] ⟨stF.withLaid hp, srF.step hp, ⟨rfl, hv⟩, Ap.nil, fun _ z => (List.not_mem_nil z).elim⟩
          | nu es =>
            intro p ws hp hw
            have off := srF.off_none hp
            have key : ∀ f : Bool, (f = true → immL es = true) → Post K σ L F H A x.2 (frzB F' H' B) (upd H' p (.lst ws)) A' (.own f (.lst es)) (.ref p) [p] := fun f hf =>
              ⟨stF.withLaid hp, srF.step hp, Own.newList hp hw hf, Ap.one off, fun b hb => by
                rw [List.mem_singleton.mp hb]
                exact .inr (pl.st.dom p hp)⟩
            by_cases i : immL es = true
            · simp only [resV, i, if_true, R.of_some, R.bind_ok] at h
              exact h _ _ _ A' [p] (key true fun _ => i)
            · simp only [resV, i, if_true, R.of_some, R.bind_ok] at h
              exact h _ _ _ A' [p] (key false fun z => by cases z)
        · have ns' : x.1.all noSlot = false := by simpa using ns
          rw [ns'] at h
          have rp : RepL K H' H' ds vs := pl.vr.reads pl.sr e2
          refine ok ds res vs H' H' Q (Le.refl H') rp e3 ?_
          cases res with
          | old d =>
            by_cases i : imm d = true
            · simp only [resV, i, Bool.false_or, if_true, R.of_some, R.bind_ok] at h
              exact fun v hv => h v F' H' A' [] ⟨pl.st, pl.sr, ⟨rfl, hv.imm (Tk.refl H') i⟩, Ap.nil, fun _ z => (List.not_mem_nil z).elim⟩
            · simp only [resV, i, Bool.false_or, if_true, R.of_none, R.bind_stuck] at h
              exact h.elim
          | nt es =>
            by_cases i : immL es = true
            · simp only [resV, i, Bool.false_or, if_true, R.of_some, R.bind_ok] at h
              intro v H2 hh hv
              have i2 : imm (.tup es) = true := by unfold imm; exact i
              rcases hh with rfl | ⟨p, ws, hp, rfl⟩
              · exact h v F' _ A' [] ⟨pl.st, pl.sr, ⟨rfl, hv.imm (Tk.refl _) i2⟩, Ap.nil, fun _ z => (List.not_mem_nil z).elim⟩
              · exact h v F' _ A' [] ⟨pl.st.withLaid hp, pl.sr.step hp, ⟨rfl, hv.imm (Tk.refl _) i2⟩, Ap.nil, fun _ z => (List.not_mem_nil z).elim⟩
            · simp only [resV, i, Bool.false_or, R.of_none, R.bind_stuck] at h
              exact h.elim
          | nu es =>
            by_cases i : immL es = true
            · simp only [resV, i, if_true, R.of_some, R.bind_ok] at h
              intro p ws hp hw
              have off := pl.sr.off_none hp
              refine h _ F' _ A' [p] ⟨pl.st.withLaid hp, pl.sr.step hp, Own.newList hp (hw.imm (Tk.refl H') i) fun _ => i, Ap.one off, fun b hb => ?_⟩
              rw [List.mem_singleton.mp hb]
              exact .inr (pl.st.dom p hp)
            · simp only [resV, i, R.of_none, R.bind_stuck] at h
              exact h.elim
end
end Rg

/-! Rg5: each operation's rule is right over data. -/
namespace Rg
open PySem L2
section
variable {K : PySem.W.Frag} {G H : Hp}
def l1 (r : V → Hp → VK → Prop) : List V → Hp → VK → Prop := fun vs H Q => match vs with
  | [x] => r x H Q
  | _ => False
def l2 (r : R2) : List V → Hp → VK → Prop := fun vs H Q => match vs with
  | [x, y] => r x y H Q
  | _ => False
theorem RepL.two {a b : D} {vs : List V} (h : RepL K G H [a, b] vs) : ∃ x y, vs = [x, y] ∧ Rep K G H a x ∧ Rep K G H b y := by
  obtain ⟨x, r, rfl, h1, h2⟩ := h.uncons
  obtain ⟨y, r2, rfl, h3, h4⟩ := h2.uncons
  rw [h4.unnil]
  exact ⟨x, y, rfl, h1, h3⟩
theorem RepL.one' {a : D} {vs : List V} (h : RepL K G H [a] vs) : ∃ x, vs = [x] ∧ Rep K G H a x := by
  obtain ⟨x, r, rfl, h1, h2⟩ := h.uncons
  rw [h2.unnil]
  exact ⟨x, rfl, h1⟩
theorem Rep.int' {i : Int} {v : V} (h : Rep K G H (.int i) v) : v = .int i := by unfold Rep at h; exact h
theorem Rep.str' {i : Str} {v : V} (h : Rep K G H (.str i) v) : v = .str i := by unfold Rep at h; exact h
theorem Rep.bl' {i : Bool} {v : V} (h : Rep K G H (.bl i) v) : v = .bl i := by unfold Rep at h; exact h
theorem Rep.non' {v : V} (h : Rep K G H .non v) : v = .non := by unfold Rep at h; exact h
theorem Rep.ofInt (i : Int) : Rep K G H (.int i) (.int i) := by unfold Rep; rfl
theorem Rep.ofStr (i : Str) : Rep K G H (.str i) (.str i) := by unfold Rep; rfl
theorem Rep.ofBl (i : Bool) : Rep K G H (.bl i) (.bl i) := by unfold Rep; rfl
theorem Rep.ofNon : Rep K G H .non .non := by unfold Rep; rfl
theorem Rep.tup' {ds : List D} {v : V} (h : Rep K G H (.tup ds) v) : ∃ a vs, v = .ref a ∧ H a = some (.tup vs) ∧ RepL K G H ds vs := by unfold Rep at h; exact h
theorem Rep.lst' {ds : List D} {v : V} (h : Rep K G H (.lst ds) v) : ∃ a vs, v = .ref a ∧ G a = some (.lst vs) ∧ RepL K G H ds vs := by unfold Rep at h; exact h
theorem Rep.dT' {ks : List (List Key)} {ds : List D} {v : V} (h : Rep K G H (.dT ks ds) v) : ∃ a vs, v = .ref a ∧ G a = some (.dT (ks.zip vs)) ∧ ks.length = vs.length ∧ RepL K G H ds vs := by unfold Rep at h; exact h
theorem Rep.dK' {ks : List Key} {ds : List D} {v : V} (h : Rep K G H (.dK ks ds) v) : ∃ a vs, v = .ref a ∧ G a = some (.dK (ks.zip vs)) ∧ ks.length = vs.length ∧ RepL K G H ds vs := by unfold Rep at h; exact h
theorem Rep.scr' {ns : List Int} {v : V} (h : Rep K G H (.scr ns) v) : ∃ a, v = .ref a ∧ SqL K G a (ns.map V.int) := by unfold Rep at h; exact h
theorem Rep.ofTup {ds : List D} {a : Addr} {vs : List V} (h1 : H a = some (.tup vs)) (h2 : RepL K G H ds vs) : Rep K G H (.tup ds) (.ref a) := by unfold Rep; exact ⟨a, vs, rfl, h1, h2⟩
theorem Rep.ofLst {ds : List D} {a : Addr} {vs : List V} (h1 : G a = some (.lst vs)) (h2 : RepL K G H ds vs) : Rep K G H (.lst ds) (.ref a) := by unfold Rep; exact ⟨a, vs, rfl, h1, h2⟩

theorem ok_sub : PrimOk K .sub (l2 (rI0 fun i j => .int (i - j))) := by
  intro ds res vs H G Q le rp e k
  replace e : pSub ds = some res := e
  unfold pSub at e
  split at e <;> cases e
  obtain ⟨x, y, rfl, h1, h2⟩ := rp.two
  exact ⟨_, _, h1.int', h2.int', k _ (Rep.ofInt _)⟩
theorem ok_neg : PrimOk K .neg (l1 (rU fun i => .int (-i))) := by
  intro ds res vs H G Q le rp e k
  replace e : pNeg ds = some res := e
  unfold pNeg at e
  split at e <;> cases e
  obtain ⟨x, rfl, h1⟩ := rp.one'
  exact ⟨_, h1.int', k _ (Rep.ofInt _)⟩
theorem ok_lt : PrimOk K .lt (l2 (rI0 fun i j => .bl (decide (i < j)))) := by
  intro ds res vs H G Q le rp e k
  replace e : pLt ds = some res := e
  unfold pLt at e
  split at e <;> cases e
  obtain ⟨x, y, rfl, h1, h2⟩ := rp.two
  exact ⟨_, _, h1.int', h2.int', k _ (Rep.ofBl _)⟩
theorem ok_le : PrimOk K .le (l2 (rI0 fun i j => .bl (decide (i ≤ j)))) := by
  intro ds res vs H G Q le rp e k
  replace e : pLe ds = some res := e
  unfold pLe at e
  split at e <;> cases e
  obtain ⟨x, y, rfl, h1, h2⟩ := rp.two
  exact ⟨_, _, h1.int', h2.int', k _ (Rep.ofBl _)⟩
theorem ok_gt : PrimOk K .gt (l2 (rI0 fun i j => .bl (decide (j < i)))) := by
  intro ds res vs H G Q le rp e k
  replace e : pGt ds = some res := e
  unfold pGt at e
  split at e <;> cases e
  obtain ⟨x, y, rfl, h1, h2⟩ := rp.two
  exact ⟨_, _, h1.int', h2.int', k _ (Rep.ofBl _)⟩
theorem ok_ge : PrimOk K .ge (l2 (rI0 fun i j => .bl (decide (j ≤ i)))) := by
  intro ds res vs H G Q le rp e k
  replace e : pGe ds = some res := e
  unfold pGe at e
  split at e <;> cases e
  obtain ⟨x, y, rfl, h1, h2⟩ := rp.two
  exact ⟨_, _, h1.int', h2.int', k _ (Rep.ofBl _)⟩
def rMulA : R2 := fun x y H Q => (rI CMul (fun i j => .int (i * j))) x y H Q ∨ (rI CMulW (fun i j => .int (i * j))) x y H Q ∨ rRep x y H Q
theorem op_mulA {X : Cx} : OpR X (binaryOp .Mult) rMulA := op_mul.or (op_mulW.or op_rep)
theorem flat_rep {es : List D} {ws : List V} (h : RepL K G H es ws) : ∀ n : Nat, RepL K G H (List.replicate n es).flatten (List.replicate n ws).flatten
  | 0 => RepL.nil
  | n + 1 => by
    rw [List.replicate_succ, List.replicate_succ, List.flatten_cons, List.flatten_cons]
    exact h.app (flat_rep h n)
theorem ok_mul : PrimOk K .mul (l2 rMulA) := by
  intro ds res vs H G Q le rp e k
  replace e : pMul ds = some res := e
  unfold pMul at e
  split at e
  all_goals (try (cases e; done))
  · rename_i i j
    split at e
    · rename_i ho
      cases e
      obtain ⟨x, y, rfl, h1, h2⟩ := rp.two
      rcases ho with z | z | z
      · exact .inl ⟨_, _, h1.int', h2.int', .inl z, k _ (Rep.ofInt _)⟩
      · exact .inl ⟨_, _, h1.int', h2.int', .inr z, k _ (Rep.ofInt _)⟩
      · exact .inr (.inl ⟨_, _, h1.int', h2.int', z, k _ (Rep.ofInt _)⟩)
    · cases e
  · rename_i xs n
    split at e
    · rename_i ho
      cases e
      obtain ⟨x, y, rfl, h1, h2⟩ := rp.two
      obtain ⟨a, ws, rfl, h3, h4⟩ := h1.lst'
      exact .inr (.inr ⟨a, n, ws, rfl, h2.int', le _ _ h3, ho.1, ho.2.1, by rw [← h4.len]; exact ho.2.2, fun p hp => k p _ hp (flat_rep h4 _)⟩)
    · cases e
def rDivA : R2 := fun x y H Q => (rI CDiv (fun i j => .int (i / j))) x y H Q ∨ (rI CDivW (fun i j => .int (i / j))) x y H Q
theorem op_divA {X : Cx} : OpR X (binaryOp .FloorDiv) rDivA := op_fdiv.or op_fdivW
theorem ok_fdiv : PrimOk K .fdiv (l2 rDivA) := by
  intro ds res vs H G Q le rp e k
  replace e : pFdiv ds = some res := e
  unfold pFdiv at e
  split at e
  all_goals (try (cases e; done))
  rename_i i j
  split at e
  · rename_i ho
    cases e
    obtain ⟨x, y, rfl, h1, h2⟩ := rp.two
    rcases ho.2 with z | z
    · exact .inl ⟨_, _, h1.int', h2.int', ⟨ho.1, z⟩, k _ (Rep.ofInt _)⟩
    · exact .inr ⟨_, _, h1.int', h2.int', ⟨ho.1, z⟩, k _ (Rep.ofInt _)⟩
  · cases e
theorem ok_mod : PrimOk K .mod (l2 (rI (fun _ j => 0 < j) fun i j => .int (i % j))) := by
  intro ds res vs H G Q le rp e k
  replace e : pMod ds = some res := e
  unfold pMod at e
  split at e
  all_goals (try (cases e; done))
  rename_i i j
  split at e
  · rename_i ho
    cases e
    obtain ⟨x, y, rfl, h1, h2⟩ := rp.two
    exact ⟨_, _, h1.int', h2.int', ho, k _ (Rep.ofInt _)⟩
  · cases e
theorem ok_pow : PrimOk K .pow (l2 (rI CPow fun i j => .int (i ^ j.toNat))) := by
  intro ds res vs H G Q le rp e k
  replace e : pPow ds = some res := e
  unfold pPow at e
  split at e
  all_goals (try (cases e; done))
  rename_i i j
  split at e
  · rename_i ho
    cases e
    obtain ⟨x, y, rfl, h1, h2⟩ := rp.two
    exact ⟨_, _, h1.int', h2.int', ho, k _ (Rep.ofInt _)⟩
  · cases e
def rAddS : R2 := fun x y H Q => ∃ i j, x = .str i ∧ y = .str j ∧ i.length + j.length ≤ sizeLine ∧ Q (.str (i ++ j)) H
def rAddA (K : PySem.W.Frag) : R2 := fun x y H Q => (rI0 fun i j => .int (i + j)) x y H Q ∨ rAddS x y H Q ∨ rCatA K x y H Q ∨ rCat x y H Q
theorem op_addA {X : Cx} : OpR X (binaryOp .Add) (rAddA X.K) := op_add.or (op_add_str.or (op_catA.or op_cat))
theorem ok_add : PrimOk K .add (l2 (rAddA K)) := by
  intro ds res vs H G Q le rp e k
  replace e : pAdd ds = some res := e
  unfold pAdd at e
  split at e
  all_goals (try (cases e; done))
  · cases e
    obtain ⟨x, y, rfl, h1, h2⟩ := rp.two
    exact .inl ⟨_, _, h1.int', h2.int', k _ (Rep.ofInt _)⟩
  · rename_i a b
    split at e
    · rename_i ho
      cases e
      obtain ⟨x, y, rfl, h1, h2⟩ := rp.two
      exact .inr (.inl ⟨_, _, h1.str', h2.str', ho, k _ (Rep.ofStr _)⟩)
    · cases e
  · rename_i xs ys
    split at e
    · rename_i ho
      cases e
      obtain ⟨x, y, rfl, h1, h2⟩ := rp.two
      obtain ⟨a, us, rfl, ha, hu⟩ := h1.tup'
      obtain ⟨b, ws, rfl, hb, hw⟩ := h2.tup'
      refine .inr (.inr (.inl ⟨a, b, us, ws, rfl, rfl, SqT.of ha, SqT.of hb, by rw [← hu.len, ← hw.len]; exact ho, fun z => ?_, fun _ z => ?_, fun _ _ p hp => ?_⟩))
      · subst z
        refine k _ H (.inl rfl) (Rep.ofTup hb ?_)
        have := hu.len
        have : xs = [] := List.length_eq_zero_iff.mp (by simpa using this)
        subst this
        exact hw
      · subst z
        refine k _ H (.inl rfl) (Rep.ofTup ha ?_)
        have := hw.len
        have : ys = [] := List.length_eq_zero_iff.mp (by simpa using this)
        subst this
        rw [List.append_nil]
        exact hu
      · exact k _ _ (.inr ⟨p, _, hp, rfl⟩) (Rep.ofTup upd_same ((hu.app hw).mono (Le.refl G) (upd_tk hp)))
    · cases e
  · rename_i xs ys
    split at e
    · rename_i ho
      cases e
      obtain ⟨x, y, rfl, h1, h2⟩ := rp.two
      obtain ⟨a, us, rfl, ha, hu⟩ := h1.lst'
      obtain ⟨b, ws, rfl, hb, hw⟩ := h2.lst'
      exact .inr (.inr (.inr ⟨a, b, us, ws, rfl, rfl, le _ _ ha, le _ _ hb, by rw [← hu.len, ← hw.len]; exact ho, fun p hp => k p _ hp (hu.app hw)⟩))
    · cases e
/-! ### equality -/
mutual
theorem Rep.dp (le : Le G H) : ∀ {d : D} {v : V}, (toPy d).canLay0 = true → Rep K G H d v → Dp K H v (toPy d)
  | .non, _, _, h => by rw [h.non']; exact .non
  | .bl b, _, _, h => by rw [h.bl']; exact .bl b
  | .int b, _, _, h => by rw [h.int']; exact .int b
  | .str b, _, _, h => by rw [h.str']; exact .str b
  | .tup ds, _, c, h => by
    obtain ⟨a, vs, rfl, h1, h2⟩ := h.tup'
    exact .tup (SqT.of h1) (RepL.dp le (by unfold toPy PyData.canLay0 at c; exact c) h2)
  | .lst ds, _, c, h => by
    obtain ⟨a, vs, rfl, h1, h2⟩ := h.lst'
    exact .lst (SqL.of (le _ _ h1)) (RepL.dp le (by unfold toPy PyData.canLay0 at c; exact c) h2)
  | .dT _ _, _, c, _ => by unfold toPy PyData.canLay0 at c; cases c
  | .dK _ _, _, c, _ => by unfold toPy PyData.canLay0 at c; cases c
  | .scr _, _, c, _ => by unfold toPy PyData.canLay0 at c; cases c
theorem RepL.dp (le : Le G H) : ∀ {ds : List D} {vs : List V}, PyData.canLayAll0 (toPyL ds) = true → RepL K G H ds vs → DpAll K H vs (toPyL ds)
  | [], _, _, h => by rw [h.unnil]; exact .nil
  | d :: ds, _, c, h => by
    obtain ⟨v, r, rfl, h1, h2⟩ := h.uncons
    unfold toPyL PyData.canLayAll0 at c
    have c2 := Bool.and_eq_true_iff.mp c
    exact .cons (Rep.dp le c2.1 h1) (RepL.dp le c2.2 h2)
end
def rEqA (K : PySem.W.Frag) : R2 := fun x y H Q => rEqD K x y H Q ∨ rEq x y H Q
theorem op_eqA {X : Cx} (hu : X.A.units + 64 < cLine) : OpR X (compareOp .Eq) (rEqA X.K) := (op_eqD hu).or op_eq
def rNeA (K : PySem.W.Frag) : R2 := fun x y H Q => rNeD K x y H Q ∨ rNe x y H Q
theorem op_neA {X : Cx} (hu : X.A.units + 64 < cLine) : OpR X (compareOp .NotEq) (rNeA X.K) := (op_neD hu).or op_ne
theorem eqP_ok {a b : D} {k : Bool} {x y : V} (le : Le G H) (e : eqP a b = some k) (h1 : Rep K G H a x) (h2 : Rep K G H b y) :
    (scal x y = true ∧ decide (x = y) = k) ∨ ∃ d e, Dp K H x d ∧ Dp K H y e ∧ SeqAt.shaped d = true ∧ SeqAt.shaped e = true ∧ PyData.eqv d e = k := by
  unfold eqP at e
  split at e
  · cases e
    rw [h1.int', h2.int']
    exact .inl ⟨rfl, by simp⟩
  · cases e
    rw [h1.str', h2.str']
    exact .inl ⟨rfl, by simp⟩
  · split at e
    · rename_i hs
      cases e
      have hs := Bool.and_eq_true_iff.mp hs
      exact .inr ⟨_, _, h1.dp le (SeqAt.canLay_of_shaped hs.1), h2.dp le (SeqAt.canLay_of_shaped hs.2), hs.1, hs.2, rfl⟩
    · cases e
theorem obind {α β : Type} {o : Option α} {f : α → Option β} {b : β} (h : (o >>= f) = some b) : ∃ a, o = some a ∧ f a = some b := by
  cases o with
  | none => cases h
  | some a => exact ⟨a, rfl, h⟩
theorem ok_eq : PrimOk K .eq (l2 (rEqA K)) := by
  intro ds res vs H G Q le rp e k
  replace e : pEq ds = some res := e
  unfold pEq at e
  split at e
  all_goals (try (cases e; done))
  obtain ⟨b, e1, e2⟩ := obind e
  cases e2
  obtain ⟨x, y, rfl, h1, h2⟩ := rp.two
  rcases eqP_ok le e1 h1 h2 with ⟨z1, rfl⟩ | ⟨d, d2, z1, z2, z3, z4, rfl⟩
  · exact .inr ⟨z1, k _ (Rep.ofBl _)⟩
  · exact .inl ⟨d, d2, z1, z2, z3, z4, k _ (Rep.ofBl _)⟩
theorem ok_ne : PrimOk K .ne (l2 (rNeA K)) := by
  intro ds res vs H G Q le rp e k
  replace e : pNe ds = some res := e
  unfold pNe at e
  split at e
  all_goals (try (cases e; done))
  obtain ⟨b, e1, e2⟩ := obind e
  cases e2
  obtain ⟨x, y, rfl, h1, h2⟩ := rp.two
  rcases eqP_ok le e1 h1 h2 with ⟨z1, rfl⟩ | ⟨d, d2, z1, z2, z3, z4, rfl⟩
  · exact .inr ⟨z1, k _ (Rep.ofBl _)⟩
  · exact .inl ⟨d, d2, z1, z2, z3, z4, k _ (Rep.ofBl _)⟩
theorem Rep.isNon {d : D} {v : V} (h : Rep K G H d v) : decide (v = .non) = isNonD d := by
  cases d with
  | non => rw [h.non']; rfl
  | bl b => rw [h.bl']; rfl
  | int b => rw [h.int']; rfl
  | str b => rw [h.str']; rfl
  | tup b => obtain ⟨a, vs, rfl, _⟩ := h.tup'; rfl
  | lst b => obtain ⟨a, vs, rfl, _⟩ := h.lst'; rfl
  | dT b c => obtain ⟨a, vs, rfl, _⟩ := h.dT'; rfl
  | dK b c => obtain ⟨a, vs, rfl, _⟩ := h.dK'; rfl
  | scr b => obtain ⟨a, rfl, _⟩ := h.scr'; rfl
def rIsN : R2 := fun x y H Q => y = .non ∧ Q (.bl (decide (x = .non))) H
def rNotN : R2 := fun x y H Q => y = .non ∧ Q (.bl (!decide (x = .non))) H
theorem ok_isN : PrimOk K .isN (l2 rIsN) := by
  intro ds res vs H G Q le rp e k
  replace e : pIsN ds = some res := e
  unfold pIsN at e
  split at e
  all_goals (try (cases e; done))
  obtain ⟨x, y, rfl, h1, h2⟩ := rp.two
  injection e with e
  subst e
  refine ⟨h2.non', ?_⟩
  rw [h1.isNon]
  exact k _ (Rep.ofBl _)
theorem ok_notN : PrimOk K .notN (l2 rNotN) := by
  intro ds res vs H G Q le rp e k
  replace e : pNotN ds = some res := e
  unfold pNotN at e
  split at e
  all_goals (try (cases e; done))
  rename_i a
  obtain ⟨x, y, rfl, h1, h2⟩ := rp.two
  injection e with e
  subst e
  refine ⟨h2.non', ?_⟩
  rw [h1.isNon]
  exact k _ (Rep.ofBl _)
def rIsBB : R2 := fun x y H Q => ∃ a b, x = .bl a ∧ y = .bl b ∧ Q (.bl (decide (a = b))) H
def rNotBB : R2 := fun x y H Q => ∃ a b, x = .bl a ∧ y = .bl b ∧ Q (.bl (!decide (a = b))) H
theorem ok_isB : PrimOk K .isB (l2 rIsBB) := by
  intro ds res vs H G Q le rp e k
  replace e : pIsB ds = some res := e
  unfold pIsB at e
  split at e <;> cases e
  obtain ⟨x, y, rfl, h1, h2⟩ := rp.two
  exact ⟨_, _, h1.bl', h2.bl', k _ (Rep.ofBl _)⟩
theorem ok_notB : PrimOk K .notB (l2 rNotBB) := by
  intro ds res vs H G Q le rp e k
  replace e : pNotB ds = some res := e
  unfold pNotB at e
  split at e <;> cases e
  obtain ⟨x, y, rfl, h1, h2⟩ := rp.two
  exact ⟨_, _, h1.bl', h2.bl', k _ (Rep.ofBl _)⟩
theorem ok_inn : PrimOk K .inn (l2 (rInD K)) := by
  intro ds res vs H G Q le rp e k
  replace e : pInn ds = some res := e
  unfold pInn at e
  split at e
  all_goals (try (cases e; done))
  obtain ⟨b, e1, e2⟩ := obind e
  cases e2
  unfold inD at e1
  split at e1
  · split at e1
    · rename_i hs
      cases e1
      have hs := Bool.and_eq_true_iff.mp hs
      obtain ⟨x, y, rfl, h1, h2⟩ := rp.two
      refine ⟨_, _, h1.dp le (SeqAt.canLay_of_shaped hs.1), ?_, hs.1, hs.2, k _ (Rep.ofBl _)⟩
      have := h2.dp le (SeqAt.canLay_of_shaped (by unfold toPy; exact hs.2))
      unfold toPy at this
      exact this
    · cases e1
  · cases e1
theorem ok_nin : PrimOk K .nin (l2 (rNotInD K)) := by
  intro ds res vs H G Q le rp e k
  replace e : pNin ds = some res := e
  unfold pNin at e
  split at e
  all_goals (try (cases e; done))
  obtain ⟨b, e1, e2⟩ := obind e
  cases e2
  unfold inD at e1
  split at e1
  · split at e1
    · rename_i hs
      cases e1
      have hs := Bool.and_eq_true_iff.mp hs
      obtain ⟨x, y, rfl, h1, h2⟩ := rp.two
      refine ⟨_, _, h1.dp le (SeqAt.canLay_of_shaped hs.1), ?_, hs.1, hs.2, k _ (Rep.ofBl _)⟩
      have := h2.dp le (SeqAt.canLay_of_shaped (by unfold toPy; exact hs.2))
      unfold toPy at this
      exact this
    · cases e1
  · cases e1
/-! ### subscripts, lengths -/
theorem atI_rep {ds : List D} {vs : List V} {i : Int} {d : D} (h : RepL K G H ds vs) (e : atI ds i = some d) : ∃ v, atI vs i = some v ∧ Rep K G H d v := by
  unfold atI at e ⊢
  rw [← h.len]
  cases q : ixN ds.length i with
  | none => rw [q] at e; cases e
  | some j =>
    rw [q] at e
    obtain ⟨v, h1, h2⟩ := h.get (j := j) e
    exact ⟨v, h1, h2⟩
theorem atI_map {α β : Type} (f : α → β) (xs : List α) (i : Int) : atI (xs.map f) i = (atI xs i).map f := by
  unfold atI
  rw [List.length_map]
  cases ixN xs.length i with
  | none => rfl
  | some j => simp
theorem ok_ix : PrimOk K .ix (l2 (rIx K)) := by
  intro ds res vs H G Q le rp e k
  replace e : pIx ds = some res := e
  unfold pIx at e
  split at e
  all_goals (try (cases e; done))
  obtain ⟨d, e1, e2⟩ := obind e
  cases e2
  obtain ⟨x, y, rfl, h1, h2⟩ := rp.two
  unfold ixD at e1
  split at e1
  · obtain ⟨a, us, rfl, ha, hu⟩ := h1.lst'
    obtain ⟨v, h3, h4⟩ := atI_rep hu e1
    exact .inl ⟨a, us, _, v, rfl, h2.int', SqL.of (le _ _ ha), h3, k _ h4⟩
  · obtain ⟨a, us, rfl, ha, hu⟩ := h1.tup'
    obtain ⟨v, h3, h4⟩ := atI_rep hu e1
    exact .inr (.inl ⟨a, us, _, v, rfl, h2.int', SqT.of ha, h3, k _ h4⟩)
  · rename_i ns i
    obtain ⟨a, rfl, ha⟩ := h1.scr'
    cases q : atI ns i with
    | none => rw [q] at e1; cases e1
    | some n =>
      rw [q] at e1
      cases e1
      refine .inl ⟨a, _, i, .int n, rfl, h2.int', sql_le le ha, ?_, k _ (Rep.ofInt n)⟩
      rw [atI_map, q]
      rfl
  · cases e1
def rLenA (K : PySem.W.Frag) : List V → Hp → VK → Prop := fun xs H Q => ∃ p ys, xs = [.ref p] ∧ (SqL K H p ys ∨ SqT K H p ys) ∧ Q (.int ys.length) H
theorem ok_len : PrimOk K .len (rLenA K) := by
  intro ds res vs H G Q le rp e k
  replace e : pLen ds = some res := e
  unfold pLen at e
  split at e
  all_goals (try (cases e; done))
  obtain ⟨d, e1, e2⟩ := obind e
  cases e2
  obtain ⟨x, rfl, h1⟩ := rp.one'
  unfold lenD at e1
  split at e1
  · cases e1
    obtain ⟨a, us, rfl, ha, hu⟩ := h1.lst'
    refine ⟨a, us, rfl, .inl (SqL.of (le _ _ ha)), ?_⟩
    rw [← hu.len]
    exact k _ (Rep.ofInt _)
  · cases e1
    obtain ⟨a, us, rfl, ha, hu⟩ := h1.tup'
    refine ⟨a, us, rfl, .inr (SqT.of ha), ?_⟩
    rw [← hu.len]
    exact k _ (Rep.ofInt _)
  · cases e1
    obtain ⟨a, rfl, ha⟩ := h1.scr'
    refine ⟨a, _, rfl, .inl (sql_le le ha), ?_⟩
    rw [List.length_map]
    exact k _ (Rep.ofInt _)
  · cases e1
def rMin2 : List V → Hp → VK → Prop := fun xs H Q => ∃ i j, xs = [.int i, .int j] ∧ Q (.int (if j < i then j else i)) H
def rMax2 : List V → Hp → VK → Prop := fun xs H Q => ∃ i j, xs = [.int i, .int j] ∧ Q (.int (if j > i then j else i)) H
def rAbs : List V → Hp → VK → Prop := fun xs H Q => ∃ i, xs = [.int i] ∧ Q (.int (if i < 0 then -i else i)) H
theorem ok_min2 : PrimOk K .min2 rMin2 := by
  intro ds res vs H G Q le rp e k
  replace e : pMin2 ds = some res := e
  unfold pMin2 at e
  split at e <;> cases e
  obtain ⟨x, y, rfl, h1, h2⟩ := rp.two
  rw [h1.int', h2.int']
  exact ⟨_, _, rfl, k _ (Rep.ofInt _)⟩
theorem ok_max2 : PrimOk K .max2 rMax2 := by
  intro ds res vs H G Q le rp e k
  replace e : pMax2 ds = some res := e
  unfold pMax2 at e
  split at e <;> cases e
  obtain ⟨x, y, rfl, h1, h2⟩ := rp.two
  rw [h1.int', h2.int']
  exact ⟨_, _, rfl, k _ (Rep.ofInt _)⟩
theorem ok_abs : PrimOk K .abs rAbs := by
  intro ds res vs H G Q le rp e k
  replace e : pAbs ds = some res := e
  unfold pAbs at e
  split at e <;> cases e
  obtain ⟨x, rfl, h1⟩ := rp.one'
  rw [h1.int']
  exact ⟨_, rfl, k _ (Rep.ofInt _)⟩
theorem ints_rep : ∀ {ds : List D} {ns : List Int} {vs : List V}, intsOf ds = some ns → RepL K G H ds vs → vs = ns.map V.int
  | [], ns, vs, e, h => by
    cases e
    rw [h.unnil]
    rfl
  | d :: ds, ns, vs, e, h => by
    obtain ⟨v, r, rfl, h1, h2⟩ := h.uncons
    cases d with
    | int i =>
      unfold intsOf at e
      cases q : intsOf ds with
      | none => rw [q] at e; cases e
      | some ms =>
        rw [q] at e
        cases e
        rw [h1.int', ints_rep q h2]
        rfl
    | _ => unfold intsOf at e; cases e
theorem ok_sum : PrimOk K .sum (rSum K) := by
  intro ds res vs H G Q le rp e k
  replace e : pSum ds = some res := e
  unfold pSum at e
  split at e
  all_goals (try (cases e; done))
  obtain ⟨d, e1, e2⟩ := obind e
  cases e2
  obtain ⟨x, rfl, h1⟩ := rp.one'
  obtain ⟨a, us, rfl, ha, hu⟩ := h1.lst'
  rw [ints_rep e1 hu] at ha
  exact ⟨a, _, rfl, SqL.of (le _ _ ha), k _ (Rep.ofInt _)⟩
theorem minI_mem : ∀ {ns : List Int}, ns ≠ [] → minI ns ∈ ns ∧ ∀ y ∈ ns, minI ns ≤ y
  | [], h => (h rfl).elim
  | [x], _ => ⟨List.mem_singleton.mpr rfl, fun y hy => by rw [List.mem_singleton.mp hy]; exact Int.le_refl _⟩
  | x :: z :: r, _ => by
    obtain ⟨h1, h2⟩ := minI_mem (ns := z :: r) (by simp)
    have e : minI (x :: z :: r) = min x (minI (z :: r)) := rfl
    rw [e]
    refine ⟨?_, fun y hy => ?_⟩
    · by_cases h : x ≤ minI (z :: r)
      · rw [show min x (minI (z :: r)) = x by omega]
        exact List.mem_cons_self
      · rw [show min x (minI (z :: r)) = minI (z :: r) by omega]
        exact List.mem_cons_of_mem _ h1
    · rcases List.mem_cons.mp hy with rfl | hy
      · omega
      · have := h2 y hy
        omega
theorem maxI_mem : ∀ {ns : List Int}, ns ≠ [] → maxI ns ∈ ns ∧ ∀ y ∈ ns, y ≤ maxI ns
  | [], h => (h rfl).elim
  | [x], _ => ⟨List.mem_singleton.mpr rfl, fun y hy => by rw [List.mem_singleton.mp hy]; exact Int.le_refl _⟩
  | x :: z :: r, _ => by
    obtain ⟨h1, h2⟩ := maxI_mem (ns := z :: r) (by simp)
    have e : maxI (x :: z :: r) = max x (maxI (z :: r)) := rfl
    rw [e]
    refine ⟨?_, fun y hy => ?_⟩
    · by_cases h : maxI (z :: r) ≤ x
      · rw [show max x (maxI (z :: r)) = x by omega]
        exact List.mem_cons_self
      · rw [show max x (maxI (z :: r)) = maxI (z :: r) by omega]
        exact List.mem_cons_of_mem _ h1
    · rcases List.mem_cons.mp hy with rfl | hy
      · omega
      · have := h2 y hy
        omega
theorem ok_minL : PrimOk K .minL (rMin K) := by
  intro ds res vs H G Q le rp e k
  replace e : pMinL ds = some res := e
  unfold pMinL at e
  split at e
  all_goals (try (cases e; done))
  obtain ⟨ns, e1, e2⟩ := obind e
  by_cases hn : ns = []
  · rw [if_pos hn] at e2
    cases e2
  · rw [if_neg hn] at e2
    cases e2
    obtain ⟨x, rfl, h1⟩ := rp.one'
    obtain ⟨a, us, rfl, ha, hu⟩ := h1.lst'
    rw [ints_rep e1 hu] at ha
    refine ⟨a, ns, rfl, SqL.of (le _ _ ha), List.length_pos_iff.mpr hn, fun m hm hl => ?_⟩
    obtain ⟨z1, z2⟩ := minI_mem hn
    have : m = minI ns := by
      have := hl _ z1
      have := z2 _ hm
      omega
    rw [this]
    exact k _ (Rep.ofInt _)
theorem ok_maxL : PrimOk K .maxL (rMax K) := by
  intro ds res vs H G Q le rp e k
  replace e : pMaxL ds = some res := e
  unfold pMaxL at e
  split at e
  all_goals (try (cases e; done))
  obtain ⟨ns, e1, e2⟩ := obind e
  by_cases hn : ns = []
  · rw [if_pos hn] at e2
    cases e2
  · rw [if_neg hn] at e2
    cases e2
    obtain ⟨x, rfl, h1⟩ := rp.one'
    obtain ⟨a, us, rfl, ha, hu⟩ := h1.lst'
    rw [ints_rep e1 hu] at ha
    refine ⟨a, ns, rfl, SqL.of (le _ _ ha), List.length_pos_iff.mpr hn, fun m hm hl => ?_⟩
    obtain ⟨z1, z2⟩ := maxI_mem hn
    have : m = maxI ns := by
      have := hl _ z1
      have := z2 _ hm
      omega
    rw [this]
    exact k _ (Rep.ofInt _)
def rTupOf (K : PySem.W.Frag) : List V → Hp → VK → Prop := fun xs H Q => ∃ p ys, xs = [.ref p] ∧ ((SqL K H p ys ∧ ∀ l, H l = none → Q (.ref l) (upd H l (.tup ys))) ∨ (SqT K H p ys ∧ Q (.ref p) H))
def rListOf (K : PySem.W.Frag) : List V → Hp → VK → Prop := fun xs H Q => ∃ p ys, xs = [.ref p] ∧ (SqL K H p ys ∨ SqT K H p ys) ∧ ∀ l, H l = none → Q (.ref l) (upd H l (.lst ys))
theorem ok_tup : PrimOk K .tup (rTupOf K) := by
  intro ds res vs H G Q le rp e k
  replace e : pTup ds = some res := e
  unfold pTup at e
  split at e
  all_goals (try (cases e; done))
  · cases e
    obtain ⟨x, rfl, h1⟩ := rp.one'
    obtain ⟨a, us, rfl, ha, hu⟩ := h1.lst'
    exact ⟨a, us, rfl, .inl ⟨SqL.of (le _ _ ha), fun l hl => k _ _ (.inr ⟨l, us, hl, rfl⟩) (Rep.ofTup upd_same (hu.mono (Le.refl G) (upd_tk hl)))⟩⟩
  · cases e
    obtain ⟨x, rfl, h1⟩ := rp.one'
    obtain ⟨a, us, rfl, ha, hu⟩ := h1.tup'
    exact ⟨a, us, rfl, .inr ⟨SqT.of ha, k _ _ (.inl rfl) (Rep.ofTup ha hu)⟩⟩
theorem ok_list : PrimOk K .list (rListOf K) := by
  intro ds res vs H G Q le rp e k
  replace e : pList ds = some res := e
  unfold pList at e
  split at e
  all_goals (try (cases e; done))
  · cases e
    obtain ⟨x, rfl, h1⟩ := rp.one'
    obtain ⟨a, us, rfl, ha, hu⟩ := h1.lst'
    exact ⟨a, us, rfl, .inl (SqL.of (le _ _ ha)), fun l hl => k _ _ hl hu⟩
  · cases e
    obtain ⟨x, rfl, h1⟩ := rp.one'
    obtain ⟨a, us, rfl, ha, hu⟩ := h1.tup'
    exact ⟨a, us, rfl, .inr (SqT.of ha), fun l hl => k _ _ hl hu⟩
/-! sorted, isinstance -/
def rSortD (K : PySem.W.Frag) : List V → Hp → VK → Prop := fun xs H Q => ∃ (a : Addr) (bs : List (V × PyData)), xs = [.ref a] ∧ SqL K H a (bs.map (·.1)) ∧ (∀ b ∈ bs, Dp K H b.1 b.2 ∧ b.2.depth ≤ 64) ∧ PySem.W.AllAlike (bs.map (·.2)) ∧ PySem.W.Sortable (bs.map (·.2)) ∧ bs.length ≤ sizeLine ∧
  ∀ p, H p = none → Q (.ref p) (upd H p (.lst ((bs.mergeSort (PySem.W.dataLe false (·.2))).map (·.1))))
theorem vals_each : ∀ {bs : List (V × PyData)} {us : List Value}, Vals (bs.map (·.1)) us → PySem.W.EachIs (fun v (b : V × PyData) => RelV b.1 v) us bs
  | [], _, h => by
    cases h
    exact .nil
  | b :: bs, _, h => by
    cases h with
    | cons h1 h2 => exact .cons h1 (vals_each h2)
theorem each_vals : ∀ {bs : List (V × PyData)} {us : List Value}, PySem.W.EachIs (fun v (b : V × PyData) => RelV b.1 v) us bs → Vals (bs.map (·.1)) us
  | [], _, h => by
    cases h
    exact .nil
  | b :: bs, _, h => by
    cases h with
    | cons h1 h2 => exact .cons h1 (each_vals h2)
theorem each_with {α β : Type} {R S : α → β → Prop} : ∀ {as : List α} {bs : List β}, PySem.W.EachIs R as bs → (∀ a b, b ∈ bs → R a b → S a b) → PySem.W.EachIs S as bs
  | _, _, .nil, _ => .nil
  | _, _, .cons h1 h2, k => .cons (k _ _ List.mem_cons_self h1) (each_with h2 fun a b hb => k a b (List.mem_cons_of_mem _ hb))
theorem cr_sortD {X : Cx} (hu : X.A.units + 66 < cLine) : CallR X (.builtin "sorted") (rSortD X.K) := by
  intro pins s σ H vs us Q I r h
  obtain ⟨a, bs, rfl, hs, hd, hal, hk, hl, q⟩ := h
  obtain ⟨its, rv, hli, _⟩ := I.list hs
  rw [Vals.ref1 r]
  have e := vals_each rv
  have er : PySem.W.EachIs (fun v (b : V × PyData) => ∃ as, PySem.Reads s.heap v b.2 as) its bs := each_with e fun v b hb hr => Dp.reads I b.2 b.1 v (hd b hb).1 hr
  refine PySem.W.sorted_data (enc := fun b : V × PyData => b.2) hli.isList e er hal hk hl (fun b hb => by have := (hd b hb).2; omega) fun out ho eo => ?_
  obtain ⟨ep, he'⟩ := PyProof.Rows.sortedAll_at s.heap its out.toArray
  have hlen : ((bs.mergeSort (PySem.W.dataLe false (·.2))).map (·.1)).length ≤ sizeLine := by rw [List.length_map, List.length_mergeSort]; exact hl
  exact ⟨.ref _, upd H (s.heap.objs.size + 1) (.lst ((bs.mergeSort (PySem.W.dataLe false (·.2))).map (·.1))), I.laid (t' := s.toks) (fun _ _ => PyProof.Rows.sortedAll_old) (Nat.le_succ _) ⟨hlen, out, ep, each_vals eo, he'⟩, rfl, q _ (I.hok.fresh (Nat.le_succ _))⟩
theorem RepL.zip : ∀ {ds : List D} {vs : List V}, RepL K G H ds vs → (∀ p ∈ vs.zip ds, Rep K G H p.2 p.1) ∧ ds.length = vs.length
  | [], vs, h => by
    rw [h.unnil]
    exact ⟨fun p hp => (List.not_mem_nil hp).elim, rfl⟩
  | d :: ds, vs, h => by
    obtain ⟨v, w, rfl, h1, h2⟩ := h.uncons
    obtain ⟨h3, h4⟩ := RepL.zip h2
    refine ⟨fun p hp => ?_, congrArg Nat.succ h4⟩
    rcases List.mem_cons.mp (show p ∈ (v, d) :: w.zip ds from hp) with rfl | hp
    · exact h1
    · exact h3 p hp
theorem RepL.ofZip : ∀ {zs : List (V × D)}, (∀ p ∈ zs, Rep K G H p.2 p.1) → RepL K G H (zs.map (·.2)) (zs.map (·.1))
  | [], _ => RepL.nil
  | z :: zs, h => RepL.cons (h z List.mem_cons_self) (RepL.ofZip fun p hp => h p (List.mem_cons_of_mem _ hp))
theorem ok_sorted : PrimOk K .sorted (rSortD K) := by
  intro ds res vs H G Q le rp e k
  replace e : pSorted ds = some res := e
  unfold pSorted at e
  split at e
  · split at e
    · rename_i xs hok
      cases e
      obtain ⟨x, rfl, h1⟩ := rp.one'
      obtain ⟨a, us, rfl, ha, hu⟩ := h1.lst'
      obtain ⟨hz, hlen⟩ := hu.zip
      have hf : (us.zip xs).map (·.1) = us := List.map_fst_zip (by omega)
      have hsd : (us.zip xs).map (·.2) = xs := List.map_snd_zip (by omega)
      unfold sortOk at hok
      simp only [Bool.and_eq_true, List.all_eq_true, Bool.or_eq_true, decide_eq_true_eq] at hok
      obtain ⟨⟨h2, h3⟩, h4⟩ := hok
      have hmem : ∀ b ∈ us.zip xs, b.2 ∈ xs := fun b hb => by
        have := List.mem_map_of_mem (f := (·.2)) hb
        rw [hsd] at this
        exact this
      have hsh : ∀ d ∈ xs, (toPy d).depth ≤ 64 := fun d hd => by
        have := (h2 d hd).1
        unfold SeqAt.shaped at this
        simp only [Bool.and_eq_true, decide_eq_true_eq] at this
        exact this.2
      have emap : ((us.zip xs).map fun b => (b.1, toPy b.2)).map (·.2) = xs.map toPy := by
        rw [List.map_map, ← congrArg (List.map toPy) hsd, List.map_map]
        rfl
      refine ⟨a, (us.zip xs).map fun b => (b.1, toPy b.2), rfl, ?_, ?_, ?_, ?_, ?_, fun p hp => ?_⟩
      · rw [List.map_map]
        show SqL K H a ((us.zip xs).map (·.1))
        rw [hf]
        exact SqL.of (le _ _ ha)
      · intro b hb
        obtain ⟨b0, hb0, rfl⟩ := List.mem_map.mp hb
        exact ⟨(hz b0 hb0).dp le (SeqAt.canLay_of_shaped (h2 _ (hmem b0 hb0)).1), hsh _ (hmem b0 hb0)⟩
      · rw [emap]
        intro d hd d' hd'
        obtain ⟨x, hx, rfl⟩ := List.mem_map.mp hd
        obtain ⟨y, hy, rfl⟩ := List.mem_map.mp hd'
        exact (h2 x hx).2 y hy
      · rw [emap]
        rcases h3 with h3 | h3
        · refine .inl fun d hd => ?_
          obtain ⟨x, hx, rfl⟩ := List.mem_map.mp hd
          have := h3 x hx
          unfold tupNe at this
          split at this
          · exact ⟨_, _, by unfold toPy toPyL; rfl⟩
          · cases this
        · refine .inr fun d hd => ?_
          obtain ⟨x, hx, rfl⟩ := List.mem_map.mp hd
          have := h3 x hx
          cases x <;> first | (cases this; done) | exact ⟨(by unfold toPy; exact fun z => nomatch z), (by unfold toPy; exact fun _ z => nomatch z)⟩
      · rw [List.length_map, List.length_zip]
        omega
      · have e1 : ((us.zip xs).map fun b => (b.1, toPy b.2)).mergeSort (PySem.W.dataLe false (·.2)) = ((us.zip xs).mergeSort fun x y => leD x.2 y.2).map fun b => (b.1, toPy b.2) :=
          (List.map_mergeSort (r := fun x y : V × D => leD x.2 y.2) (s := PySem.W.dataLe false (·.2)) (f := fun b : V × D => (b.1, toPy b.2)) (fun a _ b _ => rfl)).symm
        have e2 : ((us.zip xs).mergeSort fun x y => leD x.2 y.2).map (·.2) = xs.mergeSort leD := by
          rw [List.map_mergeSort (r := fun x y : V × D => leD x.2 y.2) (s := leD) (f := fun b : V × D => b.2) (fun a _ b _ => rfl), hsd]
        rw [e1, List.map_map]
        have := k p (((us.zip xs).mergeSort fun x y => leD x.2 y.2).map (·.1)) hp (by
          rw [← e2]
          exact RepL.ofZip fun b hb => hz b (List.mem_mergeSort.mp hb))
        exact this
    · cases e
  · cases e
def l1y (t : String) (r : List V → Hp → VK → Prop) : List V → Hp → VK → Prop := fun vs H Q => match vs with
  | [x] => r [x, .ty t] H Q
  | _ => False
theorem tyName_ok {d : D} {a : String} {v : V} (le : Le G H) (h : tyName d = some a) (r : Rep K G H d v) : TyX K H v (.type a) := by
  cases d with
  | non => cases h; unfold Rep at r; rw [r]; exact .base .non
  | bl b => cases h; unfold Rep at r; rw [r]; exact .base (.bl b)
  | int b => cases h; unfold Rep at r; rw [r]; exact .base (.int b)
  | str b => cases h; unfold Rep at r; rw [r]; exact .base (.str b)
  | tup xs =>
    cases h
    obtain ⟨a, us, rfl, ha, hu⟩ := r.tup'
    exact .base (.tup ha)
  | lst xs =>
    cases h
    obtain ⟨a, us, rfl, ha, hu⟩ := r.lst'
    exact .base (.lst (le _ _ ha))
  | dT _ _ => cases h
  | dK _ _ => cases h
  | scr _ => cases h
theorem ok_isa {t : String} : PrimOk K (.isa t) (l1y t (rIsi K)) := by
  intro ds res vs H G Q le rp e k
  replace e : pIsa t ds = some res := e
  unfold pIsa at e
  split at e
  · obtain ⟨a, e1, e2⟩ := obind e
    obtain ⟨b, e3, e4⟩ := obind e2
    cases e4
    obtain ⟨x, rfl, h1⟩ := rp.one'
    exact ⟨x, .ty t, .type a, .type t, b, rfl, .ty t, tyName_ok le e1 h1, kit_ty e3, k _ (Rep.ofBl _)⟩
  · cases e
end
end Rg

/-! Rg6: names, constants, and, or, not, a if b else c, chains, displays; the call of a def. -/
namespace Rg
open PySem L2
section
variable {K : PySem.W.Frag} {mg : Str → Option Value} {W : WX} {Γ : Env1} {σ : L2.St} {H : Hp} {Q : VK}
theorem de_var {i : Nat} (h : DE K mg W Γ (.var i) σ H Q) : tVar i σ H Q := by
  obtain ⟨τ, F, A, L, sr, h⟩ := h
  simp only [ev] at h
  cases e : τ[i]? with
  | none => rw [e] at h; exact h.elim
  | some s =>
    rw [e] at h
    obtain ⟨o, A1, h1, h4, _⟩ := sr.slots.at e
    cases s with
    | un => exact h.elim
    | fz d =>
      obtain ⟨_, v, rfl, hr⟩ := h4
      exact ⟨v, h1, h v F H A [] (Post.fz sr hr)⟩
    | ow f d =>
      obtain ⟨v, rfl, hr⟩ := h4
      exact ⟨v, h1, h v F H A [] ⟨Step.refl F H A, sr, ⟨rfl, h1⟩, Ap.nil, fun _ z => (List.not_mem_nil z).elim⟩⟩
    | lk f d => exact h.elim
theorem de_cst {d : D} {v : V} (hv : ∀ F H, Rep K F H d v) (h : DE K mg W Γ (.cst d) σ H Q) : tC v σ H Q := by
  obtain ⟨τ, F, A, L, sr, h⟩ := h
  simp only [ev] at h
  exact h v F H A [] (Post.fz sr (hv F H))
theorem de_glb {x : Str} {d : D} {v : V} (hv : ∀ F H, Rep K F H d v) (h : DE K mg W Γ (.glb x d) σ H Q) : tC v σ H Q := by
  obtain ⟨τ, F, A, L, sr, h⟩ := h
  simp only [ev] at h
  exact h v F H A [] (Post.fz sr (hv F H))
/-- a truth is read -/
theorem bool_read {τ : Sts} {F : Hp} {A B : List Addr} {L : Nat → V} {r : Val} {v : V} {b : Bool} (vr : VR K σ F H r v B) (sr : SR K τ σ F H A L) (e : boolOf τ r = some b) : v = .bl b := by
  unfold boolOf at e
  cases q : dat τ r with
  | none => rw [q] at e; cases e
  | some d =>
    rw [q] at e
    have := vr.read sr q
    cases d with
    | bl c =>
      cases e
      exact this.bl'
    | _ => cases e
theorem de_and {a b : E} (h : DE K mg W Γ (.and a b) σ H Q) : tAndV (DE K mg W Γ a) (DE K mg W Γ b) σ H Q := by
  obtain ⟨τ, F, A, L, sr, h⟩ := h
  refine ⟨τ, F, A, L, sr, ?_⟩
  simp only [ev] at h
  cases e : ev Γ a τ with
  | stuck => rw [e] at h; exact h
  | exc c fs => rw [e] at h; exact h
  | ok x =>
    rw [e] at h
    simp only [R.bind_ok] at h ⊢
    intro v F1 H1 A1 B1 p1
    cases e2 : boolOf x.2 x.1 with
    | none => rw [e2] at h; exact h.elim
    | some c =>
      rw [e2] at h
      simp only [R.of_some, R.bind_ok] at h
      refine ⟨c, bool_read p1.vr p1.sr e2, ?_⟩
      cases c with
      | false =>
        simp only [Bool.false_eq_true, if_false] at h ⊢
        exact h _ F1 H1 A1 [] ⟨p1.st, p1.sr, ⟨rfl, Rep.ofBl _⟩, Ap.nil, fun _ z => (List.not_mem_nil z).elim⟩
      | true =>
        simp only [if_true] at h ⊢
        refine ⟨x.2, F1, A1, L, p1.sr, ?_⟩
        cases e3 : ev Γ b x.2 with
        | stuck => rw [e3] at h; exact h
        | exc c fs =>
          rw [e3] at h
          exact fun F' H' A' s => h F' H' A' (p1.st.trans s)
        | ok y =>
          rw [e3] at h
          intro v2 F2 H2 A2 B2 p2
          refine h v2 F2 H2 A2 B2 ⟨p1.st.trans p2.st, p2.sr, p2.vr, p2.ap, fun b hb => ?_⟩
          rcases p2.bn b hb with z | z
          · exact p1.st.own b z
          · exact .inr (p1.st.dom b z)
/-- one thing behind another -/
theorem Post.trans {τ1 τ2 : Sts} {F F1 F2 H1 H2 : Hp} {A A1 A2 B1 B2 : List Addr} {L : Nat → V} {r1 r2 : Val} {v1 v2 : V} (p1 : Post K σ L F H A τ1 F1 H1 A1 r1 v1 B1) (p2 : Post K σ L F1 H1 A1 τ2 F2 H2 A2 r2 v2 B2) : Post K σ L F H A τ2 F2 H2 A2 r2 v2 B2 :=
  ⟨p1.st.trans p2.st, p2.sr, p2.vr, p2.ap, fun b hb => (p2.bn b hb).elim (fun z => p1.st.own b z) fun z => .inr (p1.st.dom b z)⟩
/-- a step, then a run -/
theorem Step.post {τ1 τ2 : Sts} {F F1 F2 H1 H2 : Hp} {A A1 A2 B2 : List Addr} {L : Nat → V} {r2 : Val} {v2 : V} (s : Step F H A F1 H1 A1) (p2 : Post K σ L F1 H1 A1 τ2 F2 H2 A2 r2 v2 B2) : Post K σ L F H A τ2 F2 H2 A2 r2 v2 B2 :=
  ⟨s.trans p2.st, p2.sr, p2.vr, p2.ap, fun b hb => (p2.bn b hb).elim (fun z => s.own b z) fun z => .inr (s.dom b z)⟩
theorem de_after {b : E} {τ1 : Sts} {F F1 H1 : Hp} {A A1 : List Addr} {L : Nat → V} (st : Step F H A F1 H1 A1) (sr : SR K τ1 σ F1 H1 A1 L)
    (h : match ev Γ b τ1 with
      | .ok r => ∀ v F' H' A' B, Post K σ L F H A r.2 F' H' A' r.1 v B → Q v H'
      | .exc c fs => ∀ F' H' A', Step F H A F' H' A' → XW K mg W c fs σ H'
      | .stuck => False) : DE K mg W Γ b σ H1 Q := by
  refine ⟨τ1, F1, A1, L, sr, ?_⟩
  cases e : ev Γ b τ1 with
  | stuck => rw [e] at h; exact h
  | exc c fs =>
    rw [e] at h
    exact fun F' H' A' s => h F' H' A' (st.trans s)
  | ok y =>
    rw [e] at h
    exact fun v2 F2 H2 A2 B2 p2 => h v2 F2 H2 A2 B2 (st.post (τ1 := τ1) p2)
theorem de_or {a b : E} (h : DE K mg W Γ (.or a b) σ H Q) : tOrV (DE K mg W Γ a) (DE K mg W Γ b) σ H Q := by
  obtain ⟨τ, F, A, L, sr, h⟩ := h
  refine ⟨τ, F, A, L, sr, ?_⟩
  simp only [ev] at h
  cases e : ev Γ a τ with
  | stuck => rw [e] at h; exact h
  | exc c fs => rw [e] at h; exact h
  | ok x =>
    rw [e] at h
    simp only [R.bind_ok] at h ⊢
    intro v F1 H1 A1 B1 p1
    cases e2 : boolOf x.2 x.1 with
    | none => rw [e2] at h; exact h.elim
    | some c =>
      rw [e2] at h
      simp only [R.of_some, R.bind_ok] at h
      refine ⟨c, bool_read p1.vr p1.sr e2, ?_⟩
      cases c with
      | true =>
        simp only [if_true] at h ⊢
        exact h _ F1 H1 A1 [] ⟨p1.st, p1.sr, ⟨rfl, Rep.ofBl _⟩, Ap.nil, fun _ z => (List.not_mem_nil z).elim⟩
      | false =>
        simp only [Bool.false_eq_true, if_false] at h ⊢
        exact de_after p1.st p1.sr h
theorem de_not {a : E} (h : DE K mg W Γ (.not a) σ H Q) : tNotV (DE K mg W Γ a) σ H Q := by
  obtain ⟨τ, F, A, L, sr, h⟩ := h
  refine ⟨τ, F, A, L, sr, ?_⟩
  simp only [ev] at h
  cases e : ev Γ a τ with
  | stuck => rw [e] at h; exact h
  | exc c fs => rw [e] at h; exact h
  | ok x =>
    rw [e] at h
    simp only [R.bind_ok] at h ⊢
    intro v F1 H1 A1 B1 p1
    cases e2 : boolOf x.2 x.1 with
    | none => rw [e2] at h; exact h.elim
    | some c =>
      rw [e2] at h
      simp only [R.of_some, R.bind_ok] at h
      exact ⟨c, bool_read p1.vr p1.sr e2, h _ F1 H1 A1 [] ⟨p1.st, p1.sr, ⟨rfl, Rep.ofBl _⟩, Ap.nil, fun _ z => (List.not_mem_nil z).elim⟩⟩
/-! ### tests -/
theorem dt_of {m : E} {Q : Bool → Hp → Prop} (h : DT K mg W Γ m σ H Q) : DE K mg W Γ m σ H fun v H1 => ∃ c, v = .bl c ∧ Q c H1 := by
  obtain ⟨τ, F, A, L, sr, h⟩ := h
  refine ⟨τ, F, A, L, sr, ?_⟩
  cases e : ev Γ m τ with
  | stuck => rw [e] at h; exact h
  | exc c fs => rw [e] at h; exact h
  | ok x =>
    rw [e] at h
    simp only [R.bind_ok] at h ⊢
    intro v F1 H1 A1 B1 p1
    cases e2 : boolOf x.2 x.1 with
    | none => rw [e2] at h; exact h.elim
    | some c =>
      rw [e2] at h
      simp only [R.of_some, R.bind_ok] at h
      exact ⟨c, bool_read p1.vr p1.sr e2, h F1 H1 A1 p1.st p1.sr⟩
theorem dt_after {b : E} {τ1 : Sts} {F F1 H1 : Hp} {A A1 : List Addr} {L : Nat → V} {Q : Bool → Hp → Prop} (st : Step F H A F1 H1 A1) (sr : SR K τ1 σ F1 H1 A1 L)
    (h : match ev Γ b τ1 >>= fun r => R.of (boolOf r.2 r.1) >>= fun k => R.ok (k, r.2) with
      | .ok r => ∀ F' H' A', Step F H A F' H' A' → SR K r.2 σ F' H' A' L → Q r.1 H'
      | .exc c fs => ∀ F' H' A', Step F H A F' H' A' → XW K mg W c fs σ H'
      | .stuck => False) : DT K mg W Γ b σ H1 Q := by
  refine ⟨τ1, F1, A1, L, sr, ?_⟩
  cases e : (ev Γ b τ1 >>= fun r => R.of (boolOf r.2 r.1) >>= fun k => R.ok (k, r.2)) with
  | stuck => rw [e] at h; exact h
  | exc c fs =>
    rw [e] at h
    exact fun F' H' A' s => h F' H' A' (st.trans s)
  | ok y =>
    rw [e] at h
    exact fun F2 H2 A2 s2 r2 => h F2 H2 A2 (st.trans s2) r2
/-- the first test is asked; what then -/
theorem dt_first {a : E} {Q' : Bool → Hp → Prop} {τ : Sts} {F : Hp} {A : List Addr} {L : Nat → V} (sr : SR K τ σ F H A L)
    (h : match ev Γ a τ with
      | .ok x => match boolOf x.2 x.1 with
        | some c => ∀ F1 H1 A1, Step F H A F1 H1 A1 → SR K x.2 σ F1 H1 A1 L → Q' c H1
        | none => False
      | .exc c fs => ∀ F' H' A', Step F H A F' H' A' → XW K mg W c fs σ H'
      | .stuck => False) : DT K mg W Γ a σ H Q' := by
  refine ⟨τ, F, A, L, sr, ?_⟩
  cases e : ev Γ a τ with
  | stuck => rw [e] at h; exact h
  | exc c fs => rw [e] at h; exact h
  | ok x =>
    rw [e] at h
    simp only [R.bind_ok] at h ⊢
    cases e2 : boolOf x.2 x.1 with
    | none => rw [e2] at h; exact h.elim
    | some c =>
      rw [e2] at h
      simp only [R.of_some, R.bind_ok] at h ⊢
      exact h
theorem dt_and {a b : E} {Q : Bool → Hp → Prop} (h : DT K mg W Γ (.and a b) σ H Q) : tAnd (DT K mg W Γ a) (DT K mg W Γ b) σ H Q := by
  obtain ⟨τ, F, A, L, sr, h⟩ := h
  refine dt_first sr ?_
  simp only [ev] at h
  cases e : ev Γ a τ with
  | stuck => rw [e] at h; exact h
  | exc c fs => rw [e] at h; exact h
  | ok x =>
    rw [e] at h
    simp only [R.bind_ok] at h ⊢
    cases e2 : boolOf x.2 x.1 with
    | none => rw [e2] at h; exact h.elim
    | some c =>
      rw [e2] at h
      simp only [R.of_some, R.bind_ok] at h ⊢
      intro F1 H1 A1 s1 r1
      cases c with
      | false =>
        simp only [Bool.false_eq_true, if_false] at h ⊢
        exact h F1 H1 A1 s1 r1
      | true =>
        simp only [if_true] at h ⊢
        exact dt_after s1 r1 h
theorem dt_or {a b : E} {Q : Bool → Hp → Prop} (h : DT K mg W Γ (.or a b) σ H Q) : tOr (DT K mg W Γ a) (DT K mg W Γ b) σ H Q := by
  obtain ⟨τ, F, A, L, sr, h⟩ := h
  refine dt_first sr ?_
  simp only [ev] at h
  cases e : ev Γ a τ with
  | stuck => rw [e] at h; exact h
  | exc c fs => rw [e] at h; exact h
  | ok x =>
    rw [e] at h
    simp only [R.bind_ok] at h ⊢
    cases e2 : boolOf x.2 x.1 with
    | none => rw [e2] at h; exact h.elim
    | some c =>
      rw [e2] at h
      simp only [R.of_some, R.bind_ok] at h ⊢
      intro F1 H1 A1 s1 r1
      cases c with
      | true =>
        simp only [if_true] at h ⊢
        exact h F1 H1 A1 s1 r1
      | false =>
        simp only [Bool.false_eq_true, if_false] at h ⊢
        exact dt_after s1 r1 h
theorem dt_not {a : E} {Q : Bool → Hp → Prop} (h : DT K mg W Γ (.not a) σ H Q) : tNot (DT K mg W Γ a) σ H Q := by
  obtain ⟨τ, F, A, L, sr, h⟩ := h
  refine dt_first sr ?_
  simp only [ev] at h
  cases e : ev Γ a τ with
  | stuck => rw [e] at h; exact h
  | exc c fs => rw [e] at h; exact h
  | ok x =>
    rw [e] at h
    simp only [R.bind_ok] at h ⊢
    cases e2 : boolOf x.2 x.1 with
    | none => rw [e2] at h; exact h.elim
    | some c =>
      rw [e2] at h
      simp only [R.of_some, R.bind_ok] at h ⊢
      exact h
theorem de_ite {c a b : E} (h : DE K mg W Γ (.ite c a b) σ H Q) : tIf (DT K mg W Γ c) (DE K mg W Γ a) (DE K mg W Γ b) σ H Q := by
  obtain ⟨τ, F, A, L, sr, h⟩ := h
  refine dt_first sr ?_
  simp only [ev] at h
  cases e : ev Γ c τ with
  | stuck => rw [e] at h; exact h
  | exc c fs => rw [e] at h; exact h
  | ok x =>
    rw [e] at h
    simp only [R.bind_ok] at h ⊢
    cases e2 : boolOf x.2 x.1 with
    | none => rw [e2] at h; exact h.elim
    | some c =>
      rw [e2] at h
      simp only [R.of_some, R.bind_ok] at h ⊢
      intro F1 H1 A1 s1 r1
      cases c with
      | true =>
        simp only [if_true] at h ⊢
        exact de_after s1 r1 h
      | false =>
        simp only [Bool.false_eq_true, if_false] at h ⊢
        exact de_after s1 r1 h
/-! ### a chain of two comparisons -/
theorem de_chain {p q : Prim} {r r' : R2} {a b c : E} (ok : PrimOk K p (l2 r)) (ok' : PrimOk K q (l2 r')) (h : DE K mg W Γ (.chain p q a b c) σ H Q) : tChain r r' (DE K mg W Γ a) (DE K mg W Γ b) (DE K mg W Γ c) σ H Q := by
  obtain ⟨τ, F, A, L, sr, h⟩ := h
  refine ⟨τ, F, A, L, sr, ?_⟩
  simp only [ev] at h
  cases e : ev Γ a τ with
  | stuck => rw [e] at h; exact h
  | exc c fs => rw [e] at h; exact h
  | ok x =>
    rw [e] at h
    simp only [R.bind_ok] at h ⊢
    intro v F1 H1 A1 B1 p1
    refine ⟨x.2, F1, A1, L, p1.sr, ?_⟩
    cases e2 : ev Γ b x.2 with
    | stuck => rw [e2] at h; exact h
    | exc c fs =>
      rw [e2] at h
      exact fun F' H' A' s => h F' H' A' (p1.st.trans s)
    | ok y =>
      rw [e2] at h
      simp only [R.bind_ok] at h ⊢
      intro w F2 H2 A2 B2 p2
      have pl := PostL.cons p1 (PostL.cons p2 (PostL.nil p2.sr))
      cases e3 : dats y.2 [x.1, y.1] with
      | none => rw [e3] at h; exact h.elim
      | some ds =>
        rw [e3] at h
        simp only [R.of_some, R.bind_ok] at h
        have rd := pl.vr.reads pl.sr e3
        cases e4 : primD p ds with
        | none => rw [e4] at h; exact h.elim
        | some res =>
          rw [e4] at h
          simp only [R.of_some, R.bind_ok] at h
          refine ok ds res [v, w] H2 H2 _ (Le.refl H2) rd e4 ?_
          cases res with
          | nt _ => exact h.elim
          | nu _ => exact h.elim
          | old d =>
            intro z hz
            cases d with
            | bl k =>
              refine ⟨k, hz.bl', ?_⟩
              cases k with
              | false =>
                simp only [Bool.false_eq_true, if_false]
                exact h _ F2 H2 A2 [] ⟨pl.st, pl.sr, ⟨rfl, Rep.ofBl _⟩, Ap.nil, fun _ z => (List.not_mem_nil z).elim⟩
              | true =>
                simp only [if_true]
                simp only at h
                refine ⟨y.2, F2, A2, L, p2.sr, ?_⟩
                cases e5 : ev Γ c y.2 with
                | stuck => rw [e5] at h; exact h
                | exc c fs =>
                  rw [e5] at h
                  exact fun F' H' A' s => h F' H' A' ((p1.st.trans p2.st).trans s)
                | ok u =>
                  rw [e5] at h
                  simp only [R.bind_ok] at h ⊢
                  intro w2 F3 H3 A3 B3 p3
                  have pm := PostL.cons p2 (PostL.cons p3 (PostL.nil p3.sr))
                  cases e6 : dats u.2 [y.1, u.1] with
                  | none => rw [e6] at h; exact h.elim
                  | some es =>
                    rw [e6] at h
                    simp only [R.of_some, R.bind_ok] at h
                    have rd2 := pm.vr.reads pm.sr e6
                    cases e7 : primD q es with
                    | none => rw [e7] at h; exact h.elim
                    | some res2 =>
                      rw [e7] at h
                      simp only [R.of_some, R.bind_ok] at h
                      refine ok' es res2 [w, w2] H3 H3 _ (Le.refl H3) rd2 e7 ?_
                      have st3 : Step F H A F3 H3 A3 := (p1.st.trans p2.st).trans p3.st
                      cases res2 with
                      | old d =>
                        by_cases i : imm d = true
                        · simp only [resV, i, Bool.false_or, if_true, R.of_some, R.bind_ok] at h
                          exact fun v hv => h v F3 H3 A3 [] ⟨st3, p3.sr, ⟨rfl, hv.imm (Tk.refl H3) i⟩, Ap.nil, fun _ z => (List.not_mem_nil z).elim⟩
                        · simp only [resV, i, Bool.false_or, R.of_none, R.bind_stuck] at h
                          exact h.elim
                      | nt es =>
                        by_cases i : immL es = true
                        · simp only [resV, i, Bool.false_or, if_true, R.of_some, R.bind_ok] at h
                          intro v H4 hh hv
                          have i2 : imm (.tup es) = true := by unfold imm; exact i
                          rcases hh with rfl | ⟨p, ws, hp, rfl⟩
                          · exact h v F3 _ A3 [] ⟨st3, p3.sr, ⟨rfl, hv.imm (Tk.refl _) i2⟩, Ap.nil, fun _ z => (List.not_mem_nil z).elim⟩
                          · exact h v F3 _ A3 [] ⟨st3.withLaid hp, p3.sr.step hp, ⟨rfl, hv.imm (Tk.refl _) i2⟩, Ap.nil, fun _ z => (List.not_mem_nil z).elim⟩
                        · simp only [resV, i, Bool.false_or, R.of_none, R.bind_stuck] at h
                          exact h.elim
                      | nu es =>
                        by_cases i : immL es = true
                        · simp only [resV, i, if_true, R.of_some, R.bind_ok] at h
                          intro p ws hp hw
                          have off := p3.sr.off_none hp
                          refine h _ F3 _ A3 [p] ⟨st3.withLaid hp, p3.sr.step hp, Own.newList hp (hw.imm (Tk.refl H3) i) fun _ => i, Ap.one off, fun b hb => ?_⟩
                          rw [List.mem_singleton.mp hb]
                          exact .inr (st3.dom p hp)
                        · simp only [resV, i, R.of_none, R.bind_stuck] at h
                          exact h.elim
            | _ => exact h.elim
end
end Rg

/-! Rg7: values that are kept; displays; what changes a slot's own list. -/
namespace Rg
open PySem L2
section
variable {K : PySem.W.Frag} {mg : Str → Option Value} {W : WX} {Γ : Env1} {σ : L2.St} {F H : Hp} {A : List Addr} {L : Nat → V} {τ : Sts} {Q : VK}
theorem SR.out {i : Nat} {f : Bool} {d : D} (r : SR K τ σ F H A L) (e : τ[i]? = some (.ow f d)) : ∃ v A1 Ar, σ[i]? = some (some v) ∧ Own K F H f d v A1 ∧ A.Perm (A1 ++ Ar) ∧ SR K (τ.set i .un) σ F H Ar L ∧ Ap F Ar A1 ∧
    SR K (τ.set i (.lk f d)) σ F H Ar (fun j => if j = i then v else L j) := by
  obtain ⟨o, A1, Ar, h1, h2, h3, h5⟩ := r.slots.out e
  obtain ⟨v, rfl, h6⟩ := h2
  have nd : (A1 ++ Ar).Nodup := h3.nodup_iff.mp r.nd
  have nd' := List.nodup_append.mp nd
  have off : ∀ a, a ∈ A1 ++ Ar → F a = none := fun a ha => r.off a (h3.mem_iff.mpr ha)
  have offR : ∀ a ∈ Ar, F a = none := fun a ha => off a (List.mem_append_right _ ha)
  refine ⟨v, A1, Ar, h1, h6, h3, ⟨r.le, h5 L .un (fun _ _ => rfl) rfl, nd'.2.1, offR⟩, ⟨nd'.1, fun b hb z => nd'.2.2 b hb b z rfl, fun b hb => off b (List.mem_append_left _ hb)⟩, ⟨r.le, h5 _ _ (fun j hj => if_neg hj) ⟨rfl, ?_⟩, nd'.2.1, offR⟩⟩
  rw [if_pos rfl]
/-- a slot is given what is one's own -/
theorem SR.give {i : Nat} {f : Bool} {d : D} {v : V} {A1 : List Addr} {s0 : Slot} {M : Nat → V} (r : SR K τ σ F H A L) (e : τ[i]? = some s0) (he : ∀ f d, s0 ≠ .ow f d) (hM : ∀ j, j ≠ i → M j = L j) (h : Own K F H f d v A1) (ap : Ap F A A1) : SR K (τ.set i (.ow f d)) (σ.set i (some v)) F H (A1 ++ A) M := by
  have h1 := r.slots.into (s := .ow f d) (o := some v) (A1 := A1) e he hM ⟨v, rfl, h⟩
  refine ⟨r.le, h1, ?_, fun a ha => ?_⟩
  · exact List.nodup_append.mpr ⟨ap.nd, r.nd, fun a ha b hb z => by
      subst z
      exact ap.a a ha hb⟩
  · rcases List.mem_append.mp ha with ha | ha
    · exact ap.off a ha
    · exact r.off a ha
/-- a slot that owns nothing is given what is shared -/
theorem SR.giveFz {i : Nat} {d : D} {v : V} {s0 : Slot} (r : SR K τ σ F H A L) (e : τ[i]? = some s0) (he : ∀ f d, s0 ≠ .ow f d) (h : Rep K F H d v) : SR K (τ.set i (.fz d)) (σ.set i (some v)) F H A L :=
  ⟨r.le, r.slots.into (s := .fz d) (o := some v) (A1 := []) e he (fun _ _ => rfl) ⟨rfl, v, rfl, h⟩, r.nd, r.off⟩
theorem SR.perm {B : List Addr} (r : SR K τ σ F H A L) (p : A.Perm B) : SR K τ σ F H B L :=
  ⟨r.le, r.slots.perm p, p.nodup_iff.mp r.nd, fun a ha => r.off a (p.mem_iff.mpr ha)⟩
/-- a value is kept -/
theorem sto_ok {r q : Val} {τ' : Sts} {v : V} {B : List Addr} (sr : SR K τ σ F H A L) (vr : VR K σ F H r v B) (ap : Ap F A B) (e : sto τ r = some (q, τ')) :
    ∃ A' B', SR K τ' σ F H A' L ∧ VR K σ F H q v B' ∧ Ap F A' B' ∧ (∀ a ∈ A', a ∈ A) ∧ (∀ b ∈ B', b ∈ B ∨ b ∈ A) ∧ noSlot q = true := by
  cases r with
  | fz d =>
    cases e
    exact ⟨A, B, sr, vr, ap, fun _ h => h, fun _ h => .inl h, rfl⟩
  | own f d =>
    cases e
    exact ⟨A, B, sr, vr, ap, fun _ h => h, fun _ h => .inl h, rfl⟩
  | slot i =>
    simp only [sto] at e
    cases h : τ[i]? with
    | none => rw [h] at e; cases e
    | some s =>
      rw [h] at e
      cases s with
      | ow f d =>
        cases e
        obtain ⟨w, A1, Ar, h1, h2, h3, h4, h5, _⟩ := sr.out h
        have : w = v := Option.some.inj (Option.some.inj (h1.symm.trans vr.2))
        subst this
        exact ⟨Ar, A1, h4, h2, h5, fun a ha => h3.mem_iff.mpr (List.mem_append_right _ ha), fun b hb => .inr (h3.mem_iff.mpr (List.mem_append_left _ hb)), rfl⟩
      | _ => cases e
theorem stos_ok : ∀ {rs qs : List Val} {τ τ' : Sts} {vs : List V} {A B : List Addr}, SR K τ σ F H A L → VRL K σ F H rs vs B → Ap F A B → stos τ rs = some (qs, τ') →
    ∃ A' B', SR K τ' σ F H A' L ∧ VRL K σ F H qs vs B' ∧ Ap F A' B' ∧ (∀ a ∈ A', a ∈ A) ∧ (∀ b ∈ B', b ∈ B ∨ b ∈ A) ∧ qs.all noSlot = true
  | [], _, τ, _, vs, A, B, sr, vr, ap, e => by
    cases e
    exact ⟨A, B, sr, vr, ap, fun _ h => h, fun _ h => .inl h, rfl⟩
  | r :: rs, qs, τ, τ', vs, A, B, sr, vr, ap, e => by
    obtain ⟨v, w, B1, B2, rfl, rfl, h1, h2⟩ := vr
    unfold stos at e
    obtain ⟨p, e1, e2⟩ := obind e
    obtain ⟨q, e3, e4⟩ := obind e2
    cases e4
    obtain ⟨A1, C1, s1, v1, a1, z1, z2, n1⟩ := sto_ok sr h1 ap.left e1
    have ap2 : Ap F A1 B2 := ⟨ap.right.nd, fun b hb z => ap.right.a b hb (z1 b z), ap.right.off⟩
    obtain ⟨A2, C2, s2, v2, a2, z3, z4, n2⟩ := stos_ok s1 h2 ap2 e3
    have dj : ∀ b ∈ C1, b ∉ C2 := fun b hb z => by
      rcases z4 b z with z | z
      · rcases z2 b hb with y | y
        · exact (List.nodup_append.mp ap.nd).2.2 b y b z rfl
        · exact ap.right.a b z y
      · exact a1.a b hb z
    have a1' : Ap F A2 C1 := ⟨a1.nd, fun b hb z => a1.a b hb (z3 b z), a1.off⟩
    refine ⟨A2, C1 ++ C2, s2, ⟨v, w, C1, C2, rfl, rfl, v1, v2⟩, a1'.app a2 dj, fun a ha => z1 a (z3 a ha), fun b hb => ?_, by simp [n1, n2]⟩
    rcases List.mem_append.mp hb with hb | hb
    · rcases z2 b hb with y | y
      · exact .inl (List.mem_append_left _ y)
      · exact .inr y
    · rcases z4 b hb with y | y
      · exact .inl (List.mem_append_right _ y)
      · exact .inr (z1 b y)
theorem dats_kept {τ : Sts} : ∀ {qs : List Val}, qs.all noSlot = true → dats τ qs = some (qs.map vD)
  | [], _ => rfl
  | q :: qs, h => by
    simp only [List.all_cons, Bool.and_eq_true] at h
    have ih := dats_kept (τ := τ) h.2
    cases q with
    | fz d => simp [dats, dat, ih, vD]
    | own f d => simp [dats, dat, ih, vD]
    | slot i => cases h.1
theorem VRL.kids {f : Bool} : ∀ {qs : List Val} {vs : List V} {B : List Addr}, VRL K σ F H qs vs B → qs.all noSlot = true → (f = true → qs.all vFull = true) → Kids K F H f (qs.map vD) vs B
  | [], _, _, h, _, _ => by
    obtain ⟨rfl, rfl⟩ := h
    exact Kids.nil
  | q :: qs, _, _, h, n, g => by
    obtain ⟨v, w, B1, B2, rfl, rfl, h1, h2⟩ := h
    simp only [List.all_cons, Bool.and_eq_true] at n g
    refine Kids.cons ?_ (VRL.kids h2 n.2 fun z => (g z).2)
    cases q with
    | fz d => exact .inl ⟨h1.1, h1.2, fun z => (g z).1⟩
    | own f' d => exact .inr (Own.to h1 fun z => (g z).1)
    | slot i => cases n.1
theorem VRL.len : ∀ {qs : List Val} {vs : List V} {B : List Addr}, VRL K σ F H qs vs B → qs.length = vs.length
  | [], _, _, h => by
    obtain ⟨rfl, _⟩ := h
    rfl
  | q :: qs, _, _, h => by
    obtain ⟨v, w, B1, B2, rfl, _, _, h2⟩ := h
    simp [VRL.len h2]
/-- args, kept -/
def evk (Γ : Env1) (args : E) (τ : Sts) : R (List Val × Sts) := evs Γ args τ >>= fun r => R.of (stos r.2 r.1)
theorem da_kept {args : E} {Q : List V → Hp → Prop} (sr : SR K τ σ F H A L)
    (h : match evs Γ args τ >>= fun r => R.of (stos r.2 r.1) with
      | .ok q => ∀ vs F' H' A' B, PostL K σ L F H A q.2 F' H' A' q.1 vs B → q.1.all noSlot = true → Q vs H'
      | .exc c fs => ∀ F' H' A', Step F H A F' H' A' → XW K mg W c fs σ H'
      | .stuck => False) : DA K mg W Γ args σ H Q := by
  refine ⟨τ, F, A, L, sr, ?_⟩
  cases e : evs Γ args τ with
  | stuck => rw [e] at h; exact h
  | exc c fs => rw [e] at h; exact h
  | ok x =>
    rw [e] at h
    simp only [R.bind_ok] at h ⊢
    intro vs F1 H1 A1 B1 pl
    cases e2 : stos x.2 x.1 with
    | none => rw [e2] at h; exact h.elim
    | some q =>
      rw [e2] at h
      simp only [R.of_some] at h
      obtain ⟨A2, B2, s2, v2, a2, z1, z2, n2⟩ := stos_ok pl.sr pl.vr pl.ap (show stos x.2 x.1 = some (q.1, q.2) from e2)
      refine h vs F1 H1 A2 B2 ⟨⟨pl.st.mono, pl.st.fresh, pl.st.frame, fun a ha => pl.st.own a (z1 a ha), pl.st.dom, pl.st.tk⟩, s2, v2, a2, fun b hb => ?_⟩ n2
      rcases z2 b hb with z | z
      · exact pl.bn b z
      · exact pl.st.own b z
theorem de_tup {args : E} (h : DE K mg W Γ (.tup args) σ H Q) : tTup (DA K mg W Γ args) σ H Q := by
  obtain ⟨τ, F, A, L, sr, h⟩ := h
  refine da_kept sr ?_
  simp only [ev] at h
  cases e : evs Γ args τ with
  | stuck => rw [e] at h; exact h
  | exc c fs => rw [e] at h; exact h
  | ok x =>
    rw [e] at h
    simp only [R.bind_ok] at h ⊢
    cases e2 : stos x.2 x.1 with
    | none => rw [e2] at h; exact h.elim
    | some q =>
      rw [e2] at h
      simp only [R.of_some, R.bind_ok] at h ⊢
      intro vs F1 H1 A1 B1 pl ns
      by_cases hz : q.1.length ≤ sizeLine
      · rw [if_pos hz] at h
        refine ⟨by rw [← pl.vr.len]; exact hz, fun p hp => ?_⟩
        have srF := pl.sr.frozen pl.ap
        have rp : RepL K (frzB F1 H1 B1) H1 (q.1.map vD) vs := VRL.frozen (τ := q.2) (frzB_le pl.ap.off) (fun b hb => frzB_in hb) pl.vr (dats_kept ns) ns
        exact h _ (frzB F1 H1 B1) _ A1 [] ⟨(pl.st.frozen pl.ap.off pl.bn).withLaid hp, srF.step hp, ⟨rfl, Rep.ofTup upd_same (rp.mono (Le.refl _) (upd_tk hp))⟩, Ap.nil, fun _ z => (List.not_mem_nil z).elim⟩
      · rw [if_neg hz] at h
        exact h.elim
theorem de_lst {args : E} (h : DE K mg W Γ (.lst args) σ H Q) : tLst (DA K mg W Γ args) σ H Q := by
  obtain ⟨τ, F, A, L, sr, h⟩ := h
  refine da_kept sr ?_
  simp only [ev] at h
  cases e : evs Γ args τ with
  | stuck => rw [e] at h; exact h
  | exc c fs => rw [e] at h; exact h
  | ok x =>
    rw [e] at h
    simp only [R.bind_ok] at h ⊢
    cases e2 : stos x.2 x.1 with
    | none => rw [e2] at h; exact h.elim
    | some q =>
      rw [e2] at h
      simp only [R.of_some, R.bind_ok] at h ⊢
      intro vs F1 H1 A1 B1 pl ns
      by_cases hz : q.1.length ≤ sizeLine
      · rw [if_pos hz] at h
        refine ⟨by rw [← pl.vr.len]; exact hz, fun p hp => ?_⟩
        have kd : Kids K F1 H1 (q.1.all vFull) (q.1.map vD) vs B1 := pl.vr.kids ns fun z => z
        have nb : ∀ b ∈ B1, b ≠ p := fun b hb z => by
          obtain ⟨o, e, _⟩ := pl.vr.dom b hb
          rw [z, hp] at e
          cases e
        have kd2 : Kids K F1 (upd H1 p (.lst vs)) (q.1.all vFull) (q.1.map vD) vs B1 := kd.mono (Le.refl _) (upd_tk hp) fun b hb => upd_ne (nb b hb)
        have off := pl.sr.off_none hp
        refine h _ F1 _ A1 (p :: B1) ⟨pl.st.withLaid hp, pl.sr.step hp, ?_, ?_, fun b hb => ?_⟩
        · show Own K F1 _ _ (.lst _) _ _
          unfold Own
          exact ⟨p, vs, B1, rfl, upd_same, rfl, kd2⟩
        · exact (Ap.one off).app pl.ap fun b hb z => nb b z (List.mem_singleton.mp hb)
        · rcases List.mem_cons.mp hb with rfl | hb
          · exact .inr (pl.st.dom _ hp)
          · exact pl.bn b hb
      · rw [if_neg hz] at h
        exact h.elim
theorem de_dnewT (h : DE K mg W Γ .dnewT σ H Q) : tDNewT σ H Q := by
  obtain ⟨τ, F, A, L, sr, h⟩ := h
  simp only [ev] at h
  intro p hp
  refine h _ F _ A [p] ⟨Step.laid hp, sr.step hp, ?_, Ap.one (sr.off_none hp), fun b hb => ?_⟩
  · show Own K F _ _ (.dT [] []) _ _
    unfold Own
    exact ⟨p, [], [], rfl, upd_same, rfl, rfl, Kids.nil⟩
  · rw [List.mem_singleton.mp hb]
    exact .inr hp
theorem de_dnewK (h : DE K mg W Γ .dnewK σ H Q) : tDNewK σ H Q := by
  obtain ⟨τ, F, A, L, sr, h⟩ := h
  simp only [ev] at h
  intro p hp
  refine h _ F _ A [p] ⟨Step.laid hp, sr.step hp, ?_, Ap.one (sr.off_none hp), fun b hb => ?_⟩
  · show Own K F _ _ (.dK [] []) _ _
    unfold Own
    exact ⟨p, [], [], rfl, upd_same, rfl, rfl, Kids.nil⟩
  · rw [List.mem_singleton.mp hb]
    exact .inr hp
/-! ### a slot's own thing is changed -/
theorem own_tk {a : Addr} {o u : HO} (h : H a = some u) (hn : Nt u) : Tk H (upd H a o) := fun b xs e => by
  by_cases z : b = a
  · subst z
    rw [h] at e
    cases e
    exact hn.elim
  · rw [upd_ne z]
    exact e
/-- the slot i's thing at a, of the addresses a :: C, becomes o with new items' addresses: all else stands -/
theorem SR.change {i : Nat} {f f' : Bool} {d d' : D} {v : V} {a : Addr} {C A1' Ar B : List Addr} {u o : HO} (hv : σ[i]? = some (some v)) (hs : ∃ s, (τ.set i .un)[i]? = some s) (sr : SR K (τ.set i .un) σ F H Ar L) (ap : Ap F Ar (a :: C)) (ha : H a = some u) (hu : Nt u)
    (apB : Ap F Ar A1') (new : Own K F (upd H a o) f' d' v A1') : SR K (τ.set i (.ow f' d')) σ F (upd H a o) (A1' ++ Ar) L := by
  have na : ∀ b ∈ Ar, b ≠ a := fun b hb z => by
    subst z
    exact ap.a b List.mem_cons_self hb
  have fa : F a = none := ap.off a List.mem_cons_self
  have sr2 : SR K (τ.set i .un) σ F (upd H a o) Ar L := sr.keep (Le.refl F) (fun b q e => by
    rw [upd_ne (fun z => by rw [z, fa] at e; cases e)]
    exact sr.le b q e) (own_tk ha hu) (fun b hb => upd_ne (na b hb)) sr.off
  have hi : (τ.set i .un)[i]? = some .un := by
    obtain ⟨s, hs⟩ := hs
    have : i < (τ.set i Slot.un).length := (List.getElem?_eq_some_iff.mp hs).1
    rw [List.getElem?_set_self (by simpa using this)]
  have g := sr2.give (M := L) hi (fun _ _ z => by cases z) (fun _ _ => rfl) new apB
  rw [set_back hv, List.set_set] at g
  exact g
end
end Rg

/-! Rg8: append, pop, insert, clear, xs[i] = v, d[k] = v of a slot's own thing. -/
namespace Rg
open PySem L2
section
variable {K : PySem.W.Frag} {mg : Str → Option Value} {W : WX} {Γ : Env1} {σ : L2.St} {F H : Hp} {A : List Addr} {L : Nat → V} {τ : Sts} {Q : VK}
/-- the slot's own list at a, the items us: it may become any list whose items are told -/
structure Chg (K : PySem.W.Frag) (σ : L2.St) (L : Nat → V) (F H : Hp) (A : List Addr) (τ2 : Sts) (F1 H1 : Hp) (i : Nat) (f : Bool) (xs : List D) (B : List Addr) (a : Addr) (us : List V) (C : List Addr) : Prop where
  v : σ[i]? = some (some (.ref a))
  at_ : H1 a = some (.lst us)
  kids : Kids K F1 H1 f xs us C
  nd : (C ++ B).Nodup
  go : ∀ f' xs' us' C', Kids K F1 H1 f' xs' us' C' → C'.Nodup → (∀ b ∈ C', b ∈ C ++ B) → ∃ A2, Step F H A F1 (upd H1 a (.lst us')) A2 ∧ SR K (τ2.set i (.ow f' (.lst xs'))) σ F1 (upd H1 a (.lst us')) A2 L ∧ ∀ b ∈ C ++ B, b ∉ C' → b ∉ A2
theorem chg {τ2 : Sts} {F1 H1 : Hp} {A1 B : List Addr} {qs : List Val} {vs : List V} {i : Nat} {f : Bool} {xs : List D} (pl : PostL K σ L F H A τ2 F1 H1 A1 qs vs B) (e : τ2[i]? = some (.ow f (.lst xs))) : ∃ a us C, Chg K σ L F H A τ2 F1 H1 i f xs B a us C := by
  obtain ⟨v, A0, Ar, hv, ow, pm, sr, ap, _⟩ := pl.sr.out e
  unfold Own at ow
  obtain ⟨a, us, C, rfl, ha, rfl, kd⟩ := ow
  have inA : ∀ b ∈ a :: C, b ∈ A1 := fun b hb => pm.mem_iff.mpr (List.mem_append_left _ hb)
  have arA : ∀ b ∈ Ar, b ∈ A1 := fun b hb => pm.mem_iff.mpr (List.mem_append_right _ hb)
  have nB : ∀ b ∈ B, b ∉ A1 := pl.ap.a
  have ndC := List.nodup_cons.mp ap.nd
  have hs : ∃ s, (τ2.set i Slot.un)[i]? = some s := ⟨.un, by
    have := (List.getElem?_eq_some_iff.mp e).1
    rw [List.getElem?_set_self this]⟩
  refine ⟨a, us, C, hv, ha, kd, ?_, fun f' xs' us' C' k' n' s' => ?_⟩
  · exact List.nodup_append.mpr ⟨ndC.2, pl.ap.nd, fun x hx y hy z => nB y hy (by rw [← z]; exact inA x (List.mem_cons_of_mem _ hx))⟩
  · have na : ∀ b ∈ C', b ≠ a := fun b hb z => by
      rcases List.mem_append.mp (s' b hb) with q | q
      · exact ndC.1 (z ▸ q)
      · exact nB b q (z ▸ inA a List.mem_cons_self)
    have tk : Tk H1 (upd H1 a (.lst us')) := own_tk ha trivial
    have kd' : Kids K F1 (upd H1 a (.lst us')) f' xs' us' C' := k'.mono (Le.refl _) tk fun b hb => upd_ne (na b hb)
    have ap' : Ap F1 Ar (a :: C') := by
      refine ⟨List.nodup_cons.mpr ⟨fun z => na a z rfl, n'⟩, fun b hb => ?_, fun b hb => ?_⟩
      · rcases List.mem_cons.mp hb with rfl | hb
        · exact ap.a b List.mem_cons_self
        · rcases List.mem_append.mp (s' b hb) with q | q
          · exact ap.a b (List.mem_cons_of_mem _ q)
          · exact fun z => nB b q (arA b z)
      · rcases List.mem_cons.mp hb with rfl | hb
        · exact ap.off b List.mem_cons_self
        · rcases List.mem_append.mp (s' b hb) with q | q
          · exact ap.off b (List.mem_cons_of_mem _ q)
          · exact pl.ap.off b q
    have new : Own K F1 (upd H1 a (.lst us')) f' (.lst xs') (.ref a) (a :: C') := by
      unfold Own
      exact ⟨a, us', C', rfl, upd_same, rfl, kd'⟩
    have sr2 := SR.change (i := i) (f := f) (d := .lst xs) (B := B) hv hs sr ap ha trivial ap' new
    refine ⟨(a :: C') ++ Ar, ⟨pl.st.mono, pl.st.fresh, fun b o h n => ?_, fun b hb => ?_, fun b h => ?_, pl.st.tk.trans tk⟩, sr2, fun b hb n z => ?_⟩
    · have : b ≠ a := fun z => by
        subst z
        rcases pl.st.own b (inA b List.mem_cons_self) with q | q
        · exact n q
        · rw [h] at q
          cases q
      rw [upd_ne this]
      exact pl.st.frame b o h n
    · rcases List.mem_append.mp hb with hb | hb
      · rcases List.mem_cons.mp hb with rfl | hb
        · exact pl.st.own b (inA b List.mem_cons_self)
        · rcases List.mem_append.mp (s' b hb) with q | q
          · exact pl.st.own b (inA b (List.mem_cons_of_mem _ q))
          · exact pl.bn b q
      · exact pl.st.own b (arA b hb)
    · exact pl.st.dom b (upd_dom h)
    · rcases List.mem_append.mp z with z | z
      · rcases List.mem_cons.mp z with rfl | z
        · rcases List.mem_append.mp hb with q | q
          · exact ndC.1 q
          · exact nB b q (inA b List.mem_cons_self)
        · exact n z
      · rcases List.mem_append.mp hb with q | q
        · exact ap.a b (List.mem_cons_of_mem _ q) z
        · exact nB b q (arA b z)
/-- the walk up to the change -/
theorem de_mut {m : Mut1} {i : Nat} {args : E} {G : Addr → List V → Hp → Prop}
    (hg : ∀ (a : Addr) (us : List V) (C B : List Addr) (f : Bool) (xs : List D) (qs : List Val) (vs : List V) (z : Bool × List D × D) (τ0 τ2 : Sts) (F0 F1 H0 H1 : Hp) (A0 : List Addr) (L0 : Nat → V),
      Chg K σ L0 F0 H0 A0 τ2 F1 H1 i f xs B a us C → VRL K σ F1 H1 qs vs B → qs.all noSlot = true → mutL m f xs qs = some z →
      (∀ v F' H' A' B', Post K σ L0 F0 H0 A0 (τ2.set i (.ow z.1 (.lst z.2.1))) F' H' A' (.fz z.2.2) v B' → Q v H') → G a vs H1)
    (h : DE K mg W Γ (.mut m i args) σ H Q) : ∃ a xs, σ[i]? = some (some (.ref a)) ∧ H a = some (.lst xs) ∧ DA K mg W Γ args σ H fun vs H1 => G a vs H1 := by
  obtain ⟨τ, F, A, L, sr, h⟩ := h
  simp only [ev] at h
  cases e0 : τ[i]? with
  | none => rw [e0] at h; exact h.elim
  | some s =>
    rw [e0] at h
    cases s with
    | ow f0 d0 =>
      cases d0 with
      | lst ds0 =>
        obtain ⟨o, A0, h1, h2, _⟩ := sr.slots.at e0
        obtain ⟨v, rfl, ow⟩ := h2
        unfold Own at ow
        obtain ⟨a, us, C, rfl, ha, _, _⟩ := ow
        refine ⟨a, us, h1, ha, da_kept sr ?_⟩
        simp only at h
        cases e : evs Γ args τ with
        | stuck => rw [e] at h; exact h
        | exc c fs => rw [e] at h; exact h
        | ok x =>
          rw [e] at h
          simp only [R.bind_ok] at h ⊢
          cases e2 : stos x.2 x.1 with
          | none => rw [e2] at h; exact h.elim
          | some q =>
            rw [e2] at h
            simp only [R.of_some, R.bind_ok] at h ⊢
            intro vs F1 H1 A1 B1 pl ns
            cases e3 : q.2[i]? with
            | none => rw [e3] at h; exact h.elim
            | some s2 =>
              rw [e3] at h
              cases s2 with
              | ow f d =>
                cases d with
                | lst xs =>
                  simp only at h
                  cases e4 : mutL m f xs q.1 with
                  | none => rw [e4] at h; exact h.elim
                  | some z =>
                    rw [e4] at h
                    simp only [R.of_some, R.bind_ok] at h
                    obtain ⟨a2, us2, C2, cg⟩ := chg pl e3
                    have : a2 = a := V.ref.inj (Option.some.inj (Option.some.inj (cg.v.symm.trans h1)))
                    subst this
                    exact hg a2 us2 C2 B1 f xs q.1 vs z τ q.2 F F1 H H1 A L cg pl.vr ns e4 h
                | _ => exact h.elim
              | _ => exact h.elim
      | _ => exact h.elim
    | _ => exact h.elim
theorem Chg.post {τ2 : Sts} {F1 H1 : Hp} {i : Nat} {f : Bool} {xs : List D} {B C : List Addr} {a : Addr} {us : List V} (c : Chg K σ L F H A τ2 F1 H1 i f xs B a us C) {f' : Bool} {xs' : List D} {us' : List V} {C' : List Addr} {y : D} {w : V} (k : Kids K F1 H1 f' xs' us' C') (n : C'.Nodup) (s : ∀ b ∈ C', b ∈ C ++ B)
    (hy : imm y = true) (hr : Rep K F1 H1 y w) : ∃ A2, Post K σ L F H A (τ2.set i (.ow f' (.lst xs'))) F1 (upd H1 a (.lst us')) A2 (.fz y) w [] := by
  obtain ⟨A2, h1, h2, _⟩ := c.go f' xs' us' C' k n s
  exact ⟨A2, h1, h2, ⟨rfl, hr.imm (own_tk c.at_ trivial) hy⟩, Ap.nil, fun _ z => (List.not_mem_nil z).elim⟩
theorem VRL.one {q : Val} {vs : List V} {B : List Addr} (h : VRL K σ F H [q] vs B) : ∃ v, vs = [v] ∧ VR K σ F H q v B := by
  obtain ⟨v, w, B1, B2, rfl, rfl, h1, h2⟩ := h
  obtain ⟨rfl, rfl⟩ := h2
  rw [List.append_nil]
  exact ⟨v, rfl, h1⟩
theorem VRL.two {q r : Val} {vs : List V} {B : List Addr} (h : VRL K σ F H [q, r] vs B) : ∃ v w B1 B2, vs = [v, w] ∧ B = B1 ++ B2 ∧ VR K σ F H q v B1 ∧ VR K σ F H r w B2 := by
  obtain ⟨v, u, B1, B2, rfl, rfl, h1, h2⟩ := h
  obtain ⟨w, rfl, h3⟩ := h2.one
  exact ⟨v, w, B1, B2, rfl, rfl, h1, h3⟩
theorem VR.kid {f : Bool} {q : Val} {v : V} {B : List Addr} (h : VR K σ F H q v B) (n : noSlot q = true) (g : f = true → vFull q = true) : Kids K F H f [vD q] [v] B := by
  have := VRL.kids (f := f) (qs := [q]) (vs := [v]) (B := B ++ []) ⟨v, [], B, [], rfl, rfl, h, rfl, rfl⟩ (by simp [n]) (fun z => by simp [g z])
  simpa using this
theorem de_append {i : Nat} {args : E} (h : DE K mg W Γ (.mut .append i args) σ H Q) : tBM K "list" rAppend (tVar i) (DA K mg W Γ args) σ H Q := by
  have step : ∃ a xs, σ[i]? = some (some (.ref a)) ∧ H a = some (.lst xs) ∧ DA K mg W Γ args σ H fun vs H1 => rAppend (.ref a) vs H1 Q := by
    refine de_mut (G := fun a vs H1 => rAppend (.ref a) vs H1 Q) (fun a us C B f xs qs vs z τ0 τ2 F0 F1 H0 H1 A0 L0 cg vr ns e q => ?_) h
    replace e : mAppend f xs qs = some z := e
    unfold mAppend at e
    split at e
    · split at e
      · rename_i v0 hz
        cases e
        obtain ⟨v, rfl, h4⟩ := vr.one
        simp only [List.all_cons, List.all_nil, Bool.and_true] at ns
        have kd := (cg.kids.to (g := f && vFull v0) fun z => (Bool.and_eq_true_iff.mp z).1).app (h4.kid (f := f && vFull v0) ns fun z => (Bool.and_eq_true_iff.mp z).2)
        obtain ⟨A2, p⟩ := cg.post kd cg.nd (fun _ hb => hb) (y := .non) rfl Rep.ofNon
        exact ⟨a, us, v, rfl, rfl, cg.at_, by rw [← cg.kids.len]; exact hz, q _ _ _ _ _ p⟩
      · cases e
    · cases e
  obtain ⟨a, xs, h1, h2, h3⟩ := step
  exact ⟨.ref a, h1, .inl ⟨rfl, xs, SqL.of h2⟩, h3⟩
theorem Kids.dropLast {f : Bool} {xs : List D} {us : List V} {C : List Addr} {y : D} (k : Kids K F H f xs us C) (h : xs[xs.length - 1]? = some y) (hy : imm y = true) : ∃ C', Kids K F H f xs.dropLast us.dropLast C' ∧ (∃ C2, C = C' ++ C2) ∧ ∃ w, us[us.length - 1]? = some w ∧ Rep K F H y w := by
  have ne : xs ≠ [] := fun z => by
    subst z
    cases h
  have e : xs = xs.dropLast ++ [y] := by
    have : xs.getLast? = some y := by
      rw [List.getLast?_eq_getElem?]
      exact h
    obtain ⟨ys, rfl⟩ := List.getLast?_eq_some_iff.mp this
    rw [List.dropLast_concat]
  rw [e] at k
  obtain ⟨v1, v2, C1, C2, rfl, rfl, k1, k2⟩ := k.split
  obtain ⟨w, r, A1, A2, rfl, _, k3, k4⟩ := k2.uncons
  have := k4.unnil.1
  subst this
  refine ⟨C1, ?_, ⟨C2, rfl⟩, w, by simp, ?_⟩
  · rw [List.dropLast_concat]
    exact k1
  · rcases k3 with z | z
    · exact z.2.1
    · cases y with
      | lst _ => cases hy
      | dT _ _ => cases hy
      | dK _ _ => cases hy
      | _ => unfold Own at z; exact z.elim
theorem de_pop {i : Nat} (h : DE K mg W Γ (.mut .pop i .nil) σ H Q) : tBM0 K "list" rPop (tVar i) σ H Q := by
  have step : ∃ a xs, σ[i]? = some (some (.ref a)) ∧ H a = some (.lst xs) ∧ DA K mg W Γ .nil σ H fun vs H1 => rPop (.ref a) vs H1 Q := by
    refine de_mut (G := fun a vs H1 => rPop (.ref a) vs H1 Q) (fun a us C B f xs qs vs z τ0 τ2 F0 F1 H0 H1 A0 L0 cg vr ns e q => ?_) h
    replace e : mPop f xs qs = some z := e
    unfold mPop at e
    split at e
    · obtain ⟨rfl, rfl⟩ := vr
      split at e
      · rename_i y hy
        split at e
        · rename_i hi
          cases e
          obtain ⟨C', k', ⟨C2, rfl⟩, w, hw, hr⟩ := cg.kids.dropLast hy hi
          have nd : C'.Nodup := (List.nodup_append.mp (List.nodup_append.mp cg.nd).1).1
          obtain ⟨A2, p⟩ := cg.post k' nd (fun b hb => List.mem_append_left _ (List.mem_append_left _ hb)) hi hr
          exact ⟨a, us, w, rfl, rfl, cg.at_, hw, q _ _ _ _ _ p⟩
        · cases e
      · cases e
    · cases e
  obtain ⟨a, xs, h1, h2, h3⟩ := step
  exact ⟨.ref a, h1, .inl ⟨rfl, xs, SqL.of h2⟩, da_nil h3⟩
theorem de_clear {i : Nat} (h : DE K mg W Γ (.mut .clear i .nil) σ H Q) : tBM0 K "list" rClear (tVar i) σ H Q := by
  have step : ∃ a xs, σ[i]? = some (some (.ref a)) ∧ H a = some (.lst xs) ∧ DA K mg W Γ .nil σ H fun vs H1 => rClear (.ref a) vs H1 Q := by
    refine de_mut (G := fun a vs H1 => rClear (.ref a) vs H1 Q) (fun a us C B f xs qs vs z τ0 τ2 F0 F1 H0 H1 A0 L0 cg vr ns e q => ?_) h
    replace e : mClear f xs qs = some z := e
    unfold mClear at e
    split at e
    · obtain ⟨rfl, rfl⟩ := vr
      cases e
      obtain ⟨A2, p⟩ := cg.post (f' := true) Kids.nil List.nodup_nil (fun b hb => (List.not_mem_nil hb).elim) (y := .non) rfl Rep.ofNon
      exact ⟨a, us, rfl, rfl, cg.at_, q _ _ _ _ _ p⟩
    · cases e
  obtain ⟨a, xs, h1, h2, h3⟩ := step
  exact ⟨.ref a, h1, .inl ⟨rfl, xs, SqL.of h2⟩, da_nil h3⟩
theorem Kids.setAt {f g : Bool} {xs : List D} {us : List V} {C B : List Addr} {q : Val} {v : V} {j : Nat} (k : Kids K F H f xs us C) (hj : j < xs.length) (kv : Kids K F H g [vD q] [v] B) (hg : g = true → f = true) (nd : (C ++ B).Nodup) : ∃ C', Kids K F H g (xs.set j (vD q)) (us.set j v) C' ∧ C'.Nodup ∧ ∀ b ∈ C', b ∈ C ++ B := by
  have k' := k.to hg
  have e1 : xs = xs.take j ++ (xs[j] :: xs.drop (j + 1)) := by
    rw [← List.drop_eq_getElem_cons hj, List.take_append_drop]
  rw [e1] at k'
  obtain ⟨v1, v2, A1, A2, rfl, rfl, k1, k2⟩ := Kids.split k'
  obtain ⟨w, r, B1, B2, rfl, rfl, k3, k4⟩ := k2.uncons
  have l1 : v1.length = j := by
    rw [← k1.len, List.length_take]
    omega
  refine ⟨A1 ++ (B ++ B2), ?_, ?_, ?_⟩
  · have e2 : (v1 ++ w :: r).set j v = v1 ++ ([v] ++ r) := by
      rw [List.set_append_right _ _ (by omega), l1, Nat.sub_self]
      rfl
    have e3 : xs.set j (vD q) = xs.take j ++ ([vD q] ++ xs.drop (j + 1)) := by
      rw [List.set_eq_take_append_cons_drop, if_pos hj]
      rfl
    rw [e2, e3]
    exact k1.app (kv.app k4)
  · have pm : ((A1 ++ (B1 ++ B2)) ++ B).Perm (B1 ++ (A1 ++ (B ++ B2))) := by
      refine List.perm_iff_count.mpr fun a => ?_
      simp only [List.count_append]
      omega
    exact (List.nodup_append.mp (pm.nodup nd)).2.1
  · intro b hb
    simp only [List.mem_append] at hb ⊢
    rcases hb with hb | hb | hb
    · exact .inl (.inl hb)
    · exact .inr hb
    · exact .inl (.inr (.inr hb))
def rSet2 (a : Addr) (vs : List V) (H1 : Hp) (Qn : Hp → Prop) : Prop := match vs with
  | [v, y] => rSetL (.ref a) y v H1 Qn
  | _ => False
theorem de_setAt {i : Nat} {args : E} {Qn : Hp → Prop} (h : DE K mg W Γ (.mut .setAt i args) σ H fun _ H' => Qn H') : ∃ a, σ[i]? = some (some (.ref a)) ∧ DA K mg W Γ args σ H fun vs H1 => rSet2 a vs H1 Qn := by
  have step : ∃ a xs, σ[i]? = some (some (.ref a)) ∧ H a = some (.lst xs) ∧ DA K mg W Γ args σ H fun vs H1 => rSet2 a vs H1 Qn := by
    refine de_mut (G := fun a vs H1 => rSet2 a vs H1 Qn) (fun a us C B f xs qs vs z τ0 τ2 F0 F1 H0 H1 A0 L0 cg vr ns e q => ?_) h
    replace e : mSetAt f xs qs = some z := e
    unfold mSetAt at e
    split at e
    · rename_i v0 kk
      cases ej : ixN xs.length kk with
      | none => rw [ej] at e; cases e
      | some j =>
        rw [ej] at e
        cases e
        obtain ⟨v, w, B1, B2, rfl, rfl, h4, h5⟩ := vr.two
        simp only [List.all_cons, List.all_nil, Bool.and_true, Bool.and_eq_true] at ns
        obtain ⟨rfl, h6⟩ := h5
        have ew : w = .int kk := by unfold Rep at h6; exact h6
        subst ew
        have hj : j < xs.length := (ixN_seq ej).2.1
        have nd := cg.nd
        rw [List.append_nil] at nd
        obtain ⟨C', k1, k2, k3⟩ := Kids.setAt cg.kids hj (h4.kid (f := f && vFull v0) ns.1 fun z => (Bool.and_eq_true_iff.mp z).2) (fun z => (Bool.and_eq_true_iff.mp z).1) nd
        obtain ⟨A2, p⟩ := cg.post k1 k2 (fun b hb => by rw [List.append_nil]; exact k3 b hb) (y := .non) rfl Rep.ofNon
        exact ⟨a, us, kk, j, rfl, rfl, cg.at_, by rw [← cg.kids.len]; exact ej, q _ _ _ _ _ p⟩
    · cases e
  obtain ⟨a, xs, h1, h2, h3⟩ := step
  exact ⟨a, h1, h3⟩
end
end Rg

/-! Rg9: a def's promise by its run; its call. -/
namespace Rg
open PySem L2
def OwnsL (K : PySem.W.Frag) (F H : Hp) : List D → List V → List Addr → Prop
  | [], vs, A => vs = [] ∧ A = []
  | d :: ds, vs, A => ∃ v r A1 A2, vs = v :: r ∧ A = A1 ++ A2 ∧ Own K F H true d v A1 ∧ OwnsL K F H ds r A2
/-- what a def is handed: the first io arguments are its own to change -/
structure Args (K : PySem.W.Frag) (G H : Hp) (n : Nat) (ds : List D) (vs : List V) (A : List Addr) : Prop where
  le : Le G H
  nd : A.Nodup
  off : ∀ a ∈ A, G a = none
  io : OwnsL K G H (ds.take n) (vs.take n) A
  ro : RepL K G H (ds.drop n) (vs.drop n)
  len : ds.length = vs.length
def ResR (K : PySem.W.Frag) (F H : Hp) (d : D) (v : V) (B : List Addr) : Prop := (imm d = true ∧ B = [] ∧ Rep K F H d v) ∨ Own K F H true d v B
/-- what it leaves -/
structure Left (K : PySem.W.Frag) (G H : Hp) (A : List Addr) (n : Nat) (vs : List V) (d : D) (es : List D) (v : V) (F' H' : Hp) (A' B : List Addr) : Prop where
  st : Step G H A F' H' A'
  le : Le F' H'
  io : OwnsL K F' H' es (vs.take n) A'
  res : ResR K F' H' d v B
  nd : (A' ++ B).Nodup
  bn : ∀ b ∈ B, b ∈ A ∨ H b = none
  off : ∀ a ∈ A' ++ B, F' a = none
def XE1 (K : PySem.W.Frag) (mg : Str → Option Value) (E : XK) (c : String) (fs : List (Str × D)) (H : Hp) : Prop := ∃ C, mg (Str.ofString c) = some (.ref C) ∧ match fs with
  | [] => E (.ref C) none H
  | [(f, d)] => ∀ a v, H a = some (.xd [(f, v)]) → Rep K H H d v → E (.ref C) (some a) H
  | _ => False
def spOf (K : PySem.W.Frag) (mg : Str → Option Value) (f : Fn) : Sp := fun vs H Q E => ∃ ds G A, Args K G H f.io ds vs A ∧ ds.length = f.ar ∧ match f.run ds with
  | .ok r => ∀ v F' H' A' B, Left K G H A f.io vs r.1 r.2 v F' H' A' B → Q v H'
  | .exc c fs => ∀ F' H' A', Step G H A F' H' A' → XE1 K mg E c fs H'
  | .stuck => False
section
variable {K : PySem.W.Frag} {mg : Str → Option Value} {W : WX} {Γ : Env1} {σ : L2.St} {F H : Hp} {A : List Addr} {L : Nat → V} {τ : Sts} {Q : VK}
mutual
/-- one's own all through: nothing of it is frozen -/
theorem Own.refull {F' H' : Hp} (k : Tk H H') : ∀ {d : D} {v : V} {A : List Addr}, (∀ a ∈ A, H' a = H a) → Own K F H true d v A → Own K F' H' true d v A
  | .lst ds, _, _, s, e => by
    unfold Own at e ⊢
    obtain ⟨a, vs, B, e1, e2, rfl, e4⟩ := e
    exact ⟨a, vs, B, e1, (s a List.mem_cons_self).trans e2, rfl, Kids.refull k (fun b hb => s b (List.mem_cons_of_mem _ hb)) e4⟩
  | .dT ks ds, _, _, s, e => by
    unfold Own at e ⊢
    obtain ⟨a, vs, B, e1, e2, e5, rfl, e4⟩ := e
    exact ⟨a, vs, B, e1, (s a List.mem_cons_self).trans e2, e5, rfl, Kids.refull k (fun b hb => s b (List.mem_cons_of_mem _ hb)) e4⟩
  | .dK ks ds, _, _, s, e => by
    unfold Own at e ⊢
    obtain ⟨a, vs, B, e1, e2, e5, rfl, e4⟩ := e
    exact ⟨a, vs, B, e1, (s a List.mem_cons_self).trans e2, e5, rfl, Kids.refull k (fun b hb => s b (List.mem_cons_of_mem _ hb)) e4⟩
  | .non, _, _, _, e => by unfold Own at e; exact e.elim
  | .bl _, _, _, _, e => by unfold Own at e; exact e.elim
  | .int _, _, _, _, e => by unfold Own at e; exact e.elim
  | .str _, _, _, _, e => by unfold Own at e; exact e.elim
  | .tup _, _, _, _, e => by unfold Own at e; exact e.elim
  | .scr _, _, _, _, e => by unfold Own at e; exact e.elim
theorem Kids.refull {F' H' : Hp} (k : Tk H H') : ∀ {ds : List D} {vs : List V} {A : List Addr}, (∀ a ∈ A, H' a = H a) → Kids K F H true ds vs A → Kids K F' H' true ds vs A
  | [], _, _, _, e => e
  | d :: ds, _, _, s, e => by
    obtain ⟨v, r, A1, A2, rfl, rfl, e3, e4⟩ := e.uncons
    refine Kids.cons ?_ (Kids.refull k (fun b hb => s b (List.mem_append_right _ hb)) e4)
    rcases e3 with ⟨e5, e6, e7⟩ | e5
    · exact .inl ⟨e5, e6.imm k (e7 rfl), e7⟩
    · exact .inr (Own.refull k (fun b hb => s b (List.mem_append_left _ hb)) e5)
end
theorem OwnsL.refull {F' H' : Hp} (k : Tk H H') : ∀ {ds : List D} {vs : List V} {A : List Addr}, (∀ a ∈ A, H' a = H a) → OwnsL K F H ds vs A → OwnsL K F' H' ds vs A
  | [], _, _, _, e => e
  | d :: ds, _, _, s, e => by
    obtain ⟨v, r, A1, A2, rfl, rfl, e3, e4⟩ := e
    exact ⟨v, r, A1, A2, rfl, rfl, e3.refull k fun b hb => s b (List.mem_append_left _ hb), OwnsL.refull k (fun b hb => s b (List.mem_append_right _ hb)) e4⟩
theorem OwnsL.len : ∀ {ds : List D} {vs : List V} {A : List Addr}, OwnsL K F H ds vs A → ds.length = vs.length
  | [], _, _, h => by
    obtain ⟨rfl, _⟩ := h
    rfl
  | d :: ds, _, _, h => by
    obtain ⟨v, r, A1, A2, rfl, _, _, h4⟩ := h
    simp [OwnsL.len h4]
theorem ResR.re {F' H' : Hp} {d : D} {v : V} {B : List Addr} (k : Tk H H') (s : ∀ b ∈ B, H' b = H b) (h : ResR K F H d v B) : ResR K F' H' d v B := by
  rcases h with ⟨h1, h2, h3⟩ | h
  · exact .inl ⟨h1, h2, h3.imm k h1⟩
  · exact .inr (h.refull k s)
/-- the slots at ios are emptied -/
def unIo (τ : Sts) : List Nat → Sts
  | [] => τ
  | i :: r => unIo (τ.set i .un) r
theorem unIo_get {j : Nat} : ∀ {ios : List Nat} {τ : Sts}, j ∉ ios → (unIo τ ios)[j]? = τ[j]?
  | [], _, _ => rfl
  | i :: r, τ, h => by
    rw [unIo, unIo_get fun z => h (List.mem_cons_of_mem _ z), List.getElem?_set_ne (fun (z : i = j) => h (by rw [z]; exact List.mem_cons_self))]
theorem unIo_len : ∀ {ios : List Nat} {τ : Sts}, (unIo τ ios).length = τ.length
  | [], _ => rfl
  | i :: r, τ => by rw [unIo, unIo_len, List.length_set]
theorem unIo_in {j : Nat} : ∀ {ios : List Nat} {τ : Sts}, j ∈ ios → j < τ.length → (unIo τ ios)[j]? = some .un
  | i :: r, τ, h, hl => by
    rw [unIo]
    by_cases z : j ∈ r
    · exact unIo_in z (by rw [List.length_set]; exact hl)
    · rw [unIo_get z]
      rcases List.mem_cons.mp h with rfl | h
      · rw [List.getElem?_set_self hl]
      · exact (z h).elim
/-- values that stand in slots -/
def AtS (σ : L2.St) : List Nat → List V → Prop
  | [], vs => vs = []
  | i :: r, vs => ∃ v w, vs = v :: w ∧ σ[i]? = some (some v) ∧ AtS σ r w
theorem take_io : ∀ {ios : List Nat} {τ : Sts} {A : List Addr} {es : List D} {vs : List V}, SR K τ σ F H A L → ios.Nodup → ioData τ ios = some es → AtS σ ios vs →
    ∃ Aio Ar, A.Perm (Aio ++ Ar) ∧ SR K (unIo τ ios) σ F H Ar L ∧ OwnsL K F H es vs Aio ∧ Ap F Ar Aio
  | [], τ, A, es, vs, sr, _, e, h => by
    cases e
    cases (show vs = [] from h)
    exact ⟨[], A, List.Perm.refl _, sr, ⟨rfl, rfl⟩, Ap.nil⟩
  | i :: r, τ, A, es, vs, sr, nd, e, h => by
    obtain ⟨v, w, rfl, hv, hw⟩ := h
    simp only [ioData] at e
    cases h1 : τ[i]? with
    | none => rw [h1] at e; cases e
    | some s =>
      rw [h1] at e
      cases s with
      | ow f d =>
        cases f with
        | false => cases e
        | true =>
          simp only at e
          cases h2 : ioData τ r with
          | none => rw [h2] at e; cases e
          | some es2 =>
            rw [h2] at e
            cases e
            have nd2 := List.nodup_cons.mp nd
            obtain ⟨v2, A1, Ar, g1, g2, g3, g4, g5, _⟩ := sr.out h1
            have : v2 = v := Option.some.inj (Option.some.inj (g1.symm.trans hv))
            subst this
            have e2 : ioData (τ.set i .un) r = some es2 := by
              rw [← h2]
              have : ∀ (l : List Nat), i ∉ l → ioData (τ.set i .un) l = ioData τ l := by
                intro l
                induction l with
                | nil => intro _; rfl
                | cons k l ih =>
                  intro hk
                  simp only [ioData]
                  rw [List.getElem?_set_ne (fun (z : i = k) => hk (by rw [z]; exact List.mem_cons_self)), ih fun z => hk (List.mem_cons_of_mem _ z)]
              exact this r nd2.1
            obtain ⟨Aio, Ar2, q1, q2, q3, q4⟩ := take_io g4 nd2.2 e2 hw
            have dj : ∀ b ∈ A1, b ∉ Aio := fun b hb z => g5.a b hb (q1.mem_iff.mpr (List.mem_append_left _ z))
            have a1 : Ap F Ar2 A1 := ⟨g5.nd, fun b hb z => g5.a b hb (q1.mem_iff.mpr (List.mem_append_right _ z)), g5.off⟩
            refine ⟨A1 ++ Aio, Ar2, ?_, q2, ⟨v2, w, A1, Aio, rfl, rfl, g2, q3⟩, a1.app q4 dj⟩
            rw [List.append_assoc]
            exact g3.trans (List.Perm.append_left A1 q1)
      | un => cases e
      | fz d => cases e
      | lk f d => cases e
theorem put_io : ∀ {ios : List Nat} {τ τ' : Sts} {A Aio : List Addr} {es : List D} {vs : List V}, SR K τ σ F H A L → ios.Nodup → (∀ i ∈ ios, τ[i]? = some .un) → OwnsL K F H es vs Aio → Ap F A Aio → AtS σ ios vs → setIo τ ios es = some τ' →
    ∃ A', SR K τ' σ F H A' L ∧ A'.Perm (Aio ++ A)
  | [], τ, τ', A, Aio, es, vs, sr, _, _, o, ap, h, e => by
    cases es with
    | nil =>
      cases e
      obtain ⟨_, rfl⟩ := o
      exact ⟨A, sr, List.Perm.refl _⟩
    | cons d ds => cases e
  | i :: r, τ, τ', A, Aio, es, vs, sr, nd, un, o, ap, h, e => by
    cases es with
    | nil => cases e
    | cons d ds =>
      obtain ⟨v, w, rfl, hv, hw⟩ := h
      obtain ⟨v2, w2, A1, A2, e1, rfl, o1, o2⟩ := o
      cases e1
      have nd2 := List.nodup_cons.mp nd
      have s1 := sr.give (M := L) (un i List.mem_cons_self) (fun _ _ z => by cases z) (fun _ _ => rfl) o1 ap.left
      rw [set_back hv] at s1
      have ap2 : Ap F (A1 ++ A) A2 := ⟨ap.right.nd, fun b hb z => by
        rcases List.mem_append.mp z with z | z
        · exact (List.nodup_append.mp ap.nd).2.2 b z b hb rfl
        · exact ap.right.a b hb z, ap.right.off⟩
      obtain ⟨A', q1, q2⟩ := put_io s1 nd2.2 (fun j hj => by
        rw [List.getElem?_set_ne (fun (z : i = j) => nd2.1 (by rw [z]; exact hj))]
        exact un j (List.mem_cons_of_mem _ hj)) o2 ap2 hw e
      refine ⟨A', q1, q2.trans ?_⟩
      rw [← List.append_assoc]
      exact (List.perm_append_comm (l₁ := A2) (l₂ := A1)).append_right A
theorem setIo_un : ∀ {ios : List Nat} {τ τ' : Sts} {es : List D}, setIo τ ios es = some τ' → ios.Nodup → setIo (unIo τ ios) ios es = some τ'
  | [], τ, τ', es, e, _ => e
  | i :: r, τ, τ', es, e, nd => by
    cases es with
    | nil => cases e
    | cons d ds =>
      have nd2 := List.nodup_cons.mp nd
      have e1 : setIo (τ.set i (.ow true d)) r ds = some τ' := e
      have ih := setIo_un e1 nd2.2
      show setIo ((unIo (τ.set i .un) r).set i (.ow true d)) r ds = some τ'
      have : ∀ (l : List Nat) (t : Sts) (x : Slot), i ∉ l → unIo (t.set i x) l = (unIo t l).set i x := by
        intro l
        induction l with
        | nil => intro _ _ _; rfl
        | cons k l ih2 =>
          intro t x hk
          rw [unIo, unIo, List.set_comm _ _ (fun (z : i = k) => hk (by rw [z]; exact List.mem_cons_self)), ih2 _ _ fun z => hk (List.mem_cons_of_mem _ z)]
      rw [← this r _ _ nd2.1, List.set_set]
      exact ih
theorem slots_at : ∀ {rs : List Val} {ios : List Nat} {vs : List V} {B : List Addr}, slotsOf rs = some ios → VRL K σ F H rs vs B → AtS σ ios vs ∧ B = []
  | [], ios, vs, B, e, h => by
    cases e
    exact h
  | r :: rs, ios, vs, B, e, h => by
    obtain ⟨v, w, B1, B2, rfl, rfl, h1, h2⟩ := h
    cases r with
    | slot i =>
      simp only [slotsOf] at e
      cases q : slotsOf rs with
      | none => rw [q] at e; cases e
      | some is =>
        rw [q] at e
        cases e
        obtain ⟨g1, g2⟩ := slots_at q h2
        exact ⟨⟨v, w, rfl, h1.2, g1⟩, by rw [h1.1, g2]; rfl⟩
    | fz d => cases e
    | own f d => cases e
theorem VRL.take : ∀ (n : Nat) {rs : List Val} {vs : List V} {B : List Addr}, VRL K σ F H rs vs B → ∃ B1 B2, B = B1 ++ B2 ∧ VRL K σ F H (rs.take n) (vs.take n) B1 ∧ VRL K σ F H (rs.drop n) (vs.drop n) B2
  | 0, rs, vs, B, h => ⟨[], B, rfl, ⟨rfl, rfl⟩, h⟩
  | n + 1, [], vs, B, h => by
    obtain ⟨rfl, rfl⟩ := h
    exact ⟨[], [], rfl, ⟨rfl, rfl⟩, ⟨rfl, rfl⟩⟩
  | n + 1, r :: rs, vs, B, h => by
    obtain ⟨v, w, B1, B2, rfl, rfl, h1, h2⟩ := h
    obtain ⟨C1, C2, rfl, g1, g2⟩ := VRL.take n h2
    exact ⟨B1 ++ C1, C2, by simp, ⟨v, w.take n, B1, C1, rfl, rfl, h1, g1⟩, g2⟩
/-- read by a callee: all but what it may change is frozen for it -/
theorem VRL.readG {G : Hp} {ios : List Nat} (sr : SR K (unIo τ ios) σ F H A L) (le : Le F G) (gA : ∀ a ∈ A, G a = H a) : ∀ {rs : List Val} {vs : List V} {B : List Addr} {ds : List D}, (∀ b ∈ B, G b = H b) → VRL K σ F H rs vs B → dats τ rs = some ds → rs.any (slotIn ios) = false → RepL K G H ds vs
  | [], _, _, _, _, h, e, _ => by
    obtain ⟨rfl, _⟩ := h
    cases e
    exact RepL.nil
  | r :: rs, _, _, ds, hb, h, e, ns => by
    obtain ⟨v, w, B1, B2, rfl, rfl, h1, h2⟩ := h
    have e0 : ((dat τ r).bind fun d => (dats τ rs).map fun ds => d :: ds) = some ds := e
    cases q : dat τ r with
    | none => rw [q] at e0; cases e0
    | some d =>
      rw [q] at e0
      cases q2 : dats τ rs with
      | none => rw [q2] at e0; cases e0
      | some ds2 =>
        rw [q2] at e0
        cases e0
        simp only [List.any_cons, Bool.or_eq_false_iff] at ns
        refine RepL.cons ?_ (VRL.readG sr le gA (fun b hb2 => hb b (List.mem_append_right _ hb2)) h2 q2 ns.2)
        cases r with
        | fz d0 =>
          cases q
          exact h1.2.mono le (Tk.refl H)
        | own f d0 =>
          cases q
          exact Own.freeze le (fun b hb2 => hb b (List.mem_append_left _ hb2)) h1
        | slot i =>
          have ni : i ∉ ios := fun z => by
            have := ns.1
            simp [slotIn, z] at this
          have q' : (τ[i]?).bind slotD = some d := q
          cases q3 : τ[i]? with
          | none => rw [q3] at q'; cases q'
          | some s =>
            rw [q3] at q'
            obtain ⟨o, A1, g1, g2, g3⟩ := sr.slots.at ((unIo_get ni).trans q3)
            have : o = some v := Option.some.inj (g1.symm.trans h1.2)
            subst this
            cases s with
            | un => cases q'
            | fz d => cases q'
            | ow f d0 =>
              cases q'
              obtain ⟨u, z, g5⟩ := g2
              cases z
              exact Own.freeze le (fun a ha => gA a (g3 a ha)) g5
            | lk f d0 => cases q'
theorem XE1.of {c : String} {fs : List (Str × D)} (h : XW K mg W c fs σ H) : XE1 K mg (fun cls d H' => W cls d σ H') c fs H := h
theorem dats_len : ∀ {rs : List Val} {ds : List D}, dats τ rs = some ds → ds.length = rs.length
  | [], _, e => by cases e; rfl
  | r :: rs, ds, e => by
    have e0 : ((dat τ r).bind fun d => (dats τ rs).map fun ds => d :: ds) = some ds := e
    cases q : dat τ r with
    | none => rw [q] at e0; cases e0
    | some d =>
      rw [q] at e0
      cases q2 : dats τ rs with
      | none => rw [q2] at e0; cases e0
      | some ds2 =>
        rw [q2] at e0
        cases e0
        simp [dats_len q2]
theorem ioData_len : ∀ {ios : List Nat} {es : List D}, ioData τ ios = some es → es.length = ios.length
  | [], _, e => by cases e; rfl
  | i :: r, es, e => by
    simp only [ioData] at e
    split at e
    · cases q : ioData τ r with
      | none => rw [q] at e; cases e
      | some es2 =>
        rw [q] at e
        cases e
        simp [ioData_len q]
    · cases e
theorem slotsOf_len : ∀ {rs : List Val} {ios : List Nat}, slotsOf rs = some ios → ios.length = rs.length
  | [], _, e => by cases e; rfl
  | r :: rs, ios, e => by
    cases r with
    | slot i =>
      simp only [slotsOf] at e
      cases q : slotsOf rs with
      | none => rw [q] at e; cases e
      | some is =>
        rw [q] at e
        cases e
        simp [slotsOf_len q]
    | fz d => cases e
    | own f d => cases e
end
end Rg

/-! Rg10: the call of a def by its promise. -/
namespace Rg
open PySem L2
section
variable {K : PySem.W.Frag} {mg : Str → Option Value} {W : WX} {Γ : Env1} {σ : L2.St} {F H : Hp} {A : List Addr} {L : Nat → V} {τ : Sts} {Q : VK}
theorem setIo_len : ∀ {ios : List Nat} {τ τ' : Sts} {es : List D}, setIo τ ios es = some τ' → τ'.length = τ.length ∧ es.length = ios.length
  | [], _, _, [], e => by
    cases e
    exact ⟨rfl, rfl⟩
  | [], _, _, _ :: _, e => by cases e
  | _ :: _, _, _, [], e => by cases e
  | i :: r, τ, τ', d :: ds, e => by
    have e1 : setIo (τ.set i (.ow true d)) r ds = some τ' := e
    obtain ⟨h1, h2⟩ := setIo_len e1
    exact ⟨by rw [h1, List.length_set], by simp [h2]⟩
/-- what a callee may change is hidden -/
def hideIo (H : Hp) (Aio : List Addr) : Hp := fun a => if a ∈ Aio then none else H a
/-- what is frozen behind a call -/
def joinF (F H F' : Hp) : Hp := fun a => match H a with
  | none => F' a
  | some _ => F a
theorem joinF_new {F' : Hp} {a : Addr} (h : H a = none) : joinF F H F' a = F' a := by
  unfold joinF
  rw [h]
theorem joinF_old {F' : Hp} {a : Addr} {o : HO} (h : H a = some o) : joinF F H F' a = F a := by
  unfold joinF
  rw [h]
theorem de_call {k : Nat} {x : Str} {f : Fn} {args : E} (hk : Γ[k]? = some (x, f)) (h : DE K mg W Γ (.call k args) σ H Q) : DA K mg W Γ args σ H fun vs H1 => spOf K mg f vs H1 Q (fun cls d H' => W cls d σ H') := by
  obtain ⟨τ, F, A, L, sr, h⟩ := h
  refine ⟨τ, F, A, L, sr, ?_⟩
  simp only [ev] at h
  cases e : evs Γ args τ with
  | stuck => rw [e] at h; exact h
  | exc c fs => rw [e] at h; exact h
  | ok z =>
    rw [e] at h
    simp only [R.bind_ok, hk] at h ⊢
    intro vs F1 H1 A1 B pl
    unfold callD at h
    cases e1 : slotsOf (z.1.take f.io) with
    | none => rw [e1] at h; exact h.elim
    | some ios =>
      cases e2 : dats z.2 (z.1.drop f.io) with
      | none => rw [e1, e2] at h; exact h.elim
      | some ds =>
        rw [e1, e2] at h
        simp only at h
        by_cases hc : ios.Nodup ∧ (z.1.drop f.io).any (slotIn ios) = false ∧ z.1.length = f.ar ∧ f.io ≤ f.ar
        · rw [if_pos hc] at h
          obtain ⟨nd, nio, har, hle⟩ := hc
          cases e3 : ioData z.2 ios with
          | none => rw [e3] at h; exact h.elim
          | some es =>
            rw [e3] at h
            simp only at h
            have lv := pl.vr.len
            have lio : ios.length = f.io := by
              rw [slotsOf_len e1, List.length_take]
              omega
            have les : es.length = f.io := (ioData_len e3).trans lio
            have lds : ds.length = z.1.length - f.io := by rw [dats_len e2, List.length_drop]
            obtain ⟨B1, B2, eB, vt, vd⟩ := pl.vr.take f.io
            obtain ⟨ats, eB1⟩ := slots_at e1 vt
            subst eB1
            have eB2 : B = B2 := by rw [eB]; rfl
            subst eB2
            obtain ⟨Aio, Ar, pm, srU, own, apIo⟩ := take_io pl.sr nd e3 ats
            have inA : ∀ a ∈ Aio, a ∈ A1 := fun a ha => pm.mem_iff.mpr (List.mem_append_left _ ha)
            have arA : ∀ a ∈ Ar, a ∈ A1 := fun a ha => pm.mem_iff.mpr (List.mem_append_right _ ha)
            -- the callee's frozen part
            have gle : Le (hideIo H1 Aio) H1 := fun a o q => by
              unfold hideIo at q
              split at q
              · cases q
              · exact q
            have gout : ∀ a, a ∉ Aio → hideIo H1 Aio a = H1 a := fun a ha => by
              unfold hideIo
              rw [if_neg ha]
            have fle : Le F1 (hideIo H1 Aio) := fun a o q => by
              rw [gout a fun z => by
                rw [pl.sr.off a (inA a z)] at q
                cases q]
              exact pl.sr.le a o q
            have ro : RepL K (hideIo H1 Aio) H1 ds (vs.drop f.io) := VRL.readG srU fle (fun a ha => gout a fun z => apIo.a a z ha) (fun b hb => gout b fun z => pl.ap.a b hb (inA b z)) vd e2 nio
            have et : (es ++ ds).take f.io = es := by rw [← les, List.take_left]
            have ed : (es ++ ds).drop f.io = ds := by rw [← les, List.drop_left]
            have ag : Args K (hideIo H1 Aio) H1 f.io (es ++ ds) vs Aio := by
              refine ⟨gle, apIo.nd, fun a ha => ?_, ?_, ?_, ?_⟩
              · unfold hideIo
                rw [if_pos ha]
              · rw [et]
                exact own.refull (Tk.refl H1) fun _ _ => rfl
              · rw [ed]
                exact ro
              · rw [List.length_append]
                omega
            refine ⟨es ++ ds, hideIo H1 Aio, Aio, ag, by rw [List.length_append]; omega, ?_⟩
            have frameOut : ∀ {F' H' : Hp} {A' : List Addr}, Step (hideIo H1 Aio) H1 Aio F' H' A' → ∀ a o, H1 a = some o → a ∉ A1 → H' a = some o := fun st a o q n => st.frame a o q fun z => n (inA a z)
            cases e4 : f.run (es ++ ds) with
            | stuck => rw [e4] at h; exact h.elim
            | exc c fs =>
              rw [e4] at h
              simp only [R.bind_exc] at h ⊢
              intro F' H' A' st
              -- a step of the caller's
              refine XE1.of (h F1 H' (A1.filter fun a => decide (a ∈ Ar)) ?_)
              refine ⟨pl.st.mono, pl.st.fresh, fun a o q n => ?_, fun a ha => pl.st.own a (List.mem_filter.mp ha).1, fun a q => pl.st.dom a (st.dom a q), pl.st.tk.trans st.tk⟩
              have q1 := pl.st.frame a o q n
              refine st.frame a o q1 fun z => ?_
              rcases pl.st.own a (inA a z) with y | y
              · exact n y
              · rw [q] at y
                cases y
            | ok r =>
              rw [e4] at h
              simp only [R.bind_ok] at h ⊢
              intro v F' H' A' B' lf
              cases e5 : setIo z.2 ios r.2 with
              | none => rw [e5] at h; exact h.elim
              | some τ' =>
                rw [e5] at h
                simp only [R.of_some, R.bind_ok] at h
                have tk := lf.st.tk
                have keepR : ∀ a ∈ Ar, H' a = H1 a := fun a ha => by
                  obtain ⟨o, q, _⟩ := srU.slots.dom a ha
                  rw [q]
                  exact lf.st.frame a o q fun z => apIo.a a z ha
                have le2 : Le F1 (joinF F1 H1 F') := fun a o q => by
                  rw [joinF_old (pl.sr.le a o q)]
                  exact q
                have leH : Le (joinF F1 H1 F') H' := fun a o q => by
                  cases y : H1 a with
                  | none =>
                    rw [joinF_new y] at q
                    exact lf.le a o q
                  | some u =>
                    rw [joinF_old y] at q
                    have := pl.sr.le a o q
                    exact lf.st.frame a o this fun z => by
                      rw [pl.sr.off a (inA a z)] at q
                      cases q
                have offR : ∀ a ∈ Ar, joinF F1 H1 F' a = none := fun a ha => by
                  obtain ⟨o, q, _⟩ := srU.slots.dom a ha
                  rw [joinF_old q]
                  exact srU.off a ha
                have srU2 : SR K (unIo z.2 ios) σ (joinF F1 H1 F') H' Ar L := srU.keep le2 leH tk keepR offR
                have own2 : OwnsL K (joinF F1 H1 F') H' r.2 (vs.take f.io) A' := lf.io.refull (Tk.refl H') fun _ _ => rfl
                have nd2 := List.nodup_append.mp lf.nd
                have fresh2 : ∀ b, (b ∈ Aio ∨ H1 b = none) → b ∉ Ar := fun b hb => by
                  rcases hb with hb | hb
                  · exact apIo.a b hb
                  · exact (srU.off_none hb).1
                have offA' : ∀ b, (b ∈ Aio ∨ H1 b = none) → F' b = none → joinF F1 H1 F' b = none := fun b hb q => by
                  cases y : H1 b with
                  | none => rw [joinF_new y]; exact q
                  | some u =>
                    rw [joinF_old y]
                    rcases hb with hb | hb
                    · exact apIo.off b hb
                    · rw [hb] at y
                      cases y
                have ap2 : Ap (joinF F1 H1 F') Ar A' := ⟨nd2.1, fun b hb => fresh2 b (lf.st.own b hb), fun b hb => offA' b (lf.st.own b hb) (lf.off b (List.mem_append_left _ hb))⟩
                have ili : ∀ i ∈ ios, (unIo z.2 ios)[i]? = some .un := fun i hi => by
                  refine unIo_in hi ?_
                  have : ∀ (l : List Nat) (es : List D), ioData z.2 l = some es → ∀ i ∈ l, i < z.2.length := by
                    intro l
                    induction l with
                    | nil => intro _ _ _ h; cases h
                    | cons j l ih =>
                      intro es q i hi
                      simp only [ioData] at q
                      cases y : z.2[j]? with
                      | none => rw [y] at q; cases q
                      | some s =>
                        rcases List.mem_cons.mp hi with rfl | hi
                        · exact (List.getElem?_eq_some_iff.mp y).1
                        · rw [y] at q
                          cases s with
                          | ow g d =>
                            cases g with
                            | false => cases q
                            | true =>
                              simp only at q
                              cases y2 : ioData z.2 l with
                              | none => rw [y2] at q; cases q
                              | some es2 => exact ih es2 y2 i hi
                          | un => cases q
                          | fz d => cases q
                          | lk g d => cases q
                  exact this ios es e3 i hi
                obtain ⟨A3, sr3, pm3⟩ := put_io srU2 nd ili own2 ap2 ats (setIo_un e5 nd)
                have st3 : Step F1 H1 A1 (joinF F1 H1 F') H' A3 := by
                  refine ⟨le2, fun a q => ?_, fun a o q n => lf.st.frame a o q fun z => n (inA a z), fun a ha => ?_, lf.st.dom, tk⟩
                  · cases y : H1 a with
                    | none => exact .inr (.inl rfl)
                    | some u =>
                      rw [joinF_old y] at q
                      exact .inl q
                  · rcases List.mem_append.mp (pm3.mem_iff.mp ha) with y | y
                    · rcases lf.st.own a y with y | y
                      · exact .inl (inA a y)
                      · exact .inr y
                    · exact .inl (arA a y)
                have res2 := lf.res.re (F' := joinF F1 H1 F') (Tk.refl H') fun _ _ => rfl
                have apB : Ap (joinF F1 H1 F') A3 B' := by
                  refine ⟨nd2.2.1, fun b hb z => ?_, fun b hb => offA' b (lf.bn b hb) (lf.off b (List.mem_append_right _ hb))⟩
                  rcases List.mem_append.mp (pm3.mem_iff.mp z) with y | y
                  · exact nd2.2.2 b y b hb rfl
                  · exact fresh2 b (lf.bn b hb) y
                have bnB : ∀ b ∈ B', b ∈ A ∨ H b = none := fun b hb => (lf.bn b hb).elim (fun q => pl.st.own b (inA b q)) fun q => .inr (pl.st.dom b q)
                rcases res2 with ⟨i1, i2, i3⟩ | i1
                · subst i2
                  simp only [i1, if_true] at h
                  exact h v _ H' A3 [] ⟨pl.st.trans st3, sr3, ⟨rfl, i3⟩, Ap.nil, fun _ z => (List.not_mem_nil z).elim⟩
                · by_cases i2 : imm r.1 = true
                  · exfalso
                    cases q : r.1 with
                    | lst _ => rw [q] at i2; cases i2
                    | dT _ _ => rw [q] at i2; cases i2
                    | dK _ _ => rw [q] at i2; cases i2
                    | _ => rw [q] at i1; unfold Own at i1; exact i1
                  · simp only [i2] at h
                    exact h v _ H' A3 B' ⟨pl.st.trans st3, sr3, i1, apB, bnB⟩
        · rw [if_neg hc] at h
          exact h.elim
end
end Rg

/-! Rg11: what is walked; targets. -/
namespace Rg
open PySem L2
/-- an item at a turn: a thing that stands, or a new pair -/
def ItemR (K : PySem.W.Frag) (F H : Hp) (d : D) (H2 : Hp) (x : V) (H3 : Hp) : Prop :=
  (H3 = H2 ∧ Rep K F H d x) ∨ ∃ T u w du dw, x = .ref T ∧ H2 T = none ∧ H3 = upd H2 T (.tup [u, w]) ∧ d = .tup [du, dw] ∧ Rep K F H du u ∧ Rep K F H dw w
structure WalkD (K : PySem.W.Frag) (F H : Hp) (J : It) (items : List D) (Z : List Addr) : Prop where
  go : ∀ i H2, i < items.length → (∀ a ∈ Z, H2 a = H a) → J.go i H2
  stop : ∀ H2, (∀ a ∈ Z, H2 a = H a) → J.stop items.length H2
  yld : ∀ i H2 x H3, i < items.length → (∀ a ∈ Z, H2 a = H a) → J.yld i H2 x H3 → ∃ d, items[i]? = some d ∧ ItemR K F H d H2 x H3
def ZOk (σ : L2.St) (τ : Sts) (A : List Addr) (H : Hp) (Z : List Addr) : Option Nat → Prop
  | none => ∀ a ∈ Z, a ∉ A ∧ ∃ o, H a = some o
  | some i => ∃ a f ds, Z = [a] ∧ σ[i]? = some (some (.ref a)) ∧ τ[i]? = some (.ow f (.lst ds))
def DI (K : PySem.W.Frag) (mg : Str → Option Value) (W : WX) (Γ : Env1) (m : E) : TI := fun σ H R => ∃ τ F A L, SR K τ σ F H A L ∧ match evI Γ m τ with
  | .ok s => ∀ J F' H' A' Z, Step F H A F' H' A' → SR K s.2.2 σ F' H' A' L → WalkD K F' H' J s.1 Z → ZOk σ s.2.2 A' H' Z s.2.1 → R J H'
  | .exc c fs => ∀ F' H' A', Step F H A F' H' A' → XW K mg W c fs σ H'
  | .stuck => False
section
variable {K : PySem.W.Frag} {mg : Str → Option Value} {W : WX} {Γ : Env1} {σ : L2.St} {F H : Hp} {A : List Addr} {L : Nat → V} {τ : Sts} {Q : VK} {Rr : It → Hp → Prop}
theorem walkD_range {lo : Int} {n : Nat} : WalkD K F H (Itr lo n) ((List.range n).map fun (k : Nat) => .int (lo + (k : Int))) [] := by
  have hl : ((List.range n).map fun (k : Nat) => D.int (lo + (k : Int))).length = n := by simp
  refine ⟨fun i H2 hi _ => ?_, fun H2 _ => ?_, fun i H2 x H3 hi _ y => ?_⟩
  · rw [hl] at hi
    exact hi
  · rw [hl]
    exact Nat.le_refl _
  · rw [hl] at hi
    obtain ⟨y1, y2⟩ := y
    refine ⟨.int (lo + (i : Int)), ?_, .inl ⟨y1, ?_⟩⟩
    · rw [List.getElem?_map, List.getElem?_range hi]
      rfl
    · rw [y2]
      exact Rep.ofInt _
theorem di_range {a : E} (h : DI K mg W Γ (.iRange a) σ H Rr) : iRng1 (DA K mg W Γ (.cons a .nil)) σ H Rr := by
  obtain ⟨τ, F, A, L, sr, h⟩ := h
  refine ⟨τ, F, A, L, sr, ?_⟩
  simp only [evI] at h
  simp only [evs]
  cases e : ev Γ a τ with
  | stuck => rw [e] at h; exact h
  | exc c fs => rw [e] at h; exact h
  | ok x =>
    rw [e] at h
    simp only [R.bind_ok] at h ⊢
    intro vs F1 H1 A1 B pl
    obtain ⟨v, rfl, vr⟩ := pl.vr.one
    cases e2 : dat x.2 x.1 with
    | none => rw [e2] at h; exact h.elim
    | some d =>
      rw [e2] at h
      cases d with
      | int n =>
        simp only at h
        have hv := (vr.read pl.sr e2).int'
        subst hv
        by_cases hc : n < 2 ^ 62 ∧ -(2 ^ 62) ≤ n
        · rw [if_pos hc] at h
          refine ⟨n, rfl, hc.2, hc.1, h _ F1 H1 A1 [] pl.st pl.sr ?_ (fun _ z => (List.not_mem_nil z).elim)⟩
          have := walkD_range (K := K) (F := F1) (H := H1) (lo := 0) (n := n.toNat)
          simp only [Int.zero_add] at this
          exact this
        · rw [if_neg hc] at h
          exact h.elim
      | _ => exact h.elim
theorem int2_eq {ds : List D} {p : Int × Int} (h : int2 ds = some p) : ds = [.int p.1, .int p.2] := by
  unfold int2 at h
  split at h
  · cases h
    rfl
  · cases h
theorem di_range2 {a b : E} (h : DI K mg W Γ (.iRange2 a b) σ H Rr) : iRng2 (DA K mg W Γ (.cons a (.cons b .nil))) σ H Rr := by
  obtain ⟨τ, F, A, L, sr, h⟩ := h
  refine ⟨τ, F, A, L, sr, ?_⟩
  simp only [evI] at h
  simp only [evs]
  cases e : ev Γ a τ with
  | stuck => rw [e] at h; exact h
  | exc c fs => rw [e] at h; exact h
  | ok x =>
    rw [e] at h
    simp only [R.bind_ok] at h ⊢
    cases e1 : ev Γ b x.2 with
    | stuck => rw [e1] at h; exact h
    | exc c fs => rw [e1] at h; exact h
    | ok y =>
      rw [e1] at h
      simp only [R.bind_ok] at h ⊢
      intro vs F1 H1 A1 B pl
      cases e2 : dats y.2 [x.1, y.1] with
      | none => rw [e2] at h; exact h.elim
      | some ds =>
        rw [e2] at h
        have rd := pl.vr.reads pl.sr e2
        simp only [R.of_some, R.bind_ok] at h
        cases e3 : int2 ds with
        | none => rw [e3] at h; exact h.elim
        | some p =>
          rw [e3] at h
          simp only [R.of_some, R.bind_ok] at h
          rw [int2_eq e3] at rd
          obtain ⟨u, w, rfl, h1, h2⟩ := rd.two
          rw [h1.int', h2.int']
          by_cases hc : -(2 ^ 62) ≤ p.1 ∧ p.1 < 2 ^ 62 ∧ -(2 ^ 62) ≤ p.2 ∧ p.2 < 2 ^ 62
          · rw [if_pos hc] at h
            exact ⟨p.1, p.2, rfl, hc, h _ F1 H1 A1 [] pl.st pl.sr walkD_range (fun _ z => (List.not_mem_nil z).elim)⟩
          · rw [if_neg hc] at h
            exact h.elim
theorem walkD_list {a : Addr} {us : List V} {ds : List D} (ha : H a = some (.lst us)) (rp : RepL K F H ds us) : WalkD K F H (Itl K a) ds [a] := by
  have hl := rp.len
  have sq : ∀ H2 : Hp, (∀ b ∈ [a], H2 b = H b) → SqL K H2 a us := fun H2 q => SqL.of ((q a (List.mem_singleton.mpr rfl)).trans ha)
  refine ⟨fun i H2 hi q => ⟨us, us[i], sq H2 q, by simp [hl ▸ hi]⟩, fun H2 q => ⟨us, sq H2 q, by omega⟩, fun i H2 x H3 hi q y => ?_⟩
  obtain ⟨y1, y2⟩ := y
  have y3 := y2 us (sq H2 q)
  obtain ⟨w, g1, g2⟩ := rp.get (List.getElem?_eq_getElem hi)
  have : x = w := Option.some.inj (y3.symm.trans g1)
  subst this
  exact ⟨_, List.getElem?_eq_getElem hi, .inl ⟨y1, g2⟩⟩
theorem walkD_tup {a : Addr} {us : List V} {ds : List D} (ha : H a = some (.tup us)) (rp : RepL K F H ds us) : WalkD K F H (Itt K a) ds [a] := by
  have hl := rp.len
  have sq : ∀ H2 : Hp, (∀ b ∈ [a], H2 b = H b) → SqT K H2 a us := fun H2 q => SqT.of ((q a (List.mem_singleton.mpr rfl)).trans ha)
  refine ⟨fun i H2 hi q => ⟨us, us[i], sq H2 q, by simp [hl ▸ hi]⟩, fun H2 q => ⟨us, sq H2 q, by omega⟩, fun i H2 x H3 hi q y => ?_⟩
  obtain ⟨y1, y2⟩ := y
  have y3 := y2 us (sq H2 q)
  obtain ⟨w, g1, g2⟩ := rp.get (List.getElem?_eq_getElem hi)
  have : x = w := Option.some.inj (y3.symm.trans g1)
  subst this
  exact ⟨_, List.getElem?_eq_getElem hi, .inl ⟨y1, g2⟩⟩
theorem walkD_rev {a : Addr} {us : List V} {ds : List D} (ha : H a = some (.lst us)) (rp : RepL K F H ds us) : WalkD K F H (Itv K a us.length) ds.reverse [a] := by
  have hl := rp.len
  have sq : ∀ H2 : Hp, (∀ b ∈ [a], H2 b = H b) → SqL K H2 a us := fun H2 q => SqL.of ((q a (List.mem_singleton.mpr rfl)).trans ha)
  have w := walk_rev (K := K) (a := a) (xs := us)
  refine ⟨fun i H2 hi q => w.goes i H2 (by simpa [hl] using hi) (sq H2 q), fun H2 q => ?_, fun i H2 x H3 hi q y => ?_⟩
  · have := w.stops H2 (sq H2 q)
    simpa [hl] using this
  · have hi' : i < us.length := by simpa [hl] using hi
    obtain ⟨y1, y2⟩ := w.yields i H2 x H3 hi' (sq H2 q) y
    have hi2 : i < ds.length := by omega
    have : ds.reverse[i]? = ds[ds.length - 1 - i]? := by rw [List.getElem?_reverse hi2]
    obtain ⟨d, hd⟩ : ∃ d, ds[ds.length - 1 - i]? = some d := ⟨ds[ds.length - 1 - i]'(by omega), List.getElem?_eq_getElem _⟩
    obtain ⟨u, g1, g2⟩ := rp.get hd
    rw [hl, y2] at g1
    cases g1
    exact ⟨d, this.trans hd, .inl ⟨y1, g2⟩⟩
theorem walkD_enum {a : Addr} {us : List V} {ds : List D} (ha : H a = some (.lst us)) (rp : RepL K F H ds us) : WalkD K F H (Ite K a) (ds.zipIdx.map fun p => .tup [.int (p.2 : Nat), p.1]) [a] := by
  have hl := rp.len
  have sq : ∀ H2 : Hp, (∀ b ∈ [a], H2 b = H b) → SqL K H2 a us := fun H2 q => SqL.of ((q a (List.mem_singleton.mpr rfl)).trans ha)
  have w := walk_enum (K := K) (a := a) (xs := us)
  refine ⟨fun i H2 hi q => w.goes i H2 (by simpa [hl] using hi) (sq H2 q), fun H2 q => ?_, fun i H2 x H3 hi q y => ?_⟩
  · have := w.stops H2 (sq H2 q)
    simpa [hl] using this
  · have hi' : i < us.length := by simpa [hl] using hi
    obtain ⟨T, u, z, g1, g2, g3, g4, g5⟩ := w.yields i H2 x H3 hi' (sq H2 q) y
    have hi2 : i < ds.length := by omega
    have hd := List.getElem?_eq_getElem hi2
    obtain ⟨u2, k1, k2⟩ := rp.get hd
    replace g5 : us[i]? = some z := g5
    rw [g5] at k1
    cases k1
    cases g4
    refine ⟨.tup [.int (i : Nat), ds[i]], ?_, .inr ⟨T, _, _, _, _, g1, g2, g3, rfl, Rep.ofInt _, k2⟩⟩
    simp [List.getElem?_zipIdx, hi2]
/-- the sequence that a value is, as it is walked -/
theorem seq_walk {r : Val} {v : V} {B : List Addr} {b : Bool} {s : List D × Option Nat} {H0 F0 : Hp} {A0 : List Addr} (pst : Step F0 H0 A0 F H A) (sr : SR K τ σ F H A L) (vr : VR K σ F H r v B) (ap : Ap F A B) (bn : ∀ b ∈ B, b ∈ A0 ∨ H0 b = none) (e : seqOf τ b r = some s) :
    ∃ a us F1, Step F0 H0 A0 F1 H A ∧ SR K τ σ F1 H A L ∧ v = .ref a ∧ RepL K F1 H s.1 us ∧ ZOk σ τ A H [a] s.2 ∧ (H a = some (.lst us) ∨ (b = true ∧ H a = some (.tup us))) := by
  have gen : ∀ d, dat τ r = some d → noSlot r = true → (∃ ds, d = .lst ds ∨ (d = .tup ds)) → ∃ F1, Step F0 H0 A0 F1 H A ∧ SR K τ σ F1 H A L ∧ Rep K F1 H d v := fun d hd ns _ => by
    refine ⟨frzB F H B, pst.frozen ap.off bn, sr.frozen ap, ?_⟩
    have := VRL.frozen (τ := τ) (rs := [r]) (vs := [v]) (B := B ++ []) (ds := [d]) (frzB_le ap.off) (fun b hb => frzB_in (by simpa using hb)) ⟨v, [], B, [], rfl, rfl, vr, rfl, rfl⟩ (by simp [dats, hd]) (by simp [ns])
    obtain ⟨x, e1, e2⟩ := this.one'
    cases e1
    exact e2
  have zfz : ∀ {a : Addr} {o : HO} {F1 : Hp}, SR K τ σ F1 H A L → F1 a = some o → ∀ b ∈ [a], b ∉ A ∧ ∃ o, H b = some o := fun {a o F1} s1 h1 b hb => by
    rw [List.mem_singleton.mp hb]
    refine ⟨fun z => ?_, o, s1.le a o h1⟩
    rw [s1.off a z] at h1
    cases h1
  have ztup : ∀ {a : Addr} {us : List V}, H a = some (.tup us) → ∀ b ∈ [a], b ∉ A ∧ ∃ o, H b = some o := fun {a us} h1 b hb => by
    rw [List.mem_singleton.mp hb]
    refine ⟨fun z => ?_, _, h1⟩
    obtain ⟨u, q1, q2⟩ := sr.slots.dom a z
    rw [h1] at q1
    cases q1
    exact q2
  have plain : ∀ d, dat τ r = some d → noSlot r = true → (match d with
      | .lst ds => some (ds, none)
      | .tup ds => if b then some (ds, none) else none
      | _ => none) = some s → ∃ a us F1, Step F0 H0 A0 F1 H A ∧ SR K τ σ F1 H A L ∧ v = .ref a ∧ RepL K F1 H s.1 us ∧ ZOk σ τ A H [a] s.2 ∧ (H a = some (.lst us) ∨ (b = true ∧ H a = some (.tup us))) := fun d hd ns es => by
    cases d with
    | lst ds =>
      cases es
      obtain ⟨F1, s1, s2, s3⟩ := gen _ hd ns ⟨ds, .inl rfl⟩
      obtain ⟨a, us, rfl, g1, g2⟩ := s3.lst'
      exact ⟨a, us, F1, s1, s2, rfl, g2, zfz s2 g1, .inl (s2.le _ _ g1)⟩
    | tup ds =>
      simp only at es
      cases b with
      | false => cases es
      | true =>
        cases es
        obtain ⟨F1, s1, s2, s3⟩ := gen _ hd ns ⟨ds, .inr rfl⟩
        obtain ⟨a, us, rfl, g1, g2⟩ := s3.tup'
        exact ⟨a, us, F1, s1, s2, rfl, g2, ztup g1, .inr ⟨rfl, g1⟩⟩
    | _ => cases es
  cases r with
  | fz d => exact plain d rfl rfl (by cases d <;> exact e)
  | own f d => exact plain d rfl rfl (by cases d <;> exact e)
  | slot i =>
    simp only [seqOf] at e
    cases h1 : τ[i]? with
    | none => rw [h1] at e; cases e
    | some s1 =>
      rw [h1] at e
      cases s1 with
      | ow f d =>
        cases d with
        | lst ds =>
          simp only at e
          by_cases hi : immL ds = true
          · rw [if_pos hi] at e
            cases e
            obtain ⟨o, A1, g1, g2, _⟩ := sr.slots.at h1
            obtain ⟨w, rfl, ow⟩ := g2
            have : w = v := Option.some.inj (Option.some.inj (g1.symm.trans vr.2))
            subst this
            have rd := Own.read sr.le ow
            obtain ⟨a, us, rfl, g3, g4⟩ := rd.lst'
            exact ⟨a, us, F, pst, sr, rfl, g4.imm (Tk.refl H) hi, ⟨a, f, ds, rfl, g1, h1⟩, .inl g3⟩
          · rw [if_neg hi] at e
            cases e
        | _ => cases e
      | _ => cases e
theorem di_seq {a : E} (h : DI K mg W Γ (.iSeq a) σ H Rr) : iList K (DE K mg W Γ a) σ H Rr ∨ iTup K (DE K mg W Γ a) σ H Rr := by
  obtain ⟨τ, F, A, L, sr, h⟩ := h
  simp only [evI] at h
  cases e : ev Γ a τ with
  | stuck => rw [e] at h; exact h.elim
  | exc c fs =>
    rw [e] at h
    refine .inl ⟨τ, F, A, L, sr, ?_⟩
    rw [e]
    exact h
  | ok x =>
    rw [e] at h
    simp only [R.bind_ok] at h
    cases e2 : seqOf x.2 true x.1 with
    | none => rw [e2] at h; exact h.elim
    | some s =>
      rw [e2] at h
      simp only [R.of_some, R.bind_ok] at h
      -- the data tells which it is
      have key : (∃ ds, dat x.2 x.1 = some (.lst ds)) ∨ ∃ ds, dat x.2 x.1 = some (.tup ds) := by
        cases q : x.1 with
        | fz d =>
          rw [q] at e2
          simp only [seqOf, dat] at e2 ⊢
          cases d <;> first | exact .inl ⟨_, rfl⟩ | exact .inr ⟨_, rfl⟩ | cases e2
        | own f d =>
          rw [q] at e2
          simp only [seqOf, dat] at e2 ⊢
          cases d <;> first | exact .inl ⟨_, rfl⟩ | exact .inr ⟨_, rfl⟩ | cases e2
        | slot i =>
          rw [q] at e2
          simp only [seqOf, dat] at e2 ⊢
          cases h1 : x.2[i]? with
          | none => rw [h1] at e2; cases e2
          | some s1 =>
            rw [h1] at e2
            cases s1 with
            | ow f d =>
              cases d with
              | lst ds => exact .inl ⟨ds, rfl⟩
              | _ => cases e2
            | _ => cases e2
      rcases key with ⟨ds, hd⟩ | ⟨ds, hd⟩
      · refine .inl ⟨τ, F, A, L, sr, ?_⟩
        rw [e]
        intro v F1 H1 A1 B p
        obtain ⟨a, us, F2, s1, s2, rfl, s3, s4, s5⟩ := seq_walk p.st p.sr p.vr p.ap p.bn e2
        rcases s5 with s5 | ⟨_, s5⟩
        · exact ⟨a, rfl, ⟨us, SqL.of s5⟩, h _ F2 H1 A1 [a] s1 s2 (walkD_list s5 s3) s4⟩
        · exfalso
          have := p.vr.read p.sr hd
          obtain ⟨b, ws, e3, g1, _⟩ := this.lst'
          cases e3
          rw [s5] at g1
          cases g1
      · refine .inr ⟨τ, F, A, L, sr, ?_⟩
        rw [e]
        intro v F1 H1 A1 B p
        obtain ⟨a, us, F2, s1, s2, rfl, s3, s4, s5⟩ := seq_walk p.st p.sr p.vr p.ap p.bn e2
        rcases s5 with s5 | ⟨_, s5⟩
        · exfalso
          have := p.vr.read p.sr hd
          obtain ⟨b, ws, e3, g1, _⟩ := this.tup'
          cases e3
          rw [s5] at g1
          cases g1
        · exact ⟨a, rfl, ⟨us, SqT.of s5⟩, h _ F2 H1 A1 [a] s1 s2 (walkD_tup s5 s3) s4⟩
theorem di_rev {a : E} (h : DI K mg W Γ (.iRev a) σ H Rr) : iRev K (DA K mg W Γ (.cons a .nil)) σ H Rr := by
  obtain ⟨τ, F, A, L, sr, h⟩ := h
  refine ⟨τ, F, A, L, sr, ?_⟩
  simp only [evI] at h
  simp only [evs]
  cases e : ev Γ a τ with
  | stuck => rw [e] at h; exact h
  | exc c fs => rw [e] at h; exact h
  | ok x =>
    rw [e] at h
    simp only [R.bind_ok] at h ⊢
    intro vs F1 H1 A1 B p
    obtain ⟨v, rfl, vr⟩ := p.vr.one
    cases e2 : seqOf x.2 false x.1 with
    | none => rw [e2] at h; exact h.elim
    | some s =>
      rw [e2] at h
      simp only [R.of_some, R.bind_ok] at h
      obtain ⟨a, us, F2, s1, s2, rfl, s3, s4, s5⟩ := seq_walk p.st p.sr vr p.ap p.bn e2
      rcases s5 with s5 | ⟨z, _⟩
      · exact ⟨a, us, rfl, SqL.of s5, h _ F2 H1 A1 [a] s1 s2 (walkD_rev s5 s3) s4⟩
      · cases z
theorem di_enum {a : E} (h : DI K mg W Γ (.iEnum a) σ H Rr) : iEnum K (DA K mg W Γ (.cons a .nil)) σ H Rr := by
  obtain ⟨τ, F, A, L, sr, h⟩ := h
  refine ⟨τ, F, A, L, sr, ?_⟩
  simp only [evI] at h
  simp only [evs]
  cases e : ev Γ a τ with
  | stuck => rw [e] at h; exact h
  | exc c fs => rw [e] at h; exact h
  | ok x =>
    rw [e] at h
    simp only [R.bind_ok] at h ⊢
    intro vs F1 H1 A1 B p
    obtain ⟨v, rfl, vr⟩ := p.vr.one
    cases e2 : seqOf x.2 false x.1 with
    | none => rw [e2] at h; exact h.elim
    | some s =>
      rw [e2] at h
      simp only [R.of_some, R.bind_ok] at h
      obtain ⟨a, us, F2, s1, s2, rfl, s3, s4, s5⟩ := seq_walk p.st p.sr vr p.ap p.bn e2
      rcases s5 with s5 | ⟨z, _⟩
      · exact ⟨a, us, rfl, SqL.of s5, h _ F2 H1 A1 [a] s1 s2 (walkD_enum s5 s3) s4⟩
      · cases z
end
end Rg

/-! Rg12: targets, comprehensions. -/
namespace Rg
open PySem L2
def gNames : List Nat → TGs
  | [] => gNil
  | i :: r => gCons (gName i) (gNames r)
def gT (K : PySem.W.Frag) (tg : List Nat) (one : Bool) : TG := match one, tg with
  | true, [i] => gName i
  | true, _ => fun _ _ _ _ => False
  | false, tg => gTup K tg.length (gNames tg)
section
variable {K : PySem.W.Frag} {mg : Str → Option Value} {W : WX} {Γ : Env1} {σ : L2.St} {F H : Hp} {A : List Addr} {L : Nat → V} {τ : Sts} {Q : VK}
theorem Step.less {A' : List Addr} (h : ∀ a ∈ A', a ∈ A) : Step F H A F H A' := ⟨Le.refl F, fun _ h => .inl h, fun _ _ h _ => h, fun a ha => .inl (h a ha), fun _ h => h, Tk.refl H⟩
theorem put1_any {i : Nat} {s : Slot} {τ' : Sts} (sr : SR K τ σ F H A L) (e : put1 τ i s = some τ') : ∃ A' s0, SR K (τ.set i .un) σ F H A' L ∧ (∀ a ∈ A', a ∈ A) ∧ τ' = (τ.set i .un).set i s ∧ (τ.set i .un)[i]? = some s0 ∧ s0 = .un ∧ ∃ o, σ[i]? = some o := by
  unfold put1 at e
  cases h : τ[i]? with
  | none => rw [h] at e; cases e
  | some s1 =>
    rw [h] at e
    have hi : (τ.set i Slot.un)[i]? = some .un := by
      rw [List.getElem?_set_self (List.getElem?_eq_some_iff.mp h).1]
    have et : ∀ {x : Slot}, (τ.set i Slot.un).set i x = τ.set i x := List.set_set ..
    obtain ⟨o, A1, g1, g2, _⟩ := sr.slots.at h
    cases s1 with
    | lk f d => cases e
    | un =>
      cases e
      have := sr.slots.into (s := .un) (o := o) (A1 := []) h (fun _ _ z => by cases z) (fun _ _ => rfl) rfl
      rw [set_back g1] at this
      exact ⟨A, .un, ⟨sr.le, this, sr.nd, sr.off⟩, fun _ h => h, et.symm, hi, rfl, o, g1⟩
    | fz d =>
      cases e
      have := sr.slots.into (s := .un) (o := o) (A1 := []) h (fun _ _ z => by cases z) (fun _ _ => rfl) rfl
      rw [set_back g1] at this
      exact ⟨A, .un, ⟨sr.le, this, sr.nd, sr.off⟩, fun _ h => h, et.symm, hi, rfl, o, g1⟩
    | ow f d =>
      cases e
      obtain ⟨v, A2, Ar, k1, k2, k3, k4, _⟩ := sr.out h
      exact ⟨Ar, .un, k4, fun a ha => k3.mem_iff.mpr (List.mem_append_right _ ha), et.symm, hi, rfl, _, k1⟩
theorem put1_fz {i : Nat} {d : D} {v : V} {τ' : Sts} (sr : SR K τ σ F H A L) (hr : Rep K F H d v) (e : put1 τ i (.fz d) = some τ') : ∃ A', SR K τ' (σ.set i (some v)) F H A' L ∧ ∀ a ∈ A', a ∈ A := by
  obtain ⟨A', s0, s1, s2, rfl, s3, rfl, _⟩ := put1_any sr e
  exact ⟨A', s1.giveFz s3 (fun _ _ z => by cases z) hr, s2⟩
theorem put1_ow {i : Nat} {f : Bool} {d : D} {v : V} {B : List Addr} {τ' : Sts} (sr : SR K τ σ F H A L) (hr : Own K F H f d v B) (ap : Ap F A B) (e : put1 τ i (.ow f d) = some τ') : ∃ A', SR K τ' (σ.set i (some v)) F H A' L ∧ ∀ a ∈ A', a ∈ A ∨ a ∈ B := by
  obtain ⟨A', s0, s1, s2, rfl, s3, rfl, _⟩ := put1_any sr e
  exact ⟨B ++ A', s1.give (M := L) s3 (fun _ _ z => by cases z) (fun _ _ => rfl) hr ⟨ap.nd, fun b hb z => ap.a b hb (s2 b z), ap.off⟩, fun a ha => (List.mem_append.mp ha).elim .inr fun z => .inl (s2 a z)⟩
theorem wipe_set {i : Nat} {x : Option V} : ∀ {vs : List Nat} {σ : L2.St}, i ∈ vs → wipe (σ.set i x) vs = wipe σ vs
  | v :: vs, σ, h => by
    show (wipe (σ.set i x) vs).set v none = (wipe σ vs).set v none
    by_cases z : i ∈ vs
    · rw [wipe_set z]
    · rcases List.mem_cons.mp h with rfl | h
      · have : ∀ (us : List Nat) (σ : L2.St), i ∉ us → wipe (σ.set i x) us = (wipe σ us).set i x := by
          intro us
          induction us with
          | nil => intro _ _; rfl
          | cons u us ih =>
            intro σ hu
            show (wipe (σ.set i x) us).set u none = ((wipe σ us).set u none).set i x
            rw [ih σ fun z => hu (List.mem_cons_of_mem _ z), List.set_comm _ _ (fun (z : i = u) => hu (by rw [z]; exact List.mem_cons_self))]
        rw [this vs σ z, List.set_set]
      · exact (z h).elim
theorem putL_ok : ∀ {tg : List Nat} {ds : List D} {vs : List V} {τ τ' : Sts} {σ : L2.St} {A : List Addr}, SR K τ σ F H A L → RepL K F H ds vs → putL τ tg ds = some τ' →
    ∃ A' σ', SR K τ' σ' F H A' L ∧ (∀ a ∈ A', a ∈ A) ∧ (∀ us, (∀ i ∈ tg, i ∈ us) → wipe σ' us = wipe σ us) ∧ vs.length = tg.length ∧ ∀ Q : L2.St → Hp → Prop, Q σ' H → gNames tg vs σ H Q
  | [], [], vs, τ, τ', σ, A, sr, rp, e => by
    cases e
    rw [rp.unnil]
    exact ⟨A, σ, sr, fun _ h => h, fun _ _ => rfl, rfl, fun Q q => ⟨rfl, q⟩⟩
  | [], d :: ds, vs, τ, τ', σ, A, sr, rp, e => by cases e
  | i :: r, [], vs, τ, τ', σ, A, sr, rp, e => by cases e
  | i :: r, d :: ds, vs, τ, τ', σ, A, sr, rp, e => by
    obtain ⟨v, w, rfl, h1, h2⟩ := rp.uncons
    unfold putL at e
    obtain ⟨τ1, e1, e2⟩ := obind e
    obtain ⟨A1, s1, s2⟩ := put1_fz sr h1 e1
    obtain ⟨A2, σ2, t1, t2, t3, t4, t5⟩ := putL_ok s1 h2 e2
    refine ⟨A2, σ2, t1, fun a ha => s2 a (t2 a ha), fun us hu => ?_, by simp [t4], fun Q q => ⟨v, w, rfl, t5 Q q⟩⟩
    rw [t3 us fun j hj => hu j (List.mem_cons_of_mem _ hj), wipe_set (hu i List.mem_cons_self)]
theorem bind_ok {tg : List Nat} {one : Bool} {d : D} {x : V} {τ' : Sts} (sr : SR K τ σ F H A L) (rp : Rep K F H d x) (e : bindTg tg one τ d = some τ') :
    ∃ A' σ', SR K τ' σ' F H A' L ∧ (∀ a ∈ A', a ∈ A) ∧ wipe σ' tg = wipe σ tg ∧ ∀ Q : L2.St → Hp → Prop, Q σ' H → gT K tg one x σ H Q := by
  cases one with
  | true =>
    replace e : putL τ tg [d] = some τ' := by
      cases d <;> exact e
    obtain ⟨A', σ', t1, t2, t3, t4, t5⟩ := putL_ok sr (RepL.one rp) e
    refine ⟨A', σ', t1, t2, t3 tg fun _ h => h, fun Q q => ?_⟩
    cases tg with
    | nil => cases t4
    | cons i r =>
      cases r with
      | nil =>
        obtain ⟨v, w, e1, e2⟩ := t5 Q q
        cases e1
        exact e2.2
      | cons j r => cases t4
  | false =>
    cases d with
    | tup ds =>
      replace e : putL τ tg ds = some τ' := e
      obtain ⟨a, us, rfl, g1, g2⟩ := rp.tup'
      obtain ⟨A', σ', t1, t2, t3, t4, t5⟩ := putL_ok sr g2 e
      exact ⟨A', σ', t1, t2, t3 tg fun _ h => h, fun Q q => ⟨a, us, rfl, SqT.of g1, t4, t5 Q q⟩⟩
    | _ => cases e
/-! ### slots forgotten -/
theorem unlocked_mem {i : Nat} : ∀ {tg : List Nat}, unlocked τ tg = true → i ∈ tg → τ[i]? = some .un ∨ ∃ d, τ[i]? = some (.fz d) := by
  intro tg h hi
  unfold unlocked at h
  have := List.all_eq_true.mp h i hi
  split at this
  · exact .inl (by assumption)
  · exact .inr ⟨_, by assumption⟩
  · cases this
theorem wipeS_get {j : Nat} : ∀ {tg : List Nat}, (wipeS τ tg)[j]? = if j ∈ tg then (τ[j]?).map fun _ => Slot.un else τ[j]?
  | [] => by simp [wipeS]
  | i :: r => by
    show ((wipeS τ r).set i .un)[j]? = _
    rw [List.getElem?_set]
    by_cases e : i = j
    · subst e
      simp only [List.mem_cons_self, if_true]
      have : ∀ (l : List Nat), (wipeS τ l).length = τ.length := by
        intro l
        induction l with
        | nil => rfl
        | cons k l ih =>
          show ((wipeS τ l).set k .un).length = _
          rw [List.length_set, ih]
      rw [this r]
      by_cases hl : i < τ.length
      · simp [hl]
      · rw [if_neg hl]
        simp [Nat.not_lt.mp hl]
    · rw [if_neg e, wipeS_get (tg := r)]
      have e2 : ¬ j = i := fun z => e z.symm
      simp [e2]
theorem SR.wipe {tg : List Nat} (sr : SR K τ σ F H A L) (h : unlocked τ tg = true) : SR K (wipeS τ tg) (L2.wipe σ tg) F H A L := by
  refine ⟨sr.le, ?_, sr.nd, sr.off⟩
  have : ∀ l : List Nat, (∀ i ∈ l, i ∈ tg) → Sl K F H (wipeS τ l) (L2.wipe σ l) A L := by
    intro l
    induction l with
    | nil => intro _; exact sr.slots
    | cons i r ih =>
      intro hl
      have h1 := ih fun j hj => hl j (List.mem_cons_of_mem _ hj)
      have h2 : ∃ s0, (wipeS τ r)[i]? = some s0 ∧ ∀ f d, s0 ≠ .ow f d := by
        rw [wipeS_get]
        rcases unlocked_mem h (hl i List.mem_cons_self) with q | ⟨d, q⟩
        · rw [q]
          by_cases z : i ∈ r
          · rw [if_pos z]
            exact ⟨_, rfl, fun _ _ z => by cases z⟩
          · rw [if_neg z]
            exact ⟨_, rfl, fun _ _ z => by cases z⟩
        · rw [q]
          by_cases z : i ∈ r
          · rw [if_pos z]
            exact ⟨_, rfl, fun _ _ z => by cases z⟩
          · rw [if_neg z]
            exact ⟨_, rfl, fun _ _ z => by cases z⟩
      obtain ⟨s0, h3, h4⟩ := h2
      have := h1.into (s := .un) (o := none) (A1 := []) (M := L) h3 h4 (fun _ _ => rfl) rfl
      exact this
  exact this tg fun _ h => h
theorem wipe_wipe {tg : List Nat} : wipe (wipe σ tg) tg = wipe σ tg := by
  have : ∀ (l : List Nat), (∀ i ∈ l, i ∈ tg) → wipe (wipe σ l) tg = wipe σ tg := by
    intro l
    induction l with
    | nil => intro _; rfl
    | cons i r ih =>
      intro h
      show wipe ((wipe σ r).set i none) tg = _
      rw [wipe_set (h i List.mem_cons_self), ih fun j hj => h j (List.mem_cons_of_mem _ hj)]
  exact this tg fun _ h => h
/-- slots that are forgotten stand for any values -/
theorem SR.unwipe {tg : List Nat} (hl : σ.length = τ.length) (sr : SR K τ (L2.wipe σ tg) F H A L) (h : ∀ i ∈ tg, τ[i]? = some .un) : SR K τ σ F H A L := by
  refine ⟨sr.le, ?_, sr.nd, sr.off⟩
  have : ∀ l : List Nat, (∀ i ∈ l, i ∈ tg) → Sl K F H τ (L2.wipe σ l) A L → Sl K F H τ σ A L := by
    intro l
    induction l with
    | nil => intro _ h; exact h
    | cons i r ih =>
      intro hl2 h1
      refine ih (fun j hj => hl2 j (List.mem_cons_of_mem _ hj)) ?_
      have h3 := h i (hl2 i List.mem_cons_self)
      have h1' : Sl K F H τ ((L2.wipe σ r).set i none) A L := h1
      have hi : i < (L2.wipe σ r).length := by
        rw [wipe_length, hl]
        exact (List.getElem?_eq_some_iff.mp h3).1
      have := h1'.into (s := .un) (o := (L2.wipe σ r)[i]) (A1 := []) (M := L) h3 (fun _ _ z => by cases z) (fun _ _ => rfl) rfl
      rw [set_back h3, List.set_set, List.set_getElem_self] at this
      exact this
  exact this tg (fun _ h => h) sr.slots
/-! ### a comprehension -/
abbrev W0 : WX := fun _ _ _ _ => False
def compStep (Γ : Env1) (tg : List Nat) (one : Bool) (cond elt : E) (τ : Sts) (d : D) : R (Option Val × Sts) :=
  R.calm (R.of (bindTg tg one τ d) >>= fun τ1 => ev Γ cond τ1 >>= fun r => R.of (boolOf r.2 r.1) >>= fun k =>
        if k then ev Γ elt r.2 >>= fun r2 => R.of (sto r2.2 r2.1) >>= fun q => R.of (wipeC q.2 tg) >>= fun τ2 => .ok (some q.1, τ2) else R.of (wipeC r.2 tg) >>= fun τ2 => .ok (none, τ2))
theorem calm_ok {α : Type} {x : R α} {a : α} (h : x.calm = .ok a) : x = .ok a := by
  cases x with
  | ok b => exact h
  | exc c fs => cases h
  | stuck => cases h
theorem rbind_ok {α β : Type} {x : R α} {f : α → R β} {b : β} (h : (x >>= f) = .ok b) : ∃ a, x = .ok a ∧ f a = .ok b := by
  cases x with
  | ok a => exact ⟨a, rfl, h⟩
  | exc c fs => cases h
  | stuck => cases h
theorem rof_ok {α : Type} {x : Option α} {a : α} (h : R.of x = .ok a) : x = some a := by
  cases x with
  | none => cases h
  | some b =>
    cases h
    rfl
theorem wipeC_ok {tg : List Nat} {τ' : Sts} (h : wipeC τ tg = some τ') : unlocked τ tg = true ∧ τ' = wipeS τ tg := by
  unfold wipeC at h
  split at h
  · cases h
    exact ⟨by assumption, rfl⟩
  · cases h
/-- between two turns -/
def CI (K : PySem.W.Frag) (Γ : Env1) (σ0 : L2.St) (tg : List Nat) (one : Bool) (cond elt : E) (L : Nat → V) (F1 H1 : Hp) (A2 : List Addr) (Da : Addr) (items : List D) (q : Bool × List D × Sts) (i : Nat) (H' : Hp) : Prop :=
  ∃ τi Fi Ai accD accV B full, SR K τi σ0 Fi H' Ai L ∧ Step F1 H1 A2 Fi H' Ai ∧ H' Da = some (.lst accV) ∧ Kids K Fi H' full accD accV B ∧ Ap Fi Ai (Da :: B) ∧ (∀ b ∈ B, b ∈ A2 ∨ H1 b = none) ∧
    compGo (compStep Γ tg one cond elt) (items.drop i) accD full τi = .ok q ∧ ∀ j ∈ tg, τi[j]? = some .un
/-- the new list is kept over a step -/
theorem acc_step {F2 H2 : Hp} {A2 B : List Addr} {Da : Addr} {f : Bool} {ds : List D} {vs : List V} (st : Step F H A F2 H2 A2) (hD : H Da = some (.lst vs)) (kd : Kids K F H f ds vs B) (ap : Ap F A (Da :: B)) : H2 Da = some (.lst vs) ∧ Kids K F2 H2 f ds vs B ∧ Ap F2 A2 (Da :: B) := by
  have ow : Own K F H f (.lst ds) (.ref Da) (Da :: B) := by
    unfold Own
    exact ⟨Da, vs, B, rfl, hD, rfl, kd⟩
  obtain ⟨h1, h2⟩ := VR.step (σ := []) (r := .own f (.lst ds)) ow ap st
  replace h1 : Own K F2 H2 f (.lst ds) (.ref Da) (Da :: B) := h1
  unfold Own at h1
  obtain ⟨a, us, C, e1, e2, e3, e4⟩ := h1
  cases e1
  cases e3
  have : us = vs := by
    have := st.frame Da _ hD (ap.a Da List.mem_cons_self)
    rw [e2] at this
    cases this
    rfl
  subst this
  exact ⟨e2, e4, h2⟩
theorem ci_turn {σ0 : L2.St} {tg : List Nat} {one : Bool} {cond elt : E} {F1 H1 : Hp} {A2 Z : List Addr} {Da : Addr} {items : List D} {q : Bool × List D × Sts} {i : Nat} {H' H3 : Hp} {x : V} {d : D} (hD : H1 Da = none) (hw : wipe σ0 tg = σ0) (hi : items[i]? = some d) (ci : CI K Γ σ0 tg one cond elt L F1 H1 A2 Da items q i H') (it : ItemR K F1 H1 d H' x H3) :
    gT K tg one x σ0 H3 fun σ2 H2 => wipe σ2 tg = σ0 ∧ DT K mg W0 Γ cond σ2 H2 fun b H3 =>
      if b = true then DE K mg W0 Γ elt σ2 H3 fun y H4 => ∃ acc, H4 Da = some (.lst acc) ∧ acc.length < sizeLine ∧ CI K Γ σ0 tg one cond elt L F1 H1 A2 Da items q (i + 1) (upd H4 Da (.lst (acc ++ [y]))) else CI K Γ σ0 tg one cond elt L F1 H1 A2 Da items q (i + 1) H3 := by
  obtain ⟨τi, Fi, Ai, accD, accV, B, full, sr, st, hDa, kd, ap, bn, go, un⟩ := ci
  have hlt : i < items.length := (List.getElem?_eq_some_iff.mp hi).1
  have hdrop : items.drop i = d :: items.drop (i + 1) := by
    rw [List.drop_eq_getElem_cons hlt]
    congr 1
    exact (List.getElem?_eq_some_iff.mp hi).2
  rw [hdrop] at go
  unfold compGo at go
  obtain ⟨p, go1, go2⟩ := rbind_ok go
  have go3 := calm_ok go1
  obtain ⟨τ1, b1, b2⟩ := rbind_ok go3
  have b1 := rof_ok b1
  obtain ⟨r, c1, c2⟩ := rbind_ok b2
  obtain ⟨k, k1, k2⟩ := rbind_ok c2
  have k1 := rof_ok k1
  -- the item
  have itm : ∃ H3', H3' = H3 ∧ SR K τi σ0 Fi H3 Ai L ∧ Step F1 H1 A2 Fi H3 Ai ∧ H3 Da = some (.lst accV) ∧ Kids K Fi H3 full accD accV B ∧ Rep K Fi H3 d x := by
    rcases it with ⟨rfl, hr⟩ | ⟨T, u, w, du, dw, rfl, hT, rfl, rfl, h1, h2⟩
    · exact ⟨_, rfl, sr, st, hDa, kd, hr.mono st.mono st.tk⟩
    · have tk := upd_tk (o := .tup [u, w]) hT
      have nD : Da ≠ T := ne_of_none hDa hT
      refine ⟨_, rfl, sr.step hT, st.withLaid hT, ?_, kd.mono (Le.refl _) tk fun b hb => ?_, Rep.ofTup upd_same ?_⟩
      · rw [upd_ne nD]
        exact hDa
      · obtain ⟨o, e, _⟩ := kd.dom b hb
        rw [upd_ne (ne_of_none e hT)]
      · exact RepL.cons ((h1.mono st.mono st.tk).mono (Le.refl _) tk) (RepL.one ((h2.mono st.mono st.tk).mono (Le.refl _) tk))
  obtain ⟨_, _, sr, st, hDa, kd, hx⟩ := itm
  obtain ⟨A3, σ1, s1, s2, s3, s4⟩ := bind_ok sr hx b1
  refine s4 _ ⟨by rw [s3, hw], ?_⟩
  have st1 : Step F1 H1 A2 Fi H3 A3 := st.trans (Step.less s2)
  have ap1 : Ap Fi A3 (Da :: B) := ⟨ap.nd, fun b hb z => ap.a b hb (s2 b z), ap.off⟩
  refine dt_first s1 ?_
  rw [c1]
  simp only [k1]
  intro F4 H4 A4 st4 sr4
  obtain ⟨d4, kd4, ap4⟩ := acc_step st4 hDa kd ap1
  cases k with
  | false =>
    simp only [Bool.false_eq_true, if_false] at k2 ⊢
    obtain ⟨τ2, w1, w2⟩ := rbind_ok k2
    obtain ⟨u1, u2⟩ := wipeC_ok (rof_ok w1)
    cases w2
    simp only at go2
    have srw := sr4.wipe u1
    rw [s3, hw, ← u2] at srw
    refine ⟨τ2, F4, A4, accD, accV, B, full, srw, st1.trans st4, d4, kd4, ap4, bn, go2, fun j hj => ?_⟩
    rw [u2, wipeS_get, if_pos hj]
    rcases unlocked_mem u1 hj with z | ⟨_, z⟩ <;> rw [z] <;> rfl
  | true =>
    simp only [if_true] at k2 ⊢
    obtain ⟨r2, e1, e2⟩ := rbind_ok k2
    obtain ⟨qv, f1, f2⟩ := rbind_ok e2
    obtain ⟨τ2, w1, w2⟩ := rbind_ok f2
    have f1 := rof_ok f1
    obtain ⟨u1, u2⟩ := wipeC_ok (rof_ok w1)
    cases w2
    simp only at go2
    refine ⟨r.2, F4, A4, L, sr4, ?_⟩
    rw [e1]
    intro y F5 H5 A5 B5 p5
    obtain ⟨d5, kd5, ap5⟩ := acc_step p5.st d4 kd4 ap4
    obtain ⟨A6, B6, g1, g2, g3, g4, g5, g6⟩ := sto_ok p5.sr p5.vr p5.ap (show sto r2.2 r2.1 = some (qv.1, qv.2) from f1)
    have hz : accD.length < sizeLine := by
      by_cases hz : accD.length < sizeLine
      · exact hz
      · rw [if_neg hz] at go2
        cases go2
    rw [if_pos hz] at go2
    -- the new item beside the others
    have dj : ∀ b ∈ Da :: B, b ∉ B6 := fun b hb z => by
      rcases g5 b z with z | z
      · rcases p5.bn b z with z | z
        · exact ap4.a b hb z
        · have : ∃ o, H4 b = some o := by
            rcases List.mem_cons.mp hb with rfl | hb
            · exact ⟨_, d4⟩
            · obtain ⟨o, e, _⟩ := kd4.dom b hb
              exact ⟨o, e⟩
          obtain ⟨o, e⟩ := this
          rw [e] at z
          cases z
      · exact ap5.a b hb z
    have ap6 : Ap F5 A6 (Da :: B) := ⟨ap5.nd, fun b hb z => ap5.a b hb (g4 b z), ap5.off⟩
    have ap7 : Ap F5 A6 (Da :: B ++ B6) := ap6.app g3 dj
    have kd6 := (kd5.to (g := full && vFull qv.1) fun z => (Bool.and_eq_true_iff.mp z).1).app (g2.kid (f := full && vFull qv.1) g6 fun z => (Bool.and_eq_true_iff.mp z).2)
    refine ⟨accV, d5, by rw [← kd5.len]; exact hz, ?_⟩
    have tk : Tk H5 (upd H5 Da (.lst (accV ++ [y]))) := own_tk d5 trivial
    have nDa : ∀ b ∈ B ++ B6, b ≠ Da := fun b hb z => by
      have := (List.nodup_cons.mp ap7.nd).1
      exact this (z ▸ hb)
    have srw := g1.wipe u1
    have s3' : wipe σ1 tg = σ0 := by rw [s3, hw]
    rw [s3', ← u2] at srw
    have srU : SR K τ2 σ0 F5 (upd H5 Da (.lst (accV ++ [y]))) A6 L := srw.keep (Le.refl _) (fun b o e => by
      have : b ≠ Da := fun z => by
        rw [z, ap7.off Da List.mem_cons_self] at e
        cases e
      rw [upd_ne this]
      exact srw.le b o e) tk (fun b hb => upd_ne fun z => ap7.a Da List.mem_cons_self (z ▸ hb)) srw.off
    have st5 : Step F1 H1 A2 F5 H5 A6 := ((st1.trans st4).trans p5.st).trans (Step.less g4)
    have st6 : Step F1 H1 A2 F5 (upd H5 Da (.lst (accV ++ [y]))) A6 := ⟨st5.mono, st5.fresh, fun b o e n => by
      rw [upd_ne (ne_of_none e hD)]
      exact st5.frame b o e n, st5.own, fun b e => st5.dom b (upd_dom e), st5.tk.trans tk⟩
    refine ⟨τ2, F5, A6, accD ++ [vD qv.1], accV ++ [y], B ++ B6, full && vFull qv.1, srU, st6, upd_same, kd6.mono (Le.refl _) tk fun b hb => upd_ne (nDa b hb), ap7, fun b hb => ?_, go2, fun j hj => ?_⟩
    · rcases List.mem_append.mp hb with hb | hb
      · exact bn b hb
      · have hst := (st1.trans st4)
        rcases g5 b hb with z | z
        · rcases p5.bn b z with z | z
          · exact hst.own b z
          · exact .inr (hst.dom b z)
        · exact (hst.trans p5.st).own b z
    · rw [u2, wipeS_get, if_pos hj]
      rcases unlocked_mem u1 hj with z | ⟨_, z⟩ <;> rw [z] <;> rfl
end
end Rg

/-! Rg13: a slot locked while it is walked; comprehensions, whole. -/
namespace Rg
open PySem L2
section
variable {K : PySem.W.Frag} {mg : Str → Option Value} {W : WX} {Γ : Env1} {σ : L2.St} {F H : Hp} {A : List Addr} {L : Nat → V} {τ : Sts} {Q : VK}
/-- a walk begins: the slot that is walked is locked; how it comes back -/
theorem lock_ok {Z : List Addr} {lk : Option Nat} (sr : SR K τ σ F H A L) (z : ZOk σ τ A H Z lk) : ∃ A2 L2, SR K (lock τ lk) σ F H A2 L2 ∧ (∀ a ∈ Z, a ∉ A2 ∧ ∃ o, H a = some o) ∧ (∀ a ∈ A2, a ∈ A) ∧
    ∀ τn σn Fn Hn An τ3, SR K τn σn Fn Hn An L2 → Step F H A2 Fn Hn An → unlock τ τn lk = some τ3 → ∃ A3, SR K τ3 σn Fn Hn A3 L ∧ (∀ a ∈ A3, a ∈ An ∨ a ∈ A) ∧ ∀ C, Ap Fn An C → (∀ b ∈ C, b ∈ A2 ∨ H b = none) → Ap Fn A3 C := by
  cases lk with
  | none =>
    refine ⟨A, L, sr, z, fun _ h => h, fun τn σn Fn Hn An τ3 s st e => ?_⟩
    cases e
    exact ⟨An, s, fun _ h => .inl h, fun _ h _ => h⟩
  | some i =>
    obtain ⟨a, f, ds, rfl, z1, z2⟩ := z
    obtain ⟨v, A1, Ar, g1, g2, g3, g4, g5, g6⟩ := sr.out z2
    have el : lock τ (some i) = τ.set i (.lk f (.lst ds)) := by
      simp only [lock]
      rw [z2]
    have ev : v = .ref a := Option.some.inj (Option.some.inj (g1.symm.trans z1))
    subst ev
    have hA1 : ∃ us C, H a = some (.lst us) ∧ A1 = a :: C := by
      unfold Own at g2
      obtain ⟨b, us, C, e1, e2, e3, _⟩ := g2
      cases e1
      exact ⟨us, C, e2, e3⟩
    obtain ⟨us, C, ha, eA⟩ := hA1
    have inA : ∀ b ∈ A1, b ∈ A := fun b hb => g3.mem_iff.mpr (List.mem_append_left _ hb)
    have arA : ∀ b ∈ Ar, b ∈ A := fun b hb => g3.mem_iff.mpr (List.mem_append_right _ hb)
    refine ⟨Ar, _, by rw [el]; exact g6, fun b hb => ?_, arA, fun τn σn Fn Hn An τ3 s st e => ?_⟩
    · rw [List.mem_singleton.mp hb]
      exact ⟨g5.a a (by rw [eA]; exact List.mem_cons_self), _, ha⟩
    · simp only [unlock] at e
      cases h1 : τn[i]? with
      | none => rw [h1] at e; cases e
      | some s1 =>
        rw [h1, z2] at e
        cases s1 with
        | lk f' d' =>
          cases e
          obtain ⟨o, B1, k1, k2, _⟩ := s.slots.at h1
          obtain ⟨_, k3⟩ := k2
          rw [if_pos rfl] at k3
          subst k3
          obtain ⟨w1, w2⟩ := VR.step (σ := σ) (r := .own f (.lst ds)) g2 g5 st
          have := s.give (M := L) h1 (fun _ _ z => by cases z) (fun j hj => by rw [if_neg hj]) w1 w2
          rw [set_back k1] at this
          refine ⟨A1 ++ An, this, fun b hb => (List.mem_append.mp hb).elim (fun y => .inr (inA b y)) .inl, fun C apC hC => ⟨apC.nd, fun b hb y => ?_, apC.off⟩⟩
          rcases List.mem_append.mp y with y | y
          · rcases hC b hb with q | q
            · exact g5.a b y q
            · obtain ⟨o, q2, _⟩ := Own.dom g2 b y
              rw [q] at q2
              cases q2
          · exact apC.a b hb y
        | un => cases e
        | fz d => cases e
        | ow f d => cases e
theorem de_comp {tg : List Nat} {one : Bool} {it cond elt : E} (h : DE K mg W Γ (.comp tg one it cond elt) σ H Q) : tLc (DI K mg W Γ it) (gT K tg one) (DT K mg W0 Γ cond) (DE K mg W0 Γ elt) tg σ H Q := by
  obtain ⟨τ, F, A, L, sr, h⟩ := h
  refine ⟨τ, F, A, L, sr, ?_⟩
  simp only [ev] at h
  cases e : evI Γ it τ with
  | stuck => rw [e] at h; exact h
  | exc c fs => rw [e] at h; exact h
  | ok s =>
    rw [e] at h
    simp only [R.bind_ok] at h ⊢
    intro J F1 H1 A1 Z st1 sr1 wd zok Da hDa
    cases e1 : wipeC s.2.2 tg with
    | none => rw [e1] at h; exact h.elim
    | some τ0 =>
      rw [e1] at h
      simp only [R.of_some, R.bind_ok] at h
      obtain ⟨u1, u2⟩ := wipeC_ok e1
      subst u2
      have srw := sr1.wipe u1
      have zok2 : ZOk (wipe σ tg) (wipeS s.2.2 tg) A1 H1 Z s.2.1 := by
        cases q : s.2.1 with
        | none => rw [q] at zok; exact zok
        | some i =>
          rw [q] at zok
          obtain ⟨a, f, ds, z0, z1, z2⟩ := zok
          have ni : i ∉ tg := fun z => by
            rcases unlocked_mem u1 z with y | ⟨_, y⟩ <;> rw [z2] at y <;> cases y
          exact ⟨a, f, ds, z0, by rw [wipe_out ni]; exact z1, by rw [wipeS_get, if_neg ni]; exact z2⟩
      obtain ⟨A2, L2, srL, zA, a2A, back⟩ := lock_ok srw zok2
      cases e2 : compGo (compStep Γ tg one cond elt) s.1 [] true (lock (wipeS s.2.2 tg) s.2.1) with
      | stuck =>
        have h2 := h
        unfold compStep at e2
        rw [e2] at h2
        exact h2.elim
      | exc c fs =>
        exfalso
        have : ∀ (l : List D) (acc : List D) (f : Bool) (t : Sts), compGo (compStep Γ tg one cond elt) l acc f t ≠ .exc c fs := by
          intro l
          induction l with
          | nil => intro acc f t z; cases z
          | cons d l ih =>
            intro acc f t z
            unfold compGo at z
            cases q : compStep Γ tg one cond elt t d with
            | stuck => rw [q] at z; cases z
            | exc c' fs' =>
              unfold compStep at q
              have : ∀ {α : Type} (x : R α), x.calm ≠ .exc c' fs' := fun x => by cases x <;> (intro y; cases y)
              exact this _ q
            | ok p =>
              rw [q] at z
              simp only [R.bind_ok] at z
              cases y : p.1 with
              | none => rw [y] at z; exact ih _ _ _ z
              | some v =>
                rw [y] at z
                simp only at z
                split at z
                · exact ih _ _ _ z
                · cases z
        exact this _ _ _ _ e2
      | ok q =>
        have h2 := h
        have e2' := e2
        unfold compStep at e2'
        rw [e2'] at h2
        simp only [R.bind_ok] at h2
        have hu : ∀ j ∈ tg, (lock (wipeS s.2.2 tg) s.2.1)[j]? = some .un := fun j hj => by
          have base : (wipeS s.2.2 tg)[j]? = some .un := by
            rw [wipeS_get, if_pos hj]
            rcases unlocked_mem u1 hj with z | ⟨_, z⟩ <;> rw [z] <;> rfl
          cases q2 : s.2.1 with
          | none => exact base
          | some i =>
            rw [q2] at zok2
            obtain ⟨a, f, ds, _, _, z2⟩ := zok2
            have el : lock (wipeS s.2.2 tg) (some i) = (wipeS s.2.2 tg).set i (.lk f (.lst ds)) := by
              simp only [lock]
              rw [z2]
            rw [el, List.getElem?_set_ne (fun (z : i = j) => by
              rw [z, base] at z2
              cases z2)]
            exact base
        have wk : Walk J s.1.length (fun H2 => ∀ a ∈ Z, H2 a = H1 a) (fun i H2 x H3 => ∃ d, s.1[i]? = some d ∧ ItemR K F1 H1 d H2 x H3) := ⟨wd.go, wd.stop, wd.yld⟩
        refine lc_it wk (CI K Γ (wipe σ tg) tg one cond elt L2 F1 H1 A2 Da s.1 q) ?_ ?_ ?_ ?_
        · have off := srL.off_none hDa
          refine ⟨_, F1, A2, [], [], [], true, srL.step hDa, Step.laid hDa, upd_same, Kids.nil, Ap.one off, fun _ z => (List.not_mem_nil z).elim, ?_, hu⟩
          rw [List.drop_zero]
          exact e2
        · intro i H' _ ci a ha
          obtain ⟨τi, Fi, Ai, accD, accV, B, full, _, st, _⟩ := ci
          obtain ⟨n, o, ho⟩ := zA a ha
          rw [ho]
          exact st.frame a o ho n
        · intro i x H' H3 hi ci it
          obtain ⟨d, hd, it⟩ := it
          exact ci_turn (Z := Z) hDa wipe_wipe hd ci it
        · intro H' ci
          obtain ⟨τi, Fi, Ai, accD, accV, B, full, si, st, hD', kd, ap, bn, go, un⟩ := ci
          rw [List.drop_length] at go
          cases go
          simp only at h2
          cases e3 : unlock (wipeS s.2.2 tg) τi s.2.1 with
          | none => rw [e3] at h2; exact h2.elim
          | some τ3 =>
            rw [e3] at h2
            simp only [R.of_some, R.bind_ok] at h2
            obtain ⟨A3, s3, i3, j3⟩ := back _ _ _ _ _ _ si st e3
            have un3 : ∀ j ∈ tg, τ3[j]? = some .un := fun j hj => by
              cases q2 : s.2.1 with
              | none =>
                rw [q2] at e3
                cases e3
                exact un j hj
              | some i =>
                rw [q2] at e3 zok2
                obtain ⟨a, f, ds, _, _, z2⟩ := zok2
                simp only [unlock] at e3
                rw [z2] at e3
                cases y : τi[i]? with
                | none => rw [y] at e3; cases e3
                | some s1 =>
                  rw [y] at e3
                  cases s1 with
                  | lk f' d' =>
                    cases e3
                    rw [List.getElem?_set_ne (fun (z : i = j) => by
                      rw [z, un j hj] at y
                      cases y)]
                    exact un j hj
                  | un => cases e3
                  | fz d => cases e3
                  | ow f d => cases e3
            have s4 := SR.unwipe (by
              have := s3.slots.len
              rw [wipe_length] at this
              exact this.symm) s3 un3
            have stA : Step F H A Fi H' A3 := by
              have base := st1.trans (Step.less a2A)
              have base2 := base.trans st
              refine ⟨base2.mono, base2.fresh, base2.frame, fun b hb => ?_, base2.dom, base2.tk⟩
              rcases i3 b hb with y | y
              · exact base2.own b y
              · exact st1.own b y
            have apD : Ap Fi A3 (Da :: B) := j3 _ ap fun b hb => by
              rcases List.mem_cons.mp hb with rfl | hb
              · exact .inr hDa
              · exact bn b hb
            refine h2 _ Fi H' A3 (Da :: B) ⟨stA, s4, ?_, apD, fun b hb => ?_⟩
            · show Own K Fi H' _ (.lst _) _ _
              unfold Own
              exact ⟨Da, accV, B, rfl, hD', rfl, kd⟩
            · rcases List.mem_cons.mp hb with rfl | hb
              · exact .inr (st1.dom _ hDa)
              · rcases bn b hb with y | y
                · exact st1.own b (a2A b y)
                · exact .inr (st1.dom b y)
end
end Rg

/-! Rg14: statements. -/
namespace Rg
open PySem L2
/-- a look at the slots that holds whatever the names tg hold -/
def PIn (P : L2.St → Prop) (tg : List Nat) : Prop := ∀ σ σ', wipe σ' tg = wipe σ tg → P σ → P σ'
/-- what is wanted behind a run of statements that began at F, H, A -/
def After (K : PySem.W.Frag) (mg : Str → Option Value) (P : L2.St → Prop) (W : WX) (Dn : Ends) (L : Nat → V) (F H : Hp) (A : List Addr) : R Fl → Prop
  | .ok (.next τ') => ∀ σ' F' H' A', Step F H A F' H' A' → SR K τ' σ' F' H' A' L → P σ' → Dn.nx σ' H'
  | .ok (.ret r τ') => ∀ v σ' F' H' A' B L', Step F H A F' H' A' → SR K τ' σ' F' H' A' L' → VR K σ' F' H' r v B → Ap F' A' B → (∀ b ∈ B, b ∈ A ∨ H b = none) → P σ' → Dn.rt v H'
  | .exc c fs => ∀ σ' F' H' A', Step F H A F' H' A' → XW K mg W c fs σ' H'
  | .stuck => False
def DS (K : PySem.W.Frag) (mg : Str → Option Value) (P : L2.St → Prop) (W : WX) (Γ : Env1) (n : Nat) (m : S) : TS := fun Dn σ H => ∃ τ F A L, SR K τ σ F H A L ∧ P σ ∧ After K mg P W Dn L F H A (ex Γ n m τ)
section
variable {K : PySem.W.Frag} {mg : Str → Option Value} {P : L2.St → Prop} {W : WX} {Γ : Env1} {n : Nat} {σ : L2.St} {F H : Hp} {A : List Addr} {L : Nat → V} {τ : Sts} {Dn : Ends}
theorem After.later {F1 H1 : Hp} {A1 : List Addr} {r : R Fl} (st : Step F H A F1 H1 A1) (h : After K mg P W Dn L F H A r) : After K mg P W Dn L F1 H1 A1 r := by
  cases r with
  | stuck => exact h
  | exc c fs => exact fun σ' F' H' A' s => h σ' F' H' A' (st.trans s)
  | ok f =>
    cases f with
    | next τ' => exact fun σ' F' H' A' s r => h σ' F' H' A' (st.trans s) r
    | ret v τ' => exact fun v σ' F' H' A' B L' s r vr ap bn => h v σ' F' H' A' B L' (st.trans s) r vr ap (fun b hb => (bn b hb).elim (fun z => st.own b z) fun z => .inr (st.dom b z))
theorem ds_seq {a b : S} (h : DS K mg P W Γ n (.seq a b) Dn σ H) : tSeq (DS K mg P W Γ n a) (DS K mg P W Γ n b) Dn σ H := by
  obtain ⟨τ, F, A, L, sr, hP, h⟩ := h
  refine ⟨τ, F, A, L, sr, hP, ?_⟩
  simp only [ex] at h
  cases e : ex Γ n a τ with
  | stuck => rw [e] at h; exact h
  | exc c fs => rw [e] at h; exact h
  | ok f =>
    rw [e] at h
    simp only [R.bind_ok] at h
    cases f with
    | next τ' => exact fun σ' F' H' A' s r z => ⟨τ', F', A', L, r, z, h.later s⟩
    | ret v τ' => exact h
theorem ds_skip (h : DS K mg P W Γ n .skip Dn σ H) : tNext Dn σ H := by
  obtain ⟨τ, F, A, L, sr, hP, h⟩ := h
  simp only [ex] at h
  exact h σ F H A (Step.refl F H A) sr hP
theorem ds_never (h : DS K mg P W Γ n .never Dn σ H) : tNever Dn σ H := by
  obtain ⟨τ, F, A, L, sr, hP, h⟩ := h
  simp only [ex] at h
  exact h
/-- a run of an expression within a statement -/
theorem de_in {m : E} {Q : VK} (sr : SR K τ σ F H A L) (h : match ev Γ m τ with
      | .ok r => ∀ v F' H' A' B, Post K σ L F H A r.2 F' H' A' r.1 v B → Q v H'
      | .exc c fs => After K mg P W Dn L F H A (.exc c fs)
      | .stuck => False) : DE K mg W Γ m σ H Q := by
  refine ⟨τ, F, A, L, sr, ?_⟩
  cases e : ev Γ m τ with
  | stuck => rw [e] at h; exact h
  | exc c fs => rw [e] at h; exact fun F' H' A' s => h σ F' H' A' s
  | ok r => rw [e] at h; exact h
theorem ds_expr {e : E} (h : DS K mg P W Γ n (.expr e) Dn σ H) : tDrop (DE K mg W Γ e) Dn σ H := by
  obtain ⟨τ, F, A, L, sr, hP, h⟩ := h
  refine de_in (P := P) (Dn := Dn) sr ?_
  simp only [ex] at h
  cases q : ev Γ e τ with
  | stuck => rw [q] at h; exact h
  | exc c fs => rw [q] at h; exact h
  | ok r =>
    rw [q] at h
    exact fun v F' H' A' B p => h σ F' H' A' p.st p.sr hP
theorem ds_ret {e : E} (h : DS K mg P W Γ n (.ret e) Dn σ H) : tRet (DE K mg W Γ e) Dn σ H := by
  obtain ⟨τ, F, A, L, sr, hP, h⟩ := h
  refine de_in (P := P) (Dn := Dn) sr ?_
  simp only [ex] at h
  cases q : ev Γ e τ with
  | stuck => rw [q] at h; exact h
  | exc c fs => rw [q] at h; exact h
  | ok r =>
    rw [q] at h
    exact fun v F' H' A' B p => h v σ F' H' A' B L p.st p.sr p.vr p.ap p.bn hP
theorem ds_asg {i : Nat} {e : E} (pin : PIn P [i]) (h : DS K mg P W Γ n (.asg i e) Dn σ H) : tAsg (DE K mg W Γ e) (gName i) Dn σ H := by
  obtain ⟨τ, F, A, L, sr, hP, h⟩ := h
  refine de_in (P := P) (Dn := Dn) sr ?_
  simp only [ex] at h
  cases q : ev Γ e τ with
  | stuck => rw [q] at h; exact h
  | exc c fs => rw [q] at h; exact h
  | ok r =>
    rw [q] at h
    simp only [R.bind_ok] at h ⊢
    intro v F' H' A' B p
    cases q1 : sto r.2 r.1 with
    | none => rw [q1] at h; exact h.elim
    | some w =>
      rw [q1] at h
      simp only [R.of_some, R.bind_ok] at h
      obtain ⟨A2, B2, g1, g2, g3, g4, g5, g6⟩ := sto_ok p.sr p.vr p.ap (show sto r.2 r.1 = some (w.1, w.2) from q1)
      cases q2 : put1 w.2 i (slotOf w.1) with
      | none => rw [q2] at h; exact h.elim
      | some τ' =>
        rw [q2] at h
        simp only [R.of_some, R.bind_ok] at h
        have st2 : ∀ A3 : List Addr, (∀ a ∈ A3, a ∈ A2 ∨ a ∈ B2) → Step F H A F' H' A3 := fun A3 hA => ⟨p.st.mono, p.st.fresh, p.st.frame, fun a ha => by
          rcases hA a ha with z | z
          · exact p.st.own a (g4 a z)
          · rcases g5 a z with z | z
            · exact p.bn a z
            · exact p.st.own a z, p.st.dom, p.st.tk⟩
        show Dn.nx (σ.set i (some v)) H'
        have hP2 : P (σ.set i (some v)) := pin _ _ (wipe_set List.mem_cons_self) hP
        cases q3 : w.1 with
        | fz d =>
          rw [q3] at q2 g2
          obtain ⟨A3, s3, s4⟩ := put1_fz g1 g2.2 q2
          exact h _ F' H' A3 (st2 A3 fun a ha => .inl (s4 a ha)) s3 hP2
        | own f d =>
          rw [q3] at q2 g2
          obtain ⟨A3, s3, s4⟩ := put1_ow g1 g2 g3 q2
          exact h _ F' H' A3 (st2 A3 s4) s3 hP2
        | slot j =>
          rw [q3] at g6
          cases g6
theorem ds_unpack {tg : List Nat} {e : E} (pin : PIn P tg) (h : DS K mg P W Γ n (.unpack tg e) Dn σ H) : tAsg (DE K mg W Γ e) (gT K tg false) Dn σ H := by
  obtain ⟨τ, F, A, L, sr, hP, h⟩ := h
  refine de_in (P := P) (Dn := Dn) sr ?_
  simp only [ex] at h
  cases q : ev Γ e τ with
  | stuck => rw [q] at h; exact h
  | exc c fs => rw [q] at h; exact h
  | ok r =>
    rw [q] at h
    simp only [R.bind_ok] at h ⊢
    intro v F' H' A' B p
    have pv := p.vr
    cases q0 : r.1 with
    | fz d =>
      rw [q0] at h pv
      simp only at h
      cases q1 : bindTg tg false r.2 d with
      | none => rw [q1] at h; exact h.elim
      | some τ' =>
        rw [q1] at h
        simp only [R.of_some, R.bind_ok] at h
        obtain ⟨A2, σ2, s1, s2, s5, s4⟩ := bind_ok p.sr pv.2 q1
        exact s4 _ (h σ2 F' H' A2 (p.st.trans (Step.less s2)) s1 (pin _ _ s5 hP))
    | own f d => rw [q0] at h; exact h.elim
    | slot j => rw [q0] at h; exact h.elim
theorem ds_par {i j : Nat} {a b : E} (pi : PIn P [i]) (pj : PIn P [j]) (h : DS K mg P W Γ n (.par i j a b) Dn σ H) : tPar i j (DA K mg W Γ (.cons a (.cons b .nil))) Dn σ H := by
  obtain ⟨τ, F, A, L, sr, hP, h⟩ := h
  refine ⟨τ, F, A, L, sr, ?_⟩
  simp only [ex] at h
  simp only [evs]
  cases e : ev Γ a τ with
  | stuck => rw [e] at h; exact h
  | exc c fs => rw [e] at h; exact fun F' H' A' s => h σ F' H' A' s
  | ok x =>
    rw [e] at h
    simp only [R.bind_ok] at h ⊢
    cases e1 : ev Γ b x.2 with
    | stuck => rw [e1] at h; exact h
    | exc c fs => rw [e1] at h; exact fun F' H' A' s => h σ F' H' A' s
    | ok y =>
      rw [e1] at h
      simp only [R.bind_ok] at h ⊢
      intro vs F1 H1 A1 B pl
      obtain ⟨v, w, B1, B2, rfl, rfl, v1, v2⟩ := pl.vr.two
      refine ⟨v, w, rfl, ?_⟩
      cases q1 : x.1 with
      | fz d =>
        cases q2 : y.1 with
        | fz d2 =>
          rw [q1, q2] at h
          rw [q1] at v1
          rw [q2] at v2
          simp only at h
          cases q3 : put1 y.2 i (.fz d) with
          | none => rw [q3] at h; exact h.elim
          | some τ1 =>
            rw [q3] at h
            simp only [R.of_some, R.bind_ok] at h
            cases q4 : put1 τ1 j (.fz d2) with
            | none => rw [q4] at h; exact h.elim
            | some τ2 =>
              rw [q4] at h
              simp only [R.of_some, R.bind_ok] at h
              obtain ⟨A2, s1, s2⟩ := put1_fz pl.sr v1.2 q3
              obtain ⟨A3, s3, s4⟩ := put1_fz s1 v2.2 q4
              exact h _ F1 H1 A3 (pl.st.trans (Step.less fun a ha => s2 a (s4 a ha))) s3 (pj _ _ (wipe_set List.mem_cons_self) (pi _ _ (wipe_set List.mem_cons_self) hP))
        | own f d => rw [q1, q2] at h; exact h.elim
        | slot k => rw [q1, q2] at h; exact h.elim
      | own f d => rw [q1] at h; exact h.elim
      | slot k => rw [q1] at h; exact h.elim
theorem ds_if {c : E} {a b : S} (h : DS K mg P W Γ n (.ifs c a b) Dn σ H) : tIfS (DT K mg W Γ c) (DS K mg P W Γ n a) (DS K mg P W Γ n b) Dn σ H := by
  obtain ⟨τ, F, A, L, sr, hP, h⟩ := h
  refine dt_first sr ?_
  simp only [ex] at h
  cases e : ev Γ c τ with
  | stuck => rw [e] at h; exact h
  | exc c fs => rw [e] at h; exact fun F' H' A' s => h σ F' H' A' s
  | ok x =>
    rw [e] at h
    simp only [R.bind_ok] at h ⊢
    cases e2 : boolOf x.2 x.1 with
    | none => rw [e2] at h; exact h.elim
    | some k =>
      rw [e2] at h
      simp only [R.of_some, R.bind_ok] at h ⊢
      intro F1 H1 A1 s1 r1
      cases k with
      | true =>
        simp only [if_true] at h ⊢
        exact ⟨x.2, F1, A1, L, r1, hP, h.later s1⟩
      | false =>
        simp only [Bool.false_eq_true, if_false] at h ⊢
        exact ⟨x.2, F1, A1, L, r1, hP, h.later s1⟩
theorem ds_frz {i : Nat} {b : S} (h : DS K mg P W Γ n (.seq (.frz i) b) Dn σ H) : DS K mg P W Γ n b Dn σ H := by
  obtain ⟨τ, F, A, L, sr, hP, h⟩ := h
  simp only [ex] at h
  cases e : τ[i]? with
  | none => rw [e] at h; exact h.elim
  | some s =>
    rw [e] at h
    cases s with
    | ow f d =>
      simp only [R.bind_ok] at h
      obtain ⟨v, A1, Ar, g1, g2, g3, g4, g5, _⟩ := sr.out e
      have s1 := g4.frozen g5
      have rp : Rep K (frzB F H A1) H d v := Own.freeze (frzB_le g5.off) (fun b hb => frzB_in hb) g2
      have hi : (τ.set i Slot.un)[i]? = some .un := by
        rw [List.getElem?_set_self (List.getElem?_eq_some_iff.mp e).1]
      have s2 := s1.giveFz hi (fun _ _ z => by cases z) rp
      rw [set_back g1, List.set_set] at s2
      have st : Step F H A (frzB F H A1) H Ar := by
        have base : Step F H A F H Ar := Step.less fun a ha => g3.mem_iff.mpr (List.mem_append_right _ ha)
        exact base.frozen g5.off fun b hb => .inl (g3.mem_iff.mpr (List.mem_append_left _ hb))
      exact ⟨_, _, Ar, L, s2, hP, h.later st⟩
    | un => exact h.elim
    | fz d =>
      simp only [R.bind_ok] at h
      exact ⟨τ, F, A, L, sr, hP, h⟩
    | lk f d => exact h.elim
/-! ### for -/
def forStep (Γ : Env1) (n : Nat) (tg : List Nat) (one : Bool) (b : S) (τ : Sts) (d : D) : R Fl := R.of (bindTg tg one τ d) >>= fun τ' => ex Γ n b τ'
theorem ds_for {tg : List Nat} {one : Bool} {it : E} {b : S} (pin : PIn P tg) (h : DS K mg P W Γ n (.fors tg one it b) Dn σ H) : tFor (DI K mg W Γ it) (gT K tg one) (DS K mg P W Γ n b) Dn σ H := by
  obtain ⟨τ, F, A, L, sr, hP, h⟩ := h
  refine ⟨τ, F, A, L, sr, ?_⟩
  simp only [ex] at h
  cases e : evI Γ it τ with
  | stuck => rw [e] at h; exact h
  | exc c fs => rw [e] at h; exact fun F' H' A' s => h σ F' H' A' s
  | ok s =>
    rw [e] at h
    simp only [R.bind_ok] at h ⊢
    intro J F1 H1 A1 Z st1 sr1 wd zok
    obtain ⟨A2, L2, srL, zA, a2A, back⟩ := lock_ok sr1 zok
    have wk : Walk J s.1.length (fun H2 => ∀ a ∈ Z, H2 a = H1 a) (fun i H2 x H3 => ∃ d, s.1[i]? = some d ∧ ItemR K F1 H1 d H2 x H3) := ⟨wd.go, wd.stop, wd.yld⟩
    have base : Step F H A F1 H1 A2 := st1.trans (Step.less a2A)
    -- what the whole loop gives
    cases er : forGo (forStep Γ n tg one b) s.1 (lock s.2.2 s.2.1) with
    | stuck =>
      have er' := er
      unfold forStep at er'
      rw [er'] at h
      exact h.elim
    | _ =>
      have er' := er
      unfold forStep at er'
      rw [er'] at h
      refine for_it wk (fun i σi Hi => ∃ τi Fi Ai, SR K τi σi Fi Hi Ai L2 ∧ Step F1 H1 A2 Fi Hi Ai ∧ P σi ∧ forGo (forStep Γ n tg one b) (s.1.drop i) τi = forGo (forStep Γ n tg one b) s.1 (lock s.2.2 s.2.1)) ?_ ?_ ?_ ?_
      · exact ⟨_, F1, A2, srL, Step.refl _ _ _, hP, by rw [List.drop_zero]⟩
      · intro i σi Hi _ pv a ha
        obtain ⟨τi, Fi, Ai, _, st, _, _⟩ := pv
        obtain ⟨n, o, ho⟩ := zA a ha
        rw [ho]
        exact st.frame a o ho n
      · intro i x σi Hi H3 hi pv it2
        obtain ⟨τi, Fi, Ai, si, st, hPi, go⟩ := pv
        obtain ⟨d, hd, it2⟩ := it2
        have hdrop : s.1.drop i = d :: s.1.drop (i + 1) := by
          rw [List.drop_eq_getElem_cons hi]
          congr 1
          exact (List.getElem?_eq_some_iff.mp hd).2
        rw [hdrop, er] at go
        unfold forGo at go
        have itm : SR K τi σi Fi H3 Ai L2 ∧ Step F1 H1 A2 Fi H3 Ai ∧ Rep K Fi H3 d x := by
          rcases it2 with ⟨rfl, hr⟩ | ⟨T, u, w, du, dw, rfl, hT, rfl, rfl, h1, h2⟩
          · exact ⟨si, st, hr.mono st.mono st.tk⟩
          · have tk := upd_tk (o := .tup [u, w]) hT
            exact ⟨si.step hT, st.withLaid hT, Rep.ofTup upd_same (RepL.cons ((h1.mono st.mono st.tk).mono (Le.refl _) tk) (RepL.one ((h2.mono st.mono st.tk).mono (Le.refl _) tk)))⟩
        obtain ⟨si, st, hx⟩ := itm
        cases eb : bindTg tg one τi d with
        | none =>
          unfold forStep at go
          rw [eb] at go
          cases go
        | some τ1 =>
          obtain ⟨A3, σ1, s1, s2, s5, s4⟩ := bind_ok si hx eb
          refine s4 _ ⟨τ1, Fi, A3, L2, s1, pin _ _ s5 hPi, ?_⟩
          have stA : Step F1 H1 A2 Fi H3 A3 := st.trans (Step.less s2)
          have ef : forStep Γ n tg one b τi d = ex Γ n b τ1 := by
            unfold forStep
            rw [eb]
            rfl
          rw [ef] at go
          cases ex1 : ex Γ n b τ1 with
          | stuck =>
            rw [ex1] at go
            cases go
          | exc c fs =>
            rw [ex1] at go
            simp only [R.bind_exc] at go
            first
              | (cases go; exact fun σ' F' H' A' s => h σ' F' H' A' ((base.trans stA).trans s))
              | cases go
          | ok f =>
            rw [ex1] at go
            simp only [R.bind_ok] at go
            cases f with
            | next τ' =>
              intro σ' F' H' A' s r z
              exact ⟨τ', F', A', r, stA.trans s, z, by rw [er]; exact go⟩
            | ret v τ' =>
              simp only at go
              first
                | (cases go
                   intro v2 σ' F' H' A' B L' s r vr ap bn
                   exact h v2 σ' F' H' A' B L' ((base.trans stA).trans s) r vr ap (fun b hb => (bn b hb).elim (fun z => (base.trans stA).own b z) fun z => .inr ((base.trans stA).dom b z)))
                | cases go
      · intro σi Hi pv
        obtain ⟨τi, Fi, Ai, si, st, hPi, go⟩ := pv
        rw [List.drop_length, er] at go
        first
          | (cases go
             simp only [R.bind_ok] at h
             cases e3 : unlock s.2.2 τi s.2.1 with
             | none => rw [e3] at h; exact h.elim
             | some τ3 =>
               rw [e3] at h
               simp only [R.of_some, R.bind_ok] at h
               obtain ⟨A3, s3, i3, _⟩ := back _ _ _ _ _ _ si st e3
               have b2 := base.trans st
               refine h σi Fi Hi A3 ⟨b2.mono, b2.fresh, b2.frame, fun c hc => ?_, b2.dom, b2.tk⟩ s3 hPi
               rcases i3 c hc with y | y
               · exact b2.own c y
               · exact st1.own c y)
          | cases go
/-! ### while -/
theorem ds_while {c : E} {b : S} (h : DS K mg P W Γ n (.whl c b) Dn σ H) : tWhile (DT K mg W Γ c) (DS K mg P W Γ n b) Dn σ H := by
  obtain ⟨τ, F, A, L, sr, hP, h⟩ := h
  simp only [ex] at h
  generalize hc : (fun τ => ev Γ c τ >>= fun r => R.of (boolOf r.2 r.1) >>= fun k => R.ok (k, r.2)) = cf at h
  generalize hb : (fun τ => ex Γ n b τ) = bf at h
  have hcf : ∀ τ, cf τ = (ev Γ c τ >>= fun r => R.of (boolOf r.2 r.1) >>= fun k => R.ok (k, r.2)) := fun τ => by rw [← hc]
  have hbf : ∀ τ, bf τ = ex Γ n b τ := fun τ => by rw [← hb]
  refine ⟨fun m σi Hi => ∃ τi Fi Ai, SR K τi σi Fi Hi Ai L ∧ P σi ∧ Step F H A Fi Hi Ai ∧ After K mg P W Dn L F H A (whileGo cf bf m τi), ⟨n, τ, F, A, sr, hP, Step.refl _ _ _, h⟩, fun m σi Hi pv => ?_⟩
  obtain ⟨τi, Fi, Ai, si, hPi, st, af⟩ := pv
  cases m with
  | zero => exact af.elim
  | succ m =>
    unfold whileGo at af
    rw [hcf] at af
    refine dt_first si ?_
    cases e : ev Γ c τi with
    | stuck => rw [e] at af; exact af
    | exc c fs => rw [e] at af; exact fun F' H' A' s => af σi F' H' A' (st.trans s)
    | ok x =>
      rw [e] at af
      simp only [R.bind_ok] at af ⊢
      cases e2 : boolOf x.2 x.1 with
      | none => rw [e2] at af; exact af.elim
      | some k =>
        rw [e2] at af
        simp only [R.of_some, R.bind_ok] at af ⊢
        intro F1 H1 A1 s1 r1
        have stA := st.trans s1
        cases k with
        | false =>
          simp only [Bool.false_eq_true, if_false] at af ⊢
          exact af σi F1 H1 A1 stA r1 hPi
        | true =>
          simp only [if_true] at af ⊢
          refine ⟨fun σ' H' => ∃ τi Fi Ai, SR K τi σ' Fi H' Ai L ∧ P σ' ∧ Step F H A Fi H' Ai ∧ After K mg P W Dn L F H A (whileGo cf bf m τi), fun σ' H' q => ⟨m, Nat.lt_succ_self m, q⟩, x.2, F1, A1, L, r1, hPi, ?_⟩
          rw [hbf] at af
          cases ex1 : ex Γ n b x.2 with
          | stuck => rw [ex1] at af; exact af
          | exc c fs => rw [ex1] at af; exact fun σ' F' H' A' s => af σ' F' H' A' (stA.trans s)
          | ok f =>
            rw [ex1] at af
            simp only [R.bind_ok] at af
            cases f with
            | next τ' => exact fun σ' F' H' A' s r z => ⟨τ', F', A', r, z, stA.trans s, af⟩
            | ret v τ' => exact fun v2 σ' F' H' A' B L' s r vr ap bn => af v2 σ' F' H' A' B L' (stA.trans s) r vr ap (fun b hb => (bn b hb).elim (fun z => stA.own b z) fun z => .inr (stA.dom b z))
end
end Rg

/-! Rg15: where one stands (Cxt); the rules' side conditions, for any text of the form. -/
namespace Rg
open PySem L2
def FnIn (X : Cx) (x : Str) (f : Fn) : Prop := ∃ a fd ps, X.mg x = some (.ref a) ∧ PySem.W.keepIn X.K (.ref a) = true ∧ Binds X.K fd ps [] ∧ FnOk X.prog X.w X.K X.mg X.base (L2.CX X.prog X.w) f.lv a fd ps (spOf X.K X.mg f) ∧ Room f.lv X.A
/-- what is known of a def's text: its names by slot, its scope, which names it may store, its callees, the module's constants, the built-ins' names -/
structure Cf where
  N : List Str
  sc : Scope
  st : List Str
  Γ : Env1
  GL : List (Str × D)
  fr : List Str
structure Cxt (X : Cx) (W : WX) (c : Cf) : Prop where
  hN : X.N = c.N
  nd : c.N.Nodup
  hsc : X.env.scope = c.sc
  fk : c.sc.kind = .function
  calm : X.calm = true
  sto : ∀ x, x ∈ c.st → (c.sc.names.lookup x = some .local ∨ c.sc.names.lookup x = some .cell) ∧ (X.fn x = true ∨ c.sc.names.lookup x = some .local)
  fns : ∀ (k : Nat) (x : Str) (f : Fn), c.Γ[k]? = some (x, f) → FnIn X x f
  gl : ∀ x d, (x, d) ∈ c.GL → ∃ u v, X.mg x = some u ∧ RelV v u ∧ ∀ F H, Rep X.K F H d v
  fr : ∀ x, x ∈ c.fr → X.mg x = none
  un : X.A.units + 66 < cLine
  tk : Takes X W
def visB (sc : Scope) (x : Str) : Bool := match sc.names.lookup x with
  | some .local => true
  | some .cell => true
  | some .free => true
  | _ => false
def glB (sc : Scope) (x : Str) : Bool := match sc.names.lookup x with
  | some .globalImplicit => true
  | _ => false
section
variable {X : Cx} {W : WX} {c : Cf}
theorem Cxt.vis (k : Cxt X W c) {x : Str} (h : visB c.sc x = true) : Vis X.env.scope x := by
  rw [k.hsc]
  unfold visB at h
  split at h
  · exact .inl (by assumption)
  · exact .inr (.inl (by assumption))
  · exact .inr (.inr (by assumption))
  · cases h
theorem Cxt.glo (k : Cxt X W c) {x : Str} (h : glB c.sc x = true) : Gl X x := by
  show X.env.scope.names.lookup x = _
  rw [k.hsc]
  unfold glB at h
  split at h
  · assumption
  · cases h
theorem Cxt.loc (k : Cxt X W c) {x : Str} (h : x ∈ c.st) : L2.Loc X.env.scope x := by
  rw [k.hsc]
  exact (k.sto x h).1
theorem Cxt.fnl (k : Cxt X W c) {x : Str} (h : x ∈ c.st) : X.fn x = true ∨ X.env.scope.names.lookup x = some .local := by
  rw [k.hsc]
  exact (k.sto x h).2
end
/-! ### stars, comprehensions, sets -/
def isStar : Expr → Bool
  | .Starred _ _ => true
  | _ => false
def isComp : Expr → Bool
  | .ListComp _ _ _ _ => true
  | .SetComp _ _ _ _ => true
  | .DictComp _ _ _ _ _ => true
  | _ => false
def isSet : Expr → Bool
  | .Set _ _ _ => true
  | _ => false
def isSlice : Expr → Bool
  | .Slice _ _ _ _ => true
  | _ => false
def isTup : Expr → Bool
  | .Tuple _ _ _ => true
  | _ => false
def plainT : Expr → Bool
  | .UnaryOp .Not _ _ => false
  | .BoolOp _ _ _ => false
  | .IfExp _ _ _ _ => false
  | .Compare _ _ _ _ => false
  | _ => true
theorem star_cons {e : Expr} (es : List Expr) (env : Env) (h : isStar e = false) : starEach (e :: es) env = (false, eval e env) :: starEach es env := by
  cases e <;> first | rfl | cases h
theorem star_any (pos : Pos) (env : Env) : ∀ {es : List Expr}, es.any isStar = false → (backTo pos (starEach es env)).any (·.1) = false
  | [], _ => rfl
  | e :: es, h => by
    simp only [List.any_cons, Bool.or_eq_false_iff] at h
    rw [star_cons es env h.1]
    have := star_any pos env h.2
    unfold backTo at this ⊢
    simpa using this
theorem star_all (pos : Pos) (env : Env) : ∀ {es : List Expr}, es.any isStar = false → (backTo pos (starEach es env)).all (fun x => !x.1) = true
  | [], _ => rfl
  | e :: es, h => by
    simp only [List.any_cons, Bool.or_eq_false_iff] at h
    rw [star_cons es env h.1]
    have := star_all pos env h.2
    unfold backTo at this ⊢
    simpa using this
theorem assign_cons {e : Expr} (es : List Expr) (env : Env) (h : isStar e = false) : assignEach (e :: es) env = (false, assign e env) :: assignEach es env := by
  cases e <;> first | rfl | cases h
theorem folded_no {e : Expr} (h : isSet e = false) (env : Env) (x : Value) : foldedSetIterable e env x = pure x := by
  cases e <;> first | rfl | cases h
theorem swap_no {e : Expr} (h : isComp e = false) (t : Option Expr) (l : Nat) (env : Env) : swapsWith e t l env = pure false := by
  cases e <;> first | rfl | cases h
theorem plain_ix {e : Expr} (h : isSlice e = false) : PlainIx e := by
  intro o i
  cases e <;> first | rfl | cases h
theorem plain_test {e : Expr} (h : plainT e = true) (env : Env) (whole : Sem Value) : isTrue e env whole = (do let v ← whole; standAt e.pos; holding [v] (truthy v)) := by
  cases e with
  | UnaryOp op a p => cases op <;> first | rfl | cases h
  | BoolOp _ _ _ => cases h
  | IfExp _ _ _ _ => cases h
  | Compare _ _ _ _ => cases h
  | _ => rfl
theorem swapped_no {t e : Expr} (h : isTup e = false) (env : Env) : swappedStores [t] e env = pure none := by
  unfold swappedStores
  cases e <;> first | (cases t <;> rfl) | cases h
/-! ### operators -/
def binOp : Prim → Option Operator
  | .add => some .Add
  | .sub => some .Sub
  | .mul => some .Mult
  | .fdiv => some .FloorDiv
  | .mod => some .Mod
  | .pow => some .Pow
  | _ => none
theorem bin_rule {X : Cx} {p : Prim} {op : Operator} (h : binOp p = some op) : ∃ r, OpR X (binaryOp op) r ∧ PrimOk X.K p (l2 r) := by
  cases p <;> cases h
  · exact ⟨_, op_addA, ok_add⟩
  · exact ⟨_, op_sub, ok_sub⟩
  · exact ⟨_, op_mulA, ok_mul⟩
  · exact ⟨_, op_divA, ok_fdiv⟩
  · exact ⟨_, op_mod, ok_mod⟩
  · exact ⟨_, op_pow, ok_pow⟩
def cmpOp : Prim → Option CmpOp
  | .lt => some .Lt
  | .le => some .LtE
  | .gt => some .Gt
  | .ge => some .GtE
  | .eq => some .Eq
  | .ne => some .NotEq
  | .isN => some .Is
  | .notN => some .IsNot
  | .isB => some .Is
  | .notB => some .IsNot
  | .inn => some .In
  | .nin => some .NotIn
  | _ => none
theorem cmp_rule {X : Cx} {W : WX} {c : Cf} (k : Cxt X W c) {p : Prim} {op : CmpOp} (h : cmpOp p = some op) : ∃ r, OpR X (compareOp op) r ∧ PrimOk X.K p (l2 r) := by
  have u := k.un
  cases p <;> cases h
  · exact ⟨_, op_lt, ok_lt⟩
  · exact ⟨_, op_le, ok_le⟩
  · exact ⟨_, op_gt, ok_gt⟩
  · exact ⟨_, op_ge, ok_ge⟩
  · exact ⟨_, op_eqA (by omega), ok_eq⟩
  · exact ⟨_, op_neA (by omega), ok_ne⟩
  · exact ⟨_, op_isN, ok_isN⟩
  · exact ⟨_, op_notN, ok_notN⟩
  · exact ⟨_, op_is_bl, ok_isB⟩
  · exact ⟨_, op_isnot_bl, ok_notB⟩
  · exact ⟨_, op_inD (by omega), ok_inn⟩
  · exact ⟨_, op_notInD (by omega), ok_nin⟩
/-! ### built-ins by their names -/
def biOf : Prim → Option (String × Bool)
  | .len => some ("len", false)
  | .min2 => some ("min", false)
  | .max2 => some ("max", false)
  | .minL => some ("min", false)
  | .maxL => some ("max", false)
  | .abs => some ("abs", false)
  | .sum => some ("sum", false)
  | .sorted => some ("sorted", false)
  | .tup => some ("tuple", true)
  | .list => some ("list", true)
  | _ => none
theorem bi_rule {X : Cx} {W : WX} {c : Cf} (k : Cxt X W c) {p : Prim} {n : String} (h : biOf p = some (n, false)) : ∃ r, CallR X (.builtin n) r ∧ PrimOk X.K p r ∧ bootBuiltins (Str.ofString n) = some (.builtin n) ∧ Str.ofString n ≠ "__name__" ∧ (Str.ofString n == ("__debug__" : Str)) = false := by
  cases p <;> cases h
  · exact ⟨_, call_len_seq, ok_len, by decide +kernel, by decide +kernel, by decide +kernel⟩
  · exact ⟨_, call_min2 k.calm, ok_min2, by decide +kernel, by decide +kernel, by decide +kernel⟩
  · exact ⟨_, call_max2 k.calm, ok_max2, by decide +kernel, by decide +kernel, by decide +kernel⟩
  · exact ⟨_, call_abs, ok_abs, by decide +kernel, by decide +kernel, by decide +kernel⟩
  · exact ⟨_, cr_sum k.calm, ok_sum, by decide +kernel, by decide +kernel, by decide +kernel⟩
  · exact ⟨_, cr_min k.calm, ok_minL, by decide +kernel, by decide +kernel, by decide +kernel⟩
  · exact ⟨_, cr_max k.calm, ok_maxL, by decide +kernel, by decide +kernel, by decide +kernel⟩
  · exact ⟨_, cr_sortD k.un, ok_sorted, by decide +kernel, by decide +kernel, by decide +kernel⟩
theorem ty_rule {X : Cx} {W : WX} {c : Cf} (k : Cxt X W c) {p : Prim} {n : String} (h : biOf p = some (n, true)) : ∃ r, CallR X (.type n) r ∧ PrimOk X.K p r ∧ bootBuiltins (Str.ofString n) = some (.type n) ∧ Str.ofString n ≠ "__name__" ∧ (Str.ofString n == ("__debug__" : Str)) = false := by
  cases p <;> cases h
  · exact ⟨_, call_tuple_of, ok_tup, by decide +kernel, by decide +kernel, by decide +kernel⟩
  · exact ⟨_, call_list_of, ok_list, by decide +kernel, by decide +kernel, by decide +kernel⟩
end Rg

/-! Rg16: the check that a text is what a tree of the small language says; each answer carries its proof. -/
namespace Rg
open PySem L2
abbrev OkE (c : Cf) (m : E) (x : Expr) : Prop := ∀ (X : Cx) (W : WX), Cxt X W c → PE X x (DE X.K X.mg W c.Γ m)
abbrev OkT (c : Cf) (m : E) (x : Expr) : Prop := ∀ (X : Cx) (W : WX), Cxt X W c → PT X x (DT X.K X.mg W c.Γ m)
abbrev OkW (c : Cf) (m : E) (x : Expr) : Prop := ∀ (X : Cx) (W : WX), Cxt X W c → PW X x (DT X.K X.mg W c.Γ m)
abbrev OkA (c : Cf) (m : E) (xs : List Expr) : Prop := ∀ (X : Cx) (W : WX), Cxt X W c → PA X xs (DA X.K X.mg W c.Γ m)
abbrev OkI (c : Cf) (m : E) (tg x : Expr) : Prop := ∀ (X : Cx) (W : WX), Cxt X W c → PI X tg x (DI X.K X.mg W c.Γ m)
abbrev One (c : Cf) (m : E) (x : Expr) : Prop := ∀ (X : Cx) (W : WX), Cxt X W c → ∃ t, PE X x t ∧ ∀ σ H Q, DA X.K X.mg W c.Γ m σ H Q → t σ H fun v H1 => Q [v] H1
abbrev Two (c : Cf) (m : E) (x y : Expr) : Prop := ∀ (X : Cx) (W : WX), Cxt X W c → ∃ t u, PE X x t ∧ PE X y u ∧ (∀ σ H (Q Q' : VK), t σ H Q → (∀ v H', Q v H' → Q' v H') → t σ H Q') ∧ ∀ σ H Q, DA X.K X.mg W c.Γ m σ H Q → t σ H fun v H1 => u σ H1 fun w H2 => Q [v, w] H2
abbrev LcOk (c : Cf) (m : E) (elt tg iter : Expr) (ifs : List Expr) (scope : Scope) : Prop := ∀ (X : Cx) (W : WX), Cxt X W c → ∃ (wi : TI) (g : TG) (tt : TT) (te : TE) (own : List (Str × Nat)), PI X tg iter wi ∧ BlkOk X.N X.env.scope scope own ∧
  (∀ (s : Shared) (H : Hp) (C : Addr) (cl : List (Str × Addr)) (fp : List Addr), PG (X.blk s H scope (compEnvC scope cl C X.env) fp) tg g) ∧
  (∀ (s : Shared) (H : Hp) (C : Addr) (cl : List (Str × Addr)) (fp : List Addr), PTs (X.blk s H scope (compEnvC scope cl C X.env) fp) ifs tt) ∧
  (∀ (s : Shared) (H : Hp) (C : Addr) (cl : List (Str × Addr)) (fp : List Addr), PE (X.blk s H scope (compEnvC scope cl C X.env) fp) elt te) ∧
  (∀ x, foldedSetIterable iter X.env x = pure x) ∧ ∀ σ H Q, DE X.K X.mg W c.Γ m σ H Q → tLc wi g tt te (own.map (·.2)) σ H Q
abbrev Pf (p : Prop) := Option (PLift p)
def gd (b : Bool) {p : Prop} (f : b = true → Pf p) : Pf p := if e : b = true then f e else none
def Pf.and {p r : Prop} (x : Pf p) (f : p → Pf r) : Pf r := match x with
  | some h => f h.down
  | none => none
def yes {p : Prop} (h : p) : Pf p := some ⟨h⟩

structure Ck (c : Cf) (m : E) where
  e : (x : Expr) → Pf (OkE c m x)
  t : (x : Expr) → Pf (OkT c m x)
  w : (op : BoolOp) → (es : List Expr) → (pos : Pos) → Pf (OkW c m (.BoolOp op es pos))
  b : (op : BoolOp) → (es : List Expr) → (pos : Pos) → Pf (OkE c m (.BoolOp op es pos))
  a : (es : List Expr) → Pf (OkA c m es)
  one : (x : Expr) → Pf (One c m x)
  two : (x y : Expr) → Pf (Two c m x y)
  i : (tg x : Expr) → Pf (OkI c m tg x)
  lc : (elt tg iter : Expr) → (ifs : List Expr) → (scope : Scope) → Pf (LcOk c m elt tg iter ifs scope)
section
variable {c : Cf} {m : E}
theorem okT_val {x : Expr} (h : OkE c m x) (p : plainT x = true) : OkT c m x := fun X W k => PT.imp (pt_val (h X W k) (plain_test p X.env)) fun σ H Q q => dt_of q
def tOf (e : (x : Expr) → Pf (OkE c m x)) (x : Expr) : Pf (OkT c m x) := (e x).and fun h => gd (plainT x) fun p => yes (okT_val h p)
theorem okW_and1 {x : Expr} {pos : Pos} (h : OkT c m x) : OkW c m (.BoolOp .And [x] pos) := fun X W k => pw_and1 (h X W k)
theorem okW_or1 {x : Expr} {pos : Pos} (h : OkT c m x) : OkW c m (.BoolOp .Or [x] pos) := fun X W k => pw_or1 (h X W k)
def wOf (t : (x : Expr) → Pf (OkT c m x)) : (op : BoolOp) → (es : List Expr) → (pos : Pos) → Pf (OkW c m (.BoolOp op es pos))
  | .And, [x], _ => (t x).and fun h => yes (okW_and1 h)
  | .Or, [x], _ => (t x).and fun h => yes (okW_or1 h)
  | _, _, _ => none
theorem okB1 {op : BoolOp} {x : Expr} {pos : Pos} (h : OkE c m x) : OkE c m (.BoolOp op [x] pos) := fun X W k => pe_one (h X W k)
def bOf (e : (x : Expr) → Pf (OkE c m x)) : (op : BoolOp) → (es : List Expr) → (pos : Pos) → Pf (OkE c m (.BoolOp op es pos))
  | op, [x], _ => (e x).and fun h => yes (okB1 h)
  | _, _, _ => none
def Ck.of (e : (x : Expr) → Pf (OkE c m x)) (t : (x : Expr) → Pf (OkT c m x)) : Ck c m := ⟨e, t, wOf t, bOf e, fun _ => none, fun _ => none, fun _ _ => none, fun _ _ => none, fun _ _ _ _ _ => none⟩
def Ck.val (e : (x : Expr) → Pf (OkE c m x)) : Ck c m := Ck.of e (tOf e)
def Ck.args (a : (es : List Expr) → Pf (OkA c m es)) (o : (x : Expr) → Pf (One c m x)) (w : (x y : Expr) → Pf (Two c m x y)) : Ck c m := ⟨fun _ => none, fun _ => none, fun _ _ _ => none, fun _ _ _ => none, a, o, w, fun _ _ => none, fun _ _ _ _ _ => none⟩
def Ck.iter (i : (tg x : Expr) → Pf (OkI c m tg x)) : Ck c m := ⟨fun _ => none, fun _ => none, fun _ _ _ => none, fun _ _ _ => none, fun _ => none, fun _ => none, fun _ _ => none, i, fun _ _ _ _ _ => none⟩
def Ck.no : Ck c m := Ck.iter fun _ _ => none
end
section
variable {c : Cf}
/-! names and constants -/
theorem ok_var {i : Nat} {x : Str} {pos : Pos} (h1 : decide (c.N[i]? = some x) = true) (h2 : visB c.sc x = true) (h3 : decide ((x == ("__debug__" : Str)) = false ∧ (x == ("__classdict__" : Str)) = false) = true) : OkE c (.var i) (.Name x pos) := fun X W k => by
  obtain ⟨h3, h4⟩ := of_decide_eq_true h3
  exact PE.imp (pe_var (i := i) (by rw [k.hN]; exact of_decide_eq_true h1) (k.vis h2) h3 h4) fun σ H Q q => de_var q
def ckVar (i : Nat) : (x : Expr) → Pf (OkE c (.var i) x)
  | .Name x pos => gd _ fun h1 => gd _ fun h2 => gd _ fun h3 => yes (ok_var h1 h2 h3)
  | _ => none
theorem ok_cInt {i : Int} {j : Nat} {pos : Pos} : OkE c (.cst (.int i)) (.Constant (.int i) j pos) := fun X W k => PE.imp pe_int fun σ H Q q => de_cst (fun F H => by unfold Rep; rfl) q
theorem ok_cStr {i : Str} {j : Nat} {pos : Pos} : OkE c (.cst (.str i)) (.Constant (.str i) j pos) := fun X W k => PE.imp pe_str fun σ H Q q => de_cst (fun F H => by unfold Rep; rfl) q
theorem ok_cBl {i : Bool} {j : Nat} {pos : Pos} : OkE c (.cst (.bl i)) (.Constant (.bool i) j pos) := fun X W k => PE.imp pe_bl fun σ H Q q => de_cst (fun F H => by unfold Rep; rfl) q
theorem ok_cNon {j : Nat} {pos : Pos} : OkE c (.cst .non) (.Constant .none j pos) := fun X W k => PE.imp pe_non fun σ H Q q => de_cst (fun F H => by unfold Rep; rfl) q
def ckCst : (d : D) → (x : Expr) → Pf (OkE c (.cst d) x)
  | .int i, .Constant (.int i') j pos => if h : i = i' then yes (h ▸ ok_cInt) else none
  | .str i, .Constant (.str i') j pos => if h : i = i' then yes (h ▸ ok_cStr) else none
  | .bl i, .Constant (.bool i') j pos => if h : i = i' then yes (h ▸ ok_cBl) else none
  | .non, .Constant .none j pos => yes ok_cNon
  | _, _ => none
theorem ok_glb {d : D} {x : Str} {pos : Pos} (h1 : (x, d) ∈ c.GL) (h2 : glB c.sc x = true) (h3 : decide ((x == ("__debug__" : Str)) = false) = true) : OkE c (.glb x d) (.Name x pos) := fun X W k => by
  obtain ⟨u, v, g1, g2, g3⟩ := k.gl x d h1
  exact PE.imp (pe_glob (k.glo h2) g1 g2 (of_decide_eq_true h3)) fun σ H Q q => de_glb g3 q
/-- equality of data that stand as constants -/
def glIn (x : Str) (k : Int) : (l : List (Str × D)) → Pf ((x, D.int k) ∈ l)
  | [] => none
  | (y, .int j) :: r => if h : y = x ∧ j = k then yes (by rw [h.1, h.2]; exact List.mem_cons_self) else (glIn x k r).and fun h => yes (List.mem_cons_of_mem _ h)
  | _ :: r => (glIn x k r).and fun h => yes (List.mem_cons_of_mem _ h)
def ckGlb (x : Str) : (d : D) → (e : Expr) → Pf (OkE c (.glb x d) e)
  | .int k, .Name y pos => if e : x = y then (glIn x k c.GL).and fun h1 => gd _ fun h2 => gd _ fun h3 => yes (e ▸ ok_glb h1 h2 h3) else none
  | _, _ => none
/-! logic -/
theorem ok_and {a b : E} {x y : Expr} {r : List Expr} {pos : Pos} (h1 : OkE c a x) (h2 : OkE c b (.BoolOp .And (y :: r) pos)) : OkE c (.and a b) (.BoolOp .And (x :: y :: r) pos) := fun X W k => PE.imp (pe_and (h1 X W k) (h2 X W k)) fun σ H Q q => de_and q
theorem ok_or {a b : E} {x y : Expr} {r : List Expr} {pos : Pos} (h1 : OkE c a x) (h2 : OkE c b (.BoolOp .Or (y :: r) pos)) : OkE c (.or a b) (.BoolOp .Or (x :: y :: r) pos) := fun X W k => PE.imp (pe_or (h1 X W k) (h2 X W k)) fun σ H Q q => de_or q
theorem ok_andW {a b : E} {x y : Expr} {r : List Expr} {pos : Pos} (h1 : OkT c a x) (h2 : OkW c b (.BoolOp .And (y :: r) pos)) : OkW c (.and a b) (.BoolOp .And (x :: y :: r) pos) := fun X W k => ⟨fun whole pins s σ H Q I q => (pw_and (h1 X W k) (h2 X W k)).run whole pins s σ H Q I (dt_and q)⟩
theorem ok_orW {a b : E} {x y : Expr} {r : List Expr} {pos : Pos} (h1 : OkT c a x) (h2 : OkW c b (.BoolOp .Or (y :: r) pos)) : OkW c (.or a b) (.BoolOp .Or (x :: y :: r) pos) := fun X W k => ⟨fun whole pins s σ H Q I q => (pw_or (h1 X W k) (h2 X W k)).run whole pins s σ H Q I (dt_or q)⟩
theorem ok_ofW {m : E} {x : Expr} (h : OkW c m x) : OkT c m x := fun X W k => (h X W k).pt
def ckAndB {a b : E} (A : Ck c a) (B : Ck c b) : (op : BoolOp) → (es : List Expr) → (pos : Pos) → Pf (OkE c (.and a b) (.BoolOp op es pos))
  | .And, x :: y :: r, pos => (A.e x).and fun h1 => (B.b .And (y :: r) pos).and fun h2 => yes (ok_and h1 h2)
  | _, _, _ => none
def ckOrB {a b : E} (A : Ck c a) (B : Ck c b) : (op : BoolOp) → (es : List Expr) → (pos : Pos) → Pf (OkE c (.or a b) (.BoolOp op es pos))
  | .Or, x :: y :: r, pos => (A.e x).and fun h1 => (B.b .Or (y :: r) pos).and fun h2 => yes (ok_or h1 h2)
  | _, _, _ => none
def ckAndW {a b : E} (A : Ck c a) (B : Ck c b) : (op : BoolOp) → (es : List Expr) → (pos : Pos) → Pf (OkW c (.and a b) (.BoolOp op es pos))
  | .And, x :: y :: r, pos => (A.t x).and fun h1 => (B.w .And (y :: r) pos).and fun h2 => yes (ok_andW h1 h2)
  | _, _, _ => none
def ckOrW {a b : E} (A : Ck c a) (B : Ck c b) : (op : BoolOp) → (es : List Expr) → (pos : Pos) → Pf (OkW c (.or a b) (.BoolOp op es pos))
  | .Or, x :: y :: r, pos => (A.t x).and fun h1 => (B.w .Or (y :: r) pos).and fun h2 => yes (ok_orW h1 h2)
  | _, _, _ => none
/-- and, or: as they stand; as a lone operand of the other one -/
def ofBool {m : E} (b : (op : BoolOp) → (es : List Expr) → (pos : Pos) → Pf (OkE c m (.BoolOp op es pos))) : (x : Expr) → Pf (OkE c m x)
  | .BoolOp op es pos => b op es pos
  | _ => none
def ofBoolT {m : E} (b : (op : BoolOp) → (es : List Expr) → (pos : Pos) → Pf (OkW c m (.BoolOp op es pos))) : (x : Expr) → Pf (OkT c m x)
  | .BoolOp op es pos => (b op es pos).and fun h => yes (ok_ofW h)
  | _ => none
def orElse {p : Prop} (x y : Pf p) : Pf p := match x with
  | some h => some h
  | none => y
def Ck.bool {m : E} (b : (op : BoolOp) → (es : List Expr) → (pos : Pos) → Pf (OkE c m (.BoolOp op es pos))) (w : (op : BoolOp) → (es : List Expr) → (pos : Pos) → Pf (OkW c m (.BoolOp op es pos))) : Ck c m :=
  ⟨ofBool b, ofBoolT w, fun op es pos => orElse (w op es pos) (wOf (ofBoolT w) op es pos), fun op es pos => orElse (b op es pos) (bOf (ofBool b) op es pos), fun _ => none, fun _ => none, fun _ _ => none, fun _ _ => none, fun _ _ _ _ _ => none⟩
theorem ok_not {a : E} {x : Expr} {pos : Pos} (h : OkE c a x) : OkE c (.not a) (.UnaryOp .Not x pos) := fun X W k => PE.imp (pe_not (h X W k)) fun σ H Q q => de_not q
theorem ok_notT {a : E} {x : Expr} {pos : Pos} (h : OkT c a x) : OkT c (.not a) (.UnaryOp .Not x pos) := fun X W k => PT.imp (pt_not (h X W k)) fun σ H Q q => dt_not q
def ckNot {a : E} (A : Ck c a) : (x : Expr) → Pf (OkE c (.not a) x)
  | .UnaryOp .Not x pos => (A.e x).and fun h => yes (ok_not h)
  | _ => none
def ckNotT {a : E} (A : Ck c a) : (x : Expr) → Pf (OkT c (.not a) x)
  | .UnaryOp .Not x pos => (A.t x).and fun h => yes (ok_notT h)
  | _ => none
theorem ok_ite {q a b : E} {x y z : Expr} {pos : Pos} (h1 : OkT c q x) (h2 : OkE c a y) (h3 : OkE c b z) : OkE c (.ite q a b) (.IfExp x y z pos) := fun X W k => PE.imp (pe_ifExp (h1 X W k) (h2 X W k) (h3 X W k)) fun σ H Q q => de_ite q
def ckIte {q a b : E} (Q : Ck c q) (A : Ck c a) (B : Ck c b) : (x : Expr) → Pf (OkE c (.ite q a b) x)
  | .IfExp x y z pos => (Q.t x).and fun h1 => (A.e y).and fun h2 => (B.e z).and fun h3 => yes (ok_ite h1 h2 h3)
  | _ => none
/-! arguments -/
theorem ok_nil : OkA c .nil [] := fun X W k => PA.imp pa_nil fun σ H Q q => da_nil q
def ckNil : (es : List Expr) → Pf (OkA c .nil es)
  | [] => yes ok_nil
  | _ => none
theorem ok_cons {a r : E} {x : Expr} {xs : List Expr} (h1 : OkE c a x) (h2 : OkA c r xs) (h3 : isStar x = false) : OkA c (.cons a r) (x :: xs) := fun X W k => PA.imp (pa_cons (h1 X W k) (h2 X W k) (star_cons xs X.env h3)) fun σ H Q q => da_split q
def ckCons {a r : E} (A : Ck c a) (B : Ck c r) : (es : List Expr) → Pf (OkA c (.cons a r) es)
  | x :: xs => (A.e x).and fun h1 => (B.a xs).and fun h2 => if h3 : isStar x = false then yes (ok_cons h1 h2 h3) else none
  | _ => none
theorem ok_one {a : E} {x : Expr} (h : OkE c a x) : One c (.cons a .nil) x := fun X W k => ⟨_, h X W k, fun σ H Q q => da_one q⟩
def ckOne {a : E} (A : Ck c a) : (r : E) → (x : Expr) → Pf (One c (.cons a r) x)
  | .nil, x => (A.e x).and fun h => yes (ok_one h)
  | _, _ => none
theorem ok_two {a r : E} {x y : Expr} (h : OkE c a x) (h2 : One c r y) : Two c (.cons a r) x y := fun X W k => by
  obtain ⟨u, p, q⟩ := h2 X W k
  exact ⟨_, u, h X W k, p, fun σ H Q Q' a b => de_mono a b, fun σ H Q z => de_mono (da_split z) fun v H1 z => q _ _ _ z⟩
def ckTwo {a r : E} (A : Ck c a) (B : Ck c r) (x y : Expr) : Pf (Two c (.cons a r) x y) := (A.e x).and fun h1 => (B.one y).and fun h2 => yes (ok_two h1 h2)
/-! operations -/
theorem ok_bin {p : Prim} {args : E} {op : Operator} {x y : Expr} {pos : Pos} (h : binOp p = some op) (h2 : Two c args x y) : OkE c (.prim p args) (.BinOp x op y pos) := fun X W k => by
  obtain ⟨r, o, ok⟩ := bin_rule (X := X) h
  obtain ⟨t, u, p1, p2, _, p3⟩ := h2 X W k
  exact PE.imp (pe_op o p1 p2) fun σ H Q q => p3 _ _ _ (de_prim ok q)
theorem marks_no {y : Expr} (h : isSet y = false) (op : CmpOp) : behindInMarks op y = false := by cases y <;> first | rfl | cases h
theorem ok_cmp {p : Prim} {args : E} {op : CmpOp} {x y : Expr} {pos : Pos} (h : cmpOp p = some op) (h2 : Two c args x y) (h3 : isSet y = false) : OkE c (.prim p args) (.Compare x [op] [y] pos) := fun X W k => by
  obtain ⟨r, o, ok⟩ := cmp_rule k h
  obtain ⟨t, u, p1, p2, _, p3⟩ := h2 X W k
  exact PE.imp (pe_cmpR o p1 p2 (marks_no h3 op)) fun σ H Q q => p3 _ _ _ (de_prim ok q)
theorem ok_cmpT {p : Prim} {args : E} {op : CmpOp} {x y : Expr} {pos : Pos} (h : cmpOp p = some op) (h2 : Two c args x y) (h3 : isSet y = false) : OkT c (.prim p args) (.Compare x [op] [y] pos) := fun X W k => by
  obtain ⟨r, o, ok⟩ := cmp_rule k h
  obtain ⟨t, u, p1, p2, _, p3⟩ := h2 X W k
  exact PT.imp (pt_cmpR o p1 p2 (marks_no h3 op)) fun σ H Q q => p3 _ _ _ (de_prim ok (dt_of q))
theorem ok_neg1 {args : E} {x : Expr} {pos : Pos} (h : One c args x) : OkE c (.prim .neg args) (.UnaryOp .USub x pos) := fun X W k => by
  obtain ⟨t, p1, p3⟩ := h X W k
  exact PE.imp (pe_un un_neg p1) fun σ H Q q => p3 _ _ _ (de_prim ok_neg q)
theorem ok_sub2 {args : E} {x y : Expr} {pos : Pos} (h : Two c args x y) (h2 : isSlice y = false) : OkE c (.prim .ix args) (.Subscript x y pos) := fun X W k => by
  obtain ⟨t, u, p1, p2, _, p3⟩ := h X W k
  exact PE.imp (pe_ix ix_seq p1 p2 (plain_ix h2)) fun σ H Q q => p3 _ _ _ (de_prim ok_ix q)
theorem ok_bi {p : Prim} {args : E} {n : String} {x : Str} {e : Expr} {es : List Expr} {po pos : Pos} (h : biOf p = some (n, false)) (hx : x = Str.ofString n) (hg : glB c.sc x = true) (hf : decide (x ∈ c.fr) = true) (h2 : OkA c args (e :: es)) (hs : (e :: es).any isStar = false) : OkE c (.prim p args) (.Call (.Name x po) (e :: es) [] pos) := fun X W k => by
  subst hx
  obtain ⟨r, o, ok, b1, b2, b3⟩ := bi_rule k h
  simp only [List.any_cons, Bool.or_eq_false_iff] at hs
  exact PE.imp (pe_callB o (k.glo hg) (k.fr _ (of_decide_eq_true hf)) b1 (h2 X W k) b2 b3 (star_cons es X.env hs.1) (star_any pos X.env hs.2)) fun σ H Q q => de_prim ok q
theorem ok_ty {p : Prim} {args : E} {n : String} {x : Str} {e : Expr} {es : List Expr} {po pos : Pos} (h : biOf p = some (n, true)) (hx : x = Str.ofString n) (hg : glB c.sc x = true) (hf : decide (x ∈ c.fr) = true) (h2 : OkA c args (e :: es)) (hs : (e :: es).any isStar = false) : OkE c (.prim p args) (.Call (.Name x po) (e :: es) [] pos) := fun X W k => by
  subst hx
  obtain ⟨r, o, ok, b1, b2, b3⟩ := ty_rule k h
  simp only [List.any_cons, Bool.or_eq_false_iff] at hs
  exact PE.imp (pe_callTy o (k.glo hg) (k.fr _ (of_decide_eq_true hf)) b1 (h2 X W k) b2 b3 (star_cons es X.env hs.1) (star_any pos X.env hs.2)) fun σ H Q q => de_prim ok q
theorem ok_isaE {args : E} {t : String} {x y : Str} {e : Expr} {po p2 pos : Pos} (hx : x = ("isinstance" : Str)) (hy : y = Str.ofString t) (hg : glB c.sc x = true) (hf : decide (x ∈ c.fr) = true) (hg2 : glB c.sc y = true) (hf2 : decide (y ∈ c.fr) = true) (hb : (match bootBuiltins y with | some (.type u) => decide (u = t) | _ => false) = true) (hn : decide (y ≠ "__name__" ∧ (y == ("__debug__" : Str)) = false) = true) (h2 : One c args e) (hs : isStar e = false) : OkE c (.prim (.isa t) args) (.Call (.Name x po) [e, .Name y p2] [] pos) := fun X W k => by
  subst hx
  obtain ⟨te, p1, p3⟩ := h2 X W k
  obtain ⟨hn1, hn2⟩ := of_decide_eq_true hn
  have hbt : bootBuiltins y = some (.type t) := by
    split at hb
    · rename_i u e
      rw [e, of_decide_eq_true hb]
    · cases hb
  have pt : PE X (.Name y p2) (tC (.ty t)) := pe_bltn (k.glo hg2) (k.fr _ (of_decide_eq_true hf2)) hbt (show RelV (.ty t) (.type t) from rfl) hn1 hn2
  exact PE.imp (pe_callB call_isi (k.glo hg) (k.fr _ (of_decide_eq_true hf)) (by decide +kernel) (pa_cons p1 (pa_cons pt pa_nil (star_cons [] X.env rfl)) (star_cons _ X.env hs)) (by decide +kernel) (by decide +kernel) (star_cons _ X.env hs) (star_any pos X.env rfl)) fun σ H Q q => by
    have := p3 _ _ _ (de_prim ok_isa q)
    exact this
def ckIsa (t : String) {args : E} (A : Ck c args) : (x : Expr) → Pf (OkE c (.prim (.isa t) args) x)
  | .Call (.Name x po) [e, .Name y p2] [] pos => if hx : x = ("isinstance" : Str) then (if hy : y = Str.ofString t then gd _ fun h1 => gd _ fun h2 => gd _ fun h3 => gd _ fun h4 => gd _ fun h5 => gd _ fun h6 => (A.one e).and fun h7 => (if hs : isStar e = false then yes (ok_isaE hx hy h1 h2 h3 h4 h5 h6 h7 hs) else none) else none) else none
  | _ => none
def ckPrim {args : E} (p : Prim) (A : Ck c args) : (x : Expr) → Pf (OkE c (.prim p args) x)
  | .BinOp x op y pos => (A.two x y).and fun h2 => if h : binOp p = some op then yes (ok_bin h h2) else none
  | .Compare x [op] [y] pos => (A.two x y).and fun h2 => if h : cmpOp p = some op then (if h3 : isSet y = false then yes (ok_cmp h h2 h3) else none) else none
  | .UnaryOp .USub x pos => if h : p = .neg then (A.one x).and fun h2 => yes (h ▸ ok_neg1 h2) else none
  | .Subscript x y pos => if h : p = .ix then (A.two x y).and fun h2 => (if h3 : isSlice y = false then yes (h ▸ ok_sub2 h2 h3) else none) else none
  | .Call (.Name x po) (e :: es) [] pos => match h : biOf p with
    | some (n, false) => (A.a (e :: es)).and fun h2 => if hx : x = Str.ofString n then gd _ fun h3 => gd _ fun h4 => (if hs : (e :: es).any isStar = false then yes (ok_bi h hx h3 h4 h2 hs) else none) else none
    | some (n, true) => (A.a (e :: es)).and fun h2 => if hx : x = Str.ofString n then gd _ fun h3 => gd _ fun h4 => (if hs : (e :: es).any isStar = false then yes (ok_ty h hx h3 h4 h2 hs) else none) else none
    | none => none
  | _ => none
def ckPrimT {args : E} (p : Prim) (A : Ck c args) : (x : Expr) → Pf (OkT c (.prim p args) x)
  | .Compare x [op] [y] pos => (A.two x y).and fun h2 => if h : cmpOp p = some op then (if h3 : isSet y = false then yes (ok_cmpT h h2 h3) else none) else none
  | x => tOf (ckPrim p A) x
theorem ok_chain {p q : Prim} {op op' : CmpOp} {a b d : E} {x y z : Expr} {pos : Pos} (h : cmpOp p = some op) (h' : cmpOp q = some op') (h1 : OkE c a x) (h2 : OkE c b y) (h3 : OkE c d z) (h4 : isSet z = false) : OkE c (.chain p q a b d) (.Compare x [op, op'] [y, z] pos) := fun X W k => by
  obtain ⟨r, o, ok⟩ := cmp_rule k h
  obtain ⟨r', o', ok'⟩ := cmp_rule k h'
  exact PE.imp (pe_chain o o' (h1 X W k) (h2 X W k) (h3 X W k) (marks_no h4 op')) fun σ H Q q => de_chain ok ok' q
theorem ok_chainT {p q : Prim} {op op' : CmpOp} {a b d : E} {x y z : Expr} {pos : Pos} (h : cmpOp p = some op) (h' : cmpOp q = some op') (h1 : OkE c a x) (h2 : OkE c b y) (h3 : OkE c d z) (h4 : isSet z = false) : OkT c (.chain p q a b d) (.Compare x [op, op'] [y, z] pos) := fun X W k => by
  obtain ⟨r, o, ok⟩ := cmp_rule k h
  obtain ⟨r', o', ok'⟩ := cmp_rule k h'
  exact PT.imp (pt_chain o o' (h1 X W k) (h2 X W k) (h3 X W k) (marks_no h4 op')) fun σ H Q q => de_chain ok ok' (dt_of q)
def ckChain {a b d : E} (p q : Prim) (A : Ck c a) (B : Ck c b) (C : Ck c d) : (x : Expr) → Pf (OkE c (.chain p q a b d) x)
  | .Compare x [op, op'] [y, z] pos => (A.e x).and fun h1 => (B.e y).and fun h2 => (C.e z).and fun h3 => if h : cmpOp p = some op then (if h' : cmpOp q = some op' then (if h4 : isSet z = false then yes (ok_chain h h' h1 h2 h3 h4) else none) else none) else none
  | _ => none
def ckChainT {a b d : E} (p q : Prim) (A : Ck c a) (B : Ck c b) (C : Ck c d) : (x : Expr) → Pf (OkT c (.chain p q a b d) x)
  | .Compare x [op, op'] [y, z] pos => (A.e x).and fun h1 => (B.e y).and fun h2 => (C.e z).and fun h3 => if h : cmpOp p = some op then (if h' : cmpOp q = some op' then (if h4 : isSet z = false then yes (ok_chainT h h' h1 h2 h3 h4) else none) else none) else none
  | _ => none
theorem ok_tupE {args : E} {es : List Expr} {j : Nat} {pos : Pos} (h : OkA c args es) : OkE c (.tup args) (.Tuple es j pos) := fun X W k => PE.imp (pe_tup (h X W k)) fun σ H Q q => de_tup q
def ckTup {args : E} (A : Ck c args) : (x : Expr) → Pf (OkE c (.tup args) x)
  | .Tuple es j pos => (A.a es).and fun h => yes (ok_tupE h)
  | _ => none
theorem ok_lstE {args : E} {es : List Expr} {pos : Pos} (h : OkA c args es) : OkE c (.lst args) (.List es pos) := fun X W k => PE.imp (pe_lst (h X W k)) fun σ H Q q => de_lst q
def ckLst {args : E} (A : Ck c args) : (x : Expr) → Pf (OkE c (.lst args) x)
  | .List es pos => (A.a es).and fun h => yes (ok_lstE h)
  | _ => none
theorem ok_dT {pos : Pos} : OkE c .dnewT (.Dict [] [] pos) := fun X W k => PE.imp pe_dnewT fun σ H Q q => de_dnewT q
theorem ok_dK {pos : Pos} : OkE c .dnewK (.Dict [] [] pos) := fun X W k => PE.imp pe_dnewK fun σ H Q q => de_dnewK q
def ckDT : (x : Expr) → Pf (OkE c .dnewT x)
  | .Dict [] [] pos => yes ok_dT
  | _ => none
def ckDK : (x : Expr) → Pf (OkE c .dnewK x)
  | .Dict [] [] pos => yes ok_dK
  | _ => none
/-! calls -/
theorem ok_call {i : Nat} {args : E} {x : Str} {f : Fn} {e : Expr} {es : List Expr} {po pos : Pos} (h : c.Γ[i]? = some (x, f)) (hg : glB c.sc x = true) (hd : decide ((x == ("__debug__" : Str)) = false) = true) (h2 : OkA c args (e :: es)) (hs : (e :: es).any isStar = false) : OkE c (.call i args) (.Call (.Name x po) (e :: es) [] pos) := fun X W k => by
  obtain ⟨a, fd, ps, g1, g2, g3, g4, g5⟩ := k.fns i x f h
  simp only [List.any_cons, Bool.or_eq_false_iff] at hs
  exact PE.imp (pe_callS g4 g5 (k.glo hg) g1 g2 g3 (fun σ => passAt k.tk σ) (h2 X W k) (of_decide_eq_true hd) (star_cons es X.env hs.1) (star_any pos X.env hs.2)) fun σ H Q q => de_call h q
def ckCall {args : E} (i : Nat) (A : Ck c args) : (x : Expr) → Pf (OkE c (.call i args) x)
  | .Call (.Name x po) (e :: es) [] pos => match h : c.Γ[i]? with
    | some (y, f) => if hx : y = x then gd _ fun h3 => gd _ fun h4 => (A.a (e :: es)).and fun h2 => (if hs : (e :: es).any isStar = false then yes (ok_call (hx ▸ h) h3 h4 h2 hs) else none) else none
    | none => none
  | _ => none
end
end Rg

/-! Rg17: the check, its second part: lists that change, targets, comprehensions, what is walked. -/
namespace Rg
open PySem L2
section
variable {c : Cf}
theorem ok_app {i : Nat} {args : E} {x n : Str} {p ap cp : Pos} {e : Expr} {es : List Expr} (hn : n = ("append" : Str)) (hv : OkE c (.var i) (.Name x p)) (hx : decide (c.N[i]? = some x) = true) (h2 : visB c.sc x = true) (h3 : decide ((x == ("__debug__" : Str)) = false ∧ (x == ("__classdict__" : Str)) = false) = true) (h : OkA c args (e :: es)) (hp : (ap.endLine == cp.line) = true) (hs : (e :: es).any isStar = false) (hl : decide ((e :: es).length < 30) = true) : OkE c (.mut .append i args) (.Call (.Attribute (.Name x p) n ap) (e :: es) [] cp) := fun X W k => by
  subst hn
  obtain ⟨h3, h4⟩ := of_decide_eq_true h3
  have sa := star_all cp X.env hs
  have hs' := hs
  simp only [List.any_cons, Bool.or_eq_false_iff] at hs
  refine PE.imp (pe_bm PySem.F.plainAttrs_list PySem.F.slot_list_append PySem.F.type_list_append mt_append (pe_var (i := i) (by rw [k.hN]; exact of_decide_eq_true hx) (k.vis h2) h3 h4) (h X W k) rfl ?_ hp (star_cons es X.env hs.1) (star_any cp X.env hs.2)) fun σ H Q q => de_append q
  rw [sa]
  have hl := of_decide_eq_true hl
  simp only [List.length_cons] at hl
  simp [backToKw, keywordEach, hl]
theorem ok_pop0 {i : Nat} {x n : Str} {p ap cp : Pos} (hn : n = ("pop" : Str)) (hx : decide (c.N[i]? = some x) = true) (h2 : visB c.sc x = true) (h3 : decide ((x == ("__debug__" : Str)) = false ∧ (x == ("__classdict__" : Str)) = false) = true) (hp : (ap.endLine == cp.line) = true) : OkE c (.mut .pop i .nil) (.Call (.Attribute (.Name x p) n ap) [] [] cp) := fun X W k => by
  subst hn
  obtain ⟨h3, h4⟩ := of_decide_eq_true h3
  exact PE.imp (pe_bm0 PySem.F.plainAttrs_list PySem.F.slot_list_pop PySem.F.type_list_pop mt_pop (pe_var (i := i) (by rw [k.hN]; exact of_decide_eq_true hx) (k.vis h2) h3 h4) rfl hp) fun σ H Q q => de_pop q
theorem ok_clear0 {i : Nat} {x n : Str} {p ap cp : Pos} (hn : n = ("clear" : Str)) (hx : decide (c.N[i]? = some x) = true) (h2 : visB c.sc x = true) (h3 : decide ((x == ("__debug__" : Str)) = false ∧ (x == ("__classdict__" : Str)) = false) = true) (hp : (ap.endLine == cp.line) = true) : OkE c (.mut .clear i .nil) (.Call (.Attribute (.Name x p) n ap) [] [] cp) := fun X W k => by
  subst hn
  obtain ⟨h3, h4⟩ := of_decide_eq_true h3
  exact PE.imp (pe_bm0 PySem.F.plainAttrs_list PySem.F.slot_list_clear PySem.F.type_list_clear mt_clear (pe_var (i := i) (by rw [k.hN]; exact of_decide_eq_true hx) (k.vis h2) h3 h4) rfl hp) fun σ H Q q => de_clear q
def ckMut (i : Nat) : (m : Mut1) → (args : E) → Ck c args → (x : Expr) → Pf (OkE c (.mut m i args) x)
  | .append, args, A, .Call (.Attribute (.Name x p) n ap) (e :: es) [] cp => if hn : n = ("append" : Str) then gd _ fun h1 => gd _ fun h2 => gd _ fun h3 => (A.a (e :: es)).and fun h => gd _ fun h4 => (if hs : (e :: es).any isStar = false then gd _ fun h5 => yes (ok_app hn (ok_var h1 h2 h3) h1 h2 h3 h h4 hs h5) else none) else none
  | .pop, .nil, A, .Call (.Attribute (.Name x p) n ap) [] [] cp => if hn : n = ("pop" : Str) then gd _ fun h1 => gd _ fun h2 => gd _ fun h3 => gd _ fun h4 => yes (ok_pop0 hn h1 h2 h3 h4) else none
  | .clear, .nil, A, .Call (.Attribute (.Name x p) n ap) [] [] cp => if hn : n = ("clear" : Str) then gd _ fun h1 => gd _ fun h2 => gd _ fun h3 => gd _ fun h4 => yes (ok_clear0 hn h1 h2 h3 h4) else none
  | _, _, _, _ => none
/-! targets -/
abbrev OkG (c : Cf) (tg : List Nat) (one : Bool) (x : Expr) : Prop := ∀ (X : Cx) (W : WX), Cxt X W c → PG X x (gT X.K tg one)
abbrev OkGs (c : Cf) (tg : List Nat) (xs : List Expr) : Prop := ∀ (X : Cx) (W : WX), Cxt X W c → PGs X xs (gNames tg) ∧ (assignEach xs X.env).length = tg.length ∧ (assignEach xs X.env).findIdx? (·.1) = none
theorem ok_gname {i : Nat} {x : Str} {p : Pos} (h1 : decide (c.N[i]? = some x) = true) (h2 : decide (x ∈ c.st) = true) : ∀ (X : Cx) (W : WX), Cxt X W c → PG X (.Name x p) (gName i) := fun X W k =>
  pg_name (by rw [k.hN]; exact k.nd) (by rw [k.hN]; exact of_decide_eq_true h1) (k.loc (of_decide_eq_true h2)) (k.fnl (of_decide_eq_true h2))
theorem ok_gcons {i : Nat} {r : List Nat} {x : Str} {p : Pos} {xs : List Expr} (h1 : decide (c.N[i]? = some x) = true) (h2 : decide (x ∈ c.st) = true) (h : OkGs c r xs) : OkGs c (i :: r) (.Name x p :: xs) := fun X W k => by
  obtain ⟨a, b, d⟩ := h X W k
  have e : assignEach (.Name x p :: xs) X.env = (false, assign (.Name x p) X.env) :: assignEach xs X.env := rfl
  refine ⟨pgs_cons (ok_gname h1 h2 X W k) a (by rw [e]; rfl), by rw [e, List.length_cons, List.length_cons, b], ?_⟩
  rw [e, List.findIdx?_cons]
  simp only [Bool.false_eq_true, if_false, d, Option.map_none]
theorem ok_gnil : OkGs c [] [] := fun X W k => ⟨pgs_nil, rfl, rfl⟩
def ckGs : (tg : List Nat) → (xs : List Expr) → Pf (OkGs c tg xs)
  | [], [] => yes ok_gnil
  | i :: r, .Name x p :: xs => gd _ fun h1 => gd _ fun h2 => (ckGs r xs).and fun h => yes (ok_gcons h1 h2 h)
  | _, _ => none
theorem ok_gtup {tg : List Nat} {xs : List Expr} {j : Nat} {p : Pos} (h : OkGs c tg xs) : OkG c tg false (.Tuple xs j p) := fun X W k => by
  obtain ⟨a, b, d⟩ := h X W k
  exact pg_tup k.calm a b d
def ckG : (tg : List Nat) → (one : Bool) → (x : Expr) → Pf (OkG c tg one x)
  | [i], true, .Name x p => gd _ fun h1 => gd _ fun h2 => yes (ok_gname h1 h2)
  | tg, false, .Tuple xs j p => (ckGs tg xs).and fun h => yes (ok_gtup h)
  | _, _, _ => none
/-! comprehensions -/
def ownOf (c : Cf) (tg : List Nat) : List (Str × Nat) := tg.map fun i => ((c.N[i]?).getD "", i)
def inBlk (c : Cf) (scope : Scope) (tg : List Nat) : Cf := { c with sc := relS scope c.sc, st := tg.map fun i => (c.N[i]?).getD "" }
def stoB (scope : Scope) (c' : Cf) : Bool := c'.st.all fun x => match c'.sc.names.lookup x with
  | some .local => true
  | some .cell => scope.names.lookup x == some .cell
  | _ => false
theorem cxt_blk {X : Cx} {W : WX} {scope : Scope} {tg : List Nat} (k : Cxt X W c) (hb : blkC c.N c.sc scope (ownOf c tg) = true) (hs : stoB scope (inBlk c scope tg) = true) (s : Shared) (H : Hp) (C : Addr) (cl : List (Str × Addr)) (fp : List Addr) : Cxt (X.blk s H scope (compEnvC scope cl C X.env) fp) W0 (inBlk c scope tg) where
  hN := k.hN
  nd := k.nd
  hsc := by
    show relabel scope X.env = relS scope c.sc
    rw [← k.hsc]
    rfl
  fk := (blkOk_by hb).kind
  calm := k.calm
  sto := fun x hx => by
    have := List.all_eq_true.mp hs x hx
    split at this
    · rename_i e
      exact ⟨.inl e, .inr e⟩
    · rename_i e
      exact ⟨.inr e, .inl this⟩
    · cases this
  fns := k.fns
  gl := k.gl
  fr := k.fr
  un := k.un
  tk := fun u s' ⟨a, B, sI, pins, σ, H, cls, d, e, I, nb, up, sky, na, os, ag, w⟩ => w.elim
theorem ok_lc {tg : List Nat} {one : Bool} {it cond elt : E} {x g iter : Expr} {ifs : List Expr} {scope : Scope} (hb : blkC c.N c.sc scope (ownOf c tg) = true) (hs : stoB scope (inBlk c scope tg) = true) (h1 : OkI c it g iter) (h2 : OkG (inBlk c scope tg) tg one g)
    (h3 : ∀ (X : Cx) (W : WX), Cxt X W (inBlk c scope tg) → PTs X ifs (DT X.K X.mg W c.Γ cond)) (h4 : OkE (inBlk c scope tg) elt x) (h5 : isSet iter = false) : LcOk c (.comp tg one it cond elt) x g iter ifs scope := fun X W k => by
  refine ⟨DI X.K X.mg W c.Γ it, gT X.K tg one, DT X.K X.mg W0 c.Γ cond, DE X.K X.mg W0 c.Γ elt, ownOf c tg, h1 X W k, ?_, fun s H C cl fp => h2 _ _ (cxt_blk k hb hs s H C cl fp), fun s H C cl fp => h3 _ _ (cxt_blk k hb hs s H C cl fp), fun s H C cl fp => h4 _ _ (cxt_blk k hb hs s H C cl fp), folded_no h5 X.env, fun σ H Q q => ?_⟩
  · rw [k.hN, k.hsc]
    exact blkOk_by hb
  · have e : (ownOf c tg).map (·.2) = tg := by unfold ownOf; rw [List.map_map]; exact List.map_id tg
    rw [e]
    exact de_comp q
theorem pts_yes {c' : Cf} : ∀ (X : Cx) (W : WX), Cxt X W c' → PTs X [] (DT X.K X.mg W c.Γ .yes) := fun X W k => ⟨fun pins s σ H Q I q => pts_nil.run pins s σ H Q I (by
  obtain ⟨τ, F, A, L, sr, h⟩ := q
  simp only [ev, R.bind_ok, boolOf, dat, R.of_some] at h
  exact h F H A (Step.refl F H A) sr)⟩
def ckIfs {c' : Cf} (hc : c'.Γ = c.Γ) : (cond : E) → Ck c' cond → (ifs : List Expr) → Pf (∀ (X : Cx) (W : WX), Cxt X W c' → PTs X ifs (DT X.K X.mg W c.Γ cond))
  | .yes, _, [] => yes (pts_yes (c := c))
  | m, A, [x] => (A.t x).and fun h => yes fun X W k => pts_one (hc ▸ h X W k)
  | _, _, _ => none
def ckLc (tg : List Nat) (one : Bool) {it cond elt : E} (I : Ck c it) (C : (c : Cf) → Ck c cond) (L : (c : Cf) → Ck c elt) (x g iter : Expr) (ifs : List Expr) (scope : Scope) : Pf (LcOk c (.comp tg one it cond elt) x g iter ifs scope) :=
  gd _ fun hb => gd _ fun hs => (I.i g iter).and fun h1 => (ckG (c := inBlk c scope tg) tg one g).and fun h2 => (ckIfs (c := c) (c' := inBlk c scope tg) rfl cond (C (inBlk c scope tg)) ifs).and fun h3 => ((L (inBlk c scope tg)).e x).and fun h4 => if h5 : isSet iter = false then yes (ok_lc hb hs h1 h2 h3 h4 h5) else none
theorem ok_comp {m : E} {x g iter : Expr} {ifs : List Expr} {scope : Scope} {pos : Pos} (h : LcOk c m x g iter ifs scope) : OkE c m (.ListComp x [⟨g, iter, ifs, 0⟩] scope pos) := fun X W k => by
  obtain ⟨wi, gg, tt, te, own, a1, a2, a3, a4, a5, a6, a7⟩ := h X W k
  exact PE.imp (pe_lc k.calm (by rw [k.hN]; exact k.nd) a1 a2 a3 a4 a5 a6) a7
def eLc {m : E} (lc : (elt tg iter : Expr) → (ifs : List Expr) → (scope : Scope) → Pf (LcOk c m elt tg iter ifs scope)) : (x : Expr) → Pf (OkE c m x)
  | .ListComp x [⟨g, iter, ifs, 0⟩] scope pos => (lc x g iter ifs scope).and fun h => yes (ok_comp h)
  | _ => none
def Ck.comp {m : E} (lc : (elt tg iter : Expr) → (ifs : List Expr) → (scope : Scope) → Pf (LcOk c m elt tg iter ifs scope)) : Ck c m := ⟨eLc lc, fun _ => none, fun _ _ _ => none, fun _ _ _ => none, fun _ => none, fun _ => none, fun _ _ => none, fun _ _ => none, lc⟩
/-! what is walked -/
theorem ok_iR1 {a : E} {tg x : Expr} {n : Str} {p pos : Pos} (hn : n = ("range" : Str)) (hg : glB c.sc n = true) (hf : decide (n ∈ c.fr) = true) (h : OkE c a x) (hs : isStar x = false) : OkI c (.iRange a) tg (.Call (.Name n p) [x] [] pos) := fun X W k => by
  subst hn
  have r := pi_range1 (tg := tg) (p := p) (pos := pos) (k.glo hg) (k.fr _ (of_decide_eq_true hf)) (ok_cons h ok_nil hs X W k) (star_cons [] X.env hs)
  exact ⟨fun pins s σ H R I q => r.run pins s σ H R I (di_range q)⟩
theorem ok_iR2 {a b : E} {tg x y : Expr} {n : Str} {p pos : Pos} (hn : n = ("range" : Str)) (hg : glB c.sc n = true) (hf : decide (n ∈ c.fr) = true) (h : OkE c a x) (h' : OkE c b y) (hs : isStar x = false) (hs' : isStar y = false) : OkI c (.iRange2 a b) tg (.Call (.Name n p) [x, y] [] pos) := fun X W k => by
  subst hn
  have r := pi_range2 (tg := tg) (p := p) (pos := pos) (k.glo hg) (k.fr _ (of_decide_eq_true hf)) (ok_cons h (ok_cons h' ok_nil hs') hs X W k) (by rw [star_cons _ _ hs, star_cons _ _ hs']; rfl) (star_cons [] X.env hs')
  exact ⟨fun pins s σ H R I q => r.run pins s σ H R I (di_range2 q)⟩
theorem ok_iRev {a : E} {tg x : Expr} {n : Str} {p pos : Pos} (hn : n = ("reversed" : Str)) (hg : glB c.sc n = true) (hf : decide (n ∈ c.fr) = true) (h : OkE c a x) (hs : isStar x = false) : OkI c (.iRev a) tg (.Call (.Name n p) [x] [] pos) := fun X W k => by
  subst hn
  have r := pi_reversed (tg := tg) (p := p) (pos := pos) (k.glo hg) (k.fr _ (of_decide_eq_true hf)) (ok_cons h ok_nil hs X W k) (star_cons [] X.env hs)
  exact ⟨fun pins s σ H R I q => r.run pins s σ H R I (di_rev q)⟩
theorem ok_iEnum {a : E} {ts : List Expr} {j : Nat} {tp : Pos} {x : Expr} {n : Str} {p pos : Pos} (hn : n = ("enumerate" : Str)) (hg : glB c.sc n = true) (hf : decide (n ∈ c.fr) = true) (h : OkE c a x) (hs : isStar x = false) : OkI c (.iEnum a) (.Tuple ts j tp) (.Call (.Name n p) [x] [] pos) := fun X W k => by
  subst hn
  have r := pi_enum (elts := ts) (kk := j) (tpos := tp) (p := p) (pos := pos) (k.glo hg) (k.fr _ (of_decide_eq_true hf)) (ok_cons h ok_nil hs X W k) (star_cons [] X.env hs)
  exact ⟨fun pins s σ H R I q => r.run pins s σ H R I (di_enum q)⟩
theorem ok_iSeq {a : E} {tg x : Expr} (h : OkE c a x) : OkI c (.iSeq a) tg x := fun X W k => ⟨fun pins s σ H R I q => (di_seq q).elim (fun q => (pi_list (h X W k)).run pins s σ H R I q) fun q => (pi_tup (h X W k)).run pins s σ H R I q⟩
def ckR1 {a : E} (A : Ck c a) (tg : Expr) : (x : Expr) → Pf (OkI c (.iRange a) tg x)
  | .Call (.Name n p) [x] [] pos => if hn : n = ("range" : Str) then gd _ fun h1 => gd _ fun h2 => (A.e x).and fun h => (if hs : isStar x = false then yes (ok_iR1 hn h1 h2 h hs) else none) else none
  | _ => none
def ckR2 {a b : E} (A : Ck c a) (B : Ck c b) (tg : Expr) : (x : Expr) → Pf (OkI c (.iRange2 a b) tg x)
  | .Call (.Name n p) [x, y] [] pos => if hn : n = ("range" : Str) then gd _ fun h1 => gd _ fun h2 => (A.e x).and fun h => (B.e y).and fun h' => (if hs : isStar x = false then (if hs' : isStar y = false then yes (ok_iR2 hn h1 h2 h h' hs hs') else none) else none) else none
  | _ => none
def ckRev {a : E} (A : Ck c a) (tg : Expr) : (x : Expr) → Pf (OkI c (.iRev a) tg x)
  | .Call (.Name n p) [x] [] pos => if hn : n = ("reversed" : Str) then gd _ fun h1 => gd _ fun h2 => (A.e x).and fun h => (if hs : isStar x = false then yes (ok_iRev hn h1 h2 h hs) else none) else none
  | _ => none
def ckEnum {a : E} (A : Ck c a) : (tg x : Expr) → Pf (OkI c (.iEnum a) tg x)
  | .Tuple ts j tp, .Call (.Name n p) [x] [] pos => if hn : n = ("enumerate" : Str) then gd _ fun h1 => gd _ fun h2 => (A.e x).and fun h => (if hs : isStar x = false then yes (ok_iEnum hn h1 h2 h hs) else none) else none
  | _, _ => none
def ckSeq {a : E} (A : Ck c a) (tg x : Expr) : Pf (OkI c (.iSeq a) tg x) := (A.e x).and fun h => yes (ok_iSeq h)
end
def ckE : (m : E) → (c : Cf) → Ck c m
  | .prim (.isa t) args, c => Ck.val (ckIsa t (ckE args c))
  | .var i, c => Ck.val (ckVar i)
  | .cst d, c => Ck.val (ckCst d)
  | .glb x d, c => Ck.val (ckGlb x d)
  | .prim p args, c => Ck.of (ckPrim p (ckE args c)) (ckPrimT p (ckE args c))
  | .and a b, c => Ck.bool (ckAndB (ckE a c) (ckE b c)) (ckAndW (ckE a c) (ckE b c))
  | .or a b, c => Ck.bool (ckOrB (ckE a c) (ckE b c)) (ckOrW (ckE a c) (ckE b c))
  | .not a, c => Ck.of (ckNot (ckE a c)) (ckNotT (ckE a c))
  | .ite q a b, c => Ck.val (ckIte (ckE q c) (ckE a c) (ckE b c))
  | .chain p q a b d, c => Ck.of (ckChain p q (ckE a c) (ckE b c) (ckE d c)) (ckChainT p q (ckE a c) (ckE b c) (ckE d c))
  | .tup args, c => Ck.val (ckTup (ckE args c))
  | .lst args, c => Ck.val (ckLst (ckE args c))
  | .dnewT, c => Ck.val ckDT
  | .dnewK, c => Ck.val ckDK
  | .call i args, c => Ck.val (ckCall i (ckE args c))
  | .mut m i args, c => Ck.val (ckMut i m args (ckE args c))
  | .comp tg one it cond elt, c => Ck.comp (ckLc tg one (ckE it c) (ckE cond) (ckE elt))
  | .yes, c => Ck.no
  | .nil, c => Ck.args ckNil (fun _ => none) (fun _ _ => none)
  | .cons a r, c => Ck.args (ckCons (ckE a c) (ckE r c)) (ckOne (ckE a c) r) (ckTwo (ckE a c) (ckE r c))
  | .iRange a, c => Ck.iter (ckR1 (ckE a c))
  | .iRange2 a b, c => Ck.iter (ckR2 (ckE a c) (ckE b c))
  | .iSeq a, c => Ck.iter (ckSeq (ckE a c))
  | .iRev a, c => Ck.iter (ckRev (ckE a c))
  | .iEnum a, c => Ck.iter (ckEnum (ckE a c))
end Rg

/-! Rg18: the check of statements; a def by its checked body. -/
namespace Rg
open PySem L2
abbrev OkS (c : Cf) (io : Nat) (m : S) (st : Stmt) : Prop := ∀ (X : Cx) (W : WX) (P : L2.St → Prop) (n : Nat), Cxt X W c → PassesOwn (model X.prog X.w) X.A X.env X.xe → (∀ tg : List Nat, (∀ i ∈ tg, io ≤ i) → PIn P tg) → PS X st (DS X.K X.mg P W c.Γ n m)
abbrev OkB (c : Cf) (io : Nat) (m : S) (st : List Stmt) : Prop := ∀ (X : Cx) (W : WX) (P : L2.St → Prop) (n : Nat), Cxt X W c → PassesOwn (model X.prog X.w) X.A X.env X.xe → (∀ tg : List Nat, (∀ i ∈ tg, io ≤ i) → PIn P tg) → PSs X st (DS X.K X.mg P W c.Γ n m)
theorem PS.imp {X : Cx} {e : Stmt} {t t' : TS} (h : PS X e t) (k : ∀ D σ H, t' D σ H → t D σ H) : PS X e t' := ⟨fun pins s σ H D I q => h.run pins s σ H D I (k D σ H q)⟩
theorem PSs.imp {X : Cx} {e : List Stmt} {t t' : TS} (h : PSs X e t) (k : ∀ D σ H, t' D σ H → t D σ H) : PSs X e t' := ⟨fun pins s σ H D I q => h.run pins s σ H D I (k D σ H q)⟩
structure CkS (c : Cf) (io : Nat) (m : S) where
  s : (x : Stmt) → Pf (OkS c io m x)
  b : (x : List Stmt) → Pf (OkB c io m x)
section
variable {c : Cf} {io : Nat}
def CkS.one {m : S} (s : (x : Stmt) → Pf (OkS c io m x)) : CkS c io m := ⟨s, fun _ => none⟩
theorem ok_never {st : Stmt} : OkS c io .never st := fun X W P n k po pn => PS.imp ps_never fun D σ H q => ds_never q
theorem ok_neverB {st : List Stmt} : OkB c io .never st := fun X W P n k po pn => PSs.imp pss_never fun D σ H q => ds_never q
theorem ok_pass {pos : Pos} : OkS c io .skip (.Pass pos) := fun X W P n k po pn => PS.imp ps_pass fun D σ H q => ds_skip q
theorem ok_doc {x : Str} {j : Nat} {p pos : Pos} : OkS c io .skip (.Expr (.Constant (.str x) j p) pos) := fun X W P n k po pn => PS.imp ps_doc fun D σ H q => ds_skip q
theorem ok_end : OkB c io .skip [] := fun X W P n k po pn => PSs.imp pss_nil fun D σ H q => ds_skip q
def ckSkipS : (x : Stmt) → Pf (OkS c io .skip x)
  | .Pass pos => yes ok_pass
  | .Expr (.Constant (.str x) j p) pos => yes ok_doc
  | _ => none
def ckSkipB : (x : List Stmt) → Pf (OkB c io .skip x)
  | [] => yes ok_end
  | _ => none
theorem ok_seq {a b : S} {st : Stmt} {r : List Stmt} (h1 : OkS c io a st) (h2 : OkB c io b r) : OkB c io (.seq a b) (st :: r) := fun X W P n k po pn => PSs.imp (pss_cons (h1 X W P n k po pn) (h2 X W P n k po pn)) fun D σ H q => ds_seq q
theorem ok_frz {i : Nat} {b : S} {r : List Stmt} (h2 : OkB c io b r) : OkB c io (.seq (.frz i) b) r := fun X W P n k po pn => PSs.imp (h2 X W P n k po pn) fun D σ H q => ds_frz q
def ckSeqB {b : S} (B : CkS c io b) : (a : S) → CkS c io a → (x : List Stmt) → Pf (OkB c io (.seq a b) x)
  | .frz i, _, x => (B.b x).and fun h => yes (ok_frz h)
  | a, A, st :: r => (A.s st).and fun h1 => (B.b r).and fun h2 => yes (ok_seq h1 h2)
  | _, _, _ => none
theorem ok_expr {e : E} {x : Expr} {pos : Pos} (h : OkE c e x) (hs : isComp x = false) : OkS c io (.expr e) (.Expr x pos) := fun X W P n k po pn => PS.imp (ps_expr (h X W k) (swap_no hs none pos.line X.env)) fun D σ H q => ds_expr q
theorem ok_setAt {i : Nat} {args : E} {x : Str} {px ps pos : Pos} {ke ve : Expr} (h1 : decide (c.N[i]? = some x) = true) (h2 : visB c.sc x = true) (h3 : decide ((x == ("__debug__" : Str)) = false ∧ (x == ("__classdict__" : Str)) = false) = true) (h : Two c args ve ke) (hs : isComp ve = false) (hk : isSlice ke = false) (ht : isTup ve = false) : OkS c io (.expr (.mut .setAt i args)) (.Assign [.Subscript (.Name x px) ke ps] ve pos) := fun X W P n k po pn => by
  obtain ⟨h3, h4⟩ := of_decide_eq_true h3
  obtain ⟨t, u, p1, p2, mt, p3⟩ := h X W k
  have pv := pe_var (X := X) (i := i) (pos := px) (by rw [k.hN]; exact of_decide_eq_true h1) (k.vis h2) h3 h4
  refine PS.imp (ps_asg p1 (pg_sub (pos := ps) pv p2 set_list (by intro v; cases ke <;> first | rfl | cases hk)) (show swapsWithSole [.Subscript (.Name x px) ke ps] ve pos.line X.env = pure false from swap_no hs (some (.Subscript (.Name x px) ke ps)) pos.line X.env) (swapped_no ht X.env) rfl) fun D σ H q => ?_
  obtain ⟨a, e1, e2⟩ := de_setAt (ds_expr q)
  exact mt _ _ _ _ (p3 _ _ _ e2) fun v H1 z => ⟨_, e1, z⟩
def ckExpr {e : E} (A : Ck c e) : (x : Stmt) → Pf (OkS c io (.expr e) x)
  | .Expr x pos => (A.e x).and fun h => if hs : isComp x = false then yes (ok_expr h hs) else none
  | _ => none
def ckSetAt (i : Nat) {args : E} (A : Ck c args) : (x : Stmt) → Pf (OkS c io (.expr (.mut .setAt i args)) x)
  | .Assign [.Subscript (.Name x px) ke ps] ve pos => gd _ fun h1 => gd _ fun h2 => gd _ fun h3 => (A.two ve ke).and fun h => if hs : isComp ve = false then (if hk : isSlice ke = false then (if ht : isTup ve = false then yes (ok_setAt h1 h2 h3 h hs hk ht) else none) else none) else none
  | _ => none
theorem ok_ret {e : E} {x : Expr} {pos : Pos} (h : OkE c e x) : OkS c io (.ret e) (.Return (some x) pos) := fun X W P n k po pn => PS.imp (ps_ret (h X W k)) fun D σ H q => ds_ret q
theorem ok_retN {pos : Pos} : OkS c io (.ret (.cst .non)) (.Return none pos) := fun X W P n k po pn => PS.imp ps_retN fun D σ H q => by
  have := ds_ret q
  exact de_cst (v := .non) (fun F H => by unfold Rep; rfl) this
def ckRet {e : E} (A : Ck c e) : (x : Stmt) → Pf (OkS c io (.ret e) x)
  | .Return (some x) pos => (A.e x).and fun h => yes (ok_ret h)
  | _ => none
def ckRetN : (e : E) → (x : Stmt) → Pf (OkS c io (.ret e) x)
  | .cst .non, .Return none pos => yes ok_retN
  | _, _ => none
theorem pin1 {P : L2.St → Prop} {i : Nat} (pn : ∀ tg : List Nat, (∀ i ∈ tg, io ≤ i) → PIn P tg) (h : decide (io ≤ i) = true) : PIn P [i] := pn [i] fun j hj => by
  rw [List.mem_singleton.mp hj]
  exact of_decide_eq_true h
theorem pinL {P : L2.St → Prop} {tg : List Nat} (pn : ∀ tg : List Nat, (∀ i ∈ tg, io ≤ i) → PIn P tg) (h : (tg.all fun i => decide (io ≤ i)) = true) : PIn P tg := pn tg fun j hj => of_decide_eq_true (List.all_eq_true.mp h j hj)
/-- y = [ .. ]: whether the store comes ahead of the block's names being let go -/
def swB (c : Cf) (y : Str) (py : Pos) (line : Nat) (scope : Scope) : Bool := (c.sc.names.lookup y == some .local) && (py.line == line) && !(scope.names.any fun (n, k) => n == y && (k == .local || k == .cell))
theorem sw_eq {X : Cx} {W : WX} (k : Cxt X W c) {elt tg iter : Expr} {ifs : List Expr} {scope : Scope} {pos py : Pos} {y : Str} {l : Nat} : swapsWith (.ListComp elt [⟨tg, iter, ifs, 0⟩] scope pos) (some (.Name y py)) l X.env = pure (swB c y py pos.line scope) := by
  have h1 : X.env.blockKind = .function := by
    unfold Env.blockKind
    rw [k.hsc, k.fk]
    rfl
  have h2 : X.env.kindOf y = c.sc.names.lookup y := by
    rw [← k.hsc]
    rfl
  show (pure (X.env.blockKind == .function && X.env.kindOf y == some .local && py.line == pos.line && !(scope.names.any fun (n, k) => n == y && (k == .local || k == .cell))) : Sem Bool) = _
  rw [h1, h2]
  rfl
theorem ok_asg {i : Nat} {e : E} {y : Str} {py pos : Pos} {x : Expr} (h1 : decide (c.N[i]? = some y) = true) (h2 : decide (y ∈ c.st) = true) (h3 : decide (io ≤ i) = true) (h : OkE c e x) (hs : isComp x = false) : OkS c io (.asg i e) (.Assign [.Name y py] x pos) := fun X W P n k po pn =>
  PS.imp (ps_set (by rw [k.hN]; exact k.nd) (by rw [k.hN]; exact of_decide_eq_true h1) (k.loc (of_decide_eq_true h2)) (h X W k) (swap_no hs _ _ _) (k.fnl (of_decide_eq_true h2))) fun D σ H q => ds_asg (pin1 pn h3) q
theorem ok_asgLc {i : Nat} {e : E} {y : Str} {py pos lp : Pos} {elt tg iter : Expr} {ifs : List Expr} {scope : Scope} (h1 : decide (c.N[i]? = some y) = true) (h2 : decide (y ∈ c.st) = true) (h3 : decide (io ≤ i) = true) (h : LcOk c e elt tg iter ifs scope) (hs : swB c y py lp.line scope = true) : OkS c io (.asg i e) (.Assign [.Name y py] (.ListComp elt [⟨tg, iter, ifs, 0⟩] scope lp) pos) := fun X W P n k po pn => by
  obtain ⟨wi, gg, tt, te, own, a1, a2, a3, a4, a5, a6, a7⟩ := h X W k
  have hl : X.env.scope.names.lookup y = some .local := by
    rw [k.hsc]
    unfold swB at hs
    simp only [Bool.and_eq_true, beq_iff_eq] at hs
    exact hs.1.1
  exact PS.imp (ps_setLc k.calm (by rw [k.hN]; exact k.nd) (by rw [k.hN]; exact of_decide_eq_true h1) hl (by rw [sw_eq k, hs]) a1 a2 a3 a4 a5 a6) fun D σ H q => a7 _ _ _ (ds_asg (pin1 pn h3) q)
theorem ok_asgLc2 {i : Nat} {e : E} {y : Str} {py pos lp : Pos} {elt tg iter : Expr} {ifs : List Expr} {scope : Scope} (h1 : decide (c.N[i]? = some y) = true) (h2 : decide (y ∈ c.st) = true) (h3 : decide (io ≤ i) = true) (h : LcOk c e elt tg iter ifs scope) (hs : swB c y py lp.line scope = false) : OkS c io (.asg i e) (.Assign [.Name y py] (.ListComp elt [⟨tg, iter, ifs, 0⟩] scope lp) pos) := fun X W P n k po pn =>
  PS.imp (ps_set (by rw [k.hN]; exact k.nd) (by rw [k.hN]; exact of_decide_eq_true h1) (k.loc (of_decide_eq_true h2)) (ok_comp h X W k) (by rw [sw_eq k, hs]) (k.fnl (of_decide_eq_true h2))) fun D σ H q => ds_asg (pin1 pn h3) q
theorem ok_unpack {tg : List Nat} {e : E} {xs : List Expr} {j : Nat} {tp pos : Pos} {x : Expr} (h1 : OkG c tg false (.Tuple xs j tp)) (h3 : (tg.all fun i => decide (io ≤ i)) = true) (h : OkE c e x) (hs : isComp x = false) (ht : isTup x = false) : OkS c io (.unpack tg e) (.Assign [.Tuple xs j tp] x pos) := fun X W P n k po pn =>
  PS.imp (ps_asg (h X W k) (h1 X W k) (show swapsWithSole [.Tuple xs j tp] x pos.line X.env = pure false from swap_no hs (some (.Tuple xs j tp)) pos.line X.env) (swapped_no ht X.env) rfl) fun D σ H q => ds_unpack (pinL pn h3) q
def ckAsg (i : Nat) {e : E} (A : Ck c e) : (x : Stmt) → Pf (OkS c io (.asg i e) x)
  | .Assign [.Name y py] (.ListComp elt [⟨tg, iter, ifs, 0⟩] scope lp) pos => gd _ fun h1 => gd _ fun h2 => gd _ fun h3 => (A.lc elt tg iter ifs scope).and fun h => match hs : swB c y py lp.line scope with
    | true => yes (ok_asgLc h1 h2 h3 h hs)
    | false => yes (ok_asgLc2 h1 h2 h3 h hs)
  | .Assign [.Name y py] x pos => gd _ fun h1 => gd _ fun h2 => gd _ fun h3 => (A.e x).and fun h => if hs : isComp x = false then yes (ok_asg h1 h2 h3 h hs) else none
  | _ => none
def ckUnpack (tg : List Nat) {e : E} (A : Ck c e) : (x : Stmt) → Pf (OkS c io (.unpack tg e) x)
  | .Assign [.Tuple xs j tp] x pos => (ckG (c := c) tg false (.Tuple xs j tp)).and fun h1 => gd _ fun h3 => (A.e x).and fun h => if hs : isComp x = false then (if ht : isTup x = false then yes (ok_unpack h1 h3 h hs ht) else none) else none
  | _ => none
theorem ok_if {q : E} {a b : S} {x : Expr} {xs ys : List Stmt} {pos : Pos} (h1 : OkT c q x) (h2 : OkB c io a xs) (h3 : OkB c io b ys) : OkS c io (.ifs q a b) (.If x xs ys pos) := fun X W P n k po pn => PS.imp (ps_if (h1 X W k) (h2 X W P n k po pn) (h3 X W P n k po pn)) fun D σ H q => ds_if q
def ckIf {q : E} {a b : S} (Q : Ck c q) (A : CkS c io a) (B : CkS c io b) : (x : Stmt) → Pf (OkS c io (.ifs q a b) x)
  | .If x xs ys pos => (Q.t x).and fun h1 => (A.b xs).and fun h2 => (B.b ys).and fun h3 => yes (ok_if h1 h2 h3)
  | _ => none
theorem ok_for {tg : List Nat} {one : Bool} {it : E} {b : S} {g iter : Expr} {xs : List Stmt} {pos : Pos} (h1 : OkI c it g iter) (h2 : OkG c tg one g) (h3 : OkB c io b xs) (h4 : (tg.all fun i => decide (io ≤ i)) = true) (h5 : isSet iter = false) : OkS c io (.fors tg one it b) (.For g iter xs [] pos) := fun X W P n k po pn =>
  PS.imp (ps_for po k.calm (h1 X W k) (h2 X W k) (h3 X W P n k po pn) (folded_no h5 X.env)) fun D σ H q => ds_for (pinL pn h4) q
def ckFor (tg : List Nat) (one : Bool) {it : E} {b : S} (I : Ck c it) (B : CkS c io b) : (x : Stmt) → Pf (OkS c io (.fors tg one it b) x)
  | .For g iter xs [] pos => (I.i g iter).and fun h1 => (ckG (c := c) tg one g).and fun h2 => (B.b xs).and fun h3 => gd _ fun h4 => if h5 : isSet iter = false then yes (ok_for h1 h2 h3 h4 h5) else none
  | _ => none
theorem ok_while {q : E} {b : S} {x : Expr} {xs : List Stmt} {pos : Pos} (h1 : OkT c q x) (h3 : OkB c io b xs) : OkS c io (.whl q b) (.While x xs [] pos) := fun X W P n k po pn => PS.imp (ps_while po (h1 X W k) (h3 X W P n k po pn)) fun D σ H q => ds_while q
def ckWhile {q : E} {b : S} (Q : Ck c q) (B : CkS c io b) : (x : Stmt) → Pf (OkS c io (.whl q b) x)
  | .While x xs [] pos => (Q.t x).and fun h1 => (B.b xs).and fun h3 => yes (ok_while h1 h3)
  | _ => none
end
def ckS (c : Cf) (io : Nat) : (m : S) → CkS c io m
  | .skip => ⟨ckSkipS, ckSkipB⟩
  | .seq a b => ⟨fun _ => none, ckSeqB (ckS c io b) a (ckS c io a)⟩
  | .asg i e => CkS.one (ckAsg i (ckE e c))
  | .unpack tg e => CkS.one (ckUnpack tg (ckE e c))
  | .expr (.mut .setAt i args) => CkS.one (ckSetAt i (ckE args c))
  | .expr e => CkS.one (ckExpr (ckE e c))
  | .ret e => CkS.one fun x => orElse (ckRet (ckE e c) x) (ckRetN e x)
  | .ifs q a b => CkS.one (ckIf (ckE q c) (ckS c io a) (ckS c io b))
  | .fors tg one it b => CkS.one (ckFor tg one (ckE it c) (ckS c io b))
  | .whl q b => CkS.one (ckWhile (ckE q c) (ckS c io b))
  | .never => ⟨fun _ => yes ok_never, fun _ => yes ok_neverB⟩
  | .par _ _ _ _ => CkS.one fun _ => none
  | .put _ _ _ => CkS.one fun _ => none
  | .raise _ _ => CkS.one fun _ => none
  | .frz _ => CkS.one fun _ => none
end Rg

/-! Rg19: a def by its checked body. -/
namespace Rg
open PySem L2
section
variable {K : PySem.W.Frag} {mg : Str → Option Value} {σ : L2.St} {F G H : Hp} {A : List Addr} {L : Nat → V} {τ : Sts}
theorem slots_un : ∀ (m k : Nat), SlotsR K G H L k (List.replicate m .un) (List.replicate m none) []
  | 0, k => ⟨rfl, rfl⟩
  | m + 1, k => ⟨none, List.replicate m none, [], [], rfl, rfl, rfl, slots_un m (k + 1)⟩
theorem slots_fz : ∀ {ds : List D} {vs : List V} (k : Nat), RepL K G H ds vs → (∀ k, SlotsR K G H L k τ σ A) → SlotsR K G H L k (ds.map .fz ++ τ) (vs.map some ++ σ) A
  | [], vs, k, h, r => by
    rw [h.unnil]
    exact r k
  | d :: ds, vs, k, h, r => by
    obtain ⟨v, w, rfl, h1, h2⟩ := h.uncons
    exact ⟨some v, w.map some ++ σ, [], A, rfl, rfl, ⟨rfl, v, rfl, h1⟩, slots_fz (k + 1) h2 r⟩
theorem slots_ow : ∀ {ds : List D} {vs : List V} {A1 : List Addr} (k : Nat), OwnsL K G H ds vs A1 → (∀ k, SlotsR K G H L k τ σ A) → SlotsR K G H L k (ds.map (.ow true) ++ τ) (vs.map some ++ σ) (A1 ++ A)
  | [], vs, A1, k, h, r => by
    obtain ⟨rfl, rfl⟩ := h
    exact r k
  | d :: ds, vs, A1, k, h, r => by
    obtain ⟨v, w, B1, B2, rfl, rfl, h1, h2⟩ := h
    exact ⟨some v, w.map some ++ σ, B1, B2 ++ A, rfl, by rw [List.append_assoc], ⟨v, rfl, h1⟩, slots_ow (k + 1) h2 r⟩
theorem entry_ok {io n : Nat} {ds : List D} {vs : List V} (a : Args K G H io ds vs A) (N : List Str) (hn : N.length = n) : SR K (entry io n ds) (L2.start N vs) G H A L := by
  refine ⟨a.le, ⟨A, ?_, List.Perm.refl _⟩, a.nd, a.off⟩
  have h1 : ∀ k, SlotsR K G H L k ((ds.drop io).map .fz ++ List.replicate (n - ds.length) .un) ((vs.drop io).map some ++ List.replicate (n - ds.length) none) [] := fun k => slots_fz k a.ro fun k => slots_un _ k
  have h2 := slots_ow (L := L) 0 a.io h1
  have e : L2.start N vs = (vs.take io).map some ++ ((vs.drop io).map some ++ List.replicate (n - ds.length) none) := by
    unfold L2.start
    rw [← List.append_assoc, ← List.map_append, List.take_append_drop, hn, a.len]
  rw [e, entry, List.append_assoc]
  rw [List.append_nil] at h2
  exact h2
theorem wipe_get {i : Nat} : ∀ {tg : List Nat} {σ : L2.St}, i ∉ tg → (wipe σ tg)[i]? = σ[i]?
  | [], _, _ => rfl
  | j :: r, σ, h => by
    show ((wipe σ r).set j none)[i]? = _
    rw [List.getElem?_set_ne fun (z : j = i) => h (by rw [z]; exact List.mem_cons_self), wipe_get fun z => h (List.mem_cons_of_mem _ z)]
/-- the parameters that are changed are never bound anew -/
def Pins (io : Nat) (vs : List V) : L2.St → Prop := fun σ => ∀ i v, i < io → vs[i]? = some v → σ[i]? = some (some v)
theorem pins_in {io : Nat} {vs : List V} (tg : List Nat) (h : ∀ i ∈ tg, io ≤ i) : PIn (Pins io vs) tg := fun σ σ' e p i v hi hv => by
  have ni : i ∉ tg := fun z => by
    have := h i z
    omega
  rw [← wipe_get ni, e, wipe_get ni]
  exact p i v hi hv
theorem pins_start {io : Nat} {vs : List V} (N : List Str) : Pins io vs (L2.start N vs) := fun i v _ hv => by
  unfold L2.start
  have hl : i < vs.length := (List.getElem?_eq_some_iff.mp hv).1
  rw [List.getElem?_append_left (by rw [List.length_map]; exact hl), List.getElem?_map, hv]
  rfl
theorem atS_of : ∀ {ios : List Nat} {vs : List V}, ios.length = vs.length → (∀ (j i : Nat) (v : V), ios[j]? = some i → vs[j]? = some v → σ[i]? = some (some v)) → AtS σ ios vs
  | [], vs, hl, _ => by
    cases vs with
    | nil => rfl
    | cons _ _ => cases hl
  | i :: r, vs, hl, h => by
    cases vs with
    | nil => cases hl
    | cons v w => exact ⟨v, w, rfl, h 0 i v rfl rfl, atS_of (Nat.succ.inj hl) fun j i v h1 h2 => h (j + 1) i v h1 h2⟩
theorem atS_range {io : Nat} {vs : List V} (h : Pins io vs σ) (hl : io ≤ vs.length) : AtS σ (List.range io) (vs.take io) := by
  refine atS_of (by rw [List.length_range, List.length_take]; omega) fun j i v h1 h2 => ?_
  obtain ⟨k1, k2⟩ := List.getElem?_eq_some_iff.mp h1
  rw [List.getElem_range] at k2
  subst k2
  rw [List.length_range] at k1
  rw [List.getElem?_take, if_pos k1] at h2
  exact h j v k1 h2
theorem ioData_set {i : Nat} {s : Slot} : ∀ {ios : List Nat}, i ∉ ios → ioData (τ.set i s) ios = ioData τ ios
  | [], _ => rfl
  | j :: r, h => by
    have : (τ.set i s)[j]? = τ[j]? := List.getElem?_set_ne fun (z : i = j) => h (by rw [z]; exact List.mem_cons_self)
    unfold ioData
    rw [this, ioData_set fun z => h (List.mem_cons_of_mem _ z)]
theorem outV_sto {io : Nat} {r : Val} {d : D} (h : outV io τ r = some d) : ∃ q τ2, sto τ r = some (q, τ2) ∧ ((q = .fz d ∧ imm d = true) ∨ q = .own true d) ∧ ioData τ2 (List.range io) = ioData τ (List.range io) := by
  cases r with
  | fz d' =>
    simp only [outV] at h
    split at h
    · rename_i hi
      cases h
      exact ⟨_, τ, rfl, .inl ⟨rfl, hi⟩, rfl⟩
    · cases h
  | own f d' =>
    cases f with
    | true =>
      cases h
      exact ⟨_, τ, rfl, .inr rfl, rfl⟩
    | false => cases h
  | slot i =>
    simp only [outV] at h
    split at h
    · cases h
    · rename_i hi
      cases e : τ[i]? with
      | none => rw [e] at h; cases h
      | some s =>
        rw [e] at h
        cases s with
        | ow f d' =>
          cases f with
          | true =>
            cases h
            refine ⟨.own true d, τ.set i .un, ?_, .inr rfl, ioData_set fun z => hi (List.mem_range.mp z)⟩
            simp only [sto, e]
          | false => cases h
        | un => cases h
        | fz _ => cases h
        | lk _ _ => cases h
theorem left_of {io : Nat} {vs : List V} {q : Val} {v : V} {d : D} {es : List D} {F' H' : Hp} {A' B : List Addr} (st : Step G H A F' H' A') (sr : SR K τ σ F' H' A' L) (pn : Pins io vs σ) (hl : io ≤ vs.length) (hr : (q = .fz d ∧ imm d = true) ∨ q = .own true d) (vr : VR K σ F' H' q v B) (ap : Ap F' A' B) (bn : ∀ b ∈ B, b ∈ A ∨ H b = none) (e : ioData τ (List.range io) = some es) :
    ∃ Aio, Left K G H A io vs d es v F' H' Aio B := by
  obtain ⟨Aio, Ar, p1, p2, p3, p4⟩ := take_io sr List.nodup_range e (atS_range pn hl)
  have sub : ∀ a ∈ Aio, a ∈ A' := fun a ha => p1.mem_iff.mpr (List.mem_append_left _ ha)
  refine ⟨Aio, ⟨st.trans (Step.less sub), sr.le, p3, ?_, ?_, bn, ?_⟩⟩
  · rcases hr with ⟨rfl, hi⟩ | rfl
    · exact .inl ⟨hi, vr.1, vr.2⟩
    · exact .inr vr
  · refine List.nodup_append.mpr ⟨p4.nd, ap.nd, fun a ha b hb e => ?_⟩
    subst e
    exact ap.a a hb (sub a ha)
  · intro a ha
    rcases List.mem_append.mp ha with ha | ha
    · exact p4.off a ha
    · exact ap.off a ha
end
/-- a def of the module, by what its run hands back -/
def GFn (P : Program) (w : World) (K : PySem.W.Frag) (mg : Str → Option Value) (base : Heap) (x : Str) (f : Fn) : Prop := ∃ a fd ps, mg x = some (.ref a) ∧ PySem.W.keepIn K (.ref a) = true ∧ Binds K fd ps [] ∧ FnOk P w K mg base (L2.CX P w) f.lv a fd ps (spOf K mg f)
theorem fn_ok {P : Program} {w : World} {K : PySem.W.Frag} {mg : Str → Option Value} {base : Heap} {x qual : Str} {params : Arguments} {body : List Stmt} {scope : Scope} {f : Addr} {fd : FuncData} {N ps st fr : List Str} {Γ : Env1} {GL : List (Str × D)} {b : S} {fuel : List D → Nat} {lv io : Nat}
    (F : FunD K x qual params body scope [] [] f fd) (hS : C8.scC N ps scope = true) (hst : (st.all fun x => match scope.names.lookup x with | some .local => true | some .cell => true | _ => false) = true) (hio : decide (io ≤ ps.length) = true)
    (hck : ((ckS ⟨N, scope, st, Γ, GL, fr⟩ io b).b body).isSome = true)
    (hfn : ∀ p ∈ Γ, GFn P w K mg base p.1 p.2 ∧ p.2.lv ≤ lv)
    (hgl : ∀ x d, (x, d) ∈ GL → ∃ u v, mg x = some u ∧ RelV v u ∧ ∀ F H, Rep K F H d v) (hfr : ∀ x ∈ fr, mg x = none) :
    FnOk P w K mg base (L2.CX P w) (lv + 1) f fd ps (spOf K mg (Fn.of Γ (lv + 1) io ps.length N.length b fuel)) := by
  have S := C8.fnScope_by hS
  refine F.ok S ?_ ?_
  · rintro vs H Q E ⟨ds, G, A, a, hl, _⟩
    rw [← a.len, hl]
    rfl
  · rintro cdv A outer s H vs Q E room ⟨ds, G, A0, a, hl, h⟩
    refine ⟨DS K mg (Pins io vs) (fun cls d _ H' => E cls d H') Γ (fuel ds) b, ?_, ?_⟩
    · have hk : Cxt (cxOf (L2.CX P w) P w K mg base N qual scope f cdv A outer s H E) (fun cls d _ H' => E cls d H') ⟨N, scope, st, Γ, GL, fr⟩ := {
        hN := rfl
        nd := S.nd
        hsc := rfl
        fk := S.kind
        calm := rfl
        sto := fun x hx => by
          refine ⟨?_, .inl rfl⟩
          have := List.all_eq_true.mp hst x hx
          split at this
          · exact .inl (by assumption)
          · exact .inr (by assumption)
          · cases this
        fns := fun k y g e => by
          obtain ⟨⟨a, fd, ps, g1, g2, g3, g4⟩, g5⟩ := hfn _ (List.mem_of_getElem? e)
          exact ⟨a, fd, ps, g1, g2, g3, g4, room.mono g5⟩
        gl := hgl
        fr := hfr
        un := by
          have := room.un
          show (A.deeper _).units + 66 < cLine
          omega
        tk := takes_of rfl rfl rfl rfl }
      cases e : (ckS ⟨N, scope, st, Γ, GL, fr⟩ io b).b body with
      | none => rw [e] at hck; cases hck
      | some ok => exact ok.down _ _ (Pins io vs) (fuel ds) hk (passes_of rfl) fun tg ht => pins_in tg ht
    · refine ⟨entry io N.length ds, G, A0, fun _ => .non, entry_ok a N rfl, pins_start N, ?_⟩
      have hl2 : ds.length = ps.length := hl
      have hv : io ≤ vs.length := by
        have := of_decide_eq_true hio
        rw [← a.len, hl2]
        exact this
      simp only [Fn.of, hl2, if_true] at h
      cases e : ex Γ (fuel ds) b (entry io N.length ds) with
      | stuck => rw [e] at h; exact h
      | exc c fs => rw [e] at h; exact fun σ' F' H' A' s => h F' H' A' s
      | ok fl =>
        rw [e] at h
        cases fl with
        | next τ' =>
          simp only [endOf] at h
          cases e2 : ioData τ' (List.range io) with
          | none => rw [e2] at h; exact h.elim
          | some es =>
            rw [e2] at h
            intro σ' F' H' A' s r pn
            obtain ⟨Aio, lf⟩ := left_of (d := .non) (q := .fz .non) (v := .non) (B := []) s r pn hv (.inl ⟨rfl, rfl⟩) ⟨rfl, by unfold Rep; rfl⟩ Ap.nil (fun _ z => (List.not_mem_nil z).elim) e2
            exact h .non F' H' Aio [] lf
        | ret v τ' =>
          simp only [endOf] at h
          cases e1 : outV io τ' v with
          | none => rw [e1] at h; exact h.elim
          | some d =>
            rw [e1] at h
            cases e2 : ioData τ' (List.range io) with
            | none => rw [e2] at h; exact h.elim
            | some es =>
              rw [e2] at h
              intro u σ' F' H' A' B L' s r vr ap bn pn
              obtain ⟨q, τ2, k1, k2, k3⟩ := outV_sto e1
              obtain ⟨A2, B2, g1, g2, g3, g4, g5, g6⟩ := sto_ok r vr ap k1
              obtain ⟨Aio, lf⟩ := left_of (s.trans (Step.less g4)) g1 pn hv k2 g2 g3 (fun b hb => (g5 b hb).elim (bn b) fun z => s.own b z) (by rw [k3]; exact e2)
              exact h u F' H' Aio B2 lf
end Rg

/-! Rg20: small rules for a law's frame. -/
namespace Rg
open PySem L2
section
variable {P : Program} {w : World} {K : PySem.W.Frag} {mg : Str → Option Value} {base : Heap}
theorem fr_nil : ∀ x ∈ ([] : List Str), mg x = none := fun _ h => (List.not_mem_nil h).elim
theorem fr_cons {y : Str} {r : List Str} (h : mg y = none) (t : ∀ x ∈ r, mg x = none) : ∀ x ∈ y :: r, mg x = none := fun x hx => by
  rcases List.mem_cons.mp hx with rfl | hx
  · exact h
  · exact t x hx
theorem gl_nil : ∀ x d, (x, d) ∈ ([] : List (Str × D)) → ∃ u v, mg x = some u ∧ RelV v u ∧ ∀ F H, Rep K F H d v := fun _ _ h => (List.not_mem_nil h).elim
theorem gl_cons {y : Str} {i : Int} {r : List (Str × D)} (h : ∃ t, mg y = some (.int i t)) (t : ∀ x d, (x, d) ∈ r → ∃ u v, mg x = some u ∧ RelV v u ∧ ∀ F H, Rep K F H d v) : ∀ x d, (x, d) ∈ (y, D.int i) :: r → ∃ u v, mg x = some u ∧ RelV v u ∧ ∀ F H, Rep K F H d v := fun x d hx => by
  rcases List.mem_cons.mp hx with e | hx
  · cases e
    obtain ⟨k, h⟩ := h
    exact ⟨_, .int i, h, ⟨k, rfl⟩, fun F H => by unfold Rep; rfl⟩
  · exact t x d hx
theorem fns_nil {lv : Nat} : ∀ p ∈ ([] : Env1), GFn P w K mg base p.1 p.2 ∧ p.2.lv ≤ lv := fun _ h => (List.not_mem_nil h).elim
theorem fns_cons {lv : Nat} {x : Str} {f : Fn} {r : Env1} (h : GFn P w K mg base x f) (hl : f.lv ≤ lv) (t : ∀ p ∈ r, GFn P w K mg base p.1 p.2 ∧ p.2.lv ≤ lv) : ∀ p ∈ (x, f) :: r, GFn P w K mg base p.1 p.2 ∧ p.2.lv ≤ lv := fun p hp => by
  rcases List.mem_cons.mp hp with rfl | hp
  · exact ⟨h, hl⟩
  · exact t p hp
/-- a law by its run over the script -/
theorem law_sp {f : Fn} {ns : List Int} {H : Hp} {a : Addr} {E : XK} (h0 : f.io = 0) (ha : f.ar = 1) (h : f.run [.scr ns] = .ok (.bl true, [])) (hS : SqL K H a (ns.map V.int)) : spOf K mg f [.ref a] H (fun v _ => v = .bl true) E := by
  refine ⟨[.scr ns], H, [], ⟨Le.refl H, List.nodup_nil, fun _ z => (List.not_mem_nil z).elim, ?_, ?_, rfl⟩, by rw [ha]; rfl, ?_⟩
  · rw [h0]
    exact ⟨rfl, rfl⟩
  · rw [h0]
    exact RepL.one (by unfold Rep; exact ⟨a, rfl, hS⟩)
  · rw [h]
    intro v F' H' A' B lf
    rcases lf.res with ⟨_, _, r⟩ | r
    · unfold Rep at r
      exact r
    · unfold Own at r
      exact r.elim
theorem noX {P : Program} {w : World} {H : Hp} {s : Shared} {e : Value} {s' : Shared} (h : L2.CX P w [] H s (fun _ _ _ => False) e s') : False := by
  obtain ⟨_, _, _, _, _, _, _, _, _, _, _, _, z⟩ := h
  exact z.elim
end
/-- a law whose defs may raise within -/
theorem walk_ofX {l : PySem.W.OpenLaw} {most lvl : Nat} {prg : Program} {ls : List Str} {XP : (Str → Option Value) → Heap → Prop} {YP : World → Heap → Prop} {dr : DefRec} {par : Str}
    (hn : l.most = some most) (hn2 : most ≤ sizeLine) (hdf : dr.params.defaults = []) (hr : Room lvl callerA)
    (F : ∀ (w : World) (mg : Str → Option Value) (at_ : Addr) (hp : Heap), YP w hp → hp.Ns mainGlobals mg → mg dr.name = some (.ref at_) →
      ∃ (K : PySem.W.Frag) (dat : FuncData) (pr : Sp), K.In hp ∧ (∀ (s : Shared) (arg : Value), BindsTo s dat ⟨[arg], []⟩ [(par, arg)]) ∧
        (∀ (H : Hp) (a : Addr) (nums : List Int), nums.length ≤ most → Only H → SqL K H a (nums.map V.int) → pr [.ref a] H (fun v _ => v = .bl true) fun _ _ _ => False) ∧
        ∀ below : Heap, K.In below → below.Ns mainGlobals mg → FnOk l.prog w K mg below (L2.CX l.prog w) lvl at_ dat [par] pr) :
    PySem.W.WalkO prg ls XP YP l.row.toRowW dr [] (fun g us => PySem.call g us) := by
  apply Att.attach_call hn hdf
  intro w t0 t1 mg mb at_ ob pm cd doc a us nums G Y k1 k2 k3 k4 k5 k6 k7 k8
  obtain ⟨K, dat, pr, inn, bnd, prm, okf⟩ := F w mg at_ _ Y G.T.g k4
  exact law_call inn G.T.g G.T.b G.T.builtins G.T.nolimit k8 k5 k6 (Nat.le_trans k7 hn2) hr okf bnd (fun H hO hS => prm H a nums k7 hO hS) fun H e t2 z => noX z
end Rg

/-! Rg21: runs, step by step. -/
namespace Rg
open PySem L2
theorem R.bind_def {α β : Type} (x : R α) (f : α → R β) : (x >>= f) = R.bind x f := rfl
theorem R.bind_cong {α β : Type} {x y : R α} {f : α → R β} (h : x = y) : R.bind x f = R.bind y f := by rw [h]
theorem R.b_ok {α β : Type} (a : α) (f : α → R β) : R.bind (.ok a) f = f a := rfl
theorem R.b_exc {α β : Type} (c : String) (fs : List (Str × D)) (f : α → R β) : R.bind (.exc c fs) f = .exc c fs := rfl
theorem R.b_stuck {α β : Type} (f : α → R β) : R.bind .stuck f = .stuck := rfl
def nl : Slot → Bool
  | .lk _ _ => false
  | _ => true
theorem put1_eq (τ : Sts) (i : Nat) (s : Slot) : put1 τ i s = if (τ[i]?).map nl = some true then some (τ.set i s) else none := by
  unfold put1
  cases h : τ[i]? with
  | none => rfl
  | some t => cases t <;> rfl
/-- a loop goes through -/
theorem forGo_all {step : Sts → D → R Fl} (I : Sts → Prop) : ∀ {ds : List D} {τ : Sts}, (∀ d ∈ ds, ∀ τ, I τ → ∃ τ', step τ d = .ok (.next τ') ∧ I τ') → I τ → ∃ τ', forGo step ds τ = .ok (.next τ') ∧ I τ'
  | [], τ, _, h => ⟨τ, rfl, h⟩
  | d :: ds, τ, k, h => by
    obtain ⟨τ1, e1, h1⟩ := k d List.mem_cons_self τ h
    obtain ⟨τ2, e2, h2⟩ := forGo_all I (fun d hd => k d (List.mem_cons_of_mem _ hd)) h1
    exact ⟨τ2, by simp only [forGo, e1, R.bind_ok]; exact e2, h2⟩
/-- a loop whose state is told by what it has gone through -/
theorem forGo_state {α : Type} {step : Sts → D → R Fl} (st : α → Sts) (f : α → D → α) (P : α → Prop) : ∀ {ds : List D} {a : α}, (∀ d ∈ ds, ∀ a, P a → step (st a) d = .ok (.next (st (f a d))) ∧ P (f a d)) → P a → forGo step ds (st a) = .ok (.next (st (ds.foldl f a))) ∧ P (ds.foldl f a)
  | [], a, _, h => ⟨rfl, h⟩
  | d :: ds, a, k, h => by
    obtain ⟨e1, h1⟩ := k d List.mem_cons_self a h
    obtain ⟨e2, h2⟩ := forGo_state st f P (fun d hd => k d (List.mem_cons_of_mem _ hd)) h1
    exact ⟨by simp only [forGo, e1, R.bind_ok]; exact e2, h2⟩
/-- a comprehension that keeps each turn's value -/
theorem compGo_all {step : Sts → D → R (Option Val × Sts)} (I : Sts → Prop) (P : D → Prop) : ∀ {ds acc : List D} {τ : Sts}, (∀ d ∈ ds, ∀ τ, I τ → ∃ v τ', step τ d = .ok (some v, τ') ∧ I τ' ∧ vFull v = true ∧ P (vD v)) → I τ → acc.length + ds.length ≤ sizeLine →
    ∃ xs τ', compGo step ds acc true τ = .ok (true, acc ++ xs, τ') ∧ xs.length = ds.length ∧ (∀ x ∈ xs, P x) ∧ I τ'
  | [], acc, τ, _, h, _ => ⟨[], τ, by simp [compGo], rfl, fun _ h => (List.not_mem_nil h).elim, h⟩
  | d :: ds, acc, τ, k, h, hl => by
    rw [List.length_cons] at hl
    obtain ⟨v, τ1, e1, h1, f1, p1⟩ := k d List.mem_cons_self τ h
    obtain ⟨xs, τ2, e2, l2, p2, h2⟩ := compGo_all (acc := acc ++ [vD v]) I P (fun d hd => k d (List.mem_cons_of_mem _ hd)) h1 (by rw [List.length_append, List.length_singleton]; omega)
    refine ⟨vD v :: xs, τ2, ?_, by rw [List.length_cons, l2, List.length_cons], fun x hx => ?_, h2⟩
    · have hl2 : acc.length < sizeLine := by omega
      simp only [compGo, e1, R.bind_ok, hl2, if_true, f1, Bool.and_true]
      rw [e2]
      simp
    · rcases List.mem_cons.mp hx with rfl | hx
      · exact p1
      · exact p2 x hx
end Rg
namespace Rg
open PySem L2
section
variable {Γ : Env1} {n : Nat} {τ τ0 τ1 τ' : Sts}
theorem ev_comp {tg : List Nat} {one : Bool} {it cond elt : E} {items : List D} (h : evI Γ it τ = .ok (items, none, τ1)) (hw : wipeC τ1 tg = some τ0) {f : Bool} {xs : List D} (hc : compGo (compStep Γ tg one cond elt) items [] true τ0 = .ok (f, xs, τ')) : ev Γ (.comp tg one it cond elt) τ = .ok (.own f (.lst xs), τ') := by
  unfold compStep at hc
  simp only [ev, h, R.bind_ok, hw, R.of_some, lock, hc, unlock]
/-- each turn gives a value -/
theorem ev_comp_all {tg : List Nat} {one : Bool} {it cond elt : E} {items : List D} (h : evI Γ it τ = .ok (items, none, τ1)) (hw : wipeC τ1 tg = some τ0) (I : Sts → Prop) (P : D → Prop) (ht : ∀ d ∈ items, ∀ τ, I τ → ∃ v τ', compStep Γ tg one cond elt τ d = .ok (some v, τ') ∧ I τ' ∧ vFull v = true ∧ P (vD v)) (h0 : I τ0) (hl : items.length ≤ sizeLine) :
    ∃ xs τ', ev Γ (.comp tg one it cond elt) τ = .ok (.own true (.lst xs), τ') ∧ xs.length = items.length ∧ (∀ x ∈ xs, P x) ∧ I τ' := by
  obtain ⟨xs, τ', e, l, p, i⟩ := compGo_all (acc := []) I P ht h0 (by simpa using hl)
  exact ⟨xs, τ', ev_comp h hw (by simpa using e), l, p, i⟩
theorem ex_for {tg : List Nat} {one : Bool} {it : E} {b : S} {items : List D} (h : evI Γ it τ = .ok (items, none, τ1)) (hf : forGo (forStep Γ n tg one b) items τ1 = .ok (.next τ')) : ex Γ n (.fors tg one it b) τ = .ok (.next τ') := by
  unfold forStep at hf
  simp only [ex, h, R.bind_ok, lock, hf, unlock, R.of_some]
theorem ex_for_ret {tg : List Nat} {one : Bool} {it : E} {b : S} {items : List D} {v : Val} (h : evI Γ it τ = .ok (items, none, τ1)) (hf : forGo (forStep Γ n tg one b) items τ1 = .ok (.ret v τ')) : ex Γ n (.fors tg one it b) τ = .ok (.ret v τ') := by
  unfold forStep at hf
  simp only [ex, h, R.bind_ok, lock, hf]
end
end Rg

/-! Rg22: data by equality; loops over a range, place by place. -/
namespace Rg
open PySem L2
theorem toPyL_map : ∀ xs : List D, toPyL xs = xs.map toPy
  | [] => by unfold toPyL; rfl
  | x :: r => by unfold toPyL; rw [toPyL_map r]; rfl
/-- a tree without texts, dicts: how deep at most -/
def Lay (n : Nat) (d : D) : Prop := (toPy d).canLay0 = true ∧ (toPy d).depth ≤ n
theorem lay_int (n : Nat) (i : Int) : Lay n (.int i) := ⟨by unfold toPy; rfl, by unfold toPy; exact Nat.zero_le n⟩
theorem lay_all : ∀ {xs : List PyData} {n : Nat}, (∀ x ∈ xs, x.canLay0 = true ∧ x.depth ≤ n) → PyData.canLayAll0 xs = true ∧ PyData.depthAll xs ≤ n
  | [], n, _ => ⟨by unfold PyData.canLayAll0; rfl, by unfold PyData.depthAll; exact Nat.zero_le n⟩
  | x :: xs, n, h => by
    have h1 := h x List.mem_cons_self
    have h2 := lay_all (xs := xs) (n := n) fun y hy => h y (List.mem_cons_of_mem _ hy)
    refine ⟨by unfold PyData.canLayAll0; rw [h1.1, h2.1]; rfl, ?_⟩
    unfold PyData.depthAll
    exact Nat.max_le.mpr ⟨h1.2, h2.2⟩
theorem lay_lst {xs : List D} {n : Nat} (h : ∀ x ∈ xs, Lay n x) : Lay (n + 1) (.lst xs) := by
  have := lay_all (xs := xs.map toPy) (n := n) fun y hy => by
    obtain ⟨x, hx, rfl⟩ := List.mem_map.mp hy
    exact h x hx
  unfold Lay toPy
  rw [toPyL_map]
  refine ⟨by unfold PyData.canLay0; exact this.1, ?_⟩
  unfold PyData.depth
  exact Nat.succ_le_succ this.2
theorem lay_tup {xs : List D} {n : Nat} (h : ∀ x ∈ xs, Lay n x) : Lay (n + 1) (.tup xs) := by
  have := lay_all (xs := xs.map toPy) (n := n) fun y hy => by
    obtain ⟨x, hx, rfl⟩ := List.mem_map.mp hy
    exact h x hx
  unfold Lay toPy
  rw [toPyL_map]
  refine ⟨by unfold PyData.canLay0; exact this.1, ?_⟩
  unfold PyData.depth
  exact Nat.succ_le_succ this.2
theorem Lay.sh {d : D} {n : Nat} (h : Lay n d) (hn : n ≤ 64) : SeqAt.shaped (toPy d) = true := by
  unfold SeqAt.shaped
  rw [h.1, Bool.true_and]
  exact decide_eq_true (Nat.le_trans h.2 hn)
theorem eqP_lst {xs ys : List D} : eqP (.lst xs) (.lst ys) = if SeqAt.shaped (toPy (.lst xs)) && SeqAt.shaped (toPy (.lst ys)) then some (PyData.eqv (toPy (.lst xs)) (toPy (.lst ys))) else none := rfl
theorem eqP_self {xs : List D} {n : Nat} (h : Lay n (.lst xs)) (hn : n ≤ 64) : eqP (.lst xs) (.lst xs) = some true := by
  rw [eqP_lst, h.sh hn]
  simp only [Bool.and_self, if_true]
  rw [SeqAt.eqv_refl _ h.1]
theorem ne_self {xs : List D} {n : Nat} (h : Lay n (.lst xs)) (hn : n ≤ 64) : pNe [.lst xs, .lst xs] = some (.old (.bl false)) := by
  show (eqP (.lst xs) (.lst xs) >>= fun k => some (Res.old (.bl (!k)))) = _
  rw [eqP_self h hn]
  rfl
/-- a loop over a list, place by place -/
theorem forGo_at {step : Sts → D → R Fl} (st : Nat → Sts) : ∀ {ds : List D} {k : Nat}, (∀ j (h : j < ds.length), step (st (k + j)) ds[j] = .ok (.next (st (k + j + 1)))) → forGo step ds (st k) = .ok (.next (st (k + ds.length)))
  | [], k, _ => rfl
  | d :: ds, k, h => by
    have h0 := h 0 (Nat.zero_lt_succ _)
    have h1 := forGo_at st (ds := ds) (k := k + 1) fun j hj => by
      have := h (j + 1) (Nat.succ_lt_succ hj)
      rw [show k + 1 + j = k + (j + 1) by omega]
      exact this
    simp only [forGo]
    rw [show step (st k) d = .ok (.next (st (k + 1))) from h0]
    simp only [R.bind_ok]
    rw [h1]
    congr 2
    rw [List.length_cons]
    congr 1
    omega
theorem forGo_list {step : Sts → D → R Fl} (st : Nat → Sts) {ds : List D} (h : ∀ j (hj : j < ds.length), step (st j) ds[j] = .ok (.next (st (j + 1)))) : forGo step ds (st 0) = .ok (.next (st ds.length)) := by
  have := forGo_at st (ds := ds) (k := 0) fun j hj => by
    rw [Nat.zero_add]
    exact h j hj
  rw [Nat.zero_add] at this
  exact this
theorem forGo_range {step : Sts → D → R Fl} (st : Nat → Sts) (n : Nat) (h : ∀ j, j < n → step (st j) (.int (j : Nat)) = .ok (.next (st (j + 1)))) : forGo step ((List.range n).map fun k => .int (k : Nat)) (st 0) = .ok (.next (st n)) := by
  have := forGo_list st (ds := (List.range n).map fun k => .int (k : Nat)) (step := step) fun j hj => by
    rw [List.getElem_map, List.getElem_range]
    exact h j (by simpa using hj)
  rw [List.length_map, List.length_range] at this
  exact this
theorem ex_seq_next {Γ : Env1} {n : Nat} {a b : S} {τ τ' : Sts} (h : ex Γ n a τ = .ok (.next τ')) : ex Γ n (.seq a b) τ = ex Γ n b τ' := by
  simp only [ex, h, R.bind_ok]
theorem ex_seq_ret {Γ : Env1} {n : Nat} {a b : S} {τ τ' : Sts} {v : Val} (h : ex Γ n a τ = .ok (.ret v τ')) : ex Γ n (.seq a b) τ = .ok (.ret v τ') := by
  simp only [ex, h, R.bind_ok]
theorem ex_skip {Γ : Env1} {n : Nat} {τ : Sts} : ex Γ n .skip τ = .ok (.next τ) := by simp only [ex]
/-- what a loop's name holds behind j turns over a range -/
def lastS (s : Slot) : Nat → Slot
  | 0 => s
  | j + 1 => .fz (.int (j : Nat))
theorem lastS_nl {s : Slot} (h : nl s = true) : ∀ j, nl (lastS s j) = true
  | 0 => h
  | _ + 1 => rfl
theorem lastS_pos {s t : Slot} : ∀ {j : Nat}, 0 < j → lastS s j = lastS t j
  | _ + 1, _ => rfl
/-! tables -/
def row (r : List Int) : D := .lst (r.map .int)
def tab (rows : List (List Int)) : D := .lst (rows.map row)
theorem imm_row (r : List Int) : imm (row r) = false := rfl
theorem imm_tab (r : List (List Int)) : imm (tab r) = false := rfl
theorem ixN_in {n : Nat} {i : Int} (h0 : 0 ≤ i) (h1 : i < n) : ixN n i = some i.toNat := by
  unfold ixN
  rw [if_pos h0, if_pos h1]
def rowAt (rows : List (List Int)) (i : Int) : List Int := rows.getD i.toNat []
def valAt (r : List Int) (i : Int) : Int := r.getD i.toNat 0
theorem pIx_tab {rows : List (List Int)} {i : Int} (h0 : 0 ≤ i) (h1 : i < rows.length) : pIx [tab rows, .int i] = some (.old (row (rowAt rows i))) := by
  have h2 : i.toNat < rows.length := by omega
  simp [pIx, ixD, tab, atI, ixN_in h0 h1, h2, rowAt]
theorem pIx_row {r : List Int} {i : Int} (h0 : 0 ≤ i) (h1 : i < r.length) : pIx [row r, .int i] = some (.old (.int (valAt r i))) := by
  have h2 : i.toNat < r.length := by omega
  simp [pIx, ixD, row, atI, ixN_in h0 h1, h2, valAt]
theorem pLen_tab {rows : List (List Int)} : pLen [tab rows] = some (.old (.int rows.length)) := by simp [pLen, lenD, tab]
theorem pLen_row {r : List Int} : pLen [row r] = some (.old (.int r.length)) := by simp [pLen, lenD, row]
theorem lay_row (r : List Int) : Lay 1 (row r) := lay_lst fun x hx => by
  obtain ⟨v, _, rfl⟩ := List.mem_map.mp hx
  exact lay_int 0 v
theorem lay_tab (rows : List (List Int)) : Lay 2 (tab rows) := lay_lst fun x hx => by
  obtain ⟨v, _, rfl⟩ := List.mem_map.mp hx
  exact lay_row v
structure Good (rows : List (List Int)) (w : Nat) : Prop where
  h2 : 2 ≤ rows.length
  h7 : rows.length ≤ 7
  w2 : 2 ≤ w
  w7 : w ≤ 7
  wide : ∀ r ∈ rows, r.length = w
  far : ∀ r ∈ rows, ∀ v ∈ r, -1000000000 ≤ v ∧ v ≤ 1000000000
theorem getD_mem {α : Type} {l : List α} {i : Nat} {d : α} (h : i < l.length) : l.getD i d ∈ l := by
  rw [List.getD_eq_getElem?_getD, List.getElem?_eq_getElem h]
  exact List.getElem_mem h
theorem Good.wideAt {rows : List (List Int)} {w : Nat} (g : Good rows w) {i : Int} (h0 : 0 ≤ i) (h : i < rows.length) : (rowAt rows i).length = w := g.wide _ (getD_mem (by omega))
def atv (rows : List (List Int)) (x y : Int) : Int := valAt (rowAt rows y) x
/-- the height at x, y: rows[y][x] -/
theorem ix2 {rows : List (List Int)} {w : Nat} (g : Good rows w) {x y : Int} (hx : 0 ≤ x) (hx2 : x < w) (hy : 0 ≤ y) (hy2 : y < rows.length) : pIx [row (rowAt rows y), .int x] = some (.old (.int (atv rows x y))) := by
  have : (rowAt rows y).length = w := g.wideAt hy hy2
  rw [pIx_row hx (by omega)]
  rfl
theorem rngI {Γ : Env1} {e : E} {τ : Sts} {n : Int} (h : ev Γ e τ = .ok (.fz (.int n), τ)) (h1 : n < 2 ^ 62) (h2 : -(2 ^ 62) ≤ n) : evI Γ (.iRange e) τ = .ok ((List.range n.toNat).map fun k => .int (k : Nat), none, τ) := by
  simp only [evI, h, R.bind_ok, dat]
  rw [if_pos ⟨h1, h2⟩]
theorem rng {Γ : Env1} {e : E} {τ : Sts} {n : Nat} (h : ev Γ e τ = .ok (.fz (.int n), τ)) (hn : n ≤ 1000) : evI Γ (.iRange e) τ = .ok ((List.range n).map fun k => .int (k : Nat), none, τ) := by
  have := rngI h (by omega) (by omega)
  rw [Int.toNat_natCast] at this
  exact this
theorem nl_un : nl .un = true := rfl
theorem nl_fz (d : D) : nl (.fz d) = true := rfl
theorem nl_ow (f : Bool) (d : D) : nl (.ow f d) = true := rfl
theorem nl_lk (f : Bool) (d : D) : nl (.lk f d) = false := rfl
/-- what an inner loop's name holds behind j turns of the outer loop -/
def prevS (h : Nat) : Nat → Slot
  | 0 => .un
  | _ + 1 => lastS .un h
theorem prevS_nl (h : Nat) : ∀ j, nl (prevS h j) = true
  | 0 => rfl
  | _ + 1 => lastS_nl rfl h
theorem prevS_zero (h : Nat) : prevS h 0 = .un := rfl
theorem prevS_succ (h j : Nat) : prevS h (j + 1) = lastS .un h := rfl
theorem prevS_pos {h : Nat} : ∀ {j : Nat}, 0 < j → prevS h j = lastS .un h
  | _ + 1, _ => rfl
theorem lastS_succ (s : Slot) (j : Nat) : lastS s (j + 1) = .fz (.int (j : Nat)) := rfl
theorem lastS_zero (s : Slot) : lastS s 0 = s := rfl
end Rg

namespace Lwk06
open PySem L2 Rg
def m__law_feed : S := (.seq (.asg 2 (.cst (.int 0)))
  (.seq (.ifs (.prim .gt (.cons (.prim .len (.cons (.var 0) .nil)) (.cons (.cst (.int 0)) .nil)))
    (.seq (.asg 2 (.prim .ix (.cons (.var 0) (.cons (.prim .mod (.cons (.var 1) (.cons (.prim .len (.cons (.var 0) .nil)) .nil))) .nil))))
    .skip)
    .skip)
  (.seq (.ret (.lst (.cons (.prim .abs (.cons (.var 2) .nil)) (.cons (.prim .add (.cons (.prim .mul (.cons (.cst (.int 7919)) (.cons (.var 1) .nil))) (.cons (.cst (.int 1)) .nil))) .nil))))
  .skip)))
def g__law_feed : Env1 := []
def f__law_feed : Fn := Fn.of g__law_feed 1 0 2 3 m__law_feed (fun _ => 0)
def m__law_draw : S := (.seq (.ifs (.prim .ge (.cons (.prim .ix (.cons (.var 0) (.cons (.cst (.int 0)) .nil))) (.cons (.prim .pow (.cons (.cst (.int 10)) (.cons (.cst (.int 18)) .nil))) .nil)))
    (.seq (.asg 2 (.prim .mod (.cons (.prim .ix (.cons (.var 0) (.cons (.cst (.int 0)) .nil))) (.cons (.var 1) .nil))))
    (.seq (.expr (.mut .setAt 0 (.cons (.prim .fdiv (.cons (.prim .ix (.cons (.var 0) (.cons (.cst (.int 0)) .nil))) (.cons (.var 1) .nil))) (.cons (.cst (.int 0)) .nil))))
    (.seq (.ret (.var 2))
    .skip)))
    .skip)
  (.seq (.expr (.mut .setAt 0 (.cons (.prim .mod (.cons (.prim .add (.cons (.prim .add (.cons (.prim .mul (.cons (.prim .ix (.cons (.var 0) (.cons (.cst (.int 1)) .nil))) (.cons (.cst (.int 48271)) .nil))) (.cons (.prim .mod (.cons (.prim .ix (.cons (.var 0) (.cons (.cst (.int 0)) .nil))) (.cons (.cst (.int 2147483647)) .nil))) .nil))) (.cons (.cst (.int 11)) .nil))) (.cons (.cst (.int 2147483647)) .nil))) (.cons (.cst (.int 1)) .nil))))
  (.seq (.ret (.prim .mod (.cons (.prim .fdiv (.cons (.prim .mod (.cons (.prim .mul (.cons (.prim .ix (.cons (.var 0) (.cons (.cst (.int 1)) .nil))) (.cons (.cst (.int 69621)) .nil))) (.cons (.cst (.int 2147483629)) .nil))) (.cons (.cst (.int 64)) .nil))) (.cons (.var 1) .nil))))
  .skip)))
def g__law_draw : Env1 := []
def f__law_draw : Fn := Fn.of g__law_draw 1 1 2 3 m__law_draw (fun _ => 0)
def m__law_height : S := (.seq (.ifs (.prim .gt (.cons (.var 1) (.cons (.cst (.int 0)) .nil)))
    (.seq (.ret (.prim .add (.cons (.var 2) (.cons (.call 0 (.cons (.var 0) (.cons (.var 1) .nil))) .nil))))
    .skip)
    .skip)
  (.seq (.ret (.prim .min2 (.cons (.prim .pow (.cons (.cst (.int 10)) (.cons (.cst (.int 9)) .nil))) (.cons (.prim .sub (.cons (.prim .add (.cons (.prim .mul (.cons (.call 0 (.cons (.var 0) (.cons (.cst (.int 20001)) .nil))) (.cons (.cst (.int 100000)) .nil))) (.cons (.call 0 (.cons (.var 0) (.cons (.cst (.int 100000)) .nil))) .nil))) (.cons (.prim .pow (.cons (.cst (.int 10)) (.cons (.cst (.int 9)) .nil))) .nil))) .nil))))
  .skip))
def g__law_height : Env1 := [("_law_draw", f__law_draw)]
def f__law_height : Fn := Fn.of g__law_height 2 1 3 3 m__law_height (fun _ => 0)
def c2__law_table : E := .comp [6] true (.iRange (.var 1)) .yes (.call 1 (.cons (.var 0) (.cons (.var 3) (.cons (.var 4) .nil))))
def c1__law_table : E := .comp [5] true (.iRange (.var 2)) .yes c2__law_table
def m__law_table : S := (.seq (.asg 1 (.prim .add (.cons (.cst (.int 2)) (.cons (.call 0 (.cons (.var 0) (.cons (.cst (.int 6)) .nil))) .nil))))
  (.seq (.frz 1)
  (.seq (.asg 2 (.prim .add (.cons (.cst (.int 2)) (.cons (.call 0 (.cons (.var 0) (.cons (.cst (.int 6)) .nil))) .nil))))
  (.seq (.frz 2)
  (.seq (.asg 3 (.prim .ix (.cons (.lst (.cons (.cst (.int 2)) (.cons (.cst (.int 3)) (.cons (.cst (.int 5)) (.cons (.cst (.int 10)) (.cons (.cst (.int 2)) (.cons (.cst (.int 3)) (.cons (.cst (.int 0)) .nil)))))))) (.cons (.call 0 (.cons (.var 0) (.cons (.cst (.int 7)) .nil))) .nil))))
  (.seq (.asg 4 (.prim .ix (.cons (.lst (.cons (.cst (.int 0)) (.cons (.prim .sub (.cons (.cst (.int 0)) (.cons (.cst (.int 3)) .nil))) (.cons (.prim .sub (.cons (.prim .pow (.cons (.cst (.int 10)) (.cons (.cst (.int 9)) .nil))) (.cons (.cst (.int 9)) .nil))) (.cons (.prim .sub (.cons (.cst (.int 0)) (.cons (.prim .pow (.cons (.cst (.int 10)) (.cons (.cst (.int 9)) .nil))) .nil))) .nil))))) (.cons (.call 0 (.cons (.var 0) (.cons (.cst (.int 4)) .nil))) .nil))))
  (.seq (.ret c1__law_table)
  .skip)))))))
def g__law_table : Env1 := [("_law_draw", f__law_draw), ("_law_height", f__law_height)]
def f__law_table : Fn := Fn.of g__law_table 3 1 1 7 m__law_table (fun _ => 0)
def m__law_cut : S := (.seq (.asg 2 (.prim .ix (.cons (.var 1) (.cons (.call 0 (.cons (.var 0) (.cons (.prim .len (.cons (.var 1) .nil)) .nil))) .nil))))
  (.seq (.ret (.prim .sub (.cons (.prim .ix (.cons (.var 2) (.cons (.call 0 (.cons (.var 0) (.cons (.prim .len (.cons (.var 2) .nil)) .nil))) .nil))) (.cons (.call 0 (.cons (.var 0) (.cons (.cst (.int 2)) .nil))) .nil))))
  .skip))
def g__law_cut : Env1 := [("_law_draw", f__law_draw)]
def f__law_cut : Fn := Fn.of g__law_cut 2 1 2 3 m__law_cut (fun _ => 0)
def b2__law_gates : S := (.seq (.ifs (.and (.prim .lt (.cons (.prim .add (.cons (.var 3) (.cons (.cst (.int 1)) .nil))) (.cons (.prim .len (.cons (.prim .ix (.cons (.var 0) (.cons (.cst (.int 0)) .nil))) .nil)) .nil))) (.prim .ne (.cons (.prim .gt (.cons (.prim .ix (.cons (.prim .ix (.cons (.var 0) (.cons (.var 4) .nil))) (.cons (.var 3) .nil))) (.cons (.var 1) .nil))) (.cons (.prim .gt (.cons (.prim .ix (.cons (.prim .ix (.cons (.var 0) (.cons (.var 4) .nil))) (.cons (.prim .add (.cons (.var 3) (.cons (.cst (.int 1)) .nil))) .nil))) (.cons (.var 1) .nil))) .nil))))
    (.seq (.expr (.mut .append 2 (.cons (.tup (.cons (.var 3) (.cons (.var 4) (.cons (.cst (.int 0)) .nil)))) .nil)))
    .skip)
    .skip)
  (.seq (.ifs (.and (.prim .lt (.cons (.prim .add (.cons (.var 4) (.cons (.cst (.int 1)) .nil))) (.cons (.prim .len (.cons (.var 0) .nil)) .nil))) (.prim .ne (.cons (.prim .gt (.cons (.prim .ix (.cons (.prim .ix (.cons (.var 0) (.cons (.var 4) .nil))) (.cons (.var 3) .nil))) (.cons (.var 1) .nil))) (.cons (.prim .gt (.cons (.prim .ix (.cons (.prim .ix (.cons (.var 0) (.cons (.prim .add (.cons (.var 4) (.cons (.cst (.int 1)) .nil))) .nil))) (.cons (.var 3) .nil))) (.cons (.var 1) .nil))) .nil))))
    (.seq (.expr (.mut .append 2 (.cons (.tup (.cons (.var 3) (.cons (.var 4) (.cons (.cst (.int 1)) .nil)))) .nil)))
    .skip)
    .skip)
  .skip))
def l2__law_gates : S := .fors [4] true (.iRange (.prim .len (.cons (.var 0) .nil))) b2__law_gates
def b1__law_gates : S := (.seq l2__law_gates
  .skip)
def l1__law_gates : S := .fors [3] true (.iRange (.prim .len (.cons (.prim .ix (.cons (.var 0) (.cons (.cst (.int 0)) .nil))) .nil))) b1__law_gates
def m__law_gates : S := (.seq (.asg 2 (.lst .nil))
  (.seq l1__law_gates
  (.seq (.ret (.var 2))
  .skip)))
def g__law_gates : Env1 := []
def f__law_gates : Fn := Fn.of g__law_gates 1 0 2 5 m__law_gates (fun _ => 0)
def b1_is_row : S := (.seq (.ifs (.or (.prim .lt (.cons (.var 2) (.cons (.prim .sub (.cons (.cst (.int 0)) (.cons (.glb "FAR" (.int 1000000000)) .nil))) .nil))) (.prim .gt (.cons (.var 2) (.cons (.glb "FAR" (.int 1000000000)) .nil))))
    (.seq (.ret (.cst (.bl false)))
    .skip)
    .skip)
  .skip)
def l1_is_row : S := .fors [2] true (.iSeq (.var 0)) b1_is_row
def m_is_row : S := (.seq (.ifs (.or (.prim .ne (.cons (.prim .len (.cons (.var 0) .nil)) (.cons (.var 1) .nil))) (.or (.prim .lt (.cons (.var 1) (.cons (.glb "LEAST" (.int 2)) .nil))) (.prim .gt (.cons (.var 1) (.cons (.glb "MOST" (.int 7)) .nil)))))
    (.seq (.ret (.cst (.bl false)))
    .skip)
    .skip)
  (.seq l1_is_row
  (.seq (.ret (.cst (.bl true)))
  .skip)))
def g_is_row : Env1 := []
def f_is_row : Fn := Fn.of g_is_row 1 0 2 3 m_is_row (fun _ => 0)
def b1_ask_table : S := (.seq (.ifs (.not (.call 0 (.cons (.prim .ix (.cons (.var 0) (.cons (.var 2) .nil))) (.cons (.var 1) .nil))))
    (.seq .never
    .skip)
    .skip)
  .skip)
def l1_ask_table : S := .fors [2] true (.iRange (.prim .len (.cons (.var 0) .nil))) b1_ask_table
def m_ask_table : S := (.seq (.ifs (.or (.prim .lt (.cons (.prim .len (.cons (.var 0) .nil)) (.cons (.glb "LEAST" (.int 2)) .nil))) (.prim .gt (.cons (.prim .len (.cons (.var 0) .nil)) (.cons (.glb "MOST" (.int 7)) .nil))))
    (.seq .never
    .skip)
    .skip)
  (.seq (.asg 1 (.prim .len (.cons (.prim .ix (.cons (.var 0) (.cons (.cst (.int 0)) .nil))) .nil)))
  (.seq (.frz 1)
  (.seq l1_ask_table
  (.seq (.ret (.cst (.bl true)))
  .skip)))))
def g_ask_table : Env1 := [("is_row", f_is_row)]
def f_ask_table : Fn := Fn.of g_ask_table 2 0 1 3 m_ask_table (fun _ => 0)
def b2_all_points : S := (.seq (.expr (.mut .append 1 (.cons (.tup (.cons (.var 2) (.cons (.var 3) .nil))) .nil)))
  .skip)
def l2_all_points : S := .fors [3] true (.iRange (.prim .len (.cons (.var 0) .nil))) b2_all_points
def b1_all_points : S := (.seq l2_all_points
  .skip)
def l1_all_points : S := .fors [2] true (.iRange (.prim .len (.cons (.prim .ix (.cons (.var 0) (.cons (.cst (.int 0)) .nil))) .nil))) b1_all_points
def m_all_points : S := (.seq (.asg 1 (.lst .nil))
  (.seq l1_all_points
  (.seq (.ret (.var 1))
  .skip)))
def g_all_points : Env1 := []
def f_all_points : Fn := Fn.of g_all_points 1 0 1 4 m_all_points (fun _ => 0)
def m_gate_points : S := (.seq (.unpack [1, 2, 3] (.var 0))
  (.seq (.ifs (.prim .eq (.cons (.var 3) (.cons (.cst (.int 0)) .nil)))
    (.seq (.ret (.tup (.cons (.tup (.cons (.var 1) (.cons (.var 2) .nil))) (.cons (.tup (.cons (.prim .add (.cons (.var 1) (.cons (.cst (.int 1)) .nil))) (.cons (.var 2) .nil))) .nil))))
    .skip)
    .skip)
  (.seq (.ret (.tup (.cons (.tup (.cons (.var 1) (.cons (.var 2) .nil))) (.cons (.tup (.cons (.var 1) (.cons (.prim .add (.cons (.var 2) (.cons (.cst (.int 1)) .nil))) .nil))) .nil))))
  .skip)))
def g_gate_points : Env1 := []
def f_gate_points : Fn := Fn.of g_gate_points 1 0 1 4 m_gate_points (fun _ => 0)
def m_has_point : S := (.seq (.ret (.and (.chain .le .lt (.cst (.int 0)) (.var 1) (.prim .len (.cons (.prim .ix (.cons (.var 0) (.cons (.cst (.int 0)) .nil))) .nil))) (.chain .le .lt (.cst (.int 0)) (.var 2) (.prim .len (.cons (.var 0) .nil)))))
  .skip)
def g_has_point : Env1 := []
def f_has_point : Fn := Fn.of g_has_point 1 0 3 3 m_has_point (fun _ => 0)
def m_is_gate : S := (.seq (.ifs (.and (.prim .ne (.cons (.prim .ix (.cons (.var 1) (.cons (.cst (.int 2)) .nil))) (.cons (.cst (.int 0)) .nil))) (.prim .ne (.cons (.prim .ix (.cons (.var 1) (.cons (.cst (.int 2)) .nil))) (.cons (.cst (.int 1)) .nil))))
    (.seq (.ret (.cst (.bl false)))
    .skip)
    .skip)
  (.seq (.unpack [2, 3] (.call 0 (.cons (.var 1) .nil)))
  (.seq (.ret (.and (.call 1 (.cons (.var 0) (.cons (.prim .ix (.cons (.var 2) (.cons (.cst (.int 0)) .nil))) (.cons (.prim .ix (.cons (.var 2) (.cons (.cst (.int 1)) .nil))) .nil)))) (.call 1 (.cons (.var 0) (.cons (.prim .ix (.cons (.var 3) (.cons (.cst (.int 0)) .nil))) (.cons (.prim .ix (.cons (.var 3) (.cons (.cst (.int 1)) .nil))) .nil))))))
  .skip)))
def g_is_gate : Env1 := [("gate_points", f_gate_points), ("has_point", f_has_point)]
def f_is_gate : Fn := Fn.of g_is_gate 2 0 2 4 m_is_gate (fun _ => 0)
def m_high_at : S := (.seq (.ret (.prim .gt (.cons (.prim .ix (.cons (.prim .ix (.cons (.var 0) (.cons (.prim .ix (.cons (.var 2) (.cons (.cst (.int 1)) .nil))) .nil))) (.cons (.prim .ix (.cons (.var 2) (.cons (.cst (.int 0)) .nil))) .nil))) (.cons (.var 1) .nil))))
  .skip)
def g_high_at : Env1 := []
def f_high_at : Fn := Fn.of g_high_at 1 0 3 3 m_high_at (fun _ => 0)
def m_is_open : S := (.seq (.ifs (.not (.call 0 (.cons (.var 0) (.cons (.var 2) .nil))))
    (.seq (.ret (.cst (.bl false)))
    .skip)
    .skip)
  (.seq (.unpack [3, 4] (.call 1 (.cons (.var 2) .nil)))
  (.seq (.ret (.prim .ne (.cons (.call 2 (.cons (.var 0) (.cons (.var 1) (.cons (.var 3) .nil)))) (.cons (.call 2 (.cons (.var 0) (.cons (.var 1) (.cons (.var 4) .nil)))) .nil))))
  .skip)))
def g_is_open : Env1 := [("is_gate", f_is_gate), ("gate_points", f_gate_points), ("high_at", f_high_at)]
def f_is_open : Fn := Fn.of g_is_open 3 0 3 5 m_is_open (fun _ => 0)
def b2_open_gates : S := (.seq (.ifs (.call 1 (.cons (.var 0) (.cons (.var 1) (.cons (.tup (.cons (.var 3) (.cons (.var 4) (.cons (.var 5) .nil)))) .nil))))
    (.seq (.expr (.mut .append 2 (.cons (.tup (.cons (.var 3) (.cons (.var 4) (.cons (.var 5) .nil)))) .nil)))
    .skip)
    .skip)
  .skip)
def l2_open_gates : S := .fors [5] true (.iRange (.cst (.int 2))) b2_open_gates
def b1_open_gates : S := (.seq l2_open_gates
  .skip)
def l1_open_gates : S := .fors [3, 4] false (.iSeq (.call 0 (.cons (.var 0) .nil))) b1_open_gates
def m_open_gates : S := (.seq (.asg 2 (.lst .nil))
  (.seq l1_open_gates
  (.seq (.ret (.var 2))
  .skip)))
def g_open_gates : Env1 := [("all_points", f_all_points), ("is_open", f_is_open)]
def f_open_gates : Fn := Fn.of g_open_gates 4 0 2 6 m_open_gates (fun _ => 0)
def m_gates : S := (.seq (.expr (.call 0 (.cons (.var 0) .nil)))
  (.seq (.ret (.call 1 (.cons (.var 0) (.cons (.var 1) .nil))))
  .skip))
def g_gates : Env1 := [("ask_table", f_ask_table), ("open_gates", f_open_gates)]
def f_gates : Fn := Fn.of g_gates 5 0 2 2 m_gates (fun _ => 0)
def c1_law : E := .comp [8] true (.iSeq (.var 3)) .yes (.prim .list (.cons (.var 8) .nil))
def b2_law : S := (.seq (.asg 6 (.prim .sorted (.cons (.call 3 (.cons (.var 3) (.cons (.var 5) .nil))) .nil)))
  (.seq (.frz 6)
  (.seq (.asg 7 (.call 4 (.cons (.var 3) (.cons (.var 5) .nil))))
  (.seq (.ifs (.or (.not (.prim (.isa "list") (.cons (.var 7) .nil))) (.or (.prim .ne (.cons (.var 7) (.cons (.var 6) .nil))) (.prim .ne (.cons (.var 3) (.cons (.var 4) .nil)))))
    (.seq (.ret (.cst (.bl false)))
    .skip)
    .skip)
  (.seq (.expr (.mut .append 7 (.cons (.tup (.cons (.cst (.int 0)) (.cons (.cst (.int 0)) (.cons (.cst (.int 0)) .nil)))) .nil)))
  (.seq (.ifs (.prim .ne (.cons (.call 4 (.cons (.var 3) (.cons (.var 5) .nil))) (.cons (.var 6) .nil)))
    (.seq (.ret (.cst (.bl false)))
    .skip)
    .skip)
  .skip))))))
def l2_law : S := .fors [5] true (.iSeq (.lst (.cons (.call 2 (.cons (.var 2) (.cons (.var 3) .nil))) (.cons (.call 2 (.cons (.var 2) (.cons (.var 3) .nil))) (.cons (.prim .pow (.cons (.cst (.int 10)) (.cons (.cst (.int 10)) .nil))) (.cons (.prim .sub (.cons (.cst (.int 0)) (.cons (.prim .pow (.cons (.cst (.int 10)) (.cons (.cst (.int 10)) .nil))) .nil))) .nil)))))) b2_law
def b1_law : S := (.seq (.asg 2 (.call 0 (.cons (.var 0) (.cons (.var 1) .nil))))
  (.seq (.asg 3 (.call 1 (.cons (.var 2) .nil)))
  (.seq (.frz 3)
  (.seq (.asg 4 c1_law)
  (.seq (.frz 4)
  (.seq l2_law
  .skip))))))
def l1_law : S := .fors [1] true (.iRange (.prim .max2 (.cons (.cst (.int 4)) (.cons (.prim .min2 (.cons (.cst (.int 12)) (.cons (.prim .len (.cons (.var 0) .nil)) .nil))) .nil)))) b1_law
def m_law : S := (.seq l1_law
  (.seq (.ret (.cst (.bl true)))
  .skip))
def g_law : Env1 := [("_law_feed", f__law_feed), ("_law_table", f__law_table), ("_law_cut", f__law_cut), ("_law_gates", f__law_gates), ("gates", f_gates)]
def f_law : Fn := Fn.of g_law 6 0 1 9 m_law (fun _ => 0)
end Lwk06

namespace Lwk06
open PySem L2 Rg
/-! the draws -/
def fd (s : Int × Int) : D := .lst [.int s.1, .int s.2]
def draw (s : Int × Int) (m : Int) : Int × (Int × Int) := if 1000000000000000000 ≤ s.1 then (s.1 % m, (s.1 / m, s.2)) else
  ((s.2 * 48271 + s.1 % 2147483647 + 11) % 2147483647 * 69621 % 2147483629 / 64 % m, (s.1, (s.2 * 48271 + s.1 % 2147483647 + 11) % 2147483647))
theorem draw_io : f__law_draw.io = 1 := rfl
theorem draw_ar : f__law_draw.ar = 2 := rfl
theorem draw_run (s : Int × Int) (m : Int) (hm : 0 < m) (hm2 : m < 1073741824) : f__law_draw.run [fd s, .int m] = .ok (.int (draw s m).1, [fd (draw s m).2]) := by
  obtain ⟨a, b⟩ := s
  by_cases ha : 1000000000000000000 ≤ a
  · simp -implicitDefEqProofs [f__law_draw, m__law_draw, fd, draw, Fn.of, ↓R.bind_def, R.b_ok, R.b_exc, R.b_stuck, ex, ev, evs, evI, entry, dats, dat, slotD, primD, resV, imm, immL, noSlot, boolOf, sto, stos, put1_eq, putL, bindTg, nl_un, nl_fz, nl_ow, nl_lk, slotOf, vD, vFull, endOf, outV, ioData, setIo, slotsOf, slotIn, callD, mutL, mAppend, mSetAt, mPop, mClear, atI, ixN, ixD, pIx, pGe, pGt, pLe, pLt, pPow, powOk, pMod, pFdiv, divOk, pAdd, pSub, pMul, mulOk, pNeg, pAbs, pMin2, pMax2, pLen, lenD, pIsa, tyName, R.of, R.calm, seqOf, lock, unlock, wipeC, wipeS, unlocked, List.range, List.range.loop, ha, hm, hm2]
  · simp -implicitDefEqProofs [f__law_draw, m__law_draw, fd, draw, Fn.of, ↓R.bind_def, R.b_ok, R.b_exc, R.b_stuck, ex, ev, evs, evI, entry, dats, dat, slotD, primD, resV, imm, immL, noSlot, boolOf, sto, stos, put1_eq, putL, bindTg, nl_un, nl_fz, nl_ow, nl_lk, slotOf, vD, vFull, endOf, outV, ioData, setIo, slotsOf, slotIn, callD, mutL, mAppend, mSetAt, mPop, mClear, atI, ixN, ixD, pIx, pGe, pGt, pLe, pLt, pPow, powOk, pMod, pFdiv, divOk, pAdd, pSub, pMul, mulOk, pNeg, pAbs, pMin2, pMax2, pLen, lenD, pIsa, tyName, R.of, R.calm, seqOf, lock, unlock, wipeC, wipeS, unlocked, List.range, List.range.loop, ha, hm, hm2]
theorem draw_lt (s : Int × Int) (m : Int) (hm : 0 < m) : 0 ≤ (draw s m).1 ∧ (draw s m).1 < m := by
  unfold draw
  split
  · exact ⟨Int.emod_nonneg _ (by omega), Int.emod_lt_of_pos _ hm⟩
  · exact ⟨Int.emod_nonneg _ (by omega), Int.emod_lt_of_pos _ hm⟩
def height (s : Int × Int) (far base : Int) : Int × (Int × Int) := if 0 < far then (base + (draw s far).1, (draw s far).2) else
  ((let v := (draw s 20001).1 * 100000 + (draw (draw s 20001).2 100000).1 - 1000000000; if v < 1000000000 then v else 1000000000), (draw (draw s 20001).2 100000).2)
theorem height_io : f__law_height.io = 1 := rfl
theorem height_ar : f__law_height.ar = 3 := rfl
theorem height_run (s : Int × Int) (far base : Int) (hf : far < 1073741824) : f__law_height.run [fd s, .int far, .int base] = .ok (.int (height s far base).1, [fd (height s far base).2]) := by
  by_cases h : 0 < far
  · simp -implicitDefEqProofs [f__law_height, m__law_height, g__law_height, height, Fn.of, ↓R.bind_def, R.b_ok, R.b_exc, R.b_stuck, ex, ev, evs, evI, entry, dats, dat, slotD, primD, resV, imm, immL, noSlot, boolOf, sto, stos, put1_eq, putL, bindTg, nl_un, nl_fz, nl_ow, nl_lk, slotOf, vD, vFull, endOf, outV, ioData, setIo, slotsOf, slotIn, callD, mutL, mAppend, mSetAt, mPop, mClear, atI, ixN, ixD, pIx, pGe, pGt, pLe, pLt, pPow, powOk, pMod, pFdiv, divOk, pAdd, pSub, pMul, mulOk, pNeg, pAbs, pMin2, pMax2, pLen, lenD, pIsa, tyName, R.of, R.calm, seqOf, lock, unlock, wipeC, wipeS, unlocked, List.range, List.range.loop, h, hf, draw_io, draw_ar, draw_run]
  · simp -implicitDefEqProofs [f__law_height, m__law_height, g__law_height, height, Fn.of, ↓R.bind_def, R.b_ok, R.b_exc, R.b_stuck, ex, ev, evs, evI, entry, dats, dat, slotD, primD, resV, imm, immL, noSlot, boolOf, sto, stos, put1_eq, putL, bindTg, nl_un, nl_fz, nl_ow, nl_lk, slotOf, vD, vFull, endOf, outV, ioData, setIo, slotsOf, slotIn, callD, mutL, mAppend, mSetAt, mPop, mClear, atI, ixN, ixD, pIx, pGe, pGt, pLe, pLt, pPow, powOk, pMod, pFdiv, divOk, pAdd, pSub, pMul, mulOk, pNeg, pAbs, pMin2, pMax2, pLen, lenD, pIsa, tyName, R.of, R.calm, seqOf, lock, unlock, wipeC, wipeS, unlocked, List.range, List.range.loop, h, draw_io, draw_ar, draw_run]
end Lwk06

namespace Lwk06
open PySem L2 Rg
theorem height_in (s : Int × Int) (far base : Int) (h1 : far ≤ 10) (h2 : -1000000000 ≤ base) (h3 : base ≤ 999999991) : -1000000000 ≤ (height s far base).1 ∧ (height s far base).1 ≤ 1000000000 := by
  unfold height
  split
  · rename_i h
    have := draw_lt s far h
    simp only
    omega
  · have a1 := draw_lt s 20001 (by omega)
    have a2 := draw_lt (draw s 20001).2 100000 (by omega)
    simp only
    split <;> omega
theorem all_ints : ∀ {xs : List D} {Q : Int → Prop}, (∀ x ∈ xs, ∃ v, x = D.int v ∧ Q v) → ∃ r : List Int, xs = r.map .int ∧ ∀ v ∈ r, Q v
  | [], _, _ => ⟨[], rfl, fun _ h => (List.not_mem_nil h).elim⟩
  | x :: xs, Q, h => by
    obtain ⟨v, rfl, hv⟩ := h x List.mem_cons_self
    obtain ⟨r, rfl, hr⟩ := all_ints (xs := xs) (Q := Q) fun y hy => h y (List.mem_cons_of_mem _ hy)
    refine ⟨v :: r, rfl, fun u hu => ?_⟩
    rcases List.mem_cons.mp hu with rfl | hu
    · exact hv
    · exact hr u hu
theorem all_rows : ∀ {xs : List D} {Q : List Int → Prop}, (∀ x ∈ xs, ∃ v, x = row v ∧ Q v) → ∃ r : List (List Int), xs = r.map row ∧ ∀ v ∈ r, Q v
  | [], _, _ => ⟨[], rfl, fun _ h => (List.not_mem_nil h).elim⟩
  | x :: xs, Q, h => by
    obtain ⟨v, rfl, hv⟩ := h x List.mem_cons_self
    obtain ⟨r, rfl, hr⟩ := all_rows (xs := xs) (Q := Q) fun y hy => h y (List.mem_cons_of_mem _ hy)
    refine ⟨v :: r, rfl, fun u hu => ?_⟩
    rcases List.mem_cons.mp hu with rfl | hu
    · exact hv
    · exact hr u hu
def tS (s : Int × Int) (w h far base : Int) (y : Slot) : Sts := [.ow true (fd s), .fz (.int w), .fz (.int h), .fz (.int far), .fz (.int base), y, .un]
theorem row_run (s : Int × Int) (w h far base : Int) (d : D) (hw : 0 ≤ w) (hw7 : w ≤ 7) (hf : far ≤ 10) (h2 : -1000000000 ≤ base) (h3 : base ≤ 999999991) :
    ∃ r s', ev g__law_table c2__law_table (tS s w h far base (.fz d)) = .ok (.own true (row r), tS s' w h far base (.fz d)) ∧ (r.length = w.toNat ∧ ∀ v ∈ r, -1000000000 ≤ v ∧ v ≤ 1000000000) := by
  have e1 : evI g__law_table (.iRange (.var 1)) (tS s w h far base (.fz d)) = .ok ((List.range w.toNat).map fun k => .int (k : Nat), none, tS s w h far base (.fz d)) := by
    have a1 : w < 2 ^ 62 := by omega
    have a2 : -(2 ^ 62) ≤ w := by omega
    simp -implicitDefEqProofs [Fn.of, ↓R.bind_def, R.b_ok, R.b_exc, R.b_stuck, ex, ev, evs, evI, entry, dats, dat, slotD, primD, resV, imm, immL, noSlot, boolOf, sto, stos, put1_eq, putL, bindTg, nl_un, nl_fz, nl_ow, nl_lk, slotOf, vD, vFull, endOf, outV, ioData, setIo, slotsOf, slotIn, callD, mutL, mAppend, mSetAt, mPop, mClear, atI, ixN, ixD, pIx, pGe, pGt, pLe, pLt, pPow, powOk, pMod, pFdiv, divOk, pAdd, pSub, pMul, mulOk, pNeg, pAbs, pMin2, pMax2, pLen, lenD, pIsa, tyName, R.of, R.calm, seqOf, lock, unlock, wipeC, wipeS, unlocked, List.range, List.range.loop, tS, a1, a2]
    omega
  have e2 : wipeC (tS s w h far base (.fz d)) [6] = some (tS s w h far base (.fz d)) := rfl
  obtain ⟨xs, τ', k1, k2, k3, s', k4⟩ := ev_comp_all (one := true) (cond := .yes) (elt := (.call 1 (.cons (.var 0) (.cons (.var 3) (.cons (.var 4) .nil))))) e1 e2 (fun τ => ∃ s', τ = tS s' w h far base (.fz d)) (fun x => ∃ v, x = .int v ∧ -1000000000 ≤ v ∧ v ≤ 1000000000) (fun x _ τ ⟨s', e⟩ => by
    subst e
    have hi := height_in s' far base hf h2 h3
    have hf2 : far < 1073741824 := by omega
    refine ⟨.fz (.int (height s' far base).1), tS (height s' far base).2 w h far base (.fz d), ?_, ⟨_, rfl⟩, rfl, _, rfl, hi⟩
    simp -implicitDefEqProofs [compStep, Fn.of, ↓R.bind_def, R.b_ok, R.b_exc, R.b_stuck, ex, ev, evs, evI, entry, dats, dat, slotD, primD, resV, imm, immL, noSlot, boolOf, sto, stos, put1_eq, putL, bindTg, nl_un, nl_fz, nl_ow, nl_lk, slotOf, vD, vFull, endOf, outV, ioData, setIo, slotsOf, slotIn, callD, mutL, mAppend, mSetAt, mPop, mClear, atI, ixN, ixD, pIx, pGe, pGt, pLe, pLt, pPow, powOk, pMod, pFdiv, divOk, pAdd, pSub, pMul, mulOk, pNeg, pAbs, pMin2, pMax2, pLen, lenD, pIsa, tyName, R.of, R.calm, seqOf, lock, unlock, wipeC, wipeS, unlocked, List.range, List.range.loop, tS, g__law_table, height_io, height_ar, height_run, hf2]) ⟨s, rfl⟩ (by
      rw [List.length_map, List.length_range, sizeLine_eq]
      omega)
  subst k4
  obtain ⟨r, rfl, hr⟩ := all_ints k3
  exact ⟨r, s', k1, by simpa using k2, hr⟩
theorem rows_run (s : Int × Int) (w h far base : Int) (hw : 2 ≤ w) (hw7 : w ≤ 7) (hh : 2 ≤ h) (hh7 : h ≤ 7) (hf : far ≤ 10) (h2 : -1000000000 ≤ base) (h3 : base ≤ 999999991) :
    ∃ rows s', ev g__law_table c1__law_table (tS s w h far base .un) = .ok (.own true (tab rows), tS s' w h far base .un) ∧ Good rows w.toNat := by
  have e1 : evI g__law_table (.iRange (.var 2)) (tS s w h far base .un) = .ok ((List.range h.toNat).map fun k => .int (k : Nat), none, tS s w h far base .un) := by
    have a1 : h < 2 ^ 62 := by omega
    have a2 : -(2 ^ 62) ≤ h := by omega
    simp -implicitDefEqProofs [Fn.of, ↓R.bind_def, R.b_ok, R.b_exc, R.b_stuck, ex, ev, evs, evI, entry, dats, dat, slotD, primD, resV, imm, immL, noSlot, boolOf, sto, stos, put1_eq, putL, bindTg, nl_un, nl_fz, nl_ow, nl_lk, slotOf, vD, vFull, endOf, outV, ioData, setIo, slotsOf, slotIn, callD, mutL, mAppend, mSetAt, mPop, mClear, atI, ixN, ixD, pIx, pGe, pGt, pLe, pLt, pPow, powOk, pMod, pFdiv, divOk, pAdd, pSub, pMul, mulOk, pNeg, pAbs, pMin2, pMax2, pLen, lenD, pIsa, tyName, R.of, R.calm, seqOf, lock, unlock, wipeC, wipeS, unlocked, List.range, List.range.loop, tS, a1, a2]
    omega
  have e2 : wipeC (tS s w h far base .un) [5] = some (tS s w h far base .un) := rfl
  obtain ⟨xs, τ', k1, k2, k3, s', k4⟩ := ev_comp_all (one := true) (cond := .yes) (elt := c2__law_table) e1 e2 (fun τ => ∃ s', τ = tS s' w h far base .un) (fun x => ∃ v, x = row v ∧ (v.length = w.toNat ∧ ∀ u ∈ v, -1000000000 ≤ u ∧ u ≤ 1000000000)) (fun x _ τ ⟨s', e⟩ => by
    subst e
    obtain ⟨r, s2, q1, q2⟩ := row_run s' w h far base x (by omega) hw7 hf h2 h3
    refine ⟨.own true (row r), tS s2 w h far base .un, ?_, ⟨_, rfl⟩, rfl, r, rfl, q2⟩
    unfold tS at q1
    simp -implicitDefEqProofs [compStep, Fn.of, ↓R.bind_def, R.b_ok, R.b_exc, R.b_stuck, ex, ev, evs, evI, entry, dats, dat, slotD, primD, resV, imm, immL, noSlot, boolOf, sto, stos, put1_eq, putL, bindTg, nl_un, nl_fz, nl_ow, nl_lk, slotOf, vD, vFull, endOf, outV, ioData, setIo, slotsOf, slotIn, callD, mutL, mAppend, mSetAt, mPop, mClear, atI, ixN, ixD, pIx, pGe, pGt, pLe, pLt, pPow, powOk, pMod, pFdiv, divOk, pAdd, pSub, pMul, mulOk, pNeg, pAbs, pMin2, pMax2, pLen, lenD, pIsa, tyName, R.of, R.calm, seqOf, lock, unlock, wipeC, wipeS, unlocked, List.range, List.range.loop, tS, q1]) ⟨s, rfl⟩ (by
      rw [List.length_map, List.length_range, sizeLine_eq]
      omega)
  subst k4
  obtain ⟨r, rfl, hr⟩ := all_rows k3
  have hl : r.length = h.toNat := by simpa using k2
  exact ⟨r, s', k1, ⟨by omega, by omega, by omega, by omega, fun x hx => (hr x hx).1, fun x hx => (hr x hx).2⟩⟩
end Lwk06

namespace Lwk06
open PySem L2 Rg
theorem range0 : List.range 0 = [] := rfl
theorem range1 : List.range 1 = [0] := rfl
theorem pick7 (i : Int) (h0 : 0 ≤ i) (h1 : i < 7) : ∃ far, pIx [.lst [.int 2, .int 3, .int 5, .int 10, .int 2, .int 3, .int 0], .int i] = some (.old (.int far)) ∧ far ≤ 10 := by
  have : i = 0 ∨ i = 1 ∨ i = 2 ∨ i = 3 ∨ i = 4 ∨ i = 5 ∨ i = 6 := by omega
  rcases this with rfl | rfl | rfl | rfl | rfl | rfl | rfl <;> exact ⟨_, rfl, by decide⟩
theorem pick4 (i : Int) (h0 : 0 ≤ i) (h1 : i < 4) : ∃ base, pIx [.lst [.int 0, .int (-3), .int 999999991, .int (-1000000000)], .int i] = some (.old (.int base)) ∧ -1000000000 ≤ base ∧ base ≤ 999999991 := by
  have : i = 0 ∨ i = 1 ∨ i = 2 ∨ i = 3 := by omega
  rcases this with rfl | rfl | rfl | rfl <;> exact ⟨_, rfl, by decide⟩
theorem table_io : f__law_table.io = 1 := rfl
theorem table_ar : f__law_table.ar = 1 := rfl
theorem sz (n : Nat) (h : n ≤ 1000) : n ≤ sizeLine := by rw [sizeLine_eq]; omega
theorem table_run (s : Int × Int) : ∃ rows w s', f__law_table.run [fd s] = .ok (tab rows, [fd s']) ∧ Good rows w := by
  have d1 := draw_lt s 6 (by omega)
  generalize e1 : draw s 6 = r1 at d1
  have d2 := draw_lt r1.2 6 (by omega)
  generalize e2 : draw r1.2 6 = r2 at d2
  have d3 := draw_lt r2.2 7 (by omega)
  generalize e3 : draw r2.2 7 = r3 at d3
  have d4 := draw_lt r3.2 4 (by omega)
  generalize e4 : draw r3.2 4 = r4 at d4
  obtain ⟨far, p1, p2⟩ := pick7 r3.1 d3.1 d3.2
  obtain ⟨base, p3, p4, p5⟩ := pick4 r4.1 d4.1 d4.2
  obtain ⟨rows, s', k1, k2⟩ := rows_run r4.2 (2 + r1.1) (2 + r2.1) far base (by omega) (by omega) (by omega) (by omega) p2 p4 p5
  refine ⟨rows, _, s', ?_, k2⟩
  unfold tS at k1
  simp -implicitDefEqProofs [f__law_table, m__law_table, Fn.of, ↓R.bind_def, R.b_ok, R.b_exc, R.b_stuck, ex, ev, evs, evI, entry, dats, dat, slotD, primD, resV, imm, immL, noSlot, boolOf, sto, stos, put1_eq, putL, bindTg, nl_un, nl_fz, nl_ow, nl_lk, slotOf, vD, vFull, endOf, outV, ioData, setIo, slotsOf, slotIn, callD, mutL, mAppend, mSetAt, mPop, mClear, pGe, pGt, pLe, pLt, pPow, powOk, pMod, pFdiv, divOk, pAdd, pSub, pMul, mulOk, pNeg, pAbs, pMin2, pMax2, pIsa, tyName, R.of, R.calm, seqOf, lock, unlock, wipeC, wipeS, unlocked, range0, range1, g__law_table, draw_io, draw_ar, draw_run, e1, e2, e3, e4, p1, p3, sz]
  simp -implicitDefEqProofs [g__law_table] at k1
  simp -implicitDefEqProofs [k1, Fn.of, ↓R.bind_def, R.b_ok, R.b_exc, R.b_stuck, ex, ev, evs, evI, entry, dats, dat, slotD, primD, resV, imm, immL, noSlot, boolOf, sto, stos, put1_eq, putL, bindTg, nl_un, nl_fz, nl_ow, nl_lk, slotOf, vD, vFull, endOf, outV, ioData, setIo, slotsOf, slotIn, callD, mutL, mAppend, mSetAt, mPop, mClear, pGe, pGt, pLe, pLt, pPow, powOk, pMod, pFdiv, divOk, pAdd, pSub, pMul, mulOk, pNeg, pAbs, pMin2, pMax2, pIsa, tyName, R.of, R.calm, seqOf, lock, unlock, wipeC, wipeS, unlocked, tab, range1]
theorem feed_io : f__law_feed.io = 0 := rfl
theorem feed_ar : f__law_feed.ar = 2 := rfl
theorem feed_run (ns : List Int) (k : Int) (hk : 0 ≤ k) : ∃ s, f__law_feed.run [.scr ns, .int k] = .ok (fd s, []) := by
  by_cases h : ns.length = 0
  · refine ⟨(0, 7919 * k + 1), ?_⟩
    simp -implicitDefEqProofs [f__law_feed, m__law_feed, Fn.of, ↓R.bind_def, R.b_ok, R.b_exc, R.b_stuck, ex, ev, evs, evI, entry, dats, dat, slotD, primD, resV, imm, immL, noSlot, boolOf, sto, stos, put1_eq, putL, bindTg, nl_un, nl_fz, nl_ow, nl_lk, slotOf, vD, vFull, endOf, outV, ioData, setIo, slotsOf, slotIn, callD, mutL, mAppend, mSetAt, mPop, mClear, atI, ixN, ixD, pIx, pGe, pGt, pLe, pLt, pPow, powOk, pMod, pFdiv, divOk, pAdd, pSub, pMul, mulOk, pNeg, pAbs, pMin2, pMax2, pLen, lenD, pIsa, tyName, R.of, R.calm, seqOf, lock, unlock, wipeC, wipeS, unlocked, List.range, List.range.loop, fd, h, sz]
  · have h1 : 0 < (ns.length : Int) := by omega
    have h2 := Int.emod_lt_of_pos k h1
    have h3 := Int.emod_nonneg k (show (ns.length : Int) ≠ 0 by omega)
    have h4 : (k % (ns.length : Int)).toNat < ns.length := by omega
    refine ⟨((if ns[(k % (ns.length : Int)).toNat] < 0 then -ns[(k % (ns.length : Int)).toNat] else ns[(k % (ns.length : Int)).toNat]), 7919 * k + 1), ?_⟩
    have h5 : 0 < ns.length := by omega
    simp -implicitDefEqProofs [f__law_feed, m__law_feed, Fn.of, ↓R.bind_def, R.b_ok, R.b_exc, R.b_stuck, ex, ev, evs, evI, entry, dats, dat, slotD, primD, resV, imm, immL, noSlot, boolOf, sto, stos, put1_eq, putL, bindTg, nl_un, nl_fz, nl_ow, nl_lk, slotOf, vD, vFull, endOf, outV, ioData, setIo, slotsOf, slotIn, callD, mutL, mAppend, mSetAt, mPop, mClear, atI, ixN, ixD, pIx, pGe, pGt, pLe, pLt, pPow, powOk, pMod, pFdiv, divOk, pAdd, pSub, pMul, mulOk, pNeg, pAbs, pMin2, pMax2, pLen, lenD, pIsa, tyName, R.of, R.calm, seqOf, lock, unlock, wipeC, wipeS, unlocked, List.range, List.range.loop, fd, h1, h2, h3, h4, h5, sz]
end Lwk06

namespace Lwk06
open PySem L2 Rg
theorem cut_io : f__law_cut.io = 1 := rfl
theorem cut_ar : f__law_cut.ar = 2 := rfl
theorem cut_run {rows : List (List Int)} {w : Nat} (g : Good rows w) (s : Int × Int) : ∃ c s', f__law_cut.run [fd s, tab rows] = .ok (.int c, [fd s']) := by
  have g2 := g.h2
  have g7 := g.h7
  have d1 := draw_lt s rows.length (by omega)
  generalize e1 : draw s rows.length = r1 at d1
  have hl : (rowAt rows r1.1).length = w := g.wideAt d1.1 d1.2
  have w2 := g.w2
  have w7 := g.w7
  have d2 := draw_lt r1.2 w (by omega)
  generalize e2 : draw r1.2 w = r2 at d2
  have p1 := pIx_tab (rows := rows) d1.1 d1.2
  have p2 := pIx_row (r := rowAt rows r1.1) (i := r2.1) d2.1 (by omega)
  have a1 : (0 : Int) < rows.length := by omega
  have a2 : (rows.length : Int) < 1073741824 := by omega
  have a3 : (0 : Int) < w := by omega
  have a4 : (w : Int) < 1073741824 := by omega
  have a5 : 0 < rows.length := by omega
  have a6 : 0 < w := by omega
  generalize rowAt rows r1.1 = r at hl p1 p2
  refine ⟨valAt r r2.1 - (draw r2.2 2).1, (draw r2.2 2).2, ?_⟩
  simp -implicitDefEqProofs [f__law_cut, m__law_cut, g__law_cut, Fn.of, ↓R.bind_def, R.b_ok, R.b_exc, R.b_stuck, ex, ev, evs, evI, entry, dats, dat, slotD, primD, resV, imm, immL, noSlot, boolOf, sto, stos, put1_eq, putL, bindTg, nl_un, nl_fz, nl_ow, nl_lk, slotOf, vD, vFull, endOf, outV, ioData, setIo, slotsOf, slotIn, callD, mutL, mAppend, mSetAt, mPop, mClear, pGe, pGt, pLe, pLt, pPow, powOk, pMod, pFdiv, divOk, pAdd, pSub, pMul, mulOk, pNeg, pAbs, pMin2, pMax2, pIsa, tyName, R.of, R.calm, seqOf, lock, unlock, wipeC, wipeS, unlocked, range0, range1, draw_io, draw_ar, draw_run, pLen_tab, pLen_row, e1, e2, p1, p2, hl, a1, a2, a3, a4, a5, a6, imm_row]
/-! the law's own list of gates -/
def gt (x y k : Int) : D := .tup [.int x, .int y, .int k]
def hi (rows : List (List Int)) (cut x y : Int) : Bool := decide (cut < atv rows x y)
/-- the gates of the point x, y -/
def cellG (rows : List (List Int)) (w : Nat) (cut : Int) (x y : Nat) : List D :=
  (if x + 1 < w ∧ hi rows cut x y ≠ hi rows cut (x + 1) y then [gt x y 0] else []) ++ (if y + 1 < rows.length ∧ hi rows cut x y ≠ hi rows cut x (y + 1) then [gt x y 1] else [])
theorem cellG_len (rows : List (List Int)) (w : Nat) (cut : Int) (x y : Nat) : (cellG rows w cut x y).length ≤ 2 := by
  unfold cellG
  rw [List.length_append]
  split <;> split <;> simp
theorem gen_len {f : Nat → List D} {m : Nat} (h : ∀ j, (f j).length ≤ m) : ∀ n, ((List.range n).flatMap f).length ≤ m * n
  | 0 => by simp
  | n + 1 => by
    rw [List.range_succ, List.flatMap_append, List.length_append]
    have := gen_len h n
    have := h n
    simp -implicitDefEqProofs only [List.flatMap_cons, List.flatMap_nil, List.append_nil]
    rw [Nat.mul_succ]
    omega
theorem gen_succ {f : Nat → List D} (n : Nat) : (List.range (n + 1)).flatMap f = (List.range n).flatMap f ++ f n := by
  rw [List.range_succ, List.flatMap_append]
  simp
theorem pGt_hi {rows : List (List Int)} {cut x y : Int} : pGt [.int (atv rows x y), .int cut] = some (.old (.bl (hi rows cut x y))) := rfl
theorem pNe_bl (a b : Bool) : pNe [.bl a, .bl b] = some (.old (.bl (a != b))) := by cases a <;> cases b <;> rfl
theorem gbody {rows : List (List Int)} {w : Nat} (g : Good rows w) (cut : Int) (a : List D) (ha : a.length + 2 ≤ 1000) {x y : Nat} (hx : x < w) (hy : y < rows.length) :
    ex g__law_gates 0 b2__law_gates [.fz (tab rows), .fz (.int cut), .ow true (.lst a), .fz (.int x), .fz (.int y)] = .ok (.next [.fz (tab rows), .fz (.int cut), .ow true (.lst (a ++ cellG rows w cut x y)), .fz (.int x), .fz (.int y)]) := by
  have g2 := g.h2
  have p0 := pIx_tab (rows := rows) (i := 0) (by omega) (by omega)
  have l0 : (rowAt rows 0).length = w := g.wideAt (by omega) (by omega)
  have p1 := pIx_tab (rows := rows) (i := (y : Int)) (by omega) (by omega)
  have q1 := ix2 g (x := (x : Int)) (y := (y : Int)) (by omega) (by omega) (by omega) (by omega)
  generalize rowAt rows 0 = r0 at p0 l0
  have z1 : a.length < sizeLine := by rw [sizeLine_eq]; omega
  have z2 : a.length + 1 < sizeLine := by rw [sizeLine_eq]; omega
  have s1 : ex g__law_gates 0 (.ifs (.and (.prim .lt (.cons (.prim .add (.cons (.var 3) (.cons (.cst (.int 1)) .nil))) (.cons (.prim .len (.cons (.prim .ix (.cons (.var 0) (.cons (.cst (.int 0)) .nil))) .nil)) .nil))) (.prim .ne (.cons (.prim .gt (.cons (.prim .ix (.cons (.prim .ix (.cons (.var 0) (.cons (.var 4) .nil))) (.cons (.var 3) .nil))) (.cons (.var 1) .nil))) (.cons (.prim .gt (.cons (.prim .ix (.cons (.prim .ix (.cons (.var 0) (.cons (.var 4) .nil))) (.cons (.prim .add (.cons (.var 3) (.cons (.cst (.int 1)) .nil))) .nil))) (.cons (.var 1) .nil))) .nil))))
        (.seq (.expr (.mut .append 2 (.cons (.tup (.cons (.var 3) (.cons (.var 4) (.cons (.cst (.int 0)) .nil)))) .nil))) .skip) .skip) [.fz (tab rows), .fz (.int cut), .ow true (.lst a), .fz (.int x), .fz (.int y)] = .ok (.next [.fz (tab rows), .fz (.int cut), .ow true (.lst (a ++ (if x + 1 < w ∧ hi rows cut x y ≠ hi rows cut (x + 1) y then [gt x y 0] else []))), .fz (.int x), .fz (.int y)]) := by
    by_cases c1 : x + 1 < w
    · have q2 := ix2 g (x := (x : Int) + 1) (y := (y : Int)) (by omega) (by omega) (by omega) (by omega)
      have c2 : (x : Int) + 1 < w := by omega
      by_cases c3 : hi rows cut x y = hi rows cut (x + 1) y
      · simp -implicitDefEqProofs [Fn.of, ↓R.bind_def, R.b_ok, R.b_exc, R.b_stuck, ex, ev, evs, evI, entry, dats, dat, slotD, primD, resV, imm, immL, noSlot, boolOf, sto, stos, put1_eq, putL, bindTg, nl_un, nl_fz, nl_ow, nl_lk, slotOf, vD, vFull, endOf, outV, ioData, setIo, slotsOf, slotIn, callD, mutL, mAppend, mSetAt, mPop, mClear, pGe, pLe, pLt, pPow, powOk, pMod, pFdiv, divOk, pAdd, pSub, pMul, mulOk, pNeg, pAbs, pMin2, pMax2, pIsa, tyName, R.of, R.calm, seqOf, lock, unlock, wipeC, wipeS, unlocked, p0, p1, pLen_row, l0, c1, c2, c3, q1, q2, pGt_hi, pNe_bl, imm_row]
      · simp -implicitDefEqProofs [Fn.of, ↓R.bind_def, R.b_ok, R.b_exc, R.b_stuck, ex, ev, evs, evI, entry, dats, dat, slotD, primD, resV, imm, immL, noSlot, boolOf, sto, stos, put1_eq, putL, bindTg, nl_un, nl_fz, nl_ow, nl_lk, slotOf, vD, vFull, endOf, outV, ioData, setIo, slotsOf, slotIn, callD, mutL, mAppend, mSetAt, mPop, mClear, pGe, pLe, pLt, pPow, powOk, pMod, pFdiv, divOk, pAdd, pSub, pMul, mulOk, pNeg, pAbs, pMin2, pMax2, pIsa, tyName, R.of, R.calm, seqOf, lock, unlock, wipeC, wipeS, unlocked, p0, p1, pLen_row, l0, c1, c2, c3, q1, q2, pGt_hi, pNe_bl, imm_row, z1, sz, gt]
    · have c2 : ¬ (x : Int) + 1 < w := by omega
      simp -implicitDefEqProofs [Fn.of, ↓R.bind_def, R.b_ok, R.b_exc, R.b_stuck, ex, ev, evs, evI, entry, dats, dat, slotD, primD, resV, imm, immL, noSlot, boolOf, sto, stos, put1_eq, putL, bindTg, nl_un, nl_fz, nl_ow, nl_lk, slotOf, vD, vFull, endOf, outV, ioData, setIo, slotsOf, slotIn, callD, mutL, mAppend, mSetAt, mPop, mClear, pGe, pLe, pLt, pPow, powOk, pMod, pFdiv, divOk, pAdd, pSub, pMul, mulOk, pNeg, pAbs, pMin2, pMax2, pIsa, tyName, R.of, R.calm, seqOf, lock, unlock, wipeC, wipeS, unlocked, p0, p1, pLen_row, l0, c1, c2, imm_row]
  have s2 : ∀ a : List D, a.length < sizeLine → ex g__law_gates 0 (.ifs (.and (.prim .lt (.cons (.prim .add (.cons (.var 4) (.cons (.cst (.int 1)) .nil))) (.cons (.prim .len (.cons (.var 0) .nil)) .nil))) (.prim .ne (.cons (.prim .gt (.cons (.prim .ix (.cons (.prim .ix (.cons (.var 0) (.cons (.var 4) .nil))) (.cons (.var 3) .nil))) (.cons (.var 1) .nil))) (.cons (.prim .gt (.cons (.prim .ix (.cons (.prim .ix (.cons (.var 0) (.cons (.prim .add (.cons (.var 4) (.cons (.cst (.int 1)) .nil))) .nil))) (.cons (.var 3) .nil))) (.cons (.var 1) .nil))) .nil))))
        (.seq (.expr (.mut .append 2 (.cons (.tup (.cons (.var 3) (.cons (.var 4) (.cons (.cst (.int 1)) .nil)))) .nil))) .skip) .skip) [.fz (tab rows), .fz (.int cut), .ow true (.lst a), .fz (.int x), .fz (.int y)] = .ok (.next [.fz (tab rows), .fz (.int cut), .ow true (.lst (a ++ (if y + 1 < rows.length ∧ hi rows cut x y ≠ hi rows cut x (y + 1) then [gt x y 1] else []))), .fz (.int x), .fz (.int y)]) := by
    intro a za
    by_cases c1 : y + 1 < rows.length
    · have p2 := pIx_tab (rows := rows) (i := (y : Int) + 1) (by omega) (by omega)
      have q2 := ix2 g (x := (x : Int)) (y := (y : Int) + 1) (by omega) (by omega) (by omega) (by omega)
      have c2 : (y : Int) + 1 < rows.length := by omega
      by_cases c3 : hi rows cut x y = hi rows cut x (y + 1)
      · simp -implicitDefEqProofs [Fn.of, ↓R.bind_def, R.b_ok, R.b_exc, R.b_stuck, ex, ev, evs, evI, entry, dats, dat, slotD, primD, resV, imm, immL, noSlot, boolOf, sto, stos, put1_eq, putL, bindTg, nl_un, nl_fz, nl_ow, nl_lk, slotOf, vD, vFull, endOf, outV, ioData, setIo, slotsOf, slotIn, callD, mutL, mAppend, mSetAt, mPop, mClear, pGe, pLe, pLt, pPow, powOk, pMod, pFdiv, divOk, pAdd, pSub, pMul, mulOk, pNeg, pAbs, pMin2, pMax2, pIsa, tyName, R.of, R.calm, seqOf, lock, unlock, wipeC, wipeS, unlocked, p2, p1, pLen_tab, c1, c2, c3, q1, q2, pGt_hi, pNe_bl, imm_row]
      · simp -implicitDefEqProofs [Fn.of, ↓R.bind_def, R.b_ok, R.b_exc, R.b_stuck, ex, ev, evs, evI, entry, dats, dat, slotD, primD, resV, imm, immL, noSlot, boolOf, sto, stos, put1_eq, putL, bindTg, nl_un, nl_fz, nl_ow, nl_lk, slotOf, vD, vFull, endOf, outV, ioData, setIo, slotsOf, slotIn, callD, mutL, mAppend, mSetAt, mPop, mClear, pGe, pLe, pLt, pPow, powOk, pMod, pFdiv, divOk, pAdd, pSub, pMul, mulOk, pNeg, pAbs, pMin2, pMax2, pIsa, tyName, R.of, R.calm, seqOf, lock, unlock, wipeC, wipeS, unlocked, p2, p1, pLen_tab, c1, c2, c3, q1, q2, pGt_hi, pNe_bl, imm_row, za, sz, gt]
    · have c2 : ¬ (y : Int) + 1 < rows.length := by omega
      simp -implicitDefEqProofs [Fn.of, ↓R.bind_def, R.b_ok, R.b_exc, R.b_stuck, ex, ev, evs, evI, entry, dats, dat, slotD, primD, resV, imm, immL, noSlot, boolOf, sto, stos, put1_eq, putL, bindTg, nl_un, nl_fz, nl_ow, nl_lk, slotOf, vD, vFull, endOf, outV, ioData, setIo, slotsOf, slotIn, callD, mutL, mAppend, mSetAt, mPop, mClear, pGe, pGt, pLe, pLt, pPow, powOk, pMod, pFdiv, divOk, pAdd, pSub, pMul, mulOk, pNeg, pAbs, pMin2, pMax2, pIsa, tyName, R.of, R.calm, seqOf, lock, unlock, wipeC, wipeS, unlocked, p1, pLen_tab, c1, c2, imm_row]
  unfold b2__law_gates
  rw [ex_seq_next s1, ex_seq_next (s2 _ (by rw [List.length_append]; split <;> simp <;> omega)), ex_skip]
  rw [cellG, List.append_assoc]
end Lwk06

namespace Lwk06
open PySem L2 Rg
def colG (rows : List (List Int)) (w : Nat) (cut : Int) (x : Nat) : List D := (List.range rows.length).flatMap (cellG rows w cut x)
def allG (rows : List (List Int)) (w : Nat) (cut : Int) : List D := (List.range w).flatMap (colG rows w cut)
theorem colG_len {rows : List (List Int)} {w : Nat} (g : Good rows w) (cut : Int) (x : Nat) : (colG rows w cut x).length ≤ 14 := by
  have := gen_len (f := cellG rows w cut x) (m := 2) (cellG_len rows w cut x) rows.length
  have := g.h7
  unfold colG
  omega
theorem col_run {rows : List (List Int)} {w : Nat} (g : Good rows w) (cut : Int) (a : List D) (ha : a.length ≤ 100) {x : Nat} (hx : x < w) (s4 : Slot) (hs : nl s4 = true) :
    ex g__law_gates 0 l2__law_gates [.fz (tab rows), .fz (.int cut), .ow true (.lst a), .fz (.int x), s4] = .ok (.next [.fz (tab rows), .fz (.int cut), .ow true (.lst (a ++ colG rows w cut x)), .fz (.int x), lastS s4 rows.length]) := by
  have g7 := g.h7
  refine ex_for (items := (List.range rows.length).map fun k => .int (k : Nat)) (rng ?_ (by omega)) ?_
  · simp -implicitDefEqProofs [Fn.of, ↓R.bind_def, R.b_ok, R.b_exc, R.b_stuck, ex, ev, evs, evI, entry, dats, dat, slotD, primD, resV, imm, immL, noSlot, boolOf, sto, stos, put1_eq, putL, bindTg, nl_un, nl_fz, nl_ow, nl_lk, slotOf, vD, vFull, endOf, outV, ioData, setIo, slotsOf, slotIn, callD, mutL, mAppend, mSetAt, mPop, mClear, pGe, pGt, pLe, pLt, pPow, powOk, pMod, pFdiv, divOk, pAdd, pSub, pMul, mulOk, pNeg, pAbs, pMin2, pMax2, pIsa, tyName, R.of, R.calm, seqOf, lock, unlock, wipeC, wipeS, unlocked, pLen_tab]
  · have := forGo_range (step := forStep g__law_gates 0 [4] true b2__law_gates) (fun j => [.fz (tab rows), .fz (.int cut), .ow true (.lst (a ++ (List.range j).flatMap (cellG rows w cut x))), .fz (.int x), lastS s4 j]) rows.length fun j hj => by
      have hl := gen_len (f := cellG rows w cut x) (m := 2) (cellG_len rows w cut x) j
      have b := gbody g cut (a ++ (List.range j).flatMap (cellG rows w cut x)) (by rw [List.length_append]; omega) hx hj
      have hn := lastS_nl hs j
      rw [List.append_assoc, ← gen_succ] at b
      simp -implicitDefEqProofs [forStep, bindTg, putL, put1_eq, hn, R.of, ↓R.bind_def, R.b_ok, b, lastS_succ]
    simp -implicitDefEqProofs only [List.range_zero, List.flatMap_nil, List.append_nil, lastS_zero] at this
    exact this
theorem lgates_io : f__law_gates.io = 0 := rfl
theorem lgates_ar : f__law_gates.ar = 2 := rfl
theorem imm_gt (x y k : Int) : imm (gt x y k) = true := rfl
theorem cellG_mem {rows : List (List Int)} {w : Nat} {cut : Int} {x y : Nat} {d : D} (h : d ∈ cellG rows w cut x y) : ∃ k : Int, d = gt x y k ∧ 0 ≤ k ∧ k ≤ 1 := by
  unfold cellG at h
  rcases List.mem_append.mp h with h | h
  · split at h
    · exact ⟨0, List.mem_singleton.mp h, by omega, by omega⟩
    · cases h
  · split at h
    · exact ⟨1, List.mem_singleton.mp h, by omega, by omega⟩
    · cases h
theorem allG_mem {rows : List (List Int)} {w : Nat} {cut : Int} {d : D} (h : d ∈ allG rows w cut) : ∃ x y : Nat, ∃ k : Int, d = gt x y k := by
  obtain ⟨x, _, h⟩ := List.mem_flatMap.mp h
  obtain ⟨y, _, h⟩ := List.mem_flatMap.mp h
  obtain ⟨k, h, _⟩ := cellG_mem h
  exact ⟨x, y, k, h⟩
theorem immL_of {xs : List D} (h : ∀ x ∈ xs, imm x = true) : immL xs = true := by
  induction xs with
  | nil => rfl
  | cons x xs ih =>
    unfold immL
    rw [h x List.mem_cons_self, ih fun y hy => h y (List.mem_cons_of_mem _ hy)]
    rfl
theorem lgates_run {rows : List (List Int)} {w : Nat} (g : Good rows w) (cut : Int) : f__law_gates.run [tab rows, .int cut] = .ok (.lst (allG rows w cut), []) := by
  have g2 := g.h2
  have w7 := g.w7
  have w2 := g.w2
  have p0 := pIx_tab (rows := rows) (i := 0) (by omega) (by omega)
  have l0 : (rowAt rows 0).length = w := g.wideAt (by omega) (by omega)
  generalize rowAt rows 0 = r0 at p0 l0
  have k : ex g__law_gates 0 l1__law_gates [.fz (tab rows), .fz (.int cut), .ow true (.lst []), .un, .un] = .ok (.next [.fz (tab rows), .fz (.int cut), .ow true (.lst (allG rows w cut)), lastS .un w, lastS .un rows.length]) := by
    refine ex_for (items := (List.range w).map fun k => .int (k : Nat)) (rng ?_ (by omega)) ?_
    · simp -implicitDefEqProofs [Fn.of, ↓R.bind_def, R.b_ok, R.b_exc, R.b_stuck, ex, ev, evs, evI, entry, dats, dat, slotD, primD, resV, imm, immL, noSlot, boolOf, sto, stos, put1_eq, putL, bindTg, nl_un, nl_fz, nl_ow, nl_lk, slotOf, vD, vFull, endOf, outV, ioData, setIo, slotsOf, slotIn, callD, mutL, mAppend, mSetAt, mPop, mClear, pGe, pGt, pLe, pLt, pPow, powOk, pMod, pFdiv, divOk, pAdd, pSub, pMul, mulOk, pNeg, pAbs, pMin2, pMax2, pIsa, tyName, R.of, R.calm, seqOf, lock, unlock, wipeC, wipeS, unlocked, pLen_row, p0, l0, imm_row]
    · have := forGo_range (step := forStep g__law_gates 0 [3] true b1__law_gates) (fun j => [.fz (tab rows), .fz (.int cut), .ow true (.lst ((List.range j).flatMap (colG rows w cut))), lastS .un j, prevS rows.length j]) w fun j hj => by
        have hl := gen_len (f := colG rows w cut) (m := 14) (colG_len g cut) j
        have hn := lastS_nl (s := .un) rfl j
        have hs := prevS_nl rows.length j
        have b := col_run g cut ((List.range j).flatMap (colG rows w cut)) (by omega) hj _ hs
        rw [← gen_succ, lastS_pos (s := prevS rows.length j) (t := .un) (by omega)] at b
        simp -implicitDefEqProofs [forStep, bindTg, putL, put1_eq, hn, R.of, ↓R.bind_def, R.b_ok, b1__law_gates, ex, b, prevS_succ, lastS_succ]
      simp -implicitDefEqProofs only [List.range_zero, List.flatMap_nil, prevS_zero, lastS_zero] at this
      rw [prevS_pos (by omega)] at this
      exact this
  simp -implicitDefEqProofs [f__law_gates, m__law_gates, Fn.of, ↓R.bind_def, R.b_ok, R.b_exc, R.b_stuck, ex, ev, evs, evI, entry, dats, dat, slotD, primD, resV, imm, immL, noSlot, boolOf, sto, stos, put1_eq, putL, bindTg, nl_un, nl_fz, nl_ow, nl_lk, slotOf, vD, vFull, endOf, outV, ioData, setIo, slotsOf, slotIn, callD, mutL, mAppend, mSetAt, mPop, mClear, pGe, pGt, pLe, pLt, pPow, powOk, pMod, pFdiv, divOk, pAdd, pSub, pMul, mulOk, pNeg, pAbs, pMin2, pMax2, pIsa, tyName, R.of, R.calm, seqOf, lock, unlock, wipeC, wipeS, unlocked, k, range0, sz]
theorem points_io : f_all_points.io = 0 := rfl
theorem points_ar : f_all_points.ar = 1 := rfl
def pt (x y : Int) : D := .tup [.int x, .int y]
def colP (h x : Nat) : List D := (List.range h).flatMap fun (y : Nat) => [pt x y]
def ptsG (h w : Nat) : List D := (List.range w).flatMap (colP h)
theorem points_run {rows : List (List Int)} {w : Nat} (g : Good rows w) : f_all_points.run [tab rows] = .ok (.lst (ptsG rows.length w), []) := by
  have g2 := g.h2
  have g7 := g.h7
  have w7 := g.w7
  have w2 := g.w2
  have p0 := pIx_tab (rows := rows) (i := 0) (by omega) (by omega)
  have l0 : (rowAt rows 0).length = w := g.wideAt (by omega) (by omega)
  generalize rowAt rows 0 = r0 at p0 l0
  have k2 : ∀ (a : List D) (x : Nat) (s : Slot), a.length ≤ 100 → nl s = true → ex g_all_points 0 l2_all_points [.fz (tab rows), .ow true (.lst a), .fz (.int x), s] = .ok (.next [.fz (tab rows), .ow true (.lst (a ++ colP rows.length x)), .fz (.int x), lastS s rows.length]) := by
    intro a x s ha hs
    refine ex_for (items := (List.range rows.length).map fun k => .int (k : Nat)) (rng ?_ (by omega)) ?_
    · simp -implicitDefEqProofs [Fn.of, ↓R.bind_def, R.b_ok, R.b_exc, R.b_stuck, ex, ev, evs, evI, entry, dats, dat, slotD, primD, resV, imm, immL, noSlot, boolOf, sto, stos, put1_eq, putL, bindTg, nl_un, nl_fz, nl_ow, nl_lk, slotOf, vD, vFull, endOf, outV, ioData, setIo, slotsOf, slotIn, callD, mutL, mAppend, mSetAt, mPop, mClear, pGe, pGt, pLe, pLt, pPow, powOk, pMod, pFdiv, divOk, pAdd, pSub, pMul, mulOk, pNeg, pAbs, pMin2, pMax2, pIsa, tyName, R.of, R.calm, seqOf, lock, unlock, wipeC, wipeS, unlocked, pLen_tab]
    · have := forGo_range (step := forStep g_all_points 0 [3] true b2_all_points) (fun j => [.fz (tab rows), .ow true (.lst (a ++ colP j x)), .fz (.int x), lastS s j]) rows.length fun j hj => by
        have hl := gen_len (f := fun y : Nat => [pt x y]) (m := 1) (fun _ => Nat.le_refl _) j
        have hn := lastS_nl hs j
        have z1 : (a ++ colP j x).length < sizeLine := by
          rw [List.length_append, sizeLine_eq]
          unfold colP
          omega
        show _ = R.ok (Fl.next [.fz (tab rows), .ow true (.lst (a ++ colP (j + 1) x)), .fz (.int x), .fz (.int j)])
        have e : colP (j + 1) x = colP j x ++ [pt x j] := gen_succ j
        rw [e, ← List.append_assoc]
        generalize (a ++ colP j x) = b at z1
        simp -implicitDefEqProofs [forStep, Fn.of, ↓R.bind_def, R.b_ok, R.b_exc, R.b_stuck, ex, ev, evs, evI, entry, dats, dat, slotD, primD, resV, imm, immL, noSlot, boolOf, sto, stos, put1_eq, putL, bindTg, nl_un, nl_fz, nl_ow, nl_lk, slotOf, vD, vFull, endOf, outV, ioData, setIo, slotsOf, slotIn, callD, mutL, mAppend, mSetAt, mPop, mClear, pGe, pGt, pLe, pLt, pPow, powOk, pMod, pFdiv, divOk, pAdd, pSub, pMul, mulOk, pNeg, pAbs, pMin2, pMax2, pIsa, tyName, R.of, R.calm, seqOf, lock, unlock, wipeC, wipeS, unlocked, hn, b2_all_points, z1, sz, pt]
      have e : colP 0 x = [] := rfl
      simp -implicitDefEqProofs only [e, List.append_nil, lastS_zero] at this
      exact this
  have k : ex g_all_points 0 l1_all_points [.fz (tab rows), .ow true (.lst []), .un, .un] = .ok (.next [.fz (tab rows), .ow true (.lst (ptsG rows.length w)), lastS .un w, lastS .un rows.length]) := by
    refine ex_for (items := (List.range w).map fun k => .int (k : Nat)) (rng ?_ (by omega)) ?_
    · simp -implicitDefEqProofs [Fn.of, ↓R.bind_def, R.b_ok, R.b_exc, R.b_stuck, ex, ev, evs, evI, entry, dats, dat, slotD, primD, resV, imm, immL, noSlot, boolOf, sto, stos, put1_eq, putL, bindTg, nl_un, nl_fz, nl_ow, nl_lk, slotOf, vD, vFull, endOf, outV, ioData, setIo, slotsOf, slotIn, callD, mutL, mAppend, mSetAt, mPop, mClear, pGe, pGt, pLe, pLt, pPow, powOk, pMod, pFdiv, divOk, pAdd, pSub, pMul, mulOk, pNeg, pAbs, pMin2, pMax2, pIsa, tyName, R.of, R.calm, seqOf, lock, unlock, wipeC, wipeS, unlocked, pLen_row, p0, l0, imm_row]
    · have := forGo_range (step := forStep g_all_points 0 [2] true b1_all_points) (fun j => [.fz (tab rows), .ow true (.lst ((List.range j).flatMap (colP rows.length))), lastS .un j, prevS rows.length j]) w fun j hj => by
        have hl := gen_len (f := colP rows.length) (m := 7) (fun x => by
          have := gen_len (f := fun y : Nat => [pt x y]) (m := 1) (fun _ => Nat.le_refl _) rows.length
          unfold colP
          omega) j
        have hn := lastS_nl (s := .un) rfl j
        have hs := prevS_nl rows.length j
        have b := k2 ((List.range j).flatMap (colP rows.length)) j _ (by omega) hs
        rw [← gen_succ, lastS_pos (s := prevS rows.length j) (t := .un) (by omega)] at b
        simp -implicitDefEqProofs [forStep, bindTg, putL, put1_eq, hn, R.of, ↓R.bind_def, R.b_ok, b1_all_points, ex, b, prevS_succ, lastS_succ]
      simp -implicitDefEqProofs only [List.range_zero, List.flatMap_nil, prevS_zero, lastS_zero] at this
      rw [prevS_pos (by omega)] at this
      exact this
  simp -implicitDefEqProofs [f_all_points, m_all_points, Fn.of, ↓R.bind_def, R.b_ok, R.b_exc, R.b_stuck, ex, ev, evs, evI, entry, dats, dat, slotD, primD, resV, imm, immL, noSlot, boolOf, sto, stos, put1_eq, putL, bindTg, nl_un, nl_fz, nl_ow, nl_lk, slotOf, vD, vFull, endOf, outV, ioData, setIo, slotsOf, slotIn, callD, mutL, mAppend, mSetAt, mPop, mClear, pGe, pGt, pLe, pLt, pPow, powOk, pMod, pFdiv, divOk, pAdd, pSub, pMul, mulOk, pNeg, pAbs, pMin2, pMax2, pIsa, tyName, R.of, R.calm, seqOf, lock, unlock, wipeC, wipeS, unlocked, k, range0, sz]
end Lwk06

namespace Lwk06
open PySem L2 Rg
theorem gpts_io : f_gate_points.io = 0 := rfl
theorem gpts_ar : f_gate_points.ar = 1 := rfl
theorem gpts0_run (x y : Int) : f_gate_points.run [gt x y 0] = .ok (.tup [pt x y, pt (x + 1) y], []) := by
  simp -implicitDefEqProofs [f_gate_points, m_gate_points, Fn.of, ↓R.bind_def, R.b_ok, R.b_exc, R.b_stuck, ex, ev, evs, evI, entry, dats, dat, slotD, primD, resV, imm, immL, noSlot, boolOf, sto, stos, put1_eq, putL, bindTg, nl_un, nl_fz, nl_ow, nl_lk, slotOf, vD, vFull, endOf, outV, ioData, setIo, slotsOf, slotIn, callD, mutL, mAppend, mSetAt, mPop, mClear, atI, ixN, ixD, pIx, pGe, pGt, pLe, pLt, pPow, powOk, pMod, pFdiv, divOk, pAdd, pSub, pMul, mulOk, pNeg, pAbs, pMin2, pMax2, pLen, lenD, pIsa, tyName, R.of, R.calm, seqOf, lock, unlock, wipeC, wipeS, unlocked, List.range, List.range.loop, gt, pt, pEq, eqP, sz]
theorem gpts1_run (x y : Int) : f_gate_points.run [gt x y 1] = .ok (.tup [pt x y, pt x (y + 1)], []) := by
  simp -implicitDefEqProofs [f_gate_points, m_gate_points, Fn.of, ↓R.bind_def, R.b_ok, R.b_exc, R.b_stuck, ex, ev, evs, evI, entry, dats, dat, slotD, primD, resV, imm, immL, noSlot, boolOf, sto, stos, put1_eq, putL, bindTg, nl_un, nl_fz, nl_ow, nl_lk, slotOf, vD, vFull, endOf, outV, ioData, setIo, slotsOf, slotIn, callD, mutL, mAppend, mSetAt, mPop, mClear, atI, ixN, ixD, pIx, pGe, pGt, pLe, pLt, pPow, powOk, pMod, pFdiv, divOk, pAdd, pSub, pMul, mulOk, pNeg, pAbs, pMin2, pMax2, pLen, lenD, pIsa, tyName, R.of, R.calm, seqOf, lock, unlock, wipeC, wipeS, unlocked, List.range, List.range.loop, gt, pt, pEq, eqP, sz]
theorem has_io : f_has_point.io = 0 := rfl
theorem has_ar : f_has_point.ar = 3 := rfl
theorem has_run {rows : List (List Int)} {w : Nat} (g : Good rows w) (x y : Int) : f_has_point.run [tab rows, .int x, .int y] = .ok (.bl (decide (0 ≤ x ∧ x < w ∧ 0 ≤ y ∧ y < rows.length)), []) := by
  have g2 := g.h2
  have p0 := pIx_tab (rows := rows) (i := 0) (by omega) (by omega)
  have l0 : (rowAt rows 0).length = w := g.wideAt (by omega) (by omega)
  generalize rowAt rows 0 = r0 at p0 l0
  by_cases c1 : 0 ≤ x
  · by_cases c2 : x < w
    · by_cases c3 : 0 ≤ y
      · simp -implicitDefEqProofs [f_has_point, m_has_point, Fn.of, ↓R.bind_def, R.b_ok, R.b_exc, R.b_stuck, ex, ev, evs, evI, entry, dats, dat, slotD, primD, resV, imm, immL, noSlot, boolOf, sto, stos, put1_eq, putL, bindTg, nl_un, nl_fz, nl_ow, nl_lk, slotOf, vD, vFull, endOf, outV, ioData, setIo, slotsOf, slotIn, callD, mutL, mAppend, mSetAt, mPop, mClear, pGe, pGt, pLe, pLt, pPow, powOk, pMod, pFdiv, divOk, pAdd, pSub, pMul, mulOk, pNeg, pAbs, pMin2, pMax2, pIsa, tyName, R.of, R.calm, seqOf, lock, unlock, wipeC, wipeS, unlocked, range0, p0, l0, pLen_row, pLen_tab, imm_row, c1, c2, c3]
      · simp -implicitDefEqProofs [f_has_point, m_has_point, Fn.of, ↓R.bind_def, R.b_ok, R.b_exc, R.b_stuck, ex, ev, evs, evI, entry, dats, dat, slotD, primD, resV, imm, immL, noSlot, boolOf, sto, stos, put1_eq, putL, bindTg, nl_un, nl_fz, nl_ow, nl_lk, slotOf, vD, vFull, endOf, outV, ioData, setIo, slotsOf, slotIn, callD, mutL, mAppend, mSetAt, mPop, mClear, pGe, pGt, pLe, pLt, pPow, powOk, pMod, pFdiv, divOk, pAdd, pSub, pMul, mulOk, pNeg, pAbs, pMin2, pMax2, pIsa, tyName, R.of, R.calm, seqOf, lock, unlock, wipeC, wipeS, unlocked, range0, p0, l0, pLen_row, pLen_tab, imm_row, c1, c2, c3]
    · simp -implicitDefEqProofs [f_has_point, m_has_point, Fn.of, ↓R.bind_def, R.b_ok, R.b_exc, R.b_stuck, ex, ev, evs, evI, entry, dats, dat, slotD, primD, resV, imm, immL, noSlot, boolOf, sto, stos, put1_eq, putL, bindTg, nl_un, nl_fz, nl_ow, nl_lk, slotOf, vD, vFull, endOf, outV, ioData, setIo, slotsOf, slotIn, callD, mutL, mAppend, mSetAt, mPop, mClear, pGe, pGt, pLe, pLt, pPow, powOk, pMod, pFdiv, divOk, pAdd, pSub, pMul, mulOk, pNeg, pAbs, pMin2, pMax2, pIsa, tyName, R.of, R.calm, seqOf, lock, unlock, wipeC, wipeS, unlocked, range0, p0, l0, pLen_row, pLen_tab, imm_row, c1, c2]
  · simp -implicitDefEqProofs [f_has_point, m_has_point, Fn.of, ↓R.bind_def, R.b_ok, R.b_exc, R.b_stuck, ex, ev, evs, evI, entry, dats, dat, slotD, primD, resV, imm, immL, noSlot, boolOf, sto, stos, put1_eq, putL, bindTg, nl_un, nl_fz, nl_ow, nl_lk, slotOf, vD, vFull, endOf, outV, ioData, setIo, slotsOf, slotIn, callD, mutL, mAppend, mSetAt, mPop, mClear, pGe, pGt, pLe, pLt, pPow, powOk, pMod, pFdiv, divOk, pAdd, pSub, pMul, mulOk, pNeg, pAbs, pMin2, pMax2, pIsa, tyName, R.of, R.calm, seqOf, lock, unlock, wipeC, wipeS, unlocked, range0, p0, l0, pLen_row, pLen_tab, imm_row, c1]
theorem high_io : f_high_at.io = 0 := rfl
theorem high_ar : f_high_at.ar = 3 := rfl
theorem ixPt0 (x y : Int) : pIx [pt x y, .int 0] = some (.old (.int x)) := rfl
theorem ixPt1 (x y : Int) : pIx [pt x y, .int 1] = some (.old (.int y)) := rfl
theorem ixGt2 (x y k : Int) : pIx [gt x y k, .int 2] = some (.old (.int k)) := rfl
theorem imm_pt (x y : Int) : imm (pt x y) = true := rfl
theorem high_run {rows : List (List Int)} {w : Nat} (g : Good rows w) (cut : Int) {x y : Int} (hx : 0 ≤ x) (hx2 : x < w) (hy : 0 ≤ y) (hy2 : y < rows.length) : f_high_at.run [tab rows, .int cut, pt x y] = .ok (.bl (hi rows cut x y), []) := by
  have p1 := pIx_tab (rows := rows) hy hy2
  have q1 := ix2 g hx hx2 hy hy2
  simp -implicitDefEqProofs [f_high_at, m_high_at, Fn.of, ↓R.bind_def, R.b_ok, R.b_exc, R.b_stuck, ex, ev, evs, evI, entry, dats, dat, slotD, primD, resV, imm, immL, noSlot, boolOf, sto, stos, put1_eq, putL, bindTg, nl_un, nl_fz, nl_ow, nl_lk, slotOf, vD, vFull, endOf, outV, ioData, setIo, slotsOf, slotIn, callD, mutL, mAppend, mSetAt, mPop, mClear, pGe, pLe, pLt, pPow, powOk, pMod, pFdiv, divOk, pAdd, pSub, pMul, mulOk, pNeg, pAbs, pMin2, pMax2, pIsa, tyName, R.of, R.calm, seqOf, lock, unlock, wipeC, wipeS, unlocked, range0, ixPt0, ixPt1, p1, q1, pGt_hi, imm_row]
theorem isg_io : f_is_gate.io = 0 := rfl
theorem isg_ar : f_is_gate.ar = 2 := rfl
theorem isg0_run {rows : List (List Int)} {w : Nat} (g : Good rows w) {x y : Nat} (hx : x < w) (hy : y < rows.length) : f_is_gate.run [tab rows, gt x y 0] = .ok (.bl (decide (x + 1 < w)), []) := by
  have h1 := has_run g x y
  have h2 := has_run g ((x : Int) + 1) y
  have e1 : decide ((0 : Int) ≤ x ∧ (x : Int) < w ∧ (0 : Int) ≤ y ∧ (y : Int) < rows.length) = true := decide_eq_true ⟨by omega, by omega, by omega, by omega⟩
  have e2 : decide ((0 : Int) ≤ (x : Int) + 1 ∧ (x : Int) + 1 < w ∧ (0 : Int) ≤ y ∧ (y : Int) < rows.length) = decide (x + 1 < w) := by
    rw [decide_eq_decide]
    omega
  rw [e1] at h1
  rw [e2] at h2
  simp -implicitDefEqProofs only [f_is_gate, m_is_gate, g_is_gate, Fn.of, ↓R.bind_def, R.b_ok, R.b_exc, R.b_stuck, ex, ev, evs, evI, entry, dats, dat, slotD, primD, resV, imm, immL, noSlot, boolOf, sto, stos, put1_eq, putL, bindTg, nl_un, nl_fz, nl_ow, nl_lk, slotOf, vD, vFull, endOf, outV, ioData, setIo, slotsOf, slotIn, callD, mutL, mAppend, mSetAt, mPop, mClear, pGe, pGt, pLe, pLt, pPow, powOk, pMod, pFdiv, divOk, pAdd, pSub, pMul, mulOk, pNeg, pAbs, pMin2, pMax2, pIsa, tyName, R.of, R.calm, seqOf, lock, unlock, wipeC, wipeS, unlocked]
  simp -implicitDefEqProofs [Fn.of, ↓R.bind_def, R.b_ok, R.b_exc, R.b_stuck, ex, ev, evs, evI, entry, dats, dat, slotD, primD, resV, imm, immL, noSlot, boolOf, sto, stos, put1_eq, putL, bindTg, nl_un, nl_fz, nl_ow, nl_lk, slotOf, vD, vFull, endOf, outV, ioData, setIo, slotsOf, slotIn, callD, mutL, mAppend, mSetAt, mPop, mClear, pGe, pGt, pLe, pLt, pPow, powOk, pMod, pFdiv, divOk, pAdd, pSub, pMul, mulOk, pNeg, pAbs, pMin2, pMax2, pIsa, tyName, R.of, R.calm, seqOf, lock, unlock, wipeC, wipeS, unlocked, ixGt2, pNe, eqP, gpts_io, gpts_ar, gpts0_run, has_io, has_ar, ixPt0, ixPt1, imm_pt, h1, h2, range0]
theorem isg1_run {rows : List (List Int)} {w : Nat} (g : Good rows w) {x y : Nat} (hx : x < w) (hy : y < rows.length) : f_is_gate.run [tab rows, gt x y 1] = .ok (.bl (decide (y + 1 < rows.length)), []) := by
  have h1 := has_run g x y
  have h2 := has_run g x ((y : Int) + 1)
  have e1 : decide ((0 : Int) ≤ x ∧ (x : Int) < w ∧ (0 : Int) ≤ y ∧ (y : Int) < rows.length) = true := decide_eq_true ⟨by omega, by omega, by omega, by omega⟩
  have e2 : decide ((0 : Int) ≤ (x : Int) ∧ (x : Int) < w ∧ (0 : Int) ≤ (y : Int) + 1 ∧ (y : Int) + 1 < rows.length) = decide (y + 1 < rows.length) := by
    rw [decide_eq_decide]
    omega
  rw [e1] at h1
  rw [e2] at h2
  simp -implicitDefEqProofs only [f_is_gate, m_is_gate, g_is_gate, Fn.of, ↓R.bind_def, R.b_ok, R.b_exc, R.b_stuck, ex, ev, evs, evI, entry, dats, dat, slotD, primD, resV, imm, immL, noSlot, boolOf, sto, stos, put1_eq, putL, bindTg, nl_un, nl_fz, nl_ow, nl_lk, slotOf, vD, vFull, endOf, outV, ioData, setIo, slotsOf, slotIn, callD, mutL, mAppend, mSetAt, mPop, mClear, pGe, pGt, pLe, pLt, pPow, powOk, pMod, pFdiv, divOk, pAdd, pSub, pMul, mulOk, pNeg, pAbs, pMin2, pMax2, pIsa, tyName, R.of, R.calm, seqOf, lock, unlock, wipeC, wipeS, unlocked]
  simp -implicitDefEqProofs [Fn.of, ↓R.bind_def, R.b_ok, R.b_exc, R.b_stuck, ex, ev, evs, evI, entry, dats, dat, slotD, primD, resV, imm, immL, noSlot, boolOf, sto, stos, put1_eq, putL, bindTg, nl_un, nl_fz, nl_ow, nl_lk, slotOf, vD, vFull, endOf, outV, ioData, setIo, slotsOf, slotIn, callD, mutL, mAppend, mSetAt, mPop, mClear, pGe, pGt, pLe, pLt, pPow, powOk, pMod, pFdiv, divOk, pAdd, pSub, pMul, mulOk, pNeg, pAbs, pMin2, pMax2, pIsa, tyName, R.of, R.calm, seqOf, lock, unlock, wipeC, wipeS, unlocked, ixGt2, pNe, eqP, gpts_io, gpts_ar, gpts1_run, has_io, has_ar, ixPt0, ixPt1, imm_pt, h1, h2, range0]
theorem opn_io : f_is_open.io = 0 := rfl
theorem opn_ar : f_is_open.ar = 3 := rfl
theorem opn0_run {rows : List (List Int)} {w : Nat} (g : Good rows w) (cut : Int) {x y : Nat} (hx : x < w) (hy : y < rows.length) : f_is_open.run [tab rows, .int cut, gt x y 0] = .ok (.bl (decide (x + 1 < w ∧ hi rows cut x y ≠ hi rows cut (x + 1) y)), []) := by
  have h1 := isg0_run g hx hy
  have h2 := high_run g cut (x := x) (y := y) (by omega) (by omega) (by omega) (by omega)
  by_cases c : x + 1 < w
  · have h3 := high_run g cut (x := (x : Int) + 1) (y := y) (by omega) (by omega) (by omega) (by omega)
    rw [decide_eq_true c] at h1
    generalize hi rows cut x y = p at h2 ⊢
    generalize hi rows cut (x + 1) y = q at h3 ⊢
    cases p <;> cases q <;> simp -implicitDefEqProofs [f_is_open, m_is_open, g_is_open, Fn.of, ↓R.bind_def, R.b_ok, R.b_exc, R.b_stuck, ex, ev, evs, evI, entry, dats, dat, slotD, primD, resV, imm, immL, noSlot, boolOf, sto, stos, put1_eq, putL, bindTg, nl_un, nl_fz, nl_ow, nl_lk, slotOf, vD, vFull, endOf, outV, ioData, setIo, slotsOf, slotIn, callD, mutL, mAppend, mSetAt, mPop, mClear, pGe, pGt, pLe, pLt, pPow, powOk, pMod, pFdiv, divOk, pAdd, pSub, pMul, mulOk, pNeg, pAbs, pMin2, pMax2, pIsa, tyName, R.of, R.calm, seqOf, lock, unlock, wipeC, wipeS, unlocked, isg_io, isg_ar, h1, h2, h3, c, gpts_io, gpts_ar, gpts0_run, high_io, high_ar, pNe_bl, imm_pt, range0]
  · rw [decide_eq_false c] at h1
    simp -implicitDefEqProofs [f_is_open, m_is_open, g_is_open, Fn.of, ↓R.bind_def, R.b_ok, R.b_exc, R.b_stuck, ex, ev, evs, evI, entry, dats, dat, slotD, primD, resV, imm, immL, noSlot, boolOf, sto, stos, put1_eq, putL, bindTg, nl_un, nl_fz, nl_ow, nl_lk, slotOf, vD, vFull, endOf, outV, ioData, setIo, slotsOf, slotIn, callD, mutL, mAppend, mSetAt, mPop, mClear, pGe, pGt, pLe, pLt, pPow, powOk, pMod, pFdiv, divOk, pAdd, pSub, pMul, mulOk, pNeg, pAbs, pMin2, pMax2, pIsa, tyName, R.of, R.calm, seqOf, lock, unlock, wipeC, wipeS, unlocked, isg_io, isg_ar, h1, c, range0]
theorem opn1_run {rows : List (List Int)} {w : Nat} (g : Good rows w) (cut : Int) {x y : Nat} (hx : x < w) (hy : y < rows.length) : f_is_open.run [tab rows, .int cut, gt x y 1] = .ok (.bl (decide (y + 1 < rows.length ∧ hi rows cut x y ≠ hi rows cut x (y + 1))), []) := by
  have h1 := isg1_run g hx hy
  have h2 := high_run g cut (x := x) (y := y) (by omega) (by omega) (by omega) (by omega)
  by_cases c : y + 1 < rows.length
  · have h3 := high_run g cut (x := (x : Int)) (y := (y : Int) + 1) (by omega) (by omega) (by omega) (by omega)
    rw [decide_eq_true c] at h1
    generalize hi rows cut x y = p at h2 ⊢
    generalize hi rows cut x (y + 1) = q at h3 ⊢
    cases p <;> cases q <;> simp -implicitDefEqProofs [f_is_open, m_is_open, g_is_open, Fn.of, ↓R.bind_def, R.b_ok, R.b_exc, R.b_stuck, ex, ev, evs, evI, entry, dats, dat, slotD, primD, resV, imm, immL, noSlot, boolOf, sto, stos, put1_eq, putL, bindTg, nl_un, nl_fz, nl_ow, nl_lk, slotOf, vD, vFull, endOf, outV, ioData, setIo, slotsOf, slotIn, callD, mutL, mAppend, mSetAt, mPop, mClear, pGe, pGt, pLe, pLt, pPow, powOk, pMod, pFdiv, divOk, pAdd, pSub, pMul, mulOk, pNeg, pAbs, pMin2, pMax2, pIsa, tyName, R.of, R.calm, seqOf, lock, unlock, wipeC, wipeS, unlocked, isg_io, isg_ar, h1, h2, h3, c, gpts_io, gpts_ar, gpts1_run, high_io, high_ar, pNe_bl, imm_pt, range0]
  · rw [decide_eq_false c] at h1
    simp -implicitDefEqProofs [f_is_open, m_is_open, g_is_open, Fn.of, ↓R.bind_def, R.b_ok, R.b_exc, R.b_stuck, ex, ev, evs, evI, entry, dats, dat, slotD, primD, resV, imm, immL, noSlot, boolOf, sto, stos, put1_eq, putL, bindTg, nl_un, nl_fz, nl_ow, nl_lk, slotOf, vD, vFull, endOf, outV, ioData, setIo, slotsOf, slotIn, callD, mutL, mAppend, mSetAt, mPop, mClear, pGe, pGt, pLe, pLt, pPow, powOk, pMod, pFdiv, divOk, pAdd, pSub, pMul, mulOk, pNeg, pAbs, pMin2, pMax2, pIsa, tyName, R.of, R.calm, seqOf, lock, unlock, wipeC, wipeS, unlocked, isg_io, isg_ar, h1, c, range0]
end Lwk06

namespace Lwk06
open PySem L2 Rg
theorem ogates_io : f_open_gates.io = 0 := rfl
theorem ogates_ar : f_open_gates.ar = 2 := rfl
/-- one point's turn -/
theorem obody {rows : List (List Int)} {w : Nat} (g : Good rows w) (cut : Int) (a : List D) (ha : a.length + 2 ≤ 1000) {x y : Nat} (hx : x < w) (hy : y < rows.length) (s5 : Slot) (hs : nl s5 = true) :
    ex g_open_gates 0 l2_open_gates [.fz (tab rows), .fz (.int cut), .ow true (.lst a), .fz (.int x), .fz (.int y), s5] = .ok (.next [.fz (tab rows), .fz (.int cut), .ow true (.lst (a ++ cellG rows w cut x y)), .fz (.int x), .fz (.int y), .fz (.int 1)]) := by
  have o0 := opn0_run g cut hx hy
  have o1 := opn1_run g cut hx hy
  unfold gt at o0 o1
  have z1 : a.length < sizeLine := by rw [sizeLine_eq]; omega
  have z2 : a.length + 1 < sizeLine := by rw [sizeLine_eq]; omega
  have r : evI g_open_gates (.iRange (.cst (.int 2))) [.fz (tab rows), .fz (.int cut), .ow true (.lst a), .fz (.int x), .fz (.int y), s5] = .ok ((List.range 2).map fun k => .int (k : Nat), none, [.fz (tab rows), .fz (.int cut), .ow true (.lst a), .fz (.int x), .fz (.int y), s5]) := rng (n := 2) (by simp -implicitDefEqProofs [ev]) (by omega)
  refine ex_for r ?_
  have e2 : (List.range 2).map (fun k => D.int (k : Nat)) = [.int 0, .int 1] := rfl
  rw [e2]
  unfold cellG gt
  by_cases c0 : x + 1 < w ∧ hi rows cut x y ≠ hi rows cut (x + 1) y
  · rw [decide_eq_true c0] at o0
    rw [if_pos c0]
    by_cases c1 : y + 1 < rows.length ∧ hi rows cut x y ≠ hi rows cut x (y + 1)
    · rw [decide_eq_true c1] at o1
      rw [if_pos c1]
      simp -implicitDefEqProofs [forGo, forStep, Fn.of, ↓R.bind_def, R.b_ok, R.b_exc, R.b_stuck, ex, ev, evs, evI, entry, dats, dat, slotD, primD, resV, imm, immL, noSlot, boolOf, sto, stos, put1_eq, putL, bindTg, nl_un, nl_fz, nl_ow, nl_lk, slotOf, vD, vFull, endOf, outV, ioData, setIo, slotsOf, slotIn, callD, mutL, mAppend, mSetAt, mPop, mClear, pGe, pGt, pLe, pLt, pPow, powOk, pMod, pFdiv, divOk, pAdd, pSub, pMul, mulOk, pNeg, pAbs, pMin2, pMax2, pIsa, tyName, R.of, R.calm, seqOf, lock, unlock, wipeC, wipeS, unlocked, hs, b2_open_gates, g_open_gates, opn_io, opn_ar, o0, o1, z1, z2, sz]
    · rw [decide_eq_false c1] at o1
      rw [if_neg c1]
      simp -implicitDefEqProofs [forGo, forStep, Fn.of, ↓R.bind_def, R.b_ok, R.b_exc, R.b_stuck, ex, ev, evs, evI, entry, dats, dat, slotD, primD, resV, imm, immL, noSlot, boolOf, sto, stos, put1_eq, putL, bindTg, nl_un, nl_fz, nl_ow, nl_lk, slotOf, vD, vFull, endOf, outV, ioData, setIo, slotsOf, slotIn, callD, mutL, mAppend, mSetAt, mPop, mClear, pGe, pGt, pLe, pLt, pPow, powOk, pMod, pFdiv, divOk, pAdd, pSub, pMul, mulOk, pNeg, pAbs, pMin2, pMax2, pIsa, tyName, R.of, R.calm, seqOf, lock, unlock, wipeC, wipeS, unlocked, hs, b2_open_gates, g_open_gates, opn_io, opn_ar, o0, o1, z1, sz]
  · rw [decide_eq_false c0] at o0
    rw [if_neg c0]
    by_cases c1 : y + 1 < rows.length ∧ hi rows cut x y ≠ hi rows cut x (y + 1)
    · rw [decide_eq_true c1] at o1
      rw [if_pos c1]
      simp -implicitDefEqProofs [forGo, forStep, Fn.of, ↓R.bind_def, R.b_ok, R.b_exc, R.b_stuck, ex, ev, evs, evI, entry, dats, dat, slotD, primD, resV, imm, immL, noSlot, boolOf, sto, stos, put1_eq, putL, bindTg, nl_un, nl_fz, nl_ow, nl_lk, slotOf, vD, vFull, endOf, outV, ioData, setIo, slotsOf, slotIn, callD, mutL, mAppend, mSetAt, mPop, mClear, pGe, pGt, pLe, pLt, pPow, powOk, pMod, pFdiv, divOk, pAdd, pSub, pMul, mulOk, pNeg, pAbs, pMin2, pMax2, pIsa, tyName, R.of, R.calm, seqOf, lock, unlock, wipeC, wipeS, unlocked, hs, b2_open_gates, g_open_gates, opn_io, opn_ar, o0, o1, z1, sz]
    · rw [decide_eq_false c1] at o1
      rw [if_neg c1]
      simp -implicitDefEqProofs [forGo, forStep, Fn.of, ↓R.bind_def, R.b_ok, R.b_exc, R.b_stuck, ex, ev, evs, evI, entry, dats, dat, slotD, primD, resV, imm, immL, noSlot, boolOf, sto, stos, put1_eq, putL, bindTg, nl_un, nl_fz, nl_ow, nl_lk, slotOf, vD, vFull, endOf, outV, ioData, setIo, slotsOf, slotIn, callD, mutL, mAppend, mSetAt, mPop, mClear, pGe, pGt, pLe, pLt, pPow, powOk, pMod, pFdiv, divOk, pAdd, pSub, pMul, mulOk, pNeg, pAbs, pMin2, pMax2, pIsa, tyName, R.of, R.calm, seqOf, lock, unlock, wipeC, wipeS, unlocked, hs, b2_open_gates, g_open_gates, opn_io, opn_ar, o0, o1, sz]
/-- a loop over a list that is made part by part -/
theorem forGo_append {step : Sts → D → R Fl} {xs ys : List D} {τ τ' : Sts} (h : forGo step xs τ = .ok (.next τ')) : forGo step (xs ++ ys) τ = forGo step ys τ' := by
  induction xs generalizing τ with
  | nil =>
    simp -implicitDefEqProofs only [forGo] at h
    cases h
    rfl
  | cons x xs ih =>
    simp -implicitDefEqProofs only [List.cons_append, forGo] at h ⊢
    cases e : step τ x with
    | ok f =>
      rw [e] at h
      simp -implicitDefEqProofs only [R.bind_ok] at h ⊢
      cases f with
      | next t => exact ih h
      | ret v t => cases h
    | exc c fs => rw [e] at h; cases h
    | stuck => rw [e] at h; cases h
theorem forGo_gen {step : Sts → D → R Fl} (f : Nat → List D) (st : Nat → Sts) : ∀ n, (∀ j, j < n → forGo step (f j) (st j) = .ok (.next (st (j + 1)))) → forGo step ((List.range n).flatMap f) (st 0) = .ok (.next (st n))
  | 0, _ => rfl
  | n + 1, h => by
    rw [gen_succ, forGo_append (forGo_gen f st n fun j hj => h j (by omega))]
    exact h n (by omega)
/-- the slots of open_gates: a the list, then x, y, way -/
def oS (rows : List (List Int)) (cut : Int) (a : List D) (s3 s4 s5 : Slot) : Sts := [.fz (tab rows), .fz (.int cut), .ow true (.lst a), s3, s4, s5]
theorem ogates_run {rows : List (List Int)} {w : Nat} (g : Good rows w) (cut : Int) : f_open_gates.run [tab rows, .int cut] = .ok (.lst (allG rows w cut), []) := by
  have g2 := g.h2
  have g7 := g.h7
  have w2 := g.w2
  have w7 := g.w7
  have pr := points_run g
  have hil : immL (ptsG rows.length w) = true := immL_of fun d hd => by
    obtain ⟨x, _, hd⟩ := List.mem_flatMap.mp hd
    obtain ⟨y, _, hd⟩ := List.mem_flatMap.mp hd
    rw [List.mem_singleton.mp hd]
    rfl
  have step : ∀ (a : List D) (x y : Nat) (s3 s4 s5 : Slot), a.length + 2 ≤ 1000 → x < w → y < rows.length → nl s3 = true → nl s4 = true → nl s5 = true →
      forStep g_open_gates 0 [3, 4] false b1_open_gates (oS rows cut a s3 s4 s5) (pt x y) = .ok (.next (oS rows cut (a ++ cellG rows w cut x y) (.fz (.int x)) (.fz (.int y)) (.fz (.int 1)))) := by
    intro a x y s3 s4 s5 ha hx hy h3 h4 h5
    have b := obody g cut a ha hx hy s5 h5
    unfold oS pt
    simp -implicitDefEqProofs [forStep, bindTg, putL, put1_eq, h3, h4, h5, R.of, ↓R.bind_def, R.b_ok, b1_open_gates, ex, b]
  have k : ex g_open_gates 0 l1_open_gates [.fz (tab rows), .fz (.int cut), .ow true (.lst []), .un, .un, .un] = .ok (.next (oS rows cut (allG rows w cut) (lastS .un w) (prevS rows.length w) (if w = 0 then .un else .fz (.int 1)))) := by
    have ri : evI g_open_gates (.iSeq (.call 0 (.cons (.var 0) .nil))) [.fz (tab rows), .fz (.int cut), .ow true (.lst []), .un, .un, .un] = .ok (ptsG rows.length w, none, [.fz (tab rows), .fz (.int cut), .ow true (.lst []), .un, .un, .un]) := by
      simp -implicitDefEqProofs [Fn.of, ↓R.bind_def, R.b_ok, R.b_exc, R.b_stuck, ex, ev, evs, evI, entry, dats, dat, slotD, primD, resV, imm, immL, noSlot, boolOf, sto, stos, put1_eq, putL, bindTg, nl_un, nl_fz, nl_ow, nl_lk, slotOf, vD, vFull, endOf, outV, ioData, setIo, slotsOf, slotIn, callD, mutL, mAppend, mSetAt, mPop, mClear, pGe, pGt, pLe, pLt, pPow, powOk, pMod, pFdiv, divOk, pAdd, pSub, pMul, mulOk, pNeg, pAbs, pMin2, pMax2, pIsa, tyName, R.of, R.calm, seqOf, lock, unlock, wipeC, wipeS, unlocked, g_open_gates, points_io, points_ar, pr]
    refine ex_for ri ?_
    have := forGo_gen (step := forStep g_open_gates 0 [3, 4] false b1_open_gates) (colP rows.length) (fun j => oS rows cut ((List.range j).flatMap (colG rows w cut)) (lastS .un j) (prevS rows.length j) (if j = 0 then .un else .fz (.int 1))) w fun x hx => by
      have hl := gen_len (f := colG rows w cut) (m := 14) (colG_len g cut) x
      have n3 := lastS_nl (s := .un) rfl x
      have n4 := prevS_nl rows.length x
      have n5 : nl (if x = 0 then Slot.un else .fz (.int 1)) = true := by split <;> rfl
      rw [gen_succ]
      generalize (List.range x).flatMap (colG rows w cut) = a at hl
      generalize lastS .un x = s3 at n3
      generalize prevS rows.length x = s4 at n4
      generalize (if x = 0 then Slot.un else .fz (.int 1)) = s5 at n5
      have inn := forGo_gen (step := forStep g_open_gates 0 [3, 4] false b1_open_gates) (fun y : Nat => [pt x y]) (fun j => oS rows cut (a ++ (List.range j).flatMap (cellG rows w cut x)) (if j = 0 then s3 else .fz (.int x)) (lastS s4 j) (if j = 0 then s5 else .fz (.int 1))) rows.length fun y hy => by
        have hl2 := gen_len (f := cellG rows w cut x) (m := 2) (cellG_len rows w cut x) y
        have b := step (a ++ (List.range y).flatMap (cellG rows w cut x)) x y (if y = 0 then s3 else .fz (.int x)) (lastS s4 y) (if y = 0 then s5 else .fz (.int 1)) (by rw [List.length_append]; omega) hx hy (by split <;> first | exact n3 | rfl) (lastS_nl n4 y) (by split <;> first | exact n5 | rfl)
        rw [List.append_assoc, ← gen_succ] at b
        simp -implicitDefEqProofs only [forGo, b, R.bind_ok, lastS_succ, Nat.add_eq_zero_iff, Nat.one_ne_zero, and_false, if_false]
      simp -implicitDefEqProofs only [List.range_zero, List.flatMap_nil, List.append_nil, if_true, lastS_zero] at inn
      rw [if_neg (by omega), if_neg (by omega), lastS_pos (t := .un) (by omega)] at inn
      simp -implicitDefEqProofs only [lastS_succ, prevS_succ, Nat.add_eq_zero_iff, Nat.one_ne_zero, and_false, if_false]
      exact inn
    exact this
  unfold oS at k
  simp -implicitDefEqProofs [f_open_gates, m_open_gates, Fn.of, ↓R.bind_def, R.b_ok, R.b_exc, R.b_stuck, ex, ev, evs, evI, entry, dats, dat, slotD, primD, resV, imm, immL, noSlot, boolOf, sto, stos, put1_eq, putL, bindTg, nl_un, nl_fz, nl_ow, nl_lk, slotOf, vD, vFull, endOf, outV, ioData, setIo, slotsOf, slotIn, callD, mutL, mAppend, mSetAt, mPop, mClear, pGe, pGt, pLe, pLt, pPow, powOk, pMod, pFdiv, divOk, pAdd, pSub, pMul, mulOk, pNeg, pAbs, pMin2, pMax2, pIsa, tyName, R.of, R.calm, seqOf, lock, unlock, wipeC, wipeS, unlocked, k, range0, sz]
end Lwk06

namespace Lwk06
open PySem L2 Rg
theorem isrow_io : f_is_row.io = 0 := rfl
theorem isrow_ar : f_is_row.ar = 2 := rfl
theorem isrow_run (r : List Int) (w : Int) (hl : (r.length : Int) = w) (h2 : 2 ≤ w) (h7 : w ≤ 7) (hf : ∀ v ∈ r, -1000000000 ≤ v ∧ v ≤ 1000000000) : f_is_row.run [row r, .int w] = .ok (.bl true, []) := by
  have k : ∃ s, ex g_is_row 0 l1_is_row [.fz (row r), .fz (.int w), .un] = .ok (.next [.fz (row r), .fz (.int w), s]) := by
    have ri : evI g_is_row (.iSeq (.var 0)) [.fz (row r), .fz (.int w), .un] = .ok (r.map .int, none, [.fz (row r), .fz (.int w), .un]) := by
      simp -implicitDefEqProofs [Fn.of, ↓R.bind_def, R.b_ok, R.b_exc, R.b_stuck, ex, ev, evs, evI, entry, dats, dat, slotD, primD, resV, imm, immL, noSlot, boolOf, sto, stos, put1_eq, putL, bindTg, nl_un, nl_fz, nl_ow, nl_lk, slotOf, vD, vFull, endOf, outV, ioData, setIo, slotsOf, slotIn, callD, mutL, mAppend, mSetAt, mPop, mClear, pGe, pGt, pLe, pLt, pPow, powOk, pMod, pFdiv, divOk, pAdd, pSub, pMul, mulOk, pNeg, pAbs, pMin2, pMax2, pIsa, tyName, R.of, R.calm, seqOf, lock, unlock, wipeC, wipeS, unlocked, row]
    obtain ⟨τ', e1, s, hs, e2⟩ := forGo_all (step := forStep g_is_row 0 [2] true b1_is_row) (fun τ => ∃ s, nl s = true ∧ τ = [.fz (row r), .fz (.int w), s]) (ds := r.map .int) (τ := [.fz (row r), .fz (.int w), .un]) (fun d hd τ ⟨s, hs, e⟩ => by
      subst e
      obtain ⟨v, hv, rfl⟩ := List.mem_map.mp hd
      have := hf v hv
      have c1 : ¬ v < -1000000000 := by omega
      have c2 : ¬ 1000000000 < v := by omega
      refine ⟨[.fz (row r), .fz (.int w), .fz (.int v)], ?_, .fz (.int v), rfl, rfl⟩
      simp -implicitDefEqProofs [forStep, Fn.of, ↓R.bind_def, R.b_ok, R.b_exc, R.b_stuck, ex, ev, evs, evI, entry, dats, dat, slotD, primD, resV, imm, immL, noSlot, boolOf, sto, stos, put1_eq, putL, bindTg, nl_un, nl_fz, nl_ow, nl_lk, slotOf, vD, vFull, endOf, outV, ioData, setIo, slotsOf, slotIn, callD, mutL, mAppend, mSetAt, mPop, mClear, pGe, pGt, pLe, pLt, pPow, powOk, pMod, pFdiv, divOk, pAdd, pSub, pMul, mulOk, pNeg, pAbs, pMin2, pMax2, pIsa, tyName, R.of, R.calm, seqOf, lock, unlock, wipeC, wipeS, unlocked, b1_is_row, hs, c1, c2]) ⟨.un, rfl, rfl⟩
    subst e2
    exact ⟨s, ex_for ri e1⟩
  obtain ⟨s, k⟩ := k
  have c1 : ¬ w < 2 := by omega
  have c2 : ¬ 7 < w := by omega
  have e : pNe [.int (r.length : Int), .int w] = some (.old (.bl false)) := by
    rw [hl]
    simp -implicitDefEqProofs [pNe, eqP]
  simp -implicitDefEqProofs [f_is_row, m_is_row, Fn.of, ↓R.bind_def, R.b_ok, R.b_exc, R.b_stuck, ex, ev, evs, evI, entry, dats, dat, slotD, primD, resV, imm, immL, noSlot, boolOf, sto, stos, put1_eq, putL, bindTg, nl_un, nl_fz, nl_ow, nl_lk, slotOf, vD, vFull, endOf, outV, ioData, setIo, slotsOf, slotIn, callD, mutL, mAppend, mSetAt, mPop, mClear, pGe, pGt, pLe, pLt, pPow, powOk, pMod, pFdiv, divOk, pAdd, pSub, pMul, mulOk, pNeg, pAbs, pMin2, pMax2, pIsa, tyName, R.of, R.calm, seqOf, lock, unlock, wipeC, wipeS, unlocked, k, pLen_row, e, c1, c2, range0]
theorem ask_io : f_ask_table.io = 0 := rfl
theorem ask_ar : f_ask_table.ar = 1 := rfl
theorem ask_run {rows : List (List Int)} {w : Nat} (g : Good rows w) : f_ask_table.run [tab rows] = .ok (.bl true, []) := by
  have g2 := g.h2
  have g7 := g.h7
  have w2 := g.w2
  have w7 := g.w7
  have p0 := pIx_tab (rows := rows) (i := 0) (by omega) (by omega)
  have l0 : (rowAt rows 0).length = w := g.wideAt (by omega) (by omega)
  generalize rowAt rows 0 = r0 at p0 l0
  have k : ex g_ask_table 0 l1_ask_table [.fz (tab rows), .fz (.int w), .un] = .ok (.next [.fz (tab rows), .fz (.int w), lastS .un rows.length]) := by
    refine ex_for (items := (List.range rows.length).map fun k => .int (k : Nat)) (rng ?_ (by omega)) ?_
    · simp -implicitDefEqProofs [Fn.of, ↓R.bind_def, R.b_ok, R.b_exc, R.b_stuck, ex, ev, evs, evI, entry, dats, dat, slotD, primD, resV, imm, immL, noSlot, boolOf, sto, stos, put1_eq, putL, bindTg, nl_un, nl_fz, nl_ow, nl_lk, slotOf, vD, vFull, endOf, outV, ioData, setIo, slotsOf, slotIn, callD, mutL, mAppend, mSetAt, mPop, mClear, pGe, pGt, pLe, pLt, pPow, powOk, pMod, pFdiv, divOk, pAdd, pSub, pMul, mulOk, pNeg, pAbs, pMin2, pMax2, pIsa, tyName, R.of, R.calm, seqOf, lock, unlock, wipeC, wipeS, unlocked, pLen_tab]
    · have := forGo_range (step := forStep g_ask_table 0 [2] true b1_ask_table) (fun j => [.fz (tab rows), .fz (.int w), lastS .un j]) rows.length fun j hj => by
        have hn := lastS_nl (s := .un) rfl j
        have p := pIx_tab (rows := rows) (i := (j : Int)) (by omega) (by omega)
        have l : (rowAt rows j).length = w := g.wideAt (by omega) (by omega)
        have hf : ∀ v ∈ rowAt rows j, -1000000000 ≤ v ∧ v ≤ 1000000000 := g.far _ (getD_mem (by omega))
        have ir := isrow_run (rowAt rows j) w (by omega) (by omega) (by omega) hf
        simp -implicitDefEqProofs [forStep, Fn.of, ↓R.bind_def, R.b_ok, R.b_exc, R.b_stuck, ex, ev, evs, evI, entry, dats, dat, slotD, primD, resV, imm, immL, noSlot, boolOf, sto, stos, put1_eq, putL, bindTg, nl_un, nl_fz, nl_ow, nl_lk, slotOf, vD, vFull, endOf, outV, ioData, setIo, slotsOf, slotIn, callD, mutL, mAppend, mSetAt, mPop, mClear, pGe, pGt, pLe, pLt, pPow, powOk, pMod, pFdiv, divOk, pAdd, pSub, pMul, mulOk, pNeg, pAbs, pMin2, pMax2, pIsa, tyName, R.of, R.calm, seqOf, lock, unlock, wipeC, wipeS, unlocked, b1_ask_table, g_ask_table, hn, p, isrow_io, isrow_ar, ir, imm_row, lastS_succ]
      exact this
  have c1 : ¬ (rows.length : Int) < 2 := by omega
  have c2 : ¬ (7 : Int) < rows.length := by omega
  have c3 : ¬ rows.length < 2 := by omega
  have c4 : ¬ 7 < rows.length := by omega
  simp -implicitDefEqProofs [f_ask_table, m_ask_table, Fn.of, ↓R.bind_def, R.b_ok, R.b_exc, R.b_stuck, ex, ev, evs, evI, entry, dats, dat, slotD, primD, resV, imm, immL, noSlot, boolOf, sto, stos, put1_eq, putL, bindTg, nl_un, nl_fz, nl_ow, nl_lk, slotOf, vD, vFull, endOf, outV, ioData, setIo, slotsOf, slotIn, callD, mutL, mAppend, mSetAt, mPop, mClear, pGe, pGt, pLe, pLt, pPow, powOk, pMod, pFdiv, divOk, pAdd, pSub, pMul, mulOk, pNeg, pAbs, pMin2, pMax2, pIsa, tyName, R.of, R.calm, seqOf, lock, unlock, wipeC, wipeS, unlocked, k, pLen_tab, pLen_row, p0, l0, imm_row, c1, c2, c3, c4, range0]
theorem gates_io : f_gates.io = 0 := rfl
theorem gates_ar : f_gates.ar = 2 := rfl
theorem allG_imm (rows : List (List Int)) (w : Nat) (cut : Int) : immL (allG rows w cut) = true := immL_of fun d hd => by
  obtain ⟨x, y, k, rfl⟩ := allG_mem hd
  rfl
theorem gates_run {rows : List (List Int)} {w : Nat} (g : Good rows w) (cut : Int) : f_gates.run [tab rows, .int cut] = .ok (.lst (allG rows w cut), []) := by
  have h1 := ask_run g
  have h2 := ogates_run g cut
  simp -implicitDefEqProofs [f_gates, m_gates, g_gates, Fn.of, ↓R.bind_def, R.b_ok, R.b_exc, R.b_stuck, ex, ev, evs, evI, entry, dats, dat, slotD, primD, resV, imm, immL, noSlot, boolOf, sto, stos, put1_eq, putL, bindTg, nl_un, nl_fz, nl_ow, nl_lk, slotOf, vD, vFull, endOf, outV, ioData, setIo, slotsOf, slotIn, callD, mutL, mAppend, mSetAt, mPop, mClear, pGe, pGt, pLe, pLt, pPow, powOk, pMod, pFdiv, divOk, pAdd, pSub, pMul, mulOk, pNeg, pAbs, pMin2, pMax2, pIsa, tyName, R.of, R.calm, seqOf, lock, unlock, wipeC, wipeS, unlocked, ask_io, ask_ar, h1, ogates_io, ogates_ar, h2, range0]
/-! the order -/
theorem le_gt {x y k x' y' k' : Int} (h : x < x' ∨ (x = x' ∧ (y < y' ∨ (y = y' ∧ k ≤ k')))) : leD (gt x y k) (gt x' y' k') = true := by
  unfold leD PySem.W.dataLe PySem.W.sortLe
  simp -implicitDefEqProofs only [cond_false]
  rw [Bool.not_eq_true']
  simp -implicitDefEqProofs only [gt, toPy, toPyL]
  simp -implicitDefEqProofs only [PySem.W.keyToks, PySem.W.keyToksAll, List.cons_append, List.nil_append]
  show PyProof.Rows.lexLt PyProof.Rows.itemOrd _ _ = false
  simp -implicitDefEqProofs only [PyProof.Rows.lexLt, PyProof.Rows.itemLt]
  rcases h with h | ⟨rfl, h | ⟨rfl, h⟩⟩ <;> simp <;> omega
theorem allG_sorted (rows : List (List Int)) (w : Nat) (cut : Int) : (allG rows w cut).mergeSort leD = allG rows w cut := by
  refine List.mergeSort_of_pairwise ?_
  refine List.pairwise_flatMap.mpr ⟨fun x _ => List.pairwise_flatMap.mpr ⟨fun y _ => ?_, ?_⟩, ?_⟩
  · unfold cellG
    refine List.pairwise_append.mpr ⟨by split <;> simp, by split <;> simp, fun a ha b hb => ?_⟩
    split at ha
    · split at hb
      · rw [List.mem_singleton.mp ha, List.mem_singleton.mp hb]
        exact le_gt (by omega)
      · cases hb
    · cases ha
  · refine List.pairwise_lt_range.imp fun {y y'} h a ha b hb => ?_
    obtain ⟨k, rfl, _⟩ := cellG_mem ha
    obtain ⟨k', rfl, _⟩ := cellG_mem hb
    exact le_gt (by omega)
  · refine List.pairwise_lt_range.imp fun {x x'} h a ha b hb => ?_
    obtain ⟨y, _, ha⟩ := List.mem_flatMap.mp ha
    obtain ⟨y', _, hb⟩ := List.mem_flatMap.mp hb
    obtain ⟨k, rfl, _⟩ := cellG_mem ha
    obtain ⟨k', rfl, _⟩ := cellG_mem hb
    exact le_gt (by omega)
theorem lay_gt (x y k : Int) : Lay 1 (gt x y k) := lay_tup fun d hd => by
  simp -implicitDefEqProofs only [List.mem_cons, List.not_mem_nil, or_false] at hd
  rcases hd with rfl | rfl | rfl <;> exact lay_int 0 _
theorem allG_len {rows : List (List Int)} {w : Nat} (g : Good rows w) (cut : Int) : (allG rows w cut).length ≤ 98 := by
  have hl := gen_len (f := colG rows w cut) (m := 14) (colG_len g cut) w
  have := g.w7
  unfold allG
  omega
theorem alike_gt (x y k x' y' k' : Int) : PySem.W.alike (toPy (gt x y k)) (toPy (gt x' y' k')) = true := by
  simp -implicitDefEqProofs only [gt, toPy, toPyL]
  simp -implicitDefEqProofs [PySem.W.alike, PySem.W.alikeAll]
theorem sorted_run {rows : List (List Int)} {w : Nat} (g : Good rows w) (cut : Int) : pSorted [.lst (allG rows w cut)] = some (.nu (allG rows w cut)) := by
  have ok : sortOk (allG rows w cut) = true := by
    unfold sortOk
    rw [Bool.and_eq_true, Bool.and_eq_true]
    refine ⟨⟨?_, ?_⟩, decide_eq_true (sz _ (by have := allG_len g cut; omega))⟩
    · rw [List.all_eq_true]
      intro d hd
      obtain ⟨x, y, k, rfl⟩ := allG_mem hd
      rw [Bool.and_eq_true, List.all_eq_true]
      refine ⟨(lay_gt x y k).sh (by omega), fun e he => ?_⟩
      obtain ⟨x', y', k', rfl⟩ := allG_mem he
      exact alike_gt _ _ _ _ _ _
    · rw [Bool.or_eq_true, List.all_eq_true]
      refine .inl fun d hd => ?_
      obtain ⟨x, y, k, rfl⟩ := allG_mem hd
      rfl
  unfold pSorted
  simp -implicitDefEqProofs only [ok, if_true, allG_sorted]
end Lwk06

namespace Lwk06
open PySem L2 Rg
/-- what the law's names hold -/
def lS (ns : List Int) (k : Int) (s : Int × Int) (rows : List (List Int)) (s5 s6 s7 : Slot) : Sts := [.fz (.scr ns), .fz (.int k), .ow true (fd s), .fz (tab rows), .fz (tab rows), s5, s6, s7, .un]
theorem cuts_body {rows : List (List Int)} {w : Nat} (g : Good rows w) (ns : List Int) (k : Int) (s : Int × Int) (c : Int) (s5 s6 s7 : Slot) (h5 : nl s5 = true) (h6 : nl s6 = true) (h7 : nl s7 = true) :
    ∃ t5 t6 t7, forStep g_law 0 [5] true b2_law (lS ns k s rows s5 s6 s7) (.int c) = .ok (.next (lS ns k s rows t5 t6 t7)) ∧ nl t5 = true ∧ nl t6 = true ∧ nl t7 = true := by
  have a1 := lgates_run g c
  have a2 := sorted_run g c
  have a3 := gates_run g c
  have a4 := allG_imm rows w c
  have a5 := allG_len g c
  have ly : Lay 2 (.lst (allG rows w c)) := lay_lst fun d hd => by
    obtain ⟨x, y, k, rfl⟩ := allG_mem hd
    exact lay_gt x y k
  have a6 := ne_self ly (by omega)
  have a7 : pNe [tab rows, tab rows] = some (.old (.bl false)) := ne_self (lay_tab rows) (by omega)
  have a8 : kitB "list" "list" = some true := by decide +kernel
  have a9 : (allG rows w c).length < sizeLine := by rw [sizeLine_eq]; omega
  generalize allG rows w c = A at *
  refine ⟨.fz (.int c), .fz (.lst A), .ow true (.lst (A ++ [.tup [.int 0, .int 0, .int 0]])), ?_, rfl, rfl, rfl⟩
  unfold lS
  simp -implicitDefEqProofs [forStep, Fn.of, ↓R.bind_def, R.b_ok, R.b_exc, R.b_stuck, ex, ev, evs, evI, entry, dats, dat, slotD, primD, resV, imm, immL, noSlot, boolOf, sto, stos, put1_eq, putL, bindTg, nl_un, nl_fz, nl_ow, nl_lk, slotOf, vD, vFull, endOf, outV, ioData, setIo, slotsOf, slotIn, callD, mutL, mAppend, mSetAt, mPop, mClear, pGe, pGt, pLe, pLt, pPow, powOk, pMod, pFdiv, divOk, pAdd, pSub, pMul, mulOk, pNeg, pAbs, pMin2, pMax2, pIsa, tyName, R.of, R.calm, seqOf, lock, unlock, wipeC, wipeS, unlocked, h5, h6, h7, b2_law, g_law, lgates_io, lgates_ar, a1, a2, a3, a4, a6, a7, a8, a9, gates_io, gates_ar, imm_tab, sz]
theorem kept_run {rows : List (List Int)} {w : Nat} (g : Good rows w) (ns : List Int) (k : Int) (s : Int × Int) (s4 s5 s6 s7 : Slot) :
    ev g_law c1_law [.fz (.scr ns), .fz (.int k), .ow true (fd s), .fz (tab rows), s4, s5, s6, s7, .un] = .ok (.own true (tab rows), [.fz (.scr ns), .fz (.int k), .ow true (fd s), .fz (tab rows), s4, s5, s6, s7, .un]) := by
  have ri : evI g_law (.iSeq (.var 3)) [.fz (.scr ns), .fz (.int k), .ow true (fd s), .fz (tab rows), s4, s5, s6, s7, .un] = .ok (rows.map row, none, [.fz (.scr ns), .fz (.int k), .ow true (fd s), .fz (tab rows), s4, s5, s6, s7, .un]) := by
    simp -implicitDefEqProofs [Fn.of, ↓R.bind_def, R.b_ok, R.b_exc, R.b_stuck, ex, ev, evs, evI, entry, dats, dat, slotD, primD, resV, imm, immL, noSlot, boolOf, sto, stos, put1_eq, putL, bindTg, nl_un, nl_fz, nl_ow, nl_lk, slotOf, vD, vFull, endOf, outV, ioData, setIo, slotsOf, slotIn, callD, mutL, mAppend, mSetAt, mPop, mClear, pGe, pGt, pLe, pLt, pPow, powOk, pMod, pFdiv, divOk, pAdd, pSub, pMul, mulOk, pNeg, pAbs, pMin2, pMax2, pIsa, tyName, R.of, R.calm, seqOf, lock, unlock, wipeC, wipeS, unlocked, tab]
  refine ev_comp (τ0 := [.fz (.scr ns), .fz (.int k), .ow true (fd s), .fz (tab rows), s4, s5, s6, s7, .un]) ri rfl ?_
  have tn : ∀ r : List Int, compStep g_law [8] true .yes (.prim .list (.cons (.var 8) .nil)) [.fz (.scr ns), .fz (.int k), .ow true (fd s), .fz (tab rows), s4, s5, s6, s7, .un] (row r) = .ok (some (.own true (row r)), [.fz (.scr ns), .fz (.int k), .ow true (fd s), .fz (tab rows), s4, s5, s6, s7, .un]) := by
    intro r
    have im : immL (r.map D.int) = true := immL_of fun d hd => by
      obtain ⟨v, _, rfl⟩ := List.mem_map.mp hd
      rfl
    simp -implicitDefEqProofs [compStep, Fn.of, ↓R.bind_def, R.b_ok, R.b_exc, R.b_stuck, ex, ev, evs, evI, entry, dats, dat, slotD, primD, resV, imm, immL, noSlot, boolOf, sto, stos, put1_eq, putL, bindTg, nl_un, nl_fz, nl_ow, nl_lk, slotOf, vD, vFull, endOf, outV, ioData, setIo, slotsOf, slotIn, callD, mutL, mAppend, mSetAt, mPop, mClear, pGe, pGt, pLe, pLt, pPow, powOk, pMod, pFdiv, divOk, pAdd, pSub, pMul, mulOk, pNeg, pAbs, pMin2, pMax2, pIsa, tyName, R.of, R.calm, seqOf, lock, unlock, wipeC, wipeS, unlocked, row, pList, im]
  have : ∀ (rs : List (List Int)) (acc : List D), acc.length + rs.length ≤ 1000 → compGo (compStep g_law [8] true .yes (.prim .list (.cons (.var 8) .nil))) (rs.map row) acc true [.fz (.scr ns), .fz (.int k), .ow true (fd s), .fz (tab rows), s4, s5, s6, s7, .un] = .ok (true, acc ++ rs.map row, [.fz (.scr ns), .fz (.int k), .ow true (fd s), .fz (tab rows), s4, s5, s6, s7, .un]) := by
    intro rs
    induction rs with
    | nil =>
      intro acc _
      simp -implicitDefEqProofs [compGo]
    | cons r rs ih =>
      intro acc ha
      rw [List.length_cons] at ha
      have z : acc.length < sizeLine := by rw [sizeLine_eq]; omega
      have := ih (acc ++ [row r]) (by rw [List.length_append, List.length_singleton]; omega)
      simp -implicitDefEqProofs only [List.map_cons, compGo, tn, R.bind_ok, z, if_true, vD, vFull, Bool.and_true, this]
      rw [List.append_assoc]
      rfl
  have h7 := g.h7
  exact this rows [] (by simp; omega)
theorem turn (ns : List Int) (k : Int) (hk : 0 ≤ k) (s1 s2 s3 s4 s5 s6 s7 : Slot) (h1 : nl s1 = true) (h2 : nl s2 = true) (h3 : nl s3 = true) (h4 : nl s4 = true) (h5 : nl s5 = true) (h6 : nl s6 = true) (h7 : nl s7 = true) :
    ∃ t1 t2 t3 t4 t5 t6 t7, forStep g_law 0 [1] true b1_law [.fz (.scr ns), s1, s2, s3, s4, s5, s6, s7, .un] (.int k) = .ok (.next [.fz (.scr ns), t1, t2, t3, t4, t5, t6, t7, .un]) ∧ nl t1 = true ∧ nl t2 = true ∧ nl t3 = true ∧ nl t4 = true ∧ nl t5 = true ∧ nl t6 = true ∧ nl t7 = true := by
  obtain ⟨s, e1⟩ := feed_run ns k hk
  obtain ⟨rows, w, s', e2, g⟩ := table_run s
  obtain ⟨c1, sa, e3⟩ := cut_run g s'
  obtain ⟨c2, sb, e4⟩ := cut_run g sa
  have e5 := kept_run g ns k s' s4 s5 s6 s7
  have ri : evI g_law (.iSeq (.lst (.cons (.call 2 (.cons (.var 2) (.cons (.var 3) .nil))) (.cons (.call 2 (.cons (.var 2) (.cons (.var 3) .nil))) (.cons (.prim .pow (.cons (.cst (.int 10)) (.cons (.cst (.int 10)) .nil))) (.cons (.prim .sub (.cons (.cst (.int 0)) (.cons (.prim .pow (.cons (.cst (.int 10)) (.cons (.cst (.int 10)) .nil))) .nil))) .nil)))))) (lS ns k s' rows s5 s6 s7) = .ok ([.int c1, .int c2, .int 10000000000, .int (-10000000000)], none, lS ns k sb rows s5 s6 s7) := by
    unfold lS
    simp -implicitDefEqProofs [Fn.of, ↓R.bind_def, R.b_ok, R.b_exc, R.b_stuck, ex, ev, evs, evI, entry, dats, dat, slotD, primD, resV, imm, immL, noSlot, boolOf, sto, stos, put1_eq, putL, bindTg, nl_un, nl_fz, nl_ow, nl_lk, slotOf, vD, vFull, endOf, outV, ioData, setIo, slotsOf, slotIn, callD, mutL, mAppend, mSetAt, mPop, mClear, pGe, pGt, pLe, pLt, pPow, powOk, pMod, pFdiv, divOk, pAdd, pSub, pMul, mulOk, pNeg, pAbs, pMin2, pMax2, pIsa, tyName, R.of, R.calm, seqOf, lock, unlock, wipeC, wipeS, unlocked, g_law, cut_io, cut_ar, e3, e4, sz]
  obtain ⟨τ', f1, t5, t6, t7, n5, n6, n7, e6⟩ := forGo_all (step := forStep g_law 0 [5] true b2_law) (fun τ => ∃ s5 s6 s7, nl s5 = true ∧ nl s6 = true ∧ nl s7 = true ∧ τ = lS ns k sb rows s5 s6 s7) (ds := [.int c1, .int c2, .int 10000000000, .int (-10000000000)]) (τ := lS ns k sb rows s5 s6 s7) (fun d hd τ ⟨s5, s6, s7, h5, h6, h7, e⟩ => by
    subst e
    have : ∃ c, d = .int c := by
      simp -implicitDefEqProofs only [List.mem_cons, List.not_mem_nil, or_false] at hd
      rcases hd with rfl | rfl | rfl | rfl <;> exact ⟨_, rfl⟩
    obtain ⟨c, rfl⟩ := this
    obtain ⟨t5, t6, t7, e, n5, n6, n7⟩ := cuts_body g ns k sb c s5 s6 s7 h5 h6 h7
    exact ⟨_, e, t5, t6, t7, n5, n6, n7, rfl⟩) ⟨s5, s6, s7, h5, h6, h7, rfl⟩
  subst e6
  have e7 : ex g_law 0 l2_law (lS ns k s' rows s5 s6 s7) = .ok (.next (lS ns k sb rows t5 t6 t7)) := ex_for ri f1
  refine ⟨.fz (.int k), .ow true (fd sb), .fz (tab rows), .fz (tab rows), t5, t6, t7, ?_, rfl, rfl, rfl, rfl, n5, n6, n7⟩
  have imf : imm (fd s) = false := rfl
  have g1 : g_law[0]? = some (("_law_feed" : Str), f__law_feed) := rfl
  have g2 : g_law[1]? = some (("_law_table" : Str), f__law_table) := rfl
  unfold lS at e7
  simp -implicitDefEqProofs [forStep, Fn.of, ↓R.bind_def, R.b_ok, R.b_exc, R.b_stuck, ex, ev, evs, evI, entry, dats, dat, slotD, primD, resV, imm, immL, noSlot, boolOf, sto, stos, put1_eq, putL, bindTg, nl_un, nl_fz, nl_ow, nl_lk, slotOf, vD, vFull, endOf, outV, ioData, setIo, slotsOf, slotIn, callD, mutL, mAppend, mSetAt, mPop, mClear, pGe, pGt, pLe, pLt, pPow, powOk, pMod, pFdiv, divOk, pAdd, pSub, pMul, mulOk, pNeg, pAbs, pMin2, pMax2, pIsa, tyName, R.of, R.calm, seqOf, lock, unlock, wipeC, wipeS, unlocked, b1_law, h1, h2, h3, h4, h5, h6, h7, g1, g2, feed_io, feed_ar, e1, imf, table_io, table_ar, e2, imm_tab, e5, e7]
theorem law_true (ns : List Int) (hl : ns.length ≤ 63) : f_law.run [.scr ns] = .ok (.bl true, []) := by
  have hm : ∃ n : Nat, n ≤ 1000 ∧ ev g_law (.prim .max2 (.cons (.cst (.int 4)) (.cons (.prim .min2 (.cons (.cst (.int 12)) (.cons (.prim .len (.cons (.var 0) .nil)) .nil))) .nil))) [.fz (.scr ns), .un, .un, .un, .un, .un, .un, .un, .un] = .ok (.fz (.int n), [.fz (.scr ns), .un, .un, .un, .un, .un, .un, .un, .un]) := by
    refine ⟨if (if (ns.length : Int) < 12 then (ns.length : Int) else 12) > 4 then (if (ns.length : Int) < 12 then (ns.length : Int) else 12).toNat else 4, ?_, ?_⟩
    · split <;> split <;> omega
    · have : ∀ m : Int, 0 ≤ m → ((if m > 4 then m.toNat else 4 : Nat) : Int) = if m > 4 then m else 4 := by
        intro m hm
        split <;> omega
      rw [this _ (by split <;> omega)]
      simp -implicitDefEqProofs [Fn.of, ↓R.bind_def, R.b_ok, R.b_exc, R.b_stuck, ex, ev, evs, evI, entry, dats, dat, slotD, primD, resV, imm, immL, noSlot, boolOf, sto, stos, put1_eq, putL, bindTg, nl_un, nl_fz, nl_ow, nl_lk, slotOf, vD, vFull, endOf, outV, ioData, setIo, slotsOf, slotIn, callD, mutL, mAppend, mSetAt, mPop, mClear, atI, ixN, ixD, pIx, pGe, pGt, pLe, pLt, pPow, powOk, pMod, pFdiv, divOk, pAdd, pSub, pMul, mulOk, pNeg, pAbs, pMin2, pMax2, pLen, lenD, pIsa, tyName, R.of, R.calm, seqOf, lock, unlock, wipeC, wipeS, unlocked, List.range, List.range.loop]
  obtain ⟨n, hn, e0⟩ := hm
  have ri := rng e0 hn
  obtain ⟨τ', f1, t1, t2, t3, t4, t5, t6, t7, n1, n2, n3, n4, n5, n6, n7, e1⟩ := forGo_all (step := forStep g_law 0 [1] true b1_law) (fun τ => ∃ s1 s2 s3 s4 s5 s6 s7, nl s1 = true ∧ nl s2 = true ∧ nl s3 = true ∧ nl s4 = true ∧ nl s5 = true ∧ nl s6 = true ∧ nl s7 = true ∧ τ = [.fz (.scr ns), s1, s2, s3, s4, s5, s6, s7, .un]) (ds := (List.range n).map fun k => .int (k : Nat)) (τ := [.fz (.scr ns), .un, .un, .un, .un, .un, .un, .un, .un]) (fun d hd τ ⟨s1, s2, s3, s4, s5, s6, s7, h1, h2, h3, h4, h5, h6, h7, e⟩ => by
    subst e
    obtain ⟨k, _, rfl⟩ := List.mem_map.mp hd
    obtain ⟨t1, t2, t3, t4, t5, t6, t7, e, n1, n2, n3, n4, n5, n6, n7⟩ := turn ns k (by omega) s1 s2 s3 s4 s5 s6 s7 h1 h2 h3 h4 h5 h6 h7
    exact ⟨_, e, t1, t2, t3, t4, t5, t6, t7, n1, n2, n3, n4, n5, n6, n7, rfl⟩) ⟨.un, .un, .un, .un, .un, .un, .un, rfl, rfl, rfl, rfl, rfl, rfl, rfl, rfl⟩
  subst e1
  have k : ex g_law 0 l1_law [.fz (.scr ns), .un, .un, .un, .un, .un, .un, .un, .un] = .ok (.next [.fz (.scr ns), t1, t2, t3, t4, t5, t6, t7, .un]) := ex_for ri f1
  simp -implicitDefEqProofs [f_law, m_law, Fn.of, ↓R.bind_def, R.b_ok, R.b_exc, R.b_stuck, ex, ev, evs, evI, entry, dats, dat, slotD, primD, resV, imm, immL, noSlot, boolOf, sto, stos, put1_eq, putL, bindTg, nl_un, nl_fz, nl_ow, nl_lk, slotOf, vD, vFull, endOf, outV, ioData, setIo, slotsOf, slotIn, callD, mutL, mAppend, mSetAt, mPop, mClear, pGe, pGt, pLe, pLt, pPow, powOk, pMod, pFdiv, divOk, pAdd, pSub, pMul, mulOk, pNeg, pAbs, pMin2, pMax2, pIsa, tyName, R.of, R.calm, seqOf, lock, unlock, wipeC, wipeS, unlocked, k, range0]
end Lwk06

namespace Lwk06
open PySem PySem.Spec PyProof.Rows L2 Rg
def top (i : Nat) : Stmt := PySem.Challenge.pw_heightrings_k06_gates_listed.main.body.getD i (.Pass ⟨0, 0, 0, 0⟩)
def dd (x : Str) (i : Nat) : He.DefD := ⟨(x, none), x, x, defArgs (top i), defBody (top i), defScope (top i), [], []⟩
def fn : List He.DefD := [dd "_law_feed" 20, dd "_law_draw" 21, dd "_law_height" 22, dd "_law_table" 23, dd "_law_cut" 24, dd "_law_gates" 26, dd "is_row" 14, dd "ask_table" 15, dd "all_points" 6, dd "gate_points" 3, dd "has_point" 1, dd "is_gate" 4, dd "high_at" 2, dd "is_open" 5, dd "open_gates" 17, dd "gates" 18, dd "law" 27]
def fa0 : List He.Fa := [.glo "_law_feed", .glo "_law_draw", .glo "_law_height", .glo "_law_table", .glo "_law_cut", .glo "_law_gates", .glo "is_row", .glo "ask_table", .glo "all_points", .glo "gate_points", .glo "has_point", .glo "is_gate", .glo "high_at", .glo "is_open", .glo "open_gates", .glo "gates", .glo "law", .free "abs", .free "isinstance", .free "len", .free "list", .free "max", .free "min", .free "range", .free "sorted", .int "LEAST" (2), .int "MOST" (7), .int "FAR" (1000000000)]
def fa : List He.Fa := fa0
def lo0 : List PySem.Str := ["has_point", "high_at", "gate_points", "is_gate", "is_open", "all_points", "HeightError", "NoTable", "LEAST", "MOST", "FAR", "is_row", "ask_table", "open_gates", "gates", "_law_feed", "_law_draw", "_law_height", "_law_table", "_law_cut", "_law_points", "_law_gates"]
def lo : List PySem.Str := lo0
abbrev R0 : PySem.W.OpenRow := PySem.W.OpenLaw.row PySem.Challenge.rw_heightrings_k06_gates_listed
abbrev hk : PySem.W.Hook := He.hookD 4 fa fn
def ob (s : PySem.W.SharedT) : He.AlD := He.obsDG 4 fa fn (HandSHeadRun.getT s)
theorem ob_eq (s : PySem.W.SharedT) : ob s = hk.obs s.abs := He.obsDG_eq (HandSHeadRun.getT_eq s)
theorem run (w : World) : HandSHeadRun.RunEq R0 (PySem.W.view R0.prog [27]) hk ob 4000 lo w := by
  intro os
  kernel_rfl
def fr : List Str := ["abs", "isinstance", "len", "list", "max", "min", "range", "sorted"]
def GL : List (Str × D) := [("LEAST", .int (2)), ("MOST", .int (7)), ("FAR", .int (1000000000))]
section
variable {P : Program} {w : World} {K : PySem.W.Frag} {h : Heap} {mg : Str → Option Value} {base : Heap}
theorem hfr (X : K.In h) (G : h.Ns mainGlobals mg) (c : He.SaysD fa fn K) : ∀ x ∈ fr, mg x = none := (fr_cons (He.free_ok X G (c.fact 17 (f := .free "abs") rfl)) (fr_cons (He.free_ok X G (c.fact 18 (f := .free "isinstance") rfl)) (fr_cons (He.free_ok X G (c.fact 19 (f := .free "len") rfl)) (fr_cons (He.free_ok X G (c.fact 20 (f := .free "list") rfl)) (fr_cons (He.free_ok X G (c.fact 21 (f := .free "max") rfl)) (fr_cons (He.free_ok X G (c.fact 22 (f := .free "min") rfl)) (fr_cons (He.free_ok X G (c.fact 23 (f := .free "range") rfl)) (fr_cons (He.free_ok X G (c.fact 24 (f := .free "sorted") rfl)) fr_nil))))))))
theorem hgl (X : K.In h) (G : h.Ns mainGlobals mg) (c : He.SaysD fa fn K) : ∀ x d, (x, d) ∈ GL → ∃ u v, mg x = some u ∧ RelV v u ∧ ∀ F H, Rep K F H d v := (gl_cons (He.int_ok X G (c.fact 25 (f := .int "LEAST" (2)) rfl)) (gl_cons (He.int_ok X G (c.fact 26 (f := .int "MOST" (7)) rfl)) (gl_cons (He.int_ok X G (c.fact 27 (f := .int "FAR" (1000000000)) rfl)) gl_nil)))
theorem ck__law_feed : ((ckS ⟨["_law_script", "_law_k", "_law_cell"], defScope (top 20), ["_law_script", "_law_k", "_law_cell"], g__law_feed, GL, fr⟩ 0 m__law_feed).b (defBody (top 20))).isSome = true := by kernel_rfl
theorem ok__law_feed (X : K.In h) (G : h.Ns mainGlobals mg) (c : He.SaysD fa fn K) : GFn P w K mg base "_law_feed" f__law_feed := by
  obtain ⟨fd, F⟩ := c.def_ 0 (d := dd "_law_feed" 20) rfl
  exact ⟨_, fd, ["_law_script", "_law_k"], He.glo_ok X G (c.fact 0 (f := .glo "_law_feed") rfl), F.kp, FunD.bindsN F (fun _ _ _ _ _ _ us hl => match us, hl with | [_, _], _ => rfl),
    fn_ok (lv := 0) (io := 0) (N := ["_law_script", "_law_k", "_law_cell"]) (ps := ["_law_script", "_law_k"]) (st := ["_law_script", "_law_k", "_law_cell"]) (fuel := (fun _ => 0)) F (by decide +kernel) (by decide +kernel) (by decide +kernel) ck__law_feed fns_nil (hgl X G c) (hfr X G c)⟩
theorem ck__law_draw : ((ckS ⟨["_law_feed_here", "_law_many", "_law_found"], defScope (top 21), ["_law_feed_here", "_law_many", "_law_found"], g__law_draw, GL, fr⟩ 1 m__law_draw).b (defBody (top 21))).isSome = true := by kernel_rfl
theorem ok__law_draw (X : K.In h) (G : h.Ns mainGlobals mg) (c : He.SaysD fa fn K) : GFn P w K mg base "_law_draw" f__law_draw := by
  obtain ⟨fd, F⟩ := c.def_ 1 (d := dd "_law_draw" 21) rfl
  exact ⟨_, fd, ["_law_feed_here", "_law_many"], He.glo_ok X G (c.fact 1 (f := .glo "_law_draw") rfl), F.kp, FunD.bindsN F (fun _ _ _ _ _ _ us hl => match us, hl with | [_, _], _ => rfl),
    fn_ok (lv := 0) (io := 1) (N := ["_law_feed_here", "_law_many", "_law_found"]) (ps := ["_law_feed_here", "_law_many"]) (st := ["_law_feed_here", "_law_many", "_law_found"]) (fuel := (fun _ => 0)) F (by decide +kernel) (by decide +kernel) (by decide +kernel) ck__law_draw fns_nil (hgl X G c) (hfr X G c)⟩
theorem ck__law_height : ((ckS ⟨["_law_feed_here", "_law_far", "_law_base"], defScope (top 22), ["_law_feed_here", "_law_far", "_law_base"], g__law_height, GL, fr⟩ 1 m__law_height).b (defBody (top 22))).isSome = true := by kernel_rfl
theorem ok__law_height (X : K.In h) (G : h.Ns mainGlobals mg) (c : He.SaysD fa fn K) : GFn P w K mg base "_law_height" f__law_height := by
  obtain ⟨fd, F⟩ := c.def_ 2 (d := dd "_law_height" 22) rfl
  exact ⟨_, fd, ["_law_feed_here", "_law_far", "_law_base"], He.glo_ok X G (c.fact 2 (f := .glo "_law_height") rfl), F.kp, FunD.bindsN F (fun _ _ _ _ _ _ us hl => match us, hl with | [_, _, _], _ => rfl),
    fn_ok (lv := 1) (io := 1) (N := ["_law_feed_here", "_law_far", "_law_base"]) (ps := ["_law_feed_here", "_law_far", "_law_base"]) (st := ["_law_feed_here", "_law_far", "_law_base"]) (fuel := (fun _ => 0)) F (by decide +kernel) (by decide +kernel) (by decide +kernel) ck__law_height (fns_cons (ok__law_draw X G c) (by decide) fns_nil) (hgl X G c) (hfr X G c)⟩
theorem ck__law_table : ((ckS ⟨["_law_feed_here", "_law_wide", "_law_high", "_law_far", "_law_base", "_law_y", "_law_x"], defScope (top 23), ["_law_feed_here", "_law_wide", "_law_high", "_law_far", "_law_base"], g__law_table, GL, fr⟩ 1 m__law_table).b (defBody (top 23))).isSome = true := by kernel_rfl
theorem ok__law_table (X : K.In h) (G : h.Ns mainGlobals mg) (c : He.SaysD fa fn K) : GFn P w K mg base "_law_table" f__law_table := by
  obtain ⟨fd, F⟩ := c.def_ 3 (d := dd "_law_table" 23) rfl
  exact ⟨_, fd, ["_law_feed_here"], He.glo_ok X G (c.fact 3 (f := .glo "_law_table") rfl), F.kp, FunD.bindsN F (fun _ _ _ _ _ _ us hl => match us, hl with | [_], _ => rfl),
    fn_ok (lv := 2) (io := 1) (N := ["_law_feed_here", "_law_wide", "_law_high", "_law_far", "_law_base", "_law_y", "_law_x"]) (ps := ["_law_feed_here"]) (st := ["_law_feed_here", "_law_wide", "_law_high", "_law_far", "_law_base"]) (fuel := (fun _ => 0)) F (by decide +kernel) (by decide +kernel) (by decide +kernel) ck__law_table (fns_cons (ok__law_draw X G c) (by decide) (fns_cons (ok__law_height X G c) (by decide) fns_nil)) (hgl X G c) (hfr X G c)⟩
theorem ck__law_cut : ((ckS ⟨["_law_feed_here", "_law_rows", "_law_row"], defScope (top 24), ["_law_feed_here", "_law_rows", "_law_row"], g__law_cut, GL, fr⟩ 1 m__law_cut).b (defBody (top 24))).isSome = true := by kernel_rfl
theorem ok__law_cut (X : K.In h) (G : h.Ns mainGlobals mg) (c : He.SaysD fa fn K) : GFn P w K mg base "_law_cut" f__law_cut := by
  obtain ⟨fd, F⟩ := c.def_ 4 (d := dd "_law_cut" 24) rfl
  exact ⟨_, fd, ["_law_feed_here", "_law_rows"], He.glo_ok X G (c.fact 4 (f := .glo "_law_cut") rfl), F.kp, FunD.bindsN F (fun _ _ _ _ _ _ us hl => match us, hl with | [_, _], _ => rfl),
    fn_ok (lv := 1) (io := 1) (N := ["_law_feed_here", "_law_rows", "_law_row"]) (ps := ["_law_feed_here", "_law_rows"]) (st := ["_law_feed_here", "_law_rows", "_law_row"]) (fuel := (fun _ => 0)) F (by decide +kernel) (by decide +kernel) (by decide +kernel) ck__law_cut (fns_cons (ok__law_draw X G c) (by decide) fns_nil) (hgl X G c) (hfr X G c)⟩
theorem ck__law_gates : ((ckS ⟨["_law_rows", "_law_cut_here", "_law_found", "_law_x", "_law_y"], defScope (top 26), ["_law_rows", "_law_cut_here", "_law_found", "_law_x", "_law_y"], g__law_gates, GL, fr⟩ 0 m__law_gates).b (defBody (top 26))).isSome = true := by kernel_rfl
theorem ok__law_gates (X : K.In h) (G : h.Ns mainGlobals mg) (c : He.SaysD fa fn K) : GFn P w K mg base "_law_gates" f__law_gates := by
  obtain ⟨fd, F⟩ := c.def_ 5 (d := dd "_law_gates" 26) rfl
  exact ⟨_, fd, ["_law_rows", "_law_cut_here"], He.glo_ok X G (c.fact 5 (f := .glo "_law_gates") rfl), F.kp, FunD.bindsN F (fun _ _ _ _ _ _ us hl => match us, hl with | [_, _], _ => rfl),
    fn_ok (lv := 0) (io := 0) (N := ["_law_rows", "_law_cut_here", "_law_found", "_law_x", "_law_y"]) (ps := ["_law_rows", "_law_cut_here"]) (st := ["_law_rows", "_law_cut_here", "_law_found", "_law_x", "_law_y"]) (fuel := (fun _ => 0)) F (by decide +kernel) (by decide +kernel) (by decide +kernel) ck__law_gates fns_nil (hgl X G c) (hfr X G c)⟩
theorem ck_is_row : ((ckS ⟨["row", "wide", "height"], defScope (top 14), ["row", "wide", "height"], g_is_row, GL, fr⟩ 0 m_is_row).b (defBody (top 14))).isSome = true := by kernel_rfl
theorem ok_is_row (X : K.In h) (G : h.Ns mainGlobals mg) (c : He.SaysD fa fn K) : GFn P w K mg base "is_row" f_is_row := by
  obtain ⟨fd, F⟩ := c.def_ 6 (d := dd "is_row" 14) rfl
  exact ⟨_, fd, ["row", "wide"], He.glo_ok X G (c.fact 6 (f := .glo "is_row") rfl), F.kp, FunD.bindsN F (fun _ _ _ _ _ _ us hl => match us, hl with | [_, _], _ => rfl),
    fn_ok (lv := 0) (io := 0) (N := ["row", "wide", "height"]) (ps := ["row", "wide"]) (st := ["row", "wide", "height"]) (fuel := (fun _ => 0)) F (by decide +kernel) (by decide +kernel) (by decide +kernel) ck_is_row fns_nil (hgl X G c) (hfr X G c)⟩
theorem ck_ask_table : ((ckS ⟨["rows", "wide", "at"], defScope (top 15), ["rows", "wide", "at"], g_ask_table, GL, fr⟩ 0 m_ask_table).b (defBody (top 15))).isSome = true := by kernel_rfl
theorem ok_ask_table (X : K.In h) (G : h.Ns mainGlobals mg) (c : He.SaysD fa fn K) : GFn P w K mg base "ask_table" f_ask_table := by
  obtain ⟨fd, F⟩ := c.def_ 7 (d := dd "ask_table" 15) rfl
  exact ⟨_, fd, ["rows"], He.glo_ok X G (c.fact 7 (f := .glo "ask_table") rfl), F.kp, FunD.bindsN F (fun _ _ _ _ _ _ us hl => match us, hl with | [_], _ => rfl),
    fn_ok (lv := 1) (io := 0) (N := ["rows", "wide", "at"]) (ps := ["rows"]) (st := ["rows", "wide", "at"]) (fuel := (fun _ => 0)) F (by decide +kernel) (by decide +kernel) (by decide +kernel) ck_ask_table (fns_cons (ok_is_row X G c) (by decide) fns_nil) (hgl X G c) (hfr X G c)⟩
theorem ck_all_points : ((ckS ⟨["rows", "found", "x", "y"], defScope (top 6), ["rows", "found", "x", "y"], g_all_points, GL, fr⟩ 0 m_all_points).b (defBody (top 6))).isSome = true := by kernel_rfl
theorem ok_all_points (X : K.In h) (G : h.Ns mainGlobals mg) (c : He.SaysD fa fn K) : GFn P w K mg base "all_points" f_all_points := by
  obtain ⟨fd, F⟩ := c.def_ 8 (d := dd "all_points" 6) rfl
  exact ⟨_, fd, ["rows"], He.glo_ok X G (c.fact 8 (f := .glo "all_points") rfl), F.kp, FunD.bindsN F (fun _ _ _ _ _ _ us hl => match us, hl with | [_], _ => rfl),
    fn_ok (lv := 0) (io := 0) (N := ["rows", "found", "x", "y"]) (ps := ["rows"]) (st := ["rows", "found", "x", "y"]) (fuel := (fun _ => 0)) F (by decide +kernel) (by decide +kernel) (by decide +kernel) ck_all_points fns_nil (hgl X G c) (hfr X G c)⟩
theorem ck_gate_points : ((ckS ⟨["gate", "x", "y", "way"], defScope (top 3), ["gate", "x", "y", "way"], g_gate_points, GL, fr⟩ 0 m_gate_points).b (defBody (top 3))).isSome = true := by kernel_rfl
theorem ok_gate_points (X : K.In h) (G : h.Ns mainGlobals mg) (c : He.SaysD fa fn K) : GFn P w K mg base "gate_points" f_gate_points := by
  obtain ⟨fd, F⟩ := c.def_ 9 (d := dd "gate_points" 3) rfl
  exact ⟨_, fd, ["gate"], He.glo_ok X G (c.fact 9 (f := .glo "gate_points") rfl), F.kp, FunD.bindsN F (fun _ _ _ _ _ _ us hl => match us, hl with | [_], _ => rfl),
    fn_ok (lv := 0) (io := 0) (N := ["gate", "x", "y", "way"]) (ps := ["gate"]) (st := ["gate", "x", "y", "way"]) (fuel := (fun _ => 0)) F (by decide +kernel) (by decide +kernel) (by decide +kernel) ck_gate_points fns_nil (hgl X G c) (hfr X G c)⟩
theorem ck_has_point : ((ckS ⟨["rows", "x", "y"], defScope (top 1), ["rows", "x", "y"], g_has_point, GL, fr⟩ 0 m_has_point).b (defBody (top 1))).isSome = true := by kernel_rfl
theorem ok_has_point (X : K.In h) (G : h.Ns mainGlobals mg) (c : He.SaysD fa fn K) : GFn P w K mg base "has_point" f_has_point := by
  obtain ⟨fd, F⟩ := c.def_ 10 (d := dd "has_point" 1) rfl
  exact ⟨_, fd, ["rows", "x", "y"], He.glo_ok X G (c.fact 10 (f := .glo "has_point") rfl), F.kp, FunD.bindsN F (fun _ _ _ _ _ _ us hl => match us, hl with | [_, _, _], _ => rfl),
    fn_ok (lv := 0) (io := 0) (N := ["rows", "x", "y"]) (ps := ["rows", "x", "y"]) (st := ["rows", "x", "y"]) (fuel := (fun _ => 0)) F (by decide +kernel) (by decide +kernel) (by decide +kernel) ck_has_point fns_nil (hgl X G c) (hfr X G c)⟩
theorem ck_is_gate : ((ckS ⟨["rows", "gate", "one", "other"], defScope (top 4), ["rows", "gate", "one", "other"], g_is_gate, GL, fr⟩ 0 m_is_gate).b (defBody (top 4))).isSome = true := by kernel_rfl
theorem ok_is_gate (X : K.In h) (G : h.Ns mainGlobals mg) (c : He.SaysD fa fn K) : GFn P w K mg base "is_gate" f_is_gate := by
  obtain ⟨fd, F⟩ := c.def_ 11 (d := dd "is_gate" 4) rfl
  exact ⟨_, fd, ["rows", "gate"], He.glo_ok X G (c.fact 11 (f := .glo "is_gate") rfl), F.kp, FunD.bindsN F (fun _ _ _ _ _ _ us hl => match us, hl with | [_, _], _ => rfl),
    fn_ok (lv := 1) (io := 0) (N := ["rows", "gate", "one", "other"]) (ps := ["rows", "gate"]) (st := ["rows", "gate", "one", "other"]) (fuel := (fun _ => 0)) F (by decide +kernel) (by decide +kernel) (by decide +kernel) ck_is_gate (fns_cons (ok_gate_points X G c) (by decide) (fns_cons (ok_has_point X G c) (by decide) fns_nil)) (hgl X G c) (hfr X G c)⟩
theorem ck_high_at : ((ckS ⟨["rows", "cut", "point"], defScope (top 2), ["rows", "cut", "point"], g_high_at, GL, fr⟩ 0 m_high_at).b (defBody (top 2))).isSome = true := by kernel_rfl
theorem ok_high_at (X : K.In h) (G : h.Ns mainGlobals mg) (c : He.SaysD fa fn K) : GFn P w K mg base "high_at" f_high_at := by
  obtain ⟨fd, F⟩ := c.def_ 12 (d := dd "high_at" 2) rfl
  exact ⟨_, fd, ["rows", "cut", "point"], He.glo_ok X G (c.fact 12 (f := .glo "high_at") rfl), F.kp, FunD.bindsN F (fun _ _ _ _ _ _ us hl => match us, hl with | [_, _, _], _ => rfl),
    fn_ok (lv := 0) (io := 0) (N := ["rows", "cut", "point"]) (ps := ["rows", "cut", "point"]) (st := ["rows", "cut", "point"]) (fuel := (fun _ => 0)) F (by decide +kernel) (by decide +kernel) (by decide +kernel) ck_high_at fns_nil (hgl X G c) (hfr X G c)⟩
theorem ck_is_open : ((ckS ⟨["rows", "cut", "gate", "one", "other"], defScope (top 5), ["rows", "cut", "gate", "one", "other"], g_is_open, GL, fr⟩ 0 m_is_open).b (defBody (top 5))).isSome = true := by kernel_rfl
theorem ok_is_open (X : K.In h) (G : h.Ns mainGlobals mg) (c : He.SaysD fa fn K) : GFn P w K mg base "is_open" f_is_open := by
  obtain ⟨fd, F⟩ := c.def_ 13 (d := dd "is_open" 5) rfl
  exact ⟨_, fd, ["rows", "cut", "gate"], He.glo_ok X G (c.fact 13 (f := .glo "is_open") rfl), F.kp, FunD.bindsN F (fun _ _ _ _ _ _ us hl => match us, hl with | [_, _, _], _ => rfl),
    fn_ok (lv := 2) (io := 0) (N := ["rows", "cut", "gate", "one", "other"]) (ps := ["rows", "cut", "gate"]) (st := ["rows", "cut", "gate", "one", "other"]) (fuel := (fun _ => 0)) F (by decide +kernel) (by decide +kernel) (by decide +kernel) ck_is_open (fns_cons (ok_is_gate X G c) (by decide) (fns_cons (ok_gate_points X G c) (by decide) (fns_cons (ok_high_at X G c) (by decide) fns_nil))) (hgl X G c) (hfr X G c)⟩
theorem ck_open_gates : ((ckS ⟨["rows", "cut", "found", "x", "y", "way"], defScope (top 17), ["rows", "cut", "found", "x", "y", "way"], g_open_gates, GL, fr⟩ 0 m_open_gates).b (defBody (top 17))).isSome = true := by kernel_rfl
theorem ok_open_gates (X : K.In h) (G : h.Ns mainGlobals mg) (c : He.SaysD fa fn K) : GFn P w K mg base "open_gates" f_open_gates := by
  obtain ⟨fd, F⟩ := c.def_ 14 (d := dd "open_gates" 17) rfl
  exact ⟨_, fd, ["rows", "cut"], He.glo_ok X G (c.fact 14 (f := .glo "open_gates") rfl), F.kp, FunD.bindsN F (fun _ _ _ _ _ _ us hl => match us, hl with | [_, _], _ => rfl),
    fn_ok (lv := 3) (io := 0) (N := ["rows", "cut", "found", "x", "y", "way"]) (ps := ["rows", "cut"]) (st := ["rows", "cut", "found", "x", "y", "way"]) (fuel := (fun _ => 0)) F (by decide +kernel) (by decide +kernel) (by decide +kernel) ck_open_gates (fns_cons (ok_all_points X G c) (by decide) (fns_cons (ok_is_open X G c) (by decide) fns_nil)) (hgl X G c) (hfr X G c)⟩
theorem ck_gates : ((ckS ⟨["rows", "cut"], defScope (top 18), ["rows", "cut"], g_gates, GL, fr⟩ 0 m_gates).b (defBody (top 18))).isSome = true := by kernel_rfl
theorem ok_gates (X : K.In h) (G : h.Ns mainGlobals mg) (c : He.SaysD fa fn K) : GFn P w K mg base "gates" f_gates := by
  obtain ⟨fd, F⟩ := c.def_ 15 (d := dd "gates" 18) rfl
  exact ⟨_, fd, ["rows", "cut"], He.glo_ok X G (c.fact 15 (f := .glo "gates") rfl), F.kp, FunD.bindsN F (fun _ _ _ _ _ _ us hl => match us, hl with | [_, _], _ => rfl),
    fn_ok (lv := 4) (io := 0) (N := ["rows", "cut"]) (ps := ["rows", "cut"]) (st := ["rows", "cut"]) (fuel := (fun _ => 0)) F (by decide +kernel) (by decide +kernel) (by decide +kernel) ck_gates (fns_cons (ok_ask_table X G c) (by decide) (fns_cons (ok_open_gates X G c) (by decide) fns_nil)) (hgl X G c) (hfr X G c)⟩
theorem ck_law : ((ckS ⟨["_law_script", "_law_k", "_law_feed_here", "_law_rows", "_law_kept", "_law_cut_here", "_law_due", "_law_found", "_law_row"], defScope (top 27), ["_law_script", "_law_k", "_law_feed_here", "_law_rows", "_law_kept", "_law_cut_here", "_law_due", "_law_found"], g_law, GL, fr⟩ 0 m_law).b (defBody (top 27))).isSome = true := by kernel_rfl
end
theorem facts {P : Program} {w : World} {K : PySem.W.Frag} {h : Heap} {mg : Str → Option Value} {f : Addr} (X : K.In h) (G : h.Ns mainGlobals mg) (hfa : mg ("law" : Str) = some (.ref f)) (c : He.SaysD fa fn K) :
    ∃ fd : FuncData, (∀ (s : Shared) (v : Value), BindsTo s fd ⟨[v], []⟩ [("_law_script", v)]) ∧ ∀ base : Heap, K.In base → base.Ns mainGlobals mg → FnOk P w K mg base (L2.CX P w) 6 f fd ["_law_script"] (spOf K mg f_law) := by
  obtain ⟨fd, F⟩ := c.def_ 16 (d := dd "law" 27) rfl
  have e := hfa.symm.trans (He.glo_ok X G (c.fact 16 (f := .glo "law") rfl))
  cases e
  have b := FunD.bindsA (ps := ["_law_script"]) F fun _ _ _ _ _ _ us hl => match us, hl with | [_], _ => rfl
  refine ⟨fd, fun s v => b s [v] rfl, fun base _ _ => ?_⟩
  exact fn_ok (lv := 5) (io := 0) (N := ["_law_script", "_law_k", "_law_feed_here", "_law_rows", "_law_kept", "_law_cut_here", "_law_due", "_law_found", "_law_row"]) (ps := ["_law_script"]) (st := ["_law_script", "_law_k", "_law_feed_here", "_law_rows", "_law_kept", "_law_cut_here", "_law_due", "_law_found"]) (fuel := (fun _ => 0)) F (by decide +kernel) (by decide +kernel) (by decide +kernel) ck_law (fns_cons (ok__law_feed X G c) (by decide) (fns_cons (ok__law_table X G c) (by decide) (fns_cons (ok__law_cut X G c) (by decide) (fns_cons (ok__law_gates X G c) (by decide) (fns_cons (ok_gates X G c) (by decide) fns_nil))))) (hgl X G c) (hfr X G c)
end Lwk06

open PySem PySem.W PySem.Calls PyProof.Rows
theorem PySem.Challenge.cw_heightrings_k06_gates_listed_holds : PySem.Challenge.rw_heightrings_k06_gates_listed.Holds := by
  w_on; o_law
  refine HandSHeadRun.head_any (r := OpenLaw.row PySem.Challenge.rw_heightrings_k06_gates_listed) (q := view (OpenLaw.row PySem.Challenge.rw_heightrings_k06_gates_listed).prog [27]) (H := Lwk06.hk) (ob := Lwk06.ob) (M := 4000) (loose := Lwk06.lo) (d := HandSHeadRun.topDef (OpenLaw.row PySem.Challenge.rw_heightrings_k06_gates_listed).prog 27) (kwd := []) Lwk06.ob_eq
    (by kernel_rfl) (fun s => by kernel_rfl) Lwk06.run (by kernel_rfl) (by kernel_rfl) (by kernel_rfl) (by rfl) (by first | assumption | decide +kernel) (by decide +kernel) ⟨rfl, rfl, rfl, rfl, rfl, by decide +kernel⟩ ?hw ?hc
  case hw => w_witness2
  case hc =>
    refine Rg.walk_ofX (l := PySem.Challenge.rw_heightrings_k06_gates_listed) (most := 63) (lvl := 6) (par := "_law_script") rfl (by decide) (by kernel_rfl) ⟨rfl, by decide, by decide⟩ ?F
    intro w mg fa h Y G hmg0
    obtain ⟨K, KX, c⟩ := Y
    have hmg : mg ("law" : PySem.Str) = some (.ref fa) := by
      have e : (HandSHeadRun.topDef (OpenLaw.row PySem.Challenge.rw_heightrings_k06_gates_listed).prog 27).name = ("law" : PySem.Str) := by kernel_rfl
      rw [← e]
      exact hmg0
    obtain ⟨fd, hb, hF⟩ := Lwk06.facts (P := (PySem.Challenge.rw_heightrings_k06_gates_listed).prog) (w := w) KX G hmg c
    exact ⟨K, fd, Rg.spOf K mg Lwk06.f_law, KX, hb, fun H a ns hl _ hS => Rg.law_sp rfl rfl (Lwk06.law_true ns hl) hS, hF⟩
