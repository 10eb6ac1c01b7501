import PyProof.Rows.All
import Wide.All
import OpenK.AllK
import Wide.FinOn
import HandS.ForMost
import HandS.ForExc
import HandS.Deep
import HandS.TupAny
import HandS.Walk
import HandS.CallSlots
import HandS.Wide
import HandS.IsInst
import KE.SortData
import PyProof.P3Eq
import KE.SortLaws
import HandS.HeadHook1
import HandS.TupLe
import HandS.TupLen
import HandS.More
import HandS.Dict
import HandS.WordsDict
import KE.DataMinMax
import HandS.DictTup
import HandS.Text
import HandS.ExcOwn
import PyProof.Transfer
import KE.KDictSum
import KE.KDictCopyH
import KE.KDictList
import KE.KDictDisplayH
import PyProof.DictTable
import HandS.SetFor
import HandS.Rev
import HandS.TryOnly
import HandS.HotCalls
import HandS.ExcInit
import HandS.ExcField
import KE.KExcIs
import HandS.ExcIs
import HandS.Hot
import HandS.Conv
import HandS.Set
import HandS.Strs
import HandS.Defaults
import HandS.Codes
import HandS.WordsExc
import HandS.HeadEnd
import HandS.HeadHook2
import HandS.Head0
import HandS.Head1
import HandS.Head2
import PySem.Challenge.RW_heightrings_k63_least_kept
set_option Elab.async false
set_option linter.all false
set_option maxRecDepth 100000
set_option maxHeartbeats 0
namespace Rg
open PySem L2
inductive D where
  | non | bl (b : Bool) | int (i : Int) | str (s : Str)
  | tup (xs : List D) | lst (xs : List D)
  | dT (ks : List (List Key)) (ds : List D) | dK (ks : List Key) (ds : List D)
  | scr (ns : List Int)
  | exn (c : String) (fn : List Str) (fd : List D)
instance : Inhabited D := ⟨.non⟩
inductive R (α : Type) where
  | ok (a : α) | exc (c : String) (fs : List (Str × D)) | stuck
def R.bind {α β : Type} (x : R α) (f : α → R β) : R β := match x with
  | .ok a => f a
  | .exc c fs => .exc c fs
  | .stuck => .stuck
instance : Monad R where
  pure := .ok
  bind := R.bind
@[simp] theorem R.bind_ok {α β : Type} (a : α) (f : α → R β) : (R.ok a >>= f) = f a := rfl
@[simp] theorem R.bind_exc {α β : Type} (c : String) (fs : List (Str × D)) (f : α → R β) : ((R.exc c fs : R α) >>= f) = .exc c fs := rfl
@[simp] theorem R.bind_stuck {α β : Type} (f : α → R β) : ((R.stuck : R α) >>= f) = .stuck := rfl
@[simp] theorem R.pure_eq {α : Type} (a : α) : (pure a : R α) = .ok a := rfl
def R.of {α : Type} : Option α → R α
  | some a => .ok a
  | none => .stuck
@[simp] theorem R.of_some {α : Type} (a : α) : R.of (some a) = .ok a := rfl
@[simp] theorem R.of_none {α : Type} : R.of (none : Option α) = .stuck := rfl
mutual
def imm : D → Bool
  | .non => true
  | .bl _ => true
  | .int _ => true
  | .str _ => true
  | .tup xs => immL xs
  | .lst _ => false
  | .dT _ _ => false
  | .dK _ _ => false
  | .scr _ => false
  | .exn _ _ _ => false
def immL : List D → Bool
  | [] => true
  | x :: r => imm x && immL r
end
inductive Val where
  | fz (d : D) | own (full : Bool) (d : D) | slot (i : Nat)
inductive Slot where
  | un | fz (d : D) | ow (full : Bool) (d : D) | lk (full : Bool) (d : D)
instance : Inhabited Slot := ⟨.un⟩
abbrev Sts := List Slot
def slotD : Slot → Option D
  | .ow _ d => some d
  | _ => none
def dat (τ : Sts) : Val → Option D
  | .fz d => some d
  | .own _ d => some d
  | .slot i => (τ[i]?).bind slotD
def dats (τ : Sts) : List Val → Option (List D)
  | [] => some []
  | v :: r => (dat τ v).bind fun d => (dats τ r).map fun ds => d :: ds
def noSlot : Val → Bool
  | .slot _ => false
  | _ => true
def sto (τ : Sts) : Val → Option (Val × Sts)
  | .slot i => match τ[i]? with
    | some (.ow f d) => some (.own f d, τ.set i .un)
    | _ => none
  | v => some (v, τ)
def stos (τ : Sts) : List Val → Option (List Val × Sts)
  | [] => some ([], τ)
  | v :: r => sto τ v >>= fun p => stos p.2 r >>= fun q => some (p.1 :: q.1, q.2)
def vD : Val → D
  | .fz d => d
  | .own _ d => d
  | .slot _ => .non
def vFull : Val → Bool
  | .fz d => imm d
  | .own f _ => f
  | .slot _ => false
inductive Res where
  | old (d : D) | nt (ds : List D) | nu (ds : List D)
def resV (fz : Bool) : Res → Option Val
  | .old d => if fz || imm d then some (.fz d) else none
  | .nt ds => if fz || immL ds then some (.fz (.tup ds)) else none
  | .nu ds => if immL ds then some (.own true (.lst ds)) else if fz then some (.own false (.lst ds)) else none
mutual
def toPy : D → PyData
  | .non => .none
  | .bl b => .bool b
  | .int i => .int i
  | .str s => .str s
  | .tup xs => .tuple (toPyL xs)
  | .lst xs => .list (toPyL xs)
  | .dT _ _ => .dict []
  | .dK _ _ => .dict []
  | .scr _ => .dict []
  | .exn _ _ _ => .dict []
def toPyL : List D → List PyData
  | [] => []
  | x :: r => toPy x :: toPyL r
end
def keyOf : D → Option Key
  | .int i => some (.inl i)
  | .str s => some (.inr s)
  | _ => none
def keysOf : List D → Option (List Key)
  | [] => some []
  | d :: r => (keyOf d).bind fun k => (keysOf r).map fun ks => k :: ks
def keyD : Key → D
  | .inl i => .int i
  | .inr s => .str s
def look {κ : Type} [DecidableEq κ] (ks : List κ) (ds : List D) (k : κ) : Option D := ((ks.zip ds).find? fun kv => decide (kv.1 = k)).map (·.2)
def mulOk (i j : Int) : Prop := (-(2 ^ 64) < i ∧ i < 2 ^ 64) ∨ (-(2 ^ 64) < j ∧ j < 2 ^ 64) ∨ i.natAbs.log2 + j.natAbs.log2 < 1000000
instance (i j : Int) : Decidable (mulOk i j) := by unfold mulOk; infer_instance
def divOk (j : Int) : Prop := 0 < j ∧ (j < 1073741824 ∨ j.natAbs.log2 < 9000)
instance (j : Int) : Decidable (divOk j) := by unfold divOk; infer_instance
def powOk (i j : Int) : Prop := 0 ≤ j ∧ j ≤ 1000000 ∧ i.natAbs < 2 ^ 64
instance (i j : Int) : Decidable (powOk i j) := by unfold powOk; infer_instance
inductive Prim where
  | add | sub | mul | fdiv | mod | pow | neg
  | lt | le | gt | ge | eq | ne | isN | notN | isB | notB | inn | nin | ind | nind
  | ix | ixd | len | lend | min2 | max2 | abs | sum | minL | maxL | tup | list
  | sorted | isa (t : String)
  | slc (lo hi : Bool) | getd | min3 | max3 | index | count | intOf | strOf | join | split | repl | anyB | allB | rev | lenSet | indexT | neT | sidx
  deriving DecidableEq
def isNonD : D → Bool
  | .non => true
  | _ => false
def eqP (a b : D) : Option Bool := match a, b with
  | .int i, .int j => some (decide (i = j))
  | .str x, .str y => some (decide (x = y))
  | a, b => if SeqAt.shaped (toPy a) && SeqAt.shaped (toPy b) then some (PyData.eqv (toPy a) (toPy b)) else none
def intsOf : List D → Option (List Int)
  | [] => some []
  | .int i :: r => (intsOf r).map fun ns => i :: ns
  | _ => none
def ixD (a i : D) : Option D := match a, i with
  | .lst ds, .int i => atI ds i
  | .tup ds, .int i => atI ds i
  | .scr ns, .int i => (atI ns i).map .int
  | .str s, .int i => if s.length ≤ sizeLine then (atI s.cps.toList i).map fun c => .str ⟨#[c]⟩ else none
  | .dT ks ds, .tup k => (keysOf k).bind fun k => look ks ds k
  | .dK ks ds, .int i => look ks ds (.inl i)
  | .dK ks ds, .str s => look ks ds (.inr s)
  | _, _ => none
def lookD (a k : D) : Option (Option D) := match a, k with
  | .dT ks ds, .tup k => (keysOf k).map fun k => look ks ds k
  | .dK ks ds, .int i => some (look ks ds (.inl i))
  | .dK ks ds, .str s => some (look ks ds (.inr s))
  | _, _ => none
def inD (x a : D) : Option Bool := match a with
  | .lst ds => if SeqAt.shaped (toPy x) && SeqAt.shaped (.list (toPyL ds)) then some ((toPyL ds).any fun z => PyData.eqv z (toPy x)) else none
  | .tup ds => if SeqAt.shaped (toPy x) && SeqAt.shaped (.tuple (toPyL ds)) then some ((toPyL ds).any fun z => PyData.eqv z (toPy x)) else none
  | .dT ks ds => (lookD (.dT ks ds) x).map fun o => o.isSome
  | .dK ks ds => (lookD (.dK ks ds) x).map fun o => o.isSome
  | .str z => match x with
    | .str y => if y.cps.size = 1 then some (decide (y.cps.toList.headD 0 ∈ z.cps.toList)) else none
    | _ => none
  | _ => none
def lenD : D → Option Int
  | .lst ds => some ds.length
  | .tup ds => some ds.length
  | .scr ns => some ns.length
  | .dT ks _ => some ks.length
  | .dK ks _ => some ks.length
  | .str s => if s.length ≤ sizeLine then some s.length else none
  | _ => none
def lenDD : D → Option Int
  | .dT ks ds => some ks.length
  | .dK ks ds => some ks.length
  | _ => none
def minI : List Int → Int
  | [] => 0
  | [x] => x
  | x :: r => min x (minI r)
def maxI : List Int → Int
  | [] => 0
  | [x] => x
  | x :: r => max x (maxI r)
def pAdd : List D → Option Res
  | [.int i, .int j] => some (.old (.int (i + j)))
  | [.str a, .str b] => if a.length + b.length ≤ sizeLine then some (.old (.str (a ++ b))) else none
  | [.tup xs, .tup ys] => if xs.length + ys.length ≤ sizeLine then some (.nt (xs ++ ys)) else none
  | [.lst xs, .lst ys] => if xs.length + ys.length ≤ sizeLine then some (.nu (xs ++ ys)) else none
  | _ => none
def pSub : List D → Option Res
  | [.int i, .int j] => some (.old (.int (i - j)))
  | _ => none
def pMul : List D → Option Res
  | [.int i, .int j] => if mulOk i j then some (.old (.int (i * j))) else none
  | [.lst xs, .int k] => if -(2 ^ 63) ≤ k ∧ k < 2 ^ 63 ∧ xs.length * k.toNat ≤ sizeLine then some (.nu (List.replicate k.toNat xs).flatten) else none
  | [.str s, .int k] => if -(2 ^ 63) ≤ k ∧ k < 2 ^ 63 ∧ s.length * k.toNat ≤ sizeLine then some (.old (.str (Txt.mul s k))) else none
  | _ => none
def divNeg (j : Int) : Prop := j < 0 ∧ j.natAbs.log2 < 9000
instance (j : Int) : Decidable (divNeg j) := by unfold divNeg; infer_instance
def pFdiv : List D → Option Res
  | [.int i, .int j] => if divOk j then some (.old (.int (i / j))) else if divNeg j then some (.old (.int (i.fdiv j))) else none
  | _ => none
def pMod : List D → Option Res
  | [.int i, .int j] => if 0 < j then some (.old (.int (i % j))) else if j < 0 then some (.old (.int (i.fmod j))) else none
  | _ => none
def pPow : List D → Option Res
  | [.int i, .int j] => if powOk i j then some (.old (.int (i ^ j.toNat))) else none
  | _ => none
def pNeg : List D → Option Res
  | [.int i] => some (.old (.int (-i)))
  | _ => none
def pLt : List D → Option Res
  | [.int i, .int j] => some (.old (.bl (decide (i < j))))
  | _ => none
def pLe : List D → Option Res
  | [.int i, .int j] => some (.old (.bl (decide (i ≤ j))))
  | _ => none
def pGt : List D → Option Res
  | [.int i, .int j] => some (.old (.bl (decide (j < i))))
  | _ => none
def pGe : List D → Option Res
  | [.int i, .int j] => some (.old (.bl (decide (j ≤ i))))
  | _ => none
def pEq : List D → Option Res
  | [a, b] => eqP a b >>= fun k => some (.old (.bl k))
  | _ => none
def pNe : List D → Option Res
  | [a, b] => eqP a b >>= fun k => some (.old (.bl (!k)))
  | _ => none
def pIsN : List D → Option Res
  | [a, .non] => some (.old (.bl (isNonD a)))
  | _ => none
def pNotN : List D → Option Res
  | [a, .non] => some (.old (.bl (!isNonD a)))
  | _ => none
def pIsB : List D → Option Res
  | [.bl a, .bl b] => some (.old (.bl (decide (a = b))))
  | _ => none
def pNotB : List D → Option Res
  | [.bl a, .bl b] => some (.old (.bl (!decide (a = b))))
  | _ => none
def pInn : List D → Option Res
  | [x, a] => inD x a >>= fun k => some (.old (.bl k))
  | _ => none
def pNin : List D → Option Res
  | [x, a] => inD x a >>= fun k => some (.old (.bl (!k)))
  | _ => none
def pInd : List D → Option Res
  | [x, a] => lookD a x >>= fun o => some (.old (.bl o.isSome))
  | _ => none
def pNind : List D → Option Res
  | [x, a] => lookD a x >>= fun o => some (.old (.bl (!o.isSome)))
  | _ => none
def pIx : List D → Option Res
  | [a, i] => ixD a i >>= fun d => some (.old d)
  | _ => none
def pIxd : List D → Option Res
  | [a, k] => lookD a k >>= fun o => o >>= fun d => some (.old d)
  | _ => none
def pLen : List D → Option Res
  | [a] => lenD a >>= fun n => some (.old (.int n))
  | _ => none
def pLend : List D → Option Res
  | [a] => lenDD a >>= fun n => some (.old (.int n))
  | _ => none
def alikeOk (xs : List D) : Bool := (xs.all fun d => SeqAt.shaped (toPy d) && !isNonD d && xs.all fun e => PySem.W.alike (toPy d) (toPy e)) && !xs.isEmpty
def ltP (a b : D) : Bool := PySem.W.dataLt (toPy a) (toPy b)
def minF : List D → D
  | [] => .non
  | x :: r => r.foldl (fun a y => if ltP y a then y else a) x
def maxF : List D → D
  | [] => .non
  | x :: r => r.foldl (fun a y => if ltP a y then y else a) x
def pMin2 : List D → Option Res
  | [.int i, .int j] => some (.old (.int (if j < i then j else i)))
  | _ => none
def pMax2 : List D → Option Res
  | [.int i, .int j] => some (.old (.int (if j > i then j else i)))
  | _ => none
def pMin3 : List D → Option Res
  | [.int i, .int j, .int k] => some (.old (.int (min (min i j) k)))
  | _ => none
def pMax3 : List D → Option Res
  | [.int i, .int j, .int k] => some (.old (.int (max (max i j) k)))
  | _ => none
def pAbs : List D → Option Res
  | [.int i] => some (.old (.int (if i < 0 then -i else i)))
  | _ => none
def pSum : List D → Option Res
  | [.lst xs] => intsOf xs >>= fun ns => some (.old (.int ns.sum))
  | _ => none
def minLL (xs : List D) : Option D := match intsOf xs with
  | some ns => if ns = [] then none else some (.int (minI ns))
  | none => if alikeOk xs then some (minF xs) else none
def maxLL (xs : List D) : Option D := match intsOf xs with
  | some ns => if ns = [] then none else some (.int (maxI ns))
  | none => if alikeOk xs then some (maxF xs) else none
def pMinL : List D → Option Res
  | [.lst xs] => minLL xs >>= fun d => some (.old d)
  | [.tup xs] => if alikeOk xs then some (.old (minF xs)) else none
  | _ => none
def pMaxL : List D → Option Res
  | [.lst xs] => maxLL xs >>= fun d => some (.old d)
  | [.tup xs] => if alikeOk xs then some (.old (maxF xs)) else none
  | _ => none
def pTup : List D → Option Res
  | [.lst xs] => some (.nt xs)
  | [.tup xs] => some (.nt xs)
  | _ => none
def keyT (k : List Key) : D := .tup (k.map keyD)
def pList : List D → Option Res
  | [.lst xs] => some (.nu xs)
  | [.tup xs] => some (.nu xs)
  | [.dT ks _] => some (.nu (ks.map keyT))
  | _ => none
def tupNe : D → Bool
  | .tup (_ :: _) => true
  | _ => false
def noTup : D → Bool
  | .tup _ => false
  | .non => false
  | _ => true
def sortOk (ds : List D) : Bool := (ds.all fun d => SeqAt.shaped (toPy d) && ds.all fun e => PySem.W.alike (toPy d) (toPy e)) && (ds.all tupNe || ds.all noTup) && decide (ds.length ≤ sizeLine)
def leD : D → D → Bool := PySem.W.dataLe false toPy
def pSorted : List D → Option Res
  | [.lst xs] => if sortOk xs then some (.nu (xs.mergeSort leD)) else none
  | [.dT ks _] => if sortOk (ks.map keyT) then some (.nu ((ks.map keyT).mergeSort leD)) else none
  | [.tup xs] => if sortOk xs then some (.nu (xs.mergeSort leD)) else none
  | _ => none
def tyName : D → Option String
  | .non => some "NoneType"
  | .bl _ => some "bool"
  | .int _ => some "int"
  | .str _ => some "str"
  | .tup _ => some "tuple"
  | .lst _ => some "list"
  | _ => none
def pIsa (t : String) : List D → Option Res
  | [d] => tyName d >>= fun a => kitB a t >>= fun b => some (.old (.bl b))
  | _ => none
def cutL {α : Type} (xs : List α) (lo hi : Option Int) : List α := (xs.drop (HT.sIx xs.length 0 lo)).take (HT.sIx xs.length xs.length hi - HT.sIx xs.length 0 lo)
def loHi : Bool → Bool → List D → Option (Option Int × Option Int)
  | true, true, [.int a, .int b] => some (some a, some b)
  | true, false, [.int a] => some (some a, none)
  | false, true, [.int b] => some (none, some b)
  | false, false, [] => some (none, none)
  | _, _, _ => none
def cutD (a : D) (lo hi : Option Int) : Option Res := match a with
  | .lst xs => some (.nu (cutL xs lo hi))
  | .tup xs => some (.nt (cutL xs lo hi))
  | .str s => if s.length ≤ sizeLine then some (.old (.str ⟨(cutL s.cps.toList lo hi).toArray⟩)) else none
  | _ => none
def pSlc (lo hi : Bool) : List D → Option Res
  | a :: r => loHi lo hi r >>= fun p => cutD a p.1 p.2
  | _ => none
def pGetd : List D → Option Res
  | [a, k, z] => lookD a k >>= fun o => some (.old (o.getD z))
  | [a, k] => lookD a k >>= fun o => some (.old (o.getD .non))
  | _ => none
def pIndex : List D → Option Res
  | [.lst xs, x] => if SeqAt.shaped (toPy x) && SeqAt.shaped (.list (toPyL xs)) then ((toPyL xs).findIdx? fun z => PyData.eqv z (toPy x)) >>= fun j => some (.old (.int (j : Nat))) else none
  | _ => none
def pIndexT : List D → Option Res
  | [.tup xs, x] => if SeqAt.shaped (toPy x) && SeqAt.shaped (.tuple (toPyL xs)) then ((toPyL xs).findIdx? fun z => PyData.eqv z (toPy x)) >>= fun j => some (.old (.int (j : Nat))) else none
  | _ => none
def pCount : List D → Option Res
  | _ => none
def pIntOf : List D → Option Res
  | [.int i] => some (.old (.int i))
  | [.bl b] => some (.old (.int (if b then 1 else 0)))
  | [.str s] => PySem.intText? s >>= fun n => if s.length ≤ 640 then some (.old (.int n)) else none
  | _ => none
def pStrOf : List D → Option Res
  | [.int i] => if i.natAbs.log2 < 1920 then some (.old (.str (toString i))) else none
  | _ => none
def blsOf : List D → Option (List Bool)
  | [] => some []
  | .bl b :: r => (blsOf r).map fun ns => b :: ns
  | _ => none
def pAnyB : List D → Option Res
  | [.lst xs] => blsOf xs >>= fun bs => some (.old (.bl (bs.any id)))
  | _ => none
def pAllB : List D → Option Res
  | [.lst xs] => blsOf xs >>= fun bs => some (.old (.bl (bs.all id)))
  | _ => none
def strsOf : List D → Option (List Str)
  | [] => some []
  | .str b :: r => (strsOf r).map fun ns => b :: ns
  | _ => none
def pJoin : List D → Option Res
  | [.str a, .lst xs] => strsOf xs >>= fun ys => if (ys.map (·.length)).sum + ys.length * a.length ≤ 16777216 then some (.old (.str (Txt.join a ys))) else none
  | _ => none
def pSplit : List D → Option Res
  | [.str a, .str b] => if (b.length == 0) = false ∧ a.length + 2 ≤ sizeLine then some (.nu ((Txt.split a b).map D.str)) else none
  | _ => none
def pSidx : List D → Option Res
  | [.str a, .str b] => match Builtin.Str.occurrences a b 0 a.length 1 with
    | i :: _ => some (.old (.int (i : Nat)))
    | [] => none
  | _ => none
def pRev : List D → Option Res
  | [.lst xs] => some (.nu xs.reverse)
  | _ => none
def primD : Prim → List D → Option Res
  | .slc lo hi => pSlc lo hi
  | .getd => pGetd
  | .min3 => pMin3
  | .max3 => pMax3
  | .index => pIndex
  | .count => pCount
  | .intOf => pIntOf
  | .strOf => pStrOf
  | .join => pJoin
  | .split => pSplit
  | .repl => fun _ => none
  | .anyB => pAnyB
  | .allB => pAllB
  | .rev => pRev
  | .indexT => pIndexT
  | .sidx => pSidx
  | .neT => fun _ => none
  | .lenSet => fun _ => none
  | .sorted => pSorted
  | .isa t => pIsa t
  | .add => pAdd
  | .sub => pSub
  | .mul => pMul
  | .fdiv => pFdiv
  | .mod => pMod
  | .pow => pPow
  | .neg => pNeg
  | .lt => pLt
  | .le => pLe
  | .gt => pGt
  | .ge => pGe
  | .eq => pEq
  | .ne => pNe
  | .isN => pIsN
  | .notN => pNotN
  | .isB => pIsB
  | .notB => pNotB
  | .inn => pInn
  | .nin => pNin
  | .ind => pInd
  | .nind => pNind
  | .ix => pIx
  | .ixd => pIxd
  | .len => pLen
  | .lend => pLend
  | .min2 => pMin2
  | .max2 => pMax2
  | .abs => pAbs
  | .sum => pSum
  | .minL => pMinL
  | .maxL => pMaxL
  | .tup => pTup
  | .list => pList
inductive Mut1 where
  | append | pop | popAt | insert | clear | setAt | extend | remove
  deriving DecidableEq
def mAppend (f : Bool) (xs : List D) : List Val → Option (Bool × List D × D)
  | [v] => if xs.length < sizeLine then some (f && vFull v, xs ++ [vD v], .non) else none
  | _ => none
def mPop (f : Bool) (xs : List D) : List Val → Option (Bool × List D × D)
  | [] => match xs[xs.length - 1]? with
    | some y => if imm y then some (f, xs.dropLast, y) else none
    | none => none
  | _ => none
def mPopAt (f : Bool) (xs : List D) : List Val → Option (Bool × List D × D)
  | [.fz (.int i)] => match seqIndex? i xs.length with
    | some k => match xs[k]? with
      | some y => if imm y ∧ -(2 ^ 63) ≤ i ∧ i < 2 ^ 63 then some (f, xs.eraseIdx k, y) else none
      | none => none
    | none => none
  | _ => none
def mInsert (f : Bool) (xs : List D) : List Val → Option (Bool × List D × D)
  | [.fz (.int i), v] => if xs.length < sizeLine ∧ 0 ≤ i ∧ i < 2 ^ 63 then some (f && vFull v, xs.take i.toNat ++ [vD v] ++ xs.drop i.toNat, .non) else none
  | _ => none
def mClear (f : Bool) (xs : List D) : List Val → Option (Bool × List D × D)
  | [] => some (true, [], .non)
  | _ => none
def mSetAt (f : Bool) (xs : List D) : List Val → Option (Bool × List D × D)
  | [v, .fz (.int k)] => (ixN xs.length k).map fun j => (f && vFull v, xs.set j (vD v), .non)
  | _ => none
def mExtend (f : Bool) (xs : List D) : List Val → Option (Bool × List D × D)
  | [.fz (.lst ys)] => if xs.length + ys.length ≤ sizeLine then some (f && immL ys, xs ++ ys, .non) else none
  | [.own g (.lst ys)] => if xs.length + ys.length ≤ sizeLine then some (f && g, xs ++ ys, .non) else none
  | _ => none
def mRemove (f : Bool) (xs : List D) : List Val → Option (Bool × List D × D)
  | [.fz (.int k)] => match intsOf xs with
    | some ns => match ns.findIdx? (fun n => decide (n = k)) with
      | some j => some (f, xs.eraseIdx j, .non)
      | none => none
    | none => none
  | _ => none
def mutL : Mut1 → Bool → List D → List Val → Option (Bool × List D × D)
  | .append => mAppend
  | .pop => mPop
  | .popAt => mPopAt
  | .insert => mInsert
  | .clear => mClear
  | .setAt => mSetAt
  | .extend => mExtend
  | .remove => mRemove
def putT {κ : Type} [DecidableEq κ] (f : Bool) (ks : List κ) (ds : List D) (k : κ) (v : Val) : Option (Bool × List κ × List D) :=
  if ks.length < sizeLine then
    if k ∈ ks then if imm (vD v) then some (f, ks, List.zipWith (fun q d => if q = k then vD v else d) ks ds) else none
    else some (f && vFull v, ks ++ [k], ds ++ [vD v])
  else none
def putD (f : Bool) (d : D) : List Val → Option (Bool × D)
  | [v, .fz k] => match d with
    | .dT ks ds => match k with
      | .tup k => (keysOf k).bind fun k => (putT f ks ds k v).map fun z => (z.1, .dT z.2.1 z.2.2)
      | _ => none
    | .dK ks ds => (keyOf k).bind fun k => (putT f ks ds k v).map fun z => (z.1, .dK z.2.1 z.2.2)
    | _ => none
  | _ => none
structure Fn where
  lv : Nat
  io : Nat
  ow : Nat
  ar : Nat
  run : List D → R (D × List D)
def intsL : List D → Option (List Int)
  | [] => some []
  | .int n :: r => (intsL r).map fun l => n :: l
  | _ :: _ => none
def insI (x : Int) : List Int → List Int
  | [] => [x]
  | y :: l => if x < y then x :: y :: l else if x = y then y :: l else y :: insI x l
def setI (l : List Int) : List Int := l.foldr insI []
inductive E where
  | var (i : Nat) | cst (d : D) | glb (x : Str) (d : D)
  | prim (p : Prim) (args : E)
  | and (a b : E) | or (a b : E) | not (a : E) | ite (c a b : E)
  | chain (p q : Prim) (a b c : E)
  | tup (args : E) | lst (args : E) | dnewT | dnewK
  | call (k : Nat) (args : E)
  | mut (m : Mut1) (i : Nat) (args : E)
  | mut2 (m : Mut1) (i : Nat) (pre k args : E)
  | dput (i : Nat) (args : E)
  | dlit (k v : E)
  | dispC (ps : List (List Int × Int))
  | meth (p : Prim) (a args : E)
  | slcL (a lo : E) | slcU (a hi : E) | slcB (a lo hi : E)
  | comp (tg : List Nat) (one : Bool) (it cond elt : E)
  | yes
  | nil | cons (a r : E)
  | iZip (a b : E) | iKeys (a : E)
  | iRange (a : E) | iRange2 (a b : E) | iSeq (a : E) | iRev (a : E) | iEnum (a : E)
  | isx (t : String) (cs : List String) (a : E) | attr (a : E) (f : Str) (cs : List String)
  | callI (ks : List Nat) (i args : E) | callM (k : Nat) (args : E) | tupO (args : E) | rd (p : Prim) (args : E)
  | catO (i : Nat) (b : E) | takeO (i : Nat) (b : E)
  | iStr (a : E)
  | iIx (args : E)
  | tupR (a : E)
  | sortO (i : Nat)
  | sortSet (a : E)
def boolOf (τ : Sts) (v : Val) : Option Bool := match dat τ v with
  | some (.bl b) => some b
  | _ => none
def put1 (τ : Sts) (i : Nat) (s : Slot) : Option Sts := match τ[i]? with
  | some (.lk _ _) => none
  | some _ => some (τ.set i s)
  | none => none
def putL (τ : Sts) : List Nat → List D → Option Sts
  | [], [] => some τ
  | i :: r, d :: ds => put1 τ i (.fz d) >>= fun τ' => putL τ' r ds
  | _, _ => none
def bindTg (tg : List Nat) (one : Bool) (τ : Sts) (d : D) : Option Sts := match one, d with
  | true, d => putL τ tg [d]
  | false, .tup ds => putL τ tg ds
  | _, _ => none
def bindU (tg : List Nat) (τ : Sts) (d : D) : Option Sts := match d with
  | .tup ds => putL τ tg ds
  | .lst ds => putL τ tg ds
  | _ => none
def wipeS (τ : Sts) : List Nat → Sts
  | [] => τ
  | i :: r => (wipeS τ r).set i .un
def unlocked (τ : Sts) (tg : List Nat) : Bool := tg.all fun i => match τ[i]? with
  | some (.un) => true
  | some (.fz _) => true
  | _ => false
def wipeC (τ : Sts) (tg : List Nat) : Option Sts := if unlocked τ tg then some (wipeS τ tg) else none
def lock (τ : Sts) : Option Nat → Sts
  | none => τ
  | some i => match τ[i]? with
    | some (.ow f d) => τ.set i (.lk f d)
    | _ => τ
def unlock (τ0 τ : Sts) : Option Nat → Option Sts
  | none => some τ
  | some i => match τ[i]?, τ0[i]? with
    | some (.lk _ _), some (.ow f d) => some (τ.set i (.ow f d))
    | _, _ => none
def seqOf (τ : Sts) (tupToo : Bool) : Val → Option (List D × Option Nat)
  | .slot i => match τ[i]? with
    | some (.ow _ (.lst ds)) => if immL ds then some (ds, some i) else none
    | _ => none
  | v => match dat τ v with
    | some (.lst ds) => some (ds, none)
    | some (.tup ds) => if tupToo then some (ds, none) else none
    | _ => none
def ixWalk (τ : Sts) : List Val → Option (List D × Nat)
  | [.slot i, .fz (.int j)] => match τ[i]? with
    | some (.ow true (.lst xs)) => match atI xs j with
      | some (.lst ys) => if immL ys then some (ys, i) else none
      | _ => none
    | _ => none
  | _ => none
def compGo (step : Sts → D → R (Option Val × Sts)) : List D → List D → Bool → Sts → R (Bool × List D × Sts)
  | [], acc, full, τ => .ok (full, acc, τ)
  | d :: r, acc, full, τ => step τ d >>= fun p => match p.1 with
    | some v => if acc.length < sizeLine then compGo step r (acc ++ [vD v]) (full && vFull v) p.2 else .stuck
    | none => compGo step r acc full p.2
def ioData (τ : Sts) : List Nat → Option (List D)
  | [] => some []
  | i :: r => match τ[i]? with
    | some (.ow true d) => (ioData τ r).map fun ds => d :: ds
    | _ => none
def setIo (τ : Sts) : List Nat → List D → Option Sts
  | [], [] => some τ
  | i :: r, d :: ds => setIo (τ.set i (.ow true d)) r ds
  | _, _ => none
def slotIn (ios : List Nat) : Val → Bool
  | .slot i => decide (i ∈ ios)
  | _ => false
def slotsOf : List Val → Option (List Nat)
  | [] => some []
  | .slot i :: r => (slotsOf r).map fun is => i :: is
  | _ => none
def callS (f : Fn) (vs : List Val) (τ : Sts) : R (Val × Sts) :=
  match slotsOf (vs.take f.io), dats τ (vs.drop f.io) with
  | some ios, some ds => if ios.Nodup ∧ (vs.drop f.io).any (slotIn ios) = false ∧ vs.length = f.ar ∧ f.io ≤ f.ar ∧ f.ow = f.io then
      match ioData τ ios with
      | some es => f.run (es ++ ds) >>= fun r => R.of (setIo τ ios r.2) >>= fun τ' => .ok (if imm r.1 then .fz r.1 else .own true r.1, τ')
      | none => .stuck
    else .stuck
  | _, _ => .stuck
def callO (f : Fn) (d : D) (r : List Val) (τ : Sts) : R (Val × Sts) := match dats τ r with
  | some ds => if r.length + 1 = f.ar ∧ f.ow = f.io then f.run (d :: ds) >>= fun q => .ok (if imm q.1 then .fz q.1 else .own true q.1, τ) else .stuck
  | none => .stuck
def ownV1 : List Val → Option D
  | [.own true d] => some d
  | _ => none
def callM (f : Fn) (vs : List Val) (τ : Sts) : R (Val × Sts) :=
  match slotsOf (vs.take f.io), ownV1 ((vs.drop f.io).take 1), dats τ (vs.drop (f.io + 1)) with
  | some ios, some d, some ds => if ios.Nodup ∧ (vs.drop (f.io + 1)).any (slotIn ios) = false ∧ vs.length = f.ar ∧ f.io + 1 ≤ f.ar ∧ f.ow = f.io + 1 then
      match ioData τ ios with
      | some es => f.run (es ++ (d :: ds)) >>= fun r => R.of (setIo τ ios r.2) >>= fun τ' => .ok (if imm r.1 then .fz r.1 else .own true r.1, τ')
      | none => .stuck
    else .stuck
  | _, _, _ => .stuck
def callD (f : Fn) (vs : List Val) (τ : Sts) : R (Val × Sts) := match vs with
  | .own true d :: r => if f.io = 1 then callO f d r τ else callS f (.own true d :: r) τ
  | vs => callS f vs τ
def R.calm {α : Type} : R α → R α
  | .ok a => .ok a
  | _ => .stuck
@[simp] theorem R.calm_ok {α : Type} (a : α) : (R.ok a).calm = .ok a := rfl
@[simp] theorem R.calm_stuck {α : Type} : (R.stuck : R α).calm = .stuck := rfl
def methTy : Prim → D → Bool
  | .getd, .dT _ _ => true
  | .getd, .dK _ _ => true
  | .index, .lst _ => true
  | .indexT, .tup _ => true
  | .count, .lst _ => true
  | .sidx, .str _ => true
  | .join, .str _ => true
  | .split, .str _ => true
  | .repl, .str _ => true
  | _, _ => false
def intV : Val → Option Int
  | .fz (.int i) => some i
  | _ => none
def primV (p : Prim) (vs : List Val) (τ : Sts) : R (Val × Sts) := R.of (dats τ vs) >>= fun ds => R.of (primD p ds) >>= fun q => R.of (resV (vs.all noSlot) q) >>= fun v => .ok (v, τ)
def int2 : List D → Option (Int × Int)
  | [.int a, .int b] => some (a, b)
  | _ => none
def zip2 : List D → Option (List D)
  | [.lst xs, .lst ys] => some ((xs.zip ys).map fun p => .tup [p.1, p.2])
  | _ => none
def zipOf (τ : Sts) (vs : List Val) : Option (List D × Option Nat) := match vs with
  | [v, .slot i] => match τ[i]? with
    | some (.ow _ (.lst ys)) => match noSlot v, dat τ v with
      | true, some (.lst xs) => if immL ys then some ((xs.zip ys).map fun p => .tup [p.1, p.2], some i) else none
      | _, _ => none
    | _ => none
  | vs => if vs.all noSlot then ((dats τ vs).bind zip2).map fun ds => (ds, none) else none
def resD : Res → D
  | .old d => d
  | .nt ds => .tup ds
  | .nu ds => .lst ds
def isI : D → Option Unit
  | .int _ => some ()
  | _ => none
mutual
def pev : E → Sts → Option D
  | .var i, τ => match τ[i]? with
    | some (.fz d) => some d
    | some (.ow _ d) => some d
    | _ => none
  | .cst d, _ => some d
  | .prim p args, τ => pevs args τ >>= fun ds => primD p ds >>= fun r => some (resD r)
  | .slcL a lo, τ => pev a τ >>= fun x => pev lo τ >>= fun l => isI l >>= fun _ => primD (.slc true false) [x, l] >>= fun r => some (resD r)
  | _, _ => none
def pevs : E → Sts → Option (List D)
  | .nil, _ => some []
  | .cons a r, τ => pev a τ >>= fun x => pevs r τ >>= fun y => some (x :: y)
  | _, _ => none
end
def subX (c d : String) : Bool := c == d || d == "HeightError" || d == "ValueError"
abbrev Env1 := List (Str × Fn)
mutual
def ev (Γ : Env1) : E → Sts → R (Val × Sts)
  | .var i, τ => match τ[i]? with
    | some (.fz d) => .ok (.fz d, τ)
    | some (.ow _ _) => .ok (.slot i, τ)
    | _ => .stuck
  | .cst d, τ => .ok (.fz d, τ)
  | .glb _ d, τ => .ok (.fz d, τ)
  | .yes, τ => .ok (.fz (.bl true), τ)
  | .prim p args, τ => evs Γ args τ >>= fun r => R.of (dats r.2 r.1) >>= fun ds => R.of (primD p ds) >>= fun q => R.of (resV (r.1.all noSlot) q) >>= fun v => .ok (v, r.2)
  | .and a b, τ => ev Γ a τ >>= fun r => R.of (boolOf r.2 r.1) >>= fun c => if c then ev Γ b r.2 else .ok (.fz (.bl false), r.2)
  | .or a b, τ => ev Γ a τ >>= fun r => R.of (boolOf r.2 r.1) >>= fun c => if c then .ok (.fz (.bl true), r.2) else ev Γ b r.2
  | .not a, τ => ev Γ a τ >>= fun r => R.of (boolOf r.2 r.1) >>= fun c => .ok (.fz (.bl (!c)), r.2)
  | .ite c a b, τ => ev Γ c τ >>= fun r => R.of (boolOf r.2 r.1) >>= fun k => if k then ev Γ a r.2 else ev Γ b r.2
  | .chain p q a b c, τ => ev Γ a τ >>= fun ra => ev Γ b ra.2 >>= fun rb => R.of (dats rb.2 [ra.1, rb.1]) >>= fun ds => R.of (primD p ds) >>= fun z => match z with
      | .old (.bl true) => ev Γ c rb.2 >>= fun rc => R.of (dats rc.2 [rb.1, rc.1]) >>= fun es => R.of (primD q es) >>= fun z => R.of (resV false z) >>= fun v => .ok (v, rc.2)
      | .old (.bl false) => .ok (.fz (.bl false), rb.2)
      | _ => .stuck
  | .tup args, τ => evs Γ args τ >>= fun r => R.of (stos r.2 r.1) >>= fun q => if q.1.length ≤ sizeLine then .ok (.fz (.tup (q.1.map vD)), q.2) else .stuck
  | .lst args, τ => evs Γ args τ >>= fun r => R.of (stos r.2 r.1) >>= fun q => if q.1.length ≤ sizeLine then .ok (.own (q.1.all vFull) (.lst (q.1.map vD)), q.2) else .stuck
  | .dnewT, τ => .ok (.own true (.dT [] []), τ)
  | .dnewK, τ => .ok (.own true (.dK [] []), τ)
  | .call k args, τ => evs Γ args τ >>= fun r => match Γ[k]? with
    | some f => callD f.2 r.1 r.2
    | none => .stuck
  | .mut m i args, τ => match τ[i]? with
    | some (.ow _ (.lst _)) => evs Γ args τ >>= fun r => R.of (stos r.2 r.1) >>= fun q => match q.2[i]? with
      | some (.ow f (.lst xs)) => R.of (mutL m f xs q.1) >>= fun z => .ok (.fz z.2.2, q.2.set i (.ow z.1 (.lst z.2.1)))
      | _ => .stuck
    | _ => .stuck
  | .meth p a args, τ => ev Γ a τ >>= fun x => R.of (dat x.2 x.1) >>= fun d => if methTy p d then evs Γ args x.2 >>= fun r => R.of (dats r.2 (x.1 :: r.1)) >>= fun ds => R.of (primD p ds) >>= fun q => R.of (resV ((x.1 :: r.1).all noSlot) q) >>= fun v => .ok (v, r.2) else .stuck
  | .dlit k v, τ => ev Γ k τ >>= fun rk => ev Γ v rk.2 >>= fun rv => match rk.1, rv.1 with
    | .fz (.tup kd), .fz d => R.of (keysOf kd) >>= fun k => if imm d then .ok (.own true (.dT [k] [d]), rv.2) else .stuck
    | _, _ => .stuck
  | .tupR a, τ => ev Γ a τ >>= fun r => match r.1 with
    | .fz (.int n) => if 0 ≤ n ∧ n ≤ 1000000 then .ok (.fz (.tup ((List.range n.toNat).map fun k => .int (k : Nat))), r.2) else .stuck
    | _ => .stuck
  | .sortSet a, τ => ev Γ a τ >>= fun r => match r.1 with
    | .fz (.lst xs) => match intsL xs with
      | some ns => if ns.length < 64 then .ok (.own true (.lst ((setI ns).map D.int)), r.2) else .stuck
      | none => .stuck
    | _ => .stuck
  | .sortO i, τ => match τ[i]? with
    | some (.ow f (.lst xs)) => if sortOk xs then .ok (.own f (.lst (xs.mergeSort leD)), τ.set i .un) else .stuck
    | _ => .stuck
  | .dispC ps, τ => if (ps.map (·.1)).Nodup ∧ ps.length ≤ 15 then .ok (.own true (.dT (ps.map fun p => p.1.map Sum.inl) (ps.map fun p => .int p.2)), τ) else .stuck
  | .slcL a lo, τ => ev Γ a τ >>= fun x => ev Γ lo x.2 >>= fun l => R.of (intV l.1) >>= fun _ => primV (.slc true false) [x.1, l.1] l.2
  | .slcU a hi, τ => ev Γ a τ >>= fun x => ev Γ hi x.2 >>= fun l => R.of (intV l.1) >>= fun _ => primV (.slc false true) [x.1, l.1] l.2
  | .slcB a lo hi, τ => ev Γ a τ >>= fun x => ev Γ lo x.2 >>= fun l => R.of (intV l.1) >>= fun _ => ev Γ hi l.2 >>= fun u => R.of (intV u.1) >>= fun _ => primV (.slc true true) [x.1, l.1, u.1] u.2
  | .dput i args, τ => match τ[i]? with
    | some (.ow _ _) => evs Γ args τ >>= fun r => R.of (stos r.2 r.1) >>= fun q => match q.2[i]? with
      | some (.ow f d) => R.of (putD f d q.1) >>= fun z => .ok (.fz .non, q.2.set i (.ow z.1 z.2))
      | _ => .stuck
    | _ => .stuck
  | .mut2 m i pre k args, τ => evs Γ pre τ >>= fun r0 => R.of (stos r0.2 r0.1) >>= fun q0 => match q0.2[i]? with
    | some (.ow true (.lst xs)) => ev Γ k (q0.2.set i .un) >>= fun rk => match rk.1 with
      | .fz (.int j0) => match ixN xs.length j0 with
        | some j => match xs[j]? with
          | some (.lst ys) => evs Γ args rk.2 >>= fun r => R.of (stos r.2 r.1) >>= fun q => match q.2[i]? with
            | some .un => R.of (mutL m true ys (q0.1 ++ q.1)) >>= fun z => .ok (.fz z.2.2, q.2.set i (.ow z.1 (.lst (xs.set j (.lst z.2.1)))))
            | _ => .stuck
          | _ => .stuck
        | none => .stuck
      | _ => .stuck
    | _ => .stuck
  | .comp tg one it cond elt, τ => evI Γ it τ >>= fun s => R.of (wipeC s.2.2 tg) >>= fun τ0 =>
      compGo (fun τ d => R.calm (R.of (bindTg tg one τ d) >>= fun τ1 => ev Γ cond τ1 >>= fun r => R.of (boolOf r.2 r.1) >>= fun k =>
        if k then ev Γ elt r.2 >>= fun r2 => R.of (sto r2.2 r2.1) >>= fun q => R.of (wipeC q.2 tg) >>= fun τ2 => .ok (some q.1, τ2) else R.of (wipeC r.2 tg) >>= fun τ2 => .ok (none, τ2))) s.1 [] true (lock τ0 s.2.1) >>= fun q => R.of (unlock τ0 q.2.2 s.2.1) >>= fun τ3 => .ok (.own q.1 (.lst q.2.1), τ3)
  | .isx t cs a, τ => ev Γ a τ >>= fun r => match r.1 with
    | .fz (.exn c _ _) => if cs.contains c then .ok (.fz (.bl (subX c t)), r.2) else .stuck
    | _ => .stuck
  | .attr a f cs, τ => ev Γ a τ >>= fun r => match r.1 with
    | .fz (.exn c [g] [d]) => if cs.contains c = true ∧ g = f ∧ imm d = true then .ok (.fz d, r.2) else .stuck
    | _ => .stuck
  | .callI ks i args, τ => ev Γ i τ >>= fun ri => match ri.1 with
    | .fz (.int j) => match (ixN ks.length j).bind fun n => (ks[n]?).bind fun k => Γ[k]? with
      | some f => evs Γ args ri.2 >>= fun r => callD f.2 r.1 r.2
      | none => .stuck
    | _ => .stuck
  | .callM k args, τ => evs Γ args τ >>= fun r => match Γ[k]? with
    | some f => if f.2.io = 0 then R.of (stos r.2 r.1) >>= fun q => callM f.2 q.1 q.2 else callM f.2 r.1 r.2
    | none => .stuck
  | .tupO args, τ => evs Γ args τ >>= fun r => R.of (stos r.2 r.1) >>= fun q => if q.1.length ≤ sizeLine then .ok (.own (q.1.all vFull) (.tup (q.1.map vD)), q.2) else .stuck
  | .catO i b, τ => match τ[i]? with
    | some (.ow _ _) => ev Γ b τ >>= fun r => match r.1, r.2[i]? with
      | .own g (.lst ys), some (.ow f (.lst xs)) => if xs.length + ys.length ≤ sizeLine then .ok (.own (f && g) (.lst (xs ++ ys)), r.2.set i .un) else .stuck
      | _, _ => .stuck
    | _ => .stuck
  | .takeO i b, τ => match τ[i]? with
    | some (.ow _ _) => ev Γ b τ >>= fun r => match r.1, r.2[i]? with
      | .fz (.int h), some (.ow f (.lst xs)) => .ok (.own f (.lst (cutL xs none (some h))), r.2.set i .un)
      | _, _ => .stuck
    | _ => .stuck
  | .rd p args, τ => R.of (pevs args τ) >>= fun ds => R.of (primD p ds) >>= fun q => R.of (resV false q) >>= fun v => .ok (v, τ)
  | _, _ => .stuck
def evs (Γ : Env1) : E → Sts → R (List Val × Sts)
  | .nil, τ => .ok ([], τ)
  | .cons a r, τ => ev Γ a τ >>= fun x => evs Γ r x.2 >>= fun y => .ok (x.1 :: y.1, y.2)
  | _, _ => .stuck
/-- what is walked: the items, the slot that is locked, the slots behind it -/
def evI (Γ : Env1) : E → Sts → R (List D × Option Nat × Sts)
  | .iRange a, τ => ev Γ a τ >>= fun r => match dat r.2 r.1 with
    | some (.int n) => if n < 2 ^ 62 ∧ -(2 ^ 62) ≤ n then .ok ((List.range n.toNat).map fun k => .int (k : Nat), none, r.2) else .stuck
    | _ => .stuck
  | .iRange2 a b, τ => ev Γ a τ >>= fun r => ev Γ b r.2 >>= fun q => R.of (dats q.2 [r.1, q.1]) >>= fun ds => R.of (int2 ds) >>= fun p =>
    if -(2 ^ 62) ≤ p.1 ∧ p.1 < 2 ^ 62 ∧ -(2 ^ 62) ≤ p.2 ∧ p.2 < 2 ^ 62 then .ok ((List.range (p.2 - p.1).toNat).map fun (k : Nat) => .int (p.1 + (k : Int)), none, q.2) else .stuck
  | .iSeq a, τ => ev Γ a τ >>= fun r => R.of (seqOf r.2 true r.1) >>= fun s => .ok (s.1, s.2, r.2)
  | .iRev a, τ => ev Γ a τ >>= fun r => R.of (seqOf r.2 true r.1) >>= fun s => .ok (s.1.reverse, s.2, r.2)
  | .iEnum a, τ => ev Γ a τ >>= fun r => R.of (seqOf r.2 false r.1) >>= fun s => .ok (s.1.zipIdx.map fun p => .tup [.int (p.2 : Nat), p.1], s.2, r.2)
  | .iStr a, τ => ev Γ a τ >>= fun r => match dat r.2 r.1 with
    | some (.str s) => if s.length ≤ sizeLine then .ok (s.cps.toList.map fun c => .str ⟨#[c]⟩, none, r.2) else .stuck
    | _ => .stuck
  | .iIx args, τ => evs Γ args τ >>= fun r => R.of (ixWalk r.2 r.1) >>= fun s => .ok (s.1, some s.2, r.2)
  | .iZip a b, τ => ev Γ a τ >>= fun r => ev Γ b r.2 >>= fun q => R.of (zipOf q.2 [r.1, q.1]) >>= fun s => .ok (s.1, s.2, q.2)
  | _, _ => .stuck
end
inductive S where
  | skip
  | seq (a b : S)
  | asg (i : Nat) (e : E)
  | unpack (tg : List Nat) (e : E)
  | par (i j : Nat) (a b : E)
  | expr (e : E)
  | ret (e : E)
  | ifs (c : E) (a b : S)
  | fors (tg : List Nat) (one : Bool) (it : E) (b : S)
  | whl (c : E) (b : S)
  | dropL (i : Nat)
  | spoilT (i k : Nat) (n : Int)
  | set2L (i kk y g : Nat) (v : E)
  | forO (i : Nat) (it : E) (b : S)
  | swp (i : Nat) (k l a b : E)
  | raise (c : String) (f : Option Str) (a : E)
  | try1 (b : S) (cs : List String) (c : String) (as : Option Nat) (s : S)
  | tryK (k : Nat) (b : S) (cs : List String) (c : String) (i : Nat) (s : S)
  | frz (i : Nat)
  | wipe (i : Nat)
  | never
def keepS : Nat → Sts → Sts → Sts
  | 0, _, b => b
  | k + 1, τ, b => match τ[k]? with
    | some (.fz d) => if imm d then (keepS k τ b).set k (.fz d) else keepS k τ b
    | _ => keepS k τ b
inductive Fl where
  | next (τ : Sts) | ret (v : Val) (τ : Sts)
def forGo (step : Sts → D → R Fl) : List D → Sts → R Fl
  | [], τ => .ok (.next τ)
  | d :: r, τ => step τ d >>= fun f => match f with
    | .next τ' => forGo step r τ'
    | .ret v τ' => .ok (.ret v τ')
def whileGo (c : Sts → R (Bool × Sts)) (b : Sts → R Fl) : Nat → Sts → R Fl
  | 0, _ => .stuck
  | n + 1, τ => c τ >>= fun k => if k.1 then b k.2 >>= fun f => match f with
      | .next τ' => whileGo c b n τ'
      | .ret v τ' => .ok (.ret v τ')
    else .ok (.next k.2)
def slotOf : Val → Slot
  | .fz d => .fz d
  | .own f d => .ow f d
  | .slot _ => .un
mutual
/-- no exception stands in it -/
def noX : D → Bool
  | .exn _ _ _ => false
  | .tup xs => noXL xs
  | .lst xs => noXL xs
  | .dT _ xs => noXL xs
  | .dK _ xs => noXL xs
  | _ => true
def noXL : List D → Bool
  | [] => true
  | x :: r => noX x && noXL r
end
def noXS : Slot → Bool
  | .un => true
  | .fz d => noX d
  | .ow _ d => noX d
  | .lk _ _ => false
def exnD (c : String) (fs : List (Str × D)) : D := .exn c (fs.map (·.1)) (fs.map (·.2))
def ex (Γ : Env1) (n : Nat) : S → Sts → R Fl
  | .skip, τ => .ok (.next τ)
  | .seq a b, τ => ex Γ n a τ >>= fun f => match f with
    | .next τ' => ex Γ n b τ'
    | .ret v τ' => .ok (.ret v τ')
  | .asg i e, τ => ev Γ e τ >>= fun r => R.of (sto r.2 r.1) >>= fun q => R.of (put1 q.2 i (slotOf q.1)) >>= fun τ' => .ok (.next τ')
  | .unpack tg e, τ => ev Γ e τ >>= fun r => match r.1 with
    | .fz d => R.of (bindU tg r.2 d) >>= fun τ' => .ok (.next τ')
    | .own _ d => R.of (bindU tg r.2 d) >>= fun τ' => .ok (.next τ')
    | _ => .stuck
  | .par i j a b, τ => ev Γ a τ >>= fun r => ev Γ b r.2 >>= fun q => match r.1, q.1 with
    | .fz d, .fz e => R.of (put1 q.2 i (.fz d)) >>= fun τ1 => R.of (put1 τ1 j (.fz e)) >>= fun τ2 => .ok (.next τ2)
    | _, _ => .stuck
  | .expr e, τ => ev Γ e τ >>= fun r => .ok (.next r.2)
  | .ret e, τ => ev Γ e τ >>= fun r => .ok (.ret r.1 r.2)
  | .ifs c a b, τ => ev Γ c τ >>= fun r => R.of (boolOf r.2 r.1) >>= fun k => if k then ex Γ n a r.2 else ex Γ n b r.2
  | .fors tg one it b, τ => evI Γ it τ >>= fun s => forGo (fun τ d => R.of (bindTg tg one τ d) >>= fun τ' => ex Γ n b τ') s.1 (lock s.2.2 s.2.1) >>= fun f => match f with
    | .next τ' => R.of (unlock s.2.2 τ' s.2.1) >>= fun τ3 => .ok (.next τ3)
    | .ret v τ' => .ok (.ret v τ')
  | .whl c b, τ => whileGo (fun τ => ev Γ c τ >>= fun r => R.of (boolOf r.2 r.1) >>= fun k => .ok (k, r.2)) (fun τ => ex Γ n b τ) n τ
  | .dropL i, τ => match τ[i]? with
    | some (.ow f (.lst xs)) => if xs = [] then .stuck else .ok (.next (τ.set i (.ow f (.lst xs.dropLast))))
    | _ => .stuck
  | .set2L i kk y g v, τ => match evs Γ (.cons v .nil) τ >>= fun r0 => R.of (stos r0.2 r0.1) with
    | .ok q0 => match q0.2[i]?, q0.2[kk]? with
      | some (.ow true (.lst xs)), some (.fz (.int j0)) => match (ixN xs.length j0).bind fun j => xs[j]? with
        | some (.lst ys) => if kk = i then .stuck else ev Γ (.mut2 .setAt i (.cons v .nil) (.var kk) (.cons (.call g (.cons (.var y) (.cons (.cst (.int ys.length)) .nil))) .nil)) τ >>= fun r => .ok (.next r.2)
        | _ => .stuck
      | _, _ => .stuck
    | _ => .stuck
  | .spoilT i k _, τ => match τ[i]? with
    | some (.ow true (.tup xs)) => match xs[k]? with
      | some (.lst ys) => if ys.length < sizeLine then .ok (.next (τ.set i .un)) else .stuck
      | _ => .stuck
    | _ => .stuck
  | .forO i it b, τ => ev Γ it τ >>= fun r => match r.1 with
    | .own true (.lst ds) => forGo (fun τ d => if imm d then .stuck else R.of (put1 τ i (.ow true d)) >>= fun τ' => ex Γ n b τ') ds r.2
    | _ => .stuck
  | .swp i k l a b, τ => ev Γ a τ >>= fun ra => ev Γ b ra.2 >>= fun rb => match ra.1, rb.1 with
    | .fz da, .fz db => if imm da && imm db then ev Γ (.mut .setAt i (.cons (.cst da) (.cons k .nil))) rb.2 >>= fun r1 => ev Γ (.mut .setAt i (.cons (.cst db) (.cons l .nil))) r1.2 >>= fun r2 => .ok (.next r2.2) else .stuck
    | _, _ => .stuck
  | .raise c f a, τ => match f with
    | none => .exc c []
    | some x => ev Γ a τ >>= fun r => match r.1 with
      | .fz d => if imm d then .exc c [(x, d)] else .stuck
      | _ => .stuck
  | .try1 b cs c i s, τ => match ex Γ n b τ with
    | .exc k fs => if cs.contains k = true ∧ fs.length ≤ 1 ∧ (fs.all fun p => imm p.2) = true then if subX k c then
        (match i with
          | none => R.ok (List.replicate τ.length Slot.un)
          | some i => if i < τ.length then R.ok ((List.replicate τ.length Slot.un).set i (.fz (exnD k fs))) else .stuck) >>= fun τ1 => match ex Γ n s τ1 with
          | .ok (.next τ2) => let τ3 := (match i with
              | none => τ2
              | some i => τ2.set i .un)
            if τ3.all noXS then .ok (.next τ3) else .stuck
          | _ => .stuck
        else .exc k fs
      else .stuck
    | r => r
  | .tryK k b cs c i s, τ => match ex Γ n b τ with
    | .exc e fs => if cs.contains e = true ∧ fs.length ≤ 1 ∧ (fs.all fun p => imm p.2) = true then if subX e c then
        if k ≤ i ∧ i < τ.length then match ex Γ n s ((keepS k τ (List.replicate τ.length Slot.un)).set i (.fz (exnD e fs))) with
          | .ok (.next τ2) => if (τ2.set i .un).all noXS then .ok (.next (τ2.set i .un)) else .stuck
          | _ => .stuck
        else .stuck
        else .exc e fs
      else .stuck
    | r => r
  | .wipe i, τ => match τ[i]? with
    | some (.lk _ _) => .stuck
    | some _ => .ok (.next (τ.set i .un))
    | none => .stuck
  | .frz i, τ => match τ[i]? with
    | some (.ow _ d) => .ok (.next (τ.set i (.fz d)))
    | some (.fz _) => .ok (.next τ)
    | _ => .stuck
  | .never, _ => .stuck
def forStep (Γ : Env1) (n : Nat) (tg : List Nat) (one : Bool) (b : S) (τ : Sts) (d : D) : R Fl := R.of (bindTg tg one τ d) >>= fun τ' => ex Γ n b τ'
def compStep (Γ : Env1) (tg : List Nat) (one : Bool) (cond elt : E) (τ : Sts) (d : D) : R (Option Val × Sts) :=
  R.calm (R.of (bindTg tg one τ d) >>= fun τ1 => ev Γ cond τ1 >>= fun r => R.of (boolOf r.2 r.1) >>= fun k =>
        if k then ev Γ elt r.2 >>= fun r2 => R.of (sto r2.2 r2.1) >>= fun q => R.of (wipeC q.2 tg) >>= fun τ2 => .ok (some q.1, τ2) else R.of (wipeC r.2 tg) >>= fun τ2 => .ok (none, τ2))
def entry (io n : Nat) (ds : List D) : Sts := (ds.take io).map (.ow true) ++ (ds.drop io).map .fz ++ List.replicate (n - ds.length) .un
def outV (io : Nat) (τ : Sts) : Val → Option D
  | .fz d => if imm d then some d else none
  | .own true d => some d
  | .own false _ => none
  | .slot i => if i < io then none else match τ[i]? with
    | some (.ow true d) => some d
    | _ => none
def endOf (io : Nat) : R Fl → R (D × List D)
  | .ok (.next τ) => match ioData τ (List.range io) with
    | some es => .ok (.non, es)
    | none => .stuck
  | .ok (.ret v τ) => match outV io τ v, ioData τ (List.range io) with
    | some d, some es => .ok (d, es)
    | _, _ => .stuck
  | .exc c fs => .exc c fs
  | .stuck => .stuck
def Fn.ofW (ow : Nat) (Γ : Env1) (lv io ar n : Nat) (b : S) (fuel : List D → Nat) : Fn := ⟨lv, io, ow, ar, fun ds => if ds.length = ar then endOf io (ex Γ (fuel ds) b (entry ow n ds)) else .stuck⟩
def Fn.of (Γ : Env1) (lv io ar n : Nat) (b : S) (fuel : List D → Nat) : Fn := ⟨lv, io, io, ar, fun ds => if ds.length = ar then endOf io (ex Γ (fuel ds) b (entry io n ds)) else .stuck⟩
theorem obind {α β : Type} {o : Option α} {f : α → Option β} {b : β} (h : (o >>= f) = some b) : ∃ a, o = some a ∧ f a = some b := by
  cases o with
  | none => cases h
  | some a => exact ⟨a, rfl, h⟩
end Rg
namespace Rg
open PySem L2
theorem R.bind_def {α β : Type} (x : R α) (f : α → R β) : (x >>= f) = R.bind x f := rfl
theorem R.b_ok {α β : Type} (a : α) (f : α → R β) : R.bind (.ok a) f = f a := rfl
theorem R.b_exc {α β : Type} (c : String) (fs : List (Str × D)) (f : α → R β) : R.bind (.exc c fs) f = .exc c fs := rfl
theorem R.b_stuck {α β : Type} (f : α → R β) : R.bind .stuck f = .stuck := rfl
def nl : Slot → Bool
  | .lk _ _ => false
  | _ => true
theorem put1_eq (τ : Sts) (i : Nat) (s : Slot) : put1 τ i s = if (τ[i]?).map nl = some true then some (τ.set i s) else none := by
  unfold put1
  cases h : τ[i]? with
  | none => rfl
  | some t => cases t <;> rfl
end Rg
namespace Rg
open PySem L2
section
variable {Γ : Env1} {n : Nat} {τ τ0 τ1 τ' : Sts}
theorem ev_comp {tg : List Nat} {one : Bool} {it cond elt : E} {items : List D} (h : evI Γ it τ = .ok (items, none, τ1)) (hw : wipeC τ1 tg = some τ0) {f : Bool} {xs : List D} (hc : compGo (compStep Γ tg one cond elt) items [] true τ0 = .ok (f, xs, τ')) : ev Γ (.comp tg one it cond elt) τ = .ok (.own f (.lst xs), τ') := by
  unfold compStep at hc
  simp only [ev, h, R.bind_ok, hw, R.of_some, lock, hc, unlock]
theorem ex_for {tg : List Nat} {one : Bool} {it : E} {b : S} {items : List D} (h : evI Γ it τ = .ok (items, none, τ1)) (hf : forGo (forStep Γ n tg one b) items τ1 = .ok (.next τ')) : ex Γ n (.fors tg one it b) τ = .ok (.next τ') := by
  unfold forStep at hf
  simp only [ex, h, R.bind_ok, lock, hf, unlock, R.of_some]
theorem ex_for_ret {tg : List Nat} {one : Bool} {it : E} {b : S} {items : List D} {v : Val} (h : evI Γ it τ = .ok (items, none, τ1)) (hf : forGo (forStep Γ n tg one b) items τ1 = .ok (.ret v τ')) : ex Γ n (.fors tg one it b) τ = .ok (.ret v τ') := by
  unfold forStep at hf
  simp only [ex, h, R.bind_ok, lock, hf]
end
end Rg
namespace Rg
open PySem L2
theorem toPyL_map : ∀ xs : List D, toPyL xs = xs.map toPy
  | [] => by unfold toPyL; rfl
  | x :: r => by unfold toPyL; rw [toPyL_map r]; rfl
def Lay (n : Nat) (d : D) : Prop := (toPy d).canLay0 = true ∧ (toPy d).depth ≤ n
theorem lay_int (n : Nat) (i : Int) : Lay n (.int i) := ⟨by unfold toPy; rfl, by unfold toPy; exact Nat.zero_le n⟩
theorem lay_all : ∀ {xs : List PyData} {n : Nat}, (∀ x ∈ xs, x.canLay0 = true ∧ x.depth ≤ n) → PyData.canLayAll0 xs = true ∧ PyData.depthAll xs ≤ n
  | [], n, _ => ⟨by unfold PyData.canLayAll0; rfl, by unfold PyData.depthAll; exact Nat.zero_le n⟩
  | x :: xs, n, h => by
    have h1 := h x List.mem_cons_self
    have h2 := lay_all (xs := xs) (n := n) fun y hy => h y (List.mem_cons_of_mem _ hy)
    refine ⟨by unfold PyData.canLayAll0; rw [h1.1, h2.1]; rfl, ?_⟩
    unfold PyData.depthAll
    exact Nat.max_le.mpr ⟨h1.2, h2.2⟩
theorem lay_lst {xs : List D} {n : Nat} (h : ∀ x ∈ xs, Lay n x) : Lay (n + 1) (.lst xs) := by
  have := lay_all (xs := xs.map toPy) (n := n) fun y hy => by
    obtain ⟨x, hx, rfl⟩ := List.mem_map.mp hy
    exact h x hx
  unfold Lay toPy
  rw [toPyL_map]
  refine ⟨by unfold PyData.canLay0; exact this.1, ?_⟩
  unfold PyData.depth
  exact Nat.succ_le_succ this.2
theorem lay_tup {xs : List D} {n : Nat} (h : ∀ x ∈ xs, Lay n x) : Lay (n + 1) (.tup xs) := by
  have := lay_all (xs := xs.map toPy) (n := n) fun y hy => by
    obtain ⟨x, hx, rfl⟩ := List.mem_map.mp hy
    exact h x hx
  unfold Lay toPy
  rw [toPyL_map]
  refine ⟨by unfold PyData.canLay0; exact this.1, ?_⟩
  unfold PyData.depth
  exact Nat.succ_le_succ this.2
theorem Lay.sh {d : D} {n : Nat} (h : Lay n d) (hn : n ≤ 64) : SeqAt.shaped (toPy d) = true := by
  unfold SeqAt.shaped
  rw [h.1, Bool.true_and]
  exact decide_eq_true (Nat.le_trans h.2 hn)
theorem ex_seq_next {Γ : Env1} {n : Nat} {a b : S} {τ τ' : Sts} (h : ex Γ n a τ = .ok (.next τ')) : ex Γ n (.seq a b) τ = ex Γ n b τ' := by
  simp only [ex, h, R.bind_ok]
theorem ex_seq_ret {Γ : Env1} {n : Nat} {a b : S} {τ τ' : Sts} {v : Val} (h : ex Γ n a τ = .ok (.ret v τ')) : ex Γ n (.seq a b) τ = .ok (.ret v τ') := by
  simp only [ex, h, R.bind_ok]
def row (r : List Int) : D := .lst (r.map .int)
def tab (rows : List (List Int)) : D := .lst (rows.map row)
theorem ixN_in {n : Nat} {i : Int} (h0 : 0 ≤ i) (h1 : i < n) : ixN n i = some i.toNat := by
  unfold ixN
  rw [if_pos h0, if_pos h1]
def rowAt (rows : List (List Int)) (i : Int) : List Int := rows.getD i.toNat []
def valAt (r : List Int) (i : Int) : Int := r.getD i.toNat 0
structure Good (rows : List (List Int)) (w : Nat) : Prop where
  h2 : 2 ≤ rows.length
  h7 : rows.length ≤ 7
  w2 : 2 ≤ w
  w7 : w ≤ 7
  wide : ∀ r ∈ rows, r.length = w
  far : ∀ r ∈ rows, ∀ v ∈ r, -1000000000 ≤ v ∧ v ≤ 1000000000
def atv (rows : List (List Int)) (x y : Int) : Int := valAt (rowAt rows y) x
theorem rngI {Γ : Env1} {e : E} {τ : Sts} {n : Int} (h : ev Γ e τ = .ok (.fz (.int n), τ)) (h1 : n < 2 ^ 62) (h2 : -(2 ^ 62) ≤ n) : evI Γ (.iRange e) τ = .ok ((List.range n.toNat).map fun k => .int (k : Nat), none, τ) := by
  simp only [evI, h, R.bind_ok, dat]
  rw [if_pos ⟨h1, h2⟩]
theorem nl_un : nl .un = true := rfl
theorem nl_fz (d : D) : nl (.fz d) = true := rfl
theorem nl_ow (f : Bool) (d : D) : nl (.ow f d) = true := rfl
theorem nl_lk (f : Bool) (d : D) : nl (.lk f d) = false := rfl
end Rg
namespace Rg
open PySem L2
theorem forGo_fold {α β : Type} {step : Sts → D → R Fl} (enc : α → D) (st : β → Sts) (f : β → α → β) (P : β → Prop) : ∀ {xs : List α} {b : β}, (∀ x ∈ xs, ∀ b, P b → step (st b) (enc x) = .ok (.next (st (f b x))) ∧ P (f b x)) → P b → forGo step (xs.map enc) (st b) = .ok (.next (st (xs.foldl f b))) ∧ P (xs.foldl f b)
  | [], b, _, h => ⟨rfl, h⟩
  | x :: xs, b, k, h => by
    obtain ⟨e1, h1⟩ := k x List.mem_cons_self b h
    obtain ⟨e2, h2⟩ := forGo_fold enc st f P (xs := xs) (fun y hy => k y (List.mem_cons_of_mem _ hy)) h1
    exact ⟨by simp only [List.map_cons, forGo, e1, R.bind_ok]; exact e2, h2⟩
theorem forGo_find {α : Type} {step : Sts → D → R Fl} (enc : α → D) (st : Sts) (p : α → Bool) (v : α → Val) (t : α → Sts) : ∀ {xs : List α}, (∀ x ∈ xs, step st (enc x) = if p x then .ok (.ret (v x) (t x)) else .ok (.next st)) →
    forGo step (xs.map enc) st = match xs.find? p with
      | some x => .ok (.ret (v x) (t x))
      | none => .ok (.next st)
  | [], _ => rfl
  | x :: xs, k => by
    have e1 := k x List.mem_cons_self
    have e2 := forGo_find enc st p v t (xs := xs) fun y hy => k y (List.mem_cons_of_mem _ hy)
    simp only [List.map_cons, forGo, e1, List.find?_cons]
    cases p x with
    | true => simp
    | false => simp [e2]
theorem forGo_nth {α β : Type} {step : Sts → D → R Fl} (enc : α → D) (st : β → Sts) (P : Nat → β → Prop) : ∀ {xs : List α} {k : Nat} {b : β}, (∀ (j : Nat) (x : α), xs[j]? = some x → ∀ b, P (k + j) b → ∃ b', step (st b) (enc x) = .ok (.next (st b')) ∧ P (k + j + 1) b') → P k b → ∃ b', forGo step (xs.map enc) (st b) = .ok (.next (st b')) ∧ P (k + xs.length) b'
  | [], k, b, _, h => ⟨b, rfl, h⟩
  | x :: xs, k, b, hk, h => by
    obtain ⟨b1, e1, h1⟩ := hk 0 x rfl b h
    obtain ⟨b2, e2, h2⟩ := forGo_nth enc st P (xs := xs) (k := k + 1) (fun j y hy b hb => by
      have e : k + 1 + j = k + (j + 1) := by omega
      rw [e] at hb ⊢
      exact hk (j + 1) y (by simpa using hy) b hb) h1
    refine ⟨b2, by simp only [List.map_cons, forGo, e1, R.bind_ok]; exact e2, ?_⟩
    rw [List.length_cons, show k + (xs.length + 1) = k + 1 + xs.length by omega]
    exact h2
theorem compGo_fm {α : Type} {step : Sts → D → R (Option Val × Sts)} (enc : α → D) (st : Sts) (g : α → Option Val) : ∀ {xs : List α} {acc : List D}, (∀ x ∈ xs, step st (enc x) = .ok (g x, st)) → (∀ x ∈ xs, ∀ v, g x = some v → vFull v = true) → acc.length + xs.length ≤ sizeLine → compGo step (xs.map enc) acc true st = .ok (true, acc ++ (xs.filterMap g).map vD, st)
  | [], acc, _, _, _ => by simp [compGo]
  | x :: xs, acc, k, hf, hl => by
    rw [List.length_cons] at hl
    have e1 := k x List.mem_cons_self
    simp only [List.map_cons, compGo, e1, R.bind_ok]
    cases e : g x with
    | none =>
      simp only
      rw [compGo_fm enc st g (xs := xs) (fun y hy => k y (List.mem_cons_of_mem _ hy)) (fun y hy => hf y (List.mem_cons_of_mem _ hy)) (by omega)]
      simp [e]
    | some v =>
      have hv := hf x List.mem_cons_self v e
      simp only [hv, Bool.and_true]
      rw [if_pos (by omega), compGo_fm enc st g (xs := xs) (fun y hy => k y (List.mem_cons_of_mem _ hy)) (fun y hy => hf y (List.mem_cons_of_mem _ hy)) (by rw [List.length_append, List.length_singleton]; omega)]
      simp [e]
section
variable {Γ : Env1} {n : Nat} {τ τ0 τ1 τ' : Sts}
theorem ev_comp_fm {α : Type} {tg : List Nat} {one : Bool} {it cond elt : E} (enc : α → D) {xs : List α} (g : α → Option Val) (h : evI Γ it τ = .ok (xs.map enc, none, τ1)) (hw : wipeC τ1 tg = some τ0) (hs : ∀ x ∈ xs, compStep Γ tg one cond elt τ0 (enc x) = .ok (g x, τ0)) (hf : ∀ x ∈ xs, ∀ v, g x = some v → vFull v = true) (hl : xs.length ≤ 1000000) :
    ev Γ (.comp tg one it cond elt) τ = .ok (.own true (.lst ((xs.filterMap g).map vD)), τ0) := by
  have := compGo_fm (acc := []) enc τ0 g hs hf (by rw [sizeLine_eq, List.length_nil]; omega)
  rw [List.nil_append] at this
  exact ev_comp h hw this
theorem ex_for_fold {α β : Type} {tg : List Nat} {one : Bool} {it : E} {b : S} (enc : α → D) (st : β → Sts) (f : β → α → β) (P : β → Prop) {xs : List α} {b0 : β} (h : evI Γ it τ = .ok (xs.map enc, none, st b0)) (hs : ∀ x ∈ xs, ∀ b', P b' → forStep Γ n tg one b (st b') (enc x) = .ok (.next (st (f b' x))) ∧ P (f b' x)) (h0 : P b0) : ex Γ n (.fors tg one it b) τ = .ok (.next (st (xs.foldl f b0))) ∧ P (xs.foldl f b0) := by
  obtain ⟨h1, h2⟩ := forGo_fold enc st f P hs h0
  exact ⟨ex_for h h1, h2⟩
theorem ex_for_find {α : Type} {tg : List Nat} {one : Bool} {it : E} {b : S} (enc : α → D) {st : Sts} (p : α → Bool) (v : α → Val) (t : α → Sts) {xs : List α} (h : evI Γ it τ = .ok (xs.map enc, none, st)) (hs : ∀ x ∈ xs, forStep Γ n tg one b st (enc x) = if p x then .ok (.ret (v x) (t x)) else .ok (.next st)) : ex Γ n (.fors tg one it b) τ = match xs.find? p with
      | some x => .ok (.ret (v x) (t x))
      | none => .ok (.next st) := by
  have := forGo_find enc st p v t hs
  cases e : xs.find? p with
  | none => rw [e] at this; exact ex_for h this
  | some x => rw [e] at this; exact ex_for_ret h this
end
def enat (k : Nat) : D := .int (k : Nat)
theorem rngN {Γ : Env1} {e : E} {τ : Sts} {n : Nat} (h : ev Γ e τ = .ok (.fz (.int n), τ)) (hn : n ≤ 1000000) : evI Γ (.iRange e) τ = .ok ((List.range n).map enat, none, τ) := by
  have := rngI h (by omega) (by omega)
  rw [Int.toNat_natCast] at this
  exact this
theorem szN (n : Nat) (h : n ≤ 1000000) : n ≤ sizeLine := by rw [sizeLine_eq]; omega
theorem szN' (n : Nat) (h : n ≤ 1000000) : n < sizeLine := by rw [sizeLine_eq]; omega
end Rg
namespace Hr
open PySem L2 Rg
def m__law_feed : S := (.seq (.asg 2 (.cst (.int 0)))
  (.seq (.frz 2)
  (.seq (.ifs (.prim .gt (.cons (.prim .len (.cons (.var 0) .nil)) (.cons (.cst (.int 0)) .nil)))
    (.seq (.asg 2 (.prim .ix (.cons (.var 0) (.cons (.prim .mod (.cons (.var 1) (.cons (.prim .len (.cons (.var 0) .nil)) .nil))) .nil))))
    (.seq (.frz 2)
    .skip))
    .skip)
  (.seq (.ret (.lst (.cons (.prim .abs (.cons (.var 2) .nil)) (.cons (.prim .add (.cons (.prim .mul (.cons (.cst (.int 7919)) (.cons (.var 1) .nil))) (.cons (.cst (.int 1)) .nil))) .nil))))
  .skip))))
def g__law_feed : Env1 := []
def f__law_feed : Fn := Fn.of g__law_feed 1 0 2 3 m__law_feed (fun _ => 0)
@[simp] theorem ow__law_feed : f__law_feed.ow = 0 := rfl
@[simp] theorem io__law_feed : f__law_feed.io = 0 := rfl
@[simp] theorem ar__law_feed : f__law_feed.ar = 2 := rfl
def m__law_draw : S := (.seq (.ifs (.prim .ge (.cons (.prim .ix (.cons (.var 0) (.cons (.cst (.int 0)) .nil))) (.cons (.prim .pow (.cons (.cst (.int 10)) (.cons (.cst (.int 18)) .nil))) .nil)))
    (.seq (.asg 2 (.prim .mod (.cons (.prim .ix (.cons (.var 0) (.cons (.cst (.int 0)) .nil))) (.cons (.var 1) .nil))))
    (.seq (.expr (.mut .setAt 0 (.cons (.prim .fdiv (.cons (.prim .ix (.cons (.var 0) (.cons (.cst (.int 0)) .nil))) (.cons (.var 1) .nil))) (.cons (.cst (.int 0)) .nil))))
    (.seq (.ret (.var 2))
    .skip)))
    .skip)
  (.seq (.wipe 2)
  (.seq (.expr (.mut .setAt 0 (.cons (.prim .mod (.cons (.prim .add (.cons (.prim .add (.cons (.prim .mul (.cons (.prim .ix (.cons (.var 0) (.cons (.cst (.int 1)) .nil))) (.cons (.cst (.int 48271)) .nil))) (.cons (.prim .mod (.cons (.prim .ix (.cons (.var 0) (.cons (.cst (.int 0)) .nil))) (.cons (.cst (.int 2147483647)) .nil))) .nil))) (.cons (.cst (.int 11)) .nil))) (.cons (.cst (.int 2147483647)) .nil))) (.cons (.cst (.int 1)) .nil))))
  (.seq (.ret (.prim .mod (.cons (.prim .fdiv (.cons (.prim .mod (.cons (.prim .mul (.cons (.prim .ix (.cons (.var 0) (.cons (.cst (.int 1)) .nil))) (.cons (.cst (.int 69621)) .nil))) (.cons (.cst (.int 2147483629)) .nil))) (.cons (.cst (.int 64)) .nil))) (.cons (.var 1) .nil))))
  .skip))))
def g__law_draw : Env1 := []
def f__law_draw : Fn := Fn.of g__law_draw 1 1 2 3 m__law_draw (fun _ => 0)
@[simp] theorem ow__law_draw : f__law_draw.ow = 1 := rfl
@[simp] theorem io__law_draw : f__law_draw.io = 1 := rfl
@[simp] theorem ar__law_draw : f__law_draw.ar = 2 := rfl
end Hr
namespace Hr
end Hr
namespace Lwk63
open PySem L2 Rg Hr
def b1__law_points : S := (.seq (.expr (.mut .append 6 (.cons (.tup (.cons (.prim .add (.cons (.call 0 (.cons (.var 0) (.cons (.var 3) .nil))) (.cons (.prim .mul (.cons (.var 5) (.cons (.var 7) .nil))) .nil))) (.cons (.call 0 (.cons (.var 0) (.cons (.var 4) .nil))) .nil))) .nil)))
  (.seq (.wipe 7)
  .skip))
def l1__law_points : S := .fors [7] true (.iRange (.var 2)) b1__law_points
def c1__law_points : E := .comp [10, 11] false (.iSeq (.var 6)) .yes (.tupO (.cons (.prim .add (.cons (.prim .mul (.cons (.var 10) (.cons (.var 8) .nil))) (.cons (.var 9) .nil))) (.cons (.prim .sub (.cons (.prim .mul (.cons (.var 11) (.cons (.var 8) .nil))) (.cons (.var 9) .nil))) .nil)))
def m__law_points : S := (.seq (.asg 2 (.prim .add (.cons (.cst (.int 2)) (.cons (.call 0 (.cons (.var 0) (.cons (.prim .ix (.cons (.lst (.cons (.cst (.int 7)) (.cons (.cst (.int 7)) (.cons (.cst (.int 14)) (.cons (.var 1) .nil))))) (.cons (.call 0 (.cons (.var 0) (.cons (.cst (.int 4)) .nil))) .nil))) .nil))) .nil))))
  (.seq (.frz 2)
  (.seq (.asg 3 (.prim .add (.cons (.cst (.int 1)) (.cons (.call 0 (.cons (.var 0) (.cons (.cst (.int 9)) .nil))) .nil))))
  (.seq (.frz 3)
  (.seq (.asg 4 (.prim .ix (.cons (.lst (.cons (.cst (.int 1)) (.cons (.cst (.int 2)) (.cons (.cst (.int 4)) (.cons (.cst (.int 9)) .nil))))) (.cons (.call 0 (.cons (.var 0) (.cons (.cst (.int 4)) .nil))) .nil))))
  (.seq (.frz 4)
  (.seq (.asg 5 (.call 0 (.cons (.var 0) (.cons (.cst (.int 3)) .nil))))
  (.seq (.frz 5)
  (.seq (.asg 6 (.lst .nil))
  (.seq l1__law_points
  (.seq (.asg 8 (.prim .ix (.cons (.lst (.cons (.cst (.int 1)) (.cons (.cst (.int 1)) (.cons (.cst (.int 7)) (.cons (.prim .pow (.cons (.cst (.int 10)) (.cons (.cst (.int 9)) .nil))) .nil))))) (.cons (.call 0 (.cons (.var 0) (.cons (.cst (.int 4)) .nil))) .nil))))
  (.seq (.asg 9 (.prim .ix (.cons (.lst (.cons (.cst (.int 0)) (.cons (.prim .sub (.cons (.cst (.int 0)) (.cons (.cst (.int 5)) .nil))) (.cons (.prim .pow (.cons (.cst (.int 10)) (.cons (.cst (.int 11)) .nil))) (.cons (.prim .sub (.cons (.cst (.int 0)) (.cons (.prim .pow (.cons (.cst (.int 10)) (.cons (.cst (.int 11)) .nil))) .nil))) .nil))))) (.cons (.call 0 (.cons (.var 0) (.cons (.cst (.int 4)) .nil))) .nil))))
  (.seq (.frz 9)
  (.seq (.ret (.tupO (.cons (.var 8) (.cons c1__law_points .nil))))
  .skip))))))))))))))
def g__law_points : Env1 := [("_law_draw", f__law_draw)]
def f__law_points : Fn := Fn.of g__law_points 2 1 2 12 m__law_points (fun _ => 0)
@[simp] theorem ow__law_points : f__law_points.ow = 1 := rfl
@[simp] theorem io__law_points : f__law_points.io = 1 := rfl
@[simp] theorem ar__law_points : f__law_points.ar = 2 := rfl
def m_is_near : S := (.seq (.asg 4 (.prim .sub (.cons (.prim .ix (.cons (.var 1) (.cons (.cst (.int 0)) .nil))) (.cons (.prim .ix (.cons (.var 0) (.cons (.cst (.int 0)) .nil))) .nil))))
  (.seq (.frz 4)
  (.seq (.asg 5 (.prim .sub (.cons (.prim .ix (.cons (.var 1) (.cons (.cst (.int 1)) .nil))) (.cons (.prim .ix (.cons (.var 0) (.cons (.cst (.int 1)) .nil))) .nil))))
  (.seq (.frz 5)
  (.seq (.asg 6 (.prim .sub (.cons (.prim .ix (.cons (.var 2) (.cons (.cst (.int 0)) .nil))) (.cons (.prim .ix (.cons (.var 0) (.cons (.cst (.int 0)) .nil))) .nil))))
  (.seq (.frz 6)
  (.seq (.asg 7 (.prim .sub (.cons (.prim .ix (.cons (.var 2) (.cons (.cst (.int 1)) .nil))) (.cons (.prim .ix (.cons (.var 0) (.cons (.cst (.int 1)) .nil))) .nil))))
  (.seq (.frz 7)
  (.seq (.asg 8 (.prim .add (.cons (.prim .mul (.cons (.var 6) (.cons (.var 4) .nil))) (.cons (.prim .mul (.cons (.var 7) (.cons (.var 5) .nil))) .nil))))
  (.seq (.frz 8)
  (.seq (.asg 9 (.prim .add (.cons (.prim .mul (.cons (.var 4) (.cons (.var 4) .nil))) (.cons (.prim .mul (.cons (.var 5) (.cons (.var 5) .nil))) .nil))))
  (.seq (.frz 9)
  (.seq (.ifs (.prim .le (.cons (.var 8) (.cons (.cst (.int 0)) .nil)))
    (.seq (.ret (.prim .le (.cons (.prim .add (.cons (.prim .mul (.cons (.var 6) (.cons (.var 6) .nil))) (.cons (.prim .mul (.cons (.var 7) (.cons (.var 7) .nil))) .nil))) (.cons (.prim .mul (.cons (.var 3) (.cons (.var 3) .nil))) .nil))))
    .skip)
    .skip)
  (.seq (.ifs (.prim .ge (.cons (.var 8) (.cons (.var 9) .nil)))
    (.seq (.asg 6 (.prim .sub (.cons (.prim .ix (.cons (.var 2) (.cons (.cst (.int 0)) .nil))) (.cons (.prim .ix (.cons (.var 1) (.cons (.cst (.int 0)) .nil))) .nil))))
    (.seq (.frz 6)
    (.seq (.asg 7 (.prim .sub (.cons (.prim .ix (.cons (.var 2) (.cons (.cst (.int 1)) .nil))) (.cons (.prim .ix (.cons (.var 1) (.cons (.cst (.int 1)) .nil))) .nil))))
    (.seq (.frz 7)
    (.seq (.ret (.prim .le (.cons (.prim .add (.cons (.prim .mul (.cons (.var 6) (.cons (.var 6) .nil))) (.cons (.prim .mul (.cons (.var 7) (.cons (.var 7) .nil))) .nil))) (.cons (.prim .mul (.cons (.var 3) (.cons (.var 3) .nil))) .nil))))
    .skip)))))
    .skip)
  (.seq (.asg 10 (.prim .sub (.cons (.prim .mul (.cons (.var 4) (.cons (.var 7) .nil))) (.cons (.prim .mul (.cons (.var 5) (.cons (.var 6) .nil))) .nil))))
  (.seq (.frz 10)
  (.seq (.ret (.prim .le (.cons (.prim .mul (.cons (.var 10) (.cons (.var 10) .nil))) (.cons (.prim .mul (.cons (.prim .mul (.cons (.var 3) (.cons (.var 3) .nil))) (.cons (.var 9) .nil))) .nil))))
  .skip)))))))))))))))))
def g_is_near : Env1 := []
def f_is_near : Fn := Fn.of g_is_near 1 0 4 11 m_is_near (fun _ => 0)
@[simp] theorem ow_is_near : f_is_near.ow = 0 := rfl
@[simp] theorem io_is_near : f_is_near.io = 0 := rfl
@[simp] theorem ar_is_near : f_is_near.ar = 4 := rfl
def b1_all_near : S := (.seq (.ifs (.not (.call 0 (.cons (.var 0) (.cons (.var 1) (.cons (.var 4) (.cons (.var 3) .nil))))))
    (.seq (.ret (.cst (.bl false)))
    .skip)
    .skip)
  (.seq (.wipe 4)
  .skip))
def l1_all_near : S := .fors [4] true (.iSeq (.var 2)) b1_all_near
def m_all_near : S := (.seq l1_all_near
  (.seq (.ret (.cst (.bl true)))
  .skip))
def g_all_near : Env1 := [("is_near", f_is_near)]
def f_all_near : Fn := Fn.of g_all_near 2 0 4 5 m_all_near (fun _ => 0)
@[simp] theorem ow_all_near : f_all_near.ow = 0 := rfl
@[simp] theorem io_all_near : f_all_near.io = 0 := rfl
@[simp] theorem ar_all_near : f_all_near.ar = 4 := rfl
def b2_fewest_to : S := (.seq (.ifs (.and (.prim .lt (.cons (.prim .ix (.cons (.var 2) (.cons (.var 6) .nil))) (.cons (.prim .ix (.cons (.var 2) (.cons (.var 5) .nil))) .nil))) (.call 0 (.cons (.prim .ix (.cons (.var 0) (.cons (.var 6) .nil))) (.cons (.prim .ix (.cons (.var 0) (.cons (.var 4) .nil))) (.cons (.slcB (.var 0) (.prim .add (.cons (.var 6) (.cons (.cst (.int 1)) .nil))) (.var 4)) (.cons (.var 1) .nil))))))
    (.seq (.asg 5 (.var 6))
    .skip)
    .skip)
  (.seq (.wipe 6)
  .skip))
def l2_fewest_to : S := .fors [6] true (.iRange (.prim .sub (.cons (.var 4) (.cons (.cst (.int 1)) .nil)))) b2_fewest_to
def b1_fewest_to : S := (.seq (.asg 5 (.prim .sub (.cons (.var 4) (.cons (.cst (.int 1)) .nil))))
  (.seq l2_fewest_to
  (.seq (.expr (.mut .append 2 (.cons (.prim .add (.cons (.prim .ix (.cons (.var 2) (.cons (.var 5) .nil))) (.cons (.cst (.int 1)) .nil))) .nil)))
  (.seq (.expr (.mut .append 3 (.cons (.var 5) .nil)))
  (.seq (.wipe 4)
  (.seq (.wipe 5)
  (.seq (.wipe 6)
  .skip)))))))
def l1_fewest_to : S := .fors [4] true (.iRange2 (.cst (.int 1)) (.prim .len (.cons (.var 0) .nil))) b1_fewest_to
def m_fewest_to : S := (.seq (.asg 2 (.lst (.cons (.cst (.int 1)) .nil)))
  (.seq (.asg 3 (.lst (.cons (.cst (.int 0)) .nil)))
  (.seq l1_fewest_to
  (.seq (.ret (.tupO (.cons (.var 2) (.cons (.var 3) .nil))))
  .skip))))
def g_fewest_to : Env1 := [("all_near", f_all_near)]
def f_fewest_to : Fn := Fn.of g_fewest_to 3 0 2 7 m_fewest_to (fun _ => 0)
@[simp] theorem ow_fewest_to : f_fewest_to.ow = 0 := rfl
@[simp] theorem io_fewest_to : f_fewest_to.io = 0 := rfl
@[simp] theorem ar_fewest_to : f_fewest_to.ar = 2 := rfl
def b1_least_kept : S := (.seq (.asg 2 (.prim .ix (.cons (.var 5) (.cons (.var 2) .nil))))
  (.seq (.expr (.mut .insert 3 (.cons (.cst (.int 0)) (.cons (.var 2) .nil))))
  .skip))
def w1_least_kept : E := (.prim .gt (.cons (.var 2) (.cons (.cst (.int 0)) .nil)))
def l1_least_kept : S := .whl w1_least_kept b1_least_kept
def m_least_kept : S := (.seq (.unpack [4, 5] (.call 0 (.cons (.var 0) (.cons (.var 1) .nil))))
  (.seq (.asg 2 (.prim .sub (.cons (.prim .len (.cons (.var 0) .nil)) (.cons (.cst (.int 1)) .nil))))
  (.seq (.asg 3 (.lst (.cons (.var 2) .nil)))
  (.seq l1_least_kept
  (.seq (.ret (.tupO (.cons (.prim .len (.cons (.var 3) .nil)) (.cons (.var 3) .nil))))
  .skip)))))
def g_least_kept : Env1 := [("fewest_to", f_fewest_to)]
def f_least_kept : Fn := Fn.of g_least_kept 4 0 2 6 m_least_kept (fun ds => match ds with | [.lst ps, _] => ps.length + 2 | _ => 0)
@[simp] theorem ow_least_kept : f_least_kept.ow = 0 := rfl
@[simp] theorem io_least_kept : f_least_kept.io = 0 := rfl
@[simp] theorem ar_least_kept : f_least_kept.ar = 2 := rfl
def m__law_near : S := (.seq (.asg 4 (.prim .sub (.cons (.prim .ix (.cons (.var 1) (.cons (.cst (.int 0)) .nil))) (.cons (.prim .ix (.cons (.var 0) (.cons (.cst (.int 0)) .nil))) .nil))))
  (.seq (.frz 4)
  (.seq (.asg 5 (.prim .sub (.cons (.prim .ix (.cons (.var 1) (.cons (.cst (.int 1)) .nil))) (.cons (.prim .ix (.cons (.var 0) (.cons (.cst (.int 1)) .nil))) .nil))))
  (.seq (.frz 5)
  (.seq (.asg 6 (.prim .max2 (.cons (.cst (.int 1)) (.cons (.prim .add (.cons (.prim .mul (.cons (.var 4) (.cons (.var 4) .nil))) (.cons (.prim .mul (.cons (.var 5) (.cons (.var 5) .nil))) .nil))) .nil))))
  (.seq (.frz 6)
  (.seq (.asg 7 (.prim .add (.cons (.prim .mul (.cons (.prim .sub (.cons (.prim .ix (.cons (.var 2) (.cons (.cst (.int 0)) .nil))) (.cons (.prim .ix (.cons (.var 0) (.cons (.cst (.int 0)) .nil))) .nil))) (.cons (.var 4) .nil))) (.cons (.prim .mul (.cons (.prim .sub (.cons (.prim .ix (.cons (.var 2) (.cons (.cst (.int 1)) .nil))) (.cons (.prim .ix (.cons (.var 0) (.cons (.cst (.int 1)) .nil))) .nil))) (.cons (.var 5) .nil))) .nil))))
  (.seq (.frz 7)
  (.seq (.asg 7 (.prim .max2 (.cons (.cst (.int 0)) (.cons (.prim .min2 (.cons (.var 7) (.cons (.var 6) .nil))) .nil))))
  (.seq (.frz 7)
  (.seq (.asg 8 (.prim .sub (.cons (.prim .mul (.cons (.prim .sub (.cons (.prim .ix (.cons (.var 2) (.cons (.cst (.int 0)) .nil))) (.cons (.prim .ix (.cons (.var 0) (.cons (.cst (.int 0)) .nil))) .nil))) (.cons (.var 6) .nil))) (.cons (.prim .mul (.cons (.var 7) (.cons (.var 4) .nil))) .nil))))
  (.seq (.frz 8)
  (.seq (.asg 9 (.prim .sub (.cons (.prim .mul (.cons (.prim .sub (.cons (.prim .ix (.cons (.var 2) (.cons (.cst (.int 1)) .nil))) (.cons (.prim .ix (.cons (.var 0) (.cons (.cst (.int 1)) .nil))) .nil))) (.cons (.var 6) .nil))) (.cons (.prim .mul (.cons (.var 7) (.cons (.var 5) .nil))) .nil))))
  (.seq (.frz 9)
  (.seq (.ret (.prim .le (.cons (.prim .add (.cons (.prim .mul (.cons (.var 8) (.cons (.var 8) .nil))) (.cons (.prim .mul (.cons (.var 9) (.cons (.var 9) .nil))) .nil))) (.cons (.prim .mul (.cons (.prim .mul (.cons (.prim .mul (.cons (.var 3) (.cons (.var 3) .nil))) (.cons (.var 6) .nil))) (.cons (.var 6) .nil))) .nil))))
  .skip)))))))))))))))
def g__law_near : Env1 := []
def f__law_near : Fn := Fn.of g__law_near 1 0 4 10 m__law_near (fun _ => 0)
@[simp] theorem ow__law_near : f__law_near.ow = 0 := rfl
@[simp] theorem io__law_near : f__law_near.io = 0 := rfl
@[simp] theorem ar__law_near : f__law_near.ar = 4 := rfl
def i1__law_lets : S := .ifs (.not (.call 0 (.cons (.prim .ix (.cons (.var 0) (.cons (.var 1) .nil))) (.cons (.prim .ix (.cons (.var 0) (.cons (.var 2) .nil))) (.cons (.prim .ix (.cons (.var 0) (.cons (.var 4) .nil))) (.cons (.var 3) .nil))))))
    (.seq (.ret (.cst (.bl false)))
    .skip)
    .skip
def b1__law_lets : S := (.seq i1__law_lets
  (.seq (.wipe 4)
  .skip))
def l1__law_lets : S := .fors [4] true (.iRange2 (.prim .add (.cons (.var 1) (.cons (.cst (.int 1)) .nil))) (.var 2)) b1__law_lets
def m__law_lets : S := (.seq l1__law_lets
  (.seq (.ret (.cst (.bl true)))
  .skip))
def g__law_lets : Env1 := [("_law_near", f__law_near)]
def f__law_lets : Fn := Fn.of g__law_lets 2 0 4 5 m__law_lets (fun _ => 0)
@[simp] theorem ow__law_lets : f__law_lets.ow = 0 := rfl
@[simp] theorem io__law_lets : f__law_lets.io = 0 := rfl
@[simp] theorem ar__law_lets : f__law_lets.ar = 4 := rfl
def c1__law_least : E := .comp [8] true (.iSeq (.var 0)) .yes (.cst (.int 1))
def i1__law_least : S := .ifs (.and (.prim .lt (.cons (.prim .add (.cons (.prim .ix (.cons (.var 3) (.cons (.var 7) .nil))) (.cons (.cst (.int 1)) .nil))) (.cons (.var 6) .nil))) (.call 0 (.cons (.var 0) (.cons (.var 5) (.cons (.var 7) (.cons (.var 1) .nil))))))
    (.seq (.asg 6 (.prim .add (.cons (.prim .ix (.cons (.var 3) (.cons (.var 7) .nil))) (.cons (.cst (.int 1)) .nil))))
    .skip)
    .skip
def b2__law_least : S := (.seq i1__law_least
  (.seq (.wipe 7)
  .skip))
def l2__law_least : S := .fors [7] true (.iRange2 (.prim .add (.cons (.var 5) (.cons (.cst (.int 1)) .nil))) (.prim .len (.cons (.var 0) .nil))) b2__law_least
def b1__law_least : S := (.seq (.asg 5 (.prim .sub (.cons (.var 2) (.cons (.var 4) .nil))))
  (.seq (.frz 5)
  (.seq (.asg 6 (.prim .add (.cons (.prim .len (.cons (.var 0) .nil)) (.cons (.cst (.int 1)) .nil))))
  (.seq l2__law_least
  (.seq (.expr (.mut .setAt 3 (.cons (.var 6) (.cons (.var 5) .nil))))
  (.seq (.wipe 4)
  (.seq (.wipe 5)
  (.seq (.wipe 6)
  (.seq (.wipe 7)
  .skip)))))))))
def l1__law_least : S := .fors [4] true (.iRange2 (.cst (.int 1)) (.prim .len (.cons (.var 0) .nil))) b1__law_least
def m__law_least : S := (.seq (.asg 2 (.prim .sub (.cons (.prim .len (.cons (.var 0) .nil)) (.cons (.cst (.int 1)) .nil))))
  (.seq (.frz 2)
  (.seq (.asg 3 c1__law_least)
  (.seq l1__law_least
  (.seq (.ret (.prim .ix (.cons (.var 3) (.cons (.cst (.int 0)) .nil))))
  .skip)))))
def g__law_least : Env1 := [("_law_lets", f__law_lets)]
def f__law_least : Fn := Fn.of g__law_least 3 0 2 9 m__law_least (fun _ => 0)
@[simp] theorem ow__law_least : f__law_least.ow = 0 := rfl
@[simp] theorem io__law_least : f__law_least.io = 0 := rfl
@[simp] theorem ar__law_least : f__law_least.ar = 2 := rfl
def i1__law_right : S := .ifs (.or (.not (.prim (.isa "tuple") (.cons (.var 2) .nil))) (.or (.prim .ne (.cons (.prim .len (.cons (.var 2) .nil)) (.cons (.cst (.int 2)) .nil))) (.not (.prim (.isa "list") (.cons (.prim .ix (.cons (.var 2) (.cons (.cst (.int 1)) .nil))) .nil)))))
    (.seq (.ret (.cst (.bl false)))
    .skip)
    .skip
def i2__law_right : S := .ifs (.or (.prim (.isa "bool") (.cons (.var 4) .nil)) (.or (.prim .ne (.cons (.var 4) (.cons (.prim .len (.cons (.var 5) .nil)) .nil))) (.prim .ne (.cons (.var 5) (.cons (.sortSet (.var 5)) .nil)))))
    (.seq (.ret (.cst (.bl false)))
    .skip)
    .skip
def i3__law_right : S := .ifs (.or (.prim .ne (.cons (.slcU (.var 5) (.cst (.int 1))) (.cons (.lst (.cons (.cst (.int 0)) .nil)) .nil))) (.prim .ne (.cons (.prim .ix (.cons (.var 5) (.cons (.prim .neg (.cons (.cst (.int 1)) .nil)) .nil))) (.cons (.prim .sub (.cons (.prim .len (.cons (.var 0) .nil)) (.cons (.cst (.int 1)) .nil))) .nil))))
    (.seq (.ret (.cst (.bl false)))
    .skip)
    .skip
def i4__law_right : S := .ifs (.not (.call 0 (.cons (.var 0) (.cons (.prim .ix (.cons (.var 5) (.cons (.prim .sub (.cons (.var 3) (.cons (.cst (.int 1)) .nil))) .nil))) (.cons (.prim .ix (.cons (.var 5) (.cons (.var 3) .nil))) (.cons (.var 1) .nil))))))
    (.seq (.ret (.cst (.bl false)))
    .skip)
    .skip
def b1__law_right : S := (.seq i4__law_right
  (.seq (.wipe 3)
  .skip))
def l1__law_right : S := .fors [3] true (.iRange2 (.cst (.int 1)) (.prim .len (.cons (.var 5) .nil))) b1__law_right
def m__law_right : S := (.seq i1__law_right
  (.seq (.unpack [4, 5] (.var 2))
  (.seq i2__law_right
  (.seq i3__law_right
  (.seq l1__law_right
  (.seq (.ret (.prim .eq (.cons (.var 4) (.cons (.call 1 (.cons (.var 0) (.cons (.var 1) .nil))) .nil))))
  .skip))))))
def g__law_right : Env1 := [("_law_lets", f__law_lets), ("_law_least", f__law_least)]
def f__law_right : Fn := Fn.of g__law_right 4 0 3 6 m__law_right (fun _ => 0)
@[simp] theorem ow__law_right : f__law_right.ow = 0 := rfl
@[simp] theorem io__law_right : f__law_right.io = 0 := rfl
@[simp] theorem ar__law_right : f__law_right.ar = 3 := rfl
def i1_law : S := .ifs (.or (.not (.call 4 (.cons (.var 4) (.cons (.var 3) (.cons (.var 5) .nil))))) (.prim .ne (.cons (.var 8) (.cons (.var 4) .nil))))
    (.seq (.ret (.cst (.bl false)))
    .skip)
    .skip
def i2_law : S := .ifs (.prim .ne (.cons (.call 3 (.cons (.var 8) (.cons (.var 3) .nil))) (.cons (.var 6) .nil)))
    (.seq (.ret (.cst (.bl false)))
    .skip)
    .skip
def b1_law : S := (.seq (.asg 2 (.call 0 (.cons (.var 0) (.cons (.var 1) .nil))))
  (.seq (.unpack [7, 8] (.call 1 (.cons (.var 2) (.cons (.prim .ix (.cons (.lst (.cons (.cst (.int 14)) (.cons (.cst (.int 39)) .nil))) (.cons (.prim .intOf (.cons (.prim .eq (.cons (.var 1) (.cons (.cst (.int 0)) .nil))) .nil)) .nil))) .nil))))
  (.seq (.asg 3 (.prim .ix (.cons (.lst (.cons (.cst (.int 0)) (.cons (.var 7) (.cons (.prim .mul (.cons (.var 7) (.cons (.prim .add (.cons (.cst (.int 1)) (.cons (.call 2 (.cons (.var 2) (.cons (.cst (.int 4)) .nil))) .nil))) .nil))) (.cons (.prim .pow (.cons (.cst (.int 10)) (.cons (.cst (.int 60)) .nil))) .nil))))) (.cons (.call 2 (.cons (.var 2) (.cons (.cst (.int 4)) .nil))) .nil))))
  (.seq (.frz 3)
  (.seq (.asg 4 (.prim .list (.cons (.var 8) .nil)))
  (.seq (.frz 4)
  (.seq (.asg 5 (.call 3 (.cons (.var 8) (.cons (.var 3) .nil))))
  (.seq i1_law
  (.seq (.asg 6 (.tup (.cons (.prim .ix (.cons (.var 5) (.cons (.cst (.int 0)) .nil))) (.cons (.rd .list (.cons (.prim .ix (.cons (.var 5) (.cons (.cst (.int 1)) .nil))) .nil)) .nil))))
  (.seq (.spoilT 5 1 (0))
  (.seq i2_law
  (.seq (.wipe 1)
  (.seq (.wipe 2)
  (.seq (.wipe 3)
  (.seq (.wipe 4)
  (.seq (.wipe 5)
  (.seq (.wipe 6)
  (.seq (.wipe 7)
  (.seq (.wipe 8)
  .skip)))))))))))))))))))
def l1_law : S := .fors [1] true (.iRange (.prim .max2 (.cons (.cst (.int 2)) (.cons (.prim .min2 (.cons (.cst (.int 4)) (.cons (.prim .len (.cons (.var 0) .nil)) .nil))) .nil)))) b1_law
def m_law : S := (.seq l1_law
  (.seq (.ret (.cst (.bl true)))
  .skip))
def g_law : Env1 := [("_law_feed", f__law_feed), ("_law_points", f__law_points), ("_law_draw", f__law_draw), ("least_kept", f_least_kept), ("_law_right", f__law_right)]
def f_law : Fn := Fn.of g_law 5 0 1 9 m_law (fun _ => 0)
@[simp] theorem ow_law : f_law.ow = 0 := rfl
@[simp] theorem io_law : f_law.io = 0 := rfl
@[simp] theorem ar_law : f_law.ar = 1 := rfl
end Lwk63
namespace Hr
open PySem L2 Rg
def fd (s : Int × Int) : D := .lst [.int s.1, .int s.2]
def draw (s : Int × Int) (m : Int) : Int × (Int × Int) := if 1000000000000000000 ≤ s.1 then (s.1 % m, (s.1 / m, s.2)) else
  ((s.2 * 48271 + s.1 % 2147483647 + 11) % 2147483647 * 69621 % 2147483629 / 64 % m, (s.1, (s.2 * 48271 + s.1 % 2147483647 + 11) % 2147483647))
theorem draw_run (s : Int × Int) (m : Int) (hm : 0 < m) (hm2 : m < 1073741824) : f__law_draw.run [fd s, .int m] = .ok (.int (draw s m).1, [fd (draw s m).2]) := by
  obtain ⟨a, b⟩ := s
  by_cases ha : 1000000000000000000 ≤ a
  · simp -implicitDefEqProofs [f__law_draw, m__law_draw, fd, draw, Fn.of, ↓R.bind_def, R.b_ok, R.b_exc, R.b_stuck, ex, ev, evs, evI, entry, dats, dat, slotD, primD, resV, imm, immL, noSlot, boolOf, sto, stos, put1_eq, putL, bindTg, bindU, nl_un, nl_fz, nl_ow, nl_lk, slotOf, vD, vFull, endOf, outV, ioData, setIo, slotsOf, slotIn, callD, callS, callO, mutL, mAppend, mSetAt, mPop, mClear, atI, ixN, ixD, pIx, pGe, pGt, pLe, pLt, pPow, powOk, pMod, pFdiv, divOk, pAdd, pSub, pMul, mulOk, pNeg, pAbs, pMin2, pMax2, pLen, lenD, pIsa, tyName, R.of, R.calm, seqOf, lock, unlock, wipeC, wipeS, unlocked, List.range, List.range.loop, ha, hm, hm2]
  · simp -implicitDefEqProofs [f__law_draw, m__law_draw, fd, draw, Fn.of, ↓R.bind_def, R.b_ok, R.b_exc, R.b_stuck, ex, ev, evs, evI, entry, dats, dat, slotD, primD, resV, imm, immL, noSlot, boolOf, sto, stos, put1_eq, putL, bindTg, bindU, nl_un, nl_fz, nl_ow, nl_lk, slotOf, vD, vFull, endOf, outV, ioData, setIo, slotsOf, slotIn, callD, callS, callO, mutL, mAppend, mSetAt, mPop, mClear, atI, ixN, ixD, pIx, pGe, pGt, pLe, pLt, pPow, powOk, pMod, pFdiv, divOk, pAdd, pSub, pMul, mulOk, pNeg, pAbs, pMin2, pMax2, pLen, lenD, pIsa, tyName, R.of, R.calm, seqOf, lock, unlock, wipeC, wipeS, unlocked, List.range, List.range.loop, ha, hm, hm2]
theorem draw_lt (s : Int × Int) (m : Int) (hm : 0 < m) : 0 ≤ (draw s m).1 ∧ (draw s m).1 < m := by
  unfold draw
  split
  · exact ⟨Int.emod_nonneg _ (by omega), Int.emod_lt_of_pos _ hm⟩
  · exact ⟨Int.emod_nonneg _ (by omega), Int.emod_lt_of_pos _ hm⟩
theorem range0 : List.range 0 = [] := rfl
theorem sz (n : Nat) (h : n ≤ 1000) : n ≤ sizeLine := by rw [sizeLine_eq]; omega
theorem feed_run (ns : List Int) (k : Int) (hk : 0 ≤ k) : ∃ s, f__law_feed.run [.scr ns, .int k] = .ok (fd s, []) := by
  by_cases h : ns.length = 0
  · refine ⟨(0, 7919 * k + 1), ?_⟩
    simp -implicitDefEqProofs [f__law_feed, m__law_feed, Fn.of, ↓R.bind_def, R.b_ok, R.b_exc, R.b_stuck, ex, ev, evs, evI, entry, dats, dat, slotD, primD, resV, imm, immL, noSlot, boolOf, sto, stos, put1_eq, putL, bindTg, bindU, nl_un, nl_fz, nl_ow, nl_lk, slotOf, vD, vFull, endOf, outV, ioData, setIo, slotsOf, slotIn, callD, callS, callO, mutL, mAppend, mSetAt, mPop, mClear, atI, ixN, ixD, pIx, pGe, pGt, pLe, pLt, pPow, powOk, pMod, pFdiv, divOk, pAdd, pSub, pMul, mulOk, pNeg, pAbs, pMin2, pMax2, pLen, lenD, pIsa, tyName, R.of, R.calm, seqOf, lock, unlock, wipeC, wipeS, unlocked, List.range, List.range.loop, fd, h, sz]
  · have h1 : 0 < (ns.length : Int) := by omega
    have h2 := Int.emod_lt_of_pos k h1
    have h3 := Int.emod_nonneg k (show (ns.length : Int) ≠ 0 by omega)
    have h4 : (k % (ns.length : Int)).toNat < ns.length := by omega
    refine ⟨((if ns[(k % (ns.length : Int)).toNat] < 0 then -ns[(k % (ns.length : Int)).toNat] else ns[(k % (ns.length : Int)).toNat]), 7919 * k + 1), ?_⟩
    have h5 : 0 < ns.length := by omega
    simp -implicitDefEqProofs [f__law_feed, m__law_feed, Fn.of, ↓R.bind_def, R.b_ok, R.b_exc, R.b_stuck, ex, ev, evs, evI, entry, dats, dat, slotD, primD, resV, imm, immL, noSlot, boolOf, sto, stos, put1_eq, putL, bindTg, bindU, nl_un, nl_fz, nl_ow, nl_lk, slotOf, vD, vFull, endOf, outV, ioData, setIo, slotsOf, slotIn, callD, callS, callO, mutL, mAppend, mSetAt, mPop, mClear, atI, ixN, ixD, pIx, pGe, pGt, pLe, pLt, pPow, powOk, pMod, pFdiv, divOk, pAdd, pSub, pMul, mulOk, pNeg, pAbs, pMin2, pMax2, pLen, lenD, pIsa, tyName, R.of, R.calm, seqOf, lock, unlock, wipeC, wipeS, unlocked, List.range, List.range.loop, fd, h1, h2, h3, h4, h5, sz]
end Hr
namespace Hr
open PySem L2 Rg
def pt (x y : Int) : D := .tup [.int x, .int y]
def gt (x y k : Int) : D := .tup [.int x, .int y, .int k]
def encP (p : Int × Int) : D := pt p.1 p.2
def encG (g : Int × Int × Int) : D := gt g.1 g.2.1 g.2.2
theorem imm_encP (p : Int × Int) : imm (encP p) = true := rfl
theorem immL_of {xs : List D} (h : ∀ x ∈ xs, imm x = true) : immL xs = true := by
  induction xs with
  | nil => rfl
  | cons x xs ih =>
    unfold immL
    rw [h x List.mem_cons_self, ih fun y hy => h y (List.mem_cons_of_mem _ hy)]
    rfl
theorem immL_map {α : Type} {enc : α → D} (h : ∀ a, imm (enc a) = true) (xs : List α) : immL (xs.map enc) = true := immL_of fun x hx => by
  obtain ⟨a, _, rfl⟩ := List.mem_map.mp hx
  exact h a
def hi (rows : List (List Int)) (cut x y : Int) : Bool := decide (cut < atv rows x y)
def hasPt (w h : Nat) (x y : Int) : Bool := decide (0 ≤ x ∧ x < w ∧ 0 ≤ y ∧ y < h)
def hasCl (w h : Nat) (x y : Int) : Bool := decide (0 ≤ x ∧ x + 1 < w ∧ 0 ≤ y ∧ y + 1 < h)
theorem hasPt_iff {w h : Nat} {x y : Int} : hasPt w h x y = true ↔ 0 ≤ x ∧ x < w ∧ 0 ≤ y ∧ y < h := by unfold hasPt; exact decide_eq_true_iff
theorem hasCl_iff {w h : Nat} {x y : Int} : hasCl w h x y = true ↔ 0 ≤ x ∧ x + 1 < w ∧ 0 ≤ y ∧ y + 1 < h := by unfold hasCl; exact decide_eq_true_iff
section
variable {rows : List (List Int)} {w : Nat}
theorem pIx_pt0 (x y : Int) : pIx [pt x y, .int 0] = some (.old (.int x)) := rfl
theorem pIx_pt1 (x y : Int) : pIx [pt x y, .int 1] = some (.old (.int y)) := rfl
def otherPt (x y k : Int) : Int × Int := if k = 0 then (x + 1, y) else (x, y + 1)
theorem pEq_int (i j : Int) : pEq [.int i, .int j] = some (.old (.bl (decide (i = j)))) := rfl
theorem pNe_int (i j : Int) : pNe [.int i, .int j] = some (.old (.bl (!decide (i = j)))) := rfl
def isGt (w h : Nat) (x y k : Int) : Bool := decide (k = 0 ∨ k = 1) && (hasPt w h x y && hasPt w h (otherPt x y k).1 (otherPt x y k).2)
def isOp (rows : List (List Int)) (w : Nat) (cut : Int) (x y k : Int) : Bool := isGt w rows.length x y k && (hi rows cut x y != hi rows cut (otherPt x y k).1 (otherPt x y k).2)
theorem isGt_pts {w h : Nat} {x y k : Int} (e : isGt w h x y k = true) : (k = 0 ∨ k = 1) ∧ hasPt w h x y = true ∧ hasPt w h (otherPt x y k).1 (otherPt x y k).2 = true := by
  unfold isGt at e
  simp -implicitDefEqProofs only [Bool.and_eq_true, decide_eq_true_eq] at e
  exact ⟨e.1, e.2.1, e.2.2⟩
def pts (h w : Nat) : List (Int × Int) := (List.range w).flatMap fun (x : Nat) => (List.range h).map fun (y : Nat) => ((x : Int), (y : Int))
end
end Hr
namespace Hr
open PySem L2 Rg
def gLt (a b : Int × Int × Int) : Bool := decide (a.1 < b.1 ∨ (a.1 = b.1 ∧ (a.2.1 < b.2.1 ∨ (a.2.1 = b.2.1 ∧ a.2.2 < b.2.2))))
end Hr
namespace Hr
open PySem L2 Rg
section
variable {rows : List (List Int)} {w : Nat}
def sidesG (x y : Int) : List (Int × Int × Int) := [(x, y, 0), (x + 1, y, 1), (x, y + 1, 0), (x, y, 1)]
def opG (rows : List (List Int)) (w : Nat) (cut : Int) (g : Int × Int × Int) : Bool := isOp rows w cut g.1 g.2.1 g.2.2
def midSum (rows : List (List Int)) (x y : Int) : Int := atv rows x y + (atv rows (x + 1) y + (atv rows (x + 1) (y + 1) + atv rows x (y + 1)))
def midHi (rows : List (List Int)) (cut x y : Int) : Bool := decide (4 * cut + 2 ≤ midSum rows x y)
end
end Hr
namespace Hr
open PySem L2 Rg
section
variable {rows : List (List Int)} {w : Nat}
end
end Hr
namespace Hr
open PySem L2 Rg
section
variable {rows : List (List Int)} {w : Nat}
abbrev Gt := Int × Int × Int
def s0 (x y : Int) : Gt := (x, y, 0)
def s1 (x y : Int) : Gt := (x + 1, y, 1)
def s2 (x y : Int) : Gt := (x, y + 1, 0)
def s3 (x y : Int) : Gt := (x, y, 1)
def tiesB (A B C D M : Bool) (x y : Int) : List (Gt × Gt) :=
  match A, B, C, D with
  | true, true, true, true => []
  | false, false, false, false => []
  | true, false, false, false => [(s0 x y, s3 x y)]
  | false, true, true, true => [(s0 x y, s3 x y)]
  | false, true, false, false => [(s0 x y, s1 x y)]
  | true, false, true, true => [(s0 x y, s1 x y)]
  | false, false, true, false => [(s2 x y, s1 x y)]
  | true, true, false, true => [(s2 x y, s1 x y)]
  | false, false, false, true => [(s3 x y, s2 x y)]
  | true, true, true, false => [(s3 x y, s2 x y)]
  | true, true, false, false => [(s3 x y, s1 x y)]
  | false, false, true, true => [(s3 x y, s1 x y)]
  | true, false, false, true => [(s0 x y, s2 x y)]
  | false, true, true, false => [(s0 x y, s2 x y)]
  | true, false, true, false => if M then [(s0 x y, s1 x y), (s3 x y, s2 x y)] else [(s0 x y, s3 x y), (s2 x y, s1 x y)]
  | false, true, false, true => if M then [(s0 x y, s3 x y), (s2 x y, s1 x y)] else [(s0 x y, s1 x y), (s3 x y, s2 x y)]
def tiesG (rows : List (List Int)) (cut x y : Int) : List (Gt × Gt) := tiesB (hi rows cut x y) (hi rows cut (x + 1) y) (hi rows cut (x + 1) (y + 1)) (hi rows cut x (y + 1)) (midHi rows cut x y) x y
end
end Hr
namespace Hr
open PySem L2 Rg
section
variable {rows : List (List Int)} {w : Nat}
def aheadC (rows : List (List Int)) (cut x y k : Int) : Int × Int := if k = 0 then (if hi rows cut x y then (x, y - 1) else (x, y)) else (if hi rows cut x y then (x, y) else (x - 1, y))
def behindC (rows : List (List Int)) (cut x y k : Int) : Int × Int := if k = 0 then (if hi rows cut x y then (x, y) else (x, y - 1)) else (if hi rows cut x y then (x - 1, y) else (x, y))
theorem w1 : (Str.ofString "down" = Str.ofString "up") = False := by simp; decide
theorem w2 : (Str.ofString "up" = Str.ofString "down") = False := by simp; decide
theorem w3 : (Str.ofString "down" = Str.ofString "left") = False := by simp; decide
theorem w4 : (Str.ofString "right" = Str.ofString "up") = False := by simp; decide
theorem w5 : (Str.ofString "left" = Str.ofString "up") = False := by simp; decide
theorem w6 : (Str.ofString "right" = Str.ofString "left") = False := by simp; decide
theorem w7 : (Str.ofString "up" = Str.ofString "right") = False := by simp; decide
theorem w9 : (Str.ofString "right" = Str.ofString "down") = False := by simp; decide
def comesIn (rows : List (List Int)) (w : Nat) (cut : Int) (t : Gt) : Bool := !hasCl w rows.length (behindC rows cut t.1 t.2.1 t.2.2).1 (behindC rows cut t.1 t.2.1 t.2.2).2
def tieOf (ts : List (Gt × Gt)) (t : Gt) : Option Gt := (ts.find? fun p => decide (p.1 = t) || decide (p.2 = t)).map fun p => if p.1 = t then p.2 else p.1
def oG : Option Gt → D
  | none => .non
  | some t => encG t
def aheadG (rows : List (List Int)) (w : Nat) (cut : Int) (t : Gt) : Option Gt := let c := aheadC rows cut t.1 t.2.1 t.2.2; if hasCl w rows.length c.1 c.2 then tieOf (tiesG rows cut c.1 c.2) t else none
end
end Hr
namespace Hr
open PySem L2 Rg
section
variable {rows : List (List Int)} {w : Nat}
def gatesAt (rows : List (List Int)) (w : Nat) (cut : Int) (p : Int × Int) : List Gt := [(p.1, p.2, 0), (p.1, p.2, 1)].filter (opG rows w cut)
def openL (rows : List (List Int)) (w : Nat) (cut : Int) : List Gt := (pts rows.length w).flatMap (gatesAt rows w cut)
end
end Hr
namespace Rg
open PySem L2
section
variable {Γ : Env1} {n : Nat} {τ τ' τ2 : Sts}
theorem ex_ret_eq {e : E} {v : Val} (h : ev Γ e τ = .ok (v, τ')) : ex Γ n (.ret e) τ = .ok (.ret v τ') := by simp only [ex, h, R.bind_ok]
theorem run0_ret {lv ar m : Nat} {b : S} {fuel : List D → Nat} {ds : List D} {v : Val} {d : D} (hl : ds.length = ar) (h : ex Γ (fuel ds) b (entry 0 m ds) = .ok (.ret v τ')) (ho : outV 0 τ' v = some d) : (Fn.of Γ lv 0 ar m b fuel).run ds = .ok (d, []) := by
  simp only [Fn.of, hl, if_true, h, endOf, ho]
  rfl
theorem run1_ret {lv ar m : Nat} {b : S} {fuel : List D → Nat} {ds : List D} {v : Val} {d e : D} (hl : ds.length = ar) (h : ex Γ (fuel ds) b (entry 1 m ds) = .ok (.ret v τ')) (ho : outV 1 τ' v = some d) (he : τ'[0]? = some (.ow true e)) : (Fn.of Γ lv 1 ar m b fuel).run ds = .ok (d, [e]) := by
  have : ioData τ' (List.range 1) = some [e] := by
    show ioData τ' [0] = some [e]
    simp only [ioData, he]
    rfl
  simp only [Fn.of, hl, if_true, h, endOf, ho, this]
end
end Rg
namespace Hr
open PySem L2 Rg
section
variable {rows : List (List Int)} {w : Nat}
end
end Hr
namespace Hr
open PySem L2 Rg
section
variable {rows : List (List Int)} {w : Nat}
theorem opG_way {cut : Int} {t : Gt} (h : opG rows w cut t = true) : (t.2.2 = 0 ∨ t.2.2 = 1) ∧ hasPt w rows.length t.1 t.2.1 = true := by
  unfold opG isOp at h
  rw [Bool.and_eq_true] at h
  obtain ⟨h1, h2, _⟩ := isGt_pts h.1
  exact ⟨h1, h2⟩
end
end Hr
namespace Hr
section
variable {α : Type} [DecidableEq α]
theorem nodup_le {l m : List α} (hl : l.Nodup) (hs : ∀ x ∈ l, x ∈ m) : l.length ≤ m.length := by
  induction l generalizing m with
  | nil => exact Nat.zero_le _
  | cons a l ih =>
    have hn := List.nodup_cons.mp hl
    have ha : a ∈ m := hs a List.mem_cons_self
    have h1 := ih (m := m.erase a) hn.2 fun x hx => by
      have hne : x ≠ a := fun z => hn.1 (z ▸ hx)
      exact (List.mem_erase_of_ne hne).mpr (hs x (List.mem_cons_of_mem _ hx))
    have h2 := List.length_erase_of_mem ha
    have h3 : 0 < m.length := List.length_pos_of_mem ha
    rw [List.length_cons]
    omega
structure Flow (O : List α) (f b : α → Option α) : Prop where
  nd : O.Nodup
  fo : ∀ a ∈ O, ∀ c, f a = some c → c ∈ O ∧ b c = some a
  bo : ∀ c ∈ O, ∀ a, b c = some a → a ∈ O ∧ f a = some c
def walk (f : α → Option α) (start : α) : Nat → α → List α
  | 0, _ => []
  | n + 1, g => g :: match f g with
    | none => []
    | some u => if u = start then [] else walk f start n u
structure Way (O : List α) (f : α → Option α) (start : α) (l : List α) : Prop where
  nd : l.Nodup
  sub : ∀ x ∈ l, x ∈ O
  hd : l[0]? = some start
  nx : ∀ (i : Nat) (a c : α), l[i]? = some a → l[i + 1]? = some c → f a = some c
  en : ∀ a, l[l.length - 1]? = some a → f a = none ∨ f a = some start
structure Inw (O : List α) (f : α → Option α) (start : α) (l : List α) : Prop where
  nd : l.Nodup
  sub : ∀ x ∈ l, x ∈ O
  hd : l[0]? = some start
  nx : ∀ (i : Nat) (a c : α), l[i]? = some a → l[i + 1]? = some c → f a = some c
theorem nd_ix {l : List α} (h : l.Nodup) {i j : Nat} {a : α} (hi : l[i]? = some a) (hj : l[j]? = some a) : i = j := by
  obtain ⟨hi1, hi2⟩ := List.getElem?_eq_some_iff.mp hi
  obtain ⟨hj1, hj2⟩ := List.getElem?_eq_some_iff.mp hj
  cases Nat.lt_trichotomy i j with
  | inl hlt => exact (List.pairwise_iff_getElem.mp h i j hi1 hj1 hlt (hi2.trans hj2.symm)).elim
  | inr hge =>
    rcases hge with rfl | hgt
    · rfl
    · exact (List.pairwise_iff_getElem.mp h j i hj1 hi1 hgt (hj2.trans hi2.symm)).elim
theorem walk_inv {O : List α} {f b : α → Option α} (F : Flow O f b) {start : α} : ∀ (n : Nat) (acc : List α) (g : α), Inw O f start (acc ++ [g]) → O.length ≤ acc.length + n → Way O f start (acc ++ walk f start n g)
  | 0, acc, g, I, h => by
    exfalso
    have := nodup_le I.nd I.sub
    rw [List.length_append, List.length_singleton] at this
    omega
  | n + 1, acc, g, I, h => by
    have lastg : ∀ a, (acc ++ [g])[(acc ++ [g]).length - 1]? = some a → a = g := fun a ha => by
      rw [List.length_append, List.length_singleton, Nat.add_sub_cancel, List.getElem?_append_right (Nat.le_refl _), Nat.sub_self] at ha
      simp at ha
      exact ha.symm
    have atg : (acc ++ [g])[acc.length]? = some g := by
      rw [List.getElem?_append_right (Nat.le_refl _), Nat.sub_self]
      rfl
    simp -implicitDefEqProofs only [walk]
    cases e : f g with
    | none => exact ⟨I.nd, I.sub, I.hd, I.nx, fun a ha => .inl (by rw [lastg a ha]; exact e)⟩
    | some u =>
      simp only
      by_cases hu : u = start
      · rw [if_pos hu]
        exact ⟨I.nd, I.sub, I.hd, I.nx, fun a ha => .inr (by rw [lastg a ha, ← hu]; exact e)⟩
      · rw [if_neg hu]
        have hg : g ∈ O := I.sub g (List.mem_append_right _ List.mem_cons_self)
        obtain ⟨hu1, hu2⟩ := F.fo g hg u e
        have fresh : u ∉ acc ++ [g] := fun z => by
          obtain ⟨i, hi⟩ := List.getElem?_of_mem z
          cases i with
          | zero =>
            rw [I.hd] at hi
            exact hu (Option.some.inj hi).symm
          | succ i =>
            have hlt : i + 1 < (acc ++ [g]).length := (List.getElem?_eq_some_iff.mp hi).1
            have hia : (acc ++ [g])[i]? = some ((acc ++ [g])[i]'(by omega)) := List.getElem?_eq_getElem (by omega)
            have e2 := I.nx i _ u hia hi
            have hm : (acc ++ [g])[i]'(by omega) ∈ O := I.sub _ (List.getElem_mem _)
            have e3 := (F.fo _ hm u e2).2
            rw [hu2] at e3
            have e4 : (acc ++ [g])[i]? = some g := by rw [hia, ← Option.some.inj e3]
            have := nd_ix I.nd e4 atg
            rw [List.length_append, List.length_singleton] at hlt
            omega
        have I2 : Inw O f start ((acc ++ [g]) ++ [u]) := by
          refine ⟨?_, fun x hx => ?_, ?_, fun i a c ha hc => ?_⟩
          · refine List.nodup_append.mpr ⟨I.nd, by simp, fun a ha c hc z => ?_⟩
            rw [List.mem_singleton] at hc
            exact fresh (by rw [← hc, ← z]; exact ha)
          · rcases List.mem_append.mp hx with hx | hx
            · exact I.sub x hx
            · rw [List.mem_singleton.mp hx]
              exact hu1
          · rw [List.getElem?_append_left (by simp)]
            exact I.hd
          · have hlt : i + 1 < ((acc ++ [g]) ++ [u]).length := (List.getElem?_eq_some_iff.mp hc).1
            rw [List.length_append, List.length_singleton] at hlt
            by_cases hi : i + 1 < (acc ++ [g]).length
            · rw [List.getElem?_append_left (by omega)] at ha hc
              exact I.nx i a c ha hc
            · have ei : i + 1 = (acc ++ [g]).length := by omega
              rw [List.getElem?_append_left (by omega)] at ha
              rw [ei, List.getElem?_append_right (Nat.le_refl _), Nat.sub_self] at hc
              have ea : a = g := lastg a (by rw [← ha]; congr 1; omega)
              have ec : c = u := by simpa using hc.symm
              rw [ea, ec]
              exact e
        have := walk_inv F n (acc ++ [g]) u I2 (by rw [List.length_append, List.length_singleton]; omega)
        rw [List.append_assoc] at this
        exact this
theorem Inw.next {O : List α} {f b : α → Option α} (F : Flow O f b) {start : α} {acc : List α} {g u : α} (I : Inw O f start (acc ++ [g])) (e : f g = some u) (hu : u ≠ start) : Inw O f start ((acc ++ [g]) ++ [u]) := by
  have hg : g ∈ O := I.sub g (List.mem_append_right _ List.mem_cons_self)
  have := walk_inv F (O.length + 2) acc g I (by omega)
  simp -implicitDefEqProofs only [walk, e, if_neg hu] at this
  have e1 : acc ++ g :: (u :: match f u with
      | none => []
      | some u => if u = start then [] else walk f start O.length u) = ((acc ++ [g]) ++ [u]) ++ (match f u with
      | none => []
      | some u => if u = start then [] else walk f start O.length u) := by simp
  rw [e1] at this
  generalize (match f u with
      | none => []
      | some u => if u = start then [] else walk f start O.length u) = r at this
  refine ⟨(List.nodup_append.mp this.nd).1, fun x hx => this.sub x (List.mem_append_left _ hx), ?_, fun i a c ha hc => this.nx i a c ?_ ?_⟩
  · have h := this.hd
    rw [List.getElem?_append_left (by simp)] at h
    exact h
  · rw [List.getElem?_append_left (List.getElem?_eq_some_iff.mp ha).1]
    exact ha
  · rw [List.getElem?_append_left (List.getElem?_eq_some_iff.mp hc).1]
    exact hc
def fin (f : α → Option α) (start : α) : Nat → α → Prop
  | 0, _ => False
  | n + 1, g => ∀ u, f g = some u → u ≠ start → fin f start n u
theorem Way.eq {O : List α} {f : α → Option α} {start : α} {l m : List α} (h : Way O f start l) (k : Way O f start m) : l = m := by
  have key : ∀ {l m : List α}, Way O f start l → Way O f start m → ∀ (i : Nat) (a : α), l[i]? = some a → m[i]? = some a := by
    intro l m h k i
    induction i with
    | zero =>
      intro a ha
      rw [h.hd] at ha
      rw [k.hd, ← ha]
    | succ i ih =>
      intro a ha
      have hlt := (List.getElem?_eq_some_iff.mp ha).1
      have hia : l[i]? = some (l[i]'(by omega)) := List.getElem?_eq_getElem (by omega)
      have e1 := h.nx i _ a hia ha
      have e2 := ih _ hia
      have hne : a ≠ start := fun z => by
        have := nd_ix h.nd (z ▸ ha) h.hd
        omega
      by_cases hm : i + 1 < m.length
      · have := k.nx i _ _ e2 (List.getElem?_eq_getElem hm)
        rw [e1] at this
        rw [List.getElem?_eq_getElem hm, Option.some.inj this]
      · have hl2 := (List.getElem?_eq_some_iff.mp e2).1
        have : m.length - 1 = i := by omega
        rcases k.en _ (by rw [this]; exact e2) with z | z
        · rw [e1] at z
          cases z
        · rw [e1] at z
          exact (hne (Option.some.inj z)).elim
  refine List.ext_getElem? fun i => ?_
  cases e : l[i]? with
  | some a => exact (key h k i a e).symm
  | none =>
    cases e2 : m[i]? with
    | none => rfl
    | some a =>
      have := key k h i a e2
      rw [e] at this
      cases this
end
end Hr
namespace Hr
open PySem L2 Rg
section
variable {rows : List (List Int)} {w : Nat}
end
end Hr
namespace Hr
open PySem L2 Rg
section
variable {rows : List (List Int)} {w : Nat}
def fS (rows : List (List Int)) (cut : Int) (start : Gt) (acc : List Gt) (o : Option Gt) : Sts := [.fz (tab rows), .fz (.int cut), .fz (encG start), .ow true (.lst (acc.map encG)), .fz (oG o)]
theorem wg_no {c : Sts → R (Bool × Sts)} {b : Sts → R Fl} {m : Nat} {τ τ' : Sts} (h : c τ = .ok (false, τ')) : whileGo c b (m + 1) τ = .ok (.next τ') := by
  rw [whileGo, h]; rfl
theorem wg_yes {c : Sts → R (Bool × Sts)} {b : Sts → R Fl} {m : Nat} {τ τ' τ'' : Sts} (h : c τ = .ok (true, τ')) (hb : b τ' = .ok (.next τ'')) : whileGo c b (m + 1) τ = whileGo c b m τ'' := by
  rw [whileGo, h]
  simp -implicitDefEqProofs only [R.bind_ok, if_true, hb]
theorem tst_of {g : Env1} {e : E} {τ τ' : Sts} {k : Bool} (h : ev g e τ = .ok (.fz (.bl k), τ')) : (ev g e τ >>= fun r => R.of (boolOf r.2 r.1) >>= fun k => R.ok (k, r.2)) = .ok (k, τ') := by
  rw [h]; rfl
end
end Hr
namespace Hr
section
variable {α : Type} [DecidableEq α] {O : List α} {f b : α → Option α}
theorem Way.st_mem {s : α} {l : List α} (h : Way O f s l) : s ∈ l := List.mem_of_getElem? h.hd
theorem Way.fwd {s : α} {l : List α} (h : Way O f s l) {x c : α} (hx : x ∈ l) (e : f x = some c) : c ∈ l := by
  obtain ⟨i, hi⟩ := List.getElem?_of_mem hx
  have hlt := (List.getElem?_eq_some_iff.mp hi).1
  by_cases h1 : i + 1 < l.length
  · have h2 := h.nx i x _ hi (List.getElem?_eq_getElem h1)
    rw [e] at h2
    rw [Option.some.inj h2]
    exact List.getElem_mem _
  · have h2 : l.length - 1 = i := by omega
    rcases h.en x (by rw [h2]; exact hi) with z | z
    · rw [e] at z; cases z
    · rw [e] at z
      rw [Option.some.inj z]
      exact h.st_mem
theorem Way.bwd (F : Flow O f b) {s : α} {l : List α} (h : Way O f s l) {x : α} (hx : x ∈ l) (hs : x ≠ s) : ∃ a ∈ l, b x = some a := by
  obtain ⟨i, hi⟩ := List.getElem?_of_mem hx
  have hlt := (List.getElem?_eq_some_iff.mp hi).1
  cases i with
  | zero =>
    rw [h.hd] at hi
    exact (hs (Option.some.inj hi).symm).elim
  | succ i =>
    have h1 : i < l.length := by omega
    have h2 := h.nx i _ x (List.getElem?_eq_getElem h1) hi
    exact ⟨l[i], List.getElem_mem _, (F.fo _ (h.sub _ (List.getElem_mem _)) x h2).2⟩
theorem Way.out (F : Flow O f b) {s : α} {l : List α} (h : Way O f s l) {C : List α} (hb : ∀ x ∈ C, ∀ a, b x = some a → a ∈ C) (hs : s ∉ C) : ∀ x ∈ l, x ∉ C := by
  have key : ∀ (i : Nat) (x : α), l[i]? = some x → x ∉ C := by
    intro i
    induction i with
    | zero =>
      intro x hx
      rw [h.hd] at hx
      rw [← Option.some.inj hx]
      exact hs
    | succ i ih =>
      intro x hx hc
      have hlt := (List.getElem?_eq_some_iff.mp hx).1
      have h1 : i < l.length := by omega
      have h2 := h.nx i _ x (List.getElem?_eq_getElem h1) hx
      have h3 := (F.fo _ (h.sub _ (List.getElem_mem _)) x h2).2
      exact ih _ (List.getElem?_eq_getElem h1) (hb x hc _ h3)
  intro x hx
  obtain ⟨i, hi⟩ := List.getElem?_of_mem hx
  exact key i x hi
structure Shut (O : List α) (f b : α → Option α) (C : List α) : Prop where
  nd : C.Nodup
  sub : ∀ x ∈ C, x ∈ O
  bw : ∀ x ∈ C, ∀ a, b x = some a → a ∈ C
  fw : ∀ x ∈ C, ∀ a, f x = some a → a ∈ C
theorem Shut.nil : Shut O f b [] := ⟨List.nodup_nil, fun _ h => (nomatch h), fun _ h => (nomatch h), fun _ h => (nomatch h)⟩
theorem Shut.add (F : Flow O f b) {C : List α} (S : Shut O f b C) {s : α} {l : List α} (h : Way O f s l) (hs : s ∉ C) (hb : ∀ a, b s = some a → a ∈ l) : Shut O f b (C ++ l) := by
  have ho := h.out F S.bw hs
  refine ⟨List.nodup_append.mpr ⟨S.nd, h.nd, fun a ha c hc z => ho c hc (z ▸ ha)⟩, fun x hx => ?_, fun x hx a e => ?_, fun x hx a e => ?_⟩
  · rcases List.mem_append.mp hx with hx | hx
    · exact S.sub x hx
    · exact h.sub x hx
  · rcases List.mem_append.mp hx with hx | hx
    · exact List.mem_append_left _ (S.bw x hx a e)
    · refine List.mem_append_right _ ?_
      by_cases z : x = s
      · exact hb a (z ▸ e)
      · obtain ⟨a', h1, h2⟩ := h.bwd F hx z
        rw [e] at h2
        rw [Option.some.inj h2]
        exact h1
  · rcases List.mem_append.mp hx with hx | hx
    · exact List.mem_append_left _ (S.fw x hx a e)
    · exact List.mem_append_right _ (h.fwd hx e)
section
variable {p : α → List α}
end
end
end Hr
namespace Hr
open PySem L2 Rg
section
variable {rows : List (List Int)} {w : Nat}
def kG (t : Gt) : List Key := [.inl t.1, .inl t.2.1, .inl t.2.2]
end
end Hr
namespace Hr
open PySem L2 Rg
section
variable {rows : List (List Int)} {w : Nat}
end
end Hr
namespace Hr
open PySem L2 Rg
section
variable {rows : List (List Int)} {w : Nat}
end
end Hr
namespace Hr
open PySem L2 Rg
section
variable {rows : List (List Int)} {w : Nat}
end
end Hr
namespace Hr
open PySem L2 Rg
section
variable {rows : List (List Int)} {w : Nat}
def base (ns : List Int) (m : Nat) : Sts := .fz (.scr ns) :: List.replicate m .un
theorem times_run {Γ : Env1} (ns : List Int) (hl : ns.length ≤ 63) (lo hi : Int) (h0 : 0 ≤ lo) (h1 : lo ≤ 100) (h2 : 0 ≤ hi) (τ : Sts) : ∃ n : Nat, n ≤ 1000 ∧ evI Γ (.iRange (.prim .max2 (.cons (.cst (.int lo)) (.cons (.prim .min2 (.cons (.cst (.int hi)) (.cons (.prim .len (.cons (.var 0) .nil)) .nil))) .nil)))) (.fz (.scr ns) :: τ) = .ok ((List.range n).map enat, none, .fz (.scr ns) :: τ) := by
  have key : ∃ m : Int, 0 ≤ m ∧ m ≤ 1000 ∧ ev Γ (.prim .max2 (.cons (.cst (.int lo)) (.cons (.prim .min2 (.cons (.cst (.int hi)) (.cons (.prim .len (.cons (.var 0) .nil)) .nil))) .nil))) (.fz (.scr ns) :: τ) = .ok (.fz (.int m), .fz (.scr ns) :: τ) := by
    by_cases a : (ns.length : Int) < hi
    · by_cases b : lo < (ns.length : Int)
      · exact ⟨ns.length, by omega, by omega, by simp -implicitDefEqProofs [Fn.of, ↓R.bind_def, R.b_ok, R.b_exc, R.b_stuck, ex, ev, evs, evI, entry, dats, dat, slotD, primD, resV, imm, immL, noSlot, boolOf, sto, stos, put1_eq, putL, bindTg, bindU, nl_un, nl_fz, nl_ow, nl_lk, slotOf, vD, vFull, endOf, outV, ioData, setIo, slotsOf, slotIn, callD, callS, callO, mutL, mAppend, mSetAt, mPop, mClear, atI, ixN, ixD, pIx, pGe, pGt, pLe, pLt, pPow, powOk, pMod, pFdiv, divOk, pAdd, pSub, pMul, mulOk, pNeg, pAbs, pMin2, pMax2, pLen, lenD, pIsa, tyName, R.of, R.calm, seqOf, lock, unlock, wipeC, wipeS, unlocked, List.range, List.range.loop, a, b]⟩
      · exact ⟨lo, by omega, by omega, by simp -implicitDefEqProofs [Fn.of, ↓R.bind_def, R.b_ok, R.b_exc, R.b_stuck, ex, ev, evs, evI, entry, dats, dat, slotD, primD, resV, imm, immL, noSlot, boolOf, sto, stos, put1_eq, putL, bindTg, bindU, nl_un, nl_fz, nl_ow, nl_lk, slotOf, vD, vFull, endOf, outV, ioData, setIo, slotsOf, slotIn, callD, callS, callO, mutL, mAppend, mSetAt, mPop, mClear, atI, ixN, ixD, pIx, pGe, pGt, pLe, pLt, pPow, powOk, pMod, pFdiv, divOk, pAdd, pSub, pMul, mulOk, pNeg, pAbs, pMin2, pMax2, pLen, lenD, pIsa, tyName, R.of, R.calm, seqOf, lock, unlock, wipeC, wipeS, unlocked, List.range, List.range.loop, a, b]⟩
    · by_cases b : lo < hi
      · exact ⟨hi, by omega, by omega, by simp -implicitDefEqProofs [Fn.of, ↓R.bind_def, R.b_ok, R.b_exc, R.b_stuck, ex, ev, evs, evI, entry, dats, dat, slotD, primD, resV, imm, immL, noSlot, boolOf, sto, stos, put1_eq, putL, bindTg, bindU, nl_un, nl_fz, nl_ow, nl_lk, slotOf, vD, vFull, endOf, outV, ioData, setIo, slotsOf, slotIn, callD, callS, callO, mutL, mAppend, mSetAt, mPop, mClear, atI, ixN, ixD, pIx, pGe, pGt, pLe, pLt, pPow, powOk, pMod, pFdiv, divOk, pAdd, pSub, pMul, mulOk, pNeg, pAbs, pMin2, pMax2, pLen, lenD, pIsa, tyName, R.of, R.calm, seqOf, lock, unlock, wipeC, wipeS, unlocked, List.range, List.range.loop, a, b]⟩
      · exact ⟨lo, by omega, by omega, by simp -implicitDefEqProofs [Fn.of, ↓R.bind_def, R.b_ok, R.b_exc, R.b_stuck, ex, ev, evs, evI, entry, dats, dat, slotD, primD, resV, imm, immL, noSlot, boolOf, sto, stos, put1_eq, putL, bindTg, bindU, nl_un, nl_fz, nl_ow, nl_lk, slotOf, vD, vFull, endOf, outV, ioData, setIo, slotsOf, slotIn, callD, callS, callO, mutL, mAppend, mSetAt, mPop, mClear, atI, ixN, ixD, pIx, pGe, pGt, pLe, pLt, pPow, powOk, pMod, pFdiv, divOk, pAdd, pSub, pMul, mulOk, pNeg, pAbs, pMin2, pMax2, pLen, lenD, pIsa, tyName, R.of, R.calm, seqOf, lock, unlock, wipeC, wipeS, unlocked, List.range, List.range.loop, a, b]⟩
  obtain ⟨m, m0, m1, e⟩ := key
  refine ⟨m.toNat, by omega, rngN ?_ (by omega)⟩
  rw [Int.toNat_of_nonneg m0]
  exact e
theorem loop_true {Γ : Env1} {n : Nat} {b : S} {lo hi : Int} {m : Nat} (ns : List Int) (hl : ns.length ≤ 63) (h0 : 0 ≤ lo) (h1 : lo ≤ 100) (h2 : 0 ≤ hi) (h : ∀ k : Nat, k ≤ 1000 → ex Γ n b (.fz (.scr ns) :: .fz (.int k) :: List.replicate m .un) = .ok (.next (base ns (m + 1)))) : ex Γ n (.fors [1] true (.iRange (.prim .max2 (.cons (.cst (.int lo)) (.cons (.prim .min2 (.cons (.cst (.int hi)) (.cons (.prim .len (.cons (.var 0) .nil)) .nil))) .nil)))) b) (base ns (m + 1)) = .ok (.next (base ns (m + 1))) := by
  obtain ⟨c, hc, e⟩ := times_run (Γ := Γ) ns hl lo hi h0 h1 h2 (List.replicate (m + 1) .un)
  have := ex_for_fold (Γ := Γ) (n := n) (b := b) (tg := [1]) (one := true) enat (fun _ : Unit => base ns (m + 1)) (fun _ _ => ()) (fun _ => True) (b0 := ()) e (fun k hk _ _ => ⟨by
    have hk2 := List.mem_range.mp hk
    have e1 := h k (by omega)
    simp -implicitDefEqProofs only [forStep, base, List.replicate_succ, bindTg, putL, put1_eq] at e1 ⊢
    simp -implicitDefEqProofs [enat, nl, R.of, e1], trivial⟩) trivial
  exact this.1
theorem law_end {Γ : Env1} {lv m : Nat} {l : S} {fuel : List D → Nat} (ns : List Int) (h : ex Γ (fuel [.scr ns]) l (base ns m) = .ok (.next (base ns m))) : (Fn.of Γ lv 0 1 (m + 1) (.seq l (.seq (.ret (.cst (.bl true))) .skip)) fuel).run [.scr ns] = .ok (.bl true, []) := by
  refine run0_ret rfl (v := .fz (.bl true)) (τ' := base ns m) ?_ rfl
  have e : entry 0 (m + 1) [.scr ns] = base ns m := by simp -implicitDefEqProofs [entry, base]
  rw [e, ex_seq_next h]
  exact ex_seq_ret (ex_ret_eq rfl)
end
end Hr
namespace Hr
open PySem L2 Rg
section
variable {Γ : Env1} {n : Nat} {τ τ1 : Sts} {rows : List (List Int)} {w : Nat}
theorem ex_for_quiet {α : Type} {tg : List Nat} {one : Bool} {it : E} {b : S} (enc : α → D) {xs : List α} (h : evI Γ it τ = .ok (xs.map enc, none, τ1)) (hs : ∀ x ∈ xs, forStep Γ n tg one b τ1 (enc x) = .ok (.next τ1)) : ex Γ n (.fors tg one it b) τ = .ok (.next τ1) :=
  (ex_for_fold (α := α) enc (fun _ : Unit => τ1) (fun _ _ => ()) (fun _ => True) (b0 := ()) h (fun x hx _ _ => ⟨hs x hx, trivial⟩) trivial).1
def rangeI (lo hi : Int) : List Int := (List.range (hi - lo).toNat).map fun (k : Nat) => lo + (k : Int)
theorem rng2 {e1 e2 : E} {lo hi : Int} (h1 : ev Γ e1 τ = .ok (.fz (.int lo), τ)) (h2 : ev Γ e2 τ = .ok (.fz (.int hi), τ)) (b1 : -1000000000000 ≤ lo) (b2 : lo ≤ 1000000000000) (b3 : -1000000000000 ≤ hi) (b4 : hi ≤ 1000000000000) : evI Γ (.iRange2 e1 e2) τ = .ok ((rangeI lo hi).map .int, none, τ) := by
  have c : -(2 ^ 62) ≤ lo ∧ lo < 2 ^ 62 ∧ -(2 ^ 62) ≤ hi ∧ hi < 2 ^ 62 := by omega
  simp -implicitDefEqProofs only [evI, h1, h2, R.bind_ok, dats, dat, Option.bind_some, Option.map_some, R.of_some, int2, if_pos c]
  unfold rangeI
  rw [List.map_map]
  rfl
theorem imm_fd (s : Int × Int) : imm (fd s) = false := rfl
end
end Hr
namespace Lwk63
open PySem L2 Rg Hr
abbrev Pt := Int × Int
def nearB (o t p : Pt) (b : Int) : Bool :=
  let wd := t.1 - o.1
  let hg := t.2 - o.2
  let r := p.1 - o.1
  let d := p.2 - o.2
  let al := r * wd + d * hg
  let wh := wd * wd + hg * hg
  if al ≤ 0 then decide (r * r + d * d ≤ b * b)
  else if wh ≤ al then decide ((p.1 - t.1) * (p.1 - t.1) + (p.2 - t.2) * (p.2 - t.2) ≤ b * b)
  else decide ((wd * d - hg * r) * (wd * d - hg * r) ≤ b * b * wh)
def lnearB (o t p : Pt) (b : Int) : Bool :=
  let wd := t.1 - o.1
  let hg := t.2 - o.2
  let wh := max 1 (wd * wd + hg * hg)
  let al := max 0 (min ((p.1 - o.1) * wd + (p.2 - o.2) * hg) wh)
  let ov := (p.1 - o.1) * wh - al * wd
  let dn := (p.2 - o.2) * wh - al * hg
  decide (ov * ov + dn * dn ≤ b * b * wh * wh)
theorem sq_nn (a : Int) : 0 ≤ a * a := by
  by_cases h : 0 ≤ a
  · exact Int.mul_nonneg h h
  · exact Int.mul_nonneg_of_nonpos_of_nonpos (by omega) (by omega)
theorem sq_pos {a : Int} (h : a ≠ 0) : 0 < a * a := by
  have := sq_nn a
  have : a * a ≠ 0 := Int.mul_ne_zero h h
  omega
theorem le_scale {x y c : Int} (hc : 0 < c) : x * c ≤ y * c ↔ x ≤ y := ⟨fun h => Int.le_of_mul_le_mul_right h hc, fun h => Int.mul_le_mul_of_nonneg_right h (by omega)⟩
theorem near_eq (o t p : Pt) (b : Int) : lnearB o t p b = nearB o t p b := by
  unfold lnearB nearB
  simp only
  generalize hw : t.1 - o.1 = wd
  generalize hh : t.2 - o.2 = hg
  generalize hr : p.1 - o.1 = r
  generalize hd : p.2 - o.2 = d
  have e1 : p.1 - t.1 = r - wd := by omega
  have e2 : p.2 - t.2 = d - hg := by omega
  rw [e1, e2]
  clear hw hh hr hd e1 e2
  have w0 := sq_nn wd
  have h0 := sq_nn hg
  by_cases z : wd * wd + hg * hg = 0
  · have zw : wd = 0 := Classical.byContradiction fun n => by have := sq_pos n; omega
    have zh : hg = 0 := Classical.byContradiction fun n => by have := sq_pos n; omega
    subst zw zh
    have m1 : max (1 : Int) 0 = 1 := by decide
    simp -implicitDefEqProofs [m1]
  · have wp : 0 < wd * wd + hg * hg := by omega
    have mx : max 1 (wd * wd + hg * hg) = wd * wd + hg * hg := by omega
    rw [mx]
    generalize hW : wd * wd + hg * hg = W at *
    by_cases a1 : r * wd + d * hg ≤ 0
    · rw [if_pos a1]
      have : max 0 (min (r * wd + d * hg) W) = 0 := by omega
      rw [this]
      congr 1
      have k1 : (r * W - 0 * wd) * (r * W - 0 * wd) + (d * W - 0 * hg) * (d * W - 0 * hg) = (r * r + d * d) * (W * W) := by grind
      have k2 : b * b * W * W = b * b * (W * W) := by grind
      rw [k1, k2]
      exact propext (le_scale (Int.mul_pos wp wp))
    · rw [if_neg a1]
      by_cases a2 : W ≤ r * wd + d * hg
      · rw [if_pos a2]
        have : max 0 (min (r * wd + d * hg) W) = W := by omega
        rw [this]
        congr 1
        have k1 : (r * W - W * wd) * (r * W - W * wd) + (d * W - W * hg) * (d * W - W * hg) = ((r - wd) * (r - wd) + (d - hg) * (d - hg)) * (W * W) := by grind
        have k2 : b * b * W * W = b * b * (W * W) := by grind
        rw [k1, k2]
        exact propext (le_scale (Int.mul_pos wp wp))
      · rw [if_neg a2]
        have : max 0 (min (r * wd + d * hg) W) = r * wd + d * hg := by omega
        rw [this]
        congr 1
        have k1 : (r * W - (r * wd + d * hg) * wd) * (r * W - (r * wd + d * hg) * wd) + (d * W - (r * wd + d * hg) * hg) * (d * W - (r * wd + d * hg) * hg) = (wd * d - hg * r) * (wd * d - hg * r) * W := by
          rw [← hW]
          grind
        have k2 : b * b * W * W = b * b * W * W := rfl
        rw [k1]
        exact propext (le_scale wp)
def ptAt (P : List Pt) (k : Nat) : Pt := P.getD k (0, 0)
def okSeg (P : List Pt) (b : Int) (j k : Nat) : Bool := (List.range (k - (j + 1))).all fun i => nearB (ptAt P j) (ptAt P k) (ptAt P (j + 1 + i)) b
def Chain (P : List Pt) (b : Int) : List Nat → Prop
  | [] => True
  | [_] => True
  | j :: k :: r => j < k ∧ okSeg P b j k = true ∧ Chain P b (k :: r)
structure Best (P : List Pt) (b : Int) (ms as : List Nat) : Prop where
  ml : ms.length = as.length
  m0 : ms[0]? = some 1
  st : ∀ k : Nat, 0 < k → k < as.length → ∃ a m, as[k]? = some a ∧ a < k ∧ ms[a]? = some m ∧ ms[k]? = some (m + 1) ∧ okSeg P b a k = true ∧ ∀ j, j < k → okSeg P b j k = true → ∃ q, ms[j]? = some q ∧ m ≤ q
theorem Best.least {P : List Pt} {b : Int} {ms as : List Nat} (h : Best P b ms as) : ∀ (r : List Nat) (k : Nat), Chain P b (r ++ [k]) → (r ++ [k]).head? = some 0 → k < as.length → ∃ m, ms[k]? = some m ∧ m ≤ r.length + 1 := by
  intro r
  generalize hn : r.length = n
  induction n generalizing r with
  | zero =>
    intro k hc hh hk
    have : r = [] := List.length_eq_zero_iff.mp hn
    subst this
    simp at hh
    subst hh
    exact ⟨1, h.m0, by omega⟩
  | succ n ih =>
    intro k hc hh hk
    have hne : r ≠ [] := fun z => by rw [z] at hn; simp at hn
    obtain ⟨r', j, rfl⟩ : ∃ r' j, r = r' ++ [j] := ⟨r.dropLast, r.getLast hne, (List.dropLast_concat_getLast hne).symm⟩
    have key : ∀ (l : List Nat), Chain P b (l ++ [j] ++ [k]) → Chain P b (l ++ [j]) ∧ j < k ∧ okSeg P b j k = true := by
      intro l
      induction l with
      | nil => intro hc; exact ⟨trivial, hc.1, hc.2.1⟩
      | cons a l ih2 =>
        intro hc
        cases l with
        | nil => exact ⟨⟨hc.1, hc.2.1, trivial⟩, hc.2.2.1, hc.2.2.2.1⟩
        | cons c l =>
          obtain ⟨q1, q2, q3⟩ := ih2 hc.2.2
          exact ⟨⟨hc.1, hc.2.1, q1⟩, q2, q3⟩
    obtain ⟨c1, jk, oj⟩ := key r' hc
    have hl : r'.length = n := by simpa using hn
    have hd : (r' ++ [j]).head? = some 0 := by
      cases r' with
      | nil => simpa using hh
      | cons a r' => simpa using hh
    obtain ⟨m, hm, hle⟩ := ih r' hl j c1 hd (by omega)
    obtain ⟨a, m0, g1, g2, g3, g4, g5, g6⟩ := h.st k (by omega) hk
    obtain ⟨q, hq, hmq⟩ := g6 j jk oj
    rw [hm] at hq
    cases hq
    exact ⟨m0 + 1, g4, by omega⟩
theorem Best.row {P : List Pt} {b : Int} {ms as : List Nat} (h : Best P b ms as) : ∀ (k : Nat), k < as.length → ∃ r m, ms[k]? = some m ∧ Chain P b (r ++ [k]) ∧ (r ++ [k]).head? = some 0 ∧ r.length + 1 = m := by
  intro k
  induction k using Nat.strongRecOn with
  | _ k ih =>
    intro hk
    cases k with
    | zero => exact ⟨[], 1, h.m0, trivial, rfl, rfl⟩
    | succ k =>
      obtain ⟨a, m0, g1, g2, g3, g4, g5, g6⟩ := h.st (k + 1) (by omega) hk
      obtain ⟨r, m, k1, k2, k3, k4⟩ := ih a g2 (by omega)
      rw [g3] at k1
      cases k1
      refine ⟨r ++ [a], m0 + 1, g4, ?_, ?_, by simp -implicitDefEqProofs [k4]⟩
      · have key : ∀ (l : List Nat), Chain P b (l ++ [a]) → Chain P b (l ++ [a] ++ [k + 1]) := by
          intro l
          induction l with
          | nil => intro _; exact ⟨g2, g5, trivial⟩
          | cons c l ih2 =>
            intro hc
            cases l with
            | nil => exact ⟨hc.1, hc.2.1, g2, g5, trivial⟩
            | cons e l => exact ⟨hc.1, hc.2.1, ih2 hc.2.2⟩
        exact key r k2
      · cases r with
        | nil => simpa using k3
        | cons c r => simpa using k3
end Lwk63
namespace Hr
open PySem L2 Rg
def m__law_points : S := (.seq (.unpack [1, 2, 3] (.var 0))
  (.seq (.ret (.lst (.cons (.tup (.cons (.var 1) (.cons (.var 2) .nil))) (.cons (.prim .ix (.cons (.lst (.cons (.tup (.cons (.prim .add (.cons (.var 1) (.cons (.cst (.int 1)) .nil))) (.cons (.var 2) .nil))) (.cons (.tup (.cons (.var 1) (.cons (.prim .add (.cons (.var 2) (.cons (.cst (.int 1)) .nil))) .nil))) .nil))) (.cons (.var 3) .nil))) .nil))))
  .skip))
def g__law_points : Env1 := []
def f__law_points : Fn := Fn.of g__law_points 1 0 1 4 m__law_points (fun _ => 0)
@[simp] theorem ow__law_points : f__law_points.ow = 0 := rfl
@[simp] theorem io__law_points : f__law_points.io = 0 := rfl
@[simp] theorem ar__law_points : f__law_points.ar = 1 := rfl
end Hr
namespace Hr
section
variable {α : Type} [DecidableEq α] {O : List α} {f b : α → Option α} {p : α → List α}
theorem Way.last {s : α} {l : List α} (h : Way O f s l) : ∃ z, l[l.length - 1]? = some z ∧ z ∈ l := by
  have hl : 0 < l.length := List.length_pos_of_mem h.st_mem
  exact ⟨_, List.getElem?_eq_getElem (by omega), List.getElem_mem _⟩
end
end Hr
namespace Hr
open PySem L2 Rg
end Hr
namespace Hr
open PySem L2 Rg
section
variable {rows : List (List Int)} {w : Nat}
structure IsL (rows : List (List Int)) (w : Nat) (cut : Int) (l : Bool × List Gt) : Prop where
  sub : ∀ t ∈ l.2, t ∈ openL rows w cut
  nd : l.2.Nodup
  nx : ∀ (i : Nat) (a c : Gt), l.2[i]? = some a → l.2[i + 1]? = some c → aheadG rows w cut a = some c
  ends : ∃ s z, l.2[0]? = some s ∧ l.2[l.2.length - 1]? = some z ∧ (l.1 = false → aheadG rows w cut z = none ∧ comesIn rows w cut s = true) ∧ (l.1 = true → aheadG rows w cut z = some s ∧ ∀ x ∈ l.2, x = s ∨ gLt s x = true)
end
end Hr
namespace Hr
open PySem L2 Rg
section
variable {rows : List (List Int)} {w : Nat}
end
end Hr
namespace Hr
section
variable {α : Type} [DecidableEq α] {O : List α} {f b : α → Option α} {R : α → α → Prop}
structure Lin (O : List α) (f b : α → Option α) (R : α → α → Prop) (s : α) (l : List α) (c : Bool) : Prop where
  way : Way O f s l
  run : c = false → b s = none
  ring : c = true → (∀ z, l[l.length - 1]? = some z → f z = some s) ∧ ∀ x ∈ l, x = s ∨ R s x
theorem Lin.bw (F : Flow O f b) {s : α} {l : List α} {c : Bool} (h : Lin O f b R s l c) : ∀ x ∈ l, ∀ a, b x = some a → a ∈ l := by
  intro x hx a e
  by_cases z : x = s
  · cases c with
    | false =>
      rw [z, h.run rfl] at e
      cases e
    | true =>
      obtain ⟨y, hy, hm⟩ := h.way.last
      have h1 := (h.ring rfl).1 y hy
      have h2 := (F.fo y (h.way.sub y hm) s h1).2
      rw [z, h2] at e
      rw [← Option.some.inj e]
      exact hm
  · obtain ⟨a', h1, h2⟩ := h.way.bwd F hx z
    rw [e] at h2
    rw [Option.some.inj h2]
    exact h1
theorem Way.down (F : Flow O f b) {s : α} {l : List α} (h : Way O f s l) {C : List α} (hb : ∀ x ∈ C, ∀ a, b x = some a → a ∈ C) {x : α} (hx : x ∈ l) (hc : x ∈ C) : s ∈ C := by
  by_cases hs : s ∈ C
  · exact hs
  · exact (h.out F hb hs x hx hc).elim
end
end Hr
namespace Hr
open PySem L2 Rg
def b2__law_near : S := (.seq (.asg 2 (.prim .add (.cons (.var 2) (.cons (.lst (.cons (.tup (.cons (.var 3) (.cons (.var 4) (.cons (.cst (.int 0)) .nil)))) (.cons (.tup (.cons (.prim .add (.cons (.var 3) (.cons (.cst (.int 1)) .nil))) (.cons (.var 4) (.cons (.cst (.int 1)) .nil)))) (.cons (.tup (.cons (.var 3) (.cons (.prim .add (.cons (.var 4) (.cons (.cst (.int 1)) .nil))) (.cons (.cst (.int 0)) .nil)))) (.cons (.tup (.cons (.var 3) (.cons (.var 4) (.cons (.cst (.int 1)) .nil)))) .nil))))) .nil))))
  (.seq (.wipe 4)
  .skip))
def l2__law_near : S := .fors [4] true (.iSeq (.lst (.cons (.prim .sub (.cons (.var 1) (.cons (.cst (.int 1)) .nil))) (.cons (.var 1) .nil)))) b2__law_near
def b1__law_near : S := (.seq l2__law_near
  (.seq (.wipe 3)
  (.seq (.wipe 4)
  .skip)))
def l1__law_near : S := .fors [3] true (.iSeq (.lst (.cons (.prim .sub (.cons (.var 0) (.cons (.cst (.int 1)) .nil))) (.cons (.var 0) .nil)))) b1__law_near
def m__law_near : S := (.seq (.asg 2 (.lst .nil))
  (.seq l1__law_near
  (.seq (.ret (.var 2))
  .skip)))
def g__law_near : Env1 := []
def f__law_near : Fn := Fn.of g__law_near 1 0 2 5 m__law_near (fun _ => 0)
@[simp] theorem ow__law_near : f__law_near.ow = 0 := rfl
@[simp] theorem io__law_near : f__law_near.io = 0 := rfl
@[simp] theorem ar__law_near : f__law_near.ar = 2 := rfl
end Hr
namespace Hr
open PySem L2 Rg
section
variable {rows : List (List Int)} {w : Nat}
def aboutG (x y : Int) : List Gt := [x - 1, x].flatMap fun a => [y - 1, y].flatMap fun b => sidesG a b
structure Same (rows rows' : List (List Int)) (x0 y0 : Int) : Prop where
  len : rows'.length = rows.length
  at' : ∀ x y : Int, 0 ≤ x → 0 ≤ y → x ≠ x0 ∨ y ≠ y0 → atv rows' x y = atv rows x y
theorem Same.symm {rows rows' : List (List Int)} {x0 y0 : Int} (h : Same rows rows' x0 y0) : Same rows' rows x0 y0 := ⟨h.len.symm, fun x y a b c => (h.at' x y a b c).symm⟩
theorem far_num {x0 y0 x y k : Int} (h : (x, y, k) ∉ aboutG x0 y0) : (k = 0 → x < x0 - 1 ∨ x0 < x ∨ y < y0 - 1 ∨ y0 + 1 < y) ∧ (k = 1 → x < x0 - 1 ∨ x0 + 1 < x ∨ y < y0 - 1 ∨ y0 < y) := by
  simp -implicitDefEqProofs [aboutG, sidesG] at h
  constructor <;> intro hk <;> subst hk <;> simp at h <;> omega
variable {rows' : List (List Int)} {x0 y0 : Int}
theorem Same.hi (S : Same rows rows' x0 y0) (cut : Int) {x y : Int} (hx : 0 ≤ x) (hy : 0 ≤ y) (h : x ≠ x0 ∨ y ≠ y0) : Hr.hi rows' cut x y = Hr.hi rows cut x y := by
  unfold Hr.hi
  rw [S.at' x y hx hy h]
theorem Same.op (S : Same rows rows' x0 y0) (cut : Int) {t : Gt} (h : t ∉ aboutG x0 y0) : opG rows' w cut t = opG rows w cut t := by
  obtain ⟨x, y, k⟩ := t
  obtain ⟨f0, f1⟩ := far_num h
  unfold opG isOp
  rw [S.len]
  cases e : isGt w rows.length x y k with
  | false => simp -implicitDefEqProofs [e]
  | true =>
    obtain ⟨hk, h1, h2⟩ := isGt_pts e
    obtain ⟨a1, a2, a3, a4⟩ := hasPt_iff.mp h1
    obtain ⟨b1, b2, b3, b4⟩ := hasPt_iff.mp h2
    have n1 : x ≠ x0 ∨ y ≠ y0 := by omega
    have n2 : (otherPt x y k).1 ≠ x0 ∨ (otherPt x y k).2 ≠ y0 := by
      unfold otherPt
      rcases hk with rfl | rfl <;> simp <;> omega
    simp -implicitDefEqProofs only [e, S.hi cut a1 a3 n1, S.hi cut b1 b3 n2]
theorem Same.ties (S : Same rows rows' x0 y0) (cut : Int) {x y : Int} (hc : hasCl w rows.length x y = true) (h : x < x0 - 1 ∨ x0 < x ∨ y < y0 - 1 ∨ y0 < y) : tiesG rows' cut x y = tiesG rows cut x y := by
  obtain ⟨a1, a2, a3, a4⟩ := hasCl_iff.mp hc
  unfold tiesG midHi midSum Hr.hi
  rw [S.at' x y (by omega) (by omega) (by omega), S.at' (x + 1) y (by omega) (by omega) (by omega), S.at' (x + 1) (y + 1) (by omega) (by omega) (by omega), S.at' x (y + 1) (by omega) (by omega) (by omega)]
theorem Same.ahead (S : Same rows rows' x0 y0) (cut : Int) {t : Gt} (ho : opG rows w cut t = true) (h : t ∉ aboutG x0 y0) : aheadG rows' w cut t = aheadG rows w cut t := by
  obtain ⟨hk, hp⟩ := opG_way ho
  obtain ⟨x, y, k⟩ := t
  obtain ⟨f0, f1⟩ := far_num h
  obtain ⟨a1, a2, a3, a4⟩ := hasPt_iff.mp hp
  have n1 : x ≠ x0 ∨ y ≠ y0 := by
    simp only at hk
    omega
  have eC : aheadC rows' cut x y k = aheadC rows cut x y k := by
    unfold aheadC
    rw [S.hi cut a1 a3 n1]
  have nc : (aheadC rows cut x y k).1 < x0 - 1 ∨ x0 < (aheadC rows cut x y k).1 ∨ (aheadC rows cut x y k).2 < y0 - 1 ∨ y0 < (aheadC rows cut x y k).2 := by
    unfold aheadC
    rcases hk with e | e <;> simp only at e <;> subst e <;> cases Hr.hi rows cut x y <;> simp <;> omega
  unfold aheadG
  simp -implicitDefEqProofs only [eC, S.len]
  split
  · rename_i hc
    rw [S.ties cut hc nc]
  · rfl
end
end Hr
namespace Hr
open PySem L2 Rg
section
end
end Hr
namespace Hr
open PySem L2 Rg
section
variable {rows : List (List Int)} {w : Nat}
def gcd3 (t s u : Int) : Int := ((Int.gcd (Int.gcd t s : Nat) u : Nat) : Int)
def spotQ (t s u : Int) : Gt := (t / gcd3 t s u, s / gcd3 t s u, u / gcd3 t s u)
def apartI (rows : List (List Int)) (t : Gt) : Int := 2 * (atv rows (otherPt t.1 t.2.1 t.2.2).1 (otherPt t.1 t.2.1 t.2.2).2 - atv rows t.1 t.2.1)
def alongI (rows : List (List Int)) (cut : Int) (t : Gt) : Int := 2 * cut + 1 - 2 * atv rows t.1 t.2.1
def apD (rows : List (List Int)) (t : Gt) : Int := if apartI rows t < 0 then 0 - apartI rows t else apartI rows t
def alA (rows : List (List Int)) (cut : Int) (t : Gt) : Int := if apartI rows t < 0 then 0 - alongI rows cut t else alongI rows cut t
def placeQ (rows : List (List Int)) (cut : Int) (t : Gt) : Gt := if t.2.2 = 0 then spotQ (t.1 * apD rows t + alA rows cut t) (t.2.1 * apD rows t) (apD rows t) else spotQ (t.1 * apD rows t) (t.2.1 * apD rows t + alA rows cut t) (apD rows t)
end
end Hr
namespace Hr
open PySem L2 Rg
section
variable {rows : List (List Int)} {w : Nat}
theorem pMul_b {a b : Int} (h1 : -10000000000000 ≤ b) (h2 : b ≤ 10000000000000) : pMul [.int a, .int b] = some (.old (.int (a * b))) := by
  have : mulOk a b := .inr (.inl ⟨by omega, by omega⟩)
  simp -implicitDefEqProofs only [pMul, if_pos this]
def alongQ (rows : List (List Int)) (cut : Int) (t : Gt) : Int := if t.2.2 = 0 then (placeQ rows cut t).1 - t.1 * (placeQ rows cut t).2.2 else (placeQ rows cut t).2.1 - t.2.1 * (placeQ rows cut t).2.2
structure PlaceOk (rows : List (List Int)) (cut : Int) (t : Gt) : Prop where
  w0 : 0 < (placeQ rows cut t).2.2
  w9 : (placeQ rows cut t).2.2 ≤ 4000000000
  low : Nat.gcd (Nat.gcd (placeQ rows cut t).1.natAbs (placeQ rows cut t).2.1.natAbs) (placeQ rows cut t).2.2.natAbs = 1
  a0 : 0 < alongQ rows cut t
  a1 : alongQ rows cut t < (placeQ rows cut t).2.2
  x : (placeQ rows cut t).1 - t.1 * (placeQ rows cut t).2.2 = if t.2.2 = 0 then alongQ rows cut t else 0
  y : (placeQ rows cut t).2.1 - t.2.1 * (placeQ rows cut t).2.2 = if t.2.2 = 0 then 0 else alongQ rows cut t
  at_ : 2 * (atv rows t.1 t.2.1 * (placeQ rows cut t).2.2 + (atv rows (otherPt t.1 t.2.1 t.2.2).1 (otherPt t.1 t.2.1 t.2.2).2 - atv rows t.1 t.2.1) * alongQ rows cut t) = (2 * cut + 1) * (placeQ rows cut t).2.2
end
end Hr
namespace Hr
open PySem L2 Rg
theorem beqI (u v : Int) : (u == v) = decide (u = v) := by
  by_cases h : u = v
  · simp -implicitDefEqProofs [h]
  · simp -implicitDefEqProofs [h]
theorem eqP_gen {a b : D} {n m : Nat} (ha : Lay n a) (hb : Lay m b) (hn : n ≤ 64) (hm : m ≤ 64) : eqP a b = some (PyData.eqv (toPy a) (toPy b)) := by
  have h1 := ha.sh hn
  have h2 := hb.sh hm
  unfold eqP
  split
  · simp -implicitDefEqProofs [toPy, PyData.eqv, beqI]
  · simp -implicitDefEqProofs only [toPy, PyData.eqv]
    congr 1
  · rw [h1, h2]
    rfl
structure Enc {α : Type} [DecidableEq α] (enc : α → D) (n : Nat) : Prop where
  lay : ∀ a, Lay n (enc a)
  eqv : ∀ a b, PyData.eqv (toPy (enc a)) (toPy (enc b)) = decide (a = b)
section
variable {α β : Type} [DecidableEq α] [DecidableEq β] {enc : α → D} {enb : β → D} {n m : Nat}
theorem Lay.up {n m : Nat} {d : D} (h : Lay n d) (k : n ≤ m) : Lay m d := ⟨h.1, Nat.le_trans h.2 k⟩
theorem enc_int : Enc D.int 0 := ⟨fun a => lay_int 0 a, fun a b => by simp -implicitDefEqProofs [toPy, PyData.eqv, beqI]⟩
theorem enc_nat : Enc enat 0 := ⟨fun a => lay_int 0 _, fun a b => by
  simp -implicitDefEqProofs only [enat, toPy, PyData.eqv, beqI]
  exact decide_eq_decide.mpr (by omega)⟩
theorem enc_tup2 (h : Enc enc n) (k : Enc enb m) : Enc (fun p : α × β => D.tup [enc p.1, enb p.2]) (max n m + 1) := ⟨fun a => lay_tup fun x hx => by
  simp -implicitDefEqProofs only [List.mem_cons, List.not_mem_nil, or_false] at hx
  rcases hx with rfl | rfl
  · exact Lay.up (h.lay _) (by omega)
  · exact Lay.up (k.lay _) (by omega), fun a b => by
  obtain ⟨a1, a2⟩ := a
  obtain ⟨b1, b2⟩ := b
  simp -implicitDefEqProofs [toPy, toPyL_map, PyData.eqv, PyData.eqvAll, h.eqv, k.eqv]⟩
theorem eqvAll_map (h : ∀ a b, PyData.eqv (toPy (enc a)) (toPy (enc b)) = decide (a = b)) : ∀ xs ys : List α, PyData.eqvAll ((xs.map enc).map toPy) ((ys.map enc).map toPy) = decide (xs = ys)
  | [], [] => by simp -implicitDefEqProofs [PyData.eqvAll]
  | [], y :: ys => by simp -implicitDefEqProofs [PyData.eqvAll]
  | x :: xs, [] => by simp -implicitDefEqProofs [PyData.eqvAll]
  | x :: xs, y :: ys => by
    have ih := eqvAll_map h xs ys
    simp -implicitDefEqProofs only [List.map_cons, PyData.eqvAll, h, ih]
    simp
theorem enc_lst (h : Enc enc n) : Enc (fun l : List α => D.lst (l.map enc)) (n + 1) := ⟨fun a => lay_lst fun x hx => by
  obtain ⟨y, _, rfl⟩ := List.mem_map.mp hx
  exact h.lay y, fun a b => by
  simp -implicitDefEqProofs only [toPy, toPyL_map, PyData.eqv]
  exact eqvAll_map h.eqv a b⟩
theorem Enc.congr {f g : α → D} (h : Enc f n) (e : ∀ a, g a = f a) : Enc g n := by
  have : g = f := funext e
  rw [this]
  exact h
theorem enc_pt : Enc encP 1 := (enc_tup2 enc_int enc_int).congr fun _ => rfl
theorem Enc.eqP (h : Enc enc n) (hn : n ≤ 64) (a b : α) : Rg.eqP (enc a) (enc b) = some (decide (a = b)) := by
  rw [eqP_gen (h.lay a) (h.lay b) hn hn, h.eqv]
theorem Enc.pEq (h : Enc enc n) (hn : n ≤ 64) (a b : α) : Rg.pEq [enc a, enc b] = some (.old (.bl (decide (a = b)))) := by
  simp -implicitDefEqProofs only [Rg.pEq, h.eqP hn]
  rfl
theorem Enc.pNe (h : Enc enc n) (hn : n ≤ 64) (a b : α) : Rg.pNe [enc a, enc b] = some (.old (.bl (!decide (a = b)))) := by
  simp -implicitDefEqProofs only [Rg.pNe, h.eqP hn]
  rfl
theorem Enc.pIndex (h : Enc enc n) (hn : n ≤ 63) (a : α) (l : List α) : Rg.pIndex [.lst (l.map enc), enc a] = (l.findIdx? fun x => decide (x = a)).map fun j => .old (.int (j : Nat)) := by
  have h1 := (h.lay a).sh (by omega)
  have h2 : SeqAt.shaped (.list (toPyL (l.map enc))) = true := ((enc_lst h).lay l).sh (by omega)
  have h3 : ((toPyL (l.map enc)).findIdx? fun z => PyData.eqv z (toPy (enc a))) = l.findIdx? fun x => decide (x = a) := by
    rw [toPyL_map, List.findIdx?_map, List.findIdx?_map]
    congr 1
    funext x
    simp -implicitDefEqProofs [Function.comp, h.eqv]
  simp -implicitDefEqProofs only [Rg.pIndex, h1, h2, Bool.and_self, if_true, h3]
  cases l.findIdx? (fun x => decide (x = a)) <;> rfl
end
theorem ix_lst {α : Type} {enc : α → D} {l : List α} {j : Nat} {x : α} (h : l[j]? = some x) : pIx [.lst (l.map enc), .int (j : Nat)] = some (.old (enc x)) := by
  have hj := (List.getElem?_eq_some_iff.mp h).1
  have e2 : ixN (l.map enc).length ((j : Nat) : Int) = some j := ixN_in (by omega) (by rw [List.length_map]; omega)
  simp -implicitDefEqProofs only [pIx, ixD, atI, e2]
  show ((l.map enc)[j]?.bind _) = _
  rw [List.getElem?_map, h]
  rfl
theorem ix_lastL {α : Type} {enc : α → D} {l : List α} {x : α} (h : l.getLast? = some x) : pIx [.lst (l.map enc), .int (-1)] = some (.old (enc x)) := by
  have h2 : 0 < l.length := by cases l with | nil => cases h | cons => simp
  have h3 : l[l.length - 1]? = some x := by rw [← List.getLast?_eq_getElem?]; exact h
  have e2 : ixN (l.map enc).length (-1) = some (l.length - 1) := by
    unfold ixN
    rw [if_neg (by omega), List.length_map, if_pos (by omega)]
    congr 1
    omega
  simp -implicitDefEqProofs only [pIx, ixD, atI, e2]
  show ((l.map enc)[l.length - 1]?.bind _) = _
  rw [List.getElem?_map, h3]
  rfl
theorem pLen_lstM {α : Type} (enc : α → D) (l : List α) : pLen [.lst (l.map enc)] = some (.old (.int (l.length : Nat))) := by simp -implicitDefEqProofs [pLen, lenD]
theorem pMul_ok {i j : Int} (h : mulOk i j) : pMul [.int i, .int j] = some (.old (.int (i * j))) := by
  simp -implicitDefEqProofs only [pMul, if_pos h]
end Hr
namespace Hr
open PySem L2 Rg
section
theorem slcU {xs : List D} {k : Nat} (h : k ≤ xs.length) : pSlc false true [.lst xs, .int (k : Nat)] = some (.nu (xs.take k)) := by
  have e : HT.sIx xs.length xs.length (some ((k : Nat) : Int)) = k := by
    rw [HT.sIx_nat]
    omega
  have e0 : HT.sIx xs.length 0 none = 0 := rfl
  show some (Res.nu (cutL xs none (some ((k : Nat) : Int)))) = _
  unfold cutL
  rw [e, e0, List.drop_zero]
  rfl
theorem slcL {xs : List D} {k : Nat} (h : k ≤ xs.length) : pSlc true false [.lst xs, .int (k : Nat)] = some (.nu (xs.drop k)) := by
  have e : HT.sIx xs.length 0 (some ((k : Nat) : Int)) = k := by
    rw [HT.sIx_nat]
    omega
  have e0 : HT.sIx xs.length xs.length none = xs.length := rfl
  show some (Res.nu (cutL xs (some ((k : Nat) : Int)) none)) = _
  unfold cutL
  rw [e, e0]
  congr 2
  rw [List.take_of_length_le (by rw [List.length_drop]; omega)]
end
end Hr
namespace Hr
open PySem L2 Rg
section
variable {Γ : Env1} {n : Nat} {τ τ' st : Sts}
theorem ex_for_findE {α : Type} {tg : List Nat} {one : Bool} {it : E} {b : S} (enc : α → D) (p : α → Bool) (v : α → Val) {xs : List α} (h : evI Γ it τ = .ok (xs.map enc, none, st)) (hs : ∀ x ∈ xs, (p x = true → ∃ t, forStep Γ n tg one b st (enc x) = .ok (.ret (v x) t)) ∧ (p x = false → forStep Γ n tg one b st (enc x) = .ok (.next st))) :
    (∃ x, xs.find? p = some x ∧ ∃ t, ex Γ n (.fors tg one it b) τ = .ok (.ret (v x) t)) ∨ (xs.find? p = none ∧ ex Γ n (.fors tg one it b) τ = .ok (.next st)) := by
  classical
  have e := ex_for_find (Γ := Γ) (n := n) (tg := tg) (one := one) (it := it) (b := b) (τ := τ) enc (st := st) p v (fun x => if hx : ∃ t, forStep Γ n tg one b st (enc x) = .ok (.ret (v x) t) then hx.choose else []) h (fun x hx => by
    obtain ⟨h1, h2⟩ := hs x hx
    cases hp : p x with
    | true =>
      have h3 := h1 hp
      simp -implicitDefEqProofs only [if_true, dif_pos h3]
      exact h3.choose_spec
    | false =>
      simp -implicitDefEqProofs only [Bool.false_eq_true, if_false]
      exact h2 hp)
  cases hf : xs.find? p with
  | none =>
    rw [hf] at e
    exact .inr ⟨rfl, e⟩
  | some x =>
    rw [hf] at e
    exact .inl ⟨x, rfl, _, e⟩
end
end Hr
namespace Lwk63
open PySem L2 Rg Hr
theorem mul_bd {a b A B : Int} (h1 : -A ≤ a) (h2 : a ≤ A) (h3 : -B ≤ b) (h4 : b ≤ B) : -(A * B) ≤ a * b ∧ a * b ≤ A * B := by
  have hA : 0 ≤ A := by omega
  have hB : 0 ≤ B := by omega
  have n : (a * b).natAbs ≤ (A * B).natAbs := by
    rw [Int.natAbs_mul, Int.natAbs_mul]
    exact Nat.mul_le_mul (by omega) (by omega)
  have : 0 ≤ A * B := Int.mul_nonneg hA hB
  omega
def Bd (n : Nat) (i : Int) : Prop := i.natAbs < 2 ^ n
theorem Bd.mono {n m : Nat} {i : Int} (h : Bd n i) (hn : n ≤ m) : Bd m i := Nat.lt_of_lt_of_le h (Nat.pow_le_pow_right (by omega) hn)
theorem Bd.mul {n m : Nat} {i j : Int} (h1 : Bd n i) (h2 : Bd m j) : Bd (n + m) (i * j) := by
  unfold Bd at *
  rw [Int.natAbs_mul, Nat.pow_add]
  exact Nat.mul_lt_mul_of_lt_of_lt h1 h2
theorem Bd.add {n : Nat} {i j : Int} (h1 : Bd n i) (h2 : Bd n j) : Bd (n + 1) (i + j) := by
  unfold Bd at *
  rw [Nat.pow_succ]
  omega
theorem Bd.sub {n : Nat} {i j : Int} (h1 : Bd n i) (h2 : Bd n j) : Bd (n + 1) (i - j) := by
  unfold Bd at *
  rw [Nat.pow_succ]
  omega
theorem Bd.pMul {n m : Nat} {i j : Int} (h1 : Bd n i) (h2 : Bd m j) (h : n + m < 1000000) : pMul [.int i, .int j] = some (.old (.int (i * j))) := by
  refine pMul_ok (.inr (.inr ?_))
  have l : ∀ {n : Nat} {i : Int}, Bd n i → i.natAbs.log2 ≤ n := fun {n i} h => by
    by_cases z : i.natAbs = 0
    · rw [z]
      simp
    · exact Nat.le_of_lt ((Nat.log2_lt z).mpr h)
  have := l h1
  have := l h2
  omega
def Sm (p : Pt) : Prop := Bd 41 p.1 ∧ Bd 41 p.2
theorem is_near_run {o t p : Pt} {b : Int} (ho : Sm o) (ht : Sm t) (hp : Sm p) (b0 : 0 ≤ b) (b1 : Bd 200 b) : f_is_near.run [encP o, encP t, encP p, .int b] = .ok (.bl (nearB o t p b), []) := by
  obtain ⟨o1, o2⟩ := ho
  obtain ⟨t1, t2⟩ := ht
  obtain ⟨p1, p2⟩ := hp
  obtain ⟨ox, oy⟩ := o
  obtain ⟨tx, ty⟩ := t
  obtain ⟨px, py⟩ := p
  simp only at *
  unfold nearB encP
  simp only
  have W1 := t1.sub o1
  have W2 := t2.sub o2
  have W3 := p1.sub o1
  have W4 := p2.sub o2
  have W5 := p1.sub t1
  have W6 := p2.sub t2
  generalize g_wd : tx - ox = wd at *
  generalize g_hg : ty - oy = hg at *
  generalize g_r : px - ox = r at *
  generalize g_d : py - oy = d at *
  generalize g_r2 : px - tx = r2 at *
  generalize g_d2 : py - ty = d2 at *
  have m1 := W3.pMul W1 (by omega)
  have m2 := W4.pMul W2 (by omega)
  have m3 := W1.pMul W1 (by omega)
  have m4 := W2.pMul W2 (by omega)
  have m5 := W3.pMul W3 (by omega)
  have m6 := W4.pMul W4 (by omega)
  have m7 := b1.pMul b1 (by omega)
  have m8 := W5.pMul W5 (by omega)
  have m9 := W6.pMul W6 (by omega)
  have ma := W1.pMul W4 (by omega)
  have mb := W2.pMul W3 (by omega)
  have q := (W1.mul W4).sub (W2.mul W3)
  have mc := q.pMul q (by omega)
  have md := (b1.mul b1).pMul ((W1.mul W1).add (W2.mul W2)) (by omega)
  generalize hal : r * wd + d * hg = al
  generalize hwh : wd * wd + hg * hg = wh at *
  by_cases a1 : al ≤ 0
  · rw [if_pos a1]
    simp -implicitDefEqProofs [f_is_near, m_is_near, Fn.of, ↓R.bind_def, R.b_ok, R.b_exc, R.b_stuck, ex, ev, evs, evI, entry, dats, dat, slotD, primD, resV, imm, immL, noSlot, boolOf, sto, stos, put1_eq, putL, bindTg, bindU, nl_un, nl_fz, nl_ow, nl_lk, slotOf, vD, vFull, endOf, outV, ioData, setIo, slotsOf, slotIn, callD, callS, callO, mutL, mAppend, mSetAt, mPop, mClear, pGe, pGt, pLe, pLt, pPow, powOk, pMod, pFdiv, divOk, pAdd, pSub, pNeg, pAbs, pMin2, pMax2, pIsa, tyName, R.of, R.calm, seqOf, lock, unlock, wipeC, wipeS, unlocked, range0, pIx_pt0, pIx_pt1, g_wd, g_hg, g_r, g_d, g_r2, g_d2, m1, m2, m3, m4, m5, m6, m7, hal, hwh, a1]
  · rw [if_neg a1]
    by_cases a2 : wh ≤ al
    · rw [if_pos a2]
      simp -implicitDefEqProofs [f_is_near, m_is_near, Fn.of, ↓R.bind_def, R.b_ok, R.b_exc, R.b_stuck, ex, ev, evs, evI, entry, dats, dat, slotD, primD, resV, imm, immL, noSlot, boolOf, sto, stos, put1_eq, putL, bindTg, bindU, nl_un, nl_fz, nl_ow, nl_lk, slotOf, vD, vFull, endOf, outV, ioData, setIo, slotsOf, slotIn, callD, callS, callO, mutL, mAppend, mSetAt, mPop, mClear, pGe, pGt, pLe, pLt, pPow, powOk, pMod, pFdiv, divOk, pAdd, pSub, pNeg, pAbs, pMin2, pMax2, pIsa, tyName, R.of, R.calm, seqOf, lock, unlock, wipeC, wipeS, unlocked, range0, pIx_pt0, pIx_pt1, g_wd, g_hg, g_r, g_d, g_r2, g_d2, m1, m2, m3, m4, m7, m8, m9, hal, hwh, a1, a2]
    · rw [if_neg a2]
      simp -implicitDefEqProofs [f_is_near, m_is_near, Fn.of, ↓R.bind_def, R.b_ok, R.b_exc, R.b_stuck, ex, ev, evs, evI, entry, dats, dat, slotD, primD, resV, imm, immL, noSlot, boolOf, sto, stos, put1_eq, putL, bindTg, bindU, nl_un, nl_fz, nl_ow, nl_lk, slotOf, vD, vFull, endOf, outV, ioData, setIo, slotsOf, slotIn, callD, callS, callO, mutL, mAppend, mSetAt, mPop, mClear, pGe, pGt, pLe, pLt, pPow, powOk, pMod, pFdiv, divOk, pAdd, pSub, pNeg, pAbs, pMin2, pMax2, pIsa, tyName, R.of, R.calm, seqOf, lock, unlock, wipeC, wipeS, unlocked, range0, pIx_pt0, pIx_pt1, g_wd, g_hg, g_r, g_d, g_r2, g_d2, m1, m2, m3, m4, m7, ma, mb, mc, md, hal, hwh, a1, a2]
theorem all_near_run {o t : Pt} {ps : List Pt} {b : Int} (ho : Sm o) (ht : Sm t) (hp : ∀ p ∈ ps, Sm p) (b0 : 0 ≤ b) (b1 : Bd 200 b) : f_all_near.run [encP o, encP t, .lst (ps.map encP), .int b] = .ok (.bl (ps.all fun p => nearB o t p b), []) := by
  have lp := ex_for_findE (Γ := g_all_near) (n := 0) (tg := [4]) (one := true) (it := .iSeq (.var 2)) (b := b1_all_near) (τ := [.fz (encP o), .fz (encP t), .fz (.lst (ps.map encP)), .fz (.int b), .un]) (st := [.fz (encP o), .fz (encP t), .fz (.lst (ps.map encP)), .fz (.int b), .un]) encP (fun p => !nearB o t p b) (fun _ => .fz (.bl false)) (xs := ps) (by generalize ps.map encP = PP; simp -implicitDefEqProofs [Fn.of, ↓R.bind_def, R.b_ok, R.b_exc, R.b_stuck, ex, ev, evs, evI, entry, dats, dat, slotD, primD, resV, imm, immL, noSlot, boolOf, sto, stos, put1_eq, putL, bindTg, bindU, nl_un, nl_fz, nl_ow, nl_lk, slotOf, vD, vFull, endOf, outV, ioData, setIo, slotsOf, slotIn, callD, callS, callO, mutL, mAppend, mSetAt, mPop, mClear, pGe, pGt, pLe, pLt, pPow, powOk, pMod, pFdiv, divOk, pAdd, pSub, pMul, mulOk, pNeg, pAbs, pMin2, pMax2, pIsa, tyName, R.of, R.calm, seqOf, lock, unlock, wipeC, wipeS, unlocked, range0]) (fun p hq => by
    have e := is_near_run ho ht (hp p hq) b0 b1
    generalize ps.map encP = PP at *
    cases h : nearB o t p b with
    | true =>
      rw [h] at e
      refine ⟨fun z => (by simp at z), fun _ => ?_⟩
      generalize encP o = OO at *
      generalize encP t = TT at *
      generalize encP p = QQ at *
      simp -implicitDefEqProofs [forStep, b1_all_near, g_all_near, Fn.of, ↓R.bind_def, R.b_ok, R.b_exc, R.b_stuck, ex, ev, evs, evI, entry, dats, dat, slotD, primD, resV, imm, immL, noSlot, boolOf, sto, stos, put1_eq, putL, bindTg, bindU, nl_un, nl_fz, nl_ow, nl_lk, slotOf, vD, vFull, endOf, outV, ioData, setIo, slotsOf, slotIn, callD, callS, callO, mutL, mAppend, mSetAt, mPop, mClear, pGe, pGt, pLe, pLt, pPow, powOk, pMod, pFdiv, divOk, pAdd, pSub, pMul, mulOk, pNeg, pAbs, pMin2, pMax2, pIsa, tyName, R.of, R.calm, seqOf, lock, unlock, wipeC, wipeS, unlocked, range0, e]
    | false =>
      rw [h] at e
      refine ⟨fun _ => ⟨[.fz (encP o), .fz (encP t), .fz (.lst PP), .fz (.int b), .fz (encP p)], ?_⟩, fun z => (by simp at z)⟩
      generalize encP o = OO at *
      generalize encP t = TT at *
      generalize encP p = QQ at *
      simp -implicitDefEqProofs [forStep, b1_all_near, g_all_near, Fn.of, ↓R.bind_def, R.b_ok, R.b_exc, R.b_stuck, ex, ev, evs, evI, entry, dats, dat, slotD, primD, resV, imm, immL, noSlot, boolOf, sto, stos, put1_eq, putL, bindTg, bindU, nl_un, nl_fz, nl_ow, nl_lk, slotOf, vD, vFull, endOf, outV, ioData, setIo, slotsOf, slotIn, callD, callS, callO, mutL, mAppend, mSetAt, mPop, mClear, pGe, pGt, pLe, pLt, pPow, powOk, pMod, pFdiv, divOk, pAdd, pSub, pMul, mulOk, pNeg, pAbs, pMin2, pMax2, pIsa, tyName, R.of, R.calm, seqOf, lock, unlock, wipeC, wipeS, unlocked, range0, e])
  rcases lp with ⟨x, hx, t', ht'⟩ | ⟨hx, ht'⟩
  · have k1 := List.find?_some hx
    have k2 := List.mem_of_find?_eq_some hx
    have : (ps.all fun p => nearB o t p b) = false := by
      rw [List.all_eq_false]
      exact ⟨x, k2, by simpa using k1⟩
    rw [this]
    exact run0_ret rfl (v := .fz (.bl false)) (τ' := t') (ex_seq_ret ht') rfl
  · have : (ps.all fun p => nearB o t p b) = true := by
      rw [List.all_eq_true]
      intro p hp
      have := List.find?_eq_none.mp hx p hp
      simpa using this
    rw [this]
    exact run0_ret rfl (v := .fz (.bl true)) (τ' := _) ((ex_seq_next ht').trans (ex_seq_ret (ex_ret_eq rfl))) rfl
theorem slcB_run {xs : List D} {a k : Nat} (h1 : a ≤ k) (h2 : k ≤ xs.length) : pSlc true true [.lst xs, .int (a : Nat), .int (k : Nat)] = some (.nu ((xs.drop a).take (k - a))) := by
  have e : HT.sIx xs.length xs.length (some ((k : Nat) : Int)) = k := by
    rw [HT.sIx_nat]
    omega
  have e0 : HT.sIx xs.length 0 (some ((a : Nat) : Int)) = a := by
    rw [HT.sIx_nat]
    omega
  show some (Res.nu (cutL xs (some ((a : Nat) : Int)) (some ((k : Nat) : Int)))) = _
  unfold cutL
  rw [e, e0]
theorem ptAt_get {P : List Pt} {i : Nat} (h : i < P.length) : P[i]? = some (ptAt P i) := by
  unfold ptAt
  rw [List.getD_eq_getElem?_getD, List.getElem?_eq_getElem h]
  rfl
theorem slice_eq {P : List Pt} {a k : Nat} (h : k ≤ P.length) : (P.drop a).take (k - a) = (List.range (k - a)).map fun i => ptAt P (a + i) := by
  refine List.ext_getElem? fun i => ?_
  rw [List.getElem?_take, List.getElem?_drop, List.getElem?_map]
  by_cases hi : i < k - a
  · rw [if_pos hi, List.getElem?_range hi, ptAt_get (by omega)]
    rfl
  · rw [if_neg hi, List.getElem?_eq_none (by rw [List.length_range]; omega)]
    rfl
theorem okSeg_slice {P : List Pt} {b : Int} {j k : Nat} (h : k ≤ P.length) : ((P.drop (j + 1)).take (k - (j + 1))).all (fun p => nearB (ptAt P j) (ptAt P k) p b) = okSeg P b j k := by
  rw [slice_eq h, List.all_map]
  rfl
def fS (P : List Pt) (b : Int) (ms as : List Nat) (k best j : Slot) : Sts := [.fz (.lst (P.map encP)), .fz (.int b), .ow true (.lst (ms.map enat)), .ow true (.lst (as.map enat)), k, best, j]
theorem sm_at {P : List Pt} (hP : ∀ p ∈ P, Sm p) {i : Nat} (h : i < P.length) : Sm (ptAt P i) := hP _ (List.mem_of_getElem? (ptAt_get h))
theorem best_step {P : List Pt} {b : Int} {ms as : List Nat} {k best j m q : Nat} (hP : ∀ p ∈ P, Sm p) (b0 : 0 ≤ b) (b1 : Bd 200 b) (hk : k < P.length) (hj : j + 1 < k) (h1 : ms[best]? = some m) (h2 : ms[j]? = some q) : forStep g_fewest_to 0 [6] true b2_fewest_to (fS P b ms as (.fz (enat k)) (.fz (enat best)) .un) (enat j) = .ok (.next (fS P b ms as (.fz (enat k)) (.fz (enat (if q < m ∧ okSeg P b j k = true then j else best))) .un)) := by
  have p1 := ix_lst (enc := enat) h1
  have p2 := ix_lst (enc := enat) h2
  have q1 := ix_lst (enc := encP) (ptAt_get (P := P) (i := j) (by omega))
  have q2 := ix_lst (enc := encP) (ptAt_get (P := P) (i := k) (by omega))
  have sl := slcB_run (xs := P.map encP) (a := j + 1) (k := k) (by omega) (by rw [List.length_map]; omega)
  rw [← List.map_drop, ← List.map_take] at sl
  have an := all_near_run (o := ptAt P j) (t := ptAt P k) (ps := (P.drop (j + 1)).take (k - (j + 1))) (sm_at hP (by omega)) (sm_at hP hk) (fun p hp => hP p (List.mem_of_mem_drop (List.mem_of_mem_take hp))) b0 b1
  rw [okSeg_slice (by omega)] at an
  have im : immL (((P.drop (j + 1)).take (k - (j + 1))).map encP) = true := immL_map imm_encP _
  have e1 : (((j + 1 : Nat) : Int)) = (j : Int) + 1 := by omega
  rw [e1] at sl
  have lt : pLt [enat q, enat m] = some (.old (.bl (decide (q < m)))) := by
    have : decide ((q : Int) < (m : Int)) = decide (q < m) := decide_eq_decide.mpr (by omega)
    simp -implicitDefEqProofs only [enat, pLt, this]
  have i1 : imm (enat q) = true := rfl
  have i2 : imm (enat m) = true := rfl
  unfold fS
  generalize List.map encP (List.take (k - (j + 1)) (List.drop (j + 1) P)) = SL at *
  generalize P.map encP = PP at *
  generalize hMS : ms.map enat = MS at *
  generalize as.map enat = AS at *
  have i3 := imm_encP (ptAt P j)
  have i4 := imm_encP (ptAt P k)
  generalize encP (ptAt P j) = PJ at *
  generalize encP (ptAt P k) = PK at *
  generalize enat q = QQ at *
  generalize enat m = MM at *
  by_cases c1 : q < m
  · by_cases c2 : okSeg P b j k = true
    · rw [if_pos ⟨c1, c2⟩]
      rw [c2] at an
      simp -implicitDefEqProofs [forStep, b2_fewest_to, g_fewest_to, Fn.of, ↓R.bind_def, R.b_ok, R.b_exc, R.b_stuck, ex, ev, evs, evI, entry, dats, dat, slotD, primD, resV, imm, noSlot, boolOf, sto, stos, put1_eq, putL, bindTg, bindU, nl_un, nl_fz, nl_ow, nl_lk, slotOf, vD, vFull, endOf, outV, ioData, setIo, slotsOf, slotIn, callD, callS, callO, mutL, mAppend, mSetAt, mPop, mClear, pGe, pGt, pLe, pPow, powOk, pMod, pFdiv, divOk, pAdd, pSub, pMul, mulOk, pNeg, pAbs, pMin2, pMax2, pIsa, tyName, R.of, R.calm, seqOf, lock, unlock, wipeC, wipeS, unlocked, range0, enat, primV, intV, primD, p1, p2, q1, q2, sl, an, im, lt, c1, i1, i2, i3, i4]
    · rw [if_neg (fun z => c2 z.2)]
      have c2 : okSeg P b j k = false := by simpa using c2
      rw [c2] at an
      simp -implicitDefEqProofs [forStep, b2_fewest_to, g_fewest_to, Fn.of, ↓R.bind_def, R.b_ok, R.b_exc, R.b_stuck, ex, ev, evs, evI, entry, dats, dat, slotD, primD, resV, imm, noSlot, boolOf, sto, stos, put1_eq, putL, bindTg, bindU, nl_un, nl_fz, nl_ow, nl_lk, slotOf, vD, vFull, endOf, outV, ioData, setIo, slotsOf, slotIn, callD, callS, callO, mutL, mAppend, mSetAt, mPop, mClear, pGe, pGt, pLe, pPow, powOk, pMod, pFdiv, divOk, pAdd, pSub, pMul, mulOk, pNeg, pAbs, pMin2, pMax2, pIsa, tyName, R.of, R.calm, seqOf, lock, unlock, wipeC, wipeS, unlocked, range0, enat, primV, intV, primD, p1, p2, q1, q2, sl, an, im, lt, c1, i1, i2, i3, i4]
  · rw [if_neg (fun z => c1 z.1)]
    simp -implicitDefEqProofs [forStep, b2_fewest_to, g_fewest_to, Fn.of, ↓R.bind_def, R.b_ok, R.b_exc, R.b_stuck, ex, ev, evs, evI, entry, dats, dat, slotD, primD, resV, imm, noSlot, boolOf, sto, stos, put1_eq, putL, bindTg, bindU, nl_un, nl_fz, nl_ow, nl_lk, slotOf, vD, vFull, endOf, outV, ioData, setIo, slotsOf, slotIn, callD, callS, callO, mutL, mAppend, mSetAt, mPop, mClear, pGe, pGt, pLe, pPow, powOk, pMod, pFdiv, divOk, pAdd, pSub, pMul, mulOk, pNeg, pAbs, pMin2, pMax2, pIsa, tyName, R.of, R.calm, seqOf, lock, unlock, wipeC, wipeS, unlocked, range0, enat, p1, p2, lt, c1, i1, i2]
theorem okSeg_next (P : List Pt) (b : Int) (k : Nat) : okSeg P b (k - 1) k = true := by
  unfold okSeg
  have : k - (k - 1 + 1) = 0 := by omega
  rw [this]
  rfl
theorem inner {P : List Pt} {b : Int} {ms as : List Nat} {k : Nat} (hP : ∀ p ∈ P, Sm p) (b0 : 0 ≤ b) (b1 : Bd 200 b) (hl : P.length ≤ 1000) (k0 : 0 < k) (hk : k < P.length) (hm : ms.length = k) : ∃ best m, ex g_fewest_to 0 l2_fewest_to (fS P b ms as (.fz (enat k)) (.fz (enat (k - 1))) .un) = .ok (.next (fS P b ms as (.fz (enat k)) (.fz (enat best)) .un)) ∧ best < k ∧ okSeg P b best k = true ∧ ms[best]? = some m ∧ ∀ j, j < k → okSeg P b j k = true → ∃ q, ms[j]? = some q ∧ m ≤ q := by
  have gt : ∀ i, i < k → ∃ q, ms[i]? = some q := fun i hi => ⟨_, List.getElem?_eq_getElem (by omega)⟩
  obtain ⟨best, e, h1, h2, m, h3, h4⟩ := forGo_nth (step := forStep g_fewest_to 0 [6] true b2_fewest_to) enat (fun best => fS P b ms as (.fz (enat k)) (.fz (enat best)) .un) (fun j best => best < k ∧ okSeg P b best k = true ∧ ∃ m, ms[best]? = some m ∧ ∀ i, (i < j ∨ i = k - 1) → okSeg P b i k = true → ∃ q, ms[i]? = some q ∧ m ≤ q) (xs := List.range (k - 1)) (k := 0) (b := k - 1) (fun j x hx best hb => by
    have hj := (List.getElem?_eq_some_iff.mp hx).1
    rw [List.length_range] at hj
    rw [List.getElem?_range hj] at hx
    cases hx
    rw [Nat.zero_add] at hb ⊢
    obtain ⟨h1, h2, m, h3, h4⟩ := hb
    obtain ⟨q, hq⟩ := gt j (by omega)
    refine ⟨_, best_step hP b0 b1 hk (by omega) h3 hq, ?_⟩
    by_cases c : q < m ∧ okSeg P b j k = true
    · rw [if_pos c]
      refine ⟨by omega, c.2, q, hq, fun i hi ok => ?_⟩
      by_cases ij : i = j
      · subst ij
        exact ⟨q, hq, Nat.le_refl _⟩
      · obtain ⟨r, hr, hmr⟩ := h4 i (by omega) ok
        exact ⟨r, hr, by omega⟩
    · rw [if_neg c]
      refine ⟨h1, h2, m, h3, fun i hi ok => ?_⟩
      by_cases ij : i = j
      · subst ij
        exact ⟨q, hq, Nat.le_of_not_lt fun z => c ⟨z, ok⟩⟩
      · exact h4 i (by omega) ok) (by
    obtain ⟨q, hq⟩ := gt (k - 1) (by omega)
    refine ⟨by omega, okSeg_next P b k, q, hq, fun i hi ok => ?_⟩
    have : i = k - 1 := by omega
    subst this
    exact ⟨q, hq, Nat.le_refl _⟩)
  rw [List.length_range, Nat.zero_add] at h4
  refine ⟨best, m, ?_, h1, h2, h3, fun j hj ok => h4 j (by omega) ok⟩
  refine ex_for (rngN (n := k - 1) ?_ (by omega)) e
  have e1 : ((k - 1 : Nat) : Int) = (k : Int) - 1 := by omega
  rw [e1]
  unfold fS
  generalize P.map encP = PP at *
  generalize ms.map enat = MS at *
  generalize as.map enat = AS at *
  simp -implicitDefEqProofs [Fn.of, ↓R.bind_def, R.b_ok, R.b_exc, R.b_stuck, ex, ev, evs, evI, entry, dats, dat, slotD, primD, resV, imm, immL, noSlot, boolOf, sto, stos, put1_eq, putL, bindTg, bindU, nl_un, nl_fz, nl_ow, nl_lk, slotOf, vD, vFull, endOf, outV, ioData, setIo, slotsOf, slotIn, callD, callS, callO, mutL, mAppend, mSetAt, mPop, mClear, pGe, pGt, pLe, pLt, pPow, powOk, pMod, pFdiv, divOk, pAdd, pSub, pMul, mulOk, pNeg, pAbs, pMin2, pMax2, pIsa, tyName, R.of, R.calm, seqOf, lock, unlock, wipeC, wipeS, unlocked, range0, enat]
theorem Best.snoc {P : List Pt} {b : Int} {ms as : List Nat} (h : Best P b ms as) (h0 : 0 < as.length) {a m : Nat} (ha : a < as.length) (hm : ms[a]? = some m) (ok : okSeg P b a as.length = true) (mn : ∀ j, j < as.length → okSeg P b j as.length = true → ∃ q, ms[j]? = some q ∧ m ≤ q) : Best P b (ms ++ [m + 1]) (as ++ [a]) where
  ml := by simp -implicitDefEqProofs [h.ml]
  m0 := by
    rw [List.getElem?_append_left (by rw [h.ml]; omega)]
    exact h.m0
  st := fun k k0 hk => by
    rw [List.length_append, List.length_singleton] at hk
    have L : ∀ j, j < as.length → (ms ++ [m + 1])[j]? = ms[j]? := fun j hj => List.getElem?_append_left (by rw [h.ml]; omega)
    by_cases hl : k < as.length
    · obtain ⟨a', m', g1, g2, g3, g4, g5, g6⟩ := h.st k k0 hl
      refine ⟨a', m', by rw [List.getElem?_append_left hl]; exact g1, g2, by rw [L _ (by omega)]; exact g3, by rw [L _ hl]; exact g4, g5, fun j hj ok => ?_⟩
      rw [L _ (by omega)]
      exact g6 j hj ok
    · have : k = as.length := by omega
      subst this
      refine ⟨a, m, by simp, ha, by rw [L _ ha]; exact hm, ?_, ok, fun j hj ok => ?_⟩
      · rw [← h.ml]
        simp
      · rw [L _ hj]
        exact mn j hj ok
theorem rng2N {Γ : Env1} {e1 e2 : E} {τ : Sts} {lo hi : Nat} (h1 : ev Γ e1 τ = .ok (.fz (.int (lo : Nat)), τ)) (h2 : ev Γ e2 τ = .ok (.fz (.int (hi : Nat)), τ)) (b1 : lo ≤ 100000) (b2 : hi ≤ 100000) : evI Γ (.iRange2 e1 e2) τ = .ok ((List.range (hi - lo)).map (fun i => enat (lo + i)), none, τ) := by
  have := rng2 h1 h2 (by omega) (by omega) (by omega) (by omega)
  rw [this]
  have e : (((hi : Nat) : Int) - ((lo : Nat) : Int)).toNat = hi - lo := by omega
  unfold rangeI
  rw [e, List.map_map]
  congr 2
theorem turn_best {P : List Pt} {b : Int} {ms as : List Nat} (hP : ∀ p ∈ P, Sm p) (b0 : 0 ≤ b) (b1 : Bd 200 b) (hl : P.length ≤ 1000) (h : Best P b ms as) (h0 : 0 < as.length) (hk : as.length < P.length) : ∃ a m, forStep g_fewest_to 0 [4] true b1_fewest_to (fS P b ms as .un .un .un) (enat as.length) = .ok (.next (fS P b (ms ++ [m + 1]) (as ++ [a]) .un .un .un)) ∧ Best P b (ms ++ [m + 1]) (as ++ [a]) := by
  obtain ⟨a, m, e, h1, h2, h3, h4⟩ := inner (as := as) hP b0 b1 hl h0 hk h.ml
  refine ⟨a, m, ?_, h.snoc h0 h1 h3 h2 h4⟩
  have p1 := ix_lst (enc := enat) h3
  have z1 := szN' (ms.map enat).length (by rw [List.length_map, h.ml]; omega)
  have z2 := szN' (as.map enat).length (by rw [List.length_map]; omega)
  have e1 : enat (as.length - 1) = .int ((as.length : Int) - 1) := congrArg D.int (by omega)
  have e2 : enat (m + 1) = .int ((m : Int) + 1) := by
    unfold enat
    congr 1
  rw [e1] at e
  unfold fS at e ⊢
  rw [List.map_append, List.map_append, List.map_singleton, List.map_singleton, e2]
  generalize P.map encP = PP at *
  generalize ms.map enat = MS at *
  generalize as.map enat = AS at *
  generalize hN : as.length = N at *
  unfold enat at *
  simp -implicitDefEqProofs [forStep, b1_fewest_to, Fn.of, ↓R.bind_def, R.b_ok, R.b_exc, R.b_stuck, ex, ev, evs, evI, entry, dats, dat, slotD, primD, resV, imm, immL, noSlot, boolOf, sto, stos, put1_eq, putL, bindTg, bindU, nl_un, nl_fz, nl_ow, nl_lk, slotOf, vD, vFull, endOf, outV, ioData, setIo, slotsOf, slotIn, callD, callS, callO, mutL, mAppend, mSetAt, mPop, mClear, pGe, pGt, pLe, pLt, pPow, powOk, pMod, pFdiv, divOk, pAdd, pSub, pMul, mulOk, pNeg, pAbs, pMin2, pMax2, pIsa, tyName, R.of, R.calm, seqOf, lock, unlock, wipeC, wipeS, unlocked, range0, e, p1, z1, z2]
theorem fewest_run {P : List Pt} {b : Int} (hP : ∀ p ∈ P, Sm p) (b0 : 0 ≤ b) (b1 : Bd 200 b) (hl : P.length ≤ 1000) (h0 : 0 < P.length) : ∃ ms as, f_fewest_to.run [.lst (P.map encP), .int b] = .ok (.tup [.lst (ms.map enat), .lst (as.map enat)], []) ∧ Best P b ms as ∧ as.length = P.length := by
  obtain ⟨⟨ms, as⟩, e, h1, h2⟩ := forGo_nth (step := forStep g_fewest_to 0 [4] true b1_fewest_to) (fun i => enat (1 + i)) (fun q : List Nat × List Nat => fS P b q.1 q.2 .un .un .un) (fun j q => Best P b q.1 q.2 ∧ q.2.length = j + 1) (xs := List.range (P.length - 1)) (k := 0) (b := ([1], [0])) (fun j x hx q hq => by
    have hj := (List.getElem?_eq_some_iff.mp hx).1
    rw [List.length_range] at hj
    rw [List.getElem?_range hj] at hx
    cases hx
    obtain ⟨q1, q2⟩ := hq
    obtain ⟨a, m, e, hB⟩ := turn_best hP b0 b1 hl q1 (by omega) (by omega)
    refine ⟨(q.1 ++ [m + 1], q.2 ++ [a]), ?_, hB, by simp -implicitDefEqProofs only [List.length_append, List.length_singleton]; omega⟩
    rw [q2] at e
    rw [show 1 + j = 0 + j + 1 by omega]
    exact e) ⟨⟨rfl, rfl, fun k k0 hk => by simp at hk; omega⟩, rfl⟩
  rw [List.length_range] at h2
  refine ⟨ms, as, ?_, h1, by simp only at h2; omega⟩
  have lp : ex g_fewest_to 0 l1_fewest_to (fS P b [1] [0] .un .un .un) = .ok (.next (fS P b ms as .un .un .un)) := by
    refine ex_for (rng2N (lo := 1) (hi := P.length) ?_ ?_ (by omega) (by omega)) e
    · rfl
    · have := pLen_lstM encP P
      unfold fS
      generalize P.map encP = PP at *
      simp -implicitDefEqProofs [Fn.of, ↓R.bind_def, R.b_ok, R.b_exc, R.b_stuck, ex, ev, evs, evI, entry, dats, dat, slotD, primD, resV, imm, immL, noSlot, boolOf, sto, stos, put1_eq, putL, bindTg, bindU, nl_un, nl_fz, nl_ow, nl_lk, slotOf, vD, vFull, endOf, outV, ioData, setIo, slotsOf, slotIn, callD, callS, callO, mutL, mAppend, mSetAt, mPop, mClear, pGe, pGt, pLe, pLt, pPow, powOk, pMod, pFdiv, divOk, pAdd, pSub, pMul, mulOk, pNeg, pAbs, pMin2, pMax2, pIsa, tyName, R.of, R.calm, seqOf, lock, unlock, wipeC, wipeS, unlocked, range0, this]
  refine run0_ret rfl (v := .own true (.tup [.lst (ms.map enat), .lst (as.map enat)])) (τ' := [.fz (.lst (P.map encP)), .fz (.int b), .un, .un, .un, .un, .un]) ?_ rfl
  show ex g_fewest_to 0 m_fewest_to [.fz (.lst (P.map encP)), .fz (.int b), .un, .un, .un, .un, .un] = _
  unfold m_fewest_to
  simp -implicitDefEqProofs only [fS, List.map_cons, List.map_nil, enat] at lp
  generalize P.map encP = PP at *
  refine (ex_seq_next (by simp -implicitDefEqProofs [Fn.of, ↓R.bind_def, R.b_ok, R.b_exc, R.b_stuck, ex, ev, evs, evI, entry, dats, dat, slotD, primD, resV, imm, immL, noSlot, boolOf, sto, stos, put1_eq, putL, bindTg, bindU, nl_un, nl_fz, nl_ow, nl_lk, slotOf, vD, vFull, endOf, outV, ioData, setIo, slotsOf, slotIn, callD, callS, callO, mutL, mAppend, mSetAt, mPop, mClear, pGe, pGt, pLe, pLt, pPow, powOk, pMod, pFdiv, divOk, pAdd, pSub, pMul, mulOk, pNeg, pAbs, pMin2, pMax2, pIsa, tyName, R.of, R.calm, seqOf, lock, unlock, wipeC, wipeS, unlocked, range0, szN]; rfl)).trans ?_
  refine (ex_seq_next (by simp -implicitDefEqProofs [Fn.of, ↓R.bind_def, R.b_ok, R.b_exc, R.b_stuck, ex, ev, evs, evI, entry, dats, dat, slotD, primD, resV, imm, immL, noSlot, boolOf, sto, stos, put1_eq, putL, bindTg, bindU, nl_un, nl_fz, nl_ow, nl_lk, slotOf, vD, vFull, endOf, outV, ioData, setIo, slotsOf, slotIn, callD, callS, callO, mutL, mAppend, mSetAt, mPop, mClear, pGe, pGt, pLe, pLt, pPow, powOk, pMod, pFdiv, divOk, pAdd, pSub, pMul, mulOk, pNeg, pAbs, pMin2, pMax2, pIsa, tyName, R.of, R.calm, seqOf, lock, unlock, wipeC, wipeS, unlocked, range0, szN]; rfl)).trans ?_
  refine (ex_seq_next lp).trans ?_
  refine ex_seq_ret (ex_ret_eq ?_)
  have z : 2 ≤ sizeLine := szN 2 (by omega)
  simp -implicitDefEqProofs [Fn.of, ↓R.bind_def, R.b_ok, R.b_exc, R.b_stuck, ex, ev, evs, evI, entry, dats, dat, slotD, primD, resV, imm, immL, noSlot, boolOf, sto, stos, put1_eq, putL, bindTg, bindU, nl_un, nl_fz, nl_ow, nl_lk, slotOf, vD, vFull, endOf, outV, ioData, setIo, slotsOf, slotIn, callD, callS, callO, mutL, mAppend, mSetAt, mPop, mClear, pGe, pGt, pLe, pLt, pPow, powOk, pMod, pFdiv, divOk, pAdd, pSub, pMul, mulOk, pNeg, pAbs, pMin2, pMax2, pIsa, tyName, R.of, R.calm, seqOf, lock, unlock, wipeC, wipeS, unlocked, range0, szN]
structure Fewest (P : List Pt) (b : Int) (r : List Nat) : Prop where
  ch : Chain P b r
  hd : r.head? = some 0
  ls : r.getLast? = some (P.length - 1)
  le : ∀ r', Chain P b r' → r'.head? = some 0 → r'.getLast? = some (P.length - 1) → r.length ≤ r'.length
def kS (P : List Pt) (b : Int) (ms as : List Nat) (a : Nat) (r : List Nat) : Sts := [.fz (.lst (P.map encP)), .fz (.int b), .fz (enat a), .ow true (.lst (r.map enat)), .fz (.lst (ms.map enat)), .fz (.lst (as.map enat))]
theorem lk_loop {P : List Pt} {b : Int} {ms as : List Nat} (h : Best P b ms as) (N : Nat) : ∀ (n a : Nat) (r : List Nat), a < n → a < as.length → Chain P b (a :: r) → r.length + a ≤ 1000 → ∃ r', whileGo (fun τ => ev g_least_kept w1_least_kept τ >>= fun r => R.of (boolOf r.2 r.1) >>= fun k => .ok (k, r.2)) (fun τ => ex g_least_kept N b1_least_kept τ) n (kS P b ms as a (a :: r)) = .ok (.next (kS P b ms as 0 (0 :: r'))) ∧ Chain P b (0 :: r') ∧ (0 :: r').getLast? = (a :: r).getLast? ∧ ∀ m, ms[a]? = some m → r'.length + 1 = m + r.length := by
  intro n
  induction n with
  | zero => intro a r h1; omega
  | succ n ih =>
    intro a r h1 h2 hc hl
    have tst : ev g_least_kept w1_least_kept (kS P b ms as a (a :: r)) = .ok (.fz (.bl (decide (0 < a))), kS P b ms as a (a :: r)) := by
      unfold kS
      generalize P.map encP = PP at *
      generalize ms.map enat = MS at *
      generalize as.map enat = AS at *
      generalize (a :: r).map enat = RR at *
      simp -implicitDefEqProofs [w1_least_kept, Fn.of, ↓R.bind_def, R.b_ok, R.b_exc, R.b_stuck, ex, ev, evs, evI, entry, dats, dat, slotD, primD, resV, imm, immL, noSlot, boolOf, sto, stos, put1_eq, putL, bindTg, bindU, nl_un, nl_fz, nl_ow, nl_lk, slotOf, vD, vFull, endOf, outV, ioData, setIo, slotsOf, slotIn, callD, callS, callO, mutL, mAppend, mSetAt, mPop, mClear, pGe, pGt, pLe, pLt, pPow, powOk, pMod, pFdiv, divOk, pAdd, pSub, pMul, mulOk, pNeg, pAbs, pMin2, pMax2, pIsa, tyName, R.of, R.calm, seqOf, lock, unlock, wipeC, wipeS, unlocked, range0, enat]
    by_cases a0 : 0 < a
    · rw [decide_eq_true a0] at tst
      obtain ⟨c, m, g1, g2, g3, g4, g5, g6⟩ := h.st a a0 h2
      have p1 := ix_lst (enc := enat) g1
      have z := szN' (a :: r).length (by rw [List.length_cons]; omega)
      have bd : ex g_least_kept N b1_least_kept (kS P b ms as a (a :: r)) = .ok (.next (kS P b ms as c (c :: a :: r))) := by
        unfold kS
        have e : (c :: a :: r).map enat = enat c :: (a :: r).map enat := rfl
        rw [e]
        have zz : ((a :: r).map enat).length < sizeLine := by rw [List.length_map]; exact z
        generalize P.map encP = PP at *
        generalize ms.map enat = MS at *
        generalize as.map enat = AS at *
        generalize (a :: r).map enat = RR at *
        unfold enat at *
        simp -implicitDefEqProofs [b1_least_kept, Fn.of, ↓R.bind_def, R.b_ok, R.b_exc, R.b_stuck, ex, ev, evs, evI, entry, dats, dat, slotD, primD, resV, imm, immL, noSlot, boolOf, sto, stos, put1_eq, putL, bindTg, bindU, nl_un, nl_fz, nl_ow, nl_lk, slotOf, vD, vFull, endOf, outV, ioData, setIo, slotsOf, slotIn, callD, callS, callO, mutL, mAppend, mSetAt, mPop, mClear, pGe, pGt, pLe, pLt, pPow, powOk, pMod, pFdiv, divOk, pAdd, pSub, pMul, mulOk, pNeg, pAbs, pMin2, pMax2, pIsa, tyName, R.of, R.calm, seqOf, lock, unlock, wipeC, wipeS, unlocked, range0, p1, mInsert, zz]
      obtain ⟨r', e1, e2, e3, e4⟩ := ih c (a :: r) (by omega) (by omega) ⟨g2, g5, hc⟩ (by rw [List.length_cons]; omega)
      refine ⟨r', ?_, e2, ?_, fun m' hm' => ?_⟩
      · rw [wg_yes (tst_of tst) bd]
        exact e1
      · rw [e3]
        rfl
      · rw [g4] at hm'
        cases hm'
        have := e4 m g3
        rw [List.length_cons] at this
        omega
    · have : a = 0 := by omega
      subst this
      rw [decide_eq_false a0] at tst
      refine ⟨r, wg_no (tst_of tst), hc, rfl, fun m hm => ?_⟩
      rw [h.m0] at hm
      cases hm
      omega
theorem least_run {P : List Pt} {b : Int} (hP : ∀ p ∈ P, Sm p) (b0 : 0 ≤ b) (b1 : Bd 200 b) (hl : P.length ≤ 500) (h0 : 0 < P.length) : ∃ r, f_least_kept.run [.lst (P.map encP), .int b] = .ok (.tup [.int (r.length : Nat), .lst (r.map enat)], []) ∧ Fewest P b r := by
  obtain ⟨ms, as, e, hB, hA⟩ := fewest_run hP b0 b1 (by omega) h0
  obtain ⟨r', e1, e2, e3, e4⟩ := lk_loop hB ((P.map encP).length + 2) ((P.map encP).length + 2) (P.length - 1) [] (by rw [List.length_map]; omega) (by omega) trivial (by rw [List.length_nil]; omega)
  obtain ⟨m, hm⟩ : ∃ m, ms[P.length - 1]? = some m := ⟨_, List.getElem?_eq_getElem (by rw [hB.ml]; omega)⟩
  have lm := e4 m hm
  refine ⟨0 :: r', ?_, e2, rfl, by rw [e3]; rfl, fun q c1 c2 c3 => ?_⟩
  · have lp : ex g_least_kept ((P.map encP).length + 2) l1_least_kept (kS P b ms as (P.length - 1) [P.length - 1]) = .ok (.next (kS P b ms as 0 (0 :: r'))) := by
      unfold l1_least_kept
      simp -implicitDefEqProofs only [ex]
      exact e1
    refine run0_ret rfl (v := .own true (.tup [.int ((0 :: r').length : Nat), .lst ((0 :: r').map enat)])) (τ' := [.fz (.lst (P.map encP)), .fz (.int b), .fz (enat 0), .un, .fz (.lst (ms.map enat)), .fz (.lst (as.map enat))]) ?_ rfl
    show ex g_least_kept ((P.map encP).length + 2) m_least_kept [.fz (.lst (P.map encP)), .fz (.int b), .un, .un, .un, .un] = _
    unfold m_least_kept
    have le := pLen_lstM encP P
    have le2 := pLen_lstM enat (0 :: r')
    have en : enat (P.length - 1) = .int ((P.length : Int) - 1) := congrArg D.int (by omega)
    generalize hN : (P.map encP).length + 2 = NN at *
    simp -implicitDefEqProofs only [kS, List.map_singleton, en] at lp
    generalize P.map encP = PP at *
    generalize ms.map enat = MS at *
    generalize as.map enat = AS at *
    generalize (0 :: r').map enat = RR at *
    generalize ((0 :: r').length : Int) = LL at *
    refine (ex_seq_next (by simp -implicitDefEqProofs [Fn.of, ↓R.bind_def, R.b_ok, R.b_exc, R.b_stuck, ex, ev, evs, evI, entry, dats, dat, slotD, primD, resV, imm, immL, noSlot, boolOf, sto, stos, put1_eq, putL, bindTg, bindU, nl_un, nl_fz, nl_ow, nl_lk, slotOf, vD, vFull, endOf, outV, ioData, setIo, slotsOf, slotIn, callD, callS, callO, mutL, mAppend, mSetAt, mPop, mClear, pGe, pGt, pLe, pLt, pPow, powOk, pMod, pFdiv, divOk, pAdd, pSub, pMul, mulOk, pNeg, pAbs, pMin2, pMax2, pIsa, tyName, R.of, R.calm, seqOf, lock, unlock, wipeC, wipeS, unlocked, range0, g_least_kept, e]; rfl)).trans ?_
    refine (ex_seq_next (by simp -implicitDefEqProofs [Fn.of, ↓R.bind_def, R.b_ok, R.b_exc, R.b_stuck, ex, ev, evs, evI, entry, dats, dat, slotD, primD, resV, imm, immL, noSlot, boolOf, sto, stos, put1_eq, putL, bindTg, bindU, nl_un, nl_fz, nl_ow, nl_lk, slotOf, vD, vFull, endOf, outV, ioData, setIo, slotsOf, slotIn, callD, callS, callO, mutL, mAppend, mSetAt, mPop, mClear, pGe, pGt, pLe, pLt, pPow, powOk, pMod, pFdiv, divOk, pAdd, pSub, pMul, mulOk, pNeg, pAbs, pMin2, pMax2, pIsa, tyName, R.of, R.calm, seqOf, lock, unlock, wipeC, wipeS, unlocked, range0, le]; rfl)).trans ?_
    refine (ex_seq_next (by simp -implicitDefEqProofs [Fn.of, ↓R.bind_def, R.b_ok, R.b_exc, R.b_stuck, ex, ev, evs, evI, entry, dats, dat, slotD, primD, resV, imm, immL, noSlot, boolOf, sto, stos, put1_eq, putL, bindTg, bindU, nl_un, nl_fz, nl_ow, nl_lk, slotOf, vD, vFull, endOf, outV, ioData, setIo, slotsOf, slotIn, callD, callS, callO, mutL, mAppend, mSetAt, mPop, mClear, pGe, pGt, pLe, pLt, pPow, powOk, pMod, pFdiv, divOk, pAdd, pSub, pMul, mulOk, pNeg, pAbs, pMin2, pMax2, pIsa, tyName, R.of, R.calm, seqOf, lock, unlock, wipeC, wipeS, unlocked, range0, szN]; rfl)).trans ?_
    refine (ex_seq_next lp).trans ?_
    refine ex_seq_ret (ex_ret_eq ?_)
    simp -implicitDefEqProofs [Fn.of, ↓R.bind_def, R.b_ok, R.b_exc, R.b_stuck, ex, ev, evs, evI, entry, dats, dat, slotD, primD, resV, imm, immL, noSlot, boolOf, sto, stos, put1_eq, putL, bindTg, bindU, nl_un, nl_fz, nl_ow, nl_lk, slotOf, vD, vFull, endOf, outV, ioData, setIo, slotsOf, slotIn, callD, callS, callO, mutL, mAppend, mSetAt, mPop, mClear, pGe, pGt, pLe, pLt, pPow, powOk, pMod, pFdiv, divOk, pAdd, pSub, pMul, mulOk, pNeg, pAbs, pMin2, pMax2, pIsa, tyName, R.of, R.calm, seqOf, lock, unlock, wipeC, wipeS, unlocked, range0, szN, le2]
  · have hq : q ≠ [] := fun z => by rw [z] at c2; cases c2
    obtain ⟨q', k, rfl⟩ : ∃ q' k, q = q' ++ [k] := ⟨q.dropLast, q.getLast hq, (List.dropLast_concat_getLast hq).symm⟩
    have : k = P.length - 1 := by simpa using c3
    subst this
    obtain ⟨m', hm', hle⟩ := hB.least q' _ c1 c2 (by omega)
    rw [hm] at hm'
    cases hm'
    rw [List.length_append, List.length_singleton, List.length_cons]
    rw [List.length_nil] at lm
    omega
end Lwk63
namespace Lwk63
open PySem L2 Rg Hr
theorem law_near_run {o t p : Pt} {b : Int} (ho : Sm o) (ht : Sm t) (hp : Sm p) (b0 : 0 ≤ b) (b1 : Bd 200 b) : f__law_near.run [encP o, encP t, encP p, .int b] = .ok (.bl (nearB o t p b), []) := by
  rw [← near_eq]
  obtain ⟨o1, o2⟩ := ho
  obtain ⟨t1, t2⟩ := ht
  obtain ⟨p1, p2⟩ := hp
  obtain ⟨ox, oy⟩ := o
  obtain ⟨tx, ty⟩ := t
  obtain ⟨px, py⟩ := p
  simp only at *
  unfold lnearB encP
  simp only
  have W1 := t1.sub o1
  have W2 := t2.sub o2
  have W3 := p1.sub o1
  have W4 := p2.sub o2
  generalize g_wd : tx - ox = wd at *
  generalize g_hg : ty - oy = hg at *
  generalize g_r : px - ox = r at *
  generalize g_d : py - oy = d at *
  have m1 := W3.pMul W1 (by omega)
  have m2 := W4.pMul W2 (by omega)
  have m3 := W1.pMul W1 (by omega)
  have m4 := W2.pMul W2 (by omega)
  have m7 := b1.pMul b1 (by omega)
  have mx : ∀ x : Int, pMax2 [.int 1, .int x] = some (.old (.int (max 1 x))) := fun x => by
    simp -implicitDefEqProofs only [pMax2]
    congr 3
    split <;> omega
  have mx0 : ∀ x : Int, pMax2 [.int 0, .int x] = some (.old (.int (max 0 x))) := fun x => by
    simp -implicitDefEqProofs only [pMax2]
    congr 3
    split <;> omega
  have mn : ∀ x y : Int, pMin2 [.int x, .int y] = some (.old (.int (min x y))) := fun x y => by
    simp -implicitDefEqProofs only [pMin2]
    congr 3
    split <;> omega
  have WB : Bd 86 (max 1 (wd * wd + hg * hg)) := by
    have h : Bd 86 (wd * wd + hg * hg) := ((W1.mul W1).add (W2.mul W2)).mono (by omega)
    have h1 : Bd 86 1 := by unfold Bd; decide
    unfold Bd at *
    omega
  have W1p : 1 ≤ max 1 (wd * wd + hg * hg) := by omega
  have x1 := mx (wd * wd + hg * hg)
  have x2 := mn (r * wd + d * hg) (max 1 (wd * wd + hg * hg))
  have x3 := mx0 (min (r * wd + d * hg) (max 1 (wd * wd + hg * hg)))
  generalize max 1 (wd * wd + hg * hg) = W at *
  have AB : Bd 86 (max 0 (min (r * wd + d * hg) W)) := by
    unfold Bd at *
    omega
  generalize max 0 (min (r * wd + d * hg) W) = A at *
  have n1 := W3.pMul WB (by omega)
  have n2 := W4.pMul WB (by omega)
  have n3 := AB.pMul W1 (by omega)
  have n4 := AB.pMul W2 (by omega)
  have k1 : Bd 129 (r * W - A * wd) := ((W3.mul WB).mono (by omega) : Bd 128 _).sub ((AB.mul W1).mono (by omega))
  have k2 : Bd 129 (d * W - A * hg) := ((W4.mul WB).mono (by omega) : Bd 128 _).sub ((AB.mul W2).mono (by omega))
  have n5 := k1.pMul k1 (by omega)
  have n6 := k2.pMul k2 (by omega)
  have n7 := (b1.mul b1).pMul WB (by omega)
  have n8 := ((b1.mul b1).mul WB).pMul WB (by omega)
  simp -implicitDefEqProofs [f__law_near, m__law_near, Fn.of, ↓R.bind_def, R.b_ok, R.b_exc, R.b_stuck, ex, ev, evs, evI, entry, dats, dat, slotD, primD, resV, imm, immL, noSlot, boolOf, sto, stos, put1_eq, putL, bindTg, bindU, nl_un, nl_fz, nl_ow, nl_lk, slotOf, vD, vFull, endOf, outV, ioData, setIo, slotsOf, slotIn, callD, callS, callO, mutL, mAppend, mSetAt, mPop, mClear, pGe, pGt, pLe, pLt, pPow, powOk, pMod, pFdiv, divOk, pAdd, pSub, pNeg, pAbs, pIsa, tyName, R.of, R.calm, seqOf, lock, unlock, wipeC, wipeS, unlocked, range0, pIx_pt0, pIx_pt1, g_wd, g_hg, g_r, g_d, m1, m2, m3, m4, m7, x1, x2, x3, n1, n2, n3, n4, n5, n6, n7, n8]
theorem law_lets_run {P : List Pt} {b : Int} {j k : Nat} (hP : ∀ p ∈ P, Sm p) (b0 : 0 ≤ b) (b1 : Bd 200 b) (hl : P.length ≤ 1000) (hj : j < P.length) (hk : k < P.length) : f__law_lets.run [.lst (P.map encP), .int (j : Nat), .int (k : Nat), .int b] = .ok (.bl (okSeg P b j k), []) := by
  have lp := ex_for_findE (Γ := g__law_lets) (n := 0) (tg := [4]) (one := true) (it := .iRange2 (.prim .add (.cons (.var 1) (.cons (.cst (.int 1)) .nil))) (.var 2)) (b := b1__law_lets) (τ := [.fz (.lst (P.map encP)), .fz (.int (j : Nat)), .fz (.int (k : Nat)), .fz (.int b), .un]) (st := [.fz (.lst (P.map encP)), .fz (.int (j : Nat)), .fz (.int (k : Nat)), .fz (.int b), .un]) (fun i => enat (j + 1 + i)) (fun i => !nearB (ptAt P j) (ptAt P k) (ptAt P (j + 1 + i)) b) (fun _ => .fz (.bl false)) (xs := List.range (k - (j + 1))) (by
    refine rng2N (lo := j + 1) (hi := k) ?_ ?_ (by omega) (by omega)
    · generalize P.map encP = PP
      simp -implicitDefEqProofs [Fn.of, ↓R.bind_def, R.b_ok, R.b_exc, R.b_stuck, ex, ev, evs, evI, entry, dats, dat, slotD, primD, resV, imm, immL, noSlot, boolOf, sto, stos, put1_eq, putL, bindTg, bindU, nl_un, nl_fz, nl_ow, nl_lk, slotOf, vD, vFull, endOf, outV, ioData, setIo, slotsOf, slotIn, callD, callS, callO, mutL, mAppend, mSetAt, mPop, mClear, pGe, pGt, pLe, pLt, pPow, powOk, pMod, pFdiv, divOk, pAdd, pSub, pMul, mulOk, pNeg, pAbs, pMin2, pMax2, pIsa, tyName, R.of, R.calm, seqOf, lock, unlock, wipeC, wipeS, unlocked, range0]
    · generalize P.map encP = PP
      simp -implicitDefEqProofs [Fn.of, ↓R.bind_def, R.b_ok, R.b_exc, R.b_stuck, ex, ev, evs, evI, entry, dats, dat, slotD, primD, resV, imm, immL, noSlot, boolOf, sto, stos, put1_eq, putL, bindTg, bindU, nl_un, nl_fz, nl_ow, nl_lk, slotOf, vD, vFull, endOf, outV, ioData, setIo, slotsOf, slotIn, callD, callS, callO, mutL, mAppend, mSetAt, mPop, mClear, pGe, pGt, pLe, pLt, pPow, powOk, pMod, pFdiv, divOk, pAdd, pSub, pMul, mulOk, pNeg, pAbs, pMin2, pMax2, pIsa, tyName, R.of, R.calm, seqOf, lock, unlock, wipeC, wipeS, unlocked, range0]) (fun i hi => by
    have hi := List.mem_range.mp hi
    have q1 := ix_lst (enc := encP) (ptAt_get (P := P) (i := j) hj)
    have q2 := ix_lst (enc := encP) (ptAt_get (P := P) (i := k) hk)
    have q3 := ix_lst (enc := encP) (ptAt_get (P := P) (i := j + 1 + i) (by omega))
    have e := law_near_run (sm_at hP hj) (sm_at hP hk) (sm_at hP (i := j + 1 + i) (by omega)) b0 b1
    have ei : enat (j + 1 + i) = .int ((j + 1 + i : Nat) : Int) := rfl
    have i1 := imm_encP (ptAt P j)
    have i2 := imm_encP (ptAt P k)
    have i3 := imm_encP (ptAt P (j + 1 + i))
    rw [ei]
    generalize hPJ : encP (ptAt P j) = PJ at *
    generalize hPK : encP (ptAt P k) = PK at *
    generalize hPI : encP (ptAt P (j + 1 + i)) = PI at *
    clear hPJ hPK hPI
    generalize P.map encP = PP at *
    generalize ((j + 1 + i : Nat) : Int) = JI at *
    cases h : nearB (ptAt P j) (ptAt P k) (ptAt P (j + 1 + i)) b with
    | true =>
      rw [h] at e
      refine ⟨fun z => (by simp at z), fun _ => ?_⟩
      simp -implicitDefEqProofs [forStep, b1__law_lets, i1__law_lets, g__law_lets, Fn.of, ↓R.bind_def, R.b_ok, R.b_exc, R.b_stuck, ex, ev, evs, evI, entry, dats, dat, slotD, primD, resV, imm, immL, noSlot, boolOf, sto, stos, put1_eq, putL, bindTg, bindU, nl_un, nl_fz, nl_ow, nl_lk, slotOf, vD, vFull, endOf, outV, ioData, setIo, slotsOf, slotIn, callD, callS, callO, mutL, mAppend, mSetAt, mPop, mClear, pGe, pGt, pLe, pLt, pPow, powOk, pMod, pFdiv, divOk, pAdd, pSub, pMul, mulOk, pNeg, pAbs, pMin2, pMax2, pIsa, tyName, R.of, R.calm, seqOf, lock, unlock, wipeC, wipeS, unlocked, range0, q1, q2, q3, e, i1, i2, i3]
    | false =>
      rw [h] at e
      refine ⟨fun _ => ⟨[.fz (.lst PP), .fz (.int (j : Nat)), .fz (.int (k : Nat)), .fz (.int b), .fz (.int JI)], ?_⟩, fun z => (by simp at z)⟩
      simp -implicitDefEqProofs [forStep, b1__law_lets, i1__law_lets, g__law_lets, Fn.of, ↓R.bind_def, R.b_ok, R.b_exc, R.b_stuck, ex, ev, evs, evI, entry, dats, dat, slotD, primD, resV, imm, immL, noSlot, boolOf, sto, stos, put1_eq, putL, bindTg, bindU, nl_un, nl_fz, nl_ow, nl_lk, slotOf, vD, vFull, endOf, outV, ioData, setIo, slotsOf, slotIn, callD, callS, callO, mutL, mAppend, mSetAt, mPop, mClear, pGe, pGt, pLe, pLt, pPow, powOk, pMod, pFdiv, divOk, pAdd, pSub, pMul, mulOk, pNeg, pAbs, pMin2, pMax2, pIsa, tyName, R.of, R.calm, seqOf, lock, unlock, wipeC, wipeS, unlocked, range0, q1, q2, q3, e, i1, i2, i3])
  rcases lp with ⟨x, hx, t', ht'⟩ | ⟨hx, ht'⟩
  · have k1 := List.find?_some hx
    have k2 := List.mem_of_find?_eq_some hx
    have : okSeg P b j k = false := by
      unfold okSeg
      rw [List.all_eq_false]
      exact ⟨x, k2, by simpa using k1⟩
    rw [this]
    exact run0_ret rfl (v := .fz (.bl false)) (τ' := t') (ex_seq_ret ht') rfl
  · have : okSeg P b j k = true := by
      unfold okSeg
      rw [List.all_eq_true]
      intro p hp
      have := List.find?_eq_none.mp hx p hp
      simpa using this
    rw [this]
    exact run0_ret rfl (v := .fz (.bl true)) (τ' := _) ((ex_seq_next ht').trans (ex_seq_ret (ex_ret_eq rfl))) rfl
theorem chain_lt {P : List Pt} {b : Int} {n : Nat} : ∀ {r : List Nat}, Chain P b r → r.getLast? = some n → ∀ k ∈ r, k ≤ n
  | [], _, _, k, hk => absurd hk (List.not_mem_nil)
  | [a], _, h, k, hk => by
    have := List.mem_singleton.mp hk
    subst this
    simp at h
    omega
  | a :: c :: r, hc, h, k, hk => by
    have ih := chain_lt (r := c :: r) hc.2.2 (by rw [← h]; rfl)
    rcases List.mem_cons.mp hk with rfl | hk
    · have := ih c List.mem_cons_self
      have := hc.1
      omega
    · exact ih k hk
def Fr (P : List Pt) (b : Int) (j m : Nat) : Prop := (∃ r, Chain P b r ∧ r.head? = some j ∧ r.getLast? = some (P.length - 1) ∧ r.length = m) ∧ ∀ r, Chain P b r → r.head? = some j → r.getLast? = some (P.length - 1) → m ≤ r.length
theorem Fr.last {P : List Pt} {b : Int} : Fr P b (P.length - 1) 1 := ⟨⟨[P.length - 1], trivial, rfl, rfl, rfl⟩, fun r _ h _ => by
  cases r with
  | nil => cases h
  | cons a r => simp⟩
theorem Fr.step {P : List Pt} {b : Int} {j m : Nat} (hj : j + 1 < P.length) (k : Nat) (hk : j < k) (hk2 : k < P.length) (ok : okSeg P b j k = true) (fk : Fr P b k m) (mn : ∀ i, j < i → i < P.length → okSeg P b j i = true → ∃ q, Fr P b i q ∧ m ≤ q) : Fr P b j (m + 1) := by
  obtain ⟨⟨r, c1, c2, c3, c4⟩, fm⟩ := fk
  refine ⟨?_, fun r' d1 d2 d3 => ?_⟩
  · cases r with
    | nil => cases c2
    | cons a r =>
      have : a = k := Option.some.inj c2
      subst this
      exact ⟨j :: a :: r, ⟨hk, ok, c1⟩, rfl, c3, by simpa using c4⟩
  · cases r' with
    | nil => cases d2
    | cons a r' =>
      have : a = j := Option.some.inj d2
      subst this
      cases r' with
      | nil =>
        have : a = P.length - 1 := Option.some.inj d3
        omega
      | cons i r' =>
        obtain ⟨e1, e2, e3⟩ := d1
        have hi : i < P.length := by
          have := chain_lt e3 d3 i List.mem_cons_self
          omega
        obtain ⟨q, f, hq⟩ := mn i e1 hi e2
        have := f.2 (i :: r') e3 rfl d3
        simp -implicitDefEqProofs only [List.length_cons] at this ⊢
        omega
def lS (P : List Pt) (b : Int) (ms : List Nat) (back j best k : Slot) : Sts := [.fz (.lst (P.map encP)), .fz (.int b), .fz (.int ((P.length : Int) - 1)), .ow true (.lst (ms.map enat)), back, j, best, k, .un]
theorem lin_step {P : List Pt} {b : Int} {ms : List Nat} {j k best q : Nat} (bk : Nat) (hP : ∀ p ∈ P, Sm p) (b0 : 0 ≤ b) (b1 : Bd 200 b) (hl : P.length ≤ 1000) (hj : j < P.length) (hk : k < P.length) (h1 : ms[k]? = some q) :
    forStep g__law_least 0 [7] true b2__law_least (lS P b ms (.fz (enat bk)) (.fz (enat j)) (.fz (enat best)) .un) (enat k) = .ok (.next (lS P b ms (.fz (enat bk)) (.fz (enat j)) (.fz (enat (if q + 1 < best ∧ okSeg P b j k = true then q + 1 else best))) .un)) := by
  have p1 := ix_lst (enc := enat) h1
  have an := law_lets_run hP b0 b1 hl hj hk
  have lt : pLt [.int ((q : Int) + 1), .int (best : Nat)] = some (.old (.bl (decide (q + 1 < best)))) := by
    have : decide ((q : Int) + 1 < (best : Int)) = decide (q + 1 < best) := decide_eq_decide.mpr (by omega)
    simp -implicitDefEqProofs only [pLt, this]
  have eq1 : enat q = .int (q : Nat) := rfl
  have ek : enat k = .int (k : Nat) := rfl
  have eb : enat best = .int (best : Nat) := rfl
  have ej : enat j = .int (j : Nat) := rfl
  have ebk : enat bk = .int (bk : Nat) := rfl
  have c3 : ∀ h : Prop, [Decidable h] → enat (if h then q + 1 else best) = if h then .int ((q : Int) + 1) else .int (best : Nat) := fun h _ => by
    split <;> simp -implicitDefEqProofs [enat]
  rw [eq1] at p1
  unfold lS
  rw [c3, ek, eb, ej, ebk]
  generalize P.map encP = PP at *
  generalize ms.map enat = MS at *
  generalize (P.length : Int) = NN at *
  by_cases c1 : q + 1 < best
  · rw [decide_eq_true c1] at lt
    by_cases c2 : okSeg P b j k = true
    · rw [if_pos ⟨c1, c2⟩]
      rw [c2] at an
      simp -implicitDefEqProofs [forStep, b2__law_least, i1__law_least, g__law_least, Fn.of, ↓R.bind_def, R.b_ok, R.b_exc, R.b_stuck, ex, ev, evs, evI, entry, dats, dat, slotD, primD, resV, imm, immL, noSlot, boolOf, sto, stos, put1_eq, putL, bindTg, bindU, nl_un, nl_fz, nl_ow, nl_lk, slotOf, vD, vFull, endOf, outV, ioData, setIo, slotsOf, slotIn, callD, callS, callO, mutL, mAppend, mSetAt, mPop, mClear, pGe, pGt, pLe, pPow, powOk, pMod, pFdiv, divOk, pAdd, pSub, pMul, mulOk, pNeg, pAbs, pMin2, pMax2, pIsa, tyName, R.of, R.calm, seqOf, lock, unlock, wipeC, wipeS, unlocked, range0, p1, an, lt]
    · rw [if_neg (fun z => c2 z.2)]
      have c2 : okSeg P b j k = false := by simpa using c2
      rw [c2] at an
      simp -implicitDefEqProofs [forStep, b2__law_least, i1__law_least, g__law_least, Fn.of, ↓R.bind_def, R.b_ok, R.b_exc, R.b_stuck, ex, ev, evs, evI, entry, dats, dat, slotD, primD, resV, imm, immL, noSlot, boolOf, sto, stos, put1_eq, putL, bindTg, bindU, nl_un, nl_fz, nl_ow, nl_lk, slotOf, vD, vFull, endOf, outV, ioData, setIo, slotsOf, slotIn, callD, callS, callO, mutL, mAppend, mSetAt, mPop, mClear, pGe, pGt, pLe, pPow, powOk, pMod, pFdiv, divOk, pAdd, pSub, pMul, mulOk, pNeg, pAbs, pMin2, pMax2, pIsa, tyName, R.of, R.calm, seqOf, lock, unlock, wipeC, wipeS, unlocked, range0, p1, an, lt]
  · rw [decide_eq_false c1] at lt
    rw [if_neg (fun z => c1 z.1)]
    simp -implicitDefEqProofs [forStep, b2__law_least, i1__law_least, g__law_least, Fn.of, ↓R.bind_def, R.b_ok, R.b_exc, R.b_stuck, ex, ev, evs, evI, entry, dats, dat, slotD, primD, resV, imm, immL, noSlot, boolOf, sto, stos, put1_eq, putL, bindTg, bindU, nl_un, nl_fz, nl_ow, nl_lk, slotOf, vD, vFull, endOf, outV, ioData, setIo, slotsOf, slotIn, callD, callS, callO, mutL, mAppend, mSetAt, mPop, mClear, pGe, pGt, pLe, pPow, powOk, pMod, pFdiv, divOk, pAdd, pSub, pMul, mulOk, pNeg, pAbs, pMin2, pMax2, pIsa, tyName, R.of, R.calm, seqOf, lock, unlock, wipeC, wipeS, unlocked, range0, p1, lt]
theorem linner {P : List Pt} {b : Int} {ms : List Nat} {j : Nat} (bk : Nat) (hP : ∀ p ∈ P, Sm p) (b0 : 0 ≤ b) (b1 : Bd 200 b) (hl : P.length ≤ 1000) (hj : j + 1 < P.length) (hm : ms.length = P.length) (hs : ∀ i, j < i → i < P.length → ∃ m, ms[i]? = some m ∧ m + i ≤ P.length) :
    ∃ k m, ex g__law_least 0 l2__law_least (lS P b ms (.fz (enat bk)) (.fz (enat j)) (.fz (enat (P.length + 1))) .un) = .ok (.next (lS P b ms (.fz (enat bk)) (.fz (enat j)) (.fz (enat (m + 1))) .un)) ∧ j < k ∧ k < P.length ∧ okSeg P b j k = true ∧ ms[k]? = some m ∧ ∀ i, j < i → i < P.length → okSeg P b j i = true → ∃ q, ms[i]? = some q ∧ m ≤ q := by
  obtain ⟨best, e, hI⟩ := forGo_nth (step := forStep g__law_least 0 [7] true b2__law_least) (fun i => enat (j + 1 + i)) (fun best => lS P b ms (.fz (enat bk)) (.fz (enat j)) (.fz (enat best)) .un) (fun t best => (t = 0 ∧ best = P.length + 1) ∨ ∃ k m, j < k ∧ k < P.length ∧ okSeg P b j k = true ∧ ms[k]? = some m ∧ best = m + 1 ∧ ∀ i, j < i → i < j + 1 + t → okSeg P b j i = true → ∃ q, ms[i]? = some q ∧ m ≤ q) (xs := List.range (P.length - (j + 1))) (k := 0) (b := P.length + 1) (fun t x hx best hb => by
    have ht := (List.getElem?_eq_some_iff.mp hx).1
    rw [List.length_range] at ht
    rw [List.getElem?_range ht] at hx
    cases hx
    rw [Nat.zero_add] at hb ⊢
    obtain ⟨q, hq, hq2⟩ := hs (j + 1 + t) (by omega) (by omega)
    refine ⟨_, lin_step bk hP b0 b1 hl (by omega) (by omega) hq, ?_⟩
    refine .inr ?_
    rcases hb with ⟨rfl, rfl⟩ | ⟨k, m, h1, h2, h3, h4, rfl, h5⟩
    · have ok : okSeg P b j (j + 1 + 0) = true := okSeg_next P b (j + 1)
      rw [if_pos ⟨by omega, ok⟩]
      refine ⟨j + 1 + 0, q, by omega, by omega, ok, hq, rfl, fun i i1 i2 i3 => ?_⟩
      have : i = j + 1 + 0 := by omega
      subst this
      exact ⟨q, hq, Nat.le_refl _⟩
    · by_cases c : q + 1 < m + 1 ∧ okSeg P b j (j + 1 + t) = true
      · rw [if_pos c]
        refine ⟨j + 1 + t, q, by omega, by omega, c.2, hq, rfl, fun i i1 i2 i3 => ?_⟩
        by_cases z : i = j + 1 + t
        · subst z
          exact ⟨q, hq, Nat.le_refl _⟩
        · obtain ⟨r, r1, r2⟩ := h5 i i1 (by omega) i3
          exact ⟨r, r1, by omega⟩
      · rw [if_neg c]
        refine ⟨k, m, h1, h2, h3, h4, rfl, fun i i1 i2 i3 => ?_⟩
        by_cases z : i = j + 1 + t
        · subst z
          refine ⟨q, hq, Nat.le_of_not_lt fun y => c ⟨by omega, i3⟩⟩
        · exact h5 i i1 (by omega) i3) (.inl ⟨rfl, rfl⟩)
  rw [List.length_range, Nat.zero_add] at hI
  rcases hI with ⟨z, _⟩ | ⟨k, m, h1, h2, h3, h4, rfl, h5⟩
  · omega
  · refine ⟨k, m, ?_, h1, h2, h3, h4, fun i i1 i2 i3 => h5 i i1 (by omega) i3⟩
    refine ex_for (rng2N (lo := j + 1) (hi := P.length) ?_ ?_ (by omega) (by omega)) e
    · unfold lS
      generalize P.map encP = PP at *
      generalize ms.map enat = MS at *
      simp -implicitDefEqProofs [Fn.of, ↓R.bind_def, R.b_ok, R.b_exc, R.b_stuck, ex, ev, evs, evI, entry, dats, dat, slotD, primD, resV, imm, immL, noSlot, boolOf, sto, stos, put1_eq, putL, bindTg, bindU, nl_un, nl_fz, nl_ow, nl_lk, slotOf, vD, vFull, endOf, outV, ioData, setIo, slotsOf, slotIn, callD, callS, callO, mutL, mAppend, mSetAt, mPop, mClear, pGe, pGt, pLe, pLt, pPow, powOk, pMod, pFdiv, divOk, pAdd, pSub, pMul, mulOk, pNeg, pAbs, pMin2, pMax2, pIsa, tyName, R.of, R.calm, seqOf, lock, unlock, wipeC, wipeS, unlocked, range0, enat]
    · have pl := pLen_lstM encP P
      unfold lS
      generalize P.map encP = PP at *
      generalize ms.map enat = MS at *
      simp -implicitDefEqProofs [Fn.of, ↓R.bind_def, R.b_ok, R.b_exc, R.b_stuck, ex, ev, evs, evI, entry, dats, dat, slotD, primD, resV, imm, immL, noSlot, boolOf, sto, stos, put1_eq, putL, bindTg, bindU, nl_un, nl_fz, nl_ow, nl_lk, slotOf, vD, vFull, endOf, outV, ioData, setIo, slotsOf, slotIn, callD, callS, callO, mutL, mAppend, mSetAt, mPop, mClear, pGe, pGt, pLe, pLt, pPow, powOk, pMod, pFdiv, divOk, pAdd, pSub, pMul, mulOk, pNeg, pAbs, pMin2, pMax2, pIsa, tyName, R.of, R.calm, seqOf, lock, unlock, wipeC, wipeS, unlocked, range0, enat, pl]
theorem lout {P : List Pt} {b : Int} {ms : List Nat} {t : Nat} (hP : ∀ p ∈ P, Sm p) (b0 : 0 ≤ b) (b1 : Bd 200 b) (hl : P.length ≤ 1000) (ht : t + 1 < P.length) (hm : ms.length = P.length) (hI : ∀ i, P.length - 1 - t ≤ i → i < P.length → ∃ m, ms[i]? = some m ∧ Fr P b i m ∧ m + i ≤ P.length) :
    ∃ ms', forStep g__law_least 0 [4] true b1__law_least (lS P b ms .un .un .un .un) (enat (1 + t)) = .ok (.next (lS P b ms' .un .un .un .un)) ∧ ms'.length = P.length ∧ ∀ i, P.length - 1 - (t + 1) ≤ i → i < P.length → ∃ m, ms'[i]? = some m ∧ Fr P b i m ∧ m + i ≤ P.length := by
  have hj : P.length - 1 - (t + 1) + 1 < P.length := by omega
  generalize ej : P.length - 1 - (t + 1) = j at *
  obtain ⟨k, m, e, h1, h2, h3, h4, h5⟩ := linner (ms := ms) (1 + t) hP b0 b1 hl hj hm fun i i1 i2 => by
    obtain ⟨m, q1, q2, q3⟩ := hI i (by omega) i2
    exact ⟨m, q1, q3⟩
  refine ⟨ms.set j (m + 1), ?_, by simpa using hm, fun i i1 i2 => ?_⟩
  · have pl := pLen_lstM encP P
    have ix : ixN (ms.map enat).length ((j : Nat) : Int) = some j := ixN_in (by omega) (by rw [List.length_map]; omega)
    have es : (ms.set j (m + 1)).map enat = (ms.map enat).set j (enat (m + 1)) := List.map_set
    have sa : mSetAt true (ms.map enat) [.fz (enat (m + 1)), .fz (.int (j : Nat))] = some (true, (ms.map enat).set j (enat (m + 1)), .non) := by
      simp -implicitDefEqProofs only [mSetAt, ix]
      rfl
    have e1 : enat (1 + t) = .int ((1 + t : Nat) : Int) := rfl
    have ejj : ((P.length : Int) - 1) - ((1 + t : Nat) : Int) = (j : Int) := by omega
    have ep : enat (P.length + 1) = .int ((P.length : Int) + 1) := rfl
    have ejn : enat j = .int (j : Nat) := rfl
    unfold lS at e ⊢
    rw [es]
    rw [ejn, e1, ep] at e
    rw [e1]
    generalize ((1 + t : Nat) : Int) = TT at *
    generalize P.map encP = PP at *
    generalize (ms.map enat).set j (enat (m + 1)) = M2 at *
    generalize ms.map enat = MS at *
    generalize enat (m + 1) = EM at *
    generalize (P.length : Int) = NN at *
    have fs : forStep g__law_least 0 [4] true b1__law_least [.fz (.lst PP), .fz (.int b), .fz (.int (NN - 1)), .ow true (.lst MS), .un, .un, .un, .un, .un] (.int TT) = ex g__law_least 0 b1__law_least [.fz (.lst PP), .fz (.int b), .fz (.int (NN - 1)), .ow true (.lst MS), .fz (.int TT), .un, .un, .un, .un] := by
      simp -implicitDefEqProofs [forStep, bindTg, putL, put1_eq, nl_un]
    rw [fs]
    unfold b1__law_least
    refine (ex_seq_next (by simp -implicitDefEqProofs [Fn.of, ↓R.bind_def, R.b_ok, R.b_exc, R.b_stuck, ex, ev, evs, evI, entry, dats, dat, slotD, primD, resV, imm, immL, noSlot, boolOf, sto, stos, put1_eq, putL, bindTg, bindU, nl_un, nl_fz, nl_ow, nl_lk, slotOf, vD, vFull, endOf, outV, ioData, setIo, slotsOf, slotIn, callD, callS, callO, mutL, mAppend, mSetAt, mPop, mClear, pGe, pGt, pLe, pLt, pPow, powOk, pMod, pFdiv, divOk, pAdd, pSub, pMul, mulOk, pNeg, pAbs, pMin2, pMax2, pIsa, tyName, R.of, R.calm, seqOf, lock, unlock, wipeC, wipeS, unlocked, range0, ejj]; rfl)).trans ?_
    refine (ex_seq_next (by simp -implicitDefEqProofs [Fn.of, ↓R.bind_def, R.b_ok, R.b_exc, R.b_stuck, ex, ev, evs, evI, entry, dats, dat, slotD, primD, resV, imm, immL, noSlot, boolOf, sto, stos, put1_eq, putL, bindTg, bindU, nl_un, nl_fz, nl_ow, nl_lk, slotOf, vD, vFull, endOf, outV, ioData, setIo, slotsOf, slotIn, callD, callS, callO, mutL, mAppend, mSetAt, mPop, mClear, pGe, pGt, pLe, pLt, pPow, powOk, pMod, pFdiv, divOk, pAdd, pSub, pMul, mulOk, pNeg, pAbs, pMin2, pMax2, pIsa, tyName, R.of, R.calm, seqOf, lock, unlock, wipeC, wipeS, unlocked, range0]; rfl)).trans ?_
    refine (ex_seq_next (by simp -implicitDefEqProofs [Fn.of, ↓R.bind_def, R.b_ok, R.b_exc, R.b_stuck, ex, ev, evs, evI, entry, dats, dat, slotD, primD, resV, imm, immL, noSlot, boolOf, sto, stos, put1_eq, putL, bindTg, bindU, nl_un, nl_fz, nl_ow, nl_lk, slotOf, vD, vFull, endOf, outV, ioData, setIo, slotsOf, slotIn, callD, callS, callO, mutL, mAppend, mSetAt, mPop, mClear, pGe, pGt, pLe, pLt, pPow, powOk, pMod, pFdiv, divOk, pAdd, pSub, pMul, mulOk, pNeg, pAbs, pMin2, pMax2, pIsa, tyName, R.of, R.calm, seqOf, lock, unlock, wipeC, wipeS, unlocked, range0, pl]; rfl)).trans ?_
    refine (ex_seq_next e).trans ?_
    refine (ex_seq_next (τ' := [.fz (.lst PP), .fz (.int b), .fz (.int (NN - 1)), .ow true (.lst M2), .fz (.int TT), .fz (.int (j : Nat)), .fz EM, .un, .un]) (by simp -implicitDefEqProofs [Fn.of, ↓R.bind_def, R.b_ok, R.b_exc, R.b_stuck, ex, ev, evs, evI, entry, dats, dat, slotD, primD, resV, imm, immL, noSlot, boolOf, sto, stos, put1_eq, putL, bindTg, bindU, nl_un, nl_fz, nl_ow, nl_lk, slotOf, vD, vFull, endOf, outV, ioData, setIo, slotsOf, slotIn, callD, callS, callO, mutL, mAppend, mPop, mClear, pGe, pGt, pLe, pLt, pPow, powOk, pMod, pFdiv, divOk, pAdd, pSub, pMul, mulOk, pNeg, pAbs, pMin2, pMax2, pIsa, tyName, R.of, R.calm, seqOf, lock, unlock, wipeC, wipeS, unlocked, range0, sa])).trans ?_
    simp -implicitDefEqProofs [Fn.of, ↓R.bind_def, R.b_ok, R.b_exc, R.b_stuck, ex, ev, evs, evI, entry, dats, dat, slotD, primD, resV, imm, immL, noSlot, boolOf, sto, stos, put1_eq, putL, bindTg, bindU, nl_un, nl_fz, nl_ow, nl_lk, slotOf, vD, vFull, endOf, outV, ioData, setIo, slotsOf, slotIn, callD, callS, callO, mutL, mAppend, mSetAt, mPop, mClear, pGe, pGt, pLe, pLt, pPow, powOk, pMod, pFdiv, divOk, pAdd, pSub, pMul, mulOk, pNeg, pAbs, pMin2, pMax2, pIsa, tyName, R.of, R.calm, seqOf, lock, unlock, wipeC, wipeS, unlocked]
  · by_cases z : i = j
    · subst z
      refine ⟨m + 1, by rw [List.getElem?_set_self (by omega)], ?_, ?_⟩
      · obtain ⟨m', q1, q2, _⟩ := hI k (by omega) h2
        have : m' = m := Option.some.inj (q1.symm.trans h4)
        subst this
        refine Fr.step (by omega) k h1 h2 h3 q2 fun i' g1 g2 g3 => ?_
        obtain ⟨q, r1, r2⟩ := h5 i' g1 g2 g3
        obtain ⟨q', s1, s2, _⟩ := hI i' (by omega) g2
        have : q' = q := Option.some.inj (s1.symm.trans r1)
        subst this
        exact ⟨q', s2, r2⟩
      · obtain ⟨m', q1, _, q3⟩ := hI k (by omega) h2
        have : m' = m := Option.some.inj (q1.symm.trans h4)
        omega
    · obtain ⟨m', q1, q2, q3⟩ := hI i (by omega) i2
      exact ⟨m', by rw [List.getElem?_set_ne (by omega)]; exact q1, q2, q3⟩
theorem law_least_run {P : List Pt} {b : Int} (hP : ∀ p ∈ P, Sm p) (b0 : 0 ≤ b) (b1 : Bd 200 b) (hl : P.length ≤ 1000) (h0 : 0 < P.length) : ∃ m, f__law_least.run [.lst (P.map encP), .int b] = .ok (.int (m : Nat), []) ∧ Fr P b 0 m := by
  obtain ⟨ms, e, h1, h2⟩ := forGo_nth (step := forStep g__law_least 0 [4] true b1__law_least) (fun i => enat (1 + i)) (fun ms => lS P b ms .un .un .un .un) (fun t ms => ms.length = P.length ∧ ∀ i, P.length - 1 - t ≤ i → i < P.length → ∃ m, ms[i]? = some m ∧ Fr P b i m ∧ m + i ≤ P.length) (xs := List.range (P.length - 1)) (k := 0) (b := List.replicate P.length 1) (fun t x hx ms hb => by
    have ht := (List.getElem?_eq_some_iff.mp hx).1
    rw [List.length_range] at ht
    rw [List.getElem?_range ht] at hx
    cases hx
    rw [Nat.zero_add] at hb ⊢
    obtain ⟨ms', a1, a2, a3⟩ := lout hP b0 b1 hl (by omega) hb.1 hb.2
    exact ⟨ms', a1, a2, a3⟩) ⟨List.length_replicate, fun i i1 i2 => by
      have : i = P.length - 1 := by omega
      subst this
      refine ⟨1, by rw [List.getElem?_replicate, if_pos (by omega)], Fr.last, by omega⟩⟩
  rw [List.length_range] at h2
  obtain ⟨m, q1, q2, _⟩ := h2 0 (by omega) h0
  refine ⟨m, ?_, q2⟩
  have lp : ex g__law_least 0 l1__law_least (lS P b (List.replicate P.length 1) .un .un .un .un) = .ok (.next (lS P b ms .un .un .un .un)) := by
    refine ex_for (rng2N (lo := 1) (hi := P.length) ?_ ?_ (by omega) (by omega)) e
    · rfl
    · have := pLen_lstM encP P
      unfold lS
      generalize P.map encP = PP at *
      generalize (List.replicate P.length 1).map enat = MS at *
      simp -implicitDefEqProofs [Fn.of, ↓R.bind_def, R.b_ok, R.b_exc, R.b_stuck, ex, ev, evs, evI, entry, dats, dat, slotD, primD, resV, imm, immL, noSlot, boolOf, sto, stos, put1_eq, putL, bindTg, bindU, nl_un, nl_fz, nl_ow, nl_lk, slotOf, vD, vFull, endOf, outV, ioData, setIo, slotsOf, slotIn, callD, callS, callO, mutL, mAppend, mSetAt, mPop, mClear, pGe, pGt, pLe, pLt, pPow, powOk, pMod, pFdiv, divOk, pAdd, pSub, pMul, mulOk, pNeg, pAbs, pMin2, pMax2, pIsa, tyName, R.of, R.calm, seqOf, lock, unlock, wipeC, wipeS, unlocked, range0, this]
  have cm : ev g__law_least c1__law_least [.fz (.lst (P.map encP)), .fz (.int b), .fz (.int ((P.length : Int) - 1)), .un, .un, .un, .un, .un, .un] = .ok (.own true (.lst ((List.replicate P.length 1).map enat)), [.fz (.lst (P.map encP)), .fz (.int b), .fz (.int ((P.length : Int) - 1)), .un, .un, .un, .un, .un, .un]) := by
    have := ev_comp_fm (Γ := g__law_least) (tg := [8]) (one := true) (it := .iSeq (.var 0)) (cond := .yes) (elt := .cst (.int 1)) (τ := [.fz (.lst (P.map encP)), .fz (.int b), .fz (.int ((P.length : Int) - 1)), .un, .un, .un, .un, .un, .un]) (τ1 := [.fz (.lst (P.map encP)), .fz (.int b), .fz (.int ((P.length : Int) - 1)), .un, .un, .un, .un, .un, .un]) (τ0 := [.fz (.lst (P.map encP)), .fz (.int b), .fz (.int ((P.length : Int) - 1)), .un, .un, .un, .un, .un, .un]) encP (xs := P) (fun _ => some (Val.fz (.int 1))) (by
      generalize P.map encP = PP
      simp -implicitDefEqProofs [Fn.of, ↓R.bind_def, R.b_ok, R.b_exc, R.b_stuck, ex, ev, evs, evI, entry, dats, dat, slotD, primD, resV, imm, immL, noSlot, boolOf, sto, stos, put1_eq, putL, bindTg, bindU, nl_un, nl_fz, nl_ow, nl_lk, slotOf, vD, vFull, endOf, outV, ioData, setIo, slotsOf, slotIn, callD, callS, callO, mutL, mAppend, mSetAt, mPop, mClear, pGe, pGt, pLe, pLt, pPow, powOk, pMod, pFdiv, divOk, pAdd, pSub, pMul, mulOk, pNeg, pAbs, pMin2, pMax2, pIsa, tyName, R.of, R.calm, seqOf, lock, unlock, wipeC, wipeS, unlocked, range0]) rfl (fun p _ => by
      generalize P.map encP = PP
      simp -implicitDefEqProofs [compStep, Fn.of, ↓R.bind_def, R.b_ok, R.b_exc, R.b_stuck, ex, ev, evs, evI, entry, dats, dat, slotD, primD, resV, imm, immL, noSlot, boolOf, sto, stos, put1_eq, putL, bindTg, bindU, nl_un, nl_fz, nl_ow, nl_lk, slotOf, vD, vFull, endOf, outV, ioData, setIo, slotsOf, slotIn, callD, callS, callO, mutL, mAppend, mSetAt, mPop, mClear, pGe, pGt, pLe, pLt, pPow, powOk, pMod, pFdiv, divOk, pAdd, pSub, pMul, mulOk, pNeg, pAbs, pMin2, pMax2, pIsa, tyName, R.of, R.calm, seqOf, lock, unlock, wipeC, wipeS, unlocked, range0]) (fun p _ v hv => by
        cases hv
        rfl) (by omega)
    have er : ((P.filterMap fun _ => some (Val.fz (.int 1))).map vD) = (List.replicate P.length 1).map enat := by
      rw [List.filterMap_eq_map', List.map_map, List.map_replicate]
      exact List.map_const'
    rw [er] at this
    exact this
  have x0 := ix_lst (enc := enat) (j := 0) q1
  have pl := pLen_lstM encP P
  refine run0_ret rfl (v := .fz (.int (m : Nat))) (τ' := lS P b ms .un .un .un .un) ?_ rfl
  show ex g__law_least 0 m__law_least [.fz (.lst (P.map encP)), .fz (.int b), .un, .un, .un, .un, .un, .un, .un] = _
  unfold m__law_least
  unfold lS at lp ⊢
  have em : enat m = .int (m : Nat) := rfl
  rw [em] at x0
  generalize (List.replicate P.length 1).map enat = MR at *
  generalize P.map encP = PP at *
  generalize ms.map enat = MS at *
  generalize (P.length : Int) = NN at *
  refine (ex_seq_next (by simp -implicitDefEqProofs [Fn.of, ↓R.bind_def, R.b_ok, R.b_exc, R.b_stuck, ex, ev, evs, evI, entry, dats, dat, slotD, primD, resV, imm, immL, noSlot, boolOf, sto, stos, put1_eq, putL, bindTg, bindU, nl_un, nl_fz, nl_ow, nl_lk, slotOf, vD, vFull, endOf, outV, ioData, setIo, slotsOf, slotIn, callD, callS, callO, mutL, mAppend, mSetAt, mPop, mClear, pGe, pGt, pLe, pLt, pPow, powOk, pMod, pFdiv, divOk, pAdd, pSub, pMul, mulOk, pNeg, pAbs, pMin2, pMax2, pIsa, tyName, R.of, R.calm, seqOf, lock, unlock, wipeC, wipeS, unlocked, range0, pl]; rfl)).trans ?_
  refine (ex_seq_next (by simp -implicitDefEqProofs [Fn.of, ↓R.bind_def, R.b_ok, R.b_exc, R.b_stuck, ex, ev, evs, evI, entry, dats, dat, slotD, primD, resV, imm, immL, noSlot, boolOf, sto, stos, put1_eq, putL, bindTg, bindU, nl_un, nl_fz, nl_ow, nl_lk, slotOf, vD, vFull, endOf, outV, ioData, setIo, slotsOf, slotIn, callD, callS, callO, mutL, mAppend, mSetAt, mPop, mClear, pGe, pGt, pLe, pLt, pPow, powOk, pMod, pFdiv, divOk, pAdd, pSub, pMul, mulOk, pNeg, pAbs, pMin2, pMax2, pIsa, tyName, R.of, R.calm, seqOf, lock, unlock, wipeC, wipeS, unlocked, range0]; rfl)).trans ?_
  refine (ex_seq_next (τ' := [.fz (.lst PP), .fz (.int b), .fz (.int (NN - 1)), .ow true (.lst MR), .un, .un, .un, .un, .un]) (by
    simp -implicitDefEqProofs only [ex, cm, R.bind_ok]
    simp -implicitDefEqProofs [Fn.of, ↓R.bind_def, R.b_ok, R.b_exc, R.b_stuck, ex, ev, evs, evI, entry, dats, dat, slotD, primD, resV, imm, immL, noSlot, boolOf, sto, stos, put1_eq, putL, bindTg, bindU, nl_un, nl_fz, nl_ow, nl_lk, slotOf, vD, vFull, endOf, outV, ioData, setIo, slotsOf, slotIn, callD, callS, callO, mutL, mAppend, mSetAt, mPop, mClear, pGe, pGt, pLe, pLt, pPow, powOk, pMod, pFdiv, divOk, pAdd, pSub, pMul, mulOk, pNeg, pAbs, pMin2, pMax2, pIsa, tyName, R.of, R.calm, seqOf, lock, unlock, wipeC, wipeS, unlocked, range0])).trans ?_
  refine (ex_seq_next lp).trans ?_
  have x0 : pIx [.lst MS, .int 0] = some (.old (.int (m : Nat))) := x0
  simp -implicitDefEqProofs [Fn.of, ↓R.bind_def, R.b_ok, R.b_exc, R.b_stuck, ex, ev, evs, evI, entry, dats, dat, slotD, primD, resV, imm, immL, noSlot, boolOf, sto, stos, put1_eq, putL, bindTg, bindU, nl_un, nl_fz, nl_ow, nl_lk, slotOf, vD, vFull, endOf, outV, ioData, setIo, slotsOf, slotIn, callD, callS, callO, mutL, mAppend, mSetAt, mPop, mClear, pGe, pGt, pLe, pLt, pPow, powOk, pMod, pFdiv, divOk, pAdd, pSub, pMul, mulOk, pNeg, pAbs, pMin2, pMax2, pIsa, tyName, R.of, R.calm, seqOf, lock, unlock, wipeC, wipeS, unlocked, range0, x0]
theorem fr_fewest {P : List Pt} {b : Int} {m : Nat} {r : List Nat} (h : Fr P b 0 m) (k : Fewest P b r) : r.length = m := by
  obtain ⟨⟨q, c1, c2, c3, c4⟩, f⟩ := h
  have := f r k.ch k.hd k.ls
  have := k.le q c1 c2 c3
  omega
end Lwk63
namespace Lwk63
open PySem L2 Rg Hr
def keepsB (P : List Pt) (b : Int) (r : List Nat) : Bool := (List.range (r.length - 1)).all fun i => okSeg P b (r.getD i 0) (r.getD (i + 1) 0)
theorem keeps_of {P : List Pt} {b : Int} : ∀ {r : List Nat}, Chain P b r → keepsB P b r = true
  | [], _ => rfl
  | [_], _ => rfl
  | j :: k :: r, hc => by
    have ih := keeps_of (r := k :: r) hc.2.2
    unfold keepsB at ih ⊢
    rw [List.all_eq_true] at ih ⊢
    intro i hi
    have hi := List.mem_range.mp hi
    cases i with
    | zero => exact hc.2.1
    | succ i =>
      have := ih i (List.mem_range.mpr (by simp -implicitDefEqProofs only [List.length_cons] at hi ⊢; omega))
      exact this
theorem chain_rise {P : List Pt} {b : Int} : ∀ {r : List Nat}, Chain P b r → r.Pairwise (· < ·)
  | [], _ => List.Pairwise.nil
  | [_], _ => List.pairwise_singleton _ _
  | j :: k :: r, hc => by
    have ih := chain_rise (r := k :: r) hc.2.2
    refine List.pairwise_cons.mpr ⟨fun x hx => ?_, ih⟩
    rcases List.mem_cons.mp hx with rfl | hx
    · exact hc.1
    · have := (List.pairwise_cons.mp ih).1 x hx
      have := hc.1
      omega
theorem rise_len : ∀ {r : List Nat} {n m : Nat}, r.Pairwise (· < ·) → (∀ k ∈ r, m ≤ k ∧ k < n) → r.length ≤ n - m
  | [], _, _, _, _ => Nat.zero_le _
  | a :: r, n, m, h, hb => by
    obtain ⟨h1, h2⟩ := List.pairwise_cons.mp h
    have ih := rise_len (n := n) (m := a + 1) h2 fun k hk => ⟨h1 k hk, (hb k (List.mem_cons_of_mem _ hk)).2⟩
    have := hb a List.mem_cons_self
    rw [List.length_cons]
    omega
theorem get_nat {r : List Nat} {i : Nat} (h : i < r.length) : r[i]? = some (r.getD i 0) := by
  rw [List.getD_eq_getElem?_getD, List.getElem?_eq_getElem h]
  rfl
theorem intsL_nat : ∀ r : List Nat, intsL (r.map enat) = some (r.map fun k : Nat => (k : Int))
  | [] => rfl
  | k :: r => by
    show (intsL (r.map enat)).map _ = _
    rw [intsL_nat r]
    rfl
theorem insI_front {x : Int} : ∀ {l : List Int}, (∀ y ∈ l, x < y) → insI x l = x :: l
  | [], _ => rfl
  | y :: l, h => by
    unfold insI
    rw [if_pos (h y List.mem_cons_self)]
theorem setI_rising : ∀ {r : List Nat}, r.Pairwise (· < ·) → setI (r.map fun k : Nat => (k : Int)) = r.map fun k : Nat => (k : Int)
  | [], _ => rfl
  | k :: r, h => by
    obtain ⟨h1, h2⟩ := List.pairwise_cons.mp h
    show insI (k : Int) (setI (r.map fun k : Nat => (k : Int))) = _
    rw [setI_rising h2, insI_front]
    · rfl
    · intro y hy
      obtain ⟨j, hj, rfl⟩ := List.mem_map.mp hy
      have := h1 j hj
      omega
theorem enat_int (r : List Nat) : (r.map fun k : Nat => (k : Int)).map D.int = r.map enat := by
  rw [List.map_map]
  rfl
def foundD (r : List Nat) : D := .tup [.int (r.length : Nat), .lst (r.map enat)]
theorem right_run {P : List Pt} {b : Int} {r : List Nat} (hP : ∀ p ∈ P, Sm p) (b0 : 0 ≤ b) (b1 : Bd 200 b) (hl : P.length ≤ 45) (h0 : 0 < P.length) (h : Fewest P b r) : f__law_right.run [.lst (P.map encP), .int b, foundD r] = .ok (.bl true, []) := by
  have rs := chain_rise h.ch
  have lt : ∀ k ∈ r, k < P.length := fun k hk => by
    have := chain_lt h.ch h.ls k hk
    omega
  have len : r.length ≤ P.length := by
    have := rise_len (m := 0) rs fun k hk => ⟨Nat.zero_le _, lt k hk⟩
    omega
  have kp := keeps_of h.ch
  unfold keepsB at kp
  rw [List.all_eq_true] at kp
  have r0 : 0 < r.length := by
    cases r with
    | nil => have := h.hd; cases this
    | cons a r => simp
  obtain ⟨m, em, fm⟩ := law_least_run hP b0 b1 (by omega) h0
  have lm := fr_fewest fm h
  have lp := ex_for_quiet (Γ := g__law_right) (n := 0) (tg := [3]) (one := true) (it := .iRange2 (.cst (.int 1)) (.prim .len (.cons (.var 5) .nil))) (b := b1__law_right) (τ := [.fz (.lst (P.map encP)), .fz (.int b), .fz (foundD r), .un, .fz (.int (r.length : Nat)), .fz (.lst (r.map enat))]) (fun i => enat (1 + i)) (xs := List.range (r.length - 1)) (by
    refine rng2N (lo := 1) (hi := r.length) rfl ?_ (by omega) (by omega)
    have := pLen_lstM enat r
    generalize P.map encP = PP at *
    generalize r.map enat = RR at *
    generalize foundD r = FD at *
    simp -implicitDefEqProofs [Fn.of, ↓R.bind_def, R.b_ok, R.b_exc, R.b_stuck, ex, ev, evs, evI, entry, dats, dat, slotD, primD, resV, imm, immL, noSlot, boolOf, sto, stos, put1_eq, putL, bindTg, bindU, nl_un, nl_fz, nl_ow, nl_lk, slotOf, vD, vFull, endOf, outV, ioData, setIo, slotsOf, slotIn, callD, callS, callO, mutL, mAppend, mSetAt, mPop, mClear, pGe, pGt, pLe, pLt, pPow, powOk, pMod, pFdiv, divOk, pAdd, pSub, pMul, mulOk, pNeg, pAbs, pMin2, pMax2, pIsa, tyName, R.of, R.calm, seqOf, lock, unlock, wipeC, wipeS, unlocked, range0, this]) (fun i hi => by
    have hi' := List.mem_range.mp hi
    have g1 := get_nat (r := r) (i := i) (by omega)
    have g2 := get_nat (r := r) (i := i + 1) (by omega)
    have i1 := lt _ (List.mem_of_getElem? g1)
    have i2 := lt _ (List.mem_of_getElem? g2)
    have p1 := ix_lst (enc := enat) g1
    have p2 := ix_lst (enc := enat) g2
    have ok := kp i hi
    generalize hj : r.getD i 0 = j at *
    generalize hk : r.getD (i + 1) 0 = k at *
    have e1 : ((i : Nat) : Int) = ((1 + i : Nat) : Int) - 1 := by omega
    have e2 : ((i + 1 : Nat) : Int) = ((1 + i : Nat) : Int) := by omega
    rw [e1] at p1
    rw [e2] at p2
    have e := law_lets_run hP b0 b1 (by omega) i1 i2
    rw [ok] at e
    have ei : enat (1 + i) = .int ((1 + i : Nat) : Int) := rfl
    have ej : enat j = .int (j : Nat) := rfl
    have ek : enat k = .int (k : Nat) := rfl
    rw [ej] at p1
    rw [ek] at p2
    rw [ei]
    generalize hU : (((1 + i : Nat) : Int)) = U at *
    generalize P.map encP = PP at *
    generalize r.map enat = RR at *
    generalize foundD r = FD at *
    simp -implicitDefEqProofs [forStep, b1__law_right, i4__law_right, g__law_right, Fn.of, ↓R.bind_def, R.b_ok, R.b_exc, R.b_stuck, ex, ev, evs, evI, entry, dats, dat, slotD, primD, resV, imm, immL, noSlot, boolOf, sto, stos, put1_eq, putL, bindTg, bindU, nl_un, nl_fz, nl_ow, nl_lk, slotOf, vD, vFull, endOf, outV, ioData, setIo, slotsOf, slotIn, callD, callS, callO, mutL, mAppend, mSetAt, mPop, mClear, pGe, pGt, pLe, pLt, pPow, powOk, pMod, pFdiv, divOk, pAdd, pSub, pMul, mulOk, pNeg, pAbs, pMin2, pMax2, pIsa, tyName, R.of, R.calm, seqOf, lock, unlock, wipeC, wipeS, unlocked, range0, p1, p2, e])
  have x1 : pIx [foundD r, .int 1] = some (.old (.lst (r.map enat))) := rfl
  have t1 : pIsa "tuple" [foundD r] = some (.old (.bl true)) := rfl
  have t2 : pIsa "list" [.lst (r.map enat)] = some (.old (.bl true)) := rfl
  have t3 : pIsa "bool" [.int (r.length : Nat)] = some (.old (.bl false)) := rfl
  have l2 : pLen [foundD r] = some (.old (.int 2)) := rfl
  have n2 : pNe [.int 2, .int 2] = some (.old (.bl false)) := rfl
  have lr := pLen_lstM enat r
  have lP := pLen_lstM encP P
  have nl : pNe [.int (r.length : Nat), .int (r.length : Nat)] = some (.old (.bl false)) := by
    rw [pNe_int, decide_eq_true rfl]
    rfl
  have nr := (enc_lst enc_nat).pNe (by omega) r r
  rw [decide_eq_true rfl] at nr
  have nr : pNe [.lst (r.map enat), .lst (r.map enat)] = some (.old (.bl false)) := nr
  have il := intsL_nat r
  have sr := setI_rising rs
  have ee := enat_int r
  have l64 : (r.map fun k : Nat => (k : Int)).length < 64 := by rw [List.length_map]; omega
  have sl : pSlc false true [.lst (r.map enat), .int 1] = some (.nu [.int 0]) := by
    cases r with
    | nil => cases h.hd
    | cons a r =>
      have : a = 0 := Option.some.inj h.hd
      subst this
      show (loHi false true [.int 1] >>= fun p => cutD _ p.1 p.2) = _
      have e1 : HT.sIx (((0 :: r).map enat).length) (((0 :: r).map enat).length) (some 1) = 1 := by
        have := HT.sIx_nat ((0 :: r).map enat).length ((0 :: r).map enat).length 1
        simp -implicitDefEqProofs only [List.length_map, List.length_cons] at this ⊢
        exact this.trans (by omega)
      show (some (Res.nu (cutL ((0 :: r).map enat) none (some 1)))) = _
      unfold cutL
      rw [e1]
      rfl
  have n0 : pNe [.lst [.int 0], .lst [.int 0]] = some (.old (.bl false)) := by
    have := (enc_lst enc_nat).pNe (by omega) [0] [0]
    exact this
  have xl : pIx [.lst (r.map enat), .int (-1)] = some (.old (.int ((P.length : Int) - 1))) := by
    have := ix_lastL (enc := enat) h.ls
    have e : enat (P.length - 1) = .int ((P.length : Int) - 1) := congrArg D.int (by omega)
    rw [e] at this
    exact this
  have nn : pNe [.int ((P.length : Int) - 1), .int ((P.length : Int) - 1)] = some (.old (.bl false)) := by
    rw [pNe_int, decide_eq_true rfl]
    rfl
  have pe : pEq [.int (r.length : Nat), .int (m : Nat)] = some (.old (.bl true)) := by
    rw [lm, pEq_int, decide_eq_true rfl]
  refine run0_ret rfl (v := .fz (.bl true)) (τ' := [.fz (.lst (P.map encP)), .fz (.int b), .fz (foundD r), .un, .fz (.int (r.length : Nat)), .fz (.lst (r.map enat))]) ?_ rfl
  show ex g__law_right 0 m__law_right [.fz (.lst (P.map encP)), .fz (.int b), .fz (foundD r), .un, .un, .un] = _
  have fd0 : foundD r = .tup [.int (r.length : Nat), .lst (r.map enat)] := rfl
  unfold m__law_right
  refine (ex_seq_next (τ' := [.fz (.lst (P.map encP)), .fz (.int b), .fz (foundD r), .un, .un, .un]) (by
    generalize P.map encP = PP at *
    clear fd0
    generalize foundD r = FD at *
    generalize r.map enat = RR at *
    simp -implicitDefEqProofs [i1__law_right, g__law_right, Fn.of, ↓R.bind_def, R.b_ok, R.b_exc, R.b_stuck, ex, ev, evs, evI, entry, dats, dat, slotD, primD, resV, imm, immL, noSlot, boolOf, sto, stos, put1_eq, putL, bindTg, bindU, nl_un, nl_fz, nl_ow, nl_lk, slotOf, vD, vFull, endOf, outV, ioData, setIo, slotsOf, slotIn, callD, callS, callO, mutL, mAppend, mSetAt, mPop, mClear, pGe, pGt, pLe, pLt, pPow, powOk, pMod, pFdiv, divOk, pAdd, pSub, pMul, mulOk, pNeg, pAbs, pMin2, pMax2, tyName, R.of, R.calm, seqOf, lock, unlock, wipeC, wipeS, unlocked, range0, primD, x1, t1, t2, l2, n2])).trans ?_
  refine (ex_seq_next (τ' := [.fz (.lst (P.map encP)), .fz (.int b), .fz (foundD r), .un, .fz (.int (r.length : Nat)), .fz (.lst (r.map enat))]) (by
    generalize P.map encP = PP at *
    rw [fd0]
    generalize r.map enat = RR at *
    simp -implicitDefEqProofs [Fn.of, ↓R.bind_def, R.b_ok, R.b_exc, R.b_stuck, ex, ev, evs, evI, entry, dats, dat, slotD, primD, resV, imm, immL, noSlot, boolOf, sto, stos, put1_eq, putL, bindTg, bindU, nl_un, nl_fz, nl_ow, nl_lk, slotOf, vD, vFull, endOf, outV, ioData, setIo, slotsOf, slotIn, callD, callS, callO, mutL, mAppend, mSetAt, mPop, mClear, pGe, pGt, pLe, pLt, pPow, powOk, pMod, pFdiv, divOk, pAdd, pSub, pMul, mulOk, pNeg, pAbs, pMin2, pMax2, pIsa, tyName, R.of, R.calm, seqOf, lock, unlock, wipeC, wipeS, unlocked, range0])).trans ?_
  clear fd0
  refine (ex_seq_next (τ' := [.fz (.lst (P.map encP)), .fz (.int b), .fz (foundD r), .un, .fz (.int (r.length : Nat)), .fz (.lst (r.map enat))]) (by
    generalize P.map encP = PP at *
    generalize foundD r = FD at *
    generalize r.map enat = RR at *
    generalize (r.map fun k : Nat => (k : Int)) = NS at *
    simp -implicitDefEqProofs [i2__law_right, g__law_right, Fn.of, ↓R.bind_def, R.b_ok, R.b_exc, R.b_stuck, ex, ev, evs, evI, entry, dats, dat, slotD, primD, resV, imm, immL, noSlot, boolOf, sto, stos, put1_eq, putL, bindTg, bindU, nl_un, nl_fz, nl_ow, nl_lk, slotOf, vD, vFull, endOf, outV, ioData, setIo, slotsOf, slotIn, callD, callS, callO, mutL, mAppend, mSetAt, mPop, mClear, pGe, pGt, pLe, pLt, pPow, powOk, pMod, pFdiv, divOk, pAdd, pSub, pMul, mulOk, pNeg, pAbs, pMin2, pMax2, tyName, R.of, R.calm, seqOf, lock, unlock, wipeC, wipeS, unlocked, range0, primD, t3, lr, nl, nr, il, sr, ee, l64])).trans ?_
  refine (ex_seq_next (τ' := [.fz (.lst (P.map encP)), .fz (.int b), .fz (foundD r), .un, .fz (.int (r.length : Nat)), .fz (.lst (r.map enat))]) (by
    generalize P.map encP = PP at *
    generalize foundD r = FD at *
    generalize r.map enat = RR at *
    simp -implicitDefEqProofs [i3__law_right, g__law_right, Fn.of, ↓R.bind_def, R.b_ok, R.b_exc, R.b_stuck, ex, ev, evs, evI, entry, dats, dat, slotD, primD, resV, imm, immL, noSlot, boolOf, sto, stos, put1_eq, putL, bindTg, bindU, nl_un, nl_fz, nl_ow, nl_lk, slotOf, vD, vFull, endOf, outV, ioData, setIo, slotsOf, slotIn, callD, callS, callO, mutL, mAppend, mSetAt, mPop, mClear, pGe, pGt, pLe, pLt, pPow, powOk, pMod, pFdiv, divOk, pAdd, pSub, pMul, mulOk, pNeg, pAbs, pMin2, pMax2, pIsa, tyName, R.of, R.calm, seqOf, lock, unlock, wipeC, wipeS, unlocked, range0, primD, primV, intV, sl, n0, xl, nn, lP, szN])).trans ?_
  refine (ex_seq_next lp).trans ?_
  generalize P.map encP = PP at *
  generalize foundD r = FD at *
  generalize r.map enat = RR at *
  simp -implicitDefEqProofs [g__law_right, Fn.of, ↓R.bind_def, R.b_ok, R.b_exc, R.b_stuck, ex, ev, evs, evI, entry, dats, dat, slotD, primD, resV, imm, immL, noSlot, boolOf, sto, stos, put1_eq, putL, bindTg, bindU, nl_un, nl_fz, nl_ow, nl_lk, slotOf, vD, vFull, endOf, outV, ioData, setIo, slotsOf, slotIn, callD, callS, callO, mutL, mAppend, mSetAt, mPop, mClear, pGe, pGt, pLe, pLt, pPow, powOk, pMod, pFdiv, divOk, pAdd, pSub, pMul, mulOk, pNeg, pAbs, pMin2, pMax2, pIsa, tyName, R.of, R.calm, seqOf, lock, unlock, wipeC, wipeS, unlocked, range0, primD, em, pe]
def qS (s : Int × Int) (most many wd hg on : Int) (L : List Pt) : Sts := [.ow true (fd s), .fz (.int most), .fz (.int many), .fz (.int wd), .fz (.int hg), .fz (.int on), .ow true (.lst (L.map encP)), .un, .un, .un, .un, .un]
theorem q_step (s : Int × Int) (most many : Int) {wd hg on : Int} (j : Nat) (L : List Pt) (hL : L.length ≤ 1000) (w1 : 1 ≤ wd) (w2 : wd ≤ 9) (g1 : 1 ≤ hg) (g2 : hg ≤ 9) (o1 : 0 ≤ on) (o2 : on ≤ 2) (hj : j ≤ 45) : ∃ s' p, forStep g__law_points 0 [7] true b1__law_points (qS s most many wd hg on L) (enat j) = .ok (.next (qS s' most many wd hg on (L ++ [p]))) ∧ 0 ≤ p.1 ∧ p.1 ≤ 200 ∧ 0 ≤ p.2 ∧ p.2 ≤ 200 := by
  have d1 := draw_lt s wd (by omega)
  have q1 := draw_run s wd (by omega) (by omega)
  generalize draw s wd = r1 at d1 q1
  have d2 := draw_lt r1.2 hg (by omega)
  have q2 := draw_run r1.2 hg (by omega) (by omega)
  generalize draw r1.2 hg = r2 at d2 q2
  have on3 : on = 0 ∨ on = 1 ∨ on = 2 := by omega
  have ml : pMul [.int on, .int (j : Nat)] = some (.old (.int (on * (j : Nat)))) := pMul_b (by omega) (by omega)
  have bd : 0 ≤ on * (j : Int) ∧ on * (j : Int) ≤ 90 := by rcases on3 with rfl | rfl | rfl <;> omega
  refine ⟨r2.2, (r1.1 + on * (j : Nat), r2.1), ?_, by simp only; omega, by simp only; omega, by simp only; omega, by simp only; omega⟩
  have ej : enat j = .int (j : Nat) := rfl
  have es : (L ++ [(r1.1 + on * (j : Nat), r2.1)]).map encP = L.map encP ++ [.tup [.int (r1.1 + on * (j : Nat)), .int r2.1]] := by rw [List.map_append]; rfl
  have z : L.length < sizeLine := by
    have := szN (L.length + 1) (by omega)
    omega
  have zl : (L.map encP).length < sizeLine := by rw [List.length_map]; exact z
  have if1 : ∀ s, imm (fd s) = false := fun _ => rfl
  unfold qS
  rw [es, ej]
  generalize on * ((j : Nat) : Int) = OJ at *
  generalize L.map encP = LL at *
  generalize ((j : Nat) : Int) = JJ at *
  have z2 : 2 ≤ sizeLine := szN 2 (by omega)
  simp -implicitDefEqProofs [forStep, b1__law_points, g__law_points, Fn.of, ↓R.bind_def, R.b_ok, R.b_exc, R.b_stuck, ex, ev, evs, evI, entry, dats, dat, slotD, primD, resV, imm, immL, noSlot, boolOf, sto, stos, put1_eq, putL, bindTg, bindU, nl_un, nl_fz, nl_ow, nl_lk, slotOf, vD, vFull, endOf, outV, ioData, setIo, slotsOf, slotIn, callD, callS, callO, mutL, mAppend, mSetAt, mPop, mClear, pGe, pGt, pLe, pLt, pPow, powOk, pMod, pFdiv, divOk, pAdd, pSub, pNeg, pAbs, pMin2, pMax2, pIsa, tyName, R.of, R.calm, seqOf, lock, unlock, wipeC, wipeS, unlocked, range0, q1, q2, ml, if1, zl, z2, szN]
theorem pickq (i : Int) (h0 : 0 ≤ i) (h1 : i < 4) (most : Int) (m1 : 0 < most) (m2 : most ≤ 39) : ∃ m, pIx [.lst [.int 7, .int 7, .int 14, .int most], .int i] = some (.old (.int m)) ∧ 0 < m ∧ m ≤ 39 := by
  have : i = 0 ∨ i = 1 ∨ i = 2 ∨ i = 3 := by omega
  rcases this with rfl | rfl | rfl | rfl
  · exact ⟨_, rfl, by omega⟩
  · exact ⟨_, rfl, by omega⟩
  · exact ⟨_, rfl, by omega⟩
  · exact ⟨_, rfl, by omega⟩
theorem pickh (i : Int) (h0 : 0 ≤ i) (h1 : i < 4) : ∃ m, pIx [.lst [.int 1, .int 2, .int 4, .int 9], .int i] = some (.old (.int m)) ∧ 1 ≤ m ∧ m ≤ 9 := by
  have : i = 0 ∨ i = 1 ∨ i = 2 ∨ i = 3 := by omega
  rcases this with rfl | rfl | rfl | rfl <;> exact ⟨_, rfl, by decide⟩
theorem pickb (i : Int) (h0 : 0 ≤ i) (h1 : i < 4) : ∃ m, pIx [.lst [.int 1, .int 1, .int 7, .int 1000000000], .int i] = some (.old (.int m)) ∧ 1 ≤ m ∧ m ≤ 1000000000 := by
  have : i = 0 ∨ i = 1 ∨ i = 2 ∨ i = 3 := by omega
  rcases this with rfl | rfl | rfl | rfl <;> exact ⟨_, rfl, by decide⟩
theorem pickf (i : Int) (h0 : 0 ≤ i) (h1 : i < 4) : ∃ m, pIx [.lst [.int 0, .int (-5), .int 100000000000, .int (-100000000000)], .int i] = some (.old (.int m)) ∧ -100000000000 ≤ m ∧ m ≤ 100000000000 := by
  have : i = 0 ∨ i = 1 ∨ i = 2 ∨ i = 3 := by omega
  rcases this with rfl | rfl | rfl | rfl <;> exact ⟨_, rfl, by decide⟩
theorem ev_comp_lkfm {Γ : Env1} {α : Type} {tg : List Nat} {one : Bool} {it cond elt : E} {i : Nat} {τ τ1 τ0 τL τ3 : Sts} (enc : α → D) {xs : List α} (g : α → Option Val) (h : evI Γ it τ = .ok (xs.map enc, some i, τ1)) (hw : wipeC τ1 tg = some τ0) (hL : lock τ0 (some i) = τL) (hU : unlock τ0 τL (some i) = some τ3) (hs : ∀ x ∈ xs, compStep Γ tg one cond elt τL (enc x) = .ok (g x, τL)) (hf : ∀ x ∈ xs, ∀ v, g x = some v → vFull v = true) (hl : xs.length ≤ 1000000) : ev Γ (.comp tg one it cond elt) τ = .ok (.own true (.lst ((xs.filterMap g).map vD)), τ3) := by
  have := compGo_fm (acc := []) enc τL g hs hf (by rw [sizeLine_eq, List.length_nil]; omega)
  rw [List.nil_append] at this
  unfold compStep at this
  simp -implicitDefEqProofs only [ev, h, R.bind_ok, hw, R.of_some, hL, this, hU]
def farP (by_ far : Int) (p : Pt) : Pt := (p.1 * by_ + far, p.2 * by_ - far)
theorem points_run (s : Int × Int) (most : Int) (m1 : 0 < most) (m2 : most ≤ 39) : ∃ (by_ : Int) (P : List Pt) (s' : Int × Int), f__law_points.run [fd s, .int most] = .ok (.tup [.int by_, .lst (P.map encP)], [fd s']) ∧ (∀ p ∈ P, Sm p) ∧ 0 < P.length ∧ P.length ≤ 45 ∧ 1 ≤ by_ ∧ by_ ≤ 1000000000 := by
  have da := draw_lt s 4 (by omega)
  have qa := draw_run s 4 (by omega) (by omega)
  generalize draw s 4 = ra at da qa
  obtain ⟨sz, za, zb, zc⟩ := pickq ra.1 da.1 da.2 most m1 m2
  have db := draw_lt ra.2 sz zb
  have qb := draw_run ra.2 sz zb (by omega)
  generalize draw ra.2 sz = rb at db qb
  have dc := draw_lt rb.2 9 (by omega)
  have qc := draw_run rb.2 9 (by omega) (by omega)
  generalize draw rb.2 9 = rc at dc qc
  have dd := draw_lt rc.2 4 (by omega)
  have qd := draw_run rc.2 4 (by omega) (by omega)
  generalize draw rc.2 4 = rd at dd qd
  obtain ⟨hg, ya, yb, yc⟩ := pickh rd.1 dd.1 dd.2
  have de := draw_lt rd.2 3 (by omega)
  have qe := draw_run rd.2 3 (by omega) (by omega)
  generalize draw rd.2 3 = re at de qe
  obtain ⟨many, hmany⟩ : ∃ n : Nat, (2 + rb.1 : Int) = n := ⟨(2 + rb.1).toNat, by omega⟩
  obtain ⟨⟨s2, L⟩, el, hl, hL⟩ := forGo_nth (step := forStep g__law_points 0 [7] true b1__law_points) enat (fun q : (Int × Int) × List Pt => qS q.1 most (2 + rb.1) (1 + rc.1) hg re.1 q.2) (fun j q => q.2.length = j ∧ ∀ p ∈ q.2, 0 ≤ p.1 ∧ p.1 ≤ 200 ∧ 0 ≤ p.2 ∧ p.2 ≤ 200) (xs := List.range many) (k := 0) (b := (re.2, [])) (fun j x hx q hq => by
    have hj := (List.getElem?_eq_some_iff.mp hx).1
    rw [List.length_range] at hj
    rw [List.getElem?_range hj] at hx
    cases hx
    rw [Nat.zero_add] at hq ⊢
    obtain ⟨s', p, e, hp⟩ := q_step q.1 most (2 + rb.1) (wd := 1 + rc.1) (hg := hg) (on := re.1) j q.2 (by omega) (by omega) (by omega) yb yc de.1 (by omega) (by omega)
    refine ⟨(s', q.2 ++ [p]), e, by simp -implicitDefEqProofs [hq.1], fun t ht => ?_⟩
    rcases List.mem_append.mp ht with ht | ht
    · exact hq.2 t ht
    · rw [List.mem_singleton.mp ht]
      exact hp) ⟨rfl, fun p hp => absurd hp List.not_mem_nil⟩
  rw [List.length_range, Nat.zero_add] at hl
  simp only at hl hL el
  have lp : ex g__law_points 0 l1__law_points (qS re.2 most (2 + rb.1) (1 + rc.1) hg re.1 []) = .ok (.next (qS s2 most (2 + rb.1) (1 + rc.1) hg re.1 L)) := by
    refine ex_for (rngN (n := many) ?_ (by omega)) el
    rw [← hmany]
    unfold qS
    generalize ([] : List Pt).map encP = EE
    simp -implicitDefEqProofs [Fn.of, ↓R.bind_def, R.b_ok, R.b_exc, R.b_stuck, ex, ev, evs, evI, entry, dats, dat, slotD, primD, resV, imm, immL, noSlot, boolOf, sto, stos, put1_eq, putL, bindTg, bindU, nl_un, nl_fz, nl_ow, nl_lk, slotOf, vD, vFull, endOf, outV, ioData, setIo, slotsOf, slotIn, callD, callS, callO, mutL, mAppend, mSetAt, mPop, mClear, pGe, pGt, pLe, pLt, pPow, powOk, pMod, pFdiv, divOk, pAdd, pSub, pMul, mulOk, pNeg, pAbs, pMin2, pMax2, pIsa, tyName, R.of, R.calm, seqOf, lock, unlock, wipeC, wipeS, unlocked, range0]
  have df := draw_lt s2 4 (by omega)
  have qf := draw_run s2 4 (by omega) (by omega)
  generalize draw s2 4 = rf at df qf
  obtain ⟨by_, xa, xb, xc⟩ := pickb rf.1 df.1 df.2
  have dg := draw_lt rf.2 4 (by omega)
  have qg := draw_run rf.2 4 (by omega) (by omega)
  generalize draw rf.2 4 = rg at dg qg
  obtain ⟨far, wa, wb, wc⟩ := pickf rg.1 dg.1 dg.2
  have bnd : ∀ p ∈ L, 0 ≤ p.1 * by_ ∧ p.1 * by_ ≤ 200000000000 ∧ 0 ≤ p.2 * by_ ∧ p.2 * by_ ≤ 200000000000 := fun p hp => by
    obtain ⟨h1, h2, h3, h4⟩ := hL p hp
    have a1 := mul_bd (a := p.1) (b := by_) (A := 200) (B := 1000000000) (by omega) h2 (by omega) xc
    have a2 := mul_bd (a := p.2) (b := by_) (A := 200) (B := 1000000000) (by omega) h4 (by omega) xc
    have a3 : 0 ≤ p.1 * by_ := Int.mul_nonneg h1 (by omega)
    have a4 : 0 ≤ p.2 * by_ := Int.mul_nonneg h3 (by omega)
    omega
  refine ⟨by_, L.map (farP by_ far), rg.2, ?_, fun p hp => ?_, by rw [List.length_map]; omega, by rw [List.length_map]; omega, xb, xc⟩
  · have cm : ev g__law_points c1__law_points [.ow true (fd rg.2), .fz (.int most), .fz (.int (2 + rb.1)), .fz (.int (1 + rc.1)), .fz (.int hg), .fz (.int re.1), .ow true (.lst (L.map encP)), .un, .fz (.int by_), .fz (.int far), .un, .un] = .ok (.own true (.lst ((L.map (farP by_ far)).map encP)), [.ow true (fd rg.2), .fz (.int most), .fz (.int (2 + rb.1)), .fz (.int (1 + rc.1)), .fz (.int hg), .fz (.int re.1), .ow true (.lst (L.map encP)), .un, .fz (.int by_), .fz (.int far), .un, .un]) := by
      have fe : ∀ p : Pt, encP p = .tup [.int p.1, .int p.2] := fun _ => rfl
      have := ev_comp_lkfm (Γ := g__law_points) (tg := [10, 11]) (one := false) (it := .iSeq (.var 6)) (cond := .yes) (elt := (.tupO (.cons (.prim .add (.cons (.prim .mul (.cons (.var 10) (.cons (.var 8) .nil))) (.cons (.var 9) .nil))) (.cons (.prim .sub (.cons (.prim .mul (.cons (.var 11) (.cons (.var 8) .nil))) (.cons (.var 9) .nil))) .nil)))) (i := 6) (τ := [.ow true (fd rg.2), .fz (.int most), .fz (.int (2 + rb.1)), .fz (.int (1 + rc.1)), .fz (.int hg), .fz (.int re.1), .ow true (.lst (L.map encP)), .un, .fz (.int by_), .fz (.int far), .un, .un]) (τ1 := [.ow true (fd rg.2), .fz (.int most), .fz (.int (2 + rb.1)), .fz (.int (1 + rc.1)), .fz (.int hg), .fz (.int re.1), .ow true (.lst (L.map encP)), .un, .fz (.int by_), .fz (.int far), .un, .un]) (τ0 := [.ow true (fd rg.2), .fz (.int most), .fz (.int (2 + rb.1)), .fz (.int (1 + rc.1)), .fz (.int hg), .fz (.int re.1), .ow true (.lst (L.map encP)), .un, .fz (.int by_), .fz (.int far), .un, .un]) (τL := [.ow true (fd rg.2), .fz (.int most), .fz (.int (2 + rb.1)), .fz (.int (1 + rc.1)), .fz (.int hg), .fz (.int re.1), .lk true (.lst (L.map encP)), .un, .fz (.int by_), .fz (.int far), .un, .un]) (τ3 := [.ow true (fd rg.2), .fz (.int most), .fz (.int (2 + rb.1)), .fz (.int (1 + rc.1)), .fz (.int hg), .fz (.int re.1), .ow true (.lst (L.map encP)), .un, .fz (.int by_), .fz (.int far), .un, .un]) encP (xs := L) (fun p => some (Val.own true (encP (farP by_ far p)))) (by
        have im : immL (L.map encP) = true := immL_map imm_encP _
        generalize L.map encP = LL at *
        simp -implicitDefEqProofs [Fn.of, ↓R.bind_def, R.b_ok, R.b_exc, R.b_stuck, ex, ev, evs, evI, entry, dats, dat, slotD, primD, resV, imm, noSlot, boolOf, sto, stos, put1_eq, putL, bindTg, bindU, nl_un, nl_fz, nl_ow, nl_lk, slotOf, vD, vFull, endOf, outV, ioData, setIo, slotsOf, slotIn, callD, callS, callO, mutL, mAppend, mSetAt, mPop, mClear, pGe, pGt, pLe, pLt, pPow, powOk, pMod, pFdiv, divOk, pAdd, pSub, pMul, mulOk, pNeg, pAbs, pMin2, pMax2, pIsa, tyName, R.of, R.calm, seqOf, lock, unlock, wipeC, wipeS, unlocked, range0, im]) rfl rfl rfl (fun p hp => by
        have m1 : pMul [.int p.1, .int by_] = some (.old (.int (p.1 * by_))) := pMul_b (by omega) (by omega)
        have m2 : pMul [.int p.2, .int by_] = some (.old (.int (p.2 * by_))) := pMul_b (by omega) (by omega)
        have z2 : 2 ≤ sizeLine := szN 2 (by omega)
        rw [fe, fe]
        unfold farP
        simp only
        generalize L.map encP = LL at *
        simp -implicitDefEqProofs [compStep, Fn.of, ↓R.bind_def, R.b_ok, R.b_exc, R.b_stuck, ex, ev, evs, evI, entry, dats, dat, slotD, primD, resV, imm, immL, noSlot, boolOf, sto, stos, put1_eq, putL, bindTg, bindU, nl_un, nl_fz, nl_ow, nl_lk, slotOf, vD, vFull, endOf, outV, ioData, setIo, slotsOf, slotIn, callD, callS, callO, mutL, mAppend, mSetAt, mPop, mClear, pGe, pGt, pLe, pLt, pPow, powOk, pMod, pFdiv, divOk, pAdd, pSub, pNeg, pAbs, pMin2, pMax2, pIsa, tyName, R.of, R.calm, seqOf, lock, unlock, wipeC, wipeS, unlocked, range0, m1, m2, z2]) (fun p _ v hv => by
        cases hv
        rfl) (by omega)
      have er : ((L.filterMap fun p => some (Val.own true (encP (farP by_ far p)))).map vD) = (L.map (farP by_ far)).map encP := by
        rw [List.filterMap_eq_map', List.map_map, List.map_map]
        rfl
      rw [er] at this
      exact this
    have if1 : ∀ s, imm (fd s) = false := fun _ => rfl
    have im : immL ((L.map (farP by_ far)).map encP) = true := immL_map imm_encP _
    refine run1_ret rfl (v := .own true (.tup [.int by_, .lst ((L.map (farP by_ far)).map encP)])) (e := fd rg.2) (τ' := [.ow true (fd rg.2), .fz (.int most), .fz (.int (2 + rb.1)), .fz (.int (1 + rc.1)), .fz (.int hg), .fz (.int re.1), .ow true (.lst (L.map encP)), .un, .fz (.int by_), .fz (.int far), .un, .un]) ?_ rfl rfl
    show ex g__law_points 0 m__law_points [.ow true (fd s), .fz (.int most), .un, .un, .un, .un, .un, .un, .un, .un, .un, .un] = _
    unfold qS at lp
    rw [List.map_nil] at lp
    generalize (L.map (farP by_ far)).map encP = L2 at *
    generalize L.map encP = LL at *
    have z2 : 2 ≤ sizeLine := szN 2 (by omega)
    unfold m__law_points
    refine (ex_seq_next (by simp -implicitDefEqProofs [Fn.of, ↓R.bind_def, R.b_ok, R.b_exc, R.b_stuck, ex, ev, evs, evI, entry, dats, dat, slotD, primD, resV, imm, immL, noSlot, boolOf, sto, stos, put1_eq, putL, bindTg, bindU, nl_un, nl_fz, nl_ow, nl_lk, slotOf, vD, vFull, endOf, outV, ioData, setIo, slotsOf, slotIn, callD, callS, callO, mutL, mAppend, mSetAt, mPop, mClear, pGe, pGt, pLe, pLt, pPow, powOk, pMod, pFdiv, divOk, pAdd, pSub, pMul, mulOk, pNeg, pAbs, pMin2, pMax2, pIsa, tyName, R.of, R.calm, seqOf, lock, unlock, wipeC, wipeS, unlocked, range0, g__law_points, qa, za, qb, if1, szN]; rfl)).trans ?_
    refine (ex_seq_next (by simp -implicitDefEqProofs [Fn.of, ↓R.bind_def, R.b_ok, R.b_exc, R.b_stuck, ex, ev, evs, evI, entry, dats, dat, slotD, primD, resV, imm, immL, noSlot, boolOf, sto, stos, put1_eq, putL, bindTg, bindU, nl_un, nl_fz, nl_ow, nl_lk, slotOf, vD, vFull, endOf, outV, ioData, setIo, slotsOf, slotIn, callD, callS, callO, mutL, mAppend, mSetAt, mPop, mClear, pGe, pGt, pLe, pLt, pPow, powOk, pMod, pFdiv, divOk, pAdd, pSub, pMul, mulOk, pNeg, pAbs, pMin2, pMax2, pIsa, tyName, R.of, R.calm, seqOf, lock, unlock, wipeC, wipeS, unlocked, range0]; rfl)).trans ?_
    refine (ex_seq_next (by simp -implicitDefEqProofs [Fn.of, ↓R.bind_def, R.b_ok, R.b_exc, R.b_stuck, ex, ev, evs, evI, entry, dats, dat, slotD, primD, resV, imm, immL, noSlot, boolOf, sto, stos, put1_eq, putL, bindTg, bindU, nl_un, nl_fz, nl_ow, nl_lk, slotOf, vD, vFull, endOf, outV, ioData, setIo, slotsOf, slotIn, callD, callS, callO, mutL, mAppend, mSetAt, mPop, mClear, pGe, pGt, pLe, pLt, pPow, powOk, pMod, pFdiv, divOk, pAdd, pSub, pMul, mulOk, pNeg, pAbs, pMin2, pMax2, pIsa, tyName, R.of, R.calm, seqOf, lock, unlock, wipeC, wipeS, unlocked, range0, g__law_points, qc, if1]; rfl)).trans ?_
    refine (ex_seq_next (by simp -implicitDefEqProofs [Fn.of, ↓R.bind_def, R.b_ok, R.b_exc, R.b_stuck, ex, ev, evs, evI, entry, dats, dat, slotD, primD, resV, imm, immL, noSlot, boolOf, sto, stos, put1_eq, putL, bindTg, bindU, nl_un, nl_fz, nl_ow, nl_lk, slotOf, vD, vFull, endOf, outV, ioData, setIo, slotsOf, slotIn, callD, callS, callO, mutL, mAppend, mSetAt, mPop, mClear, pGe, pGt, pLe, pLt, pPow, powOk, pMod, pFdiv, divOk, pAdd, pSub, pMul, mulOk, pNeg, pAbs, pMin2, pMax2, pIsa, tyName, R.of, R.calm, seqOf, lock, unlock, wipeC, wipeS, unlocked, range0]; rfl)).trans ?_
    refine (ex_seq_next (by simp -implicitDefEqProofs [Fn.of, ↓R.bind_def, R.b_ok, R.b_exc, R.b_stuck, ex, ev, evs, evI, entry, dats, dat, slotD, primD, resV, imm, immL, noSlot, boolOf, sto, stos, put1_eq, putL, bindTg, bindU, nl_un, nl_fz, nl_ow, nl_lk, slotOf, vD, vFull, endOf, outV, ioData, setIo, slotsOf, slotIn, callD, callS, callO, mutL, mAppend, mSetAt, mPop, mClear, pGe, pGt, pLe, pLt, pPow, powOk, pMod, pFdiv, divOk, pAdd, pSub, pMul, mulOk, pNeg, pAbs, pMin2, pMax2, pIsa, tyName, R.of, R.calm, seqOf, lock, unlock, wipeC, wipeS, unlocked, range0, g__law_points, qd, ya, if1, szN]; rfl)).trans ?_
    refine (ex_seq_next (by simp -implicitDefEqProofs [Fn.of, ↓R.bind_def, R.b_ok, R.b_exc, R.b_stuck, ex, ev, evs, evI, entry, dats, dat, slotD, primD, resV, imm, immL, noSlot, boolOf, sto, stos, put1_eq, putL, bindTg, bindU, nl_un, nl_fz, nl_ow, nl_lk, slotOf, vD, vFull, endOf, outV, ioData, setIo, slotsOf, slotIn, callD, callS, callO, mutL, mAppend, mSetAt, mPop, mClear, pGe, pGt, pLe, pLt, pPow, powOk, pMod, pFdiv, divOk, pAdd, pSub, pMul, mulOk, pNeg, pAbs, pMin2, pMax2, pIsa, tyName, R.of, R.calm, seqOf, lock, unlock, wipeC, wipeS, unlocked, range0]; rfl)).trans ?_
    refine (ex_seq_next (by simp -implicitDefEqProofs [Fn.of, ↓R.bind_def, R.b_ok, R.b_exc, R.b_stuck, ex, ev, evs, evI, entry, dats, dat, slotD, primD, resV, imm, immL, noSlot, boolOf, sto, stos, put1_eq, putL, bindTg, bindU, nl_un, nl_fz, nl_ow, nl_lk, slotOf, vD, vFull, endOf, outV, ioData, setIo, slotsOf, slotIn, callD, callS, callO, mutL, mAppend, mSetAt, mPop, mClear, pGe, pGt, pLe, pLt, pPow, powOk, pMod, pFdiv, divOk, pAdd, pSub, pMul, mulOk, pNeg, pAbs, pMin2, pMax2, pIsa, tyName, R.of, R.calm, seqOf, lock, unlock, wipeC, wipeS, unlocked, range0, g__law_points, qe, if1]; rfl)).trans ?_
    refine (ex_seq_next (by simp -implicitDefEqProofs [Fn.of, ↓R.bind_def, R.b_ok, R.b_exc, R.b_stuck, ex, ev, evs, evI, entry, dats, dat, slotD, primD, resV, imm, immL, noSlot, boolOf, sto, stos, put1_eq, putL, bindTg, bindU, nl_un, nl_fz, nl_ow, nl_lk, slotOf, vD, vFull, endOf, outV, ioData, setIo, slotsOf, slotIn, callD, callS, callO, mutL, mAppend, mSetAt, mPop, mClear, pGe, pGt, pLe, pLt, pPow, powOk, pMod, pFdiv, divOk, pAdd, pSub, pMul, mulOk, pNeg, pAbs, pMin2, pMax2, pIsa, tyName, R.of, R.calm, seqOf, lock, unlock, wipeC, wipeS, unlocked, range0]; rfl)).trans ?_
    refine (ex_seq_next (by simp -implicitDefEqProofs [Fn.of, ↓R.bind_def, R.b_ok, R.b_exc, R.b_stuck, ex, ev, evs, evI, entry, dats, dat, slotD, primD, resV, imm, immL, noSlot, boolOf, sto, stos, put1_eq, putL, bindTg, bindU, nl_un, nl_fz, nl_ow, nl_lk, slotOf, vD, vFull, endOf, outV, ioData, setIo, slotsOf, slotIn, callD, callS, callO, mutL, mAppend, mSetAt, mPop, mClear, pGe, pGt, pLe, pLt, pPow, powOk, pMod, pFdiv, divOk, pAdd, pSub, pMul, mulOk, pNeg, pAbs, pMin2, pMax2, pIsa, tyName, R.of, R.calm, seqOf, lock, unlock, wipeC, wipeS, unlocked, range0, szN]; rfl)).trans ?_
    refine (ex_seq_next lp).trans ?_
    refine (ex_seq_next (by simp -implicitDefEqProofs [Fn.of, ↓R.bind_def, R.b_ok, R.b_exc, R.b_stuck, ex, ev, evs, evI, entry, dats, dat, slotD, primD, resV, imm, immL, noSlot, boolOf, sto, stos, put1_eq, putL, bindTg, bindU, nl_un, nl_fz, nl_ow, nl_lk, slotOf, vD, vFull, endOf, outV, ioData, setIo, slotsOf, slotIn, callD, callS, callO, mutL, mAppend, mSetAt, mPop, mClear, pGe, pGt, pLe, pLt, pPow, powOk, pMod, pFdiv, divOk, pAdd, pSub, pMul, mulOk, pNeg, pAbs, pMin2, pMax2, pIsa, tyName, R.of, R.calm, seqOf, lock, unlock, wipeC, wipeS, unlocked, range0, g__law_points, qf, xa, if1, szN]; rfl)).trans ?_
    refine (ex_seq_next (by simp -implicitDefEqProofs [Fn.of, ↓R.bind_def, R.b_ok, R.b_exc, R.b_stuck, ex, ev, evs, evI, entry, dats, dat, slotD, primD, resV, imm, immL, noSlot, boolOf, sto, stos, put1_eq, putL, bindTg, bindU, nl_un, nl_fz, nl_ow, nl_lk, slotOf, vD, vFull, endOf, outV, ioData, setIo, slotsOf, slotIn, callD, callS, callO, mutL, mAppend, mSetAt, mPop, mClear, pGe, pGt, pLe, pLt, pPow, powOk, pMod, pFdiv, divOk, pAdd, pSub, pMul, mulOk, pNeg, pAbs, pMin2, pMax2, pIsa, tyName, R.of, R.calm, seqOf, lock, unlock, wipeC, wipeS, unlocked, range0, g__law_points, qg, wa, if1, szN]; rfl)).trans ?_
    refine (ex_seq_next (by simp -implicitDefEqProofs [Fn.of, ↓R.bind_def, R.b_ok, R.b_exc, R.b_stuck, ex, ev, evs, evI, entry, dats, dat, slotD, primD, resV, imm, immL, noSlot, boolOf, sto, stos, put1_eq, putL, bindTg, bindU, nl_un, nl_fz, nl_ow, nl_lk, slotOf, vD, vFull, endOf, outV, ioData, setIo, slotsOf, slotIn, callD, callS, callO, mutL, mAppend, mSetAt, mPop, mClear, pGe, pGt, pLe, pLt, pPow, powOk, pMod, pFdiv, divOk, pAdd, pSub, pMul, mulOk, pNeg, pAbs, pMin2, pMax2, pIsa, tyName, R.of, R.calm, seqOf, lock, unlock, wipeC, wipeS, unlocked, range0]; rfl)).trans ?_
    refine ex_seq_ret ?_
    have cmg := cm
    unfold g__law_points at cmg
    simp -implicitDefEqProofs [g__law_points, Fn.of, ↓R.bind_def, R.b_ok, R.b_exc, R.b_stuck, ex, ev, evs, evI, entry, dats, dat, slotD, primD, resV, imm, immL, noSlot, boolOf, sto, stos, put1_eq, putL, bindTg, bindU, nl_un, nl_fz, nl_ow, nl_lk, slotOf, vD, vFull, endOf, outV, ioData, setIo, slotsOf, slotIn, callD, callS, callO, mutL, mAppend, mSetAt, mPop, mClear, pGe, pGt, pLe, pLt, pPow, powOk, pMod, pFdiv, divOk, pAdd, pSub, pMul, mulOk, pNeg, pAbs, pMin2, pMax2, pIsa, tyName, R.of, R.calm, seqOf, lock, unlock, wipeC, wipeS, unlocked, range0, cmg, z2, im]
  · obtain ⟨q, hq, rfl⟩ := List.mem_map.mp hp
    have := bnd q hq
    unfold Sm Bd farP
    simp only
    omega
theorem picky (i by_ m T : Int) (h0 : 0 ≤ i) (h1 : i < 4) (y1 : 1 ≤ by_) (y2 : by_ ≤ 1000000000) (m1 : 0 ≤ m) (m2 : m ≤ 10000000000) (t0 : 0 ≤ T) (t1 : Bd 200 T) : ∃ b, pIx [.lst [.int 0, .int by_, .int m, .int T], .int i] = some (.old (.int b)) ∧ 0 ≤ b ∧ Bd 200 b := by
  have sm : ∀ v : Int, 0 ≤ v → v ≤ 10000000000 → Bd 200 v := fun v h1 h2 => by
    have : Bd 40 v := by
      unfold Bd
      omega
    exact this.mono (by omega)
  have : i = 0 ∨ i = 1 ∨ i = 2 ∨ i = 3 := by omega
  rcases this with rfl | rfl | rfl | rfl
  · exact ⟨0, rfl, by omega, sm 0 (by omega) (by omega)⟩
  · exact ⟨by_, rfl, by omega, sm by_ (by omega) (by omega)⟩
  · exact ⟨m, rfl, by omega, sm m (by omega) (by omega)⟩
  · exact ⟨T, rfl, t0, t1⟩
theorem turn (ns : List Int) (k : Nat) : ex g_law 0 b1_law (.fz (.scr ns) :: .fz (.int k) :: List.replicate 7 .un) = .ok (.next (base ns 8)) := by
  obtain ⟨s, e1⟩ := feed_run ns k (by omega)
  have pk := pEq_int (k : Int) 0
  obtain ⟨most, e2, e3, e4⟩ : ∃ most, (∃ i, pIntOf [.bl (decide ((k : Int) = 0))] = some (.old (.int i)) ∧ pIx [.lst [.int 14, .int 39], .int i] = some (.old (.int most))) ∧ 0 < most ∧ most ≤ 39 := by
    by_cases c : (k : Int) = 0
    · rw [decide_eq_true c]
      exact ⟨39, ⟨1, rfl, rfl⟩, by omega, by omega⟩
    · rw [decide_eq_false c]
      exact ⟨14, ⟨0, rfl, rfl⟩, by omega, by omega⟩
  obtain ⟨ii, e2, e2b⟩ := e2
  generalize decide ((k : Int) = 0) = bq at pk e2
  obtain ⟨by_, P, s1, e5, hP, h0, h45, y1, y2⟩ := points_run s most e3 e4
  have da := draw_lt s1 4 (by omega)
  have qa := draw_run s1 4 (by omega) (by omega)
  generalize draw s1 4 = ra at da qa
  have db := draw_lt ra.2 4 (by omega)
  have qb := draw_run ra.2 4 (by omega) (by omega)
  generalize draw ra.2 4 = rb at db qb
  have ml : pMul [.int by_, .int (1 + ra.1)] = some (.old (.int (by_ * (1 + ra.1)))) := pMul_b (by omega) (by omega)
  have mb := mul_bd (a := by_) (b := 1 + ra.1) (A := 1000000000) (B := 4) (by omega) y2 (by omega) (by omega)
  have m0 : 0 ≤ by_ * (1 + ra.1) := Int.mul_nonneg (by omega) (by omega)
  obtain ⟨T, eT, t0, t1⟩ : ∃ T : Int, pPow [.int 10, .int 60] = some (.old (.int T)) ∧ 0 ≤ T ∧ Bd 200 T := ⟨10 ^ 60, by simp -implicitDefEqProofs [pPow, powOk], by decide +kernel, by
    unfold Bd
    decide +kernel⟩
  obtain ⟨b, eb, b0, b1⟩ := picky rb.1 by_ (by_ * (1 + ra.1)) T db.1 db.2 y1 y2 m0 (by omega) t0 t1
  obtain ⟨r, er, fw⟩ := least_run hP b0 b1 (by omega) h0
  have rr := right_run hP b0 b1 h45 h0 fw
  have fd0 : (D.tup [.int (r.length : Nat), .lst (r.map enat)]) = foundD r := rfl
  rw [fd0] at er
  have np : pNe [.lst (P.map encP), .lst (P.map encP)] = some (.old (.bl false)) := by
    have q := (enc_lst enc_pt).pNe (by omega) P P
    rw [decide_eq_true rfl] at q
    exact q
  have nf : pNe [foundD r, foundD r] = some (.old (.bl false)) := by
    have q := (enc_tup2 enc_int (enc_lst enc_nat)).pNe (by omega) ((r.length : Int), r) ((r.length : Int), r)
    rw [decide_eq_true rfl] at q
    exact q
  have x0 : pIx [foundD r, .int 0] = some (.old (.int (r.length : Nat))) := rfl
  have x1 : pIx [foundD r, .int 1] = some (.old (.lst (r.map enat))) := rfl
  have pl : ∀ L : List D, pList [.lst L] = some (.nu L) := fun _ => rfl
  have imf : imm (foundD r) = false := rfl
  have iml : ∀ L : List D, imm (.lst L) = false := fun _ => rfl
  have imp : immL (P.map encP) = true := immL_map imm_encP _
  have imr : immL (r.map enat) = true := immL_map (fun _ => rfl) _
  have if1 : ∀ s, imm (fd s) = false := fun _ => rfl
  have rl : r.length ≤ 45 := by
    have := rise_len (m := 0) (n := P.length) (chain_rise fw.ch) fun k hk => ⟨Nat.zero_le _, by
      have := chain_lt fw.ch fw.ls k hk
      omega⟩
    omega
  have zl : (r.map enat).length < sizeLine := by
    have := szN (r.length + 1) (by omega)
    rw [List.length_map]
    omega
  have z2 : 2 ≤ sizeLine := szN 2 (by omega)
  unfold b1_law
  show ex g_law 0 _ [.fz (.scr ns), .fz (.int k), .un, .un, .un, .un, .un, .un, .un] = _
  have fdr : foundD r = .tup [.int (r.length : Nat), .lst (r.map enat)] := rfl
  generalize P.map encP = PP at *
  generalize (r.map enat) = RR at *
  refine (ex_seq_next (by simp -implicitDefEqProofs [Fn.of, ↓R.bind_def, R.b_ok, R.b_exc, R.b_stuck, ex, ev, evs, evI, entry, dats, dat, slotD, primD, resV, imm, immL, noSlot, boolOf, sto, stos, put1_eq, putL, bindTg, bindU, nl_un, nl_fz, nl_ow, nl_lk, slotOf, vD, vFull, endOf, outV, ioData, setIo, slotsOf, slotIn, callD, callS, callO, mutL, mAppend, mSetAt, mPop, mClear, pGe, pGt, pLe, pLt, pPow, powOk, pMod, pFdiv, divOk, pAdd, pSub, pMul, mulOk, pNeg, pAbs, pMin2, pMax2, pIsa, tyName, R.of, R.calm, seqOf, lock, unlock, wipeC, wipeS, unlocked, range0, g_law, e1, imm_fd]; rfl)).trans ?_
  refine (ex_seq_next (τ' := [.fz (.scr ns), .fz (.int k), .ow true (fd s1), .un, .un, .un, .un, .fz (.int by_), .fz (.lst PP)]) (by simp -implicitDefEqProofs [Fn.of, ↓R.bind_def, R.b_ok, R.b_exc, R.b_stuck, ex, ev, evs, evI, entry, dats, dat, slotD, primD, resV, imm, immL, noSlot, boolOf, sto, stos, put1_eq, putL, bindTg, bindU, nl_un, nl_fz, nl_ow, nl_lk, slotOf, vD, vFull, endOf, outV, ioData, setIo, slotsOf, slotIn, callD, callS, callO, mutL, mAppend, mSetAt, mPop, mClear, pGe, pGt, pLe, pLt, pPow, powOk, pMod, pFdiv, divOk, pAdd, pSub, pMul, mulOk, pNeg, pAbs, pMin2, pMax2, pIsa, tyName, R.of, R.calm, seqOf, lock, unlock, wipeC, wipeS, unlocked, range0, g_law, primD, pk, e2, e2b, e5, if1, imp, iml, szN])).trans ?_
  refine (ex_seq_next (τ' := [.fz (.scr ns), .fz (.int k), .ow true (fd rb.2), .fz (.int b), .un, .un, .un, .fz (.int by_), .fz (.lst PP)]) (by simp -implicitDefEqProofs [Fn.of, ↓R.bind_def, R.b_ok, R.b_exc, R.b_stuck, ex, ev, evs, evI, entry, dats, dat, slotD, primD, resV, imm, immL, noSlot, boolOf, sto, stos, put1_eq, putL, bindTg, bindU, nl_un, nl_fz, nl_ow, nl_lk, slotOf, vD, vFull, endOf, outV, ioData, setIo, slotsOf, slotIn, callD, callS, callO, mutL, mAppend, mSetAt, mPop, mClear, pGe, pGt, pLe, pLt, pMod, pFdiv, divOk, pAdd, pSub, pNeg, pAbs, pMin2, pMax2, pIsa, tyName, R.of, R.calm, seqOf, lock, unlock, wipeC, wipeS, unlocked, range0, g_law, primD, qa, qb, ml, eT, eb, if1, szN])).trans ?_
  refine (ex_seq_next (by simp -implicitDefEqProofs [Fn.of, ↓R.bind_def, R.b_ok, R.b_exc, R.b_stuck, ex, ev, evs, evI, entry, dats, dat, slotD, primD, resV, imm, immL, noSlot, boolOf, sto, stos, put1_eq, putL, bindTg, bindU, nl_un, nl_fz, nl_ow, nl_lk, slotOf, vD, vFull, endOf, outV, ioData, setIo, slotsOf, slotIn, callD, callS, callO, mutL, mAppend, mSetAt, mPop, mClear, pGe, pGt, pLe, pLt, pPow, powOk, pMod, pFdiv, divOk, pAdd, pSub, pMul, mulOk, pNeg, pAbs, pMin2, pMax2, pIsa, tyName, R.of, R.calm, seqOf, lock, unlock, wipeC, wipeS, unlocked, range0]; rfl)).trans ?_
  refine (ex_seq_next (τ' := [.fz (.scr ns), .fz (.int k), .ow true (fd rb.2), .fz (.int b), .ow true (.lst PP), .un, .un, .fz (.int by_), .fz (.lst PP)]) (by simp -implicitDefEqProofs [Fn.of, ↓R.bind_def, R.b_ok, R.b_exc, R.b_stuck, ex, ev, evs, evI, entry, dats, dat, slotD, primD, resV, imm, immL, noSlot, boolOf, sto, stos, put1_eq, putL, bindTg, bindU, nl_un, nl_fz, nl_ow, nl_lk, slotOf, vD, vFull, endOf, outV, ioData, setIo, slotsOf, slotIn, callD, callS, callO, mutL, mAppend, mSetAt, mPop, mClear, pGe, pGt, pLe, pLt, pPow, powOk, pMod, pFdiv, divOk, pAdd, pSub, pMul, mulOk, pNeg, pAbs, pMin2, pMax2, pIsa, tyName, R.of, R.calm, seqOf, lock, unlock, wipeC, wipeS, unlocked, range0, primD, pl, imp])).trans ?_
  refine (ex_seq_next (by simp -implicitDefEqProofs [Fn.of, ↓R.bind_def, R.b_ok, R.b_exc, R.b_stuck, ex, ev, evs, evI, entry, dats, dat, slotD, primD, resV, imm, immL, noSlot, boolOf, sto, stos, put1_eq, putL, bindTg, bindU, nl_un, nl_fz, nl_ow, nl_lk, slotOf, vD, vFull, endOf, outV, ioData, setIo, slotsOf, slotIn, callD, callS, callO, mutL, mAppend, mSetAt, mPop, mClear, pGe, pGt, pLe, pLt, pPow, powOk, pMod, pFdiv, divOk, pAdd, pSub, pMul, mulOk, pNeg, pAbs, pMin2, pMax2, pIsa, tyName, R.of, R.calm, seqOf, lock, unlock, wipeC, wipeS, unlocked, range0]; rfl)).trans ?_
  refine (ex_seq_next (τ' := [.fz (.scr ns), .fz (.int k), .ow true (fd rb.2), .fz (.int b), .fz (.lst PP), .ow true (foundD r), .un, .fz (.int by_), .fz (.lst PP)]) (by simp -implicitDefEqProofs [Fn.of, ↓R.bind_def, R.b_ok, R.b_exc, R.b_stuck, ex, ev, evs, evI, entry, dats, dat, slotD, primD, resV, imm, immL, noSlot, boolOf, sto, stos, put1_eq, putL, bindTg, bindU, nl_un, nl_fz, nl_ow, nl_lk, slotOf, vD, vFull, endOf, outV, ioData, setIo, slotsOf, slotIn, callD, callS, callO, mutL, mAppend, mSetAt, mPop, mClear, pGe, pGt, pLe, pLt, pPow, powOk, pMod, pFdiv, divOk, pAdd, pSub, pMul, mulOk, pNeg, pAbs, pMin2, pMax2, pIsa, tyName, R.of, R.calm, seqOf, lock, unlock, wipeC, wipeS, unlocked, range0, g_law, er, imf])).trans ?_
  refine (ex_seq_next (τ' := [.fz (.scr ns), .fz (.int k), .ow true (fd rb.2), .fz (.int b), .fz (.lst PP), .ow true (foundD r), .un, .fz (.int by_), .fz (.lst PP)]) (by simp -implicitDefEqProofs [i1_law, Fn.of, ↓R.bind_def, R.b_ok, R.b_exc, R.b_stuck, ex, ev, evs, evI, entry, dats, dat, slotD, primD, resV, imm, immL, noSlot, boolOf, sto, stos, put1_eq, putL, bindTg, bindU, nl_un, nl_fz, nl_ow, nl_lk, slotOf, vD, vFull, endOf, outV, ioData, setIo, slotsOf, slotIn, callD, callS, callO, mutL, mAppend, mSetAt, mPop, mClear, pGe, pGt, pLe, pLt, pPow, powOk, pMod, pFdiv, divOk, pAdd, pSub, pMul, mulOk, pNeg, pAbs, pMin2, pMax2, pIsa, tyName, R.of, R.calm, seqOf, lock, unlock, wipeC, wipeS, unlocked, range0, g_law, primD, rr, np])).trans ?_
  refine (ex_seq_next (τ' := [.fz (.scr ns), .fz (.int k), .ow true (fd rb.2), .fz (.int b), .fz (.lst PP), .ow true (foundD r), .fz (foundD r), .fz (.int by_), .fz (.lst PP)]) (by
    rw [fdr] at x0 x1 ⊢
    simp -implicitDefEqProofs [Fn.of, ↓R.bind_def, R.b_ok, R.b_exc, R.b_stuck, ex, ev, evs, evI, entry, dats, dat, slotD, primD, resV, imm, immL, noSlot, boolOf, sto, stos, put1_eq, putL, bindTg, bindU, nl_un, nl_fz, nl_ow, nl_lk, slotOf, vD, vFull, endOf, outV, ioData, setIo, slotsOf, slotIn, callD, callS, callO, mutL, mAppend, mSetAt, mPop, mClear, pGe, pGt, pLe, pLt, pPow, powOk, pMod, pFdiv, divOk, pAdd, pSub, pMul, mulOk, pNeg, pAbs, pMin2, pMax2, pIsa, tyName, R.of, R.calm, seqOf, lock, unlock, wipeC, wipeS, unlocked, range0, primD, pev, pevs, resD, x0, x1, pl, imr, z2])).trans ?_
  refine (ex_seq_next (τ' := [.fz (.scr ns), .fz (.int k), .ow true (fd rb.2), .fz (.int b), .fz (.lst PP), .un, .fz (foundD r), .fz (.int by_), .fz (.lst PP)]) (by
    rw [fdr]
    simp -implicitDefEqProofs [Fn.of, ↓R.bind_def, R.b_ok, R.b_exc, R.b_stuck, ex, ev, evs, evI, entry, dats, dat, slotD, primD, resV, imm, immL, noSlot, boolOf, sto, stos, put1_eq, putL, bindTg, bindU, nl_un, nl_fz, nl_ow, nl_lk, slotOf, vD, vFull, endOf, outV, ioData, setIo, slotsOf, slotIn, callD, callS, callO, mutL, mAppend, mSetAt, mPop, mClear, pGe, pGt, pLe, pLt, pPow, powOk, pMod, pFdiv, divOk, pAdd, pSub, pMul, mulOk, pNeg, pAbs, pMin2, pMax2, pIsa, tyName, R.of, R.calm, seqOf, lock, unlock, wipeC, wipeS, unlocked, range0, zl])).trans ?_
  refine (ex_seq_next (τ' := [.fz (.scr ns), .fz (.int k), .ow true (fd rb.2), .fz (.int b), .fz (.lst PP), .un, .fz (foundD r), .fz (.int by_), .fz (.lst PP)]) (by simp -implicitDefEqProofs [i2_law, Fn.of, ↓R.bind_def, R.b_ok, R.b_exc, R.b_stuck, ex, ev, evs, evI, entry, dats, dat, slotD, primD, resV, imm, immL, noSlot, boolOf, sto, stos, put1_eq, putL, bindTg, bindU, nl_un, nl_fz, nl_ow, nl_lk, slotOf, vD, vFull, endOf, outV, ioData, setIo, slotsOf, slotIn, callD, callS, callO, mutL, mAppend, mSetAt, mPop, mClear, pGe, pGt, pLe, pLt, pPow, powOk, pMod, pFdiv, divOk, pAdd, pSub, pMul, mulOk, pNeg, pAbs, pMin2, pMax2, pIsa, tyName, R.of, R.calm, seqOf, lock, unlock, wipeC, wipeS, unlocked, range0, g_law, primD, er, nf, imf])).trans ?_
  simp -implicitDefEqProofs [Fn.of, ↓R.bind_def, R.b_ok, R.b_exc, R.b_stuck, ex, ev, evs, evI, entry, dats, dat, slotD, primD, resV, imm, immL, noSlot, boolOf, sto, stos, put1_eq, putL, bindTg, bindU, nl_un, nl_fz, nl_ow, nl_lk, slotOf, vD, vFull, endOf, outV, ioData, setIo, slotsOf, slotIn, callD, callS, callO, mutL, mAppend, mSetAt, mPop, mClear, pGe, pGt, pLe, pLt, pPow, powOk, pMod, pFdiv, divOk, pAdd, pSub, pMul, mulOk, pNeg, pAbs, pMin2, pMax2, pIsa, tyName, R.of, R.calm, seqOf, lock, unlock, wipeC, wipeS, unlocked, range0, base, List.replicate]
theorem law_true (ns : List Int) (hl : ns.length ≤ 63) : f_law.run [.scr ns] = .ok (.bl true, []) :=
  law_end (m := 8) ns (loop_true (m := 7) ns hl (by omega) (by omega) (by omega) fun k _ => turn ns k)
end Lwk63
namespace Rg
open PySem L2
abbrev PX := Option (Addr × Value × Option Addr)
structure KP where
  K : PySem.W.Frag
  px : PX
instance : Coe KP PySem.W.Frag := ⟨KP.K⟩
mutual
def Rep (K : KP) (F H : Hp) : D → V → Prop
  | .non, v => v = .non
  | .bl b, v => v = .bl b
  | .int i, v => v = .int i
  | .str s, v => v = .str s
  | .tup ds, v => ∃ a vs, v = .ref a ∧ H a = some (.tup vs) ∧ RepL K F H ds vs
  | .lst ds, v => ∃ a vs, v = .ref a ∧ F a = some (.lst vs) ∧ RepL K F H ds vs
  | .dT ks ds, v => ∃ a vs, v = .ref a ∧ F a = some (.dT (ks.zip vs)) ∧ ks.length = vs.length ∧ RepL K F H ds vs
  | .dK ks ds, v => ∃ a vs, v = .ref a ∧ F a = some (.dK (ks.zip vs)) ∧ ks.length = vs.length ∧ RepL K F H ds vs
  | .scr ns, v => ∃ a, v = .ref a ∧ SqL K F a (ns.map V.int)
  | .exn c fn fd, v => ∃ a o vs, v = .ref a ∧ K.px = some (a, .ref (He.ga K.K (Str.ofString c)), o) ∧ RepL K F H fd vs ∧ ((fn = [] ∧ o = none) ∨ ∃ dx, o = some dx ∧ H dx = some (.xd (fn.zip vs)))
def RepL (K : KP) (F H : Hp) : List D → List V → Prop
  | [], vs => vs = []
  | d :: ds, vs => ∃ v r, vs = v :: r ∧ Rep K F H d v ∧ RepL K F H ds r
end
mutual
def Own (K : KP) (F H : Hp) (f : Bool) : D → V → List Addr → Prop
  | .lst ds, v, A => ∃ a vs B, v = .ref a ∧ H a = some (.lst vs) ∧ A = a :: B ∧ Kids K F H f ds vs B
  | .dT ks ds, v, A => ∃ a vs B, v = .ref a ∧ H a = some (.dT (ks.zip vs)) ∧ ks.length = vs.length ∧ A = a :: B ∧ Kids K F H f ds vs B
  | .dK ks ds, v, A => ∃ a vs B, v = .ref a ∧ H a = some (.dK (ks.zip vs)) ∧ ks.length = vs.length ∧ A = a :: B ∧ Kids K F H f ds vs B
  | .tup ds, v, A => ∃ a vs, v = .ref a ∧ H a = some (.tup vs) ∧ Kids K F H f ds vs A
  | _, _, _ => False
def Kids (K : KP) (F H : Hp) (f : Bool) : List D → List V → List Addr → Prop
  | [], vs, A => vs = [] ∧ A = []
  | d :: ds, vs, A => ∃ v r A1 A2, vs = v :: r ∧ A = A1 ++ A2 ∧ ((A1 = [] ∧ Rep K F H d v ∧ (f = true → imm d = true)) ∨ Own K F H f d v A1) ∧ Kids K F H f ds r A2
end
def Le (F H : Hp) : Prop := ∀ a o, F a = some o → H a = some o
def Tk (H H' : Hp) : Prop := (∀ a xs, H a = some (.tup xs) → H' a = some (.tup xs)) ∧ ∀ a fs, H a = some (.xd fs) → H' a = some (.xd fs)
theorem Le.refl (F : Hp) : Le F F := fun _ _ h => h
theorem Le.trans {F G H : Hp} (h : Le F G) (k : Le G H) : Le F H := fun a o e => k a o (h a o e)
theorem Tk.refl (H : Hp) : Tk H H := ⟨fun _ _ h => h, fun _ _ h => h⟩
theorem Tk.trans {F G H : Hp} (h : Tk F G) (k : Tk G H) : Tk F H := ⟨fun a o e => k.1 a o (h.1 a o e), fun a o e => k.2 a o (h.2 a o e)⟩
section
variable {K : KP} {F F' H H' : Hp}
theorem sql_le {a : Addr} {xs : List V} (h : Le F F') (s : SqL K F a xs) : SqL K F' a xs := by
  rcases s with (s | ⟨o, s⟩) | s
  · exact .inl (.inl (h _ _ s))
  · exact .inl (.inr ⟨o, h _ _ s⟩)
  · exact .inr s
mutual
theorem Rep.mono (h : Le F F') (k : Tk H H') : ∀ {d : D} {v : V}, Rep K F H d v → Rep K F' H' d v
  | .non, _, e => e
  | .bl _, _, e => e
  | .int _, _, e => e
  | .str _, _, e => e
  | .tup ds, _, e => by
    unfold Rep at e ⊢
    obtain ⟨a, vs, e1, e2, e3⟩ := e
    exact ⟨a, vs, e1, k.1 _ _ e2, RepL.mono h k e3⟩
  | .lst ds, _, e => by
    unfold Rep at e ⊢
    obtain ⟨a, vs, e1, e2, e3⟩ := e
    exact ⟨a, vs, e1, h _ _ e2, RepL.mono h k e3⟩
  | .dT ks ds, _, e => by
    unfold Rep at e ⊢
    obtain ⟨a, vs, e1, e2, e4, e3⟩ := e
    exact ⟨a, vs, e1, h _ _ e2, e4, RepL.mono h k e3⟩
  | .dK ks ds, _, e => by
    unfold Rep at e ⊢
    obtain ⟨a, vs, e1, e2, e4, e3⟩ := e
    exact ⟨a, vs, e1, h _ _ e2, e4, RepL.mono h k e3⟩
  | .scr ns, _, e => by
    unfold Rep at e ⊢
    obtain ⟨a, e1, e2⟩ := e
    exact ⟨a, e1, sql_le h e2⟩
  | .exn c fn fd, _, e => by
    unfold Rep at e ⊢
    obtain ⟨a, o, vs, e1, e2, e5, e6⟩ := e
    refine ⟨a, o, vs, e1, e2, RepL.mono h k e5, ?_⟩
    rcases e6 with e6 | ⟨dx, e7, e8⟩
    · exact .inl e6
    · exact .inr ⟨dx, e7, k.2 _ _ e8⟩
theorem RepL.mono (h : Le F F') (k : Tk H H') : ∀ {ds : List D} {vs : List V}, RepL K F H ds vs → RepL K F' H' ds vs
  | [], _, e => e
  | d :: ds, _, e => by
    unfold RepL at e ⊢
    obtain ⟨v, r, e1, e2, e3⟩ := e
    exact ⟨v, r, e1, Rep.mono h k e2, RepL.mono h k e3⟩
end
mutual
/-- what never changes stands in its tuples alone -/
theorem Rep.imm (k : Tk H H') : ∀ {d : D} {v : V}, imm d = true → Rep K F H d v → Rep K F' H' d v
  | .non, _, _, e => e
  | .bl _, _, _, e => e
  | .int _, _, _, e => e
  | .str _, _, _, e => e
  | .tup ds, _, i, e => by
    unfold Rep at e ⊢
    obtain ⟨a, vs, e1, e2, e3⟩ := e
    exact ⟨a, vs, e1, k.1 _ _ e2, RepL.imm k (by unfold Rg.imm at i; exact i) e3⟩
theorem RepL.imm (k : Tk H H') : ∀ {ds : List D} {vs : List V}, immL ds = true → RepL K F H ds vs → RepL K F' H' ds vs
  | [], _, _, e => e
  | d :: ds, _, i, e => by
    unfold RepL at e ⊢
    unfold immL at i
    obtain ⟨i1, i2⟩ := Bool.and_eq_true_iff.mp i
    obtain ⟨v, r, e1, e2, e3⟩ := e
    exact ⟨v, r, e1, Rep.imm k i1 e2, RepL.imm k i2 e3⟩
end
theorem RepL.len : ∀ {ds : List D} {vs : List V}, RepL K F H ds vs → ds.length = vs.length
  | [], _, e => by unfold RepL at e; subst e; rfl
  | d :: ds, _, e => by
    unfold RepL at e
    obtain ⟨v, r, rfl, _, e3⟩ := e
    simp [RepL.len e3]
theorem RepL.get : ∀ {ds : List D} {vs : List V} {j : Nat} {d : D}, RepL K F H ds vs → ds[j]? = some d → ∃ v, vs[j]? = some v ∧ Rep K F H d v
  | [], _, _, _, _, e => by simp at e
  | c :: ds, _, 0, d, h, e => by
    unfold RepL at h
    obtain ⟨v, r, rfl, h2, _⟩ := h
    simp at e
    subst e
    exact ⟨v, rfl, h2⟩
  | c :: ds, _, j + 1, d, h, e => by
    unfold RepL at h
    obtain ⟨v, r, rfl, _, h3⟩ := h
    obtain ⟨w, h4, h5⟩ := RepL.get h3 (by simpa using e)
    exact ⟨w, by simpa using h4, h5⟩
theorem RepL.app : ∀ {ds es : List D} {vs ws : List V}, RepL K F H ds vs → RepL K F H es ws → RepL K F H (ds ++ es) (vs ++ ws)
  | [], _, _, _, e, k => by
    unfold RepL at e
    subst e
    exact k
  | d :: ds, _, _, _, e, k => by
    unfold RepL at e
    obtain ⟨v, r, rfl, e2, e3⟩ := e
    show RepL K F H (d :: (ds ++ _)) (v :: (r ++ _))
    unfold RepL
    exact ⟨v, _, rfl, e2, RepL.app e3 k⟩
theorem RepL.one {d : D} {v : V} (h : Rep K F H d v) : RepL K F H [d] [v] := by
  unfold RepL
  exact ⟨v, [], rfl, h, by unfold RepL; rfl⟩
theorem RepL.nil : RepL K F H [] [] := by unfold RepL; rfl
theorem RepL.cons {d : D} {v : V} {ds : List D} {vs : List V} (h : Rep K F H d v) (k : RepL K F H ds vs) : RepL K F H (d :: ds) (v :: vs) := by
  unfold RepL
  exact ⟨v, vs, rfl, h, k⟩
theorem RepL.uncons {d : D} {ds : List D} {vs : List V} (h : RepL K F H (d :: ds) vs) : ∃ v r, vs = v :: r ∧ Rep K F H d v ∧ RepL K F H ds r := by
  unfold RepL at h
  exact h
theorem RepL.unnil {vs : List V} (h : RepL K F H [] vs) : vs = [] := by
  unfold RepL at h
  exact h
theorem RepL.drop : ∀ (n : Nat) {ds : List D} {vs : List V}, RepL K F H ds vs → RepL K F H (ds.drop n) (vs.drop n)
  | 0, _, _, h => h
  | n + 1, [], _, h => by
    rw [h.unnil]
    exact RepL.nil
  | n + 1, d :: ds, _, h => by
    obtain ⟨v, r, rfl, _, h3⟩ := h.uncons
    exact RepL.drop n h3
theorem RepL.take : ∀ (n : Nat) {ds : List D} {vs : List V}, RepL K F H ds vs → RepL K F H (ds.take n) (vs.take n)
  | 0, _, _, h => RepL.nil
  | n + 1, [], _, h => by
    rw [h.unnil]
    exact RepL.nil
  | n + 1, d :: ds, _, h => by
    obtain ⟨v, r, rfl, h2, h3⟩ := h.uncons
    exact RepL.cons h2 (RepL.take n h3)
mutual
theorem Own.mono {f : Bool} (h : Le F F') (k : Tk H H') : ∀ {d : D} {v : V} {A : List Addr}, (∀ a ∈ A, H' a = H a) → Own K F H f d v A → Own K F' H' f d v A
  | .lst ds, _, _, s, e => by
    unfold Own at e ⊢
    obtain ⟨a, vs, B, e1, e2, rfl, e4⟩ := e
    exact ⟨a, vs, B, e1, (s a List.mem_cons_self).trans e2, rfl, Kids.mono h k (fun b hb => s b (List.mem_cons_of_mem _ hb)) e4⟩
  | .dT ks ds, _, _, s, e => by
    unfold Own at e ⊢
    obtain ⟨a, vs, B, e1, e2, e5, rfl, e4⟩ := e
    exact ⟨a, vs, B, e1, (s a List.mem_cons_self).trans e2, e5, rfl, Kids.mono h k (fun b hb => s b (List.mem_cons_of_mem _ hb)) e4⟩
  | .dK ks ds, _, _, s, e => by
    unfold Own at e ⊢
    obtain ⟨a, vs, B, e1, e2, e5, rfl, e4⟩ := e
    exact ⟨a, vs, B, e1, (s a List.mem_cons_self).trans e2, e5, rfl, Kids.mono h k (fun b hb => s b (List.mem_cons_of_mem _ hb)) e4⟩
  | .non, _, _, _, e => by unfold Own at e; exact e.elim
  | .bl _, _, _, _, e => by unfold Own at e; exact e.elim
  | .int _, _, _, _, e => by unfold Own at e; exact e.elim
  | .str _, _, _, _, e => by unfold Own at e; exact e.elim
  | .tup ds, _, _, s, e => by
    unfold Own at e ⊢
    obtain ⟨a, vs, e1, e2, e4⟩ := e
    exact ⟨a, vs, e1, k.1 _ _ e2, Kids.mono h k s e4⟩
  | .scr _, _, _, _, e => by unfold Own at e; exact e.elim
  | .exn _ _ _, _, _, _, e => by unfold Own at e; exact e.elim
theorem Kids.mono {f : Bool} (h : Le F F') (k : Tk H H') : ∀ {ds : List D} {vs : List V} {A : List Addr}, (∀ a ∈ A, H' a = H a) → Kids K F H f ds vs A → Kids K F' H' f ds vs A
  | [], _, _, _, e => e
  | d :: ds, _, _, s, e => by
    unfold Kids at e ⊢
    obtain ⟨v, r, A1, A2, e1, rfl, e3, e4⟩ := e
    refine ⟨v, r, A1, A2, e1, rfl, ?_, Kids.mono h k (fun b hb => s b (List.mem_append_right _ hb)) e4⟩
    rcases e3 with ⟨e5, e6, e7⟩ | e5
    · exact .inl ⟨e5, Rep.mono h k e6, e7⟩
    · exact .inr (Own.mono h k (fun b hb => s b (List.mem_append_left _ hb)) e5)
end
mutual
/-- frozen: it is read in any part that has what it had -/
theorem Own.freeze {f : Bool} (h : Le F F') : ∀ {d : D} {v : V} {A : List Addr}, (∀ a ∈ A, F' a = H a) → Own K F H f d v A → Rep K F' H d v
  | .lst ds, _, _, s, e => by
    unfold Own at e
    unfold Rep
    obtain ⟨a, vs, B, e1, e2, rfl, e4⟩ := e
    exact ⟨a, vs, e1, (s a List.mem_cons_self).trans e2, Kids.freeze h (fun b hb => s b (List.mem_cons_of_mem _ hb)) e4⟩
  | .dT ks ds, _, _, s, e => by
    unfold Own at e
    unfold Rep
    obtain ⟨a, vs, B, e1, e2, e5, rfl, e4⟩ := e
    exact ⟨a, vs, e1, (s a List.mem_cons_self).trans e2, e5, Kids.freeze h (fun b hb => s b (List.mem_cons_of_mem _ hb)) e4⟩
  | .dK ks ds, _, _, s, e => by
    unfold Own at e
    unfold Rep
    obtain ⟨a, vs, B, e1, e2, e5, rfl, e4⟩ := e
    exact ⟨a, vs, e1, (s a List.mem_cons_self).trans e2, e5, Kids.freeze h (fun b hb => s b (List.mem_cons_of_mem _ hb)) e4⟩
  | .non, _, _, _, e => by unfold Own at e; exact e.elim
  | .bl _, _, _, _, e => by unfold Own at e; exact e.elim
  | .int _, _, _, _, e => by unfold Own at e; exact e.elim
  | .str _, _, _, _, e => by unfold Own at e; exact e.elim
  | .tup ds, _, _, s, e => by
    unfold Own at e
    unfold Rep
    obtain ⟨a, vs, e1, e2, e4⟩ := e
    exact ⟨a, vs, e1, e2, Kids.freeze h s e4⟩
  | .scr _, _, _, _, e => by unfold Own at e; exact e.elim
  | .exn _ _ _, _, _, _, e => by unfold Own at e; exact e.elim
theorem Kids.freeze {f : Bool} (h : Le F F') : ∀ {ds : List D} {vs : List V} {A : List Addr}, (∀ a ∈ A, F' a = H a) → Kids K F H f ds vs A → RepL K F' H ds vs
  | [], _, _, _, e => by
    unfold Kids at e
    unfold RepL
    exact e.1
  | d :: ds, _, _, s, e => by
    unfold Kids at e
    unfold RepL
    obtain ⟨v, r, A1, A2, e1, rfl, e3, e4⟩ := e
    refine ⟨v, r, e1, ?_, Kids.freeze h (fun b hb => s b (List.mem_append_right _ hb)) e4⟩
    rcases e3 with ⟨e5, e6, e7⟩ | e5
    · exact Rep.mono h (Tk.refl H) e6
    · exact Own.freeze h (fun b hb => s b (List.mem_append_left _ hb)) e5
end
theorem Own.read {f : Bool} {d : D} {v : V} {A : List Addr} (h : Le F H) (e : Own K F H f d v A) : Rep K H H d v := Own.freeze h (fun _ _ => rfl) e
mutual
theorem Own.weak : ∀ {d : D} {v : V} {A : List Addr} {f : Bool}, Own K F H f d v A → Own K F H false d v A
  | .lst ds, _, _, f, e => by
    unfold Own at e ⊢
    obtain ⟨a, vs, B, e1, e2, e3, e4⟩ := e
    exact ⟨a, vs, B, e1, e2, e3, Kids.weak e4⟩
  | .dT ks ds, _, _, f, e => by
    unfold Own at e ⊢
    obtain ⟨a, vs, B, e1, e2, e5, e3, e4⟩ := e
    exact ⟨a, vs, B, e1, e2, e5, e3, Kids.weak e4⟩
  | .dK ks ds, _, _, f, e => by
    unfold Own at e ⊢
    obtain ⟨a, vs, B, e1, e2, e5, e3, e4⟩ := e
    exact ⟨a, vs, B, e1, e2, e5, e3, Kids.weak e4⟩
  | .non, _, _, _, e => by unfold Own at e; exact e.elim
  | .bl _, _, _, _, e => by unfold Own at e; exact e.elim
  | .int _, _, _, _, e => by unfold Own at e; exact e.elim
  | .str _, _, _, _, e => by unfold Own at e; exact e.elim
  | .tup ds, _, _, f, e => by
    unfold Own at e ⊢
    obtain ⟨a, vs, e1, e2, e4⟩ := e
    exact ⟨a, vs, e1, e2, Kids.weak e4⟩
  | .scr _, _, _, _, e => by unfold Own at e; exact e.elim
  | .exn _ _ _, _, _, _, e => by unfold Own at e; exact e.elim
theorem Kids.weak : ∀ {ds : List D} {vs : List V} {A : List Addr} {f : Bool}, Kids K F H f ds vs A → Kids K F H false ds vs A
  | [], _, _, _, e => e
  | d :: ds, _, _, f, e => by
    unfold Kids at e ⊢
    obtain ⟨v, r, A1, A2, e1, e2, e3, e4⟩ := e
    refine ⟨v, r, A1, A2, e1, e2, ?_, Kids.weak e4⟩
    rcases e3 with ⟨e5, e6, e7⟩ | e5
    · exact .inl ⟨e5, e6, fun z => by cases z⟩
    · exact .inr (Own.weak e5)
end
theorem Own.to {d : D} {v : V} {A : List Addr} {f g : Bool} (e : Own K F H f d v A) (h : g = true → f = true) : Own K F H g d v A := by
  cases g with
  | false => exact e.weak
  | true =>
    have := h rfl
    subst this
    exact e
theorem Kids.to {ds : List D} {vs : List V} {A : List Addr} {f g : Bool} (e : Kids K F H f ds vs A) (h : g = true → f = true) : Kids K F H g ds vs A := by
  cases g with
  | false => exact e.weak
  | true =>
    have := h rfl
    subst this
    exact e
def Nt : HO → Prop
  | .lst _ => True
  | .dT _ => True
  | .dK _ => True
  | _ => False
mutual
theorem Own.dom {f : Bool} : ∀ {d : D} {v : V} {A : List Addr}, Own K F H f d v A → ∀ a ∈ A, ∃ o, H a = some o ∧ Nt o
  | .lst ds, _, _, e => by
    unfold Own at e
    obtain ⟨a, vs, B, e1, e2, rfl, e4⟩ := e
    intro b hb
    rcases List.mem_cons.mp hb with rfl | hb
    · exact ⟨_, e2, trivial⟩
    · exact Kids.dom e4 b hb
  | .dT ks ds, _, _, e => by
    unfold Own at e
    obtain ⟨a, vs, B, e1, e2, e5, rfl, e4⟩ := e
    intro b hb
    rcases List.mem_cons.mp hb with rfl | hb
    · exact ⟨_, e2, trivial⟩
    · exact Kids.dom e4 b hb
  | .dK ks ds, _, _, e => by
    unfold Own at e
    obtain ⟨a, vs, B, e1, e2, e5, rfl, e4⟩ := e
    intro b hb
    rcases List.mem_cons.mp hb with rfl | hb
    · exact ⟨_, e2, trivial⟩
    · exact Kids.dom e4 b hb
  | .non, _, _, e => by unfold Own at e; exact e.elim
  | .bl _, _, _, e => by unfold Own at e; exact e.elim
  | .int _, _, _, e => by unfold Own at e; exact e.elim
  | .str _, _, _, e => by unfold Own at e; exact e.elim
  | .tup ds, _, _, e => by
    unfold Own at e
    obtain ⟨a, vs, e1, e2, e4⟩ := e
    exact Kids.dom e4
  | .scr _, _, _, e => by unfold Own at e; exact e.elim
  | .exn _ _ _, _, _, e => by unfold Own at e; exact e.elim
theorem Kids.dom {f : Bool} : ∀ {ds : List D} {vs : List V} {A : List Addr}, Kids K F H f ds vs A → ∀ a ∈ A, ∃ o, H a = some o ∧ Nt o
  | [], _, _, e => by
    unfold Kids at e
    obtain ⟨_, rfl⟩ := e
    intro b hb
    cases hb
  | d :: ds, _, _, e => by
    unfold Kids at e
    obtain ⟨v, r, A1, A2, e1, rfl, e3, e4⟩ := e
    intro b hb
    rcases List.mem_append.mp hb with hb | hb
    · rcases e3 with ⟨rfl, _⟩ | e3
      · cases hb
      · exact Own.dom e3 b hb
    · exact Kids.dom e4 b hb
end
theorem Kids.app {f : Bool} : ∀ {ds es : List D} {vs ws : List V} {A B : List Addr}, Kids K F H f ds vs A → Kids K F H f es ws B → Kids K F H f (ds ++ es) (vs ++ ws) (A ++ B)
  | [], _, _, _, _, _, e, k => by
    unfold Kids at e
    obtain ⟨rfl, rfl⟩ := e
    exact k
  | d :: ds, es, _, ws, _, B, e, k => by
    unfold Kids at e
    obtain ⟨v, r, A1, A2, rfl, rfl, e3, e4⟩ := e
    show Kids K F H f (d :: (ds ++ es)) (v :: (r ++ ws)) (A1 ++ A2 ++ B)
    unfold Kids
    exact ⟨v, r ++ ws, A1, A2 ++ B, rfl, List.append_assoc _ _ _, e3, Kids.app e4 k⟩
theorem Kids.nil {f : Bool} : Kids K F H f [] [] [] := by
  unfold Kids
  exact ⟨rfl, rfl⟩
theorem Kids.cons {f : Bool} {d : D} {v : V} {ds : List D} {vs : List V} {A B : List Addr} (h : (A = [] ∧ Rep K F H d v ∧ (f = true → imm d = true)) ∨ Own K F H f d v A) (k : Kids K F H f ds vs B) : Kids K F H f (d :: ds) (v :: vs) (A ++ B) := by
  unfold Kids
  exact ⟨v, vs, A, B, rfl, rfl, h, k⟩
theorem Kids.uncons {f : Bool} {d : D} {ds : List D} {vs : List V} {A : List Addr} (h : Kids K F H f (d :: ds) vs A) : ∃ v r A1 A2, vs = v :: r ∧ A = A1 ++ A2 ∧ ((A1 = [] ∧ Rep K F H d v ∧ (f = true → imm d = true)) ∨ Own K F H f d v A1) ∧ Kids K F H f ds r A2 := by
  unfold Kids at h
  exact h
theorem Kids.unnil {f : Bool} {vs : List V} {A : List Addr} (h : Kids K F H f [] vs A) : vs = [] ∧ A = [] := by
  unfold Kids at h
  exact h
theorem Kids.len {f : Bool} : ∀ {ds : List D} {vs : List V} {A : List Addr}, Kids K F H f ds vs A → ds.length = vs.length
  | [], _, _, h => by
    rw [h.unnil.1]
    rfl
  | d :: ds, _, _, h => by
    obtain ⟨v, r, A1, A2, rfl, _, _, h4⟩ := h.uncons
    simp [Kids.len h4]
theorem Kids.ofRep {f : Bool} : ∀ {ds : List D} {vs : List V}, RepL K F H ds vs → (f = true → immL ds = true) → Kids K F H f ds vs []
  | [], _, h, _ => by
    rw [h.unnil]
    exact Kids.nil
  | d :: ds, _, h, i => by
    obtain ⟨v, r, rfl, h2, h3⟩ := h.uncons
    refine Kids.cons (A := []) (.inl ⟨rfl, h2, fun z => ?_⟩) (Kids.ofRep h3 fun z => ?_)
    · have := i z
      unfold immL at this
      exact (Bool.and_eq_true_iff.mp this).1
    · have := i z
      unfold immL at this
      exact (Bool.and_eq_true_iff.mp this).2
theorem Kids.split {f : Bool} : ∀ {ds es : List D} {vs : List V} {A : List Addr}, Kids K F H f (ds ++ es) vs A → ∃ v1 v2 A1 A2, vs = v1 ++ v2 ∧ A = A1 ++ A2 ∧ Kids K F H f ds v1 A1 ∧ Kids K F H f es v2 A2
  | [], es, vs, A, h => ⟨[], vs, [], A, rfl, rfl, Kids.nil, h⟩
  | d :: ds, es, vs, A, h => by
    obtain ⟨v, r, A1, A2, rfl, rfl, h3, h4⟩ := Kids.uncons (ds := ds ++ es) h
    obtain ⟨v1, v2, B1, B2, rfl, rfl, h5, h6⟩ := Kids.split h4
    exact ⟨v :: v1, v2, A1 ++ B1, B2, rfl, by simp, Kids.cons h3 h5, h6⟩
theorem RepL.split : ∀ {ds es : List D} {vs : List V}, RepL K F H (ds ++ es) vs → ∃ v1 v2, vs = v1 ++ v2 ∧ RepL K F H ds v1 ∧ RepL K F H es v2
  | [], es, vs, h => ⟨[], vs, rfl, RepL.nil, h⟩
  | d :: ds, es, vs, h => by
    obtain ⟨v, r, rfl, h3, h4⟩ := RepL.uncons (ds := ds ++ es) h
    obtain ⟨v1, v2, rfl, h5, h6⟩ := RepL.split h4
    exact ⟨v :: v1, v2, rfl, RepL.cons h3 h5, h6⟩
mutual
/-- what never changes owns nothing -/
theorem Own.ofImm {f : Bool} : ∀ {d : D} {v : V} {A : List Addr}, Rg.imm d = true → Own K F H f d v A → A = [] ∧ Rep K F H d v
  | .tup ds, _, _, i, e => by
    unfold Own at e
    obtain ⟨a, vs, e1, e2, e4⟩ := e
    unfold Rg.imm at i
    obtain ⟨z, r⟩ := Kids.ofImm i e4
    exact ⟨z, by unfold Rep; exact ⟨a, vs, e1, e2, r⟩⟩
  | .lst ds, _, _, i, e => by cases i
  | .dT ks ds, _, _, i, e => by cases i
  | .dK ks ds, _, _, i, e => by cases i
  | .non, _, _, _, e => by unfold Own at e; exact e.elim
  | .bl _, _, _, _, e => by unfold Own at e; exact e.elim
  | .int _, _, _, _, e => by unfold Own at e; exact e.elim
  | .str _, _, _, _, e => by unfold Own at e; exact e.elim
  | .scr _, _, _, _, e => by unfold Own at e; exact e.elim
  | .exn _ _ _, _, _, _, e => by unfold Own at e; exact e.elim
theorem Kids.ofImm {f : Bool} : ∀ {ds : List D} {vs : List V} {A : List Addr}, immL ds = true → Kids K F H f ds vs A → A = [] ∧ RepL K F H ds vs
  | [], _, _, _, e => by
    obtain ⟨rfl, rfl⟩ := e.unnil
    exact ⟨rfl, RepL.nil⟩
  | d :: ds, _, _, i, e => by
    unfold immL at i
    obtain ⟨i1, i2⟩ := Bool.and_eq_true_iff.mp i
    obtain ⟨v, r, A1, A2, rfl, rfl, e3, e4⟩ := e.uncons
    obtain ⟨z2, r2⟩ := Kids.ofImm i2 e4
    have h1 : A1 = [] ∧ Rep K F H d v := by
      rcases e3 with ⟨e5, e6, _⟩ | e5
      · exact ⟨e5, e6⟩
      · exact Own.ofImm i1 e5
    exact ⟨by rw [h1.1, z2]; rfl, RepL.cons h1.2 r2⟩
end
end
end Rg
namespace Rg
open PySem L2
def SlotR (K : KP) (F H : Hp) (v0 : V) : Slot → Option V → List Addr → Prop
  | .un, _, A => A = []
  | .fz d, o, A => A = [] ∧ ∃ v, o = some v ∧ Rep K F H d v
  | .ow f d, o, A => ∃ v, o = some v ∧ Own K F H f d v A
  | .lk f d, o, A => A = [] ∧ o = some v0
def SlotsR (K : KP) (F H : Hp) (L : Nat → V) : Nat → Sts → St → List Addr → Prop
  | _, [], σ, A => σ = [] ∧ A = []
  | n, s :: τ, σ, A => ∃ o r A1 A2, σ = o :: r ∧ A = A1 ++ A2 ∧ SlotR K F H (L n) s o A1 ∧ SlotsR K F H L (n + 1) τ r A2
def Sl (K : KP) (F H : Hp) (τ : Sts) (σ : St) (A : List Addr) (L : Nat → V) : Prop := ∃ A0, SlotsR K F H L 0 τ σ A0 ∧ A0.Perm A
structure SR (K : KP) (τ : Sts) (σ : St) (F H : Hp) (A : List Addr) (L : Nat → V) : Prop where
  le : Le F H
  slots : Sl K F H τ σ A L
  nd : A.Nodup
  off : ∀ a ∈ A, F a = none
structure Step (F H : Hp) (A : List Addr) (F' H' : Hp) (A' : List Addr) : Prop where
  mono : Le F F'
  fresh : ∀ a, F' a ≠ none → F a ≠ none ∨ H a = none ∨ a ∈ A
  frame : ∀ a o, H a = some o → a ∉ A → H' a = some o
  own : ∀ a ∈ A', a ∈ A ∨ H a = none
  dom : ∀ a, H' a = none → H a = none
  tk : Tk H H'
section
variable {K : KP} {F F' F1 F2 H H' H1 H2 : Hp} {A A' A1 A2 : List Addr} {L : Nat → V} {τ : Sts} {σ : St}
theorem Step.refl (F H : Hp) (A : List Addr) : Step F H A F H A := ⟨Le.refl F, fun _ h => .inl h, fun _ _ h _ => h, fun _ h => .inl h, fun _ h => h, Tk.refl H⟩
theorem Step.trans (s : Step F H A F1 H1 A1) (t : Step F1 H1 A1 F2 H2 A2) : Step F H A F2 H2 A2 where
  mono := s.mono.trans t.mono
  fresh := fun a h => by
    rcases t.fresh a h with h | h | h
    · exact s.fresh a h
    · exact .inr (.inl (s.dom a h))
    · rcases s.own a h with h | h
      · exact .inr (.inr h)
      · exact .inr (.inl h)
  frame := fun a o h n => t.frame a o (s.frame a o h n) fun z => by
    rcases s.own a z with z | z
    · exact n z
    · rw [h] at z; cases z
  own := fun a h => by
    rcases t.own a h with h | h
    · exact s.own a h
    · exact .inr (s.dom a h)
  dom := fun a h => s.dom a (t.dom a h)
  tk := s.tk.trans t.tk
theorem Step.less {A' : List Addr} (h : ∀ a ∈ A', a ∈ A) : Step F H A F H A' := ⟨Le.refl F, fun _ h => .inl h, fun _ _ h _ => h, fun a ha => .inl (h a ha), fun _ h => h, Tk.refl H⟩
theorem upd_tk {p : Addr} {o : HO} (h : H p = none) : Tk H (upd H p o) := ⟨fun a xs e => by
  rw [upd_ne (ne_of_none e h)]
  exact e, fun a xs e => by
  rw [upd_ne (ne_of_none e h)]
  exact e⟩
theorem upd_le {p : Addr} {o : HO} (h : H p = none) : Le H (upd H p o) := fun a u e => by
  rw [upd_ne (ne_of_none e h)]
  exact e
theorem upd_dom {p a : Addr} {o : HO} (h : upd H p o a = none) : H a = none := by
  by_cases e : a = p
  · subst e
    rw [upd_same] at h
    cases h
  · rw [upd_ne e] at h
    exact h
theorem Step.laid {p : Addr} {o : HO} (h : H p = none) : Step F H A F (upd H p o) A :=
  ⟨Le.refl F, fun _ h => .inl h, fun a u e _ => upd_le h a u e, fun _ h => .inl h, fun _ e => upd_dom e, upd_tk h⟩
theorem SlotR.mono {s : Slot} {o : Option V} {v0 : V} {A : List Addr} (h : Le F F') (k : Tk H H') (e : ∀ a ∈ A, H' a = H a) (r : SlotR K F H v0 s o A) : SlotR K F' H' v0 s o A := by
  cases s with
  | un => exact r
  | fz d =>
    obtain ⟨r1, v, r3, r4⟩ := r
    exact ⟨r1, v, r3, r4.mono h k⟩
  | ow f d =>
    obtain ⟨v, r2, r3⟩ := r
    exact ⟨v, r2, r3.mono h k e⟩
  | lk f d => exact r
theorem SlotR.dom {s : Slot} {o : Option V} {v0 : V} {A : List Addr} (r : SlotR K F H v0 s o A) : ∀ a ∈ A, ∃ u, H a = some u ∧ Nt u := by
  intro a ha
  cases s with
  | un =>
    cases (show A = [] from r)
    cases ha
  | fz d =>
    obtain ⟨rfl, _⟩ := r
    cases ha
  | ow f d =>
    obtain ⟨v, r2, r3⟩ := r
    exact r3.dom a ha
  | lk f d =>
    obtain ⟨rfl, _⟩ := r
    cases ha
theorem SlotsR.mono (h : Le F F') (k : Tk H H') : ∀ {n : Nat} {τ : Sts} {σ : St} {A : List Addr}, (∀ a ∈ A, H' a = H a) → SlotsR K F H L n τ σ A → SlotsR K F' H' L n τ σ A
  | _, [], _, _, _, r => r
  | n, s :: τ, _, _, e, r => by
    obtain ⟨o, q, A1, A2, rfl, rfl, r4, r5⟩ := r
    exact ⟨o, q, A1, A2, rfl, rfl, r4.mono h k fun a ha => e a (List.mem_append_left _ ha), SlotsR.mono h k (fun a ha => e a (List.mem_append_right _ ha)) r5⟩
theorem SlotsR.dom : ∀ {n : Nat} {τ : Sts} {σ : St} {A : List Addr}, SlotsR K F H L n τ σ A → ∀ a ∈ A, ∃ u, H a = some u ∧ Nt u
  | _, [], _, _, r => by
    obtain ⟨rfl, rfl⟩ := r
    intro a ha
    cases ha
  | n, s :: τ, _, _, r => by
    obtain ⟨o, q, A1, A2, rfl, rfl, r4, r5⟩ := r
    intro a ha
    rcases List.mem_append.mp ha with ha | ha
    · exact r4.dom a ha
    · exact SlotsR.dom r5 a ha
theorem SlotsR.len : ∀ {n : Nat} {τ : Sts} {σ : St} {A : List Addr}, SlotsR K F H L n τ σ A → τ.length = σ.length
  | _, [], _, _, r => by
    obtain ⟨rfl, _⟩ := r
    rfl
  | n, s :: τ, _, _, r => by
    obtain ⟨o, q, A1, A2, rfl, rfl, r4, r5⟩ := r
    simp [SlotsR.len r5]
theorem SlotsR.at : ∀ {n : Nat} {τ : Sts} {σ : St} {A : List Addr} {i : Nat} {s : Slot}, SlotsR K F H L n τ σ A → τ[i]? = some s →
    ∃ o P A1 Q, σ[i]? = some o ∧ A = P ++ A1 ++ Q ∧ SlotR K F H (L (n + i)) s o A1 ∧
      ∀ (M : Nat → V) s' o' A1', (∀ j, j ≠ n + i → M j = L j) → SlotR K F H (M (n + i)) s' o' A1' → SlotsR K F H M n (τ.set i s') (σ.set i o') (P ++ A1' ++ Q)
  | _, [], _, _, _, _, _, e => by simp at e
  | n, s :: τ, _, _, 0, s0, r, e => by
    obtain ⟨o, q, A1, A2, rfl, rfl, r4, r5⟩ := r
    simp at e
    subst e
    refine ⟨o, [], A1, A2, rfl, rfl, r4, fun M s' o' A1' hM h => ⟨o', q, A1', A2, rfl, rfl, h, ?_⟩⟩
    have : ∀ (k : Nat) (τ : Sts) (σ : St) (A : List Addr), n < k → SlotsR K F H L k τ σ A → SlotsR K F H M k τ σ A := by
      intro k τ
      induction τ generalizing k with
      | nil => intro σ A _ r; exact r
      | cons s τ ih =>
        intro σ A hk r
        obtain ⟨o, q, A1, A2, rfl, rfl, r4, r5⟩ := r
        refine ⟨o, q, A1, A2, rfl, rfl, ?_, ih _ _ _ (by omega) r5⟩
        rw [hM k (by omega)]
        exact r4
    exact this _ _ _ _ (by omega) r5
  | n, s :: τ, _, _, i + 1, s0, r, e => by
    obtain ⟨o, q, A1, A2, rfl, rfl, r4, r5⟩ := r
    obtain ⟨o2, P, B1, Q, h1, h2, h4, h5⟩ := SlotsR.at (i := i) r5 (by simpa using e)
    have en : n + 1 + i = n + (i + 1) := by omega
    rw [en] at h4 h5
    refine ⟨o2, A1 ++ P, B1, Q, by simpa using h1, by rw [h2]; simp, h4, fun M s' o' A1' hM h => ?_⟩
    refine ⟨o, q.set i o', A1, P ++ A1' ++ Q, rfl, by simp, ?_, h5 M s' o' A1' hM h⟩
    rw [hM n (by omega)]
    exact r4
theorem Sl.mono (h : Le F F') (k : Tk H H') (e : ∀ a ∈ A, H' a = H a) (r : Sl K F H τ σ A L) : Sl K F' H' τ σ A L := by
  obtain ⟨A0, r, pa⟩ := r
  exact ⟨A0, r.mono h k fun a ha => e a (pa.mem_iff.mp ha), pa⟩
theorem Sl.dom (r : Sl K F H τ σ A L) : ∀ a ∈ A, ∃ u, H a = some u ∧ Nt u := by
  obtain ⟨A0, r, pa⟩ := r
  exact fun a ha => r.dom a (pa.mem_iff.mpr ha)
theorem Sl.len (r : Sl K F H τ σ A L) : τ.length = σ.length := by
  obtain ⟨A0, r, pa⟩ := r
  exact r.len
theorem set_back {α : Type} {xs : List α} {i : Nat} {x : α} (h : xs[i]? = some x) : xs.set i x = xs := by
  obtain ⟨hi, e⟩ := List.getElem?_eq_some_iff.mp h
  rw [← e]
  exact List.set_getElem_self hi
theorem Sl.at {i : Nat} {s : Slot} (r : Sl K F H τ σ A L) (e : τ[i]? = some s) : ∃ o A1, σ[i]? = some o ∧ SlotR K F H (L i) s o A1 ∧ ∀ a ∈ A1, a ∈ A := by
  obtain ⟨A0, r, pa⟩ := r
  obtain ⟨o, P, A1, Q, h1, h2, h4, _⟩ := r.at e
  rw [Nat.zero_add] at h4
  refine ⟨o, A1, h1, h4, fun a ha => pa.mem_iff.mp ?_⟩
  rw [h2]
  exact List.mem_append_left _ (List.mem_append_right _ ha)
theorem perm_mid {α : Type} (P A Q : List α) : (P ++ A ++ Q).Perm (A ++ (P ++ Q)) := by
  rw [← List.append_assoc]
  exact (List.perm_append_comm (l₁ := P) (l₂ := A)).append_right Q
theorem Sl.out {i : Nat} {s : Slot} (r : Sl K F H τ σ A L) (e : τ[i]? = some s) : ∃ o A1 Ar, σ[i]? = some o ∧ SlotR K F H (L i) s o A1 ∧ A.Perm (A1 ++ Ar) ∧
    ∀ (M : Nat → V) s', (∀ j, j ≠ i → M j = L j) → SlotR K F H (M i) s' o [] → Sl K F H (τ.set i s') σ Ar M := by
  obtain ⟨A0, r, pa⟩ := r
  obtain ⟨o, P, A1, Q, h1, rfl, h4, h5⟩ := r.at e
  rw [Nat.zero_add] at h4 h5
  refine ⟨o, A1, P ++ Q, h1, h4, pa.symm.trans (perm_mid _ _ _), fun M s' hM hs => ?_⟩
  have h6 := h5 M s' o [] hM hs
  rw [set_back h1] at h6
  exact ⟨_, h6, by simp⟩
theorem Sl.into {i : Nat} {s s0 : Slot} {o : Option V} {A1 : List Addr} {M : Nat → V} (r : Sl K F H τ σ A L) (e : τ[i]? = some s0) (he : ∀ f d, s0 ≠ .ow f d) (hM : ∀ j, j ≠ i → M j = L j) (h : SlotR K F H (M i) s o A1) : Sl K F H (τ.set i s) (σ.set i o) (A1 ++ A) M := by
  obtain ⟨A0, r, pa⟩ := r
  obtain ⟨o2, P, A2, Q, h1, rfl, h4, h5⟩ := r.at e
  rw [Nat.zero_add] at h4 h5
  have : A2 = [] := by
    cases s0 with
    | un => exact h4
    | fz d => exact h4.1
    | ow f d => exact (he f d rfl).elim
    | lk f d => exact h4.1
  subst this
  refine ⟨_, h5 M s o A1 hM h, (perm_mid _ _ _).trans ?_⟩
  refine List.Perm.append_left _ ?_
  simpa using pa
theorem SR.step (r : SR K τ σ F H A L) {o : HO} {p : Addr} (h : H p = none) : SR K τ σ F (upd H p o) A L :=
  ⟨r.le.trans (upd_le h), r.slots.mono (Le.refl F) (upd_tk h) (fun a ha => by
    obtain ⟨u, e, _⟩ := r.slots.dom a ha
    rw [upd_ne (ne_of_none e h)]), r.nd, r.off⟩
theorem SR.keep (r : SR K τ σ F H A L) (h : Le F F') (le : Le F' H') (k : Tk H H') (s : ∀ a ∈ A, H' a = H a) (o : ∀ a ∈ A, F' a = none) : SR K τ σ F' H' A L :=
  ⟨le, r.slots.mono h k s, r.nd, o⟩
def VR (K : KP) (σ : St) (F H : Hp) : Val → V → List Addr → Prop
  | .fz d, v, B => B = [] ∧ Rep K F H d v
  | .own f d, v, B => Own K F H f d v B
  | .slot i, v, B => B = [] ∧ σ[i]? = some (some v)
structure Ap (F : Hp) (A B : List Addr) : Prop where
  nd : B.Nodup
  a : ∀ b ∈ B, b ∉ A
  off : ∀ b ∈ B, F b = none
structure Post (K : KP) (σ : St) (L : Nat → V) (F H : Hp) (A : List Addr) (τ' : Sts) (F' H' : Hp) (A' : List Addr) (r : Val) (v : V) (B : List Addr) : Prop where
  st : Step F H A F' H' A'
  sr : SR K τ' σ F' H' A' L
  vr : VR K σ F' H' r v B
  ap : Ap F' A' B
  bn : ∀ b ∈ B, b ∈ A ∨ H b = none
theorem Ap.nil : Ap F A [] := ⟨List.nodup_nil, fun _ h => (List.not_mem_nil h).elim, fun _ h => (List.not_mem_nil h).elim⟩
theorem VR.dom {r : Val} {v : V} {B : List Addr} (h : VR K σ F H r v B) : ∀ b ∈ B, ∃ o, H b = some o ∧ Nt o := by
  cases r with
  | fz d =>
    obtain ⟨rfl, _⟩ := h
    intro b hb
    cases hb
  | own f d => exact Own.dom h
  | slot i =>
    obtain ⟨rfl, _⟩ := h
    intro b hb
    cases hb
theorem VR.step {r : Val} {v : V} {B : List Addr} (h : VR K σ F H r v B) (ap : Ap F A B) (s : Step F H A F' H' A') : VR K σ F' H' r v B ∧ Ap F' A' B := by
  have same : ∀ b ∈ B, H' b = H b := fun b hb => by
    obtain ⟨o, e, _⟩ := h.dom b hb
    rw [e]
    exact s.frame b o e (ap.a b hb)
  constructor
  · cases r with
    | fz d => exact ⟨h.1, h.2.mono s.mono s.tk⟩
    | own f d => exact Own.mono s.mono s.tk same h
    | slot i => exact h
  · refine ⟨ap.nd, fun b hb z => ?_, fun b hb => ?_⟩
    · rcases s.own b z with z | z
      · exact ap.a b hb z
      · obtain ⟨o, e, _⟩ := h.dom b hb
        rw [e] at z
        cases z
    · cases q : F' b with
      | none => rfl
      | some o =>
        obtain ⟨u, e, _⟩ := h.dom b hb
        rcases s.fresh b (by rw [q]; intro z; cases z) with z | z | z
        · exact (z (ap.off b hb)).elim
        · rw [e] at z
          cases z
        · exact (ap.a b hb z).elim
theorem SlotR.rep {s : Slot} {v v0 : V} {d : D} {A : List Addr} (h : SlotR K F H v0 s (some v) A) (le : Le F H) (e : slotD s = some d) : Rep K H H d v := by
  cases s with
  | un => cases e
  | fz d => cases e
  | ow f d0 =>
    cases e
    obtain ⟨w, q, r⟩ := h
    cases q
    exact r.read le
  | lk f d0 => cases e
theorem VR.read {r : Val} {v : V} {B : List Addr} {d : D} (h : VR K σ F H r v B) (s : SR K τ σ F H A L) (e : dat τ r = some d) : Rep K H H d v := by
  cases r with
  | fz d0 =>
    cases e
    exact h.2.mono s.le (Tk.refl H)
  | own f d0 =>
    cases e
    exact Own.read s.le h
  | slot i =>
    have e0 : (τ[i]?).bind slotD = some d := e
    cases q : τ[i]? with
    | none =>
      rw [q] at e0
      cases e0
    | some sl =>
      have e2 : slotD sl = some d := by
        rw [q] at e0
        exact e0
      obtain ⟨o, A1, h1, h4, _⟩ := s.slots.at q
      have : o = some v := Option.some.inj (h1.symm.trans h.2)
      subst this
      exact h4.rep s.le e2
def VRL (K : KP) (σ : St) (F H : Hp) : List Val → List V → List Addr → Prop
  | [], vs, B => vs = [] ∧ B = []
  | r :: rs, vs, B => ∃ v w B1 B2, vs = v :: w ∧ B = B1 ++ B2 ∧ VR K σ F H r v B1 ∧ VRL K σ F H rs w B2
theorem VRL.reads {rs : List Val} : ∀ {vs : List V} {B : List Addr} {ds : List D}, VRL K σ F H rs vs B → SR K τ σ F H A L → dats τ rs = some ds → RepL K H H ds vs := by
  induction rs with
  | nil =>
    intro vs B ds h s e
    obtain ⟨rfl, _⟩ := h
    cases e
    exact RepL.nil
  | cons r rs ih =>
    intro vs B ds h s e
    obtain ⟨v, w, B1, B2, rfl, rfl, h1, h2⟩ := h
    unfold dats at e
    cases q : dat τ r with
    | none => rw [q] at e; cases e
    | some d =>
      rw [q] at e
      cases q2 : dats τ rs with
      | none => rw [q2] at e; cases e
      | some ds2 =>
        rw [q2] at e
        cases e
        exact RepL.cons (h1.read s q) (ih h2 s q2)
theorem VRL.dom : ∀ {rs : List Val} {vs : List V} {B : List Addr}, VRL K σ F H rs vs B → ∀ b ∈ B, ∃ o, H b = some o ∧ Nt o
  | [], _, _, h => by
    obtain ⟨_, rfl⟩ := h
    intro b hb
    cases hb
  | r :: rs, _, _, h => by
    obtain ⟨v, w, B1, B2, rfl, rfl, h1, h2⟩ := h
    intro b hb
    rcases List.mem_append.mp hb with hb | hb
    · exact h1.dom b hb
    · exact VRL.dom h2 b hb
theorem Ap.app {B C : List Addr} (h : Ap F A B) (k : Ap F A C) (d : ∀ b ∈ B, b ∉ C) : Ap F A (B ++ C) :=
  ⟨List.nodup_append.mpr ⟨h.nd, k.nd, fun a ha b hb e => d a ha (e ▸ hb)⟩, fun b hb => (List.mem_append.mp hb).elim (h.a b) (k.a b), fun b hb => (List.mem_append.mp hb).elim (h.off b) (k.off b)⟩
theorem Ap.left {B C : List Addr} (h : Ap F A (B ++ C)) : Ap F A B := ⟨(List.nodup_append.mp h.nd).1, fun b hb => h.a b (List.mem_append_left _ hb), fun b hb => h.off b (List.mem_append_left _ hb)⟩
theorem Ap.right {B C : List Addr} (h : Ap F A (B ++ C)) : Ap F A C := ⟨(List.nodup_append.mp h.nd).2.1, fun b hb => h.a b (List.mem_append_right _ hb), fun b hb => h.off b (List.mem_append_right _ hb)⟩
structure PostL (K : KP) (σ : St) (L : Nat → V) (F H : Hp) (A : List Addr) (τ' : Sts) (F' H' : Hp) (A' : List Addr) (rs : List Val) (vs : List V) (B : List Addr) : Prop where
  st : Step F H A F' H' A'
  sr : SR K τ' σ F' H' A' L
  vr : VRL K σ F' H' rs vs B
  ap : Ap F' A' B
  bn : ∀ b ∈ B, b ∈ A ∨ H b = none
theorem PostL.nil (r : SR K τ σ F H A L) : PostL K σ L F H A τ F H A [] [] [] := ⟨Step.refl F H A, r, ⟨rfl, rfl⟩, Ap.nil, fun _ h => (List.not_mem_nil h).elim⟩
theorem PostL.cons {τ1 τ2 : Sts} {r : Val} {v : V} {rs : List Val} {vs : List V} {B1 B2 : List Addr} (h : Post K σ L F H A τ1 F1 H1 A1 r v B1) (k : PostL K σ L F1 H1 A1 τ2 F2 H2 A2 rs vs B2) : PostL K σ L F H A τ2 F2 H2 A2 (r :: rs) (v :: vs) (B1 ++ B2) := by
  obtain ⟨v1, ap1⟩ := h.vr.step h.ap k.st
  have dj : ∀ b ∈ B1, b ∉ B2 := fun b hb z => by
    obtain ⟨o, e, _⟩ := h.vr.dom b hb
    rcases k.bn b z with z | z
    · exact h.ap.a b hb z
    · rw [e] at z
      cases z
  refine ⟨h.st.trans k.st, k.sr, ⟨v, vs, B1, B2, rfl, rfl, v1, k.vr⟩, ap1.app k.ap dj, fun b hb => ?_⟩
  rcases List.mem_append.mp hb with hb | hb
  · exact h.bn b hb
  · rcases k.bn b hb with z | z
    · exact h.st.own b z
    · exact .inr (h.st.dom b z)
end
end Rg
namespace Rg
open PySem L2
def XW (K : KP) (mg : Str → Option Value) (W : WX) (c : String) (fs : List (Str × D)) (σ : St) (H : Hp) : Prop := ∃ C, mg (Str.ofString c) = some (.ref C) ∧ match fs with
  | [] => W (.ref C) none σ H
  | [(f, d)] => ∀ a v, H a = some (.xd [(f, v)]) → Rep K H H d v → W (.ref C) (some a) σ H
  | _ => False
section
variable (K : KP) (mg : Str → Option Value) (W : WX) (Γ : Env1)
def DE (m : E) : TE := fun σ H Q => ∃ τ F A L, SR K τ σ F H A L ∧ match ev Γ m τ with
  | .ok r => ∀ v F' H' A' B, Post K σ L F H A r.2 F' H' A' r.1 v B → Q v H'
  | .exc c fs => ∀ F' H' A', Step F H A F' H' A' → XW K mg W c fs σ H'
  | .stuck => False
def DA (m : E) : TA := fun σ H Q => ∃ τ F A L, SR K τ σ F H A L ∧ match evs Γ m τ with
  | .ok r => ∀ vs F' H' A' B, PostL K σ L F H A r.2 F' H' A' r.1 vs B → Q vs H'
  | .exc c fs => ∀ F' H' A', Step F H A F' H' A' → XW K mg W c fs σ H'
  | .stuck => False
def DT (m : E) : TT := fun σ H Q => ∃ τ F A L, SR K τ σ F H A L ∧ match ev Γ m τ >>= fun r => R.of (boolOf r.2 r.1) >>= fun k => R.ok (k, r.2) with
  | .ok r => ∀ F' H' A', Step F H A F' H' A' → SR K r.2 σ F' H' A' L → Q r.1 H'
  | .exc c fs => ∀ F' H' A', Step F H A F' H' A' → XW K mg W c fs σ H'
  | .stuck => False
end
theorem PE.imp {X : Cx} {e : Expr} {t t' : TE} (h : PE X e t) (k : ∀ σ H Q, t' σ H Q → t σ H Q) : PE X e t' := ⟨fun pins s σ H Q I q => h.run pins s σ H Q I (k σ H Q q)⟩
theorem PT.imp {X : Cx} {e : Expr} {t t' : TT} (h : PT X e t) (k : ∀ σ H Q, t' σ H Q → t σ H Q) : PT X e t' := ⟨fun pins s σ H Q I q => h.run pins s σ H Q I (k σ H Q q)⟩
theorem PA.imp {X : Cx} {e : List Expr} {t t' : TA} (h : PA X e t) (k : ∀ σ H Q, t' σ H Q → t σ H Q) : PA X e t' := ⟨fun pos pins s σ H Q I q => h.run pos pins s σ H Q I (k σ H Q q)⟩
section
variable {K : KP} {mg : Str → Option Value} {W : WX} {Γ : Env1} {σ : St} {H : Hp}
theorem Post.fz {τ : Sts} {F : Hp} {A : List Addr} {L : Nat → V} {d : D} {v : V} (r : SR K τ σ F H A L) (h : Rep K F H d v) : Post K σ L F H A τ F H A (.fz d) v [] :=
  ⟨Step.refl F H A, r, ⟨rfl, h⟩, Ap.nil, fun _ h => (List.not_mem_nil h).elim⟩
theorem da_split {a r : E} {Q : List V → Hp → Prop} (h : DA K mg W Γ (.cons a r) σ H Q) : DE K mg W Γ a σ H fun v H1 => DA K mg W Γ r σ H1 fun vs H2 => Q (v :: vs) H2 := by
  obtain ⟨τ, F, A, L, sr, h⟩ := h
  refine ⟨τ, F, A, L, sr, ?_⟩
  simp only [evs] at h
  cases e : ev Γ a τ with
  | stuck => rw [e] at h; exact h
  | exc c fs => rw [e] at h; exact h
  | ok x =>
    rw [e] at h
    simp only [R.bind_ok] at h ⊢
    intro v F1 H1 A1 B1 p1
    refine ⟨x.2, F1, A1, L, p1.sr, ?_⟩
    cases e2 : evs Γ r x.2 with
    | stuck => rw [e2] at h; exact h
    | exc c fs =>
      rw [e2] at h
      exact fun F' H' A' s => h F' H' A' (p1.st.trans s)
    | ok y =>
      rw [e2] at h
      simp only [R.bind_ok] at h ⊢
      intro vs F2 H2 A2 B2 p2
      exact h _ F2 H2 A2 _ (PostL.cons p1 p2)
theorem da_nil {Q : List V → Hp → Prop} (h : DA K mg W Γ .nil σ H Q) : Q [] H := by
  obtain ⟨τ, F, A, L, sr, h⟩ := h
  simp only [evs] at h
  exact h [] F H A [] (PostL.nil sr)
theorem da_one {a : E} {Q : List V → Hp → Prop} (h : DA K mg W Γ (.cons a .nil) σ H Q) : DE K mg W Γ a σ H fun v H1 => Q [v] H1 := by
  have h1 := da_split h
  obtain ⟨τ, F, A, L, sr, h⟩ := h1
  refine ⟨τ, F, A, L, sr, ?_⟩
  cases e : ev Γ a τ with
  | stuck => rw [e] at h; exact h
  | exc c fs => rw [e] at h; exact h
  | ok x =>
    rw [e] at h
    exact fun v F' H' A' B p => da_nil (h v F' H' A' B p)
theorem de_mono {a : E} {Q Q' : VK} (h : DE K mg W Γ a σ H Q) (k : ∀ v H', Q v H' → Q' v H') : DE K mg W Γ a σ H Q' := by
  obtain ⟨τ, F, A, L, sr, h⟩ := h
  refine ⟨τ, F, A, L, sr, ?_⟩
  cases e : ev Γ a τ with
  | stuck => rw [e] at h; exact h
  | exc c fs => rw [e] at h; exact h
  | ok x =>
    rw [e] at h
    exact fun v F' H' A' B p => k _ _ (h v F' H' A' B p)
def PrimOkAt (K : KP) (p : Prim) (ds : List D) (r : List V → Hp → VK → Prop) : Prop := ∀ (res : Res) (vs : List V) (H G : Hp) (Q : VK), Le G H → RepL K G H ds vs → primD p ds = some res →
  (match res with
    | .old d => ∀ v, Rep K G H d v → Q v H
    | .nt es => ∀ v H', (H' = H ∨ ∃ p ws, H p = none ∧ H' = upd H p (.tup ws)) → Rep K G H' (.tup es) v → Q v H'
    | .nu es => ∀ p ws, H p = none → RepL K G H es ws → Q (.ref p) (upd H p (.lst ws))) → r vs H Q
def PrimOk (K : KP) (p : Prim) (r : List V → Hp → VK → Prop) : Prop := ∀ ds, PrimOkAt K p ds r
theorem VRL.frozen {F F' : Hp} {τ : Sts} (hle : Le F F') : ∀ {rs : List Val} {vs : List V} {B : List Addr} {ds : List D}, (∀ b ∈ B, F' b = H b) → VRL K σ F H rs vs B → dats τ rs = some ds → rs.all noSlot = true → RepL K F' H ds vs
  | [], _, _, _, _, h, e, _ => by
    obtain ⟨rfl, _⟩ := h
    cases e
    exact RepL.nil
  | r :: rs, _, _, ds, hb, h, e, ns => by
    obtain ⟨v, w, B1, B2, rfl, rfl, h1, h2⟩ := h
    have e0 : ((dat τ r).bind fun d => (dats τ rs).map fun ds => d :: ds) = some ds := e
    cases q : dat τ r with
    | none => rw [q] at e0; cases e0
    | some d =>
      rw [q] at e0
      cases q2 : dats τ rs with
      | none => rw [q2] at e0; cases e0
      | some ds2 =>
        rw [q2] at e0
        cases e0
        simp only [List.all_cons, Bool.and_eq_true] at ns
        refine RepL.cons ?_ (VRL.frozen hle (fun b hb2 => hb b (List.mem_append_right _ hb2)) h2 q2 ns.2)
        cases r with
        | fz d0 =>
          cases q
          exact h1.2.mono hle (Tk.refl H)
        | own f d0 =>
          cases q
          exact Own.freeze hle (fun b hb2 => hb b (List.mem_append_left _ hb2)) h1
        | slot i => cases ns.1
def frzB (F H : Hp) (B : List Addr) : Hp := fun a => if a ∈ B then H a else F a
theorem frzB_le {F : Hp} {B : List Addr} (h : ∀ b ∈ B, F b = none) : Le F (frzB F H B) := fun a o e => by
  unfold frzB
  rw [if_neg fun z => by rw [h a z] at e; cases e]
  exact e
theorem frzB_in {F : Hp} {B : List Addr} {b : Addr} (h : b ∈ B) : frzB F H B b = H b := by
  unfold frzB
  rw [if_pos h]
theorem frzB_out {F : Hp} {B : List Addr} {b : Addr} (h : b ∉ B) : frzB F H B b = F b := by
  unfold frzB
  rw [if_neg h]
theorem frzB_leH {F : Hp} {B : List Addr} (h : Le F H) : Le (frzB F H B) H := fun a o e => by
  by_cases z : a ∈ B
  · rw [frzB_in z] at e
    exact e
  · rw [frzB_out z] at e
    exact h a o e
theorem SR.frozen {τ : Sts} {F : Hp} {A B : List Addr} {L : Nat → V} (r : SR K τ σ F H A L) (ap : Ap F A B) : SR K τ σ (frzB F H B) H A L :=
  r.keep (frzB_le ap.off) (frzB_leH r.le) (Tk.refl H) (fun _ _ => rfl) fun a ha => by
    have nb : a ∉ B := fun z => ap.a a z ha
    rw [frzB_out nb]
    exact r.off a ha
theorem Step.frozen {F F' H0 : Hp} {A A' B : List Addr} (s : Step F H0 A F' H A') (off : ∀ b ∈ B, F' b = none) (bn : ∀ b ∈ B, b ∈ A ∨ H0 b = none) : Step F H0 A (frzB F' H B) H A' where
  mono := s.mono.trans (frzB_le off)
  fresh := fun a h => by
    by_cases z : a ∈ B
    · rcases bn a z with q | q
      · exact .inr (.inr q)
      · exact .inr (.inl q)
    · rw [frzB_out z] at h
      exact s.fresh a h
  frame := s.frame
  own := s.own
  dom := s.dom
  tk := s.tk
theorem Step.withLaid {F F' H0 H1 : Hp} {A A' : List Addr} {p : Addr} {o : HO} (s : Step F H0 A F' H1 A') (h : H1 p = none) : Step F H0 A F' (upd H1 p o) A' := s.trans (Step.laid h)
theorem Own.newList {F : Hp} {p : Addr} {ws : List V} {es : List D} {f : Bool} (hp : H p = none) (h : RepL K F H es ws) (i : f = true → immL es = true) : Own K F (upd H p (.lst ws)) f (.lst es) (.ref p) [p] := by
  unfold Own
  exact ⟨p, ws, [], rfl, upd_same, rfl, Kids.ofRep (h.mono (Le.refl F) (upd_tk hp)) i⟩
theorem SR.off_none {τ : Sts} {F : Hp} {A : List Addr} {L : Nat → V} {p : Addr} (r : SR K τ σ F H A L) (hp : H p = none) : p ∉ A ∧ F p = none := by
  refine ⟨fun z => ?_, ?_⟩
  · obtain ⟨u, e, _⟩ := r.slots.dom p z
    rw [e] at hp
    cases hp
  · cases q : F p with
    | none => rfl
    | some o => rw [r.le p o q] at hp; cases hp
theorem Ap.one {F : Hp} {A : List Addr} {p : Addr} (h : p ∉ A ∧ F p = none) : Ap F A [p] := by
  refine ⟨List.nodup_cons.mpr ⟨List.not_mem_nil, List.nodup_nil⟩, fun b hb => ?_, fun b hb => ?_⟩
  · rw [List.mem_singleton.mp hb]
    exact h.1
  · rw [List.mem_singleton.mp hb]
    exact h.2
theorem prim_core {p : Prim} {r : List V → Hp → VK → Prop} {Q : VK} {F F' H H' : Hp} {A A' B : List Addr} {L : Nat → V} {τ2 : Sts} {rs : List Val} {vs : List V} (ok : PrimOk K p r) (pl : PostL K σ L F H A τ2 F' H' A' rs vs B)
    (h : match (R.of (dats τ2 rs) >>= fun ds => R.of (primD p ds) >>= fun q => R.of (resV (rs.all noSlot) q) >>= fun v => R.ok (v, τ2)) with
      | .ok r => ∀ v F' H' A' B, Post K σ L F H A r.2 F' H' A' r.1 v B → Q v H'
      | .exc c fs => ∀ F' H' A', Step F H A F' H' A' → XW K mg W c fs σ H'
      | .stuck => False) : r vs H' Q := by
  cases e2 : dats τ2 rs with
  | none => rw [e2] at h; exact h.elim
  | some ds =>
    rw [e2] at h
    simp only [R.of_some, R.bind_ok] at h
    cases e3 : primD p ds with
    | none => rw [e3] at h; exact h.elim
    | some res =>
      rw [e3] at h
      simp only [R.of_some, R.bind_ok] at h
      have bn := pl.bn
      by_cases ns : rs.all noSlot = true
      · -- frozen
        rw [ns] at h
        have srF := pl.sr.frozen pl.ap
        have stF := pl.st.frozen (B := B) pl.ap.off pl.bn
        have rp : RepL K (frzB F' H' B) H' ds vs := VRL.frozen (frzB_le pl.ap.off) (fun b hb => frzB_in hb) pl.vr e2 ns
        refine ok ds res vs H' (frzB F' H' B) Q srF.le rp e3 ?_
        cases res with
        | old d =>
          simp only [resV, Bool.true_or, if_true, R.of_some, R.bind_ok] at h
          exact fun v hv => h v _ H' A' [] ⟨stF, srF, ⟨rfl, hv⟩, Ap.nil, fun _ z => (List.not_mem_nil z).elim⟩
        | nt es =>
          simp only [resV, Bool.true_or, if_true, R.of_some, R.bind_ok] at h
          intro v H2 hh hv
          rcases hh with rfl | ⟨p, ws, hp, rfl⟩
          · exact h v _ _ A' [] ⟨stF, srF, ⟨rfl, hv⟩, Ap.nil, fun _ z => (List.not_mem_nil z).elim⟩
          · exact h v _ _ A' [] ⟨stF.withLaid hp, srF.step hp, ⟨rfl, hv⟩, Ap.nil, fun _ z => (List.not_mem_nil z).elim⟩
        | nu es =>
          intro p ws hp hw
          have off := srF.off_none hp
          have key : ∀ f : Bool, (f = true → immL es = true) → Post K σ L F H A τ2 (frzB F' H' B) (upd H' p (.lst ws)) A' (.own f (.lst es)) (.ref p) [p] := fun f hf =>
            ⟨stF.withLaid hp, srF.step hp, Own.newList hp hw hf, Ap.one off, fun b hb => by
              rw [List.mem_singleton.mp hb]
              exact .inr (pl.st.dom p hp)⟩
          by_cases i : immL es = true
          · simp only [resV, i, if_true, R.of_some, R.bind_ok] at h
            exact h _ _ _ A' [p] (key true fun _ => i)
          · simp only [resV, i, if_true, R.of_some, R.bind_ok] at h
            exact h _ _ _ A' [p] (key false fun z => by cases z)
      · have ns' : rs.all noSlot = false := by simpa using ns
        rw [ns'] at h
        have rp : RepL K H' H' ds vs := pl.vr.reads pl.sr e2
        refine ok ds res vs H' H' Q (Le.refl H') rp e3 ?_
        cases res with
        | old d =>
          by_cases i : imm d = true
          · simp only [resV, i, Bool.false_or, if_true, R.of_some, R.bind_ok] at h
            exact fun v hv => h v F' H' A' [] ⟨pl.st, pl.sr, ⟨rfl, hv.imm (Tk.refl H') i⟩, Ap.nil, fun _ z => (List.not_mem_nil z).elim⟩
          · simp only [resV, i, Bool.false_or, if_true, R.of_none, R.bind_stuck] at h
            exact h.elim
        | nt es =>
          by_cases i : immL es = true
          · simp only [resV, i, Bool.false_or, if_true, R.of_some, R.bind_ok] at h
            intro v H2 hh hv
            have i2 : imm (.tup es) = true := by unfold imm; exact i
            rcases hh with rfl | ⟨p, ws, hp, rfl⟩
            · exact h v F' _ A' [] ⟨pl.st, pl.sr, ⟨rfl, hv.imm (Tk.refl _) i2⟩, Ap.nil, fun _ z => (List.not_mem_nil z).elim⟩
            · exact h v F' _ A' [] ⟨pl.st.withLaid hp, pl.sr.step hp, ⟨rfl, hv.imm (Tk.refl _) i2⟩, Ap.nil, fun _ z => (List.not_mem_nil z).elim⟩
          · simp only [resV, i, Bool.false_or, R.of_none, R.bind_stuck] at h
            exact h.elim
        | nu es =>
          by_cases i : immL es = true
          · simp only [resV, i, if_true, R.of_some, R.bind_ok] at h
            intro p ws hp hw
            have off := pl.sr.off_none hp
            refine h _ F' _ A' [p] ⟨pl.st.withLaid hp, pl.sr.step hp, Own.newList hp (hw.imm (Tk.refl H') i) fun _ => i, Ap.one off, fun b hb => ?_⟩
            rw [List.mem_singleton.mp hb]
            exact .inr (pl.st.dom p hp)
          · simp only [resV, i, R.of_none, R.bind_stuck] at h
            exact h.elim
theorem de_prim {p : Prim} {args : E} {r : List V → Hp → VK → Prop} {Q : VK} (ok : PrimOk K p r) (h : DE K mg W Γ (.prim p args) σ H Q) : DA K mg W Γ args σ H fun vs H' => r vs H' Q := by
  obtain ⟨τ, F, A, L, sr, h⟩ := h
  refine ⟨τ, F, A, L, sr, ?_⟩
  simp only [ev] at h
  cases e : evs Γ args τ with
  | stuck => rw [e] at h; exact h
  | exc c fs => rw [e] at h; exact h
  | ok x =>
    rw [e] at h
    simp only [R.bind_ok] at h ⊢
    intro vs F' H' A' B pl
    exact prim_core ok pl h
theorem de_meth {p : Prim} {a args : E} {r : List V → Hp → VK → Prop} {Q : VK} {T : V → Hp → Prop} (ok : PrimOk K p r) (hT : ∀ d v H, methTy p d = true → Rep K H H d v → T v H) (h : DE K mg W Γ (.meth p a args) σ H Q) : DE K mg W Γ a σ H fun x H1 => T x H1 ∧ DA K mg W Γ args σ H1 fun vs H' => r (x :: vs) H' Q := by
  obtain ⟨τ, F, A, L, sr, h⟩ := h
  refine ⟨τ, F, A, L, sr, ?_⟩
  simp only [ev] at h
  cases e : ev Γ a τ with
  | stuck => rw [e] at h; exact h
  | exc c fs => rw [e] at h; exact h
  | ok x =>
    rw [e] at h
    simp only [R.bind_ok] at h ⊢
    intro v F1 H1 A1 B1 p1
    cases e1 : dat x.2 x.1 with
    | none => rw [e1] at h; exact h.elim
    | some d =>
      rw [e1] at h
      simp only [R.of_some, R.bind_ok] at h
      by_cases hm : methTy p d = true
      · rw [if_pos hm] at h
        refine ⟨hT d v H1 hm (p1.vr.read p1.sr e1), x.2, F1, A1, L, p1.sr, ?_⟩
        cases e2 : evs Γ args x.2 with
        | stuck => rw [e2] at h; exact h
        | exc c fs =>
          rw [e2] at h
          exact fun F' H' A' s => h F' H' A' (p1.st.trans s)
        | ok y =>
          rw [e2] at h
          simp only [R.bind_ok] at h ⊢
          intro vs F2 H2 A2 B2 p2
          exact prim_core (mg := mg) (W := W) ok (PostL.cons p1 p2) h
      · rw [if_neg hm] at h
        exact h.elim
end
end Rg
namespace Rg
open PySem L2
section
variable {K : KP} {G H : Hp}
def l1 (r : V → Hp → VK → Prop) : List V → Hp → VK → Prop := fun vs H Q => match vs with
  | [x] => r x H Q
  | _ => False
def l2 (r : R2) : List V → Hp → VK → Prop := fun vs H Q => match vs with
  | [x, y] => r x y H Q
  | _ => False
theorem RepL.two {a b : D} {vs : List V} (h : RepL K G H [a, b] vs) : ∃ x y, vs = [x, y] ∧ Rep K G H a x ∧ Rep K G H b y := by
  obtain ⟨x, r, rfl, h1, h2⟩ := h.uncons
  obtain ⟨y, r2, rfl, h3, h4⟩ := h2.uncons
  rw [h4.unnil]
  exact ⟨x, y, rfl, h1, h3⟩
theorem RepL.one' {a : D} {vs : List V} (h : RepL K G H [a] vs) : ∃ x, vs = [x] ∧ Rep K G H a x := by
  obtain ⟨x, r, rfl, h1, h2⟩ := h.uncons
  rw [h2.unnil]
  exact ⟨x, rfl, h1⟩
theorem Rep.int' {i : Int} {v : V} (h : Rep K G H (.int i) v) : v = .int i := by unfold Rep at h; exact h
theorem Rep.str' {i : Str} {v : V} (h : Rep K G H (.str i) v) : v = .str i := by unfold Rep at h; exact h
theorem Rep.bl' {i : Bool} {v : V} (h : Rep K G H (.bl i) v) : v = .bl i := by unfold Rep at h; exact h
theorem Rep.non' {v : V} (h : Rep K G H .non v) : v = .non := by unfold Rep at h; exact h
theorem Rep.ofInt (i : Int) : Rep K G H (.int i) (.int i) := by unfold Rep; rfl
theorem Rep.ofStr (i : Str) : Rep K G H (.str i) (.str i) := by unfold Rep; rfl
theorem Rep.ofBl (i : Bool) : Rep K G H (.bl i) (.bl i) := by unfold Rep; rfl
theorem Rep.ofNon : Rep K G H .non .non := by unfold Rep; rfl
theorem Rep.tup' {ds : List D} {v : V} (h : Rep K G H (.tup ds) v) : ∃ a vs, v = .ref a ∧ H a = some (.tup vs) ∧ RepL K G H ds vs := by unfold Rep at h; exact h
theorem Rep.lst' {ds : List D} {v : V} (h : Rep K G H (.lst ds) v) : ∃ a vs, v = .ref a ∧ G a = some (.lst vs) ∧ RepL K G H ds vs := by unfold Rep at h; exact h
theorem Rep.dT' {ks : List (List Key)} {ds : List D} {v : V} (h : Rep K G H (.dT ks ds) v) : ∃ a vs, v = .ref a ∧ G a = some (.dT (ks.zip vs)) ∧ ks.length = vs.length ∧ RepL K G H ds vs := by unfold Rep at h; exact h
theorem Rep.dK' {ks : List Key} {ds : List D} {v : V} (h : Rep K G H (.dK ks ds) v) : ∃ a vs, v = .ref a ∧ G a = some (.dK (ks.zip vs)) ∧ ks.length = vs.length ∧ RepL K G H ds vs := by unfold Rep at h; exact h
theorem Rep.scr' {ns : List Int} {v : V} (h : Rep K G H (.scr ns) v) : ∃ a, v = .ref a ∧ SqL K G a (ns.map V.int) := by unfold Rep at h; exact h
theorem Rep.ofTup {ds : List D} {a : Addr} {vs : List V} (h1 : H a = some (.tup vs)) (h2 : RepL K G H ds vs) : Rep K G H (.tup ds) (.ref a) := by unfold Rep; exact ⟨a, vs, rfl, h1, h2⟩
theorem ok_sub : PrimOk K .sub (l2 (rI0 fun i j => .int (i - j))) := by
  intro ds res vs H G Q le rp e k
  replace e : pSub ds = some res := e
  unfold pSub at e
  split at e <;> cases e
  obtain ⟨x, y, rfl, h1, h2⟩ := rp.two
  exact ⟨_, _, h1.int', h2.int', k _ (Rep.ofInt _)⟩
theorem ok_neg : PrimOk K .neg (l1 (rU fun i => .int (-i))) := by
  intro ds res vs H G Q le rp e k
  replace e : pNeg ds = some res := e
  unfold pNeg at e
  split at e <;> cases e
  obtain ⟨x, rfl, h1⟩ := rp.one'
  exact ⟨_, h1.int', k _ (Rep.ofInt _)⟩
theorem ok_lt : PrimOk K .lt (l2 (rI0 fun i j => .bl (decide (i < j)))) := by
  intro ds res vs H G Q le rp e k
  replace e : pLt ds = some res := e
  unfold pLt at e
  split at e <;> cases e
  obtain ⟨x, y, rfl, h1, h2⟩ := rp.two
  exact ⟨_, _, h1.int', h2.int', k _ (Rep.ofBl _)⟩
theorem ok_le : PrimOk K .le (l2 (rI0 fun i j => .bl (decide (i ≤ j)))) := by
  intro ds res vs H G Q le rp e k
  replace e : pLe ds = some res := e
  unfold pLe at e
  split at e <;> cases e
  obtain ⟨x, y, rfl, h1, h2⟩ := rp.two
  exact ⟨_, _, h1.int', h2.int', k _ (Rep.ofBl _)⟩
theorem ok_gt : PrimOk K .gt (l2 (rI0 fun i j => .bl (decide (j < i)))) := by
  intro ds res vs H G Q le rp e k
  replace e : pGt ds = some res := e
  unfold pGt at e
  split at e <;> cases e
  obtain ⟨x, y, rfl, h1, h2⟩ := rp.two
  exact ⟨_, _, h1.int', h2.int', k _ (Rep.ofBl _)⟩
theorem ok_ge : PrimOk K .ge (l2 (rI0 fun i j => .bl (decide (j ≤ i)))) := by
  intro ds res vs H G Q le rp e k
  replace e : pGe ds = some res := e
  unfold pGe at e
  split at e <;> cases e
  obtain ⟨x, y, rfl, h1, h2⟩ := rp.two
  exact ⟨_, _, h1.int', h2.int', k _ (Rep.ofBl _)⟩
def rMulS : R2 := fun x y H Q => ∃ (a : Str) (n : Int), x = .str a ∧ y = .int n ∧ (-(2 ^ 63) ≤ n ∧ n < 2 ^ 63 ∧ a.length * n.toNat ≤ sizeLine) ∧ Q (.str (Txt.mul a n)) H
theorem op_mulS {X : Cx} : OpR X (binaryOp .Mult) rMulS := by
  intro pins s σ H x y v u Q I rx ry h
  obtain ⟨a, n, rfl, rfl, ⟨h1, h2, h3⟩, q⟩ := h
  obtain ⟨t, rfl⟩ := rx
  obtain ⟨t', rfl⟩ := ry
  refine SB.mul ⟨by simp; omega, fun hn _ => ?_, fun _ _ => ?_⟩ fun t' k => ⟨.str (Txt.mul a n), H, I.tok _, ⟨_, rfl⟩, q⟩
  · have e : sizeLine = 16777216 := sizeLine_eq
    have : (a.length : Int) ≤ (2 ^ 63 - 1) / n := by
      rw [Int.le_ediv_iff_mul_le (by omega)]
      have : (a.length : Int) * n = ((a.length * n.toNat : Nat) : Int) := by
        rw [Int.natCast_mul]
        congr 1
        omega
      omega
    omega
  · unfold Builtin.Str.tooLong
    simp
    omega
def rMulA : R2 := fun x y H Q => (rI CMul (fun i j => .int (i * j))) x y H Q ∨ (rI CMulW (fun i j => .int (i * j))) x y H Q ∨ rRep x y H Q ∨ rMulS x y H Q
theorem op_mulA {X : Cx} : OpR X (binaryOp .Mult) rMulA := op_mul.or (op_mulW.or (op_rep.or op_mulS))
theorem flat_rep {es : List D} {ws : List V} (h : RepL K G H es ws) : ∀ n : Nat, RepL K G H (List.replicate n es).flatten (List.replicate n ws).flatten
  | 0 => RepL.nil
  | n + 1 => by
    rw [List.replicate_succ, List.replicate_succ, List.flatten_cons, List.flatten_cons]
    exact h.app (flat_rep h n)
theorem ok_mul : PrimOk K .mul (l2 rMulA) := by
  intro ds res vs H G Q le rp e k
  replace e : pMul ds = some res := e
  unfold pMul at e
  split at e
  all_goals (try (cases e; done))
  · rename_i i j
    split at e
    · rename_i ho
      cases e
      obtain ⟨x, y, rfl, h1, h2⟩ := rp.two
      rcases ho with z | z | z
      · exact .inl ⟨_, _, h1.int', h2.int', .inl z, k _ (Rep.ofInt _)⟩
      · exact .inl ⟨_, _, h1.int', h2.int', .inr z, k _ (Rep.ofInt _)⟩
      · exact .inr (.inl ⟨_, _, h1.int', h2.int', z, k _ (Rep.ofInt _)⟩)
    · cases e
  · rename_i xs n
    split at e
    · rename_i ho
      cases e
      obtain ⟨x, y, rfl, h1, h2⟩ := rp.two
      obtain ⟨a, ws, rfl, h3, h4⟩ := h1.lst'
      exact .inr (.inr (.inl ⟨a, n, ws, rfl, h2.int', le _ _ h3, ho.1, ho.2.1, by rw [← h4.len]; exact ho.2.2, fun p hp => k p _ hp (flat_rep h4 _)⟩))
    · cases e
  · rename_i a n
    split at e
    · rename_i ho
      cases e
      obtain ⟨x, y, rfl, h1, h2⟩ := rp.two
      exact .inr (.inr (.inr ⟨a, n, h1.str', h2.int', ho, k _ (Rep.ofStr _)⟩))
    · cases e
def CDivV (i j : Int) : Prop := j ≠ 0 ∧ j.natAbs.log2 < 9000
theorem op_fdivV {X : Cx} : OpR X (binaryOp .FloorDiv) (rI CDivV fun i j => .int (i.fdiv j)) := opI fun _ _ _ _ _ _ _ hc q => PyProof.Rows.floordiv_int hc.1 q (.inl (PyProof.noPylong_of_log2 hc.2))
def rDivA : R2 := fun x y H Q => (rI CDiv (fun i j => .int (i / j))) x y H Q ∨ (rI CDivW (fun i j => .int (i / j))) x y H Q ∨ (rI CDivV fun i j => .int (i.fdiv j)) x y H Q
theorem op_divA {X : Cx} : OpR X (binaryOp .FloorDiv) rDivA := op_fdiv.or (op_fdivW.or op_fdivV)
theorem ok_fdiv : PrimOk K .fdiv (l2 rDivA) := by
  intro ds res vs H G Q le rp e k
  replace e : pFdiv ds = some res := e
  unfold pFdiv at e
  split at e
  all_goals (try (cases e; done))
  rename_i i j
  split at e
  · rename_i ho
    cases e
    obtain ⟨x, y, rfl, h1, h2⟩ := rp.two
    rcases ho.2 with z | z
    · exact .inl ⟨_, _, h1.int', h2.int', ⟨ho.1, z⟩, k _ (Rep.ofInt _)⟩
    · exact .inr (.inl ⟨_, _, h1.int', h2.int', ⟨ho.1, z⟩, k _ (Rep.ofInt _)⟩)
  · split at e
    · rename_i ho
      cases e
      obtain ⟨x, y, rfl, h1, h2⟩ := rp.two
      exact .inr (.inr ⟨_, _, h1.int', h2.int', ⟨by have := ho.1; omega, ho.2⟩, k _ (Rep.ofInt _)⟩)
    · cases e
def rModA : R2 := fun x y H Q => (rI (fun _ j => 0 < j) fun i j => .int (i % j)) x y H Q ∨ (rI (fun _ j => j ≠ 0) fun i j => .int (i.fmod j)) x y H Q
theorem op_modA {X : Cx} : OpR X (binaryOp .Mod) rModA := op_mod.or op_modN
theorem ok_mod : PrimOk K .mod (l2 rModA) := by
  intro ds res vs H G Q le rp e k
  replace e : pMod ds = some res := e
  unfold pMod at e
  split at e
  all_goals (try (cases e; done))
  rename_i i j
  split at e
  · rename_i ho
    cases e
    obtain ⟨x, y, rfl, h1, h2⟩ := rp.two
    exact .inl ⟨_, _, h1.int', h2.int', ho, k _ (Rep.ofInt _)⟩
  · split at e
    · rename_i ho
      cases e
      obtain ⟨x, y, rfl, h1, h2⟩ := rp.two
      exact .inr ⟨_, _, h1.int', h2.int', by omega, k _ (Rep.ofInt _)⟩
    · cases e
theorem ok_pow : PrimOk K .pow (l2 (rI CPow fun i j => .int (i ^ j.toNat))) := by
  intro ds res vs H G Q le rp e k
  replace e : pPow ds = some res := e
  unfold pPow at e
  split at e
  all_goals (try (cases e; done))
  rename_i i j
  split at e
  · rename_i ho
    cases e
    obtain ⟨x, y, rfl, h1, h2⟩ := rp.two
    exact ⟨_, _, h1.int', h2.int', ho, k _ (Rep.ofInt _)⟩
  · cases e
def rAddS : R2 := fun x y H Q => ∃ i j, x = .str i ∧ y = .str j ∧ i.length + j.length ≤ sizeLine ∧ Q (.str (i ++ j)) H
def rAddA (K : PySem.W.Frag) : R2 := fun x y H Q => (rI0 fun i j => .int (i + j)) x y H Q ∨ rAddS x y H Q ∨ rCatA K x y H Q ∨ rCat x y H Q
theorem op_addA {X : Cx} : OpR X (binaryOp .Add) (rAddA X.K) := op_add.or (op_add_str.or (op_catA.or op_cat))
theorem ok_add : PrimOk K .add (l2 (rAddA K)) := by
  intro ds res vs H G Q le rp e k
  replace e : pAdd ds = some res := e
  unfold pAdd at e
  split at e
  all_goals (try (cases e; done))
  · cases e
    obtain ⟨x, y, rfl, h1, h2⟩ := rp.two
    exact .inl ⟨_, _, h1.int', h2.int', k _ (Rep.ofInt _)⟩
  · rename_i a b
    split at e
    · rename_i ho
      cases e
      obtain ⟨x, y, rfl, h1, h2⟩ := rp.two
      exact .inr (.inl ⟨_, _, h1.str', h2.str', ho, k _ (Rep.ofStr _)⟩)
    · cases e
  · rename_i xs ys
    split at e
    · rename_i ho
      cases e
      obtain ⟨x, y, rfl, h1, h2⟩ := rp.two
      obtain ⟨a, us, rfl, ha, hu⟩ := h1.tup'
      obtain ⟨b, ws, rfl, hb, hw⟩ := h2.tup'
      refine .inr (.inr (.inl ⟨a, b, us, ws, rfl, rfl, SqT.of ha, SqT.of hb, by rw [← hu.len, ← hw.len]; exact ho, fun z => ?_, fun _ z => ?_, fun _ _ p hp => ?_⟩))
      · subst z
        refine k _ H (.inl rfl) (Rep.ofTup hb ?_)
        have := hu.len
        have : xs = [] := List.length_eq_zero_iff.mp (by simpa using this)
        subst this
        exact hw
      · subst z
        refine k _ H (.inl rfl) (Rep.ofTup ha ?_)
        have := hw.len
        have : ys = [] := List.length_eq_zero_iff.mp (by simpa using this)
        subst this
        rw [List.append_nil]
        exact hu
      · exact k _ _ (.inr ⟨p, _, hp, rfl⟩) (Rep.ofTup upd_same ((hu.app hw).mono (Le.refl G) (upd_tk hp)))
    · cases e
  · rename_i xs ys
    split at e
    · rename_i ho
      cases e
      obtain ⟨x, y, rfl, h1, h2⟩ := rp.two
      obtain ⟨a, us, rfl, ha, hu⟩ := h1.lst'
      obtain ⟨b, ws, rfl, hb, hw⟩ := h2.lst'
      exact .inr (.inr (.inr ⟨a, b, us, ws, rfl, rfl, le _ _ ha, le _ _ hb, by rw [← hu.len, ← hw.len]; exact ho, fun p hp => k p _ hp (hu.app hw)⟩))
    · cases e
mutual
theorem Rep.dp (le : Le G H) : ∀ {d : D} {v : V}, (toPy d).canLay0 = true → Rep K G H d v → Dp K H v (toPy d)
  | .non, _, _, h => by rw [h.non']; exact .non
  | .bl b, _, _, h => by rw [h.bl']; exact .bl b
  | .int b, _, _, h => by rw [h.int']; exact .int b
  | .str b, _, _, h => by rw [h.str']; exact .str b
  | .tup ds, _, c, h => by
    obtain ⟨a, vs, rfl, h1, h2⟩ := h.tup'
    exact .tup (SqT.of h1) (RepL.dp le (by unfold toPy PyData.canLay0 at c; exact c) h2)
  | .lst ds, _, c, h => by
    obtain ⟨a, vs, rfl, h1, h2⟩ := h.lst'
    exact .lst (SqL.of (le _ _ h1)) (RepL.dp le (by unfold toPy PyData.canLay0 at c; exact c) h2)
  | .dT _ _, _, c, _ => by unfold toPy PyData.canLay0 at c; cases c
  | .dK _ _, _, c, _ => by unfold toPy PyData.canLay0 at c; cases c
  | .scr _, _, c, _ => by unfold toPy PyData.canLay0 at c; cases c
  | .exn _ _ _, _, c, _ => by unfold toPy PyData.canLay0 at c; cases c
theorem RepL.dp (le : Le G H) : ∀ {ds : List D} {vs : List V}, PyData.canLayAll0 (toPyL ds) = true → RepL K G H ds vs → DpAll K H vs (toPyL ds)
  | [], _, _, h => by rw [h.unnil]; exact .nil
  | d :: ds, _, c, h => by
    obtain ⟨v, r, rfl, h1, h2⟩ := h.uncons
    unfold toPyL PyData.canLayAll0 at c
    have c2 := Bool.and_eq_true_iff.mp c
    exact .cons (Rep.dp le c2.1 h1) (RepL.dp le c2.2 h2)
end
def rEqA (K : PySem.W.Frag) : R2 := fun x y H Q => rEqD K x y H Q ∨ rEq x y H Q
theorem op_eqA {X : Cx} (hu : X.A.units + 64 < cLine) : OpR X (compareOp .Eq) (rEqA X.K) := (op_eqD hu).or op_eq
def rNeA (K : PySem.W.Frag) : R2 := fun x y H Q => rNeD K x y H Q ∨ rNe x y H Q
theorem op_neA {X : Cx} (hu : X.A.units + 64 < cLine) : OpR X (compareOp .NotEq) (rNeA X.K) := (op_neD hu).or op_ne
theorem eqP_ok {a b : D} {k : Bool} {x y : V} (le : Le G H) (e : eqP a b = some k) (h1 : Rep K G H a x) (h2 : Rep K G H b y) :
    (scal x y = true ∧ decide (x = y) = k) ∨ ∃ d e, Dp K H x d ∧ Dp K H y e ∧ SeqAt.shaped d = true ∧ SeqAt.shaped e = true ∧ PyData.eqv d e = k := by
  unfold eqP at e
  split at e
  · cases e
    rw [h1.int', h2.int']
    exact .inl ⟨rfl, by simp⟩
  · cases e
    rw [h1.str', h2.str']
    exact .inl ⟨rfl, by simp⟩
  · split at e
    · rename_i hs
      cases e
      have hs := Bool.and_eq_true_iff.mp hs
      exact .inr ⟨_, _, h1.dp le (SeqAt.canLay_of_shaped hs.1), h2.dp le (SeqAt.canLay_of_shaped hs.2), hs.1, hs.2, rfl⟩
    · cases e
theorem ok_eq : PrimOk K .eq (l2 (rEqA K)) := by
  intro ds res vs H G Q le rp e k
  replace e : pEq ds = some res := e
  unfold pEq at e
  split at e
  all_goals (try (cases e; done))
  obtain ⟨b, e1, e2⟩ := obind e
  cases e2
  obtain ⟨x, y, rfl, h1, h2⟩ := rp.two
  rcases eqP_ok le e1 h1 h2 with ⟨z1, rfl⟩ | ⟨d, d2, z1, z2, z3, z4, rfl⟩
  · exact .inr ⟨z1, k _ (Rep.ofBl _)⟩
  · exact .inl ⟨d, d2, z1, z2, z3, z4, k _ (Rep.ofBl _)⟩
theorem ok_ne : PrimOk K .ne (l2 (rNeA K)) := by
  intro ds res vs H G Q le rp e k
  replace e : pNe ds = some res := e
  unfold pNe at e
  split at e
  all_goals (try (cases e; done))
  obtain ⟨b, e1, e2⟩ := obind e
  cases e2
  obtain ⟨x, y, rfl, h1, h2⟩ := rp.two
  rcases eqP_ok le e1 h1 h2 with ⟨z1, rfl⟩ | ⟨d, d2, z1, z2, z3, z4, rfl⟩
  · exact .inr ⟨z1, k _ (Rep.ofBl _)⟩
  · exact .inl ⟨d, d2, z1, z2, z3, z4, k _ (Rep.ofBl _)⟩
theorem Rep.isNon {d : D} {v : V} (h : Rep K G H d v) : decide (v = .non) = isNonD d := by
  cases d with
  | non => rw [h.non']; rfl
  | bl b => rw [h.bl']; rfl
  | int b => rw [h.int']; rfl
  | str b => rw [h.str']; rfl
  | tup b => obtain ⟨a, vs, rfl, _⟩ := h.tup'; rfl
  | lst b => obtain ⟨a, vs, rfl, _⟩ := h.lst'; rfl
  | dT b c => obtain ⟨a, vs, rfl, _⟩ := h.dT'; rfl
  | dK b c => obtain ⟨a, vs, rfl, _⟩ := h.dK'; rfl
  | scr b => obtain ⟨a, rfl, _⟩ := h.scr'; rfl
  | exn c fn fd => unfold Rep at h; obtain ⟨a, oe, vs, rfl, _⟩ := h; rfl
def rIsN : R2 := fun x y H Q => y = .non ∧ Q (.bl (decide (x = .non))) H
def rNotN : R2 := fun x y H Q => y = .non ∧ Q (.bl (!decide (x = .non))) H
theorem ok_isN : PrimOk K .isN (l2 rIsN) := by
  intro ds res vs H G Q le rp e k
  replace e : pIsN ds = some res := e
  unfold pIsN at e
  split at e
  all_goals (try (cases e; done))
  obtain ⟨x, y, rfl, h1, h2⟩ := rp.two
  injection e with e
  subst e
  refine ⟨h2.non', ?_⟩
  rw [h1.isNon]
  exact k _ (Rep.ofBl _)
theorem ok_notN : PrimOk K .notN (l2 rNotN) := by
  intro ds res vs H G Q le rp e k
  replace e : pNotN ds = some res := e
  unfold pNotN at e
  split at e
  all_goals (try (cases e; done))
  rename_i a
  obtain ⟨x, y, rfl, h1, h2⟩ := rp.two
  injection e with e
  subst e
  refine ⟨h2.non', ?_⟩
  rw [h1.isNon]
  exact k _ (Rep.ofBl _)
def rIsBB : R2 := fun x y H Q => ∃ a b, x = .bl a ∧ y = .bl b ∧ Q (.bl (decide (a = b))) H
def rNotBB : R2 := fun x y H Q => ∃ a b, x = .bl a ∧ y = .bl b ∧ Q (.bl (!decide (a = b))) H
theorem ok_isB : PrimOk K .isB (l2 rIsBB) := by
  intro ds res vs H G Q le rp e k
  replace e : pIsB ds = some res := e
  unfold pIsB at e
  split at e <;> cases e
  obtain ⟨x, y, rfl, h1, h2⟩ := rp.two
  exact ⟨_, _, h1.bl', h2.bl', k _ (Rep.ofBl _)⟩
theorem ok_notB : PrimOk K .notB (l2 rNotBB) := by
  intro ds res vs H G Q le rp e k
  replace e : pNotB ds = some res := e
  unfold pNotB at e
  split at e <;> cases e
  obtain ⟨x, y, rfl, h1, h2⟩ := rp.two
  exact ⟨_, _, h1.bl', h2.bl', k _ (Rep.ofBl _)⟩
theorem keyOf_rep {d : D} {k : Key} {v : V} (e : keyOf d = some k) (h : Rep K G H d v) : v = kV k := by
  cases d <;> cases e
  · exact h.int'
  · exact h.str'
theorem keysOf_rep : ∀ {ds : List D} {k : List Key} {vs : List V}, keysOf ds = some k → RepL K G H ds vs → vs = k.map kV
  | [], k, vs, e, h => by
    cases e
    exact h.unnil
  | d :: ds, k, vs, e, h => by
    obtain ⟨v, r, rfl, h1, h2⟩ := h.uncons
    unfold keysOf at e
    cases q : keyOf d with
    | none => rw [q] at e; cases e
    | some x =>
      rw [q] at e
      cases q2 : keysOf ds with
      | none => rw [q2] at e; cases e
      | some y =>
        rw [q2] at e
        cases e
        rw [keyOf_rep q h1, keysOf_rep q2 h2]
        rfl
theorem look_val {κ : Type} [DecidableEq κ] (k : κ) : ∀ {ks : List κ} {ds : List D} {vs : List V}, ks.length = vs.length → RepL K G H ds vs →
    (match look ks ds k with
      | none => valV (ks.zip vs) k = none
      | some d => ∃ v, valV (ks.zip vs) k = some v ∧ Rep K G H d v)
  | [], ds, vs, hl, h => by
    cases vs with
    | nil => rfl
    | cons _ _ => cases hl
  | x :: ks, [], vs, hl, h => by
    rw [h.unnil] at hl
    cases hl
  | x :: ks, d :: ds, vs, hl, h => by
    obtain ⟨v, r, rfl, h1, h2⟩ := h.uncons
    have ih := look_val k (ks := ks) (Nat.succ.inj hl) h2
    by_cases hx : x = k
    · have e : look (x :: ks) (d :: ds) k = some d := by simp [look, hx]
      rw [e]
      exact ⟨v, by rw [List.zip_cons_cons, valV_pos hx], h1⟩
    · have e : look (x :: ks) (d :: ds) k = look ks ds k := by simp [look, hx]
      rw [e, List.zip_cons_cons, valV_neg (p := (x, v)) hx]
      exact ih
def OptRep (K : KP) (G H : Hp) : Option D → Option V → Prop
  | none, r => r = none
  | some d, r => ∃ v, r = some v ∧ Rep K G H d v
theorem lookD_ok {a k : D} {o : Option D} {x y : V} (le : Le G H) (e : lookD a k = some o) (h1 : Rep K G H a x) (h2 : Rep K G H k y) :
    ∃ p r, x = .ref p ∧ DGet H p y r ∧ OptRep K G H o r := by
  unfold lookD at e
  split at e
  · rename_i ks ds kd
    cases q : keysOf kd with
    | none => rw [q] at e; cases e
    | some k =>
      rw [q] at e
      cases e
      obtain ⟨p, vs, rfl, h3, h4, h5⟩ := h1.dT'
      obtain ⟨b, ws, rfl, h6, h7⟩ := h2.tup'
      rw [keysOf_rep q h7] at h6
      refine ⟨p, _, rfl, .inr ⟨_, k, b, .inl (le _ _ h3), rfl, h6, rfl⟩, ?_⟩
      have := look_val k h4 h5
      show OptRep K G H (look ks ds k) _
      cases ql : look ks ds k with
      | none => rw [ql] at this; exact this
      | some d => rw [ql] at this; exact this
  · rename_i ks ds i
    cases e
    obtain ⟨p, vs, rfl, h3, h4, h5⟩ := h1.dK'
    refine ⟨p, _, rfl, .inl ⟨_, .inl i, .inl (le _ _ h3), h2.int', rfl⟩, ?_⟩
    have := look_val (Sum.inl i : Key) h4 h5
    cases ql : look ks ds (Sum.inl i : Key) with
    | none => rw [ql] at this; exact this
    | some d => rw [ql] at this; exact this
  · rename_i ks ds i
    cases e
    obtain ⟨p, vs, rfl, h3, h4, h5⟩ := h1.dK'
    refine ⟨p, _, rfl, .inl ⟨_, .inr i, .inl (le _ _ h3), h2.str', rfl⟩, ?_⟩
    have := look_val (Sum.inr i : Key) h4 h5
    cases ql : look ks ds (Sum.inr i : Key) with
    | none => rw [ql] at this; exact this
    | some d => rw [ql] at this; exact this
  · cases e
def rInT (K : PySem.W.Frag) : R2 := fun x y H Q => ∃ d ds, Dp K H x d ∧ Dp K H y (.tuple ds) ∧ SeqAt.shaped d = true ∧ SeqAt.shaped (.tuple ds) = true ∧ Q (.bl (ds.any fun z => PyData.eqv z d)) H
def rNotInT (K : PySem.W.Frag) : R2 := fun x y H Q => ∃ d ds, Dp K H x d ∧ Dp K H y (.tuple ds) ∧ SeqAt.shaped d = true ∧ SeqAt.shaped (.tuple ds) = true ∧ Q (.bl (!ds.any fun z => PyData.eqv z d)) H
theorem op_inT {X : Cx} (hu : X.A.units + 65 < cLine) : OpR X (compareOp .In) (rInT X.K) := by
  intro pins s σ H x y v u Q I rx ry h
  obtain ⟨d, ds, hd, he, sd, se, q⟩ := h
  obtain ⟨as, r1⟩ := Dp.reads I d x v hd rx
  obtain ⟨bs, r2⟩ := Dp.reads I (.tuple ds) y u he ry
  exact SeqAt.in_tuple_reads r2 r1 (SeqAt.canLay_of_shaped se) (SeqAt.canLay_of_shaped sd) (PyProof.Rows.room_in_shaped sd hu) ⟨.bl _, H, I, rfl, q⟩
theorem op_notInT {X : Cx} (hu : X.A.units + 65 < cLine) : OpR X (compareOp .NotIn) (rNotInT X.K) := by
  intro pins s σ H x y v u Q I rx ry h
  obtain ⟨d, ds, hd, he, sd, se, q⟩ := h
  obtain ⟨as, r1⟩ := Dp.reads I d x v hd rx
  obtain ⟨bs, r2⟩ := Dp.reads I (.tuple ds) y u he ry
  exact SeqAt.notIn_tuple_reads r2 r1 (SeqAt.canLay_of_shaped se) (SeqAt.canLay_of_shaped sd) (PyProof.Rows.room_in_shaped sd hu) ⟨.bl _, H, I, rfl, q⟩
def rInK : R2 := fun y x H Q => ∃ a o, x = .ref a ∧ DGet H a y o ∧ Q (.bl o.isSome) H
def rNotInK : R2 := fun y x H Q => ∃ a o, x = .ref a ∧ DGet H a y o ∧ Q (.bl (!o.isSome)) H
theorem op_inK {X : Cx} (hu : X.A.units + 1 < cLine) : OpR X (compareOp .In) rInK := by
  intro pins s σ H x y v u Q I rx ry h
  obtain ⟨a, o, rfl, g, q⟩ := h
  obtain rfl : u = Value.ref a := ry
  exact d_in hu I g rx fun s' I' => ⟨.bl o.isSome, H, I', rfl, q⟩
theorem op_notInK {X : Cx} (hu : X.A.units + 1 < cLine) : OpR X (compareOp .NotIn) rNotInK := by
  intro pins s σ H x y v u Q I rx ry h
  obtain ⟨a, o, rfl, g, q⟩ := h
  obtain rfl : u = Value.ref a := ry
  exact d_notIn hu I g rx fun s' I' => ⟨.bl (!o.isSome), H, I', rfl, q⟩
def rInG : R2 := fun x y H Q => ∃ (c : Nat) (z : Str), x = .str ⟨#[c]⟩ ∧ y = .str z ∧ Q (.bl (decide (c ∈ z.cps.toList))) H
def rNotInG : R2 := fun x y H Q => ∃ (c : Nat) (z : Str), x = .str ⟨#[c]⟩ ∧ y = .str z ∧ Q (.bl (!decide (c ∈ z.cps.toList))) H
def rInA (K : PySem.W.Frag) : R2 := fun x y H Q => rInD K x y H Q ∨ rInT K x y H Q ∨ rInK x y H Q ∨ rInG x y H Q
def rNotInA (K : PySem.W.Frag) : R2 := fun x y H Q => rNotInD K x y H Q ∨ rNotInT K x y H Q ∨ rNotInK x y H Q ∨ rNotInG x y H Q
theorem op_inA {X : Cx} (hu : X.A.units + 65 < cLine) : OpR X (compareOp .In) (rInA X.K) := (op_inD hu).or ((op_inT hu).or ((op_inK (by omega)).or op_in_sign))
theorem op_notInA {X : Cx} (hu : X.A.units + 65 < cLine) : OpR X (compareOp .NotIn) (rNotInA X.K) := (op_notInD hu).or ((op_notInT hu).or ((op_notInK (by omega)).or op_notIn_sign))
theorem inD_ok {a b : D} {c : Bool} {x y : V} (le : Le G H) (e : inD a b = some c) (h1 : Rep K G H a x) (h2 : Rep K G H b y) :
    (∃ d ds, Dp K H x d ∧ Dp K H y (.list ds) ∧ SeqAt.shaped d = true ∧ SeqAt.shaped (.list ds) = true ∧ (ds.any fun z => PyData.eqv z d) = c) ∨
    (∃ d ds, Dp K H x d ∧ Dp K H y (.tuple ds) ∧ SeqAt.shaped d = true ∧ SeqAt.shaped (.tuple ds) = true ∧ (ds.any fun z => PyData.eqv z d) = c) ∨
    (∃ p o, y = .ref p ∧ DGet H p x o ∧ o.isSome = c) ∨
    ∃ (g : Nat) (z : Str), x = .str ⟨#[g]⟩ ∧ y = .str z ∧ decide (g ∈ z.cps.toList) = c := by
  unfold inD at e
  split at e
  · split at e
    · rename_i hs
      cases e
      have hs := Bool.and_eq_true_iff.mp hs
      refine .inl ⟨_, _, h1.dp le (SeqAt.canLay_of_shaped hs.1), ?_, hs.1, hs.2, rfl⟩
      have := h2.dp le (SeqAt.canLay_of_shaped (by unfold toPy; exact hs.2))
      unfold toPy at this
      exact this
    · cases e
  · split at e
    · rename_i hs
      cases e
      have hs := Bool.and_eq_true_iff.mp hs
      refine .inr (.inl ⟨_, _, h1.dp le (SeqAt.canLay_of_shaped hs.1), ?_, hs.1, hs.2, rfl⟩)
      have := h2.dp le (SeqAt.canLay_of_shaped (by unfold toPy; exact hs.2))
      unfold toPy at this
      exact this
    · cases e
  · rename_i ks ds
    cases q : lookD (.dT ks ds) a with
    | none => rw [q] at e; cases e
    | some o =>
      rw [q] at e
      cases e
      obtain ⟨p, r, h3, h4, h5⟩ := lookD_ok le q h2 h1
      refine .inr (.inr (.inl ⟨p, r, h3, h4, ?_⟩))
      cases o with
      | none => rw [show r = none from h5]; rfl
      | some d => obtain ⟨v, hv, _⟩ := h5; rw [hv]; rfl
  · rename_i ks ds
    cases q : lookD (.dK ks ds) a with
    | none => rw [q] at e; cases e
    | some o =>
      rw [q] at e
      cases e
      obtain ⟨p, r, h3, h4, h5⟩ := lookD_ok le q h2 h1
      refine .inr (.inr (.inl ⟨p, r, h3, h4, ?_⟩))
      cases o with
      | none => rw [show r = none from h5]; rfl
      | some d => obtain ⟨v, hv, _⟩ := h5; rw [hv]; rfl
  · rename_i z
    split at e
    · rename_i g
      split at e
      · rename_i hg
        cases e
        have : ∃ q, g = ⟨#[q]⟩ := by
          obtain ⟨cs⟩ := g
          obtain ⟨l⟩ := cs
          match l, hg with
          | [q], _ => exact ⟨q, rfl⟩
        obtain ⟨q, rfl⟩ := this
        exact .inr (.inr (.inr ⟨q, z, h1.str', h2.str', rfl⟩))
      · cases e
    · cases e
  · cases e
theorem ok_inn : PrimOk K .inn (l2 (rInA K)) := by
  intro ds res vs H G Q le rp e k
  replace e : pInn ds = some res := e
  unfold pInn at e
  split at e
  all_goals (try (cases e; done))
  obtain ⟨b, e1, e2⟩ := obind e
  cases e2
  obtain ⟨x, y, rfl, h1, h2⟩ := rp.two
  rcases inD_ok le e1 h1 h2 with ⟨d, es, a1, a2, a3, a4, rfl⟩ | ⟨d, es, a1, a2, a3, a4, rfl⟩ | ⟨p, o, a1, a2, rfl⟩ | ⟨g, z, a1, a2, rfl⟩
  · exact .inl ⟨d, es, a1, a2, a3, a4, k _ (Rep.ofBl _)⟩
  · exact .inr (.inl ⟨d, es, a1, a2, a3, a4, k _ (Rep.ofBl _)⟩)
  · exact .inr (.inr (.inl ⟨p, o, a1, a2, k _ (Rep.ofBl _)⟩))
  · exact .inr (.inr (.inr ⟨g, z, a1, a2, k _ (Rep.ofBl _)⟩))
theorem ok_nin : PrimOk K .nin (l2 (rNotInA K)) := by
  intro ds res vs H G Q le rp e k
  replace e : pNin ds = some res := e
  unfold pNin at e
  split at e
  all_goals (try (cases e; done))
  obtain ⟨b, e1, e2⟩ := obind e
  cases e2
  obtain ⟨x, y, rfl, h1, h2⟩ := rp.two
  rcases inD_ok le e1 h1 h2 with ⟨d, es, a1, a2, a3, a4, rfl⟩ | ⟨d, es, a1, a2, a3, a4, rfl⟩ | ⟨p, o, a1, a2, rfl⟩ | ⟨g, z, a1, a2, rfl⟩
  · exact .inl ⟨d, es, a1, a2, a3, a4, k _ (Rep.ofBl _)⟩
  · exact .inr (.inl ⟨d, es, a1, a2, a3, a4, k _ (Rep.ofBl _)⟩)
  · exact .inr (.inr (.inl ⟨p, o, a1, a2, k _ (Rep.ofBl _)⟩))
  · exact .inr (.inr (.inr ⟨g, z, a1, a2, k _ (Rep.ofBl _)⟩))
theorem atI_rep {ds : List D} {vs : List V} {i : Int} {d : D} (h : RepL K G H ds vs) (e : atI ds i = some d) : ∃ v, atI vs i = some v ∧ Rep K G H d v := by
  unfold atI at e ⊢
  rw [← h.len]
  cases q : ixN ds.length i with
  | none => rw [q] at e; cases e
  | some j =>
    rw [q] at e
    obtain ⟨v, h1, h2⟩ := h.get (j := j) e
    exact ⟨v, h1, h2⟩
theorem atI_map {α β : Type} (f : α → β) (xs : List α) (i : Int) : atI (xs.map f) i = (atI xs i).map f := by
  unfold atI
  rw [List.length_map]
  cases ixN xs.length i with
  | none => rfl
  | some j => simp
def rDG : R2 := fun x y H Q => ∃ a v, x = .ref a ∧ DGet H a y (some v) ∧ Q v H
open PySem.Spec PyProof.Rows in
theorem ix_dict {X : Cx} (hu : X.A.units + 1 < cLine) : IxR X rDG := by
  intro value slice pins s σ H x y v u Q I rx ry h hs
  obtain ⟨a, z, rfl, g, q⟩ := h
  obtain rfl : v = Value.ref a := rx
  have hT := dict_typeIs I g
  unfold subscriptTail
  refine wpAny_bind ?_
  rw [getitemInPython_of_ne hT.not_modules]
  refine wpAny_bind (wpAny_specialOf hT PySem.F.slot_dict_getitem.lookup ?_)
  have fin : wpAny (model X.prog X.w) X.A (subscripted slice false (.ref a) u) (fun r s₃ => wpAny (model X.prog X.w) X.A (letTemporaryGo value (.ref a) r >>= fun _ => pure r) (EP X pins σ Q) X.xe s₃) X.xe s := by
    rw [hs]
    exact wpAny_operating (wpAny_mono (d_getItem hu I g ry fun w' s' I' rw' => ⟨z, H, I', rw', q⟩) (fun r s₃ h₃ => wpAny_bind (wpAny_letTemporaryGo (wpAny_pure h₃))) fun _ _ x => x)
  first
    | exact wpAny_pure (wpAny_bind fin)
    | exact wpAny_bind (wpAny_pure (wpAny_bind fin))
    | exact wpAny_bind fin
def rIxA (K : PySem.W.Frag) : R2 := fun x y H Q => rIx K x y H Q ∨ rDG x y H Q
theorem ix_any {X : Cx} (hu : X.A.units + 1 < cLine) : IxR X (rIxA X.K) := ix_seq.or (ix_dict hu)
theorem ok_ix : PrimOk K .ix (l2 (rIxA K)) := by
  intro ds res vs H G Q le rp e k
  replace e : pIx ds = some res := e
  unfold pIx at e
  split at e
  all_goals (try (cases e; done))
  obtain ⟨d, e1, e2⟩ := obind e
  cases e2
  obtain ⟨x, y, rfl, h1, h2⟩ := rp.two
  have dct : ∀ a b, lookD a b = some (some d) → Rep K G H a x → Rep K G H b y → l2 (rIxA K) [x, y] H Q := fun a b hl ha hb => by
    obtain ⟨p, r, h3, h4, h5⟩ := lookD_ok le hl ha hb
    obtain ⟨v, rfl, hv⟩ := h5
    exact .inr ⟨p, v, h3, h4, k _ hv⟩
  unfold ixD at e1
  split at e1
  · obtain ⟨a, us, rfl, ha, hu⟩ := h1.lst'
    obtain ⟨v, h3, h4⟩ := atI_rep hu e1
    exact .inl (.inl ⟨a, us, _, v, rfl, h2.int', SqL.of (le _ _ ha), h3, k _ h4⟩)
  · obtain ⟨a, us, rfl, ha, hu⟩ := h1.tup'
    obtain ⟨v, h3, h4⟩ := atI_rep hu e1
    exact .inl (.inr (.inl ⟨a, us, _, v, rfl, h2.int', SqT.of ha, h3, k _ h4⟩))
  · rename_i ns i
    obtain ⟨a, rfl, ha⟩ := h1.scr'
    cases q : atI ns i with
    | none => rw [q] at e1; cases e1
    | some n =>
      rw [q] at e1
      cases e1
      refine .inl (.inl ⟨a, _, i, .int n, rfl, h2.int', sql_le le ha, ?_, k _ (Rep.ofInt n)⟩)
      rw [atI_map, q]
      rfl
  · rename_i z i
    split at e1
    · rename_i hz
      cases q : atI z.cps.toList i with
      | none => rw [q] at e1; cases e1
      | some c =>
        rw [q] at e1
        cases e1
        exact .inl (.inr (.inr ⟨z, i, c, h1.str', h2.int', hz, q, k _ (Rep.ofStr _)⟩))
    · cases e1
  · rename_i ks es kd
    refine dct _ _ ?_ h1 h2
    simp only [lookD]
    cases q : keysOf kd with
    | none => rw [q] at e1; cases e1
    | some kk =>
      rw [q] at e1
      show some (look ks es kk) = _
      rw [show look ks es kk = some d from e1]
  · refine dct _ _ ?_ h1 h2
    simp only [lookD]
    rw [e1]
  · refine dct _ _ ?_ h1 h2
    simp only [lookD]
    rw [e1]
  · cases e1
def rLenA (K : PySem.W.Frag) : List V → Hp → VK → Prop := fun xs H Q => (∃ p ys, xs = [.ref p] ∧ (SqL K H p ys ∨ SqT K H p ys) ∧ Q (.int ys.length) H) ∨ rLenT xs H Q ∨ (∃ a kvs, xs = [V.ref a] ∧ H a = some (.dK kvs) ∧ Q (.int kvs.length) H) ∨ ∃ z, xs = [.str z] ∧ z.length ≤ sizeLine ∧ Q (.int z.length) H
theorem call_lenA {X : Cx} : CallR X (.builtin "len") (rLenA X.K) := by
  intro pins s σ H xs us Q I r h
  rcases h with h | h | h | h
  · exact call_len_seq pins s σ H xs us Q I r h
  · exact call_len_dT pins s σ H xs us Q I r h
  · exact call_lenD pins s σ H xs us Q I r h
  · exact call_len_str pins s σ H xs us Q I r h
theorem ok_len : PrimOk K .len (rLenA K) := by
  intro ds res vs H G Q le rp e k
  replace e : pLen ds = some res := e
  unfold pLen at e
  split at e
  all_goals (try (cases e; done))
  obtain ⟨d, e1, e2⟩ := obind e
  cases e2
  obtain ⟨x, rfl, h1⟩ := rp.one'
  unfold lenD at e1
  split at e1
  · cases e1
    obtain ⟨a, us, rfl, ha, hu⟩ := h1.lst'
    refine .inl ⟨a, us, rfl, .inl (SqL.of (le _ _ ha)), ?_⟩
    rw [← hu.len]
    exact k _ (Rep.ofInt _)
  · cases e1
    obtain ⟨a, us, rfl, ha, hu⟩ := h1.tup'
    refine .inl ⟨a, us, rfl, .inr (SqT.of ha), ?_⟩
    rw [← hu.len]
    exact k _ (Rep.ofInt _)
  · cases e1
    obtain ⟨a, rfl, ha⟩ := h1.scr'
    refine .inl ⟨a, _, rfl, .inl (sql_le le ha), ?_⟩
    rw [List.length_map]
    exact k _ (Rep.ofInt _)
  · cases e1
    rename_i ks es
    obtain ⟨a, us, rfl, ha, hl, hu⟩ := h1.dT'
    refine .inr (.inl ⟨a, _, rfl, le _ _ ha, ?_⟩)
    have : (ks.zip us).length = ks.length := by rw [List.length_zip]; omega
    rw [this]
    exact k _ (Rep.ofInt _)
  · cases e1
    rename_i ks es
    obtain ⟨a, us, rfl, ha, hl, hu⟩ := h1.dK'
    refine .inr (.inr (.inl ⟨a, _, rfl, le _ _ ha, ?_⟩))
    have : (ks.zip us).length = ks.length := by rw [List.length_zip]; omega
    rw [this]
    exact k _ (Rep.ofInt _)
  · split at e1
    · rename_i hz
      cases e1
      exact .inr (.inr (.inr ⟨_, by rw [h1.str'], hz, k _ (Rep.ofInt _)⟩))
    · cases e1
  · cases e1
def rMin2 : List V → Hp → VK → Prop := fun xs H Q => ∃ i j, xs = [.int i, .int j] ∧ Q (.int (if j < i then j else i)) H
def rMax2 : List V → Hp → VK → Prop := fun xs H Q => ∃ i j, xs = [.int i, .int j] ∧ Q (.int (if j > i then j else i)) H
def rAbs : List V → Hp → VK → Prop := fun xs H Q => ∃ i, xs = [.int i] ∧ Q (.int (if i < 0 then -i else i)) H
theorem ok_min2 : PrimOk K .min2 rMin2 := by
  intro ds res vs H G Q le rp e k
  replace e : pMin2 ds = some res := e
  unfold pMin2 at e
  split at e <;> cases e
  obtain ⟨x, y, rfl, h1, h2⟩ := rp.two
  rw [h1.int', h2.int']
  exact ⟨_, _, rfl, k _ (Rep.ofInt _)⟩
theorem ok_max2 : PrimOk K .max2 rMax2 := by
  intro ds res vs H G Q le rp e k
  replace e : pMax2 ds = some res := e
  unfold pMax2 at e
  split at e <;> cases e
  obtain ⟨x, y, rfl, h1, h2⟩ := rp.two
  rw [h1.int', h2.int']
  exact ⟨_, _, rfl, k _ (Rep.ofInt _)⟩
theorem ok_abs : PrimOk K .abs rAbs := by
  intro ds res vs H G Q le rp e k
  replace e : pAbs ds = some res := e
  unfold pAbs at e
  split at e <;> cases e
  obtain ⟨x, rfl, h1⟩ := rp.one'
  rw [h1.int']
  exact ⟨_, rfl, k _ (Rep.ofInt _)⟩
theorem ints_rep : ∀ {ds : List D} {ns : List Int} {vs : List V}, intsOf ds = some ns → RepL K G H ds vs → vs = ns.map V.int
  | [], ns, vs, e, h => by
    cases e
    rw [h.unnil]
    rfl
  | d :: ds, ns, vs, e, h => by
    obtain ⟨v, r, rfl, h1, h2⟩ := h.uncons
    cases d with
    | int i =>
      unfold intsOf at e
      cases q : intsOf ds with
      | none => rw [q] at e; cases e
      | some ms =>
        rw [q] at e
        cases e
        rw [h1.int', ints_rep q h2]
        rfl
    | _ => unfold intsOf at e; cases e
theorem ok_sum : PrimOk K .sum (rSum K) := by
  intro ds res vs H G Q le rp e k
  replace e : pSum ds = some res := e
  unfold pSum at e
  split at e
  all_goals (try (cases e; done))
  obtain ⟨d, e1, e2⟩ := obind e
  cases e2
  obtain ⟨x, rfl, h1⟩ := rp.one'
  obtain ⟨a, us, rfl, ha, hu⟩ := h1.lst'
  rw [ints_rep e1 hu] at ha
  exact ⟨a, _, rfl, SqL.of (le _ _ ha), k _ (Rep.ofInt _)⟩
theorem minI_mem : ∀ {ns : List Int}, ns ≠ [] → minI ns ∈ ns ∧ ∀ y ∈ ns, minI ns ≤ y
  | [], h => (h rfl).elim
  | [x], _ => ⟨List.mem_singleton.mpr rfl, fun y hy => by rw [List.mem_singleton.mp hy]; exact Int.le_refl _⟩
  | x :: z :: r, _ => by
    obtain ⟨h1, h2⟩ := minI_mem (ns := z :: r) (by simp)
    have e : minI (x :: z :: r) = min x (minI (z :: r)) := rfl
    rw [e]
    refine ⟨?_, fun y hy => ?_⟩
    · by_cases h : x ≤ minI (z :: r)
      · rw [show min x (minI (z :: r)) = x by omega]
        exact List.mem_cons_self
      · rw [show min x (minI (z :: r)) = minI (z :: r) by omega]
        exact List.mem_cons_of_mem _ h1
    · rcases List.mem_cons.mp hy with rfl | hy
      · omega
      · have := h2 y hy
        omega
theorem maxI_mem : ∀ {ns : List Int}, ns ≠ [] → maxI ns ∈ ns ∧ ∀ y ∈ ns, y ≤ maxI ns
  | [], h => (h rfl).elim
  | [x], _ => ⟨List.mem_singleton.mpr rfl, fun y hy => by rw [List.mem_singleton.mp hy]; exact Int.le_refl _⟩
  | x :: z :: r, _ => by
    obtain ⟨h1, h2⟩ := maxI_mem (ns := z :: r) (by simp)
    have e : maxI (x :: z :: r) = max x (maxI (z :: r)) := rfl
    rw [e]
    refine ⟨?_, fun y hy => ?_⟩
    · by_cases h : maxI (z :: r) ≤ x
      · rw [show max x (maxI (z :: r)) = x by omega]
        exact List.mem_cons_self
      · rw [show max x (maxI (z :: r)) = maxI (z :: r) by omega]
        exact List.mem_cons_of_mem _ h1
    · rcases List.mem_cons.mp hy with rfl | hy
      · omega
      · have := h2 y hy
        omega
theorem dpAll_of : ∀ {bs : List (V × PyData)}, (∀ b ∈ bs, Dp K H b.1 b.2 ∧ SeqAt.shaped b.2 = true) → DpAll K H (bs.map (·.1)) (bs.map (·.2))
  | [], _ => .nil
  | b :: bs, h => .cons (h b List.mem_cons_self).1 (dpAll_of fun c hc => h c (List.mem_cons_of_mem _ hc))
theorem depth_of : ∀ {bs : List (V × PyData)}, (∀ b ∈ bs, SeqAt.shaped b.2 = true) → PyData.depthAll (bs.map (·.2)) ≤ 64
  | [], _ => by unfold PyData.depthAll; exact Nat.zero_le _
  | b :: bs, h => by
    have h1 := h b List.mem_cons_self
    have h2 := depth_of fun c hc => h c (List.mem_cons_of_mem _ hc)
    unfold SeqAt.shaped at h1
    have h3 := of_decide_eq_true (Bool.and_eq_true_iff.mp h1).2
    show PyData.depthAll (b.2 :: bs.map (·.2)) ≤ 64
    unfold PyData.depthAll
    exact Nat.max_le.mpr ⟨h3, h2⟩
theorem toPy_ne {d : D} (h : isNonD d = false) (z : toPy d = .none) : False := by
  cases d with
  | non => cases h
  | _ => unfold toPy at z; cases z
mutual
theorem toPy_inj : ∀ {a b : D}, (toPy a).canLay0 = true → toPy a = toPy b → a = b
  | .non, b, c, e => by cases b <;> first | rfl | (unfold toPy at e; cases e)
  | .bl x, b, c, e => by cases b <;> first | (unfold toPy at e; cases e; rfl) | (unfold toPy at e; cases e)
  | .int x, b, c, e => by cases b <;> first | (unfold toPy at e; cases e; rfl) | (unfold toPy at e; cases e)
  | .str x, b, c, e => by cases b <;> first | (unfold toPy at e; cases e; rfl) | (unfold toPy at e; cases e)
  | .tup x, b, c, e => by
    cases b with
    | tup y =>
      unfold toPy at e
      unfold toPy PyData.canLay0 at c
      rw [toPyL_inj c (PyData.tuple.inj e)]
    | _ => unfold toPy at e; cases e
  | .lst x, b, c, e => by
    cases b with
    | lst y =>
      unfold toPy at e
      unfold toPy PyData.canLay0 at c
      rw [toPyL_inj c (PyData.list.inj e)]
    | _ => unfold toPy at e; cases e
  | .dT _ _, _, c, _ => by unfold toPy PyData.canLay0 at c; cases c
  | .dK _ _, _, c, _ => by unfold toPy PyData.canLay0 at c; cases c
  | .scr _, _, c, _ => by unfold toPy PyData.canLay0 at c; cases c
  | .exn _ _ _, _, c, _ => by unfold toPy PyData.canLay0 at c; cases c
theorem toPyL_inj : ∀ {a b : List D}, PyData.canLayAll0 (toPyL a) = true → toPyL a = toPyL b → a = b
  | [], b, c, e => by
    cases b with
    | nil => rfl
    | cons y ys => unfold toPyL at e; cases e
  | x :: xs, b, c, e => by
    cases b with
    | nil => unfold toPyL at e; cases e
    | cons y ys =>
      unfold toPyL at e
      unfold toPyL PyData.canLayAll0 at c
      have c2 := Bool.and_eq_true_iff.mp c
      rw [toPy_inj c2.1 (List.cons.inj e).1, toPyL_inj c2.2 (List.cons.inj e).2]
end
theorem RepL.zip : ∀ {ds : List D} {vs : List V}, RepL K G H ds vs → (∀ p ∈ vs.zip ds, Rep K G H p.2 p.1) ∧ ds.length = vs.length
  | [], vs, h => by
    rw [h.unnil]
    exact ⟨fun p hp => (List.not_mem_nil hp).elim, rfl⟩
  | d :: ds, vs, h => by
    obtain ⟨v, w, rfl, h1, h2⟩ := h.uncons
    obtain ⟨h3, h4⟩ := RepL.zip h2
    refine ⟨fun p hp => ?_, congrArg Nat.succ h4⟩
    rcases List.mem_cons.mp (show p ∈ (v, d) :: w.zip ds from hp) with rfl | hp
    · exact h1
    · exact h3 p hp
theorem RepL.ofZip : ∀ {zs : List (V × D)}, (∀ p ∈ zs, Rep K G H p.2 p.1) → RepL K G H (zs.map (·.2)) (zs.map (·.1))
  | [], _ => RepL.nil
  | z :: zs, h => RepL.cons (h z List.mem_cons_self) (RepL.ofZip fun p hp => h p (List.mem_cons_of_mem _ hp))
def rMinD (K : PySem.W.Frag) : List V → Hp → VK → Prop := fun vs H Q => ∃ (a : Addr) (b0 : V × PyData) (bs : List (V × PyData)), vs = [V.ref a] ∧ (SqL K H a ((b0 :: bs).map (·.1)) ∨ SqT K H a ((b0 :: bs).map (·.1))) ∧ (∀ b ∈ b0 :: bs, Dp K H b.1 b.2 ∧ SeqAt.shaped b.2 = true) ∧ PySem.W.AlikeAll ((b0 :: bs).map (·.2)) ∧
  ∀ b ∈ b0 :: bs, b.2 = PySem.W.minD b0.2 (bs.map (·.2)) → Q b.1 H
theorem cr_minD {X : Cx} (hc : X.calm = true) (hu : X.A.units + 66 < cLine) : CallR X (.builtin "min") (rMinD X.K) := by
  intro pins s σ H vs us Q I r h
  obtain ⟨a, b0, bs, rfl, hs, hd, hal, q⟩ := h
  have main : ∀ its : List Value, Vals ((b0 :: bs).map (·.1)) its → ∃ as, PySem.ReadsAll s.heap its ((b0 :: bs).map (·.2)) as := fun its rv => by
    refine Dp.readsAll I _ _ _ ?_ rv
    exact dpAll_of (K := ⟨X.K, none⟩) hd
  have hdep : PyData.depthAll ((b0 :: bs).map (·.2)) ≤ 64 := depth_of fun b hb => (hd b hb).2
  have fin : ∀ its : List Value, Vals ((b0 :: bs).map (·.1)) its → ∀ (i : Nat) v h' tk as2, its.toArray[i]? = some v → PySem.Reads h' v (PySem.W.minD b0.2 (bs.map (·.2))) as2 → (∀ b o, s.heap.get? b = some o → h'.get? b = some o) → EP X pins σ Q v { s with heap := h', toks := tk } := by
    intro its rv i v h' tk as2 hv hr hk
    obtain ⟨as, hra⟩ := main its rv
    obtain ⟨as3, hr3, hi, _, _⟩ := PySem.W.readsAll_at hra i v (by simpa using hv)
    have hi2 : i < (b0 :: bs).length := by simpa using hi
    have hm : (b0 :: bs)[i] ∈ b0 :: bs := List.getElem_mem hi2
    have e2 : ((b0 :: bs).map (·.2)).getD i .none = (b0 :: bs)[i].2 := by
      rw [List.getD_eq_getElem?_getD, List.getElem?_map, List.getElem?_eq_getElem hi2]
      rfl
    rw [e2] at hr3
    have e3 := SeqAt.Reads.unique _ _ _ _ _ (SeqAt.canLay_of_shaped (hd _ hm).2) (PySem.W.reads_keeps hk hr3) hr
    have hrel : RelV (b0 :: bs)[i].1 v := by
      have : ∀ (xs : List V) (us : List Value) (i : Nat) (x : V) (u : Value), Vals xs us → xs[i]? = some x → us[i]? = some u → RelV x u := by
        intro xs
        induction xs with
        | nil => intro us i x u h hx; simp at hx
        | cons y ys ih =>
          intro us i x u h hx hu
          cases h with
          | cons h1 h2 =>
            cases i with
            | zero => simp at hx hu; subst hx hu; exact h1
            | succ i => exact ih _ i x u h2 (by simpa using hx) (by simpa using hu)
      refine this _ _ i _ _ rv ?_ (by simpa using hv)
      rw [List.getElem?_map, List.getElem?_eq_getElem hi2]
      rfl
    exact ⟨_, H, I.kept (t' := tk) hk, hrel, q _ hm e3⟩
  rcases hs with hs | hs
  · obtain ⟨its, rv, hli, _⟩ := I.list hs
    rw [Vals.ref1 r]
    obtain ⟨as, hra⟩ := main its rv
    exact PySem.W.min_list_data (I.ok.hd hc) hli.isList hra hal (by show X.A.units + 1 + PyData.depthAll ((b0 :: bs).map (·.2)) < cLine; omega) (fin its rv)
  · obtain ⟨its, rv, hli, _⟩ := I.tuple hs
    rw [Vals.ref1 r]
    obtain ⟨as, hra⟩ := main its rv
    exact PySem.W.min_tuple_data (I.ok.hd hc) hli hra hal (by show X.A.units + 1 + PyData.depthAll ((b0 :: bs).map (·.2)) < cLine; omega) (fin its rv)
theorem minF_py (x : D) (xs : List D) : toPy (minF (x :: xs)) = PySem.W.minD (toPy x) (xs.map toPy) := by
  show toPy (xs.foldl _ x) = (xs.map toPy).foldl _ (toPy x)
  induction xs generalizing x with
  | nil => rfl
  | cons y r ih =>
    rw [List.foldl_cons, List.map_cons, List.foldl_cons, ih]
    congr 1
    unfold ltP
    split <;> rfl
theorem minD_rep {xs : List D} {a : Addr} {us : List V} {Q : VK} (le : Le G H) (hok : alikeOk xs = true) (ha : SqL K H a us ∨ SqT K H a us) (hu : RepL K G H xs us) (k : ∀ v, Rep K G H (minF xs) v → Q v H) : rMinD K [.ref a] H Q := by
  unfold alikeOk at hok
  simp only [Bool.and_eq_true, List.all_eq_true, Bool.not_eq_true'] at hok
  obtain ⟨hok, hne⟩ := hok
  cases xs with
  | nil => cases hne
  | cons x xs =>
    obtain ⟨u, ur, rfl, h1, h2⟩ := hu.uncons
    obtain ⟨hz, hlen⟩ := h2.zip
    have zf : (ur.zip (xs.map toPy)).map (·.1) = ur := List.map_fst_zip (by rw [List.length_map]; omega)
    have zs : (ur.zip (xs.map toPy)).map (·.2) = xs.map toPy := List.map_snd_zip (by rw [List.length_map]; omega)
    have each : ∀ b ∈ (u, toPy x) :: ur.zip (xs.map toPy), ∃ d ∈ x :: xs, b.2 = toPy d ∧ Rep K G H d b.1 := by
      intro b hb
      rcases List.mem_cons.mp hb with rfl | hb
      · exact ⟨x, List.mem_cons_self, rfl, h1⟩
      · rw [List.zip_map_right] at hb
        obtain ⟨p, hp, rfl⟩ := List.mem_map.mp hb
        exact ⟨p.2, List.mem_cons_of_mem _ (List.of_mem_zip hp).2, rfl, hz p hp⟩
    refine ⟨a, (u, toPy x), ur.zip (xs.map toPy), rfl, ?_, fun b hb => ?_, ⟨fun p hp r hr => ?_, fun p hp => ?_⟩, fun b hb e => ?_⟩
    · rw [List.map_cons, zf]
      exact ha
    · obtain ⟨d, hd, e, hr⟩ := each b hb
      have := (hok d hd).1.1
      rw [e]
      exact ⟨hr.dp le (SeqAt.canLay_of_shaped this), this⟩
    · rw [List.map_cons, zs] at hp hr
      have hp' : p ∈ (x :: xs).map toPy := hp
      have hr' : r ∈ (x :: xs).map toPy := hr
      obtain ⟨d, hd, rfl⟩ := List.mem_map.mp hp'
      obtain ⟨d2, hd2, rfl⟩ := List.mem_map.mp hr'
      exact (hok d hd).2 d2 hd2
    · rw [List.map_cons, zs] at hp
      have hp' : p ∈ (x :: xs).map toPy := hp
      obtain ⟨d, hd, rfl⟩ := List.mem_map.mp hp'
      have := (hok d hd).1.2
      intro z
      have ne : isNonD d = false := this
      exact toPy_ne ne z
    · obtain ⟨d, hd, e2, hr⟩ := each b hb
      rw [zs, e2, ← minF_py] at e
      have : d = minF (x :: xs) := toPy_inj (SeqAt.canLay_of_shaped (hok d hd).1.1) e
      subst this
      exact k _ hr
theorem intMin_rep {ns : List Int} {a : Addr} {us : List V} {xs : List D} {Q : VK} (le : Le G H) (hn : ns ≠ []) (e1 : intsOf xs = some ns) (ha : SqL K H a us) (hu : RepL K G H xs us) (k : ∀ v, Rep K G H (.int (minI ns)) v → Q v H) : rMin K [.ref a] H Q := by
  rw [ints_rep e1 hu] at ha
  refine ⟨a, ns, rfl, ha, List.length_pos_iff.mpr hn, fun m hm hl => ?_⟩
  obtain ⟨z1, z2⟩ := minI_mem hn
  have : m = minI ns := by
    have := hl _ z1
    have := z2 _ hm
    omega
  rw [this]
  exact k _ (Rep.ofInt _)
def rMinA (K : PySem.W.Frag) : List V → Hp → VK → Prop := fun vs H Q => rMin K vs H Q ∨ rMinD K vs H Q
theorem cr_minA {X : Cx} (hc : X.calm = true) (hu : X.A.units + 66 < cLine) : CallR X (.builtin "min") (rMinA X.K) := by
  intro pins s σ H xs us Q I r h
  rcases h with h | h
  · exact cr_min hc pins s σ H xs us Q I r h
  · exact cr_minD hc hu pins s σ H xs us Q I r h
theorem ok_minL : PrimOk K .minL (rMinA K) := by
  intro ds res vs H G Q le rp e k
  replace e : pMinL ds = some res := e
  unfold pMinL at e
  split at e
  · obtain ⟨d, e1, e2⟩ := obind e
    cases e2
    obtain ⟨x, rfl, h1⟩ := rp.one'
    obtain ⟨a, us, rfl, ha, hu⟩ := h1.lst'
    unfold minLL at e1
    split at e1
    · rename_i ns q
      by_cases hn : ns = []
      · rw [if_pos hn] at e1
        cases e1
      · rw [if_neg hn] at e1
        cases e1
        exact .inl (intMin_rep le hn q (SqL.of (le _ _ ha)) hu k)
    · split at e1
      · rename_i hok
        cases e1
        exact .inr (minD_rep le hok (.inl (SqL.of (le _ _ ha))) hu k)
      · cases e1
  · split at e
    · rename_i hok
      cases e
      obtain ⟨x, rfl, h1⟩ := rp.one'
      obtain ⟨a, us, rfl, ha, hu⟩ := h1.tup'
      exact .inr (minD_rep le hok (.inr (SqT.of ha)) hu k)
    · cases e
  · cases e
def rMaxD (K : PySem.W.Frag) : List V → Hp → VK → Prop := fun vs H Q => ∃ (a : Addr) (b0 : V × PyData) (bs : List (V × PyData)), vs = [V.ref a] ∧ (SqL K H a ((b0 :: bs).map (·.1)) ∨ SqT K H a ((b0 :: bs).map (·.1))) ∧ (∀ b ∈ b0 :: bs, Dp K H b.1 b.2 ∧ SeqAt.shaped b.2 = true) ∧ PySem.W.AlikeAll ((b0 :: bs).map (·.2)) ∧
  ∀ b ∈ b0 :: bs, b.2 = PySem.W.maxD b0.2 (bs.map (·.2)) → Q b.1 H
theorem cr_maxD {X : Cx} (hc : X.calm = true) (hu : X.A.units + 66 < cLine) : CallR X (.builtin "max") (rMaxD X.K) := by
  intro pins s σ H vs us Q I r h
  obtain ⟨a, b0, bs, rfl, hs, hd, hal, q⟩ := h
  have main : ∀ its : List Value, Vals ((b0 :: bs).map (·.1)) its → ∃ as, PySem.ReadsAll s.heap its ((b0 :: bs).map (·.2)) as := fun its rv => by
    refine Dp.readsAll I _ _ _ ?_ rv
    exact dpAll_of (K := ⟨X.K, none⟩) hd
  have hdep : PyData.depthAll ((b0 :: bs).map (·.2)) ≤ 64 := depth_of fun b hb => (hd b hb).2
  have fin : ∀ its : List Value, Vals ((b0 :: bs).map (·.1)) its → ∀ (i : Nat) v h' tk as2, its.toArray[i]? = some v → PySem.Reads h' v (PySem.W.maxD b0.2 (bs.map (·.2))) as2 → (∀ b o, s.heap.get? b = some o → h'.get? b = some o) → EP X pins σ Q v { s with heap := h', toks := tk } := by
    intro its rv i v h' tk as2 hv hr hk
    obtain ⟨as, hra⟩ := main its rv
    obtain ⟨as3, hr3, hi, _, _⟩ := PySem.W.readsAll_at hra i v (by simpa using hv)
    have hi2 : i < (b0 :: bs).length := by simpa using hi
    have hm : (b0 :: bs)[i] ∈ b0 :: bs := List.getElem_mem hi2
    have e2 : ((b0 :: bs).map (·.2)).getD i .none = (b0 :: bs)[i].2 := by
      rw [List.getD_eq_getElem?_getD, List.getElem?_map, List.getElem?_eq_getElem hi2]
      rfl
    rw [e2] at hr3
    have e3 := SeqAt.Reads.unique _ _ _ _ _ (SeqAt.canLay_of_shaped (hd _ hm).2) (PySem.W.reads_keeps hk hr3) hr
    have hrel : RelV (b0 :: bs)[i].1 v := by
      have : ∀ (xs : List V) (us : List Value) (i : Nat) (x : V) (u : Value), Vals xs us → xs[i]? = some x → us[i]? = some u → RelV x u := by
        intro xs
        induction xs with
        | nil => intro us i x u h hx; simp at hx
        | cons y ys ih =>
          intro us i x u h hx hu
          cases h with
          | cons h1 h2 =>
            cases i with
            | zero => simp at hx hu; subst hx hu; exact h1
            | succ i => exact ih _ i x u h2 (by simpa using hx) (by simpa using hu)
      refine this _ _ i _ _ rv ?_ (by simpa using hv)
      rw [List.getElem?_map, List.getElem?_eq_getElem hi2]
      rfl
    exact ⟨_, H, I.kept (t' := tk) hk, hrel, q _ hm e3⟩
  rcases hs with hs | hs
  · obtain ⟨its, rv, hli, _⟩ := I.list hs
    rw [Vals.ref1 r]
    obtain ⟨as, hra⟩ := main its rv
    exact PySem.W.max_list_data (I.ok.hd hc) hli.isList hra hal (by show X.A.units + 1 + PyData.depthAll ((b0 :: bs).map (·.2)) < cLine; omega) (fin its rv)
  · obtain ⟨its, rv, hli, _⟩ := I.tuple hs
    rw [Vals.ref1 r]
    obtain ⟨as, hra⟩ := main its rv
    exact PySem.W.max_tuple_data (I.ok.hd hc) hli hra hal (by show X.A.units + 1 + PyData.depthAll ((b0 :: bs).map (·.2)) < cLine; omega) (fin its rv)
theorem maxF_py (x : D) (xs : List D) : toPy (maxF (x :: xs)) = PySem.W.maxD (toPy x) (xs.map toPy) := by
  show toPy (xs.foldl _ x) = (xs.map toPy).foldl _ (toPy x)
  induction xs generalizing x with
  | nil => rfl
  | cons y r ih =>
    rw [List.foldl_cons, List.map_cons, List.foldl_cons, ih]
    congr 1
    unfold ltP
    split <;> rfl
theorem maxD_rep {xs : List D} {a : Addr} {us : List V} {Q : VK} (le : Le G H) (hok : alikeOk xs = true) (ha : SqL K H a us ∨ SqT K H a us) (hu : RepL K G H xs us) (k : ∀ v, Rep K G H (maxF xs) v → Q v H) : rMaxD K [.ref a] H Q := by
  unfold alikeOk at hok
  simp only [Bool.and_eq_true, List.all_eq_true, Bool.not_eq_true'] at hok
  obtain ⟨hok, hne⟩ := hok
  cases xs with
  | nil => cases hne
  | cons x xs =>
    obtain ⟨u, ur, rfl, h1, h2⟩ := hu.uncons
    obtain ⟨hz, hlen⟩ := h2.zip
    have zf : (ur.zip (xs.map toPy)).map (·.1) = ur := List.map_fst_zip (by rw [List.length_map]; omega)
    have zs : (ur.zip (xs.map toPy)).map (·.2) = xs.map toPy := List.map_snd_zip (by rw [List.length_map]; omega)
    have each : ∀ b ∈ (u, toPy x) :: ur.zip (xs.map toPy), ∃ d ∈ x :: xs, b.2 = toPy d ∧ Rep K G H d b.1 := by
      intro b hb
      rcases List.mem_cons.mp hb with rfl | hb
      · exact ⟨x, List.mem_cons_self, rfl, h1⟩
      · rw [List.zip_map_right] at hb
        obtain ⟨p, hp, rfl⟩ := List.mem_map.mp hb
        exact ⟨p.2, List.mem_cons_of_mem _ (List.of_mem_zip hp).2, rfl, hz p hp⟩
    refine ⟨a, (u, toPy x), ur.zip (xs.map toPy), rfl, ?_, fun b hb => ?_, ⟨fun p hp r hr => ?_, fun p hp => ?_⟩, fun b hb e => ?_⟩
    · rw [List.map_cons, zf]
      exact ha
    · obtain ⟨d, hd, e, hr⟩ := each b hb
      have := (hok d hd).1.1
      rw [e]
      exact ⟨hr.dp le (SeqAt.canLay_of_shaped this), this⟩
    · rw [List.map_cons, zs] at hp hr
      have hp' : p ∈ (x :: xs).map toPy := hp
      have hr' : r ∈ (x :: xs).map toPy := hr
      obtain ⟨d, hd, rfl⟩ := List.mem_map.mp hp'
      obtain ⟨d2, hd2, rfl⟩ := List.mem_map.mp hr'
      exact (hok d hd).2 d2 hd2
    · rw [List.map_cons, zs] at hp
      have hp' : p ∈ (x :: xs).map toPy := hp
      obtain ⟨d, hd, rfl⟩ := List.mem_map.mp hp'
      have := (hok d hd).1.2
      intro z
      have ne : isNonD d = false := this
      exact toPy_ne ne z
    · obtain ⟨d, hd, e2, hr⟩ := each b hb
      rw [zs, e2, ← maxF_py] at e
      have : d = maxF (x :: xs) := toPy_inj (SeqAt.canLay_of_shaped (hok d hd).1.1) e
      subst this
      exact k _ hr
theorem intMax_rep {ns : List Int} {a : Addr} {us : List V} {xs : List D} {Q : VK} (le : Le G H) (hn : ns ≠ []) (e1 : intsOf xs = some ns) (ha : SqL K H a us) (hu : RepL K G H xs us) (k : ∀ v, Rep K G H (.int (maxI ns)) v → Q v H) : rMax K [.ref a] H Q := by
  rw [ints_rep e1 hu] at ha
  refine ⟨a, ns, rfl, ha, List.length_pos_iff.mpr hn, fun m hm hl => ?_⟩
  obtain ⟨z1, z2⟩ := maxI_mem hn
  have : m = maxI ns := by
    have := hl _ z1
    have := z2 _ hm
    omega
  rw [this]
  exact k _ (Rep.ofInt _)
def rMaxA (K : PySem.W.Frag) : List V → Hp → VK → Prop := fun vs H Q => rMax K vs H Q ∨ rMaxD K vs H Q
theorem cr_maxA {X : Cx} (hc : X.calm = true) (hu : X.A.units + 66 < cLine) : CallR X (.builtin "max") (rMaxA X.K) := by
  intro pins s σ H xs us Q I r h
  rcases h with h | h
  · exact cr_max hc pins s σ H xs us Q I r h
  · exact cr_maxD hc hu pins s σ H xs us Q I r h
theorem ok_maxL : PrimOk K .maxL (rMaxA K) := by
  intro ds res vs H G Q le rp e k
  replace e : pMaxL ds = some res := e
  unfold pMaxL at e
  split at e
  · obtain ⟨d, e1, e2⟩ := obind e
    cases e2
    obtain ⟨x, rfl, h1⟩ := rp.one'
    obtain ⟨a, us, rfl, ha, hu⟩ := h1.lst'
    unfold maxLL at e1
    split at e1
    · rename_i ns q
      by_cases hn : ns = []
      · rw [if_pos hn] at e1
        cases e1
      · rw [if_neg hn] at e1
        cases e1
        exact .inl (intMax_rep le hn q (SqL.of (le _ _ ha)) hu k)
    · split at e1
      · rename_i hok
        cases e1
        exact .inr (maxD_rep le hok (.inl (SqL.of (le _ _ ha))) hu k)
      · cases e1
  · split at e
    · rename_i hok
      cases e
      obtain ⟨x, rfl, h1⟩ := rp.one'
      obtain ⟨a, us, rfl, ha, hu⟩ := h1.tup'
      exact .inr (maxD_rep le hok (.inr (SqT.of ha)) hu k)
    · cases e
  · cases e
def rTupOf (K : PySem.W.Frag) : List V → Hp → VK → Prop := fun xs H Q => ∃ p ys, xs = [.ref p] ∧ ((SqL K H p ys ∧ ∀ l, H l = none → Q (.ref l) (upd H l (.tup ys))) ∨ (SqT K H p ys ∧ Q (.ref p) H))
def rListOf (K : PySem.W.Frag) : List V → Hp → VK → Prop := fun xs H Q => ∃ p ys, xs = [.ref p] ∧ (SqL K H p ys ∨ SqT K H p ys) ∧ ∀ l, H l = none → Q (.ref l) (upd H l (.lst ys))
theorem ok_tup : PrimOk K .tup (rTupOf K) := by
  intro ds res vs H G Q le rp e k
  replace e : pTup ds = some res := e
  unfold pTup at e
  split at e
  all_goals (try (cases e; done))
  · cases e
    obtain ⟨x, rfl, h1⟩ := rp.one'
    obtain ⟨a, us, rfl, ha, hu⟩ := h1.lst'
    exact ⟨a, us, rfl, .inl ⟨SqL.of (le _ _ ha), fun l hl => k _ _ (.inr ⟨l, us, hl, rfl⟩) (Rep.ofTup upd_same (hu.mono (Le.refl G) (upd_tk hl)))⟩⟩
  · cases e
    obtain ⟨x, rfl, h1⟩ := rp.one'
    obtain ⟨a, us, rfl, ha, hu⟩ := h1.tup'
    exact ⟨a, us, rfl, .inr ⟨SqT.of ha, k _ _ (.inl rfl) (Rep.ofTup ha hu)⟩⟩
theorem ok_listL (xs : List D) : PrimOkAt K .list [.lst xs] (rListOf K) := by
  intro res vs H G Q le rp e k
  replace e : pList [.lst xs] = some res := e
  · cases e
    obtain ⟨x, rfl, h1⟩ := rp.one'
    obtain ⟨a, us, rfl, ha, hu⟩ := h1.lst'
    exact ⟨a, us, rfl, .inl (SqL.of (le _ _ ha)), fun l hl => k _ _ hl hu⟩
theorem ok_listT (xs : List D) : PrimOkAt K .list [.tup xs] (rListOf K) := by
  intro res vs H G Q le rp e k
  replace e : pList [.tup xs] = some res := e
  · cases e
    obtain ⟨x, rfl, h1⟩ := rp.one'
    obtain ⟨a, us, rfl, ha, hu⟩ := h1.tup'
    exact ⟨a, us, rfl, .inr (SqT.of ha), fun l hl => k _ _ hl hu⟩
def rSortD (K : PySem.W.Frag) : List V → Hp → VK → Prop := fun xs H Q => ∃ (a : Addr) (bs : List (V × PyData)), xs = [.ref a] ∧ SqL K H a (bs.map (·.1)) ∧ (∀ b ∈ bs, Dp K H b.1 b.2 ∧ b.2.depth ≤ 64) ∧ PySem.W.AllAlike (bs.map (·.2)) ∧ PySem.W.Sortable (bs.map (·.2)) ∧ bs.length ≤ sizeLine ∧
  ∀ p, H p = none → Q (.ref p) (upd H p (.lst ((bs.mergeSort (PySem.W.dataLe false (·.2))).map (·.1))))
theorem vals_each : ∀ {bs : List (V × PyData)} {us : List Value}, Vals (bs.map (·.1)) us → PySem.W.EachIs (fun v (b : V × PyData) => RelV b.1 v) us bs
  | [], _, h => by
    cases h
    exact .nil
  | b :: bs, _, h => by
    cases h with
    | cons h1 h2 => exact .cons h1 (vals_each h2)
theorem each_vals : ∀ {bs : List (V × PyData)} {us : List Value}, PySem.W.EachIs (fun v (b : V × PyData) => RelV b.1 v) us bs → Vals (bs.map (·.1)) us
  | [], _, h => by
    cases h
    exact .nil
  | b :: bs, _, h => by
    cases h with
    | cons h1 h2 => exact .cons h1 (each_vals h2)
theorem each_with {α β : Type} {R S : α → β → Prop} : ∀ {as : List α} {bs : List β}, PySem.W.EachIs R as bs → (∀ a b, b ∈ bs → R a b → S a b) → PySem.W.EachIs S as bs
  | _, _, .nil, _ => .nil
  | _, _, .cons h1 h2, k => .cons (k _ _ List.mem_cons_self h1) (each_with h2 fun a b hb => k a b (List.mem_cons_of_mem _ hb))
theorem cr_sortD {X : Cx} (hu : X.A.units + 66 < cLine) : CallR X (.builtin "sorted") (rSortD X.K) := by
  intro pins s σ H vs us Q I r h
  obtain ⟨a, bs, rfl, hs, hd, hal, hk, hl, q⟩ := h
  obtain ⟨its, rv, hli, _⟩ := I.list hs
  rw [Vals.ref1 r]
  have e := vals_each rv
  have er : PySem.W.EachIs (fun v (b : V × PyData) => ∃ as, PySem.Reads s.heap v b.2 as) its bs := each_with e fun v b hb hr => Dp.reads I b.2 b.1 v (hd b hb).1 hr
  refine PySem.W.sorted_data (enc := fun b : V × PyData => b.2) hli.isList e er hal hk hl (fun b hb => by have := (hd b hb).2; omega) fun out ho eo => ?_
  obtain ⟨ep, he'⟩ := PyProof.Rows.sortedAll_at s.heap its out.toArray
  have hlen : ((bs.mergeSort (PySem.W.dataLe false (·.2))).map (·.1)).length ≤ sizeLine := by rw [List.length_map, List.length_mergeSort]; exact hl
  exact ⟨.ref _, upd H (s.heap.objs.size + 1) (.lst ((bs.mergeSort (PySem.W.dataLe false (·.2))).map (·.1))), I.laid (t' := s.toks) (fun _ _ => PyProof.Rows.sortedAll_old) (Nat.le_succ _) ⟨hlen, out, ep, each_vals eo, he'⟩, rfl, q _ (I.hok.fresh (Nat.le_succ _))⟩
theorem ok_sorted (xs : List D) : PrimOkAt K .sorted [.lst xs] (rSortD K) := by
  intro res vs H G Q le rp e k
  replace e : pSorted [.lst xs] = some res := e
  simp only [pSorted] at e
  · split at e
    · rename_i hok
      cases e
      obtain ⟨x, rfl, h1⟩ := rp.one'
      obtain ⟨a, us, rfl, ha, hu⟩ := h1.lst'
      obtain ⟨hz, hlen⟩ := hu.zip
      have hf : (us.zip xs).map (·.1) = us := List.map_fst_zip (by omega)
      have hsd : (us.zip xs).map (·.2) = xs := List.map_snd_zip (by omega)
      unfold sortOk at hok
      simp only [Bool.and_eq_true, List.all_eq_true, Bool.or_eq_true, decide_eq_true_eq] at hok
      obtain ⟨⟨h2, h3⟩, h4⟩ := hok
      have hmem : ∀ b ∈ us.zip xs, b.2 ∈ xs := fun b hb => by
        have := List.mem_map_of_mem (f := (·.2)) hb
        rw [hsd] at this
        exact this
      have hsh : ∀ d ∈ xs, (toPy d).depth ≤ 64 := fun d hd => by
        have := (h2 d hd).1
        unfold SeqAt.shaped at this
        simp only [Bool.and_eq_true, decide_eq_true_eq] at this
        exact this.2
      have emap : ((us.zip xs).map fun b => (b.1, toPy b.2)).map (·.2) = xs.map toPy := by
        rw [List.map_map, ← congrArg (List.map toPy) hsd, List.map_map]
        rfl
      refine ⟨a, (us.zip xs).map fun b => (b.1, toPy b.2), rfl, ?_, ?_, ?_, ?_, ?_, fun p hp => ?_⟩
      · rw [List.map_map]
        show SqL K H a ((us.zip xs).map (·.1))
        rw [hf]
        exact SqL.of (le _ _ ha)
      · intro b hb
        obtain ⟨b0, hb0, rfl⟩ := List.mem_map.mp hb
        exact ⟨(hz b0 hb0).dp le (SeqAt.canLay_of_shaped (h2 _ (hmem b0 hb0)).1), hsh _ (hmem b0 hb0)⟩
      · rw [emap]
        intro d hd d' hd'
        obtain ⟨x, hx, rfl⟩ := List.mem_map.mp hd
        obtain ⟨y, hy, rfl⟩ := List.mem_map.mp hd'
        exact (h2 x hx).2 y hy
      · rw [emap]
        rcases h3 with h3 | h3
        · refine .inl fun d hd => ?_
          obtain ⟨x, hx, rfl⟩ := List.mem_map.mp hd
          have := h3 x hx
          unfold tupNe at this
          split at this
          · exact ⟨_, _, by unfold toPy toPyL; rfl⟩
          · cases this
        · refine .inr fun d hd => ?_
          obtain ⟨x, hx, rfl⟩ := List.mem_map.mp hd
          have := h3 x hx
          cases x <;> first | (cases this; done) | exact ⟨(by unfold toPy; exact fun z => nomatch z), (by unfold toPy; exact fun _ z => nomatch z)⟩
      · rw [List.length_map, List.length_zip]
        omega
      · have e1 : ((us.zip xs).map fun b => (b.1, toPy b.2)).mergeSort (PySem.W.dataLe false (·.2)) = ((us.zip xs).mergeSort fun x y => leD x.2 y.2).map fun b => (b.1, toPy b.2) :=
          (List.map_mergeSort (r := fun x y : V × D => leD x.2 y.2) (s := PySem.W.dataLe false (·.2)) (f := fun b : V × D => (b.1, toPy b.2)) (fun a _ b _ => rfl)).symm
        have e2 : ((us.zip xs).mergeSort fun x y => leD x.2 y.2).map (·.2) = xs.mergeSort leD := by
          rw [List.map_mergeSort (r := fun x y : V × D => leD x.2 y.2) (s := leD) (f := fun b : V × D => b.2) (fun a _ b _ => rfl), hsd]
        rw [e1, List.map_map]
        have := k p (((us.zip xs).mergeSort fun x y => leD x.2 y.2).map (·.1)) hp (by
          rw [← e2]
          exact RepL.ofZip fun b hb => hz b (List.mem_mergeSort.mp hb))
        exact this
    · cases e
def l1y (t : String) (r : List V → Hp → VK → Prop) : List V → Hp → VK → Prop := fun vs H Q => match vs with
  | [x] => r [x, .ty t] H Q
  | _ => False
theorem tyName_ok {d : D} {a : String} {v : V} (le : Le G H) (h : tyName d = some a) (r : Rep K G H d v) : TyX K H v (.type a) := by
  cases d with
  | non => cases h; unfold Rep at r; rw [r]; exact .base .non
  | bl b => cases h; unfold Rep at r; rw [r]; exact .base (.bl b)
  | int b => cases h; unfold Rep at r; rw [r]; exact .base (.int b)
  | str b => cases h; unfold Rep at r; rw [r]; exact .base (.str b)
  | tup xs =>
    cases h
    obtain ⟨a, us, rfl, ha, hu⟩ := r.tup'
    exact .base (.tup ha)
  | lst xs =>
    cases h
    obtain ⟨a, us, rfl, ha, hu⟩ := r.lst'
    exact .base (.lst (le _ _ ha))
  | dT _ _ => cases h
  | dK _ _ => cases h
  | scr _ => cases h
  | exn _ _ _ => cases h
theorem ok_isa {t : String} : PrimOk K (.isa t) (l1y t (rIsi K)) := by
  intro ds res vs H G Q le rp e k
  replace e : pIsa t ds = some res := e
  unfold pIsa at e
  split at e
  · obtain ⟨a, e1, e2⟩ := obind e
    obtain ⟨b, e3, e4⟩ := obind e2
    cases e4
    obtain ⟨x, rfl, h1⟩ := rp.one'
    exact ⟨x, .ty t, .type a, .type t, b, rfl, .ty t, tyName_ok le e1 h1, kit_ty e3, k _ (Rep.ofBl _)⟩
  · cases e
end
end Rg
namespace Rg
open PySem L2 PySem.Spec PyProof.Rows PySem.W PySem.Calls
def IsKey (H : Hp) (w : V) (k : List Key) : Prop := ∃ b, w = .ref b ∧ H b = some (.tup (k.map kV))
theorem keyD_rep {K : KP} {G H : Hp} : ∀ k : List Key, RepL K G H (k.map keyD) (k.map kV)
  | [] => RepL.nil
  | .inl i :: r => RepL.cons (Rep.ofInt i) (keyD_rep r)
  | .inr i :: r => RepL.cons (Rep.ofStr i) (keyD_rep r)
theorem IsKey.rep {K : KP} {G H : Hp} {w : V} {k : List Key} (h : IsKey H w k) : Rep K G H (keyT k) w := by
  obtain ⟨b, rfl, hb⟩ := h
  exact Rep.ofTup hb (keyD_rep k)
theorem IsKeys.rep {K : KP} {G H : Hp} : ∀ {ws : List V} {ks : List (List Key)}, Paired (IsKey H) ws ks → RepL K G H (ks.map keyT) ws
  | _, _, .nil => RepL.nil
  | _, _, .cons h r => RepL.cons h.rep (IsKeys.rep r)
def rSortK (K : Frag) : List V → Hp → VK → Prop := fun vs H Q => ∃ (a : Addr) (kvs : List (List Key × V)), vs = [.ref a] ∧ H a = some (.dT kvs) ∧ AllAlike (kvs.map fun p => toPy (keyT p.1)) ∧ Sortable (kvs.map fun p => toPy (keyT p.1)) ∧ (∀ p ∈ kvs, SeqAt.shaped (toPy (keyT p.1)) = true) ∧
  ∀ (ws : List V) (p : Addr), H p = none → Paired (IsKey H) ws ((kvs.map (·.1)).mergeSort (PySem.W.dataLe false fun k => toPy (keyT k))) → Q (.ref p) (upd H p (.lst ws))
theorem isKey_reads {X : Cx} {pins : List (Addr × Obj)} {σ : L2.St} {H : Hp} {s : Shared} (I : Inv X pins σ H s) {b : Addr} {k : List Key} (h : H b = some (.tup (k.map kV))) (hs : SeqAt.shaped (toPy (keyT k)) = true) : ∃ as, Reads s.heap (.ref b) (toPy (keyT k)) as := by
  have r : Rep ⟨X.K, none⟩ H H (keyT k) (.ref b) := IsKey.rep ⟨b, rfl, h⟩
  exact Dp.reads I _ (.ref b) _ (r.dp (Le.refl H) (SeqAt.canLay_of_shaped hs)) rfl
theorem paired_refs {H : Hp} : ∀ {us : List Value} {bs : List (Addr × List Key)}, EachIs (fun v (b : Addr × List Key) => v = .ref b.1 ∧ H b.1 = some (.tup (b.2.map kV))) us bs → ∃ ws : List V, Vals ws us ∧ Paired (IsKey H) ws (bs.map (·.2))
  | _, _, .nil => ⟨[], .nil, .nil⟩
  | _, b :: _, .cons h r => by
    obtain ⟨ws, h1, h2⟩ := paired_refs r
    exact ⟨.ref b.1 :: ws, .cons h.1 h1, .cons ⟨b.1, rfl, h.2⟩ h2⟩
theorem kt_each {H : Hp} : ∀ {kvs : List (List Key × V)} {xs : List (List Key × Addr × Value)}, KT H kvs xs → EachIs (fun v (b : Addr × List Key) => v = .ref b.1 ∧ H b.1 = some (.tup (b.2.map kV))) (xs.map fun x => Value.ref x.2.1) (xs.map fun x => (x.2.1, x.1)) ∧ xs.map (·.1) = kvs.map (·.1)
  | _, _, .nil => ⟨.nil, rfl⟩
  | _, _, .cons (a := p) (b := q) h r => by
    obtain ⟨h1, h2⟩ := kt_each r
    obtain ⟨e1, e2, _⟩ := h
    refine ⟨.cons ⟨rfl, show H q.2.1 = some (.tup (q.1.map kV)) by rw [← e1]; exact e2⟩ h1, ?_⟩
    rw [List.map_cons, List.map_cons, h2, e1]
theorem items_keys {es : Array DictEntry} {acc : Array Value} {xs : List (List Key × Addr × Value)} {P : Program} {w : World} (hes : es.toList = xs.map (entryOfKey (tupleKind (mixKind P w)))) (h : ItemsOf (fun i v => ∃ hi : i < es.size, v = es[i].key) acc es.size) : acc.toList = xs.map fun x => Value.ref x.2.1 := by
  obtain ⟨h1, h2⟩ := h
  have hl : es.size = xs.length := by rw [← Array.length_toList, hes, List.length_map]
  refine List.ext_getElem? fun j => ?_
  rw [Array.getElem?_toList]
  by_cases hj : j < acc.size
  · obtain ⟨hi, e⟩ := h2 j acc[j] (Array.getElem?_eq_getElem hj)
    rw [Array.getElem?_eq_getElem hj, e]
    have hx : j < xs.length := by omega
    have : es.toList[j]? = some (entryOfKey (tupleKind (mixKind P w)) xs[j]) := by rw [hes, List.getElem?_map, List.getElem?_eq_getElem hx]; rfl
    rw [Array.getElem?_toList, Array.getElem?_eq_getElem hi] at this
    rw [Option.some.inj this, List.getElem?_map, List.getElem?_eq_getElem hx]
    rfl
  · rw [Array.getElem?_eq_none (by omega), List.getElem?_eq_none (by rw [List.length_map]; omega)]
theorem _root_.L2.Inv.off_get {X : Cx} {pins : List (Addr × Obj)} {σ : L2.St} {H : Hp} {s : Shared} {a : Addr} (I : Inv X pins σ H s) (hn : s.heap.get? a = none) : H a = none := by
  cases e : H a with
  | none => rfl
  | some o =>
    obtain ⟨u, hu⟩ := objOk_get (I.hok a o e)
    rw [hu] at hn
    cases hn
theorem _root_.L2.Inv.laid2 {X : Cx} {pins : List (Addr × Obj)} {σ : L2.St} {H : Hp} {s : Shared} {h' : Heap} {a : Addr} {o : HO} {t' : Nat} (I : Inv X pins σ H s) (k : ∀ b u, s.heap.get? b = some u → h'.get? b = some u) (hn : s.heap.get? a = none) (new : ObjOk X.prog X.w (upd H a o) h' a o) : Inv X pins σ (upd H a o) { s with heap := h', toks := t' } := by
  have ha := I.off_get hn
  have ne : ∀ {b : Addr} {u : Obj}, s.heap.get? b = some u → b ≠ a := fun e z => by
    rw [z, hn] at e
    cases e
  refine I.un (t' := t') { keep := fun b u q _ _ _ => k b u q, slot := fun b u q _ _ _ => ⟨u.slots, k b u q⟩, free := fun b u q n _ => by rw [upd_ne (ne q)]; exact n, there := fun b u q _ => ⟨u, k b u q⟩, tups := fun b xs q => by rw [upd_ne (ne_of_none q ha)]; exact q, frzs := fun b u v q => by rw [upd_ne (ne_of_none q ha)]; exact q, tbls := fun b ps q => ⟨#[], by rw [upd_ne (ne_of_none q ha), q]; simp⟩ } fun b u q => ?_
  by_cases hb : b = a
  · subst hb
    rw [upd_same] at q
    cases q
    exact new
  · rw [upd_ne hb] at q
    exact (I.hok b u q).stay (fun c v _ z => k c v z) (fun c hc => by rw [upd_ne (ne_of_none hc ha)]; exact hc) (fun c xs hc => by rw [upd_ne (ne_of_none hc ha)]; exact hc)
theorem cr_sortK {X : Cx} (hc : X.calm = true) (hu : X.A.units + 68 < cLine) : CallR X (.builtin "sorted") (rSortK X.K) := by
  intro pins s σ H vs us Q I r h
  obtain ⟨a, kvs, rfl, ha, hal, hk, hsh, q⟩ := h
  rw [Vals.ref1 r]
  obtain ⟨z, hd, xs, rel, o, es, ep, ho, hx, hdt, hes, his, hnd⟩ := dt_of I.hok ha
  obtain ⟨each, ek⟩ := kt_each rel
  have hl : kvs.length = xs.length := Paired.length rel
  have hes2 : es.size = xs.length := by rw [← Array.length_toList, hes, List.length_map]
  refine call_function_entry kind_sorted plain_sorted entry_sorted (args_sorted1 _) ?_
  unfold Builtin.«sorted»
  refine wpAny_bind (m := checkCount "sorted" 1 1 _) (wpAny_pure ?_)
  refine wpAny_bind (kdu_collect (A := X.A.in1) (KdlSrc.rawDict (es := es) (ep := ep) hd) (I.ok.hd hc) ⟨o, ho, hx, hdt⟩ (by omega) fun h' tk acc hkp hit => ?_)
  have hacc := items_keys hes hit
  rw [hacc]
  refine wpAny_bind (wpAny_newList ?_ (by rw [List.length_map]; omega))
  have hnew : (h'.push (seqObj "list" (xs.map fun x => Value.ref x.2.1).toArray 0)).get? h'.objs.size = some (seqObj "list" (xs.map fun x => Value.ref x.2.1).toArray 0) := Heap.get?_push_size _ rfl
  have keep : ∀ b o, s.heap.get? b = some o → (h'.push (seqObj "list" (xs.map fun x => Value.ref x.2.1).toArray 0)).get? b = some o := fun b o e => Heap.get?_push_of_some _ (hkp b o e)
  have hfr : s.heap.get? h'.objs.size = none := by
    cases e : s.heap.get? h'.objs.size with
    | none => rfl
    | some o => exact absurd (Heap.lt_size (hkp _ _ e)) (Nat.lt_irrefl _)
  have shx : ∀ b ∈ xs.map (fun x => (x.2.1, x.1)), SeqAt.shaped (toPy (keyT b.2)) = true := fun b hb => by
    obtain ⟨x, hx, rfl⟩ := List.mem_map.mp hb
    have : x.1 ∈ kvs.map (·.1) := by rw [← ek]; exact List.mem_map.mpr ⟨x, hx, rfl⟩
    obtain ⟨p, hp, e⟩ := List.mem_map.mp this
    show SeqAt.shaped (toPy (keyT x.1)) = true
    rw [← e]
    exact hsh p hp
  have em : (xs.map fun x => (x.2.1, x.1)).map (fun b : Addr × List Key => toPy (keyT b.2)) = kvs.map fun p => toPy (keyT p.1) := by
    rw [List.map_map]
    have : ∀ (f : List Key → PyData), xs.map (fun x => f x.1) = kvs.map (fun p => f p.1) := fun f => by
      have := congrArg (List.map f) ek
      rw [List.map_map, List.map_map] at this
      exact this
    exact this fun k => toPy (keyT k)
  have er : EachIs (fun v (b : Addr × List Key) => ∃ as, Reads (h'.push (seqObj "list" (xs.map fun x => Value.ref x.2.1).toArray 0)) v (toPy (keyT b.2)) as ∧ h'.objs.size ∉ as) (xs.map fun x => Value.ref x.2.1) (xs.map fun x => (x.2.1, x.1)) := by
    refine each_with each fun v b hb hv => ?_
    obtain ⟨rfl, hb2⟩ := hv
    obtain ⟨as, hr⟩ := isKey_reads I hb2 (shx b hb)
    refine ⟨as, PyProof.Rows.Reads.keeps keep hr, fun y => ?_⟩
    obtain ⟨o, e⟩ := PyProof.On.reads_mem_get hr _ y
    rw [hfr] at e
    cases e
  have hs := list_sort_data (prog := X.prog) (w := X.w) (A := X.A.in1) (E := X.xe) (s := { s with heap := h'.push (seqObj "list" (xs.map fun x => Value.ref x.2.1).toArray 0), toks := tk }) (enc := fun b : Addr × List Key => toPy (keyT b.2)) (Q := fun _ s' => EP X pins σ Q (.ref h'.objs.size) s') hnew each er (by rw [em]; exact hal) (by rw [em]; exact hk) (by rw [List.length_map]; omega) (fun b hb => by
      have h1 := shx b hb
      unfold SeqAt.shaped at h1
      have h3 := of_decide_eq_true (Bool.and_eq_true_iff.mp h1).2
      show X.A.units + 1 + 1 + (toPy (keyT b.2)).depth < cLine
      omega) fun out hol hoe => ?_
  · refine wpAny_bind (wpAny_holding (wpAny_mono hs (fun _ s' x => ?_) fun _ _ e => e))
    exact wpAny_pure ⟨_, rfl, x⟩
  · obtain ⟨ep2, he'⟩ := PyProof.Rows.sortedHeap_at (out := out.toArray) hnew
    obtain ⟨ws, hv, hp⟩ := paired_refs hoe
    have e2 : ((xs.map fun x => (x.2.1, x.1)).mergeSort (dataLe false fun b : Addr × List Key => toPy (keyT b.2))).map (·.2) = (kvs.map (·.1)).mergeSort (dataLe false fun k => toPy (keyT k)) := by
      rw [List.map_mergeSort (r := dataLe false fun b : Addr × List Key => toPy (keyT b.2)) (s := dataLe false fun k => toPy (keyT k)) (f := fun b : Addr × List Key => b.2) (fun a _ b _ => rfl)]
      congr 1
      rw [List.map_map]
      exact ek
    rw [e2] at hp
    have hlen : ws.length ≤ sizeLine := by
      have e1 := Paired.length hv
      rw [e1, hol, List.length_map]
      omega
    have hnew2 : ObjOk X.prog X.w (upd H h'.objs.size (.lst ws)) (sortedHeap (h'.push (seqObj "list" (xs.map fun x : List Key × Addr × Value => Value.ref x.2.1).toArray 0)) h'.objs.size (xs.map fun x : List Key × Addr × Value => Value.ref x.2.1) out.toArray) h'.objs.size (.lst ws) := ⟨hlen, out, ep2, hv, he'⟩
    have J := Inv.laid2 (t' := tk) I (fun b o e => by
      have hlt : b < h'.objs.size := Heap.lt_size (hkp b o e)
      rw [PyProof.Rows.sortedHeap_old (Nat.ne_of_lt hlt) (by rw [size_push']; exact Nat.lt_succ_of_lt hlt)]
      exact keep b o e) hfr hnew2
    exact ⟨.ref _, _, J, rfl, q ws _ (I.off_get hfr) hp⟩
def rSortTp (K : PySem.W.Frag) : List V → Hp → VK → Prop := fun xs H Q => ∃ (a : Addr) (bs : List (V × PyData)), xs = [.ref a] ∧ H a = some (.tup (bs.map (·.1))) ∧ (∀ b ∈ bs, Dp K H b.1 b.2 ∧ b.2.depth ≤ 64) ∧ PySem.W.AllAlike (bs.map (·.2)) ∧ PySem.W.Sortable (bs.map (·.2)) ∧ bs.length ≤ sizeLine ∧
  ∀ p, H p = none → Q (.ref p) (upd H p (.lst ((bs.mergeSort (PySem.W.dataLe false (·.2))).map (·.1))))
theorem cr_sortTp {X : Cx} (hu : X.A.units + 68 < cLine) : CallR X (.builtin "sorted") (rSortTp X.K) := by
  intro pins s σ H vs us Q I r h
  obtain ⟨a, bs, rfl, ha, hd, hal, hk, hz, q⟩ := h
  rw [Vals.ref1 r]
  obtain ⟨_, its, rv, o, ho, hc, n, hdt⟩ := (show ObjOk X.prog X.w H s.heap a (.tup (bs.map (·.1))) from I.hok a _ ha)
  have hl : its.length = bs.length := by rw [← rv.length, List.length_map]
  have each := vals_each rv
  refine call_function_entry kind_sorted plain_sorted entry_sorted (args_sorted1 _) ?_
  unfold Builtin.«sorted»
  refine wpAny_bind (m := checkCount "sorted" 1 1 _) (wpAny_pure ?_)
  refine wpAny_bind (PySem.wpAny_collect_seq (A := X.A.in1) (hsz := by show its.toArray.size ≤ sizeLine; rw [List.size_toArray]; omega) a (.inr rfl) ho hc hdt fun h' hkp => ?_)
  have e0 : its.toArray.toList = its := rfl
  rw [e0]
  refine wpAny_bind (wpAny_newList ?_ (by omega))
  have hnew : (h'.push (seqObj "list" its.toArray 0)).get? h'.objs.size = some (seqObj "list" its.toArray 0) := Heap.get?_push_size _ rfl
  have keep : ∀ b o, s.heap.get? b = some o → (h'.push (seqObj "list" its.toArray 0)).get? b = some o := fun b o e => Heap.get?_push_of_some _ (hkp b o e)
  have hfr : s.heap.get? h'.objs.size = none := by
    cases e : s.heap.get? h'.objs.size with
    | none => rfl
    | some o => exact absurd (Heap.lt_size (hkp _ _ e)) (Nat.lt_irrefl _)
  have er : EachIs (fun v (b : V × PyData) => ∃ as, Reads (h'.push (seqObj "list" its.toArray 0)) v b.2 as ∧ h'.objs.size ∉ as) its bs := by
    refine each_with each fun v b hb hv => ?_
    obtain ⟨as, hr⟩ := Dp.reads I b.2 b.1 v (hd b hb).1 hv
    refine ⟨as, PyProof.Rows.Reads.keeps keep hr, fun y => ?_⟩
    obtain ⟨o, e⟩ := PyProof.On.reads_mem_get hr _ y
    rw [hfr] at e
    cases e
  have hs := list_sort_data (prog := X.prog) (w := X.w) (A := X.A.in1) (E := X.xe) (s := { s with heap := h'.push (seqObj "list" its.toArray 0) }) (enc := fun b : V × PyData => b.2) (Q := fun _ s' => EP X pins σ Q (.ref h'.objs.size) s') hnew each er hal hk (by omega) (fun b hb => by
      have := (hd b hb).2
      show X.A.units + 1 + 1 + b.2.depth < cLine
      omega) fun out hol hoe => ?_
  · refine wpAny_bind (wpAny_holding (wpAny_mono hs (fun _ s' x => ?_) fun _ _ e => e))
    exact wpAny_pure ⟨_, rfl, x⟩
  · obtain ⟨ep2, he'⟩ := PyProof.Rows.sortedHeap_at (out := out.toArray) hnew
    have hv := each_vals hoe
    have hlen : ((bs.mergeSort (PySem.W.dataLe false (·.2))).map (·.1)).length ≤ sizeLine := by rw [List.length_map, List.length_mergeSort]; exact hz
    have hnew2 : ObjOk X.prog X.w (upd H h'.objs.size (.lst ((bs.mergeSort (PySem.W.dataLe false (·.2))).map (·.1)))) (sortedHeap (h'.push (seqObj "list" its.toArray 0)) h'.objs.size its out.toArray) h'.objs.size (.lst ((bs.mergeSort (PySem.W.dataLe false (·.2))).map (·.1))) := ⟨hlen, out, ep2, hv, he'⟩
    have J := Inv.laid2 (t' := s.toks) I (fun b o e => by
      have hlt : b < h'.objs.size := Heap.lt_size (hkp b o e)
      rw [PyProof.Rows.sortedHeap_old (Nat.ne_of_lt hlt) (by rw [size_push']; exact Nat.lt_succ_of_lt hlt)]
      exact keep b o e) hfr hnew2
    exact ⟨.ref _, _, J, rfl, q _ (I.off_get hfr)⟩
theorem sort_coreT {K : KP} {G H : Hp} {Q : VK} {xs : List D} {us : List V} {a : Addr} (le : Le G H) (ha : H a = some (.tup us)) (hu : RepL K G H xs us) (hok : sortOk xs = true) (q : ∀ p, H p = none → Q (.ref p) (upd H p (.lst (((us.zip xs).mergeSort fun x y => leD x.2 y.2).map (·.1))))) : rSortTp K [.ref a] H Q := by
  obtain ⟨hz, hlen⟩ := hu.zip
  have hf : (us.zip xs).map (·.1) = us := List.map_fst_zip (by omega)
  have hsd : (us.zip xs).map (·.2) = xs := List.map_snd_zip (by omega)
  unfold sortOk at hok
  simp only [Bool.and_eq_true, List.all_eq_true, Bool.or_eq_true, decide_eq_true_eq] at hok
  obtain ⟨⟨h2, h3⟩, h4⟩ := hok
  have hmem : ∀ b ∈ us.zip xs, b.2 ∈ xs := fun b hb => by
    have := List.mem_map_of_mem (f := (·.2)) hb
    rw [hsd] at this
    exact this
  have hsh : ∀ d ∈ xs, (toPy d).depth ≤ 64 := fun d hd => by
    have := (h2 d hd).1
    unfold SeqAt.shaped at this
    simp only [Bool.and_eq_true, decide_eq_true_eq] at this
    exact this.2
  have emap : ((us.zip xs).map fun b => (b.1, toPy b.2)).map (·.2) = xs.map toPy := by
    rw [List.map_map, ← congrArg (List.map toPy) hsd, List.map_map]
    rfl
  refine ⟨a, (us.zip xs).map fun b => (b.1, toPy b.2), rfl, ?_, ?_, ?_, ?_, ?_, fun p hp => ?_⟩
  · rw [List.map_map]
    show H a = some (.tup ((us.zip xs).map (·.1)))
    rw [hf]
    exact ha
  · intro b hb
    obtain ⟨b0, hb0, rfl⟩ := List.mem_map.mp hb
    exact ⟨(hz b0 hb0).dp le (SeqAt.canLay_of_shaped (h2 _ (hmem b0 hb0)).1), hsh _ (hmem b0 hb0)⟩
  · rw [emap]
    intro d hd d' hd'
    obtain ⟨x, hx, rfl⟩ := List.mem_map.mp hd
    obtain ⟨y, hy, rfl⟩ := List.mem_map.mp hd'
    exact (h2 x hx).2 y hy
  · rw [emap]
    rcases h3 with h3 | h3
    · refine .inl fun d hd => ?_
      obtain ⟨x, hx, rfl⟩ := List.mem_map.mp hd
      have := h3 x hx
      unfold tupNe at this
      split at this
      · exact ⟨_, _, by unfold toPy toPyL; rfl⟩
      · cases this
    · refine .inr fun d hd => ?_
      obtain ⟨x, hx, rfl⟩ := List.mem_map.mp hd
      have := h3 x hx
      cases x <;> first | (cases this; done) | exact ⟨(by unfold toPy; exact fun z => nomatch z), (by unfold toPy; exact fun _ z => nomatch z)⟩
  · rw [List.length_map, List.length_zip]
    omega
  · have e1 : ((us.zip xs).map fun b => (b.1, toPy b.2)).mergeSort (PySem.W.dataLe false (·.2)) = ((us.zip xs).mergeSort fun x y => leD x.2 y.2).map fun b => (b.1, toPy b.2) :=
      (List.map_mergeSort (r := fun x y : V × D => leD x.2 y.2) (s := PySem.W.dataLe false (·.2)) (f := fun b : V × D => (b.1, toPy b.2)) (fun a _ b _ => rfl)).symm
    rw [e1, List.map_map]
    exact q p hp
theorem cr_sortA {X : Cx} (hc : X.calm = true) (hu : X.A.units + 68 < cLine) : CallR X (.builtin "sorted") (fun vs H Q => rSortD X.K vs H Q ∨ (rSortK X.K vs H Q ∨ rSortTp X.K vs H Q)) := by
  intro pins s σ H xs us Q I r h
  rcases h with h | h | h
  · exact cr_sortD (by omega) pins s σ H xs us Q I r h
  · exact cr_sortK hc hu pins s σ H xs us Q I r h
  · exact cr_sortTp hu pins s σ H xs us Q I r h
theorem ok_sortedA {K : KP} : PrimOk K .sorted (fun vs H Q => rSortD K vs H Q ∨ (rSortK K vs H Q ∨ rSortTp K vs H Q)) := by
  intro ds res vs H G Q le rp e k
  cases ds with
  | nil => cases e
  | cons d r =>
    cases r with
    | cons _ _ => cases d <;> cases e
    | nil =>
      cases d with
      | dT ks es =>
        replace e : (if sortOk (ks.map keyT) then some (Res.nu ((ks.map keyT).mergeSort leD)) else none) = some res := e
        split at e
        · rename_i hok
          cases e
          obtain ⟨x, rfl, h1⟩ := rp.one'
          obtain ⟨a, us, rfl, ha, hl, hu⟩ := h1.dT'
          have hf : (ks.zip us).map (·.1) = ks := List.map_fst_zip (by omega)
          have hm : ∀ (f : List Key → PyData), (ks.zip us).map (fun p => f p.1) = ks.map f := fun f => by
            have := congrArg (List.map f) hf
            rw [List.map_map] at this
            exact this
          unfold sortOk at hok
          simp only [Bool.and_eq_true, List.all_eq_true, Bool.or_eq_true, decide_eq_true_eq] at hok
          obtain ⟨⟨h2, h3⟩, h4⟩ := hok
          have h2' : ∀ k ∈ ks, SeqAt.shaped (toPy (keyT k)) = true ∧ ∀ k2 ∈ ks, PySem.W.alike (toPy (keyT k)) (toPy (keyT k2)) = true := fun k hk => by
            obtain ⟨z1, z2⟩ := h2 (keyT k) (List.mem_map.mpr ⟨k, hk, rfl⟩)
            exact ⟨z1, fun k2 hk2 => z2 (keyT k2) (List.mem_map.mpr ⟨k2, hk2, rfl⟩)⟩
          refine .inr (.inl ?_)
          refine ⟨a, ks.zip us, rfl, le _ _ ha, ?_, ?_, fun p hp => ?_, fun ws p hp hw => ?_⟩
          · rw [hm fun k => toPy (keyT k)]
            intro x hx y hy
            obtain ⟨k, hk, rfl⟩ := List.mem_map.mp hx
            obtain ⟨k2, hk2, rfl⟩ := List.mem_map.mp hy
            exact (h2' k hk).2 k2 hk2
          · rw [hm fun k => toPy (keyT k)]
            rcases h3 with h3 | h3
            · refine .inl fun x hx => ?_
              obtain ⟨k, hk, rfl⟩ := List.mem_map.mp hx
              have := h3 (keyT k) (List.mem_map.mpr ⟨k, hk, rfl⟩)
              cases k with
              | nil => cases this
              | cons y r => exact ⟨_, _, by unfold keyT toPy; rw [List.map_cons]; unfold toPyL; rfl⟩
            · refine .inr fun x hx => ?_
              obtain ⟨k, hk, rfl⟩ := List.mem_map.mp hx
              have := h3 (keyT k) (List.mem_map.mpr ⟨k, hk, rfl⟩)
              cases this
          · exact (h2' p.1 (List.of_mem_zip hp).1).1
          · rw [hf] at hw
            refine k p ws hp ?_
            have e2 : (ks.map keyT).mergeSort leD = (ks.mergeSort (dataLe false fun k => toPy (keyT k))).map keyT := by
              rw [List.map_mergeSort (r := dataLe false fun k => toPy (keyT k)) (s := leD) (f := keyT) (fun a _ b _ => rfl)]
            rw [e2]
            exact IsKeys.rep hw
        · cases e
      | tup xs =>
        replace e : (if sortOk xs then some (Res.nu (xs.mergeSort leD)) else none) = some res := e
        split at e
        · rename_i hok
          cases e
          obtain ⟨x, rfl, h1⟩ := rp.one'
          obtain ⟨a, us, rfl, ha, hu⟩ := h1.tup'
          refine .inr (.inr (sort_coreT le ha hu hok fun p hp => ?_))
          obtain ⟨hz, hlen⟩ := hu.zip
          have hsd : (us.zip xs).map (·.2) = xs := List.map_snd_zip (by omega)
          have e2 : ((us.zip xs).mergeSort fun x y => leD x.2 y.2).map (·.2) = xs.mergeSort leD := by
            rw [List.map_mergeSort (r := fun x y : V × D => leD x.2 y.2) (s := leD) (f := fun b : V × D => b.2) (fun a _ b _ => rfl), hsd]
          refine k p _ hp ?_
          rw [← e2]
          exact RepL.ofZip fun b hb => hz b (List.mem_mergeSort.mp hb)
        · cases e
      | _ =>
        first
          | (cases e; done)
          | exact .inl (ok_sorted _ res vs H G Q le rp e k)
def rListK : List V → Hp → VK → Prop := fun vs H Q => ∃ (a : Addr) (kvs : List (List Key × V)), vs = [.ref a] ∧ H a = some (.dT kvs) ∧ ∀ (ws : List V) (p : Addr), H p = none → Paired (IsKey H) ws (kvs.map (·.1)) → Q (.ref p) (upd H p (.lst ws))
theorem cr_listK {X : Cx} (hc : X.calm = true) : CallR X (.type "list") rListK := by
  intro pins s σ H vs us Q I r h
  obtain ⟨a, kvs, rfl, ha, q⟩ := h
  rw [Vals.ref1 r]
  obtain ⟨z, hd, xs, rel, o, es, ep, ho, hx, hdt, hes, his, hnd⟩ := dt_of I.hok ha
  obtain ⟨each, ek⟩ := kt_each rel
  have hl : kvs.length = xs.length := Paired.length rel
  have hes2 : es.size = xs.length := by rw [← Array.length_toList, hes, List.length_map]
  refine kdl_call (KdlSrc.rawDict (es := es) (ep := ep) hd) (I.ok.hd hc) ⟨o, ho, hx, hdt⟩ (by omega) fun h' tk acc c' hkp hget hit => ?_
  have hacc := items_keys hes hit
  obtain ⟨ws, hv, hp⟩ := paired_refs each
  have e2 : (xs.map fun x => (x.2.1, x.1)).map (·.2) = kvs.map (·.1) := by
    rw [List.map_map]
    exact ek
  rw [e2] at hp
  have hlen : ws.length ≤ sizeLine := by
    have e1 := Paired.length hv
    rw [e1, List.length_map]
    omega
  have hnew2 : ObjOk X.prog X.w (upd H s.heap.objs.size (.lst ws)) h' s.heap.objs.size (.lst ws) := ⟨hlen, _, c', hv, by rw [hget, ← hacc]⟩
  have J := I.laid (t' := tk) hkp (Nat.le_refl _) hnew2
  exact ⟨.ref _, _, J, rfl, q ws _ (I.hok.fresh (Nat.le_refl _)) hp⟩
def rListA (K : Frag) : List V → Hp → VK → Prop := fun vs H Q => rListOf K vs H Q ∨ rListK vs H Q
theorem cr_listA {X : Cx} (hc : X.calm = true) : CallR X (.type "list") (rListA X.K) := by
  intro pins s σ H xs us Q I r h
  rcases h with h | h
  · exact call_list_of pins s σ H xs us Q I r h
  · exact cr_listK hc pins s σ H xs us Q I r h
theorem ok_listA {K : KP} : PrimOk K .list (rListA K) := by
  intro ds res vs H G Q le rp e k
  cases ds with
  | nil => cases e
  | cons d r =>
    cases r with
    | cons _ _ => cases d <;> cases e
    | nil =>
      cases d with
      | dT ks es =>
        cases (show some (Res.nu (ks.map keyT)) = some res from e)
        obtain ⟨x, rfl, h1⟩ := rp.one'
        obtain ⟨a, us, rfl, ha, hl, hu⟩ := h1.dT'
        have hf : (ks.zip us).map (·.1) = ks := List.map_fst_zip (by omega)
        refine .inr ⟨a, ks.zip us, rfl, le _ _ ha, fun ws p hp hw => ?_⟩
        rw [hf] at hw
        exact k p ws hp (IsKeys.rep hw)
      | _ =>
        first
          | (cases e; done)
          | exact .inl (ok_listL _ res vs H G Q le rp e k)
          | exact .inl (ok_listT _ res vs H G Q le rp e k)
theorem cutL_rep {K : KP} {G H : Hp} {ds : List D} {vs : List V} (h : RepL K G H ds vs) (lo hi : Option Int) : RepL K G H (cutL ds lo hi) (cutV vs lo hi) := by
  unfold cutL cutV
  rw [h.len]
  exact (h.drop _).take _
def rSlAll (K : Frag) : V → Option Int → Option Int → Hp → VK → Prop := fun x lo hi H Q => rSlL K x lo hi H Q ∨ L2.rSlA K x lo hi H Q ∨ rSlS x lo hi H Q
theorem sl_all {X : Cx} : SlR X (rSlAll X.K) := sl_list.or (sl_tupA.or sl_str)
def slV (r : V → Option Int → Option Int → Hp → VK → Prop) (lo hi : Bool) : List V → Hp → VK → Prop := fun vs H Q => match lo, hi, vs with
  | true, true, [x, .int a, .int b] => r x (some a) (some b) H Q
  | true, false, [x, .int a] => r x (some a) none H Q
  | false, true, [x, .int b] => r x none (some b) H Q
  | false, false, [x] => r x none none H Q
  | _, _, _ => False
theorem cutD_ok {K : KP} {G H : Hp} {a : D} {lo hi : Option Int} {res : Res} {x : V} {Q : VK} (le : Le G H) (h : Rep K G H a x)
    (k : match res with
      | .old d => ∀ v, Rep K G H d v → Q v H
      | .nt es => ∀ v H', (H' = H ∨ ∃ p ws, H p = none ∧ H' = upd H p (.tup ws)) → Rep K G H' (.tup es) v → Q v H'
      | .nu es => ∀ p ws, H p = none → RepL K G H es ws → Q (.ref p) (upd H p (.lst ws))) (e : cutD a lo hi = some res) : rSlAll K x lo hi H Q := by
  cases a with
  | lst xs =>
    cases e
    obtain ⟨p, us, rfl, ha, hu⟩ := h.lst'
    exact .inl ⟨p, us, rfl, SqL.of (le _ _ ha), fun q hq => k q _ hq (cutL_rep hu lo hi)⟩
  | tup xs =>
    cases e
    obtain ⟨p, us, rfl, ha, hu⟩ := h.tup'
    refine .inr (.inl ⟨p, us, rfl, SqT.of ha, fun hw => ?_, fun hw q hq => ?_⟩)
    · refine k _ H (.inl rfl) (Rep.ofTup ha ?_)
      have := cutL_rep hu lo hi
      rwa [show cutV us lo hi = us by unfold cutV; rw [hw.1, hw.2, List.drop_zero, Nat.sub_zero, List.take_length]] at this
    · exact k _ _ (.inr ⟨q, _, hq, rfl⟩) (Rep.ofTup upd_same ((cutL_rep hu lo hi).mono (Le.refl G) (upd_tk hq)))
  | str z =>
    by_cases hz : z.length ≤ sizeLine
    · have e2 : cutD (.str z) lo hi = some (.old (.str ⟨(cutL z.cps.toList lo hi).toArray⟩)) := by
        simp only [cutD]
        rw [if_pos hz]
      rw [e2] at e
      cases e
      refine .inr (.inr ⟨z, h.str', hz, k _ ?_⟩)
      exact Rep.ofStr _
    · exfalso
      simp only [cutD] at e
      rw [if_neg hz] at e
      cases e
  | _ => cases e
theorem ok_slc {K : KP} (lo hi : Bool) : PrimOk K (.slc lo hi) (slV (rSlAll K) lo hi) := by
  intro ds res vs H G Q le rp e k
  replace e : pSlc lo hi ds = some res := e
  cases ds with
  | nil => cases e
  | cons a r =>
    obtain ⟨p, e1, e2⟩ := obind (show (loHi lo hi r >>= fun p => cutD a p.1 p.2) = some res from e)
    obtain ⟨x, us, rfl, h1, h2⟩ := rp.uncons
    unfold loHi at e1
    split at e1 <;> cases e1
    · obtain ⟨y, z, rfl, h3, h4⟩ := h2.two
      rw [h3.int', h4.int']
      exact cutD_ok le h1 k e2
    · obtain ⟨y, rfl, h3⟩ := h2.one'
      rw [h3.int']
      exact cutD_ok le h1 k e2
    · obtain ⟨y, rfl, h3⟩ := h2.one'
      rw [h3.int']
      exact cutD_ok le h1 k e2
    · rw [h2.unnil]
      exact cutD_ok le h1 k e2
def rGet2 : V → List V → Hp → VK → Prop := fun x vs H Q => (∃ a y z o, x = .ref a ∧ vs = [y, z] ∧ DGet H a y o ∧ Q (o.getD z) H) ∨ ∃ a y o, x = .ref a ∧ vs = [y] ∧ DGet H a y o ∧ Q (o.getD .non) H
theorem mt_get2 {X : Cx} (hu : X.A.units + 1 < cLine) : MtR X "dict.get" rGet2 := by
  intro pins s σ H x vs v us Q I rx rv h
  rcases h with ⟨a, y, z, o, rfl, rfl, g, q⟩ | ⟨a, y, o, rfl, rfl, g, q⟩
  · obtain rfl : v = Value.ref a := rx
    obtain ⟨u, w, rfl, r1, r2⟩ := rv.two
    exact d_get2 hu I g r1 r2 fun w' s' I' rw' => ⟨_, H, I', rw', q⟩
  · obtain rfl : v = Value.ref a := rx
    obtain ⟨u, rfl, r1⟩ := rv.one
    exact d_get1 hu I g r1 fun w' s' I' rw' => ⟨_, H, I', rw', q⟩
def lm (r : V → List V → Hp → VK → Prop) : List V → Hp → VK → Prop := fun vs H Q => match vs with
  | x :: w => r x w H Q
  | _ => False
theorem ok_getd {K : KP} : PrimOk K .getd (lm rGet2) := by
  intro ds res vs H G Q le rp e k
  replace e : pGetd ds = some res := e
  unfold pGetd at e
  split at e
  · obtain ⟨o, e1, e2⟩ := obind e
    cases e2
    obtain ⟨x, r, rfl, h1, h2⟩ := rp.uncons
    obtain ⟨y, z, rfl, h3, h4⟩ := h2.two
    obtain ⟨p, ro, rfl, h5, h6⟩ := lookD_ok le e1 h1 h3
    refine .inl ⟨p, y, z, ro, rfl, rfl, h5, ?_⟩
    cases o with
    | none =>
      rw [show ro = none from h6]
      exact k _ h4
    | some d =>
      obtain ⟨v, rfl, hv⟩ := h6
      exact k _ hv
  · obtain ⟨o, e1, e2⟩ := obind e
    cases e2
    obtain ⟨x, y, rfl, h1, h3⟩ := rp.two
    obtain ⟨p, ro, rfl, h5, h6⟩ := lookD_ok le e1 h1 h3
    refine .inr ⟨p, y, ro, rfl, rfl, h5, ?_⟩
    cases o with
    | none =>
      rw [show ro = none from h6]
      exact k _ Rep.ofNon
    | some d =>
      obtain ⟨v, rfl, hv⟩ := h6
      exact k _ hv
  · cases e
def tDispT (tk tv : TE) : TE := fun σ H Q => ∀ p, H p = none → tk σ (upd H p (.dT [])) fun x H1 => tv σ H1 fun y H2 => H2 p = some (.dT []) ∧ ∃ b k, x = .ref b ∧ H2 b = some (.tup (k.map kV)) ∧ Q (.ref p) (upd H2 p (.dT [(k, y)]))
theorem pe_dispT {X : Cx} {pos : Pos} {k v : Expr} {tk tv : TE} (hu : X.A.units + 1 < cLine) (hk : PE X k tk) (hv : PE X v tv) : PE X (.Dict [some k] [v] pos) (tDispT tk tv) := by
  refine ⟨fun pins s σ H Q I q => ?_⟩
  have hn := I.hok.fresh (Nat.le_refl s.heap.objs.size)
  have I1 := I.laid (a := s.heap.objs.size) (o := .dT []) (h' := s.heap.push { cls := .type "dict", data := .dict #[] }) (t' := s.toks) (fun _ _ q => Heap.get?_push_of_some _ q) (Nat.le_refl _) (dt_empty s.heap I.big)
  have pr := pps_cons (pos := pos) hk hv (pps_nil (X := X) (pos := pos))
  rw [arm_eval_Dict, zip_pairTrees [some k] [v] X.env pos rfl rfl, dictDisplay_pairs _ (by intro z; cases z) (by rw [pairTrees_length _ _ _ _ rfl rfl]; exact (by decide : 1 < 17))]
  refine wpAny_bind (wpAny_standAt (wpAny_bind (wpAny_subDictH (knd := tupleKind (mixKind X.prog X.w)) (Q := fun d s' => wpAny (model X.prog X.w) X.A (pure (Value.ref d)) (EP X pins σ Q) X.xe s') (show X.A.units < cLine by omega) (by rw [pairTrees_length _ _ _ _ rfl rfl]; exact (by decide : 1 ≤ 15)) ?_)))
  have q0 := q _ hn
  refine wpAny_mono (pr.run pins _ σ _ (fun ps H2 => match ps with
    | [(x, y)] => H2 s.heap.objs.size = some (.dT []) ∧ ∃ b k, x = .ref b ∧ H2 b = some (.tup (k.map kV)) ∧ Q (.ref s.heap.objs.size) (upd H2 s.heap.objs.size (.dT [(k, y)]))
    | _ => False) I1 q0) (fun ws s2 ⟨ps, H2, I2, rel, hb⟩ => ?_) fun _ _ z => z
  cases rel with
  | nil => exact hb.elim
  | @cons p0 w0 l1 l2 hr rt =>
    cases rt with
    | cons _ _ => exact hb.elim
    | nil =>
      obtain ⟨x, y⟩ := p0
      obtain ⟨w1, w2⟩ := w0
      obtain ⟨e1, b, kk, ex, eb, q2⟩ := hb
      subst ex
      obtain ⟨hr1, hr2⟩ := hr
      obtain rfl : w1 = Value.ref b := hr1
      obtain ⟨z, hd, xs0, r0, dd⟩ := dt_of I2.hok e1
      cases r0
      refine ⟨[(kk, b, w2)], ⟨rfl, rfl, key_of I2.hok eb, trivial⟩, dd, fun h' tk hm hs => wpAny_pure ⟨.ref s.heap.objs.size, _, ?_, rfl, q2⟩⟩
      have hm' : h'.DictOfH (tupleKind (mixKind X.prog X.w)) s.heap.objs.size [(kk, b, w2)] := hm
      have he : ∃ q, h'.get? s.heap.objs.size = some q := let ⟨q, _, _, hq, _⟩ := hm'; ⟨q, hq⟩
      refine d_write I2 (by rw [e1]; exact True.intro) hs he ⟨by rw [sizeLine_eq]; exact (by decide : 1 ≤ 16777216), hd, [(kk, b, w2)], .cons ⟨rfl, ?_, hr2⟩ .nil, ?_⟩
      · have nb : b ≠ s.heap.objs.size := fun z => by
          rw [z, e1] at eb
          cases eb
        show upd H2 _ _ b = _
        rw [upd_ne nb]
        exact eb
      · obtain ⟨o, es, ep, a1, a2, a3, a4, a5, a6⟩ := hm'
        exact ⟨o, es, ep, a1, a2, a3, a4, a6⟩
def rIntA : List V → Hp → VK → Prop := fun xs H Q => ((∃ i, xs = [.int i] ∧ Q (.int i) H) ∨ ∃ k, xs = [.bl k] ∧ Q (.int (if k then 1 else 0)) H) ∨ ∃ a n, xs = [.str a] ∧ PySem.intText? a = some n ∧ a.length ≤ 640 ∧ Q (.int n) H
theorem cr_intA {X : Cx} : CallR X (.type "int") rIntA := by
  intro pins s σ H xs us Q I r h
  rcases h with h | h
  · exact call_int1 pins s σ H xs us Q I r h
  · exact call_int_str pins s σ H xs us Q I r h
theorem ok_intOf {K : KP} : PrimOk K .intOf rIntA := by
  intro ds res vs H G Q le rp e k
  replace e : pIntOf ds = some res := e
  unfold pIntOf at e
  split at e
  · cases e
    obtain ⟨x, rfl, h1⟩ := rp.one'
    exact .inl (.inl ⟨_, by rw [h1.int'], k _ (Rep.ofInt _)⟩)
  · cases e
    obtain ⟨x, rfl, h1⟩ := rp.one'
    exact .inl (.inr ⟨_, by rw [h1.bl'], k _ (Rep.ofInt _)⟩)
  · obtain ⟨n, e1, e2⟩ := obind e
    split at e2
    · rename_i hl
      cases e2
      obtain ⟨x, rfl, h1⟩ := rp.one'
      exact .inr ⟨_, n, by rw [h1.str'], e1, hl, k _ (Rep.ofInt _)⟩
    · cases e2
  · cases e
def rStrI : List V → Hp → VK → Prop := fun xs H Q => ∃ i, xs = [.int i] ∧ i.natAbs.log2 < 1920 ∧ Q (.str (toString i)) H
theorem ok_strOf {K : KP} : PrimOk K .strOf rStrI := by
  intro ds res vs H G Q le rp e k
  replace e : pStrOf ds = some res := e
  unfold pStrOf at e
  split at e
  · split at e
    · rename_i hl
      cases e
      obtain ⟨x, rfl, h1⟩ := rp.one'
      exact ⟨_, by rw [h1.int'], hl, k _ (Rep.ofStr _)⟩
    · cases e
  · cases e
theorem bls_rep {K : KP} {G H : Hp} : ∀ {ds : List D} {bs : List Bool} {vs : List V}, blsOf ds = some bs → RepL K G H ds vs → vs = bs.map V.bl
  | [], bs, vs, e, h => by
    cases e
    exact h.unnil
  | d :: ds, bs, vs, e, h => by
    obtain ⟨v, r, rfl, h1, h2⟩ := h.uncons
    cases d with
    | bl b =>
      simp only [blsOf] at e
      cases q : blsOf ds with
      | none => rw [q] at e; cases e
      | some cs =>
        rw [q] at e
        cases e
        rw [h1.bl', bls_rep q h2]
        rfl
    | _ => cases e
theorem ok_anyB {K : KP} : PrimOk K .anyB (rAny K) := by
  intro ds res vs H G Q le rp e k
  replace e : pAnyB ds = some res := e
  unfold pAnyB at e
  split at e
  · obtain ⟨bs, e1, e2⟩ := obind e
    cases e2
    obtain ⟨x, rfl, h1⟩ := rp.one'
    obtain ⟨a, us, rfl, ha, hu⟩ := h1.lst'
    rw [bls_rep e1 hu] at ha
    exact ⟨a, bs, rfl, SqL.of (le _ _ ha), k _ (Rep.ofBl _)⟩
  · cases e
theorem ok_allB {K : KP} : PrimOk K .allB (rAll K) := by
  intro ds res vs H G Q le rp e k
  replace e : pAllB ds = some res := e
  unfold pAllB at e
  split at e
  · obtain ⟨bs, e1, e2⟩ := obind e
    cases e2
    obtain ⟨x, rfl, h1⟩ := rp.one'
    obtain ⟨a, us, rfl, ha, hu⟩ := h1.lst'
    rw [bls_rep e1 hu] at ha
    exact ⟨a, bs, rfl, SqL.of (le _ _ ha), k _ (Rep.ofBl _)⟩
  · cases e
end Rg
namespace Rg
open PySem L2
section
variable {K : KP} {mg : Str → Option Value} {W : WX} {Γ : Env1} {σ : L2.St} {H : Hp} {Q : VK}
theorem de_var {i : Nat} (h : DE K mg W Γ (.var i) σ H Q) : tVar i σ H Q := by
  obtain ⟨τ, F, A, L, sr, h⟩ := h
  simp only [ev] at h
  cases e : τ[i]? with
  | none => rw [e] at h; exact h.elim
  | some s =>
    rw [e] at h
    obtain ⟨o, A1, h1, h4, _⟩ := sr.slots.at e
    cases s with
    | un => exact h.elim
    | fz d =>
      obtain ⟨_, v, rfl, hr⟩ := h4
      exact ⟨v, h1, h v F H A [] (Post.fz sr hr)⟩
    | ow f d =>
      obtain ⟨v, rfl, hr⟩ := h4
      exact ⟨v, h1, h v F H A [] ⟨Step.refl F H A, sr, ⟨rfl, h1⟩, Ap.nil, fun _ z => (List.not_mem_nil z).elim⟩⟩
    | lk f d => exact h.elim
theorem de_cst {d : D} {v : V} (hv : ∀ F H, Rep K F H d v) (h : DE K mg W Γ (.cst d) σ H Q) : tC v σ H Q := by
  obtain ⟨τ, F, A, L, sr, h⟩ := h
  simp only [ev] at h
  exact h v F H A [] (Post.fz sr (hv F H))
theorem de_glb {x : Str} {d : D} {v : V} (hv : ∀ F H, Rep K F H d v) (h : DE K mg W Γ (.glb x d) σ H Q) : tC v σ H Q := by
  obtain ⟨τ, F, A, L, sr, h⟩ := h
  simp only [ev] at h
  exact h v F H A [] (Post.fz sr (hv F H))
theorem bool_read {τ : Sts} {F : Hp} {A B : List Addr} {L : Nat → V} {r : Val} {v : V} {b : Bool} (vr : VR K σ F H r v B) (sr : SR K τ σ F H A L) (e : boolOf τ r = some b) : v = .bl b := by
  unfold boolOf at e
  cases q : dat τ r with
  | none => rw [q] at e; cases e
  | some d =>
    rw [q] at e
    have := vr.read sr q
    cases d with
    | bl c =>
      cases e
      exact this.bl'
    | _ => cases e
theorem de_and {a b : E} (h : DE K mg W Γ (.and a b) σ H Q) : tAndV (DE K mg W Γ a) (DE K mg W Γ b) σ H Q := by
  obtain ⟨τ, F, A, L, sr, h⟩ := h
  refine ⟨τ, F, A, L, sr, ?_⟩
  simp only [ev] at h
  cases e : ev Γ a τ with
  | stuck => rw [e] at h; exact h
  | exc c fs => rw [e] at h; exact h
  | ok x =>
    rw [e] at h
    simp only [R.bind_ok] at h ⊢
    intro v F1 H1 A1 B1 p1
    cases e2 : boolOf x.2 x.1 with
    | none => rw [e2] at h; exact h.elim
    | some c =>
      rw [e2] at h
      simp only [R.of_some, R.bind_ok] at h
      refine ⟨c, bool_read p1.vr p1.sr e2, ?_⟩
      cases c with
      | false =>
        simp only [Bool.false_eq_true, if_false] at h ⊢
        exact h _ F1 H1 A1 [] ⟨p1.st, p1.sr, ⟨rfl, Rep.ofBl _⟩, Ap.nil, fun _ z => (List.not_mem_nil z).elim⟩
      | true =>
        simp only [if_true] at h ⊢
        refine ⟨x.2, F1, A1, L, p1.sr, ?_⟩
        cases e3 : ev Γ b x.2 with
        | stuck => rw [e3] at h; exact h
        | exc c fs =>
          rw [e3] at h
          exact fun F' H' A' s => h F' H' A' (p1.st.trans s)
        | ok y =>
          rw [e3] at h
          intro v2 F2 H2 A2 B2 p2
          refine h v2 F2 H2 A2 B2 ⟨p1.st.trans p2.st, p2.sr, p2.vr, p2.ap, fun b hb => ?_⟩
          rcases p2.bn b hb with z | z
          · exact p1.st.own b z
          · exact .inr (p1.st.dom b z)
theorem Post.trans {τ1 τ2 : Sts} {F F1 F2 H1 H2 : Hp} {A A1 A2 B1 B2 : List Addr} {L : Nat → V} {r1 r2 : Val} {v1 v2 : V} (p1 : Post K σ L F H A τ1 F1 H1 A1 r1 v1 B1) (p2 : Post K σ L F1 H1 A1 τ2 F2 H2 A2 r2 v2 B2) : Post K σ L F H A τ2 F2 H2 A2 r2 v2 B2 :=
  ⟨p1.st.trans p2.st, p2.sr, p2.vr, p2.ap, fun b hb => (p2.bn b hb).elim (fun z => p1.st.own b z) fun z => .inr (p1.st.dom b z)⟩
theorem Step.post {τ1 τ2 : Sts} {F F1 F2 H1 H2 : Hp} {A A1 A2 B2 : List Addr} {L : Nat → V} {r2 : Val} {v2 : V} (s : Step F H A F1 H1 A1) (p2 : Post K σ L F1 H1 A1 τ2 F2 H2 A2 r2 v2 B2) : Post K σ L F H A τ2 F2 H2 A2 r2 v2 B2 :=
  ⟨s.trans p2.st, p2.sr, p2.vr, p2.ap, fun b hb => (p2.bn b hb).elim (fun z => s.own b z) fun z => .inr (s.dom b z)⟩
theorem de_after {b : E} {τ1 : Sts} {F F1 H1 : Hp} {A A1 : List Addr} {L : Nat → V} (st : Step F H A F1 H1 A1) (sr : SR K τ1 σ F1 H1 A1 L)
    (h : match ev Γ b τ1 with
      | .ok r => ∀ v F' H' A' B, Post K σ L F H A r.2 F' H' A' r.1 v B → Q v H'
      | .exc c fs => ∀ F' H' A', Step F H A F' H' A' → XW K mg W c fs σ H'
      | .stuck => False) : DE K mg W Γ b σ H1 Q := by
  refine ⟨τ1, F1, A1, L, sr, ?_⟩
  cases e : ev Γ b τ1 with
  | stuck => rw [e] at h; exact h
  | exc c fs =>
    rw [e] at h
    exact fun F' H' A' s => h F' H' A' (st.trans s)
  | ok y =>
    rw [e] at h
    exact fun v2 F2 H2 A2 B2 p2 => h v2 F2 H2 A2 B2 (st.post (τ1 := τ1) p2)
theorem de_or {a b : E} (h : DE K mg W Γ (.or a b) σ H Q) : tOrV (DE K mg W Γ a) (DE K mg W Γ b) σ H Q := by
  obtain ⟨τ, F, A, L, sr, h⟩ := h
  refine ⟨τ, F, A, L, sr, ?_⟩
  simp only [ev] at h
  cases e : ev Γ a τ with
  | stuck => rw [e] at h; exact h
  | exc c fs => rw [e] at h; exact h
  | ok x =>
    rw [e] at h
    simp only [R.bind_ok] at h ⊢
    intro v F1 H1 A1 B1 p1
    cases e2 : boolOf x.2 x.1 with
    | none => rw [e2] at h; exact h.elim
    | some c =>
      rw [e2] at h
      simp only [R.of_some, R.bind_ok] at h
      refine ⟨c, bool_read p1.vr p1.sr e2, ?_⟩
      cases c with
      | true =>
        simp only [if_true] at h ⊢
        exact h _ F1 H1 A1 [] ⟨p1.st, p1.sr, ⟨rfl, Rep.ofBl _⟩, Ap.nil, fun _ z => (List.not_mem_nil z).elim⟩
      | false =>
        simp only [Bool.false_eq_true, if_false] at h ⊢
        exact de_after p1.st p1.sr h
theorem de_not {a : E} (h : DE K mg W Γ (.not a) σ H Q) : tNotV (DE K mg W Γ a) σ H Q := by
  obtain ⟨τ, F, A, L, sr, h⟩ := h
  refine ⟨τ, F, A, L, sr, ?_⟩
  simp only [ev] at h
  cases e : ev Γ a τ with
  | stuck => rw [e] at h; exact h
  | exc c fs => rw [e] at h; exact h
  | ok x =>
    rw [e] at h
    simp only [R.bind_ok] at h ⊢
    intro v F1 H1 A1 B1 p1
    cases e2 : boolOf x.2 x.1 with
    | none => rw [e2] at h; exact h.elim
    | some c =>
      rw [e2] at h
      simp only [R.of_some, R.bind_ok] at h
      exact ⟨c, bool_read p1.vr p1.sr e2, h _ F1 H1 A1 [] ⟨p1.st, p1.sr, ⟨rfl, Rep.ofBl _⟩, Ap.nil, fun _ z => (List.not_mem_nil z).elim⟩⟩
theorem dt_of {m : E} {Q : Bool → Hp → Prop} (h : DT K mg W Γ m σ H Q) : DE K mg W Γ m σ H fun v H1 => ∃ c, v = .bl c ∧ Q c H1 := by
  obtain ⟨τ, F, A, L, sr, h⟩ := h
  refine ⟨τ, F, A, L, sr, ?_⟩
  cases e : ev Γ m τ with
  | stuck => rw [e] at h; exact h
  | exc c fs => rw [e] at h; exact h
  | ok x =>
    rw [e] at h
    simp only [R.bind_ok] at h ⊢
    intro v F1 H1 A1 B1 p1
    cases e2 : boolOf x.2 x.1 with
    | none => rw [e2] at h; exact h.elim
    | some c =>
      rw [e2] at h
      simp only [R.of_some, R.bind_ok] at h
      exact ⟨c, bool_read p1.vr p1.sr e2, h F1 H1 A1 p1.st p1.sr⟩
theorem dt_after {b : E} {τ1 : Sts} {F F1 H1 : Hp} {A A1 : List Addr} {L : Nat → V} {Q : Bool → Hp → Prop} (st : Step F H A F1 H1 A1) (sr : SR K τ1 σ F1 H1 A1 L)
    (h : match ev Γ b τ1 >>= fun r => R.of (boolOf r.2 r.1) >>= fun k => R.ok (k, r.2) with
      | .ok r => ∀ F' H' A', Step F H A F' H' A' → SR K r.2 σ F' H' A' L → Q r.1 H'
      | .exc c fs => ∀ F' H' A', Step F H A F' H' A' → XW K mg W c fs σ H'
      | .stuck => False) : DT K mg W Γ b σ H1 Q := by
  refine ⟨τ1, F1, A1, L, sr, ?_⟩
  cases e : (ev Γ b τ1 >>= fun r => R.of (boolOf r.2 r.1) >>= fun k => R.ok (k, r.2)) with
  | stuck => rw [e] at h; exact h
  | exc c fs =>
    rw [e] at h
    exact fun F' H' A' s => h F' H' A' (st.trans s)
  | ok y =>
    rw [e] at h
    exact fun F2 H2 A2 s2 r2 => h F2 H2 A2 (st.trans s2) r2
theorem dt_first {a : E} {Q' : Bool → Hp → Prop} {τ : Sts} {F : Hp} {A : List Addr} {L : Nat → V} (sr : SR K τ σ F H A L)
    (h : match ev Γ a τ with
      | .ok x => match boolOf x.2 x.1 with
        | some c => ∀ F1 H1 A1, Step F H A F1 H1 A1 → SR K x.2 σ F1 H1 A1 L → Q' c H1
        | none => False
      | .exc c fs => ∀ F' H' A', Step F H A F' H' A' → XW K mg W c fs σ H'
      | .stuck => False) : DT K mg W Γ a σ H Q' := by
  refine ⟨τ, F, A, L, sr, ?_⟩
  cases e : ev Γ a τ with
  | stuck => rw [e] at h; exact h
  | exc c fs => rw [e] at h; exact h
  | ok x =>
    rw [e] at h
    simp only [R.bind_ok] at h ⊢
    cases e2 : boolOf x.2 x.1 with
    | none => rw [e2] at h; exact h.elim
    | some c =>
      rw [e2] at h
      simp only [R.of_some, R.bind_ok] at h ⊢
      exact h
theorem dt_and {a b : E} {Q : Bool → Hp → Prop} (h : DT K mg W Γ (.and a b) σ H Q) : tAnd (DT K mg W Γ a) (DT K mg W Γ b) σ H Q := by
  obtain ⟨τ, F, A, L, sr, h⟩ := h
  refine dt_first sr ?_
  simp only [ev] at h
  cases e : ev Γ a τ with
  | stuck => rw [e] at h; exact h
  | exc c fs => rw [e] at h; exact h
  | ok x =>
    rw [e] at h
    simp only [R.bind_ok] at h ⊢
    cases e2 : boolOf x.2 x.1 with
    | none => rw [e2] at h; exact h.elim
    | some c =>
      rw [e2] at h
      simp only [R.of_some, R.bind_ok] at h ⊢
      intro F1 H1 A1 s1 r1
      cases c with
      | false =>
        simp only [Bool.false_eq_true, if_false] at h ⊢
        exact h F1 H1 A1 s1 r1
      | true =>
        simp only [if_true] at h ⊢
        exact dt_after s1 r1 h
theorem dt_or {a b : E} {Q : Bool → Hp → Prop} (h : DT K mg W Γ (.or a b) σ H Q) : tOr (DT K mg W Γ a) (DT K mg W Γ b) σ H Q := by
  obtain ⟨τ, F, A, L, sr, h⟩ := h
  refine dt_first sr ?_
  simp only [ev] at h
  cases e : ev Γ a τ with
  | stuck => rw [e] at h; exact h
  | exc c fs => rw [e] at h; exact h
  | ok x =>
    rw [e] at h
    simp only [R.bind_ok] at h ⊢
    cases e2 : boolOf x.2 x.1 with
    | none => rw [e2] at h; exact h.elim
    | some c =>
      rw [e2] at h
      simp only [R.of_some, R.bind_ok] at h ⊢
      intro F1 H1 A1 s1 r1
      cases c with
      | true =>
        simp only [if_true] at h ⊢
        exact h F1 H1 A1 s1 r1
      | false =>
        simp only [Bool.false_eq_true, if_false] at h ⊢
        exact dt_after s1 r1 h
theorem dt_not {a : E} {Q : Bool → Hp → Prop} (h : DT K mg W Γ (.not a) σ H Q) : tNot (DT K mg W Γ a) σ H Q := by
  obtain ⟨τ, F, A, L, sr, h⟩ := h
  refine dt_first sr ?_
  simp only [ev] at h
  cases e : ev Γ a τ with
  | stuck => rw [e] at h; exact h
  | exc c fs => rw [e] at h; exact h
  | ok x =>
    rw [e] at h
    simp only [R.bind_ok] at h ⊢
    cases e2 : boolOf x.2 x.1 with
    | none => rw [e2] at h; exact h.elim
    | some c =>
      rw [e2] at h
      simp only [R.of_some, R.bind_ok] at h ⊢
      exact h
theorem de_ite {c a b : E} (h : DE K mg W Γ (.ite c a b) σ H Q) : tIf (DT K mg W Γ c) (DE K mg W Γ a) (DE K mg W Γ b) σ H Q := by
  obtain ⟨τ, F, A, L, sr, h⟩ := h
  refine dt_first sr ?_
  simp only [ev] at h
  cases e : ev Γ c τ with
  | stuck => rw [e] at h; exact h
  | exc c fs => rw [e] at h; exact h
  | ok x =>
    rw [e] at h
    simp only [R.bind_ok] at h ⊢
    cases e2 : boolOf x.2 x.1 with
    | none => rw [e2] at h; exact h.elim
    | some c =>
      rw [e2] at h
      simp only [R.of_some, R.bind_ok] at h ⊢
      intro F1 H1 A1 s1 r1
      cases c with
      | true =>
        simp only [if_true] at h ⊢
        exact de_after s1 r1 h
      | false =>
        simp only [Bool.false_eq_true, if_false] at h ⊢
        exact de_after s1 r1 h
theorem de_chain {p q : Prim} {r r' : R2} {a b c : E} (ok : PrimOk K p (l2 r)) (ok' : PrimOk K q (l2 r')) (h : DE K mg W Γ (.chain p q a b c) σ H Q) : tChain r r' (DE K mg W Γ a) (DE K mg W Γ b) (DE K mg W Γ c) σ H Q := by
  obtain ⟨τ, F, A, L, sr, h⟩ := h
  refine ⟨τ, F, A, L, sr, ?_⟩
  simp only [ev] at h
  cases e : ev Γ a τ with
  | stuck => rw [e] at h; exact h
  | exc c fs => rw [e] at h; exact h
  | ok x =>
    rw [e] at h
    simp only [R.bind_ok] at h ⊢
    intro v F1 H1 A1 B1 p1
    refine ⟨x.2, F1, A1, L, p1.sr, ?_⟩
    cases e2 : ev Γ b x.2 with
    | stuck => rw [e2] at h; exact h
    | exc c fs =>
      rw [e2] at h
      exact fun F' H' A' s => h F' H' A' (p1.st.trans s)
    | ok y =>
      rw [e2] at h
      simp only [R.bind_ok] at h ⊢
      intro w F2 H2 A2 B2 p2
      have pl := PostL.cons p1 (PostL.cons p2 (PostL.nil p2.sr))
      cases e3 : dats y.2 [x.1, y.1] with
      | none => rw [e3] at h; exact h.elim
      | some ds =>
        rw [e3] at h
        simp only [R.of_some, R.bind_ok] at h
        have rd := pl.vr.reads pl.sr e3
        cases e4 : primD p ds with
        | none => rw [e4] at h; exact h.elim
        | some res =>
          rw [e4] at h
          simp only [R.of_some, R.bind_ok] at h
          refine ok ds res [v, w] H2 H2 _ (Le.refl H2) rd e4 ?_
          cases res with
          | nt _ => exact h.elim
          | nu _ => exact h.elim
          | old d =>
            intro z hz
            cases d with
            | bl k =>
              refine ⟨k, hz.bl', ?_⟩
              cases k with
              | false =>
                simp only [Bool.false_eq_true, if_false]
                exact h _ F2 H2 A2 [] ⟨pl.st, pl.sr, ⟨rfl, Rep.ofBl _⟩, Ap.nil, fun _ z => (List.not_mem_nil z).elim⟩
              | true =>
                simp only [if_true]
                simp only at h
                refine ⟨y.2, F2, A2, L, p2.sr, ?_⟩
                cases e5 : ev Γ c y.2 with
                | stuck => rw [e5] at h; exact h
                | exc c fs =>
                  rw [e5] at h
                  exact fun F' H' A' s => h F' H' A' ((p1.st.trans p2.st).trans s)
                | ok u =>
                  rw [e5] at h
                  simp only [R.bind_ok] at h ⊢
                  intro w2 F3 H3 A3 B3 p3
                  have pm := PostL.cons p2 (PostL.cons p3 (PostL.nil p3.sr))
                  cases e6 : dats u.2 [y.1, u.1] with
                  | none => rw [e6] at h; exact h.elim
                  | some es =>
                    rw [e6] at h
                    simp only [R.of_some, R.bind_ok] at h
                    have rd2 := pm.vr.reads pm.sr e6
                    cases e7 : primD q es with
                    | none => rw [e7] at h; exact h.elim
                    | some res2 =>
                      rw [e7] at h
                      simp only [R.of_some, R.bind_ok] at h
                      refine ok' es res2 [w, w2] H3 H3 _ (Le.refl H3) rd2 e7 ?_
                      have st3 : Step F H A F3 H3 A3 := (p1.st.trans p2.st).trans p3.st
                      cases res2 with
                      | old d =>
                        by_cases i : imm d = true
                        · simp only [resV, i, Bool.false_or, if_true, R.of_some, R.bind_ok] at h
                          exact fun v hv => h v F3 H3 A3 [] ⟨st3, p3.sr, ⟨rfl, hv.imm (Tk.refl H3) i⟩, Ap.nil, fun _ z => (List.not_mem_nil z).elim⟩
                        · simp only [resV, i, Bool.false_or, R.of_none, R.bind_stuck] at h
                          exact h.elim
                      | nt es =>
                        by_cases i : immL es = true
                        · simp only [resV, i, Bool.false_or, if_true, R.of_some, R.bind_ok] at h
                          intro v H4 hh hv
                          have i2 : imm (.tup es) = true := by unfold imm; exact i
                          rcases hh with rfl | ⟨p, ws, hp, rfl⟩
                          · exact h v F3 _ A3 [] ⟨st3, p3.sr, ⟨rfl, hv.imm (Tk.refl _) i2⟩, Ap.nil, fun _ z => (List.not_mem_nil z).elim⟩
                          · exact h v F3 _ A3 [] ⟨st3.withLaid hp, p3.sr.step hp, ⟨rfl, hv.imm (Tk.refl _) i2⟩, Ap.nil, fun _ z => (List.not_mem_nil z).elim⟩
                        · simp only [resV, i, Bool.false_or, R.of_none, R.bind_stuck] at h
                          exact h.elim
                      | nu es =>
                        by_cases i : immL es = true
                        · simp only [resV, i, if_true, R.of_some, R.bind_ok] at h
                          intro p ws hp hw
                          have off := p3.sr.off_none hp
                          refine h _ F3 _ A3 [p] ⟨st3.withLaid hp, p3.sr.step hp, Own.newList hp (hw.imm (Tk.refl H3) i) fun _ => i, Ap.one off, fun b hb => ?_⟩
                          rw [List.mem_singleton.mp hb]
                          exact .inr (st3.dom p hp)
                        · simp only [resV, i, R.of_none, R.bind_stuck] at h
                          exact h.elim
            | _ => exact h.elim
end
end Rg
namespace Rg
open PySem L2
section
variable {K : KP} {mg : Str → Option Value} {W : WX} {Γ : Env1} {σ : L2.St} {F H : Hp} {A : List Addr} {L : Nat → V} {τ : Sts} {Q : VK}
theorem SR.out {i : Nat} {f : Bool} {d : D} (r : SR K τ σ F H A L) (e : τ[i]? = some (.ow f d)) : ∃ v A1 Ar, σ[i]? = some (some v) ∧ Own K F H f d v A1 ∧ A.Perm (A1 ++ Ar) ∧ SR K (τ.set i .un) σ F H Ar L ∧ Ap F Ar A1 ∧
    SR K (τ.set i (.lk f d)) σ F H Ar (fun j => if j = i then v else L j) := by
  obtain ⟨o, A1, Ar, h1, h2, h3, h5⟩ := r.slots.out e
  obtain ⟨v, rfl, h6⟩ := h2
  have nd : (A1 ++ Ar).Nodup := h3.nodup_iff.mp r.nd
  have nd' := List.nodup_append.mp nd
  have off : ∀ a, a ∈ A1 ++ Ar → F a = none := fun a ha => r.off a (h3.mem_iff.mpr ha)
  have offR : ∀ a ∈ Ar, F a = none := fun a ha => off a (List.mem_append_right _ ha)
  refine ⟨v, A1, Ar, h1, h6, h3, ⟨r.le, h5 L .un (fun _ _ => rfl) rfl, nd'.2.1, offR⟩, ⟨nd'.1, fun b hb z => nd'.2.2 b hb b z rfl, fun b hb => off b (List.mem_append_left _ hb)⟩, ⟨r.le, h5 _ _ (fun j hj => if_neg hj) ⟨rfl, ?_⟩, nd'.2.1, offR⟩⟩
  rw [if_pos rfl]
theorem SR.give {i : Nat} {f : Bool} {d : D} {v : V} {A1 : List Addr} {s0 : Slot} {M : Nat → V} (r : SR K τ σ F H A L) (e : τ[i]? = some s0) (he : ∀ f d, s0 ≠ .ow f d) (hM : ∀ j, j ≠ i → M j = L j) (h : Own K F H f d v A1) (ap : Ap F A A1) : SR K (τ.set i (.ow f d)) (σ.set i (some v)) F H (A1 ++ A) M := by
  have h1 := r.slots.into (s := .ow f d) (o := some v) (A1 := A1) e he hM ⟨v, rfl, h⟩
  refine ⟨r.le, h1, ?_, fun a ha => ?_⟩
  · exact List.nodup_append.mpr ⟨ap.nd, r.nd, fun a ha b hb z => by
      subst z
      exact ap.a a ha hb⟩
  · rcases List.mem_append.mp ha with ha | ha
    · exact ap.off a ha
    · exact r.off a ha
theorem SR.giveFz {i : Nat} {d : D} {v : V} {s0 : Slot} (r : SR K τ σ F H A L) (e : τ[i]? = some s0) (he : ∀ f d, s0 ≠ .ow f d) (h : Rep K F H d v) : SR K (τ.set i (.fz d)) (σ.set i (some v)) F H A L :=
  ⟨r.le, r.slots.into (s := .fz d) (o := some v) (A1 := []) e he (fun _ _ => rfl) ⟨rfl, v, rfl, h⟩, r.nd, r.off⟩
theorem sto_ok {r q : Val} {τ' : Sts} {v : V} {B : List Addr} (sr : SR K τ σ F H A L) (vr : VR K σ F H r v B) (ap : Ap F A B) (e : sto τ r = some (q, τ')) :
    ∃ A' B', SR K τ' σ F H A' L ∧ VR K σ F H q v B' ∧ Ap F A' B' ∧ (∀ a ∈ A', a ∈ A) ∧ (∀ b ∈ B', b ∈ B ∨ b ∈ A) ∧ noSlot q = true := by
  cases r with
  | fz d =>
    cases e
    exact ⟨A, B, sr, vr, ap, fun _ h => h, fun _ h => .inl h, rfl⟩
  | own f d =>
    cases e
    exact ⟨A, B, sr, vr, ap, fun _ h => h, fun _ h => .inl h, rfl⟩
  | slot i =>
    simp only [sto] at e
    cases h : τ[i]? with
    | none => rw [h] at e; cases e
    | some s =>
      rw [h] at e
      cases s with
      | ow f d =>
        cases e
        obtain ⟨w, A1, Ar, h1, h2, h3, h4, h5, _⟩ := sr.out h
        have : w = v := Option.some.inj (Option.some.inj (h1.symm.trans vr.2))
        subst this
        exact ⟨Ar, A1, h4, h2, h5, fun a ha => h3.mem_iff.mpr (List.mem_append_right _ ha), fun b hb => .inr (h3.mem_iff.mpr (List.mem_append_left _ hb)), rfl⟩
      | _ => cases e
theorem stos_ok : ∀ {rs qs : List Val} {τ τ' : Sts} {vs : List V} {A B : List Addr}, SR K τ σ F H A L → VRL K σ F H rs vs B → Ap F A B → stos τ rs = some (qs, τ') →
    ∃ A' B', SR K τ' σ F H A' L ∧ VRL K σ F H qs vs B' ∧ Ap F A' B' ∧ (∀ a ∈ A', a ∈ A) ∧ (∀ b ∈ B', b ∈ B ∨ b ∈ A) ∧ qs.all noSlot = true
  | [], _, τ, _, vs, A, B, sr, vr, ap, e => by
    cases e
    exact ⟨A, B, sr, vr, ap, fun _ h => h, fun _ h => .inl h, rfl⟩
  | r :: rs, qs, τ, τ', vs, A, B, sr, vr, ap, e => by
    obtain ⟨v, w, B1, B2, rfl, rfl, h1, h2⟩ := vr
    unfold stos at e
    obtain ⟨p, e1, e2⟩ := obind e
    obtain ⟨q, e3, e4⟩ := obind e2
    cases e4
    obtain ⟨A1, C1, s1, v1, a1, z1, z2, n1⟩ := sto_ok sr h1 ap.left e1
    have ap2 : Ap F A1 B2 := ⟨ap.right.nd, fun b hb z => ap.right.a b hb (z1 b z), ap.right.off⟩
    obtain ⟨A2, C2, s2, v2, a2, z3, z4, n2⟩ := stos_ok s1 h2 ap2 e3
    have dj : ∀ b ∈ C1, b ∉ C2 := fun b hb z => by
      rcases z4 b z with z | z
      · rcases z2 b hb with y | y
        · exact (List.nodup_append.mp ap.nd).2.2 b y b z rfl
        · exact ap.right.a b z y
      · exact a1.a b hb z
    have a1' : Ap F A2 C1 := ⟨a1.nd, fun b hb z => a1.a b hb (z3 b z), a1.off⟩
    refine ⟨A2, C1 ++ C2, s2, ⟨v, w, C1, C2, rfl, rfl, v1, v2⟩, a1'.app a2 dj, fun a ha => z1 a (z3 a ha), fun b hb => ?_, by simp [n1, n2]⟩
    rcases List.mem_append.mp hb with hb | hb
    · rcases z2 b hb with y | y
      · exact .inl (List.mem_append_left _ y)
      · exact .inr y
    · rcases z4 b hb with y | y
      · exact .inl (List.mem_append_right _ y)
      · exact .inr (z1 b y)
theorem dats_kept {τ : Sts} : ∀ {qs : List Val}, qs.all noSlot = true → dats τ qs = some (qs.map vD)
  | [], _ => rfl
  | q :: qs, h => by
    simp only [List.all_cons, Bool.and_eq_true] at h
    have ih := dats_kept (τ := τ) h.2
    cases q with
    | fz d => simp [dats, dat, ih, vD]
    | own f d => simp [dats, dat, ih, vD]
    | slot i => cases h.1
theorem VRL.kids {f : Bool} : ∀ {qs : List Val} {vs : List V} {B : List Addr}, VRL K σ F H qs vs B → qs.all noSlot = true → (f = true → qs.all vFull = true) → Kids K F H f (qs.map vD) vs B
  | [], _, _, h, _, _ => by
    obtain ⟨rfl, rfl⟩ := h
    exact Kids.nil
  | q :: qs, _, _, h, n, g => by
    obtain ⟨v, w, B1, B2, rfl, rfl, h1, h2⟩ := h
    simp only [List.all_cons, Bool.and_eq_true] at n g
    refine Kids.cons ?_ (VRL.kids h2 n.2 fun z => (g z).2)
    cases q with
    | fz d => exact .inl ⟨h1.1, h1.2, fun z => (g z).1⟩
    | own f' d => exact .inr (Own.to h1 fun z => (g z).1)
    | slot i => cases n.1
theorem VRL.len : ∀ {qs : List Val} {vs : List V} {B : List Addr}, VRL K σ F H qs vs B → qs.length = vs.length
  | [], _, _, h => by
    obtain ⟨rfl, _⟩ := h
    rfl
  | q :: qs, _, _, h => by
    obtain ⟨v, w, B1, B2, rfl, _, _, h2⟩ := h
    simp [VRL.len h2]
theorem da_kept {args : E} {Q : List V → Hp → Prop} (sr : SR K τ σ F H A L)
    (h : match evs Γ args τ >>= fun r => R.of (stos r.2 r.1) with
      | .ok q => ∀ vs F' H' A' B, PostL K σ L F H A q.2 F' H' A' q.1 vs B → q.1.all noSlot = true → Q vs H'
      | .exc c fs => ∀ F' H' A', Step F H A F' H' A' → XW K mg W c fs σ H'
      | .stuck => False) : DA K mg W Γ args σ H Q := by
  refine ⟨τ, F, A, L, sr, ?_⟩
  cases e : evs Γ args τ with
  | stuck => rw [e] at h; exact h
  | exc c fs => rw [e] at h; exact h
  | ok x =>
    rw [e] at h
    simp only [R.bind_ok] at h ⊢
    intro vs F1 H1 A1 B1 pl
    cases e2 : stos x.2 x.1 with
    | none => rw [e2] at h; exact h.elim
    | some q =>
      rw [e2] at h
      simp only [R.of_some] at h
      obtain ⟨A2, B2, s2, v2, a2, z1, z2, n2⟩ := stos_ok pl.sr pl.vr pl.ap (show stos x.2 x.1 = some (q.1, q.2) from e2)
      refine h vs F1 H1 A2 B2 ⟨⟨pl.st.mono, pl.st.fresh, pl.st.frame, fun a ha => pl.st.own a (z1 a ha), pl.st.dom, pl.st.tk⟩, s2, v2, a2, fun b hb => ?_⟩ n2
      rcases z2 b hb with z | z
      · exact pl.bn b z
      · exact pl.st.own b z
theorem de_tup {args : E} (h : DE K mg W Γ (.tup args) σ H Q) : tTup (DA K mg W Γ args) σ H Q := by
  obtain ⟨τ, F, A, L, sr, h⟩ := h
  refine da_kept sr ?_
  simp only [ev] at h
  cases e : evs Γ args τ with
  | stuck => rw [e] at h; exact h
  | exc c fs => rw [e] at h; exact h
  | ok x =>
    rw [e] at h
    simp only [R.bind_ok] at h ⊢
    cases e2 : stos x.2 x.1 with
    | none => rw [e2] at h; exact h.elim
    | some q =>
      rw [e2] at h
      simp only [R.of_some, R.bind_ok] at h ⊢
      intro vs F1 H1 A1 B1 pl ns
      by_cases hz : q.1.length ≤ sizeLine
      · rw [if_pos hz] at h
        refine ⟨by rw [← pl.vr.len]; exact hz, fun p hp => ?_⟩
        have srF := pl.sr.frozen pl.ap
        have rp : RepL K (frzB F1 H1 B1) H1 (q.1.map vD) vs := VRL.frozen (τ := q.2) (frzB_le pl.ap.off) (fun b hb => frzB_in hb) pl.vr (dats_kept ns) ns
        exact h _ (frzB F1 H1 B1) _ A1 [] ⟨(pl.st.frozen pl.ap.off pl.bn).withLaid hp, srF.step hp, ⟨rfl, Rep.ofTup upd_same (rp.mono (Le.refl _) (upd_tk hp))⟩, Ap.nil, fun _ z => (List.not_mem_nil z).elim⟩
      · rw [if_neg hz] at h
        exact h.elim
theorem de_lst {args : E} (h : DE K mg W Γ (.lst args) σ H Q) : tLst (DA K mg W Γ args) σ H Q := by
  obtain ⟨τ, F, A, L, sr, h⟩ := h
  refine da_kept sr ?_
  simp only [ev] at h
  cases e : evs Γ args τ with
  | stuck => rw [e] at h; exact h
  | exc c fs => rw [e] at h; exact h
  | ok x =>
    rw [e] at h
    simp only [R.bind_ok] at h ⊢
    cases e2 : stos x.2 x.1 with
    | none => rw [e2] at h; exact h.elim
    | some q =>
      rw [e2] at h
      simp only [R.of_some, R.bind_ok] at h ⊢
      intro vs F1 H1 A1 B1 pl ns
      by_cases hz : q.1.length ≤ sizeLine
      · rw [if_pos hz] at h
        refine ⟨by rw [← pl.vr.len]; exact hz, fun p hp => ?_⟩
        have kd : Kids K F1 H1 (q.1.all vFull) (q.1.map vD) vs B1 := pl.vr.kids ns fun z => z
        have nb : ∀ b ∈ B1, b ≠ p := fun b hb z => by
          obtain ⟨o, e, _⟩ := pl.vr.dom b hb
          rw [z, hp] at e
          cases e
        have kd2 : Kids K F1 (upd H1 p (.lst vs)) (q.1.all vFull) (q.1.map vD) vs B1 := kd.mono (Le.refl _) (upd_tk hp) fun b hb => upd_ne (nb b hb)
        have off := pl.sr.off_none hp
        refine h _ F1 _ A1 (p :: B1) ⟨pl.st.withLaid hp, pl.sr.step hp, ?_, ?_, fun b hb => ?_⟩
        · show Own K F1 _ _ (.lst _) _ _
          unfold Own
          exact ⟨p, vs, B1, rfl, upd_same, rfl, kd2⟩
        · exact (Ap.one off).app pl.ap fun b hb z => nb b z (List.mem_singleton.mp hb)
        · rcases List.mem_cons.mp hb with rfl | hb
          · exact .inr (pl.st.dom _ hp)
          · exact pl.bn b hb
      · rw [if_neg hz] at h
        exact h.elim
theorem de_dnewT (h : DE K mg W Γ .dnewT σ H Q) : tDNewT σ H Q := by
  obtain ⟨τ, F, A, L, sr, h⟩ := h
  simp only [ev] at h
  intro p hp
  refine h _ F _ A [p] ⟨Step.laid hp, sr.step hp, ?_, Ap.one (sr.off_none hp), fun b hb => ?_⟩
  · show Own K F _ _ (.dT [] []) _ _
    unfold Own
    exact ⟨p, [], [], rfl, upd_same, rfl, rfl, Kids.nil⟩
  · rw [List.mem_singleton.mp hb]
    exact .inr hp
theorem de_dnewK (h : DE K mg W Γ .dnewK σ H Q) : tDNewK σ H Q := by
  obtain ⟨τ, F, A, L, sr, h⟩ := h
  simp only [ev] at h
  intro p hp
  refine h _ F _ A [p] ⟨Step.laid hp, sr.step hp, ?_, Ap.one (sr.off_none hp), fun b hb => ?_⟩
  · show Own K F _ _ (.dK [] []) _ _
    unfold Own
    exact ⟨p, [], [], rfl, upd_same, rfl, rfl, Kids.nil⟩
  · rw [List.mem_singleton.mp hb]
    exact .inr hp
theorem own_tk {a : Addr} {o u : HO} (h : H a = some u) (hn : Nt u) : Tk H (upd H a o) := by
  refine ⟨fun b xs e => ?_, fun b xs e => ?_⟩
  all_goals
    by_cases z : b = a
    · subst z
      rw [h] at e
      cases e
      exact hn.elim
    · rw [upd_ne z]
      exact e
theorem SR.change {i : Nat} {f f' : Bool} {d d' : D} {v : V} {a : Addr} {C A1' Ar B : List Addr} {u o : HO} (hv : σ[i]? = some (some v)) (hs : ∃ s, (τ.set i .un)[i]? = some s) (sr : SR K (τ.set i .un) σ F H Ar L) (ap : Ap F Ar (a :: C)) (ha : H a = some u) (hu : Nt u)
    (apB : Ap F Ar A1') (new : Own K F (upd H a o) f' d' v A1') : SR K (τ.set i (.ow f' d')) σ F (upd H a o) (A1' ++ Ar) L := by
  have na : ∀ b ∈ Ar, b ≠ a := fun b hb z => by
    subst z
    exact ap.a b List.mem_cons_self hb
  have fa : F a = none := ap.off a List.mem_cons_self
  have sr2 : SR K (τ.set i .un) σ F (upd H a o) Ar L := sr.keep (Le.refl F) (fun b q e => by
    rw [upd_ne (fun z => by rw [z, fa] at e; cases e)]
    exact sr.le b q e) (own_tk ha hu) (fun b hb => upd_ne (na b hb)) sr.off
  have hi : (τ.set i .un)[i]? = some .un := by
    obtain ⟨s, hs⟩ := hs
    have : i < (τ.set i Slot.un).length := (List.getElem?_eq_some_iff.mp hs).1
    rw [List.getElem?_set_self (by simpa using this)]
  have g := sr2.give (M := L) hi (fun _ _ z => by cases z) (fun _ _ => rfl) new apB
  rw [set_back hv, List.set_set] at g
  exact g
end
end Rg
namespace Rg
open PySem L2
section
variable {K : KP} {mg : Str → Option Value} {W : WX} {Γ : Env1} {σ : L2.St} {F H : Hp} {A : List Addr} {L : Nat → V} {τ : Sts} {Q : VK}
structure Chg (K : KP) (σ : L2.St) (L : Nat → V) (F H : Hp) (A : List Addr) (bk : Bool → List D → Sts) (F1 H1 : Hp) (f : Bool) (xs : List D) (B : List Addr) (a : Addr) (us : List V) (C : List Addr) : Prop where
  le : Le F1 H1
  at_ : H1 a = some (.lst us)
  kids : Kids K F1 H1 f xs us C
  nd : (C ++ B).Nodup
  go : ∀ f' xs' us' C', Kids K F1 H1 f' xs' us' C' → C'.Nodup → (∀ b ∈ C', b ∈ C ++ B) → ∃ A2, Step F H A F1 (upd H1 a (.lst us')) A2 ∧ SR K (bk f' xs') σ F1 (upd H1 a (.lst us')) A2 L
theorem chg {τ2 : Sts} {F1 H1 : Hp} {A1 B : List Addr} {qs : List Val} {vs : List V} {i : Nat} {f : Bool} {xs : List D} (pl : PostL K σ L F H A τ2 F1 H1 A1 qs vs B) (e : τ2[i]? = some (.ow f (.lst xs))) : ∃ a us C, σ[i]? = some (some (.ref a)) ∧ Chg K σ L F H A (fun f' xs' => τ2.set i (.ow f' (.lst xs'))) F1 H1 f xs B a us C := by
  obtain ⟨v, A0, Ar, hv, ow, pm, sr, ap, _⟩ := pl.sr.out e
  unfold Own at ow
  obtain ⟨a, us, C, rfl, ha, rfl, kd⟩ := ow
  have inA : ∀ b ∈ a :: C, b ∈ A1 := fun b hb => pm.mem_iff.mpr (List.mem_append_left _ hb)
  have arA : ∀ b ∈ Ar, b ∈ A1 := fun b hb => pm.mem_iff.mpr (List.mem_append_right _ hb)
  have nB : ∀ b ∈ B, b ∉ A1 := pl.ap.a
  have ndC := List.nodup_cons.mp ap.nd
  have hs : ∃ s, (τ2.set i Slot.un)[i]? = some s := ⟨.un, by
    have := (List.getElem?_eq_some_iff.mp e).1
    rw [List.getElem?_set_self this]⟩
  refine ⟨a, us, C, hv, pl.sr.le, ha, kd, ?_, fun f' xs' us' C' k' n' s' => ?_⟩
  · exact List.nodup_append.mpr ⟨ndC.2, pl.ap.nd, fun x hx y hy z => nB y hy (by rw [← z]; exact inA x (List.mem_cons_of_mem _ hx))⟩
  · have na : ∀ b ∈ C', b ≠ a := fun b hb z => by
      rcases List.mem_append.mp (s' b hb) with q | q
      · exact ndC.1 (z ▸ q)
      · exact nB b q (z ▸ inA a List.mem_cons_self)
    have tk : Tk H1 (upd H1 a (.lst us')) := own_tk ha trivial
    have kd' : Kids K F1 (upd H1 a (.lst us')) f' xs' us' C' := k'.mono (Le.refl _) tk fun b hb => upd_ne (na b hb)
    have ap' : Ap F1 Ar (a :: C') := by
      refine ⟨List.nodup_cons.mpr ⟨fun z => na a z rfl, n'⟩, fun b hb => ?_, fun b hb => ?_⟩
      · rcases List.mem_cons.mp hb with rfl | hb
        · exact ap.a b List.mem_cons_self
        · rcases List.mem_append.mp (s' b hb) with q | q
          · exact ap.a b (List.mem_cons_of_mem _ q)
          · exact fun z => nB b q (arA b z)
      · rcases List.mem_cons.mp hb with rfl | hb
        · exact ap.off b List.mem_cons_self
        · rcases List.mem_append.mp (s' b hb) with q | q
          · exact ap.off b (List.mem_cons_of_mem _ q)
          · exact pl.ap.off b q
    have new : Own K F1 (upd H1 a (.lst us')) f' (.lst xs') (.ref a) (a :: C') := by
      unfold Own
      exact ⟨a, us', C', rfl, upd_same, rfl, kd'⟩
    have sr2 := SR.change (i := i) (f := f) (d := .lst xs) (B := B) hv hs sr ap ha trivial ap' new
    refine ⟨(a :: C') ++ Ar, ⟨pl.st.mono, pl.st.fresh, fun b o h n => ?_, fun b hb => ?_, fun b h => ?_, pl.st.tk.trans tk⟩, sr2⟩
    · have : b ≠ a := fun z => by
        subst z
        rcases pl.st.own b (inA b List.mem_cons_self) with q | q
        · exact n q
        · rw [h] at q
          cases q
      rw [upd_ne this]
      exact pl.st.frame b o h n
    · rcases List.mem_append.mp hb with hb | hb
      · rcases List.mem_cons.mp hb with rfl | hb
        · exact pl.st.own b (inA b List.mem_cons_self)
        · rcases List.mem_append.mp (s' b hb) with q | q
          · exact pl.st.own b (inA b (List.mem_cons_of_mem _ q))
          · exact pl.bn b q
      · exact pl.st.own b (arA b hb)
    · exact pl.st.dom b (upd_dom h)
def MutOk (K : KP) (σ : L2.St) (m : Mut1) (G : Addr → List V → Hp → Prop) (Q : VK) : Prop := ∀ (a : Addr) (us : List V) (C B : List Addr) (f : Bool) (xs : List D) (qs : List Val) (vs : List V) (z : Bool × List D × D) (bk : Bool → List D → Sts) (F0 F1 H0 H1 : Hp) (A0 : List Addr) (L0 : Nat → V),
      Chg K σ L0 F0 H0 A0 bk F1 H1 f xs B a us C → VRL K σ F1 H1 qs vs B → qs.all noSlot = true → mutL m f xs qs = some z →
      (∀ v F' H' A' B', Post K σ L0 F0 H0 A0 (bk z.1 z.2.1) F' H' A' (.fz z.2.2) v B' → Q v H') → G a vs H1
theorem de_mut {m : Mut1} {i : Nat} {args : E} {G : Addr → List V → Hp → Prop} (hg : MutOk K σ m G Q)
    (h : DE K mg W Γ (.mut m i args) σ H Q) : ∃ a xs, σ[i]? = some (some (.ref a)) ∧ H a = some (.lst xs) ∧ DA K mg W Γ args σ H fun vs H1 => G a vs H1 := by
  obtain ⟨τ, F, A, L, sr, h⟩ := h
  simp only [ev] at h
  cases e0 : τ[i]? with
  | none => rw [e0] at h; exact h.elim
  | some s =>
    rw [e0] at h
    cases s with
    | ow f0 d0 =>
      cases d0 with
      | lst ds0 =>
        obtain ⟨o, A0, h1, h2, _⟩ := sr.slots.at e0
        obtain ⟨v, rfl, ow⟩ := h2
        unfold Own at ow
        obtain ⟨a, us, C, rfl, ha, _, _⟩ := ow
        refine ⟨a, us, h1, ha, da_kept sr ?_⟩
        simp only at h
        cases e : evs Γ args τ with
        | stuck => rw [e] at h; exact h
        | exc c fs => rw [e] at h; exact h
        | ok x =>
          rw [e] at h
          simp only [R.bind_ok] at h ⊢
          cases e2 : stos x.2 x.1 with
          | none => rw [e2] at h; exact h.elim
          | some q =>
            rw [e2] at h
            simp only [R.of_some, R.bind_ok] at h ⊢
            intro vs F1 H1 A1 B1 pl ns
            cases e3 : q.2[i]? with
            | none => rw [e3] at h; exact h.elim
            | some s2 =>
              rw [e3] at h
              cases s2 with
              | ow f d =>
                cases d with
                | lst xs =>
                  simp only at h
                  cases e4 : mutL m f xs q.1 with
                  | none => rw [e4] at h; exact h.elim
                  | some z =>
                    rw [e4] at h
                    simp only [R.of_some, R.bind_ok] at h
                    obtain ⟨a2, us2, C2, cgv, cg⟩ := chg pl e3
                    have : a2 = a := V.ref.inj (Option.some.inj (Option.some.inj (cgv.symm.trans h1)))
                    subst this
                    exact hg a2 us2 C2 B1 f xs q.1 vs z _ F F1 H H1 A L cg pl.vr ns e4 h
                | _ => exact h.elim
              | _ => exact h.elim
      | _ => exact h.elim
    | _ => exact h.elim
theorem Chg.post {bk : Bool → List D → Sts} {F1 H1 : Hp} {f : Bool} {xs : List D} {B C : List Addr} {a : Addr} {us : List V} (c : Chg K σ L F H A bk F1 H1 f xs B a us C) {f' : Bool} {xs' : List D} {us' : List V} {C' : List Addr} {y : D} {w : V} (k : Kids K F1 H1 f' xs' us' C') (n : C'.Nodup) (s : ∀ b ∈ C', b ∈ C ++ B)
    (hy : imm y = true) (hr : Rep K F1 H1 y w) : ∃ A2, Post K σ L F H A (bk f' xs') F1 (upd H1 a (.lst us')) A2 (.fz y) w [] := by
  obtain ⟨A2, h1, h2⟩ := c.go f' xs' us' C' k n s
  exact ⟨A2, h1, h2, ⟨rfl, hr.imm (own_tk c.at_ trivial) hy⟩, Ap.nil, fun _ z => (List.not_mem_nil z).elim⟩
theorem VRL.one {q : Val} {vs : List V} {B : List Addr} (h : VRL K σ F H [q] vs B) : ∃ v, vs = [v] ∧ VR K σ F H q v B := by
  obtain ⟨v, w, B1, B2, rfl, rfl, h1, h2⟩ := h
  obtain ⟨rfl, rfl⟩ := h2
  rw [List.append_nil]
  exact ⟨v, rfl, h1⟩
theorem VRL.two {q r : Val} {vs : List V} {B : List Addr} (h : VRL K σ F H [q, r] vs B) : ∃ v w B1 B2, vs = [v, w] ∧ B = B1 ++ B2 ∧ VR K σ F H q v B1 ∧ VR K σ F H r w B2 := by
  obtain ⟨v, u, B1, B2, rfl, rfl, h1, h2⟩ := h
  obtain ⟨w, rfl, h3⟩ := h2.one
  exact ⟨v, w, B1, B2, rfl, rfl, h1, h3⟩
theorem VR.kid {f : Bool} {q : Val} {v : V} {B : List Addr} (h : VR K σ F H q v B) (n : noSlot q = true) (g : f = true → vFull q = true) : Kids K F H f [vD q] [v] B := by
  have := VRL.kids (f := f) (qs := [q]) (vs := [v]) (B := B ++ []) ⟨v, [], B, [], rfl, rfl, h, rfl, rfl⟩ (by simp [n]) (fun z => by simp [g z])
  simpa using this
theorem mut_append : MutOk K σ .append (fun a vs H1 => rAppend (.ref a) vs H1 Q) Q := by
  intro a us C B f xs qs vs z bk F0 F1 H0 H1 A0 L0 cg vr ns e q
  replace e : mAppend f xs qs = some z := e
  unfold mAppend at e
  split at e
  · split at e
    · rename_i v0 hz
      cases e
      obtain ⟨v, rfl, h4⟩ := vr.one
      simp only [List.all_cons, List.all_nil, Bool.and_true] at ns
      have kd := (cg.kids.to (g := f && vFull v0) fun z => (Bool.and_eq_true_iff.mp z).1).app (h4.kid (f := f && vFull v0) ns fun z => (Bool.and_eq_true_iff.mp z).2)
      obtain ⟨A2, p⟩ := cg.post kd cg.nd (fun _ hb => hb) (y := .non) rfl Rep.ofNon
      exact ⟨a, us, v, rfl, rfl, cg.at_, by rw [← cg.kids.len]; exact hz, q _ _ _ _ _ p⟩
    · cases e
  · cases e
theorem de_append {i : Nat} {args : E} (h : DE K mg W Γ (.mut .append i args) σ H Q) : tBM K "list" rAppend (tVar i) (DA K mg W Γ args) σ H Q := by
  have step := de_mut mut_append h
  obtain ⟨a, xs, h1, h2, h3⟩ := step
  exact ⟨.ref a, h1, .inl ⟨rfl, xs, SqL.of h2⟩, h3⟩
theorem Kids.dropLast {f : Bool} {xs : List D} {us : List V} {C : List Addr} {y : D} (k : Kids K F H f xs us C) (h : xs[xs.length - 1]? = some y) (hy : imm y = true) : ∃ C', Kids K F H f xs.dropLast us.dropLast C' ∧ (∃ C2, C = C' ++ C2) ∧ ∃ w, us[us.length - 1]? = some w ∧ Rep K F H y w := by
  have ne : xs ≠ [] := fun z => by
    subst z
    cases h
  have e : xs = xs.dropLast ++ [y] := by
    have : xs.getLast? = some y := by
      rw [List.getLast?_eq_getElem?]
      exact h
    obtain ⟨ys, rfl⟩ := List.getLast?_eq_some_iff.mp this
    rw [List.dropLast_concat]
  rw [e] at k
  obtain ⟨v1, v2, C1, C2, rfl, rfl, k1, k2⟩ := k.split
  obtain ⟨w, r, A1, A2, rfl, _, k3, k4⟩ := k2.uncons
  have := k4.unnil.1
  subst this
  refine ⟨C1, ?_, ⟨C2, rfl⟩, w, by simp, ?_⟩
  · rw [List.dropLast_concat]
    exact k1
  · rcases k3 with z | z
    · exact z.2.1
    · exact (Own.ofImm hy z).2
theorem mut_pop : MutOk K σ .pop (fun a vs H1 => rPop (.ref a) vs H1 Q) Q := by
  intro a us C B f xs qs vs z bk F0 F1 H0 H1 A0 L0 cg vr ns e q
  replace e : mPop f xs qs = some z := e
  unfold mPop at e
  split at e
  · obtain ⟨rfl, rfl⟩ := vr
    split at e
    · rename_i y hy
      split at e
      · rename_i hi
        cases e
        obtain ⟨C', k', ⟨C2, rfl⟩, w, hw, hr⟩ := cg.kids.dropLast hy hi
        have nd : C'.Nodup := (List.nodup_append.mp (List.nodup_append.mp cg.nd).1).1
        obtain ⟨A2, p⟩ := cg.post k' nd (fun b hb => List.mem_append_left _ (List.mem_append_left _ hb)) hi hr
        exact ⟨a, us, w, rfl, rfl, cg.at_, hw, q _ _ _ _ _ p⟩
      · cases e
    · cases e
  · cases e
theorem de_pop {i : Nat} (h : DE K mg W Γ (.mut .pop i .nil) σ H Q) : tBM0 K "list" rPop (tVar i) σ H Q := by
  have step := de_mut mut_pop h
  obtain ⟨a, xs, h1, h2, h3⟩ := step
  exact ⟨.ref a, h1, .inl ⟨rfl, xs, SqL.of h2⟩, da_nil h3⟩
theorem mut_clear : MutOk K σ .clear (fun a vs H1 => rClear (.ref a) vs H1 Q) Q := by
  intro a us C B f xs qs vs z bk F0 F1 H0 H1 A0 L0 cg vr ns e q
  replace e : mClear f xs qs = some z := e
  unfold mClear at e
  split at e
  · obtain ⟨rfl, rfl⟩ := vr
    cases e
    obtain ⟨A2, p⟩ := cg.post (f' := true) Kids.nil List.nodup_nil (fun b hb => (List.not_mem_nil hb).elim) (y := .non) rfl Rep.ofNon
    exact ⟨a, us, rfl, rfl, cg.at_, q _ _ _ _ _ p⟩
  · cases e
theorem de_clear {i : Nat} (h : DE K mg W Γ (.mut .clear i .nil) σ H Q) : tBM0 K "list" rClear (tVar i) σ H Q := by
  have step := de_mut mut_clear h
  obtain ⟨a, xs, h1, h2, h3⟩ := step
  exact ⟨.ref a, h1, .inl ⟨rfl, xs, SqL.of h2⟩, da_nil h3⟩
theorem Kids.setAt {f g : Bool} {xs : List D} {us : List V} {C B : List Addr} {q : Val} {v : V} {j : Nat} (k : Kids K F H f xs us C) (hj : j < xs.length) (kv : Kids K F H g [vD q] [v] B) (hg : g = true → f = true) (nd : (C ++ B).Nodup) : ∃ C', Kids K F H g (xs.set j (vD q)) (us.set j v) C' ∧ C'.Nodup ∧ ∀ b ∈ C', b ∈ C ++ B := by
  have k' := k.to hg
  have e1 : xs = xs.take j ++ (xs[j] :: xs.drop (j + 1)) := by
    rw [← List.drop_eq_getElem_cons hj, List.take_append_drop]
  rw [e1] at k'
  obtain ⟨v1, v2, A1, A2, rfl, rfl, k1, k2⟩ := Kids.split k'
  obtain ⟨w, r, B1, B2, rfl, rfl, k3, k4⟩ := k2.uncons
  have l1 : v1.length = j := by
    rw [← k1.len, List.length_take]
    omega
  refine ⟨A1 ++ (B ++ B2), ?_, ?_, ?_⟩
  · have e2 : (v1 ++ w :: r).set j v = v1 ++ ([v] ++ r) := by
      rw [List.set_append_right _ _ (by omega), l1, Nat.sub_self]
      rfl
    have e3 : xs.set j (vD q) = xs.take j ++ ([vD q] ++ xs.drop (j + 1)) := by
      rw [List.set_eq_take_append_cons_drop, if_pos hj]
      rfl
    rw [e2, e3]
    exact k1.app (kv.app k4)
  · have pm : ((A1 ++ (B1 ++ B2)) ++ B).Perm (B1 ++ (A1 ++ (B ++ B2))) := by
      refine List.perm_iff_count.mpr fun a => ?_
      simp only [List.count_append]
      omega
    exact (List.nodup_append.mp (pm.nodup nd)).2.1
  · intro b hb
    simp only [List.mem_append] at hb ⊢
    rcases hb with hb | hb | hb
    · exact .inl (.inl hb)
    · exact .inr hb
    · exact .inl (.inr (.inr hb))
def rSet2 (a : Addr) (vs : List V) (H1 : Hp) (Qn : Hp → Prop) : Prop := match vs with
  | [v, y] => rSetL (.ref a) y v H1 Qn
  | _ => False
theorem mut_setAt {Qn : Hp → Prop} : MutOk K σ .setAt (fun a vs H1 => rSet2 a vs H1 Qn) (fun _ H' => Qn H') := by
  intro a us C B f xs qs vs z bk F0 F1 H0 H1 A0 L0 cg vr ns e q
  replace e : mSetAt f xs qs = some z := e
  unfold mSetAt at e
  split at e
  · rename_i v0 kk
    cases ej : ixN xs.length kk with
    | none => rw [ej] at e; cases e
    | some j =>
      rw [ej] at e
      cases e
      obtain ⟨v, w, B1, B2, rfl, rfl, h4, h5⟩ := vr.two
      simp only [List.all_cons, List.all_nil, Bool.and_true, Bool.and_eq_true] at ns
      obtain ⟨rfl, h6⟩ := h5
      have ew : w = .int kk := by unfold Rep at h6; exact h6
      subst ew
      have hj : j < xs.length := (ixN_seq ej).2.1
      have nd := cg.nd
      rw [List.append_nil] at nd
      obtain ⟨C', k1, k2, k3⟩ := Kids.setAt cg.kids hj (h4.kid (f := f && vFull v0) ns.1 fun z => (Bool.and_eq_true_iff.mp z).2) (fun z => (Bool.and_eq_true_iff.mp z).1) nd
      obtain ⟨A2, p⟩ := cg.post k1 k2 (fun b hb => by rw [List.append_nil]; exact k3 b hb) (y := .non) rfl Rep.ofNon
      exact ⟨a, us, kk, j, rfl, rfl, cg.at_, by rw [← cg.kids.len]; exact ej, q _ _ _ _ _ p⟩
  · cases e
theorem de_setAt {i : Nat} {args : E} {Qn : Hp → Prop} (h : DE K mg W Γ (.mut .setAt i args) σ H fun _ H' => Qn H') : ∃ a, σ[i]? = some (some (.ref a)) ∧ DA K mg W Γ args σ H fun vs H1 => rSet2 a vs H1 Qn := by
  have step := de_mut mut_setAt h
  obtain ⟨a, xs, h1, h2, h3⟩ := step
  exact ⟨a, h1, h3⟩
theorem chgA {τ2 : Sts} {F1 H1 : Hp} {A1 B : List Addr} {qs : List Val} {vs : List V} {i : Nat} {f : Bool} {d : D} (pl : PostL K σ L F H A τ2 F1 H1 A1 qs vs B) (e : τ2[i]? = some (.ow f d)) :
    ∃ v A0, σ[i]? = some (some v) ∧ Own K F1 H1 f d v A0 ∧ (A0 ++ B).Nodup ∧
      ∀ f' d' b u o' A0', b ∈ A0 → H1 b = some u → Nt u → Own K F1 (upd H1 b o') f' d' v A0' → A0'.Nodup → (∀ c ∈ A0', c ∈ A0 ++ B) → ∃ A2, Step F H A F1 (upd H1 b o') A2 ∧ SR K (τ2.set i (.ow f' d')) σ F1 (upd H1 b o') A2 L := by
  obtain ⟨v, A0, Ar, hv, ow, pm, sr, ap, _⟩ := pl.sr.out e
  have inA : ∀ b ∈ A0, b ∈ A1 := fun b hb => pm.mem_iff.mpr (List.mem_append_left _ hb)
  have arA : ∀ b ∈ Ar, b ∈ A1 := fun b hb => pm.mem_iff.mpr (List.mem_append_right _ hb)
  have nB : ∀ b ∈ B, b ∉ A1 := pl.ap.a
  refine ⟨v, A0, hv, ow, List.nodup_append.mpr ⟨ap.nd, pl.ap.nd, fun x hx y hy z => nB y hy (by rw [← z]; exact inA x hx)⟩, fun f' d' b u o' A0' hb hu hn new n' s' => ?_⟩
  have na : ∀ c ∈ Ar, c ≠ b := fun c hc z => ap.a b hb (z ▸ hc)
  have fb : F1 b = none := ap.off b hb
  have tk : Tk H1 (upd H1 b o') := own_tk hu hn
  have sr2 : SR K (τ2.set i .un) σ F1 (upd H1 b o') Ar L := sr.keep (Le.refl F1) (fun c q e => by
    rw [upd_ne (fun z => by rw [z, fb] at e; cases e)]
    exact sr.le c q e) tk (fun c hc => upd_ne (na c hc)) sr.off
  have ap' : Ap F1 Ar A0' := ⟨n', fun c hc => by
      rcases List.mem_append.mp (s' c hc) with q | q
      · exact ap.a c q
      · exact fun z => nB c q (arA c z), fun c hc => by
      rcases List.mem_append.mp (s' c hc) with q | q
      · exact ap.off c q
      · exact pl.ap.off c q⟩
  have hi : (τ2.set i Slot.un)[i]? = some .un := by
    rw [List.getElem?_set_self (List.getElem?_eq_some_iff.mp e).1]
  have g := sr2.give (M := L) hi (fun _ _ z => by cases z) (fun _ _ => rfl) new ap'
  rw [set_back hv, List.set_set] at g
  refine ⟨A0' ++ Ar, ⟨pl.st.mono, pl.st.fresh, fun c o h n => ?_, fun c hc => ?_, fun c h => pl.st.dom c (upd_dom h), pl.st.tk.trans tk⟩, g⟩
  · have : c ≠ b := fun z => by
      subst z
      rcases pl.st.own c (inA c hb) with q | q
      · exact n q
      · rw [h] at q
        cases q
    rw [upd_ne this]
    exact pl.st.frame c o h n
  · rcases List.mem_append.mp hc with hc | hc
    · rcases List.mem_append.mp (s' c hc) with q | q
      · exact pl.st.own c (inA c q)
      · exact pl.bn c q
    · exact pl.st.own c (arA c hc)
theorem imm_fz {q : Val} {v : V} {B : List Addr} (h : VR K σ F H q v B) (ns : noSlot q = true) (i : imm (vD q) = true) : B = [] ∧ Rep K F H (vD q) v := by
  cases q with
  | fz d => exact h
  | own f d =>
    exact Own.ofImm (show imm d = true from i) (show Own K F H f d v B from h)
  | slot i => cases ns
theorem zip_put {κ : Type} [DecidableEq κ] (k : κ) (v : V) : ∀ {ks : List κ} {vs : List V}, ks.length = vs.length → (ks.zip vs).map (fun kv => if kv.1 = k then (kv.1, v) else kv) = ks.zip (List.zipWith (fun q x => if q = k then v else x) ks vs)
  | [], vs, h => by cases vs with
    | nil => rfl
    | cons _ _ => cases h
  | x :: ks, [], h => by cases h
  | x :: ks, y :: vs, h => by
    simp only [List.zip_cons_cons, List.map_cons, List.zipWith_cons_cons]
    rw [zip_put k v (Nat.succ.inj h)]
    congr 1
    split <;> rfl
theorem Kids.put {κ : Type} [DecidableEq κ] (k : κ) {v : V} {d0 : D} {f : Bool} (hr : Rep K F H d0 v) (hi : imm d0 = true) : ∀ {ks : List κ} {ds : List D} {vs : List V} {C : List Addr}, ks.length = vs.length → Kids K F H f ds vs C →
    ∃ C', Kids K F H f (List.zipWith (fun q d => if q = k then d0 else d) ks ds) (List.zipWith (fun q x => if q = k then v else x) ks vs) C' ∧ C'.Sublist C
  | [], ds, vs, C, hl, h => by
    refine ⟨[], ?_, List.nil_sublist _⟩
    rw [List.zipWith_nil_left, List.zipWith_nil_left]
    exact Kids.nil
  | x :: ks, [], vs, C, hl, h => by
    have := h.len
    cases vs with
    | nil => cases hl
    | cons _ _ => cases this
  | x :: ks, d :: ds, vs, C, hl, h => by
    obtain ⟨w, r, A1, A2, rfl, rfl, h1, h2⟩ := h.uncons
    obtain ⟨C', h3, h4⟩ := Kids.put k hr hi (ks := ks) (Nat.succ.inj hl) h2
    simp only [List.zipWith_cons_cons]
    by_cases hx : x = k
    · rw [if_pos hx, if_pos hx]
      refine ⟨[] ++ C', Kids.cons (.inl ⟨rfl, hr, fun _ => hi⟩) h3, ?_⟩
      exact List.Sublist.trans h4 (List.sublist_append_right A1 A2)
    · rw [if_neg hx, if_neg hx]
      exact ⟨A1 ++ C', Kids.cons h1 h3, List.Sublist.append (List.Sublist.refl A1) h4⟩
theorem putT_ok {κ : Type} [DecidableEq κ] {f : Bool} {ks : List κ} {ds : List D} {k : κ} {q : Val} {z : Bool × List κ × List D} {vs : List V} {v : V} {C B : List Addr} (e : putT f ks ds k q = some z) (hl : ks.length = vs.length) (kd : Kids K F H f ds vs C) (vr : VR K σ F H q v B) (ns : noSlot q = true) (nd : (C ++ B).Nodup) :
    (ks.zip vs).length < sizeLine ∧ ∃ vs' C', putK (ks.zip vs) k v = z.2.1.zip vs' ∧ z.2.1.length = vs'.length ∧ Kids K F H z.1 z.2.2 vs' C' ∧ C'.Nodup ∧ ∀ c ∈ C', c ∈ C ++ B := by
  unfold putT at e
  have lz : (ks.zip vs).length = ks.length := by rw [List.length_zip]; omega
  have anyE : ((ks.zip vs).any fun kv => decide (kv.1 = k)) = decide (k ∈ ks) := by
    have : (ks.zip vs).map (·.1) = ks := List.map_fst_zip (by omega)
    rw [show ((ks.zip vs).any fun kv => decide (kv.1 = k)) = (((ks.zip vs).map (·.1)).any fun q => decide (q = k)) by rw [List.any_map]; rfl, this]
    rw [Bool.eq_iff_iff]
    simp
  split at e
  · rename_i hlen
    refine ⟨by omega, ?_⟩
    split at e
    · rename_i hk
      split at e
      · rename_i hi
        cases e
        obtain ⟨rfl, hr⟩ := imm_fz vr ns hi
        obtain ⟨C', h3, h4⟩ := Kids.put k hr hi hl kd
        refine ⟨_, C', ?_, ?_, h3, h4.nodup (by simpa using nd), fun c hc => List.mem_append_left _ (h4.subset hc)⟩
        · unfold putK
          rw [anyE, if_pos (decide_eq_true hk), zip_put k v hl]
        · rw [List.length_zipWith]
          simp only
          omega
      · cases e
    · rename_i hk
      cases e
      refine ⟨vs ++ [v], C ++ B, ?_, ?_, (kd.to (fun z => (Bool.and_eq_true_iff.mp z).1)).app (vr.kid ns fun z => (Bool.and_eq_true_iff.mp z).2), nd, fun c hc => hc⟩
      · unfold putK
        rw [anyE, if_neg (by simp [hk])]
        rw [List.zip_append hl]
        rfl
      · simp [hl]
  · cases e
def rDP (a : Addr) (vs : List V) (H1 : Hp) (Qn : Hp → Prop) : Prop := match vs with
  | [v, y] => ∃ a' H4, (V.ref a) = .ref a' ∧ DPut H1 a' y v H4 ∧ Qn H4
  | _ => False
theorem Kids.upd {f : Bool} {xs : List D} {us : List V} {C : List Addr} {a : Addr} {u o : HO} (k : Kids K F H f xs us C) (ha : H a = some u) (hu : Nt u) (na : ∀ b ∈ C, b ≠ a) : Kids K F (L2.upd H a o) f xs us C := k.mono (Le.refl _) (own_tk ha hu) fun b hb => upd_ne (na b hb)
theorem de_dput {i : Nat} {args : E} {Qn : Hp → Prop} (h : DE K mg W Γ (.dput i args) σ H fun _ H' => Qn H') : ∃ a, σ[i]? = some (some (.ref a)) ∧ DA K mg W Γ args σ H fun vs H1 => rDP a vs H1 Qn := by
  obtain ⟨τ, F, A, L, sr, h⟩ := h
  simp only [ev] at h
  cases e0 : τ[i]? with
  | none => rw [e0] at h; exact h.elim
  | some s =>
    rw [e0] at h
    cases s with
    | ow f0 d0 =>
      obtain ⟨o, A0, h1, h2, _⟩ := sr.slots.at e0
      obtain ⟨v, rfl, ow⟩ := h2
      have hv : ∃ a, v = .ref a := by
        unfold Own at ow
        cases d0 with
        | lst _ => obtain ⟨a, _, _, q, _⟩ := ow; exact ⟨a, q⟩
        | dT _ _ => obtain ⟨a, _, _, q, _⟩ := ow; exact ⟨a, q⟩
        | dK _ _ => obtain ⟨a, _, _, q, _⟩ := ow; exact ⟨a, q⟩
        | tup _ => obtain ⟨a, _, q, _⟩ := ow; exact ⟨a, q⟩
        | _ => exact ow.elim
      obtain ⟨a, rfl⟩ := hv
      refine ⟨a, h1, da_kept sr ?_⟩
      simp only at h
      cases e : evs Γ args τ with
      | stuck => rw [e] at h; exact h
      | exc c fs => rw [e] at h; exact h
      | ok x =>
        rw [e] at h
        simp only [R.bind_ok] at h ⊢
        cases e2 : stos x.2 x.1 with
        | none => rw [e2] at h; exact h.elim
        | some q =>
          rw [e2] at h
          simp only [R.of_some, R.bind_ok] at h ⊢
          intro vs F1 H1 A1 B1 pl ns
          cases e3 : q.2[i]? with
          | none => rw [e3] at h; exact h.elim
          | some s2 =>
            rw [e3] at h
            cases s2 with
            | ow f d =>
              simp only at h
              cases e4 : putD f d q.1 with
              | none => rw [e4] at h; exact h.elim
              | some z =>
                rw [e4] at h
                simp only [R.of_some, R.bind_ok] at h
                obtain ⟨v, A0, hv, ow, nd, go⟩ := chgA pl e3
                have : v = .ref a := Option.some.inj (Option.some.inj (hv.symm.trans h1))
                subst this
                unfold putD at e4
                split at e4
                · rename_i v0 k0 eq
                  have vr := pl.vr
                  rw [eq] at vr ns
                  obtain ⟨v, w, B1, B2, rfl, rfl, h4, h5⟩ := vr.two
                  simp only [List.all_cons, List.all_nil, Bool.and_true, Bool.and_eq_true] at ns
                  obtain ⟨rfl, h6⟩ := h5
                  rw [List.append_nil] at nd go
                  cases d with
                  | dT ks ds =>
                    simp only at e4
                    cases k0 with
                    | tup kd =>
                      simp only at e4
                      cases q1 : keysOf kd with
                      | none => rw [q1] at e4; cases e4
                      | some k =>
                        rw [q1] at e4
                        cases q2 : putT f ks ds k v0 with
                        | none => rw [Option.bind_some, q2] at e4; cases e4
                        | some z2 =>
                          rw [Option.bind_some, q2] at e4
                          cases e4
                          unfold Own at ow
                          obtain ⟨a2, us, C, ea, ha, hl, rfl, kd2⟩ := ow
                          cases ea
                          have nd3 := List.nodup_cons.mp (show (a :: (C ++ B1)).Nodup from nd)
                          obtain ⟨z1, us', C', p1, p2, p3, p4, p5⟩ := putT_ok (K := K) (σ := σ) (F := F1) (H := H1) q2 hl kd2 h4 ns.1 nd3.2
                          obtain ⟨b, ws, rfl, hb, hw⟩ := h6.tup'
                          rw [keysOf_rep q1 hw] at hb
                          have na : ∀ c ∈ C', c ≠ a := fun c hc y => nd3.1 (y ▸ p5 c hc)
                          have own' : Own K F1 (L2.upd H1 a (.dT (z2.2.1.zip us'))) z2.1 (.dT z2.2.1 z2.2.2) (.ref a) (a :: C') := by
                            unfold Own
                            exact ⟨a, us', C', rfl, upd_same, p2, rfl, p3.upd ha trivial na⟩
                          obtain ⟨A2, st2, sr2⟩ := go _ _ a _ _ (a :: C') List.mem_cons_self ha trivial own' (List.nodup_cons.mpr ⟨fun y => na a y rfl, p4⟩) (fun c hc => by
                            rcases List.mem_cons.mp hc with rfl | hc
                            · exact List.mem_cons_self
                            · exact List.mem_cons_of_mem _ (p5 c hc))
                          refine ⟨a, _, rfl, .inr ⟨_, k, b, ha, rfl, hb, z1, rfl⟩, ?_⟩
                          rw [p1]
                          exact h .non F1 _ A2 [] ⟨st2, sr2, ⟨rfl, Rep.ofNon⟩, Ap.nil, fun _ z => (List.not_mem_nil z).elim⟩
                    | _ => cases e4
                  | dK ks ds =>
                    simp only at e4
                    cases q1 : keyOf k0 with
                    | none => rw [q1] at e4; cases e4
                    | some k =>
                      rw [q1] at e4
                      cases q2 : putT f ks ds k v0 with
                      | none => rw [Option.bind_some, q2] at e4; cases e4
                      | some z2 =>
                        rw [Option.bind_some, q2] at e4
                        cases e4
                        unfold Own at ow
                        obtain ⟨a2, us, C, ea, ha, hl, rfl, kd2⟩ := ow
                        cases ea
                        have nd3 := List.nodup_cons.mp (show (a :: (C ++ B1)).Nodup from nd)
                        obtain ⟨z1, us', C', p1, p2, p3, p4, p5⟩ := putT_ok (K := K) (σ := σ) (F := F1) (H := H1) q2 hl kd2 h4 ns.1 nd3.2
                        have na : ∀ c ∈ C', c ≠ a := fun c hc y => nd3.1 (y ▸ p5 c hc)
                        have own' : Own K F1 (L2.upd H1 a (.dK (z2.2.1.zip us'))) z2.1 (.dK z2.2.1 z2.2.2) (.ref a) (a :: C') := by
                          unfold Own
                          exact ⟨a, us', C', rfl, upd_same, p2, rfl, p3.upd ha trivial na⟩
                        obtain ⟨A2, st2, sr2⟩ := go _ _ a _ _ (a :: C') List.mem_cons_self ha trivial own' (List.nodup_cons.mpr ⟨fun y => na a y rfl, p4⟩) (fun c hc => by
                          rcases List.mem_cons.mp hc with rfl | hc
                          · exact List.mem_cons_self
                          · exact List.mem_cons_of_mem _ (p5 c hc))
                        refine ⟨a, _, rfl, .inl ⟨_, k, ha, keyOf_rep q1 h6, z1, rfl⟩, ?_⟩
                        rw [p1]
                        exact h .non F1 _ A2 [] ⟨st2, sr2, ⟨rfl, Rep.ofNon⟩, Ap.nil, fun _ z => (List.not_mem_nil z).elim⟩
                  | _ => cases e4
                · cases e4
            | _ => exact h.elim
    | _ => exact h.elim
theorem VRL.step {F' H' : Hp} {A' : List Addr} (s : Step F H A F' H' A') : ∀ {rs : List Val} {vs : List V} {B : List Addr}, VRL K σ F H rs vs B → Ap F A B → VRL K σ F' H' rs vs B ∧ Ap F' A' B
  | [], vs, B, h, ap => by
    obtain ⟨rfl, rfl⟩ := h
    exact ⟨⟨rfl, rfl⟩, Ap.nil⟩
  | r :: rs, vs, B, h, ap => by
    obtain ⟨v, w, B1, B2, rfl, rfl, h1, h2⟩ := h
    obtain ⟨k1, a1⟩ := h1.step ap.left s
    obtain ⟨k2, a2⟩ := VRL.step s h2 ap.right
    exact ⟨⟨v, w, B1, B2, rfl, rfl, k1, k2⟩, a1.app a2 fun b hb z => (List.nodup_append.mp ap.nd).2.2 b hb b z rfl⟩
theorem VRL.app : ∀ {rs qs : List Val} {vs ws : List V} {B C : List Addr}, VRL K σ F H rs vs B → VRL K σ F H qs ws C → VRL K σ F H (rs ++ qs) (vs ++ ws) (B ++ C)
  | [], _, _, _, _, _, h, k => by
    obtain ⟨rfl, rfl⟩ := h
    exact k
  | r :: rs, _, _, _, _, _, h, k => by
    obtain ⟨v, w, B1, B2, rfl, rfl, h1, h2⟩ := h
    exact ⟨v, _, B1, B2 ++ _, rfl, List.append_assoc _ _ _, h1, VRL.app h2 k⟩
theorem Kids.inner {xs ys : List D} {us : List V} {C : List Addr} {j : Nat} (k : Kids K F H true xs us C) (h : xs[j]? = some (.lst ys)) (nd : C.Nodup) : ∃ b ws C1 Cj C2, us[j]? = some (.ref b) ∧ H b = some (.lst ws) ∧ C = C1 ++ ((b :: Cj) ++ C2) ∧ Kids K F H true ys ws Cj ∧
    ∀ f' ys' ws' Cj', Kids K F (L2.upd H b (.lst ws')) f' ys' ws' Cj' → Kids K F (L2.upd H b (.lst ws')) f' (xs.set j (.lst ys')) us (C1 ++ ((b :: Cj') ++ C2)) := by
  obtain ⟨hj, e0⟩ := List.getElem?_eq_some_iff.mp h
  have e1 : xs = xs.take j ++ (xs[j] :: xs.drop (j + 1)) := by
    rw [← List.drop_eq_getElem_cons hj, List.take_append_drop]
  have k' := k
  rw [e1] at k'
  obtain ⟨v1, v2, A1, A2, rfl, rfl, k1, k2⟩ := Kids.split k'
  obtain ⟨w, r, B1, B2, rfl, rfl, k3, k4⟩ := k2.uncons
  have l1 : v1.length = j := by
    rw [← k1.len, List.length_take]
    omega
  rw [e0] at k3
  rcases k3 with ⟨_, _, z⟩ | ow
  · have := z rfl
    cases this
  · unfold Own at ow
    obtain ⟨b, ws, Cj, rfl, hb, rfl, kd⟩ := ow
    refine ⟨b, ws, A1, Cj, B2, ?_, hb, rfl, kd, fun f' ys' ws' Cj' kn => ?_⟩
    · rw [List.getElem?_append_right (by omega), l1, Nat.sub_self]
      rfl
    · have nb1 : ∀ c ∈ A1, c ≠ b := fun c hc z => (List.nodup_append.mp nd).2.2 c hc b (List.mem_append_left _ List.mem_cons_self) z
      have nb2 : ∀ c ∈ B2, c ≠ b := fun c hc z => (List.nodup_append.mp (List.nodup_append.mp nd).2.1).2.2 b List.mem_cons_self c hc z.symm
      have t1 := (k1.upd (o := .lst ws') hb trivial nb1).to (g := f') fun _ => rfl
      have t2 := (k4.upd (o := .lst ws') hb trivial nb2).to (g := f') fun _ => rfl
      have e3 : xs.set j (.lst ys') = xs.take j ++ (.lst ys' :: xs.drop (j + 1)) := by
        rw [List.set_eq_take_append_cons_drop, if_pos hj]
      rw [e3]
      refine t1.app (Kids.cons (.inr ?_) t2)
      unfold Own
      exact ⟨b, ws', Cj', rfl, upd_same, rfl, kn⟩
theorem de_mut2n {m : Mut1} {i : Nat} {pre k args : E} {G : Addr → List V → Hp → Prop} {Ln : Nat → Prop} (hg : MutOk K σ m G Q)
    (h : ∃ τ F A L, SR K τ σ F H A L ∧ (∀ x q0 xs rk j0 j ys, evs Γ pre τ = .ok x → stos x.2 x.1 = some q0 → q0.2[i]? = some (.ow true (.lst xs)) → ev Γ k (q0.2.set i .un) = .ok rk → rk.1 = .fz (.int j0) → ixN xs.length j0 = some j → xs[j]? = some (.lst ys) → Ln ys.length) ∧ match ev Γ (.mut2 m i pre k args) τ with
      | .ok r => ∀ v F' H' A' B, Post K σ L F H A r.2 F' H' A' r.1 v B → Q v H'
      | .exc c fs => ∀ F' H' A', Step F H A F' H' A' → XW K mg W c fs σ H'
      | .stuck => False) : DA K mg W Γ pre σ H fun vs0 H0 => ∃ a, σ[i]? = some (some (.ref a)) ∧ DE K mg W Γ k σ H0 fun y H1 => ∃ us b xs j0, y = .int j0 ∧ H1 a = some (.lst us) ∧ atI us j0 = some (.ref b) ∧ H1 b = some (.lst xs) ∧ Ln xs.length ∧ DA K mg W Γ args σ H1 fun vs H2 => G b (vs0 ++ vs) H2 := by
  obtain ⟨τ, F, A, L, sr, hLn, h⟩ := h
  refine da_kept sr ?_
  simp only [ev] at h
  cases e : evs Γ pre τ with
  | stuck => rw [e] at h; exact h
  | exc c fs => rw [e] at h; exact h
  | ok x =>
    rw [e] at h
    simp only [R.bind_ok] at h ⊢
    cases e2 : stos x.2 x.1 with
    | none => rw [e2] at h; exact h.elim
    | some q0 =>
      rw [e2] at h
      simp only [R.of_some, R.bind_ok] at h ⊢
      intro vs0 F0 H0 A0 B0 pl0 ns0
      cases e3 : q0.2[i]? with
      | none => rw [e3] at h; exact h.elim
      | some s2 =>
        rw [e3] at h
        cases s2 with
        | ow f d =>
          cases f with
          | false => exact h.elim
          | true =>
            cases d with
            | lst xs =>
              simp only at h
              obtain ⟨v, A1, Ar, hv, ow, pm, srU, ap, _⟩ := pl0.sr.out e3
              have ow0 := ow
              unfold Own at ow
              obtain ⟨a, us, C, rfl, ha, rfl, kd⟩ := ow
              have arA : ∀ b ∈ Ar, b ∈ A0 := fun b hb => pm.mem_iff.mpr (List.mem_append_right _ hb)
              have inA : ∀ b ∈ a :: C, b ∈ A0 := fun b hb => pm.mem_iff.mpr (List.mem_append_left _ hb)
              have st0 : Step F H A F0 H0 Ar := pl0.st.trans (Step.less arA)
              have ap0 : Ap F0 Ar B0 := ⟨pl0.ap.nd, fun b hb z => pl0.ap.a b hb (arA b z), pl0.ap.off⟩
              refine ⟨a, hv, q0.2.set i .un, F0, Ar, L, srU, ?_⟩
              cases e4 : ev Γ k (q0.2.set i .un) with
              | stuck => rw [e4] at h; exact h
              | exc c fs => rw [e4] at h; exact fun F' H' A' s => h F' H' A' (st0.trans s)
              | ok rk =>
                rw [e4] at h
                simp only [R.bind_ok] at h ⊢
                intro y F1 H1 A1 B1 p1
                cases e5 : rk.1 with
                | fz dj =>
                  cases dj with
                  | int j0 =>
                    rw [e5] at h
                    simp only at h
                    cases e6 : ixN xs.length j0 with
                    | none => rw [e6] at h; exact h.elim
                    | some j =>
                      rw [e6] at h
                      simp only at h
                      cases e7 : xs[j]? with
                      | none => rw [e7] at h; exact h.elim
                      | some dy =>
                        rw [e7] at h
                        cases dy with
                        | lst ys =>
                          simp only at h
                          have py := p1.vr
                          rw [e5] at py
                          have ey : y = .int j0 := py.2.int'
                          obtain ⟨ow1, ap1⟩ := VR.step (r := .own true (.lst xs)) (show VR K σ F0 H0 (.own true (.lst xs)) (.ref a) (a :: C) from ow0) ap p1.st
                          obtain ⟨vr1, apB1⟩ := pl0.vr.step p1.st ap0
                          have ha1 : H1 a = some (.lst us) := p1.st.frame a _ ha (ap.a a List.mem_cons_self)
                          have own1 : Own K F1 H1 true (.lst xs) (.ref a) (a :: C) := ow1
                          unfold Own at own1
                          obtain ⟨a', us', C', ea, ha', eC, kd1⟩ := own1
                          cases ea
                          cases eC
                          rw [ha1] at ha'
                          cases ha'
                          have nd1 := List.nodup_cons.mp ap1.nd
                          obtain ⟨b, ws, C1, Cj, C2, g1, g2, g3, g4, _⟩ := kd1.inner e7 nd1.2
                          have hat : atI us j0 = some (.ref b) := by
                            unfold atI
                            rw [← kd1.len, e6]
                            exact g1
                          refine ⟨us, b, ws, j0, ey, ha1, hat, g2, g4.len ▸ hLn _ _ _ _ _ _ _ e e2 e3 e4 e5 e6 e7, da_kept p1.sr ?_⟩
                          have st1 : Step F H A F1 H1 A1 := st0.trans p1.st
                          cases e8 : evs Γ args rk.2 with
                          | stuck => rw [e8] at h; exact h
                          | exc c fs => rw [e8] at h; exact fun F' H' A' s => h F' H' A' (st1.trans s)
                          | ok r =>
                            rw [e8] at h
                            simp only [R.bind_ok] at h ⊢
                            cases e9 : stos r.2 r.1 with
                            | none => rw [e9] at h; exact h.elim
                            | some q =>
                              rw [e9] at h
                              simp only [R.of_some, R.bind_ok] at h ⊢
                              intro vs F2 H2 A2 B2 pl ns
                              cases e10 : q.2[i]? with
                              | none => rw [e10] at h; exact h.elim
                              | some sl =>
                                rw [e10] at h
                                cases sl with
                                | un =>
                                  simp only at h
                                  cases e11 : mutL m true ys (q0.1 ++ q.1) with
                                  | none => rw [e11] at h; exact h.elim
                                  | some z =>
                                    rw [e11] at h
                                    simp only [R.of_some, R.bind_ok] at h
                                    obtain ⟨ow2, ap2⟩ := VR.step (r := .own true (.lst xs)) (show VR K σ F1 H1 (.own true (.lst xs)) (.ref a) (a :: C) from ow1) ap1 pl.st
                                    obtain ⟨vr2, apB2⟩ := vr1.step pl.st apB1
                                    have ha2 : H2 a = some (.lst us) := pl.st.frame a _ ha1 (ap1.a a List.mem_cons_self)
                                    have own2 : Own K F2 H2 true (.lst xs) (.ref a) (a :: C) := ow2
                                    unfold Own at own2
                                    obtain ⟨a', us', C', ea, ha', eC, kd2⟩ := own2
                                    cases ea
                                    cases eC
                                    rw [ha2] at ha'
                                    cases ha'
                                    obtain ⟨b', ws2, D1, Dj, D2, f1, f2, f3, f4, f5⟩ := kd2.inner e7 nd1.2
                                    have : b' = b := V.ref.inj (Option.some.inj (f1.symm.trans g1))
                                    subst this
                                    have bC : b' ∈ a :: C := by
                                      rw [f3]
                                      simp
                                    have st2 : Step F H A F2 H2 A2 := st1.trans pl.st
                                    have domC : ∀ c ∈ a :: C, ∃ o, H1 c = some o ∧ Nt o := fun c hc => Own.dom ow1 c hc
                                    -- what is on its way is apart
                                    have dB2 : ∀ c ∈ a :: C, c ∉ B2 := fun c hc z => by
                                      rcases pl.bn c z with q | q
                                      · exact ap1.a c hc q
                                      · obtain ⟨o, ho, _⟩ := domC c hc
                                        rw [ho] at q
                                        cases q
                                    have dB0 : ∀ c ∈ a :: C, c ∉ B0 := fun c hc z => pl0.ap.a c z (inA c hc)
                                    have d02 : ∀ c ∈ B0, c ∉ B2 := fun c hc z => by
                                      rcases pl.bn c z with q | q
                                      · exact apB1.a c hc q
                                      · obtain ⟨o, ho, _⟩ := vr1.dom c hc
                                        rw [ho] at q
                                        cases q
                                    have vrA : VRL K σ F2 H2 (q0.1 ++ q.1) (vs0 ++ vs) (B0 ++ B2) := vr2.app pl.vr
                                    have ndB : (B0 ++ B2).Nodup := List.nodup_append.mpr ⟨apB2.nd, pl.ap.nd, fun c hc e he y => d02 c hc (y ▸ he)⟩
                                    have inC : ∀ c ∈ Dj, c ∈ a :: C := fun c hc => by
                                      rw [f3]
                                      simp [hc]
                                    have cg : Chg K σ L F H A (fun f' ys' => q.2.set i (.ow f' (.lst (xs.set j (.lst ys'))))) F2 H2 true ys (B0 ++ B2) b' ws2 Dj := by
                                      have ndD : (D1 ++ ((b' :: Dj) ++ D2)).Nodup := f3 ▸ nd1.2
                                      have ndj : (b' :: Dj).Nodup := (List.nodup_append.mp (List.nodup_append.mp ndD).2.1).1
                                      refine ⟨pl.sr.le, f2, f4, List.nodup_append.mpr ⟨(List.nodup_cons.mp ndj).2, ndB, fun c hc e he y => ?_⟩, fun f' ys' ws' Dj' kn nn sn => ?_⟩
                                      · subst y
                                        rcases List.mem_append.mp he with he | he
                                        · exact dB0 c (inC c hc) he
                                        · exact dB2 c (inC c hc) he
                                      · have nb : ∀ c ∈ Dj', c ≠ b' := fun c hc y => by
                                          subst y
                                          rcases List.mem_append.mp (sn c hc) with z | z
                                          · exact (List.nodup_cons.mp ndj).1 z
                                          · rcases List.mem_append.mp z with z | z
                                            · exact dB0 c bC z
                                            · exact dB2 c bC z
                                        have kn2 := f5 f' ys' ws' Dj' (kn.upd f2 trivial nb)
                                        have nab : a ≠ b' := fun y => nd1.1 (by rw [y, f3]; simp)
                                        have own' : Own K F2 (L2.upd H2 b' (.lst ws')) f' (.lst (xs.set j (.lst ys'))) (.ref a) (a :: (D1 ++ ((b' :: Dj') ++ D2))) := by
                                          unfold Own
                                          exact ⟨a, us, _, rfl, by rw [upd_ne nab]; exact ha2, rfl, kn2⟩
                                        have where_ : ∀ c ∈ a :: (D1 ++ ((b' :: Dj') ++ D2)), c ∈ a :: C ∨ c ∈ B0 ++ B2 := fun c hc => by
                                          rw [f3]
                                          simp only [List.mem_cons, List.mem_append] at hc ⊢
                                          rcases hc with rfl | hc | (rfl | hc) | hc
                                          · exact .inl (.inl rfl)
                                          · exact .inl (.inr (.inl hc))
                                          · exact .inl (.inr (.inr (.inl (.inl rfl))))
                                          · have := sn c hc
                                            simp only [List.mem_append] at this
                                            rcases this with z | z
                                            · exact .inl (.inr (.inr (.inl (.inr z))))
                                            · exact .inr z
                                          · exact .inl (.inr (.inr (.inr hc)))
                                        have ndN : (a :: (D1 ++ ((b' :: Dj') ++ D2))).Nodup := by
                                          have ndA : (a :: (D1 ++ ((b' :: Dj) ++ D2))).Nodup := by
                                            rw [← f3]
                                            exact ap1.nd
                                          have djN : ∀ c ∈ Dj', c ≠ a ∧ c ∉ D1 ∧ c ∉ D2 ∧ c ≠ b' := fun c hc => by
                                            refine ⟨fun y => ?_, fun y => ?_, fun y => ?_, nb c hc⟩
                                            · subst y
                                              rcases List.mem_append.mp (sn c hc) with z | z
                                              · exact nd1.1 (by rw [f3]; simp [z])
                                              · rcases List.mem_append.mp z with z | z
                                                · exact dB0 c List.mem_cons_self z
                                                · exact dB2 c List.mem_cons_self z
                                            · rcases List.mem_append.mp (sn c hc) with z | z
                                              · exact (List.nodup_append.mp ndD).2.2 c y c (by simp [z]) rfl
                                              · rcases List.mem_append.mp z with z | z
                                                · exact dB0 c (by rw [f3]; simp [y]) z
                                                · exact dB2 c (by rw [f3]; simp [y]) z
                                            · rcases List.mem_append.mp (sn c hc) with z | z
                                              · exact (List.nodup_append.mp (List.nodup_append.mp ndD).2.1).2.2 c (List.mem_cons_of_mem _ z) c y rfl
                                              · rcases List.mem_append.mp z with z | z
                                                · exact dB0 c (by rw [f3]; simp [y]) z
                                                · exact dB2 c (by rw [f3]; simp [y]) z
                                          have base : (a :: (D1 ++ (b' :: D2))).Nodup := by
                                            refine List.Nodup.sublist ?_ ndA
                                            refine List.Sublist.cons_cons a (List.Sublist.append (List.Sublist.refl _) ?_)
                                            exact List.Sublist.cons_cons b' (List.sublist_append_right Dj D2)
                                          have pmN : (a :: (D1 ++ ((b' :: Dj') ++ D2))).Perm (Dj' ++ (a :: (D1 ++ (b' :: D2)))) := by
                                            refine List.perm_iff_count.mpr fun c => ?_
                                            simp only [List.count_append, List.count_cons]
                                            omega
                                          refine pmN.nodup_iff.mpr (List.nodup_append.mpr ⟨nn, base, fun c hc e he y => ?_⟩)
                                          subst y
                                          obtain ⟨z1, z2, z3, z4⟩ := djN c hc
                                          simp only [List.mem_cons, List.mem_append] at he
                                          rcases he with he | he | he | he
                                          · exact z1 he
                                          · exact z2 he
                                          · exact z4 he
                                          · exact z3 he
                                        have srb : SR K q.2 σ F2 (L2.upd H2 b' (.lst ws')) A2 L := pl.sr.keep (Le.refl F2) (fun c o e => by
                                          rw [upd_ne (fun y => by rw [y, ap2.off b' bC] at e; cases e)]
                                          exact pl.sr.le c o e) (own_tk f2 trivial) (fun c hc => upd_ne fun y => ap2.a b' bC (y ▸ hc)) pl.sr.off
                                        have apN : Ap F2 A2 (a :: (D1 ++ ((b' :: Dj') ++ D2))) := ⟨ndN, fun c hc => by
                                            rcases where_ c hc with z | z
                                            · exact ap2.a c z
                                            · rcases List.mem_append.mp z with z | z
                                              · exact apB2.a c z
                                              · exact pl.ap.a c z, fun c hc => by
                                            rcases where_ c hc with z | z
                                            · exact ap2.off c z
                                            · rcases List.mem_append.mp z with z | z
                                              · exact apB2.off c z
                                              · exact pl.ap.off c z⟩
                                        have gv := srb.give (M := L) e10 (fun _ _ y => by cases y) (fun _ _ => rfl) own' apN
                                        rw [set_back hv] at gv
                                        have inH : ∀ c ∈ a :: C, c ∈ A ∨ H c = none := fun c hc => pl0.st.own c (inA c hc)
                                        refine ⟨_, ⟨st2.mono, st2.fresh, fun c o hc n => ?_, fun c hc => ?_, fun c hc => st2.dom c (upd_dom hc), st2.tk.trans (own_tk f2 trivial)⟩, gv⟩
                                        · have : c ≠ b' := fun y => by
                                            subst y
                                            rcases inH c bC with z | z
                                            · exact n z
                                            · rw [hc] at z
                                              cases z
                                          rw [upd_ne this]
                                          exact st2.frame c o hc n
                                        · rcases List.mem_append.mp hc with hc | hc
                                          · rcases where_ c hc with z | z
                                            · exact inH c z
                                            · rcases List.mem_append.mp z with z | z
                                              · exact pl0.bn c z
                                              · rcases pl.bn c z with z | z
                                                · exact st1.own c z
                                                · exact .inr (st1.dom c z)
                                          · exact st2.own c hc
                                    exact hg b' ws2 Dj (B0 ++ B2) true ys (q0.1 ++ q.1) (vs0 ++ vs) z _ F F2 H H2 A L cg vrA (by rw [List.all_append, ns0, ns]; rfl) e11 h
                                | _ => exact h.elim
                        | _ => exact h.elim
                  | _ => rw [e5] at h; exact h.elim
                | _ => rw [e5] at h; exact h.elim
            | _ => exact h.elim
        | _ => exact h.elim
theorem Kids.erase {f : Bool} {xs : List D} {us : List V} {C : List Addr} {j : Nat} {y : D} (k : Kids K F H f xs us C) (h : xs[j]? = some y) (hy : imm y = true) : ∃ C' w, Kids K F H f (xs.eraseIdx j) (us.eraseIdx j) C' ∧ C'.Sublist C ∧ us[j]? = some w ∧ Rep K F H y w := by
  obtain ⟨hj, e0⟩ := List.getElem?_eq_some_iff.mp h
  have e1 : xs = xs.take j ++ (xs[j] :: xs.drop (j + 1)) := by
    rw [← List.drop_eq_getElem_cons hj, List.take_append_drop]
  have k' := k
  rw [e1] at k'
  obtain ⟨v1, v2, A1, A2, rfl, rfl, k1, k2⟩ := Kids.split k'
  obtain ⟨w, r, B1, B2, rfl, rfl, k3, k4⟩ := k2.uncons
  have l1 : v1.length = j := by
    rw [← k1.len, List.length_take]
    omega
  rw [e0] at k3
  have e3 : xs.eraseIdx j = xs.take j ++ xs.drop (j + 1) := List.eraseIdx_eq_take_drop_succ xs j
  have e4 : (v1 ++ w :: r).eraseIdx j = v1 ++ r := by
    rw [List.eraseIdx_append_of_length_le (by omega), l1, Nat.sub_self]
    rfl
  refine ⟨A1 ++ B2, w, ?_, List.Sublist.append (List.Sublist.refl _) (List.sublist_append_right _ _), ?_, ?_⟩
  · rw [e3, e4]
    exact k1.app k4
  · rw [List.getElem?_append_right (by omega), l1, Nat.sub_self]
    rfl
  · rcases k3 with z | z
    · exact z.2.1
    · exact (Own.ofImm hy z).2
theorem mut_popAt : MutOk K σ .popAt (fun a vs H1 => rPopAt (.ref a) vs H1 Q) Q := by
  intro a us C B f xs qs vs z bk F0 F1 H0 H1 A0 L0 cg vr ns e q
  replace e : mPopAt f xs qs = some z := e
  unfold mPopAt at e
  split at e
  · rename_i i
    cases e1 : seqIndex? i xs.length with
    | none => rw [e1] at e; cases e
    | some j =>
      rw [e1] at e
      simp only at e
      cases e2 : xs[j]? with
      | none => rw [e2] at e; cases e
      | some y =>
        rw [e2] at e
        simp only at e
        split at e
        · rename_i hz
          cases e
          obtain ⟨hi, b1, b2⟩ := hz
          obtain ⟨v, rfl, h4⟩ := vr.one
          obtain ⟨rfl, h5⟩ := h4
          obtain ⟨C', w, k1, k2, k3, k4⟩ := cg.kids.erase e2 hi
          have nd := cg.nd
          rw [List.append_nil] at nd
          obtain ⟨A2, p⟩ := cg.post k1 (k2.nodup nd) (fun b hb => List.mem_append_left _ (k2.subset hb)) hi k4
          exact ⟨a, us, i, j, w, rfl, by rw [h5.int'], cg.at_, b1, b2, by rw [← cg.kids.len]; exact e1, k3, q _ _ _ _ _ p⟩
        · cases e
  · cases e
theorem ints_kids : ∀ {xs : List D} {ns : List Int} {us : List V} {C : List Addr} {f : Bool}, intsOf xs = some ns → Kids K F H f xs us C → us = ns.map V.int
  | [], ns, us, C, f, e, k => by
    unfold Kids at k
    cases e
    exact k.1
  | x :: xs, ns, us, C, f, e, k => by
    obtain ⟨w, r, B1, B2, rfl, rfl, k3, k4⟩ := k.uncons
    cases x with
    | int i =>
      simp only [intsOf] at e
      cases q : intsOf xs with
      | none => rw [q] at e; cases e
      | some ms =>
        rw [q] at e
        cases e
        rw [ints_kids q k4]
        rcases k3 with z | z
        · rw [z.2.1.int']
          rfl
        · unfold Own at z
          exact z.elim
    | _ => simp only [intsOf] at e; cases e
theorem intsOf_map : ∀ {xs : List D} {ns : List Int}, intsOf xs = some ns → xs = ns.map D.int
  | [], ns, e => by cases e; rfl
  | x :: xs, ns, e => by
    cases x with
    | int i =>
      simp only [intsOf] at e
      cases q : intsOf xs with
      | none => rw [q] at e; cases e
      | some ms =>
        rw [q] at e
        cases e
        rw [intsOf_map q]
        rfl
    | _ => simp only [intsOf] at e; cases e
theorem mut_remove : MutOk K σ .remove (fun a vs H1 => rRemI (.ref a) vs H1 Q) Q := by
  intro a us C B f xs qs vs z bk F0 F1 H0 H1 A0 L0 cg vr ns e q
  replace e : mRemove f xs qs = some z := e
  unfold mRemove at e
  split at e
  · rename_i k
    cases e1 : intsOf xs with
    | none => rw [e1] at e; cases e
    | some ms =>
      rw [e1] at e
      simp only at e
      cases e2 : ms.findIdx? (fun n => decide (n = k)) with
      | none => rw [e2] at e; cases e
      | some j =>
        rw [e2] at e
        cases e
        obtain ⟨hj, hz, hno⟩ := List.findIdx?_eq_some_iff_getElem.mp e2
        have hk : ms[j]? = some k := by
          rw [List.getElem?_eq_getElem hj]
          exact congrArg some (of_decide_eq_true hz)
        obtain ⟨v, rfl, h4⟩ := vr.one
        obtain ⟨rfl, h5⟩ := h4
        have e3 : xs[j]? = some (.int k) := by
          rw [intsOf_map e1, List.getElem?_map, hk]
          rfl
        obtain ⟨C', w, k1, k2, k3, k4⟩ := cg.kids.erase e3 rfl
        have eu := ints_kids e1 cg.kids
        have nd := cg.nd
        rw [List.append_nil] at nd
        obtain ⟨A2, p⟩ := cg.post k1 (k2.nodup nd) (fun b hb => List.mem_append_left _ (k2.subset hb)) (y := .non) rfl Rep.ofNon
        refine ⟨a, ms, k, j, rfl, by rw [h5.int'], by rw [← eu]; exact cg.at_, hk, fun m hm y => ?_, ?_⟩
        · have hml : m < ms.length := Nat.lt_trans hm hj
          rw [List.getElem?_eq_getElem hml] at y
          have := hno m hm
          simp only [Option.some.injEq] at y
          simp [y] at this
        · rw [← L2.erase_mapI, ← eu]
          exact q _ _ _ _ _ p
  · cases e
theorem mut_insert : MutOk K σ .insert (fun a vs H1 => ∃ (l : Addr) (xs : List V) (i : Int) (y : V), (.ref a : V) = .ref l ∧ vs = [.int i, y] ∧ H1 l = some (.lst xs) ∧ xs.length < sizeLine ∧ 0 ≤ i ∧ i < 2 ^ 63 ∧ Q .non (L2.upd H1 l (.lst (xs.take i.toNat ++ [y] ++ xs.drop i.toNat)))) Q := by
  intro a us C B f xs qs vs z bk F0 F1 H0 H1 A0 L0 cg vr ns e q
  replace e : mInsert f xs qs = some z := e
  unfold mInsert at e
  split at e
  · rename_i i v0
    split at e
    · rename_i hz
      cases e
      obtain ⟨w, v, B1, B2, rfl, rfl, h5, h4⟩ := vr.two
      simp only [List.all_cons, List.all_nil, Bool.and_true, Bool.and_eq_true] at ns
      obtain ⟨rfl, h6⟩ := h5
      have k0 := cg.kids.to (g := f && vFull v0) fun z => (Bool.and_eq_true_iff.mp z).1
      rw [← List.take_append_drop i.toNat xs] at k0
      obtain ⟨v1, v2, C1, C2, e1, e2, k1, k2⟩ := Kids.split k0
      have kd := (k1.app (h4.kid (f := f && vFull v0) ns.2 fun z => (Bool.and_eq_true_iff.mp z).2)).app k2
      have l1 : v1.length = (us.take i.toNat).length := by
        rw [← k1.len, List.length_take, List.length_take, ← cg.kids.len]
      have ev1 : v1 = us.take i.toNat := by
        have e3 : us.take i.toNat ++ us.drop i.toNat = v1 ++ v2 := by rw [List.take_append_drop, e1]
        exact ((List.append_inj e3 l1.symm).1).symm
      have ev2 : v2 = us.drop i.toNat := by
        have e3 : us.take i.toNat ++ us.drop i.toNat = v1 ++ v2 := by rw [List.take_append_drop, e1]
        exact ((List.append_inj e3 l1.symm).2).symm
      have nd := cg.nd
      rw [List.nil_append] at nd
      have pm : (C1 ++ B2 ++ C2).Perm (C ++ B2) := by
        rw [e2]
        refine List.perm_iff_count.mpr fun c => ?_
        simp only [List.count_append]
        omega
      obtain ⟨A2, p⟩ := cg.post kd (pm.nodup_iff.mpr nd) (fun b hb => by rw [List.nil_append]; exact pm.mem_iff.mp hb) (y := .non) rfl Rep.ofNon
      refine ⟨a, us, i, v, rfl, by rw [h6.int'], cg.at_, by rw [← cg.kids.len]; exact hz.1, hz.2.1, hz.2.2, ?_⟩
      rw [← ev1, ← ev2]
      exact q _ _ _ _ _ p
    · cases e
  · cases e
theorem Kids.fz {f : Bool} {ys : List D} {zs : List V} (h : RepL K F H ys zs) (hf : f = true → immL ys = true) : Kids K F H f ys zs [] := Kids.ofRep h hf
theorem mut_extend : MutOk K σ .extend (fun a vs H1 => rExtend (.ref a) vs H1 Q) Q := by
  intro a us C B f xs qs vs z bk F0 F1 H0 H1 A0 L0 cg vr ns e q
  replace e : mExtend f xs qs = some z := e
  unfold mExtend at e
  split at e
  · rename_i ys
    split at e
    · rename_i hz
      cases e
      obtain ⟨v, rfl, h4⟩ := vr.one
      obtain ⟨rfl, h5⟩ := h4
      obtain ⟨b, ws, rfl, hb, hw⟩ := h5.lst'
      have kd := (cg.kids.to (g := f && immL ys) fun z => (Bool.and_eq_true_iff.mp z).1).app (Kids.fz (f := f && immL ys) hw fun z => (Bool.and_eq_true_iff.mp z).2)
      obtain ⟨A2, p⟩ := cg.post kd cg.nd (fun _ hb => hb) (y := .non) rfl Rep.ofNon
      have le : Le F1 H1 := cg.le
      exact ⟨a, b, us, ws, rfl, rfl, cg.at_, le _ _ hb, by rw [← cg.kids.len, ← hw.len]; exact hz, q _ _ _ _ _ p⟩
    · cases e
  · rename_i g ys
    split at e
    · rename_i hz
      cases e
      obtain ⟨v, rfl, h4⟩ := vr.one
      have h4 : Own K F1 H1 g (.lst ys) v B := h4
      unfold Own at h4
      obtain ⟨b, ws, D, rfl, hb, rfl, hw⟩ := h4
      have kd := (cg.kids.to (g := f && g) fun z => (Bool.and_eq_true_iff.mp z).1).app (hw.to (g := f && g) fun z => (Bool.and_eq_true_iff.mp z).2)
      have nd : (C ++ D).Nodup := List.Nodup.sublist (List.Sublist.append (List.Sublist.refl _) (List.sublist_cons_self b D)) cg.nd
      obtain ⟨A2, p⟩ := cg.post kd nd (fun c hc => by
        rcases List.mem_append.mp hc with hc | hc
        · exact List.mem_append_left _ hc
        · exact List.mem_append_right _ (List.mem_cons_of_mem _ hc)) (y := .non) rfl Rep.ofNon
      exact ⟨a, b, us, ws, rfl, rfl, cg.at_, hb, by rw [← cg.kids.len, ← hw.len]; exact hz, q _ _ _ _ _ p⟩
    · cases e
  · cases e
theorem intV_ok {r : Val} {i : Int} {v : V} {B : List Addr} (e : intV r = some i) (h : VR K σ F H r v B) : v = .int i := by
  unfold intV at e
  split at e
  · cases e
    exact h.2.int'
  · cases e
theorem de_slcL {a lo : E} (h : DE K mg W Γ (.slcL a lo) σ H Q) : tSl (rSlAll K) (DE K mg W Γ a) (tPart (DE K mg W Γ lo)) tNoPart σ H Q := by
  obtain ⟨τ, F, A, L, sr, h⟩ := h
  refine ⟨τ, F, A, L, sr, ?_⟩
  simp only [ev] at h
  cases e : ev Γ a τ with
  | stuck => rw [e] at h; exact h
  | exc c fs => rw [e] at h; exact h
  | ok x =>
    rw [e] at h
    simp only [R.bind_ok] at h ⊢
    intro v F1 H1 A1 B1 p1
    refine ⟨x.2, F1, A1, L, p1.sr, ?_⟩
    cases e1 : ev Γ lo x.2 with
    | stuck => rw [e1] at h; exact h
    | exc c fs => rw [e1] at h; exact fun F' H' A' s => h F' H' A' (p1.st.trans s)
    | ok l =>
      rw [e1] at h
      simp only [R.bind_ok] at h ⊢
      intro w F2 H2 A2 B2 p2
      cases e2 : intV l.1 with
      | none => rw [e2] at h; exact h.elim
      | some i =>
        rw [e2] at h
        simp only [R.of_some, R.bind_ok] at h
        have ew := intV_ok e2 p2.vr
        subst ew
        exact ⟨i, rfl, prim_core (mg := mg) (W := W) (ok_slc true false) (PostL.cons p1 (PostL.cons p2 (PostL.nil p2.sr))) h⟩
theorem de_slcU {a lo : E} (h : DE K mg W Γ (.slcU a lo) σ H Q) : tSl (rSlAll K) (DE K mg W Γ a) tNoPart (tPart (DE K mg W Γ lo)) σ H Q := by
  obtain ⟨τ, F, A, L, sr, h⟩ := h
  refine ⟨τ, F, A, L, sr, ?_⟩
  simp only [ev] at h
  cases e : ev Γ a τ with
  | stuck => rw [e] at h; exact h
  | exc c fs => rw [e] at h; exact h
  | ok x =>
    rw [e] at h
    simp only [R.bind_ok] at h ⊢
    intro v F1 H1 A1 B1 p1
    refine ⟨x.2, F1, A1, L, p1.sr, ?_⟩
    cases e1 : ev Γ lo x.2 with
    | stuck => rw [e1] at h; exact h
    | exc c fs => rw [e1] at h; exact fun F' H' A' s => h F' H' A' (p1.st.trans s)
    | ok l =>
      rw [e1] at h
      simp only [R.bind_ok] at h ⊢
      intro w F2 H2 A2 B2 p2
      cases e2 : intV l.1 with
      | none => rw [e2] at h; exact h.elim
      | some i =>
        rw [e2] at h
        simp only [R.of_some, R.bind_ok] at h
        have ew := intV_ok e2 p2.vr
        subst ew
        exact ⟨i, rfl, prim_core (mg := mg) (W := W) (ok_slc false true) (PostL.cons p1 (PostL.cons p2 (PostL.nil p2.sr))) h⟩
theorem de_slcB {a lo hi : E} (h : DE K mg W Γ (.slcB a lo hi) σ H Q) : tSl (rSlAll K) (DE K mg W Γ a) (tPart (DE K mg W Γ lo)) (tPart (DE K mg W Γ hi)) σ H Q := by
  obtain ⟨τ, F, A, L, sr, h⟩ := h
  refine ⟨τ, F, A, L, sr, ?_⟩
  simp only [ev] at h
  cases e : ev Γ a τ with
  | stuck => rw [e] at h; exact h
  | exc c fs => rw [e] at h; exact h
  | ok x =>
    rw [e] at h
    simp only [R.bind_ok] at h ⊢
    intro v F1 H1 A1 B1 p1
    refine ⟨x.2, F1, A1, L, p1.sr, ?_⟩
    cases e1 : ev Γ lo x.2 with
    | stuck => rw [e1] at h; exact h
    | exc c fs => rw [e1] at h; exact fun F' H' A' s => h F' H' A' (p1.st.trans s)
    | ok l =>
      rw [e1] at h
      simp only [R.bind_ok] at h ⊢
      intro w F2 H2 A2 B2 p2
      cases e2 : intV l.1 with
      | none => rw [e2] at h; exact h.elim
      | some i =>
        rw [e2] at h
        simp only [R.of_some, R.bind_ok] at h
        have ew := intV_ok e2 p2.vr
        subst ew
        refine ⟨i, rfl, l.2, F2, A2, L, p2.sr, ?_⟩
        cases e3 : ev Γ hi l.2 with
        | stuck => rw [e3] at h; exact h
        | exc c fs => rw [e3] at h; exact fun F' H' A' s => h F' H' A' ((p1.st.trans p2.st).trans s)
        | ok u =>
          rw [e3] at h
          simp only [R.bind_ok] at h ⊢
          intro z F3 H3 A3 B3 p3
          cases e4 : intV u.1 with
          | none => rw [e4] at h; exact h.elim
          | some j =>
            rw [e4] at h
            simp only [R.of_some, R.bind_ok] at h
            have ez := intV_ok e4 p3.vr
            subst ez
            exact ⟨j, rfl, prim_core (mg := mg) (W := W) (ok_slc true true) (PostL.cons p1 (PostL.cons p2 (PostL.cons p3 (PostL.nil p3.sr)))) h⟩
theorem de_dlit {k v : E} (h : DE K mg W Γ (.dlit k v) σ H Q) : tDispT (DE K mg W Γ k) (DE K mg W Γ v) σ H Q := by
  obtain ⟨τ, F, A, L, sr, h⟩ := h
  intro p hp
  refine ⟨τ, F, A, L, sr.step hp, ?_⟩
  simp only [ev] at h
  have off := sr.off_none hp
  have st0 : Step F H A F (L2.upd H p (.dT [])) A := Step.laid hp
  have own0 : VR K σ F (L2.upd H p (.dT [])) (.own true (.dT [] [])) (.ref p) [p] := by
    show Own K F (L2.upd H p (.dT [])) true (.dT [] []) (.ref p) [p]
    unfold Own
    exact ⟨p, [], [], rfl, upd_same, rfl, rfl, Kids.nil⟩
  cases e : ev Γ k τ with
  | stuck => rw [e] at h; exact h
  | exc c fs => rw [e] at h; exact fun F' H' A' s => h F' H' A' (st0.trans s)
  | ok rk =>
    rw [e] at h
    simp only [R.bind_ok] at h ⊢
    intro x F1 H1 A1 B1 p1
    refine ⟨rk.2, F1, A1, L, p1.sr, ?_⟩
    obtain ⟨own1, ap1⟩ := own0.step (Ap.one off) p1.st
    cases e1 : ev Γ v rk.2 with
    | stuck => rw [e1] at h; exact h
    | exc c fs => rw [e1] at h; exact fun F' H' A' s => h F' H' A' ((st0.trans p1.st).trans s)
    | ok rv =>
      rw [e1] at h
      simp only [R.bind_ok] at h ⊢
      intro y F2 H2 A2 B2 p2
      obtain ⟨own2, ap2⟩ := own1.step ap1 p2.st
      have own2' : Own K F2 H2 true (.dT [] []) (.ref p) [p] := own2
      unfold Own at own2'
      obtain ⟨p', us, C, ep, hp2, hl, eC, kd⟩ := own2'
      cases ep
      cases us with
      | cons _ _ => cases hl
      | nil =>
        refine ⟨hp2, ?_⟩
        have v1 := (p1.vr.step p1.ap p2.st).1
        cases q1 : rk.1 with
        | fz dk =>
          cases dk with
          | tup kd0 =>
            cases q2 : rv.1 with
            | fz dv =>
              rw [q1, q2] at h
              simp only at h
              rw [q1] at v1
              have v2 := p2.vr
              rw [q2] at v2
              cases q3 : keysOf kd0 with
              | none => rw [q3] at h; exact h.elim
              | some kk =>
                rw [q3] at h
                simp only [R.of_some, R.bind_ok] at h
                by_cases hi : imm dv = true
                · rw [if_pos hi] at h
                  obtain ⟨b, ws, rfl, hb, hw⟩ := v1.2.tup'
                  rw [keysOf_rep q3 hw] at hb
                  refine ⟨b, kk, rfl, hb, ?_⟩
                  have np : p ∉ A2 := ap2.a p List.mem_cons_self
                  have fp : F2 p = none := ap2.off p List.mem_cons_self
                  have tk : Tk H2 (L2.upd H2 p (.dT [(kk, y)])) := own_tk hp2 trivial
                  have st : Step F H A F2 H2 A2 := (st0.trans p1.st).trans p2.st
                  have own3 : Own K F2 (L2.upd H2 p (.dT [(kk, y)])) true (.dT [kk] [dv]) (.ref p) [p] := by
                    unfold Own
                    exact ⟨p, [y], [], rfl, upd_same, rfl, rfl, Kids.cons (A := []) (.inl ⟨rfl, v2.2.mono (Le.refl _) tk, fun _ => hi⟩) Kids.nil⟩
                  refine h _ F2 _ A2 [p] ⟨⟨st.mono, st.fresh, fun c o hc n => ?_, st.own, fun c hc => st.dom c (upd_dom hc), st.tk.trans tk⟩, ?_, own3, ⟨List.nodup_cons.mpr ⟨List.not_mem_nil, List.nodup_nil⟩, fun c hc => by rw [List.mem_singleton.mp hc]; exact np, fun c hc => by rw [List.mem_singleton.mp hc]; exact fp⟩, fun c hc => by rw [List.mem_singleton.mp hc]; exact .inr hp⟩
                  · rw [upd_ne (fun z => by rw [z, hp] at hc; cases hc)]
                    exact st.frame c o hc n
                  · exact p2.sr.keep (Le.refl F2) (fun c o e => by
                      rw [upd_ne (fun z => by rw [z, fp] at e; cases e)]
                      exact p2.sr.le c o e) tk (fun c hc => upd_ne fun z => np (z ▸ hc)) p2.sr.off
                · rw [if_neg hi] at h
                  exact h.elim
            | _ => rw [q1, q2] at h; exact h.elim
          | _ => rw [q1] at h; exact h.elim
        | _ => rw [q1] at h; exact h.elim
theorem da_mono {a : E} {Q Q' : List V → Hp → Prop} (h : DA K mg W Γ a σ H Q) (k : ∀ v H', Q v H' → Q' v H') : DA K mg W Γ a σ H Q' := by
  obtain ⟨τ, F, A, L, sr, h⟩ := h
  refine ⟨τ, F, A, L, sr, ?_⟩
  cases e : evs Γ a τ with
  | stuck => rw [e] at h; exact h
  | exc c fs => rw [e] at h; exact h
  | ok x =>
    rw [e] at h
    exact fun v F' H' A' B p => k _ _ (h v F' H' A' B p)
theorem de_mut2 {m : Mut1} {i : Nat} {pre k args : E} {Q : VK} {G : Addr → List V → Hp → Prop} (hg : MutOk K σ m G Q)
    (h : DE K mg W Γ (.mut2 m i pre k args) σ H Q) : DA K mg W Γ pre σ H fun vs0 H0 => ∃ a, σ[i]? = some (some (.ref a)) ∧ DE K mg W Γ k σ H0 fun y H1 => ∃ us b xs j0, y = .int j0 ∧ H1 a = some (.lst us) ∧ atI us j0 = some (.ref b) ∧ H1 b = some (.lst xs) ∧ DA K mg W Γ args σ H1 fun vs H2 => G b (vs0 ++ vs) H2 := by
  obtain ⟨τ, F, A, L, sr, h⟩ := h
  refine da_mono (de_mut2n (Ln := fun _ => True) hg ⟨τ, F, A, L, sr, fun _ _ _ _ _ _ _ _ _ _ _ _ _ _ => trivial, h⟩) fun vs0 H0 z => ?_
  obtain ⟨a, g1, g2⟩ := z
  refine ⟨a, g1, de_mono g2 fun y H1 z => ?_⟩
  obtain ⟨us, b, xs, j0, z1, z2, z3, z4, _, z5⟩ := z
  exact ⟨us, b, xs, j0, z1, z2, z3, z4, z5⟩
end
end Rg
namespace Rg
open PySem L2
def OwnsL (K : KP) (F H : Hp) : List D → List V → List Addr → Prop
  | [], vs, A => vs = [] ∧ A = []
  | d :: ds, vs, A => ∃ v r A1 A2, vs = v :: r ∧ A = A1 ++ A2 ∧ Own K F H true d v A1 ∧ OwnsL K F H ds r A2
structure Args (K : KP) (G H : Hp) (n : Nat) (ds : List D) (vs : List V) (A : List Addr) : Prop where
  le : Le G H
  nd : A.Nodup
  off : ∀ a ∈ A, G a = none
  io : OwnsL K G H (ds.take n) (vs.take n) A
  ro : RepL K G H (ds.drop n) (vs.drop n)
  len : ds.length = vs.length
def ResR (K : KP) (F H : Hp) (d : D) (v : V) (B : List Addr) : Prop := (imm d = true ∧ B = [] ∧ Rep K F H d v) ∨ Own K F H true d v B
structure Left (K : KP) (G H : Hp) (A : List Addr) (n : Nat) (vs : List V) (d : D) (es : List D) (v : V) (F' H' : Hp) (A' B : List Addr) : Prop where
  st : Step G H A F' H' A'
  le : Le F' H'
  io : OwnsL K F' H' es (vs.take n) A'
  res : ResR K F' H' d v B
  nd : (A' ++ B).Nodup
  bn : ∀ b ∈ B, b ∈ A ∨ H b = none
  off : ∀ a ∈ A' ++ B, F' a = none
def XE1 (K : KP) (mg : Str → Option Value) (E : XK) (c : String) (fs : List (Str × D)) (H : Hp) : Prop := ∃ C, mg (Str.ofString c) = some (.ref C) ∧ match fs with
  | [] => E (.ref C) none H
  | [(f, d)] => ∀ a v, H a = some (.xd [(f, v)]) → Rep K H H d v → E (.ref C) (some a) H
  | _ => False
def spOf (K : KP) (mg : Str → Option Value) (f : Fn) : Sp := fun vs H Q E => ∃ ds G A, Args K G H f.ow ds vs A ∧ ds.length = f.ar ∧ match f.run ds with
  | .ok r => ∀ v F' H' A' B, Left K G H A f.io vs r.1 r.2 v F' H' A' B → Q v H'
  | .exc c fs => ∀ F' H' A', Step G H A F' H' A' → XE1 K mg E c fs H'
  | .stuck => False
section
variable {K : KP} {mg : Str → Option Value} {W : WX} {Γ : Env1} {σ : L2.St} {F H : Hp} {A : List Addr} {L : Nat → V} {τ : Sts} {Q : VK}
mutual
/-- one's own all through: nothing of it is frozen -/
theorem Own.refull {F' H' : Hp} (k : Tk H H') : ∀ {d : D} {v : V} {A : List Addr}, (∀ a ∈ A, H' a = H a) → Own K F H true d v A → Own K F' H' true d v A
  | .lst ds, _, _, s, e => by
    unfold Own at e ⊢
    obtain ⟨a, vs, B, e1, e2, rfl, e4⟩ := e
    exact ⟨a, vs, B, e1, (s a List.mem_cons_self).trans e2, rfl, Kids.refull k (fun b hb => s b (List.mem_cons_of_mem _ hb)) e4⟩
  | .dT ks ds, _, _, s, e => by
    unfold Own at e ⊢
    obtain ⟨a, vs, B, e1, e2, e5, rfl, e4⟩ := e
    exact ⟨a, vs, B, e1, (s a List.mem_cons_self).trans e2, e5, rfl, Kids.refull k (fun b hb => s b (List.mem_cons_of_mem _ hb)) e4⟩
  | .dK ks ds, _, _, s, e => by
    unfold Own at e ⊢
    obtain ⟨a, vs, B, e1, e2, e5, rfl, e4⟩ := e
    exact ⟨a, vs, B, e1, (s a List.mem_cons_self).trans e2, e5, rfl, Kids.refull k (fun b hb => s b (List.mem_cons_of_mem _ hb)) e4⟩
  | .non, _, _, _, e => by unfold Own at e; exact e.elim
  | .bl _, _, _, _, e => by unfold Own at e; exact e.elim
  | .int _, _, _, _, e => by unfold Own at e; exact e.elim
  | .str _, _, _, _, e => by unfold Own at e; exact e.elim
  | .tup ds, _, _, s, e => by
    unfold Own at e ⊢
    obtain ⟨a, vs, e1, e2, e4⟩ := e
    exact ⟨a, vs, e1, k.1 _ _ e2, Kids.refull k s e4⟩
  | .scr _, _, _, _, e => by unfold Own at e; exact e.elim
  | .exn _ _ _, _, _, _, e => by unfold Own at e; exact e.elim
theorem Kids.refull {F' H' : Hp} (k : Tk H H') : ∀ {ds : List D} {vs : List V} {A : List Addr}, (∀ a ∈ A, H' a = H a) → Kids K F H true ds vs A → Kids K F' H' true ds vs A
  | [], _, _, _, e => e
  | d :: ds, _, _, s, e => by
    obtain ⟨v, r, A1, A2, rfl, rfl, e3, e4⟩ := e.uncons
    refine Kids.cons ?_ (Kids.refull k (fun b hb => s b (List.mem_append_right _ hb)) e4)
    rcases e3 with ⟨e5, e6, e7⟩ | e5
    · exact .inl ⟨e5, e6.imm k (e7 rfl), e7⟩
    · exact .inr (Own.refull k (fun b hb => s b (List.mem_append_left _ hb)) e5)
end
theorem OwnsL.refull {F' H' : Hp} (k : Tk H H') : ∀ {ds : List D} {vs : List V} {A : List Addr}, (∀ a ∈ A, H' a = H a) → OwnsL K F H ds vs A → OwnsL K F' H' ds vs A
  | [], _, _, _, e => e
  | d :: ds, _, _, s, e => by
    obtain ⟨v, r, A1, A2, rfl, rfl, e3, e4⟩ := e
    exact ⟨v, r, A1, A2, rfl, rfl, e3.refull k fun b hb => s b (List.mem_append_left _ hb), OwnsL.refull k (fun b hb => s b (List.mem_append_right _ hb)) e4⟩
theorem OwnsL.len : ∀ {ds : List D} {vs : List V} {A : List Addr}, OwnsL K F H ds vs A → ds.length = vs.length
  | [], _, _, h => by
    obtain ⟨rfl, _⟩ := h
    rfl
  | d :: ds, _, _, h => by
    obtain ⟨v, r, A1, A2, rfl, _, _, h4⟩ := h
    simp [OwnsL.len h4]
theorem ResR.re {F' H' : Hp} {d : D} {v : V} {B : List Addr} (k : Tk H H') (s : ∀ b ∈ B, H' b = H b) (h : ResR K F H d v B) : ResR K F' H' d v B := by
  rcases h with ⟨h1, h2, h3⟩ | h
  · exact .inl ⟨h1, h2, h3.imm k h1⟩
  · exact .inr (h.refull k s)
def unIo (τ : Sts) : List Nat → Sts
  | [] => τ
  | i :: r => unIo (τ.set i .un) r
theorem unIo_get {j : Nat} : ∀ {ios : List Nat} {τ : Sts}, j ∉ ios → (unIo τ ios)[j]? = τ[j]?
  | [], _, _ => rfl
  | i :: r, τ, h => by
    rw [unIo, unIo_get fun z => h (List.mem_cons_of_mem _ z), List.getElem?_set_ne (fun (z : i = j) => h (by rw [z]; exact List.mem_cons_self))]
theorem unIo_in {j : Nat} : ∀ {ios : List Nat} {τ : Sts}, j ∈ ios → j < τ.length → (unIo τ ios)[j]? = some .un
  | i :: r, τ, h, hl => by
    rw [unIo]
    by_cases z : j ∈ r
    · exact unIo_in z (by rw [List.length_set]; exact hl)
    · rw [unIo_get z]
      rcases List.mem_cons.mp h with rfl | h
      · rw [List.getElem?_set_self hl]
      · exact (z h).elim
def AtS (σ : L2.St) : List Nat → List V → Prop
  | [], vs => vs = []
  | i :: r, vs => ∃ v w, vs = v :: w ∧ σ[i]? = some (some v) ∧ AtS σ r w
theorem take_io : ∀ {ios : List Nat} {τ : Sts} {A : List Addr} {es : List D} {vs : List V}, SR K τ σ F H A L → ios.Nodup → ioData τ ios = some es → AtS σ ios vs →
    ∃ Aio Ar, A.Perm (Aio ++ Ar) ∧ SR K (unIo τ ios) σ F H Ar L ∧ OwnsL K F H es vs Aio ∧ Ap F Ar Aio
  | [], τ, A, es, vs, sr, _, e, h => by
    cases e
    cases (show vs = [] from h)
    exact ⟨[], A, List.Perm.refl _, sr, ⟨rfl, rfl⟩, Ap.nil⟩
  | i :: r, τ, A, es, vs, sr, nd, e, h => by
    obtain ⟨v, w, rfl, hv, hw⟩ := h
    simp only [ioData] at e
    cases h1 : τ[i]? with
    | none => rw [h1] at e; cases e
    | some s =>
      rw [h1] at e
      cases s with
      | ow f d =>
        cases f with
        | false => cases e
        | true =>
          simp only at e
          cases h2 : ioData τ r with
          | none => rw [h2] at e; cases e
          | some es2 =>
            rw [h2] at e
            cases e
            have nd2 := List.nodup_cons.mp nd
            obtain ⟨v2, A1, Ar, g1, g2, g3, g4, g5, _⟩ := sr.out h1
            have : v2 = v := Option.some.inj (Option.some.inj (g1.symm.trans hv))
            subst this
            have e2 : ioData (τ.set i .un) r = some es2 := by
              rw [← h2]
              have : ∀ (l : List Nat), i ∉ l → ioData (τ.set i .un) l = ioData τ l := by
                intro l
                induction l with
                | nil => intro _; rfl
                | cons k l ih =>
                  intro hk
                  simp only [ioData]
                  rw [List.getElem?_set_ne (fun (z : i = k) => hk (by rw [z]; exact List.mem_cons_self)), ih fun z => hk (List.mem_cons_of_mem _ z)]
              exact this r nd2.1
            obtain ⟨Aio, Ar2, q1, q2, q3, q4⟩ := take_io g4 nd2.2 e2 hw
            have dj : ∀ b ∈ A1, b ∉ Aio := fun b hb z => g5.a b hb (q1.mem_iff.mpr (List.mem_append_left _ z))
            have a1 : Ap F Ar2 A1 := ⟨g5.nd, fun b hb z => g5.a b hb (q1.mem_iff.mpr (List.mem_append_right _ z)), g5.off⟩
            refine ⟨A1 ++ Aio, Ar2, ?_, q2, ⟨v2, w, A1, Aio, rfl, rfl, g2, q3⟩, a1.app q4 dj⟩
            rw [List.append_assoc]
            exact g3.trans (List.Perm.append_left A1 q1)
      | un => cases e
      | fz d => cases e
      | lk f d => cases e
theorem put_io : ∀ {ios : List Nat} {τ τ' : Sts} {A Aio : List Addr} {es : List D} {vs : List V}, SR K τ σ F H A L → ios.Nodup → (∀ i ∈ ios, τ[i]? = some .un) → OwnsL K F H es vs Aio → Ap F A Aio → AtS σ ios vs → setIo τ ios es = some τ' →
    ∃ A', SR K τ' σ F H A' L ∧ A'.Perm (Aio ++ A)
  | [], τ, τ', A, Aio, es, vs, sr, _, _, o, ap, h, e => by
    cases es with
    | nil =>
      cases e
      obtain ⟨_, rfl⟩ := o
      exact ⟨A, sr, List.Perm.refl _⟩
    | cons d ds => cases e
  | i :: r, τ, τ', A, Aio, es, vs, sr, nd, un, o, ap, h, e => by
    cases es with
    | nil => cases e
    | cons d ds =>
      obtain ⟨v, w, rfl, hv, hw⟩ := h
      obtain ⟨v2, w2, A1, A2, e1, rfl, o1, o2⟩ := o
      cases e1
      have nd2 := List.nodup_cons.mp nd
      have s1 := sr.give (M := L) (un i List.mem_cons_self) (fun _ _ z => by cases z) (fun _ _ => rfl) o1 ap.left
      rw [set_back hv] at s1
      have ap2 : Ap F (A1 ++ A) A2 := ⟨ap.right.nd, fun b hb z => by
        rcases List.mem_append.mp z with z | z
        · exact (List.nodup_append.mp ap.nd).2.2 b z b hb rfl
        · exact ap.right.a b hb z, ap.right.off⟩
      obtain ⟨A', q1, q2⟩ := put_io s1 nd2.2 (fun j hj => by
        rw [List.getElem?_set_ne (fun (z : i = j) => nd2.1 (by rw [z]; exact hj))]
        exact un j (List.mem_cons_of_mem _ hj)) o2 ap2 hw e
      refine ⟨A', q1, q2.trans ?_⟩
      rw [← List.append_assoc]
      exact (List.perm_append_comm (l₁ := A2) (l₂ := A1)).append_right A
theorem setIo_un : ∀ {ios : List Nat} {τ τ' : Sts} {es : List D}, setIo τ ios es = some τ' → ios.Nodup → setIo (unIo τ ios) ios es = some τ'
  | [], τ, τ', es, e, _ => e
  | i :: r, τ, τ', es, e, nd => by
    cases es with
    | nil => cases e
    | cons d ds =>
      have nd2 := List.nodup_cons.mp nd
      have e1 : setIo (τ.set i (.ow true d)) r ds = some τ' := e
      have ih := setIo_un e1 nd2.2
      show setIo ((unIo (τ.set i .un) r).set i (.ow true d)) r ds = some τ'
      have : ∀ (l : List Nat) (t : Sts) (x : Slot), i ∉ l → unIo (t.set i x) l = (unIo t l).set i x := by
        intro l
        induction l with
        | nil => intro _ _ _; rfl
        | cons k l ih2 =>
          intro t x hk
          rw [unIo, unIo, List.set_comm _ _ (fun (z : i = k) => hk (by rw [z]; exact List.mem_cons_self)), ih2 _ _ fun z => hk (List.mem_cons_of_mem _ z)]
      rw [← this r _ _ nd2.1, List.set_set]
      exact ih
theorem slots_at : ∀ {rs : List Val} {ios : List Nat} {vs : List V} {B : List Addr}, slotsOf rs = some ios → VRL K σ F H rs vs B → AtS σ ios vs ∧ B = []
  | [], ios, vs, B, e, h => by
    cases e
    exact h
  | r :: rs, ios, vs, B, e, h => by
    obtain ⟨v, w, B1, B2, rfl, rfl, h1, h2⟩ := h
    cases r with
    | slot i =>
      simp only [slotsOf] at e
      cases q : slotsOf rs with
      | none => rw [q] at e; cases e
      | some is =>
        rw [q] at e
        cases e
        obtain ⟨g1, g2⟩ := slots_at q h2
        exact ⟨⟨v, w, rfl, h1.2, g1⟩, by rw [h1.1, g2]; rfl⟩
    | fz d => cases e
    | own f d => cases e
theorem VRL.take : ∀ (n : Nat) {rs : List Val} {vs : List V} {B : List Addr}, VRL K σ F H rs vs B → ∃ B1 B2, B = B1 ++ B2 ∧ VRL K σ F H (rs.take n) (vs.take n) B1 ∧ VRL K σ F H (rs.drop n) (vs.drop n) B2
  | 0, rs, vs, B, h => ⟨[], B, rfl, ⟨rfl, rfl⟩, h⟩
  | n + 1, [], vs, B, h => by
    obtain ⟨rfl, rfl⟩ := h
    exact ⟨[], [], rfl, ⟨rfl, rfl⟩, ⟨rfl, rfl⟩⟩
  | n + 1, r :: rs, vs, B, h => by
    obtain ⟨v, w, B1, B2, rfl, rfl, h1, h2⟩ := h
    obtain ⟨C1, C2, rfl, g1, g2⟩ := VRL.take n h2
    exact ⟨B1 ++ C1, C2, by simp, ⟨v, w.take n, B1, C1, rfl, rfl, h1, g1⟩, g2⟩
theorem VRL.readG {G : Hp} {ios : List Nat} (sr : SR K (unIo τ ios) σ F H A L) (le : Le F G) (gA : ∀ a ∈ A, G a = H a) : ∀ {rs : List Val} {vs : List V} {B : List Addr} {ds : List D}, (∀ b ∈ B, G b = H b) → VRL K σ F H rs vs B → dats τ rs = some ds → rs.any (slotIn ios) = false → RepL K G H ds vs
  | [], _, _, _, _, h, e, _ => by
    obtain ⟨rfl, _⟩ := h
    cases e
    exact RepL.nil
  | r :: rs, _, _, ds, hb, h, e, ns => by
    obtain ⟨v, w, B1, B2, rfl, rfl, h1, h2⟩ := h
    have e0 : ((dat τ r).bind fun d => (dats τ rs).map fun ds => d :: ds) = some ds := e
    cases q : dat τ r with
    | none => rw [q] at e0; cases e0
    | some d =>
      rw [q] at e0
      cases q2 : dats τ rs with
      | none => rw [q2] at e0; cases e0
      | some ds2 =>
        rw [q2] at e0
        cases e0
        simp only [List.any_cons, Bool.or_eq_false_iff] at ns
        refine RepL.cons ?_ (VRL.readG sr le gA (fun b hb2 => hb b (List.mem_append_right _ hb2)) h2 q2 ns.2)
        cases r with
        | fz d0 =>
          cases q
          exact h1.2.mono le (Tk.refl H)
        | own f d0 =>
          cases q
          exact Own.freeze le (fun b hb2 => hb b (List.mem_append_left _ hb2)) h1
        | slot i =>
          have ni : i ∉ ios := fun z => by
            have := ns.1
            simp [slotIn, z] at this
          have q' : (τ[i]?).bind slotD = some d := q
          cases q3 : τ[i]? with
          | none => rw [q3] at q'; cases q'
          | some s =>
            rw [q3] at q'
            obtain ⟨o, A1, g1, g2, g3⟩ := sr.slots.at ((unIo_get ni).trans q3)
            have : o = some v := Option.some.inj (g1.symm.trans h1.2)
            subst this
            cases s with
            | un => cases q'
            | fz d => cases q'
            | ow f d0 =>
              cases q'
              obtain ⟨u, z, g5⟩ := g2
              cases z
              exact Own.freeze le (fun a ha => gA a (g3 a ha)) g5
            | lk f d0 => cases q'
theorem XE1.of {c : String} {fs : List (Str × D)} (h : XW K mg W c fs σ H) : XE1 K mg (fun cls d H' => W cls d σ H') c fs H := h
theorem dats_len : ∀ {rs : List Val} {ds : List D}, dats τ rs = some ds → ds.length = rs.length
  | [], _, e => by cases e; rfl
  | r :: rs, ds, e => by
    have e0 : ((dat τ r).bind fun d => (dats τ rs).map fun ds => d :: ds) = some ds := e
    cases q : dat τ r with
    | none => rw [q] at e0; cases e0
    | some d =>
      rw [q] at e0
      cases q2 : dats τ rs with
      | none => rw [q2] at e0; cases e0
      | some ds2 =>
        rw [q2] at e0
        cases e0
        simp [dats_len q2]
theorem ioData_len : ∀ {ios : List Nat} {es : List D}, ioData τ ios = some es → es.length = ios.length
  | [], _, e => by cases e; rfl
  | i :: r, es, e => by
    simp only [ioData] at e
    split at e
    · cases q : ioData τ r with
      | none => rw [q] at e; cases e
      | some es2 =>
        rw [q] at e
        cases e
        simp [ioData_len q]
    · cases e
theorem slotsOf_len : ∀ {rs : List Val} {ios : List Nat}, slotsOf rs = some ios → ios.length = rs.length
  | [], _, e => by cases e; rfl
  | r :: rs, ios, e => by
    cases r with
    | slot i =>
      simp only [slotsOf] at e
      cases q : slotsOf rs with
      | none => rw [q] at e; cases e
      | some is =>
        rw [q] at e
        cases e
        simp [slotsOf_len q]
    | fz d => cases e
    | own f d => cases e
end
end Rg
namespace Rg
open PySem L2
section
variable {K : KP} {mg : Str → Option Value} {W : WX} {Γ : Env1} {σ : L2.St} {F H : Hp} {A : List Addr} {L : Nat → V} {τ : Sts} {Q : VK}
def hideIo (H : Hp) (Aio : List Addr) : Hp := fun a => if a ∈ Aio then none else H a
def joinF (F H F' : Hp) : Hp := fun a => match H a with
  | none => F' a
  | some _ => F a
theorem joinF_new {F' : Hp} {a : Addr} (h : H a = none) : joinF F H F' a = F' a := by
  unfold joinF
  rw [h]
theorem joinF_old {F' : Hp} {a : Addr} {o : HO} (h : H a = some o) : joinF F H F' a = F a := by
  unfold joinF
  rw [h]
theorem callS_ok {f : Fn} {z : List Val × Sts} {vs : List V} {F1 H1 : Hp} {A1 B : List Addr} (pl : PostL K σ L F H A z.2 F1 H1 A1 z.1 vs B)
    (h : match callS f z.1 z.2 with
      | .ok r => ∀ v F' H' A' B, Post K σ L F H A r.2 F' H' A' r.1 v B → Q v H'
      | .exc c fs => ∀ F' H' A', Step F H A F' H' A' → XW K mg W c fs σ H'
      | .stuck => False) : spOf K mg f vs H1 Q (fun cls d H' => W cls d σ H') := by
    unfold callS at h
    cases e1 : slotsOf (z.1.take f.io) with
    | none => rw [e1] at h; exact h.elim
    | some ios =>
      cases e2 : dats z.2 (z.1.drop f.io) with
      | none => rw [e1, e2] at h; exact h.elim
      | some ds =>
        rw [e1, e2] at h
        simp only at h
        by_cases hc : ios.Nodup ∧ (z.1.drop f.io).any (slotIn ios) = false ∧ z.1.length = f.ar ∧ f.io ≤ f.ar ∧ f.ow = f.io
        · rw [if_pos hc] at h
          obtain ⟨nd, nio, har, hle, how⟩ := hc
          cases e3 : ioData z.2 ios with
          | none => rw [e3] at h; exact h.elim
          | some es =>
            rw [e3] at h
            simp only at h
            have lv := pl.vr.len
            have lio : ios.length = f.io := by
              rw [slotsOf_len e1, List.length_take]
              omega
            have les : es.length = f.io := (ioData_len e3).trans lio
            have lds : ds.length = z.1.length - f.io := by rw [dats_len e2, List.length_drop]
            obtain ⟨B1, B2, eB, vt, vd⟩ := pl.vr.take f.io
            obtain ⟨ats, eB1⟩ := slots_at e1 vt
            subst eB1
            have eB2 : B = B2 := by rw [eB]; rfl
            subst eB2
            obtain ⟨Aio, Ar, pm, srU, own, apIo⟩ := take_io pl.sr nd e3 ats
            have inA : ∀ a ∈ Aio, a ∈ A1 := fun a ha => pm.mem_iff.mpr (List.mem_append_left _ ha)
            have arA : ∀ a ∈ Ar, a ∈ A1 := fun a ha => pm.mem_iff.mpr (List.mem_append_right _ ha)
            -- the callee's frozen part
            have gle : Le (hideIo H1 Aio) H1 := fun a o q => by
              unfold hideIo at q
              split at q
              · cases q
              · exact q
            have gout : ∀ a, a ∉ Aio → hideIo H1 Aio a = H1 a := fun a ha => by
              unfold hideIo
              rw [if_neg ha]
            have fle : Le F1 (hideIo H1 Aio) := fun a o q => by
              rw [gout a fun z => by
                rw [pl.sr.off a (inA a z)] at q
                cases q]
              exact pl.sr.le a o q
            have ro : RepL K (hideIo H1 Aio) H1 ds (vs.drop f.io) := VRL.readG srU fle (fun a ha => gout a fun z => apIo.a a z ha) (fun b hb => gout b fun z => pl.ap.a b hb (inA b z)) vd e2 nio
            have et : (es ++ ds).take f.io = es := by rw [← les, List.take_left]
            have ed : (es ++ ds).drop f.io = ds := by rw [← les, List.drop_left]
            have ag : Args K (hideIo H1 Aio) H1 f.io (es ++ ds) vs Aio := by
              refine ⟨gle, apIo.nd, fun a ha => ?_, ?_, ?_, ?_⟩
              · unfold hideIo
                rw [if_pos ha]
              · rw [et]
                exact own.refull (Tk.refl H1) fun _ _ => rfl
              · rw [ed]
                exact ro
              · rw [List.length_append]
                omega
            refine ⟨es ++ ds, hideIo H1 Aio, Aio, by rw [how]; exact ag, by rw [List.length_append]; omega, ?_⟩
            have frameOut : ∀ {F' H' : Hp} {A' : List Addr}, Step (hideIo H1 Aio) H1 Aio F' H' A' → ∀ a o, H1 a = some o → a ∉ A1 → H' a = some o := fun st a o q n => st.frame a o q fun z => n (inA a z)
            cases e4 : f.run (es ++ ds) with
            | stuck => rw [e4] at h; exact h.elim
            | exc c fs =>
              rw [e4] at h
              simp only [R.bind_exc] at h ⊢
              intro F' H' A' st
              -- a step of the caller's
              refine XE1.of (h F1 H' (A1.filter fun a => decide (a ∈ Ar)) ?_)
              refine ⟨pl.st.mono, pl.st.fresh, fun a o q n => ?_, fun a ha => pl.st.own a (List.mem_filter.mp ha).1, fun a q => pl.st.dom a (st.dom a q), pl.st.tk.trans st.tk⟩
              have q1 := pl.st.frame a o q n
              refine st.frame a o q1 fun z => ?_
              rcases pl.st.own a (inA a z) with y | y
              · exact n y
              · rw [q] at y
                cases y
            | ok r =>
              rw [e4] at h
              simp only [R.bind_ok] at h ⊢
              intro v F' H' A' B' lf
              cases e5 : setIo z.2 ios r.2 with
              | none => rw [e5] at h; exact h.elim
              | some τ' =>
                rw [e5] at h
                simp only [R.of_some, R.bind_ok] at h
                have tk := lf.st.tk
                have keepR : ∀ a ∈ Ar, H' a = H1 a := fun a ha => by
                  obtain ⟨o, q, _⟩ := srU.slots.dom a ha
                  rw [q]
                  exact lf.st.frame a o q fun z => apIo.a a z ha
                have le2 : Le F1 (joinF F1 H1 F') := fun a o q => by
                  rw [joinF_old (pl.sr.le a o q)]
                  exact q
                have leH : Le (joinF F1 H1 F') H' := fun a o q => by
                  cases y : H1 a with
                  | none =>
                    rw [joinF_new y] at q
                    exact lf.le a o q
                  | some u =>
                    rw [joinF_old y] at q
                    have := pl.sr.le a o q
                    exact lf.st.frame a o this fun z => by
                      rw [pl.sr.off a (inA a z)] at q
                      cases q
                have offR : ∀ a ∈ Ar, joinF F1 H1 F' a = none := fun a ha => by
                  obtain ⟨o, q, _⟩ := srU.slots.dom a ha
                  rw [joinF_old q]
                  exact srU.off a ha
                have srU2 : SR K (unIo z.2 ios) σ (joinF F1 H1 F') H' Ar L := srU.keep le2 leH tk keepR offR
                have own2 : OwnsL K (joinF F1 H1 F') H' r.2 (vs.take f.io) A' := lf.io.refull (Tk.refl H') fun _ _ => rfl
                have nd2 := List.nodup_append.mp lf.nd
                have fresh2 : ∀ b, (b ∈ Aio ∨ H1 b = none) → b ∉ Ar := fun b hb => by
                  rcases hb with hb | hb
                  · exact apIo.a b hb
                  · exact (srU.off_none hb).1
                have offA' : ∀ b, (b ∈ Aio ∨ H1 b = none) → F' b = none → joinF F1 H1 F' b = none := fun b hb q => by
                  cases y : H1 b with
                  | none => rw [joinF_new y]; exact q
                  | some u =>
                    rw [joinF_old y]
                    rcases hb with hb | hb
                    · exact apIo.off b hb
                    · rw [hb] at y
                      cases y
                have ap2 : Ap (joinF F1 H1 F') Ar A' := ⟨nd2.1, fun b hb => fresh2 b (lf.st.own b hb), fun b hb => offA' b (lf.st.own b hb) (lf.off b (List.mem_append_left _ hb))⟩
                have ili : ∀ i ∈ ios, (unIo z.2 ios)[i]? = some .un := fun i hi => by
                  refine unIo_in hi ?_
                  have : ∀ (l : List Nat) (es : List D), ioData z.2 l = some es → ∀ i ∈ l, i < z.2.length := by
                    intro l
                    induction l with
                    | nil => intro _ _ _ h; cases h
                    | cons j l ih =>
                      intro es q i hi
                      simp only [ioData] at q
                      cases y : z.2[j]? with
                      | none => rw [y] at q; cases q
                      | some s =>
                        rcases List.mem_cons.mp hi with rfl | hi
                        · exact (List.getElem?_eq_some_iff.mp y).1
                        · rw [y] at q
                          cases s with
                          | ow g d =>
                            cases g with
                            | false => cases q
                            | true =>
                              simp only at q
                              cases y2 : ioData z.2 l with
                              | none => rw [y2] at q; cases q
                              | some es2 => exact ih es2 y2 i hi
                          | un => cases q
                          | fz d => cases q
                          | lk g d => cases q
                  exact this ios es e3 i hi
                obtain ⟨A3, sr3, pm3⟩ := put_io srU2 nd ili own2 ap2 ats (setIo_un e5 nd)
                have st3 : Step F1 H1 A1 (joinF F1 H1 F') H' A3 := by
                  refine ⟨le2, fun a q => ?_, fun a o q n => lf.st.frame a o q fun z => n (inA a z), fun a ha => ?_, lf.st.dom, tk⟩
                  · cases y : H1 a with
                    | none => exact .inr (.inl rfl)
                    | some u =>
                      rw [joinF_old y] at q
                      exact .inl q
                  · rcases List.mem_append.mp (pm3.mem_iff.mp ha) with y | y
                    · rcases lf.st.own a y with y | y
                      · exact .inl (inA a y)
                      · exact .inr y
                    · exact .inl (arA a y)
                have res2 := lf.res.re (F' := joinF F1 H1 F') (Tk.refl H') fun _ _ => rfl
                have apB : Ap (joinF F1 H1 F') A3 B' := by
                  refine ⟨nd2.2.1, fun b hb z => ?_, fun b hb => offA' b (lf.bn b hb) (lf.off b (List.mem_append_right _ hb))⟩
                  rcases List.mem_append.mp (pm3.mem_iff.mp z) with y | y
                  · exact nd2.2.2 b y b hb rfl
                  · exact fresh2 b (lf.bn b hb) y
                have bnB : ∀ b ∈ B', b ∈ A ∨ H b = none := fun b hb => (lf.bn b hb).elim (fun q => pl.st.own b (inA b q)) fun q => .inr (pl.st.dom b q)
                rcases res2 with ⟨i1, i2, i3⟩ | i1
                · subst i2
                  simp only [i1, if_true] at h
                  exact h v _ H' A3 [] ⟨pl.st.trans st3, sr3, ⟨rfl, i3⟩, Ap.nil, fun _ z => (List.not_mem_nil z).elim⟩
                · by_cases i2 : imm r.1 = true
                  · obtain ⟨e0, i3⟩ := Own.ofImm i2 i1
                    subst e0
                    simp only [i2, if_true] at h
                    exact h v _ H' A3 [] ⟨pl.st.trans st3, sr3, ⟨rfl, i3⟩, Ap.nil, fun _ z => (List.not_mem_nil z).elim⟩
                  · simp only [i2] at h
                    exact h v _ H' A3 B' ⟨pl.st.trans st3, sr3, i1, apB, bnB⟩
        · rw [if_neg hc] at h
          exact h.elim
theorem callD_cases (f : Fn) (vs : List Val) (τ : Sts) : (∃ d r, vs = .own true d :: r ∧ f.io = 1 ∧ callD f vs τ = callO f d r τ) ∨ callD f vs τ = callS f vs τ := by
  unfold callD
  split
  · rename_i d r
    by_cases h : f.io = 1
    · exact .inl ⟨d, r, rfl, h, by rw [if_pos h]⟩
    · exact .inr (by rw [if_neg h])
  · exact .inr rfl
theorem callO_ok {f : Fn} {d : D} {r : List Val} {τ2 : Sts} {vs : List V} {F1 H1 : Hp} {A1 B : List Addr} (h1 : f.io = 1) (pl : PostL K σ L F H A τ2 F1 H1 A1 (.own true d :: r) vs B)
    (h : match callO f d r τ2 with
      | .ok r => ∀ v F' H' A' B, Post K σ L F H A r.2 F' H' A' r.1 v B → Q v H'
      | .exc c fs => ∀ F' H' A', Step F H A F' H' A' → XW K mg W c fs σ H'
      | .stuck => False) : spOf K mg f vs H1 Q (fun cls d H' => W cls d σ H') := by
  unfold callO at h
  obtain ⟨v0, w, B1, B2, rfl, rfl, v1, v2⟩ := pl.vr
  cases e2 : dats τ2 r with
  | none => rw [e2] at h; exact h.elim
  | some ds =>
    rw [e2] at h
    simp only at h
    by_cases har : r.length + 1 = f.ar ∧ f.ow = f.io
    · rw [if_pos har] at h
      obtain ⟨har, how⟩ := har
      have lds : ds.length = r.length := dats_len e2
      have lw : r.length = w.length := VRL.len v2
      have own : Own K F1 H1 true d v0 B1 := v1
      have apB := pl.ap
      have nB : ∀ b ∈ B1, b ∉ A1 := fun b hb => apB.left.a b hb
      have dj : ∀ b ∈ B1, b ∉ B2 := fun b hb z => (List.nodup_append.mp apB.nd).2.2 b hb b z rfl
      have domB : ∀ b ∈ B1, ∃ o, H1 b = some o ∧ Nt o := own.dom
      have gle : Le (hideIo H1 B1) H1 := fun a o q => by
        unfold hideIo at q
        split at q
        · cases q
        · exact q
      have gout : ∀ a, a ∉ B1 → hideIo H1 B1 a = H1 a := fun a ha => by
        unfold hideIo
        rw [if_neg ha]
      have fle : Le F1 (hideIo H1 B1) := fun a o q => by
        rw [gout a fun z => by
          rw [apB.left.off a z] at q
          cases q]
        exact pl.sr.le a o q
      have ro : RepL K (hideIo H1 B1) H1 ds w := VRL.readG (ios := []) pl.sr fle (fun a ha => gout a fun z => nB a z ha) (fun b hb => gout b fun z => dj b z hb) v2 e2 (by
        have : ∀ l : List Val, l.any (slotIn []) = false := by
          intro l
          induction l with
          | nil => rfl
          | cons x l ih =>
            rw [List.any_cons, ih]
            cases x <;> simp [slotIn]
        exact this r)
      have ag : Args K (hideIo H1 B1) H1 f.io (d :: ds) (v0 :: w) B1 := by
        rw [h1]
        refine ⟨gle, apB.left.nd, fun a ha => ?_, ?_, ?_, ?_⟩
        · unfold hideIo
          rw [if_pos ha]
        · exact ⟨v0, [], B1, [], rfl, (List.append_nil _).symm, own.refull (Tk.refl H1) fun _ _ => rfl, rfl, rfl⟩
        · exact ro
        · simp [lds, lw]
      refine ⟨d :: ds, hideIo H1 B1, B1, by rw [how]; exact ag, by rw [List.length_cons, lds]; exact har, ?_⟩
      cases e4 : f.run (d :: ds) with
      | stuck => rw [e4] at h; exact h.elim
      | exc c fs =>
        rw [e4] at h
        simp only [R.bind_exc] at h ⊢
        intro F' H' A' st
        refine XE1.of (h F1 H' A1 ⟨pl.st.mono, pl.st.fresh, fun a o q n => ?_, pl.st.own, fun a q => pl.st.dom a (st.dom a q), pl.st.tk.trans st.tk⟩)
        refine st.frame a o (pl.st.frame a o q n) fun z => ?_
        rcases pl.bn a (List.mem_append_left _ z) with y | y
        · exact n y
        · rw [q] at y
          cases y
      | ok rr =>
        rw [e4] at h
        simp only [R.bind_ok] at h ⊢
        intro v F' H' A' B' lf
        have tk := lf.st.tk
        have keepA : ∀ a ∈ A1, H' a = H1 a := fun a ha => by
          obtain ⟨o, q, _⟩ := pl.sr.slots.dom a ha
          rw [q]
          exact lf.st.frame a o q fun z => nB a z ha
        have le2 : Le F1 (joinF F1 H1 F') := fun a o q => by
          rw [joinF_old (pl.sr.le a o q)]
          exact q
        have leH : Le (joinF F1 H1 F') H' := fun a o q => by
          cases y : H1 a with
          | none =>
            rw [joinF_new y] at q
            exact lf.le a o q
          | some u =>
            rw [joinF_old y] at q
            exact lf.st.frame a o (pl.sr.le a o q) fun z => by
              rw [apB.left.off a z] at q
              cases q
        have offA : ∀ a ∈ A1, joinF F1 H1 F' a = none := fun a ha => by
          obtain ⟨o, q, _⟩ := pl.sr.slots.dom a ha
          rw [joinF_old q]
          exact pl.sr.off a ha
        have sr2 : SR K τ2 σ (joinF F1 H1 F') H' A1 L := pl.sr.keep le2 leH tk keepA offA
        have nd2 := List.nodup_append.mp lf.nd
        have offB : ∀ b ∈ B', joinF F1 H1 F' b = none := fun b hb => by
          have q := lf.off b (List.mem_append_right _ hb)
          cases y : H1 b with
          | none => rw [joinF_new y]; exact q
          | some u =>
            rw [joinF_old y]
            rcases lf.bn b hb with z | z
            · exact apB.left.off b z
            · rw [z] at y
              cases y
        have apR : Ap (joinF F1 H1 F') A1 B' := ⟨nd2.2.1, fun b hb z => by
          rcases lf.bn b hb with y | y
          · exact nB b y z
          · exact (pl.sr.off_none y).1 z, offB⟩
        have bnB : ∀ b ∈ B', b ∈ A ∨ H b = none := fun b hb => (lf.bn b hb).elim (fun q => pl.bn b (List.mem_append_left _ q)) fun q => .inr (pl.st.dom b q)
        have st2 : Step F H A (joinF F1 H1 F') H' A1 := by
          refine ⟨pl.st.mono.trans le2, fun a q => ?_, fun a o q n => ?_, pl.st.own, fun a q => pl.st.dom a (lf.st.dom a q), pl.st.tk.trans tk⟩
          · cases y : H1 a with
            | none => exact .inr (.inl (pl.st.dom a y))
            | some u =>
              rw [joinF_old y] at q
              exact pl.st.fresh a q
          · refine lf.st.frame a o (pl.st.frame a o q n) fun z => ?_
            rcases pl.bn a (List.mem_append_left _ z) with y | y
            · exact n y
            · rw [q] at y
              cases y
        have res2 := lf.res.re (F' := joinF F1 H1 F') (Tk.refl H') fun _ _ => rfl
        rcases res2 with ⟨i1, i2, i3⟩ | i1
        · subst i2
          simp only [i1, if_true] at h
          exact h v _ H' A1 [] ⟨st2, sr2, ⟨rfl, i3⟩, Ap.nil, fun _ z => (List.not_mem_nil z).elim⟩
        · by_cases i2 : imm rr.1 = true
          · obtain ⟨e0, i3⟩ := Own.ofImm i2 i1
            subst e0
            simp only [i2, if_true] at h
            exact h v _ H' A1 [] ⟨st2, sr2, ⟨rfl, i3⟩, Ap.nil, fun _ z => (List.not_mem_nil z).elim⟩
          · simp only [i2] at h
            exact h v _ H' A1 B' ⟨st2, sr2, i1, apR, bnB⟩
    · rw [if_neg har] at h
      exact h.elim
theorem de_call {k : Nat} {x : Str} {f : Fn} {args : E} (hk : Γ[k]? = some (x, f)) (h : DE K mg W Γ (.call k args) σ H Q) : DA K mg W Γ args σ H fun vs H1 => spOf K mg f vs H1 Q (fun cls d H' => W cls d σ H') := by
  obtain ⟨τ, F, A, L, sr, h⟩ := h
  refine ⟨τ, F, A, L, sr, ?_⟩
  simp only [ev] at h
  cases e : evs Γ args τ with
  | stuck => rw [e] at h; exact h
  | exc c fs => rw [e] at h; exact h
  | ok z =>
    rw [e] at h
    simp only [R.bind_ok, hk] at h ⊢
    intro vs F1 H1 A1 B pl
    rcases callD_cases f z.1 z.2 with ⟨d, r, e1, h1, e2⟩ | e2
    · rw [e2] at h
      rw [e1] at pl
      exact callO_ok (mg := mg) (W := W) h1 pl h
    · rw [e2] at h
      exact callS_ok (mg := mg) (W := W) pl h
end
end Rg
namespace Rg
open PySem L2
def ItemR (K : KP) (F H : Hp) (d : D) (H2 : Hp) (x : V) (H3 : Hp) : Prop :=
  (H3 = H2 ∧ Rep K F H d x) ∨ ∃ T u w du dw, x = .ref T ∧ H2 T = none ∧ H3 = upd H2 T (.tup [u, w]) ∧ d = .tup [du, dw] ∧ Rep K F H du u ∧ Rep K F H dw w
structure WalkD (K : KP) (F H : Hp) (J : It) (items : List D) (Z : List Addr) : Prop where
  go : ∀ i H2, i < items.length → (∀ a ∈ Z, H2 a = H a) → J.go i H2
  stop : ∀ H2, (∀ a ∈ Z, H2 a = H a) → J.stop items.length H2
  yld : ∀ i H2 x H3, i < items.length → (∀ a ∈ Z, H2 a = H a) → J.yld i H2 x H3 → ∃ d, items[i]? = some d ∧ ItemR K F H d H2 x H3
def ZOk (σ : L2.St) (τ : Sts) (A : List Addr) (H : Hp) (Z : List Addr) : Option Nat → Prop
  | none => ∀ a ∈ Z, a ∉ A ∧ ∃ o, H a = some o
  | some i => ∃ a f ds Y, Z = a :: Y ∧ (∀ b ∈ Y, (b ∉ A ∧ ∃ o, H b = some o) ∨ ∀ (K : KP) (F : Hp) (B : List Addr), Own K F H f (.lst ds) (.ref a) B → B.Nodup → b ∈ B) ∧ σ[i]? = some (some (.ref a)) ∧ τ[i]? = some (.ow f (.lst ds))
def DI (K : KP) (mg : Str → Option Value) (W : WX) (Γ : Env1) (m : E) : TI := fun σ H R => ∃ τ F A L, SR K τ σ F H A L ∧ match evI Γ m τ with
  | .ok s => ∀ J F' H' A' Z, Step F H A F' H' A' → SR K s.2.2 σ F' H' A' L → WalkD K F' H' J s.1 Z → ZOk σ s.2.2 A' H' Z s.2.1 → R J H'
  | .exc c fs => ∀ F' H' A', Step F H A F' H' A' → XW K mg W c fs σ H'
  | .stuck => False
section
variable {K : KP} {mg : Str → Option Value} {W : WX} {Γ : Env1} {σ : L2.St} {F H : Hp} {A : List Addr} {L : Nat → V} {τ : Sts} {Q : VK} {Rr : It → Hp → Prop}
theorem walkD_range {lo : Int} {n : Nat} : WalkD K F H (Itr lo n) ((List.range n).map fun (k : Nat) => .int (lo + (k : Int))) [] := by
  have hl : ((List.range n).map fun (k : Nat) => D.int (lo + (k : Int))).length = n := by simp
  refine ⟨fun i H2 hi _ => ?_, fun H2 _ => ?_, fun i H2 x H3 hi _ y => ?_⟩
  · rw [hl] at hi
    exact hi
  · rw [hl]
    exact Nat.le_refl _
  · rw [hl] at hi
    obtain ⟨y1, y2⟩ := y
    refine ⟨.int (lo + (i : Int)), ?_, .inl ⟨y1, ?_⟩⟩
    · rw [List.getElem?_map, List.getElem?_range hi]
      rfl
    · rw [y2]
      exact Rep.ofInt _
theorem di_range {a : E} (h : DI K mg W Γ (.iRange a) σ H Rr) : iRng1 (DA K mg W Γ (.cons a .nil)) σ H Rr := by
  obtain ⟨τ, F, A, L, sr, h⟩ := h
  refine ⟨τ, F, A, L, sr, ?_⟩
  simp only [evI] at h
  simp only [evs]
  cases e : ev Γ a τ with
  | stuck => rw [e] at h; exact h
  | exc c fs => rw [e] at h; exact h
  | ok x =>
    rw [e] at h
    simp only [R.bind_ok] at h ⊢
    intro vs F1 H1 A1 B pl
    obtain ⟨v, rfl, vr⟩ := pl.vr.one
    cases e2 : dat x.2 x.1 with
    | none => rw [e2] at h; exact h.elim
    | some d =>
      rw [e2] at h
      cases d with
      | int n =>
        simp only at h
        have hv := (vr.read pl.sr e2).int'
        subst hv
        by_cases hc : n < 2 ^ 62 ∧ -(2 ^ 62) ≤ n
        · rw [if_pos hc] at h
          refine ⟨n, rfl, hc.2, hc.1, h _ F1 H1 A1 [] pl.st pl.sr ?_ (fun _ z => (List.not_mem_nil z).elim)⟩
          have := walkD_range (K := K) (F := F1) (H := H1) (lo := 0) (n := n.toNat)
          simp only [Int.zero_add] at this
          exact this
        · rw [if_neg hc] at h
          exact h.elim
      | _ => exact h.elim
theorem int2_eq {ds : List D} {p : Int × Int} (h : int2 ds = some p) : ds = [.int p.1, .int p.2] := by
  unfold int2 at h
  split at h
  · cases h
    rfl
  · cases h
theorem di_range2 {a b : E} (h : DI K mg W Γ (.iRange2 a b) σ H Rr) : iRng2 (DA K mg W Γ (.cons a (.cons b .nil))) σ H Rr := by
  obtain ⟨τ, F, A, L, sr, h⟩ := h
  refine ⟨τ, F, A, L, sr, ?_⟩
  simp only [evI] at h
  simp only [evs]
  cases e : ev Γ a τ with
  | stuck => rw [e] at h; exact h
  | exc c fs => rw [e] at h; exact h
  | ok x =>
    rw [e] at h
    simp only [R.bind_ok] at h ⊢
    cases e1 : ev Γ b x.2 with
    | stuck => rw [e1] at h; exact h
    | exc c fs => rw [e1] at h; exact h
    | ok y =>
      rw [e1] at h
      simp only [R.bind_ok] at h ⊢
      intro vs F1 H1 A1 B pl
      cases e2 : dats y.2 [x.1, y.1] with
      | none => rw [e2] at h; exact h.elim
      | some ds =>
        rw [e2] at h
        have rd := pl.vr.reads pl.sr e2
        simp only [R.of_some, R.bind_ok] at h
        cases e3 : int2 ds with
        | none => rw [e3] at h; exact h.elim
        | some p =>
          rw [e3] at h
          simp only [R.of_some, R.bind_ok] at h
          rw [int2_eq e3] at rd
          obtain ⟨u, w, rfl, h1, h2⟩ := rd.two
          rw [h1.int', h2.int']
          by_cases hc : -(2 ^ 62) ≤ p.1 ∧ p.1 < 2 ^ 62 ∧ -(2 ^ 62) ≤ p.2 ∧ p.2 < 2 ^ 62
          · rw [if_pos hc] at h
            exact ⟨p.1, p.2, rfl, hc, h _ F1 H1 A1 [] pl.st pl.sr walkD_range (fun _ z => (List.not_mem_nil z).elim)⟩
          · rw [if_neg hc] at h
            exact h.elim
theorem walkD_str {x : Str} : WalkD K F H (Its x) (x.cps.toList.map fun c => .str ⟨#[c]⟩) [] := by
  have hl : (x.cps.toList.map fun c => D.str ⟨#[c]⟩).length = x.cps.size := by simp
  refine ⟨fun i H2 hi _ => ?_, fun H2 _ => ?_, fun i H2 v H3 hi _ y => ?_⟩
  · rw [hl] at hi
    exact hi
  · rw [hl]
    exact Nat.le_refl _
  · obtain ⟨y1, c, y2, y3⟩ := y
    refine ⟨.str ⟨#[c]⟩, ?_, .inl ⟨y1, ?_⟩⟩
    · rw [List.getElem?_map, Array.getElem?_toList, y2]
      rfl
    · rw [y3]
      exact Rep.ofStr _
theorem di_str {a : E} (h : DI K mg W Γ (.iStr a) σ H Rr) : L2.iStr (DE K mg W Γ a) σ H Rr := by
  obtain ⟨τ, F, A, L, sr, h⟩ := h
  refine ⟨τ, F, A, L, sr, ?_⟩
  simp only [evI] at h
  cases e : ev Γ a τ with
  | stuck => rw [e] at h; exact h
  | exc c fs => rw [e] at h; exact h
  | ok x =>
    rw [e] at h
    simp only [R.bind_ok] at h ⊢
    intro v F1 H1 A1 B pl
    cases e2 : dat x.2 x.1 with
    | none => rw [e2] at h; exact h.elim
    | some d =>
      rw [e2] at h
      cases d with
      | str s =>
        simp only at h
        have hv := (pl.vr.read pl.sr e2).str'
        subst hv
        by_cases hc : s.length ≤ sizeLine
        · rw [if_pos hc] at h
          exact ⟨s, rfl, h _ F1 H1 A1 [] pl.st pl.sr walkD_str (fun _ z => (List.not_mem_nil z).elim)⟩
        · rw [if_neg hc] at h
          exact h.elim
      | _ => exact h.elim
theorem walkD_list {a : Addr} {us : List V} {ds : List D} (ha : H a = some (.lst us)) (rp : RepL K F H ds us) : WalkD K F H (Itl K a) ds [a] := by
  have hl := rp.len
  have sq : ∀ H2 : Hp, (∀ b ∈ [a], H2 b = H b) → SqL K H2 a us := fun H2 q => SqL.of ((q a (List.mem_singleton.mpr rfl)).trans ha)
  refine ⟨fun i H2 hi q => ⟨us, us[i], sq H2 q, by simp [hl ▸ hi]⟩, fun H2 q => ⟨us, sq H2 q, by omega⟩, fun i H2 x H3 hi q y => ?_⟩
  obtain ⟨y1, y2⟩ := y
  have y3 := y2 us (sq H2 q)
  obtain ⟨w, g1, g2⟩ := rp.get (List.getElem?_eq_getElem hi)
  have : x = w := Option.some.inj (y3.symm.trans g1)
  subst this
  exact ⟨_, List.getElem?_eq_getElem hi, .inl ⟨y1, g2⟩⟩
theorem walkD_tup {a : Addr} {us : List V} {ds : List D} (ha : H a = some (.tup us)) (rp : RepL K F H ds us) : WalkD K F H (Itt K a) ds [a] := by
  have hl := rp.len
  have sq : ∀ H2 : Hp, (∀ b ∈ [a], H2 b = H b) → SqT K H2 a us := fun H2 q => SqT.of ((q a (List.mem_singleton.mpr rfl)).trans ha)
  refine ⟨fun i H2 hi q => ⟨us, us[i], sq H2 q, by simp [hl ▸ hi]⟩, fun H2 q => ⟨us, sq H2 q, by omega⟩, fun i H2 x H3 hi q y => ?_⟩
  obtain ⟨y1, y2⟩ := y
  have y3 := y2 us (sq H2 q)
  obtain ⟨w, g1, g2⟩ := rp.get (List.getElem?_eq_getElem hi)
  have : x = w := Option.some.inj (y3.symm.trans g1)
  subst this
  exact ⟨_, List.getElem?_eq_getElem hi, .inl ⟨y1, g2⟩⟩
theorem walkD_rev {a : Addr} {us : List V} {ds : List D} (ha : H a = some (.lst us)) (rp : RepL K F H ds us) : WalkD K F H (Itv K a us.length) ds.reverse [a] := by
  have hl := rp.len
  have sq : ∀ H2 : Hp, (∀ b ∈ [a], H2 b = H b) → SqL K H2 a us := fun H2 q => SqL.of ((q a (List.mem_singleton.mpr rfl)).trans ha)
  have w := walk_rev (K := K) (a := a) (xs := us)
  refine ⟨fun i H2 hi q => w.goes i H2 (by simpa [hl] using hi) (sq H2 q), fun H2 q => ?_, fun i H2 x H3 hi q y => ?_⟩
  · have := w.stops H2 (sq H2 q)
    simpa [hl] using this
  · have hi' : i < us.length := by simpa [hl] using hi
    obtain ⟨y1, y2⟩ := w.yields i H2 x H3 hi' (sq H2 q) y
    have hi2 : i < ds.length := by omega
    have : ds.reverse[i]? = ds[ds.length - 1 - i]? := by rw [List.getElem?_reverse hi2]
    obtain ⟨d, hd⟩ : ∃ d, ds[ds.length - 1 - i]? = some d := ⟨ds[ds.length - 1 - i]'(by omega), List.getElem?_eq_getElem _⟩
    obtain ⟨u, g1, g2⟩ := rp.get hd
    rw [hl, y2] at g1
    cases g1
    exact ⟨d, this.trans hd, .inl ⟨y1, g2⟩⟩
theorem walkD_revT {a : Addr} {us : List V} {ds : List D} (ha : H a = some (.tup us)) (rp : RepL K F H ds us) : WalkD K F H (RT.ItvT K a us.length) ds.reverse [a] := by
  have hl := rp.len
  have sq : ∀ H2 : Hp, (∀ b ∈ [a], H2 b = H b) → SqT K H2 a us := fun H2 q => SqT.of ((q a (List.mem_singleton.mpr rfl)).trans ha)
  have w : Walk (RT.ItvT K a us.length) us.length (fun H => SqT K H a us) (fun i H x H' => H' = H ∧ us[us.length - 1 - i]? = some x) := ⟨fun i _ hi q => ⟨hi, us, us[us.length - 1 - i]'(by omega), q, by simp [show us.length - 1 - i < us.length by omega]⟩, fun _ _ => Nat.le_refl _, fun _ _ _ _ _ q y => ⟨y.1, y.2 us q⟩⟩
  refine ⟨fun i H2 hi q => w.goes i H2 (by simpa [hl] using hi) (sq H2 q), fun H2 q => ?_, fun i H2 x H3 hi q y => ?_⟩
  · have := w.stops H2 (sq H2 q)
    simpa [hl] using this
  · have hi' : i < us.length := by simpa [hl] using hi
    obtain ⟨y1, y2⟩ := w.yields i H2 x H3 hi' (sq H2 q) y
    have hi2 : i < ds.length := by omega
    have : ds.reverse[i]? = ds[ds.length - 1 - i]? := by rw [List.getElem?_reverse hi2]
    obtain ⟨d, hd⟩ : ∃ d, ds[ds.length - 1 - i]? = some d := ⟨ds[ds.length - 1 - i]'(by omega), List.getElem?_eq_getElem _⟩
    obtain ⟨u, g1, g2⟩ := rp.get hd
    rw [hl, y2] at g1
    cases g1
    exact ⟨d, this.trans hd, .inl ⟨y1, g2⟩⟩
theorem walkD_enum {a : Addr} {us : List V} {ds : List D} (ha : H a = some (.lst us)) (rp : RepL K F H ds us) : WalkD K F H (Ite K a) (ds.zipIdx.map fun p => .tup [.int (p.2 : Nat), p.1]) [a] := by
  have hl := rp.len
  have sq : ∀ H2 : Hp, (∀ b ∈ [a], H2 b = H b) → SqL K H2 a us := fun H2 q => SqL.of ((q a (List.mem_singleton.mpr rfl)).trans ha)
  have w := walk_enum (K := K) (a := a) (xs := us)
  refine ⟨fun i H2 hi q => w.goes i H2 (by simpa [hl] using hi) (sq H2 q), fun H2 q => ?_, fun i H2 x H3 hi q y => ?_⟩
  · have := w.stops H2 (sq H2 q)
    simpa [hl] using this
  · have hi' : i < us.length := by simpa [hl] using hi
    obtain ⟨T, u, z, g1, g2, g3, g4, g5⟩ := w.yields i H2 x H3 hi' (sq H2 q) y
    have hi2 : i < ds.length := by omega
    have hd := List.getElem?_eq_getElem hi2
    obtain ⟨u2, k1, k2⟩ := rp.get hd
    replace g5 : us[i]? = some z := g5
    rw [g5] at k1
    cases k1
    cases g4
    refine ⟨.tup [.int (i : Nat), ds[i]], ?_, .inr ⟨T, _, _, _, _, g1, g2, g3, rfl, Rep.ofInt _, k2⟩⟩
    simp [List.getElem?_zipIdx, hi2]
theorem seq_walk {r : Val} {v : V} {B : List Addr} {b : Bool} {s : List D × Option Nat} {H0 F0 : Hp} {A0 : List Addr} (pst : Step F0 H0 A0 F H A) (sr : SR K τ σ F H A L) (vr : VR K σ F H r v B) (ap : Ap F A B) (bn : ∀ b ∈ B, b ∈ A0 ∨ H0 b = none) (e : seqOf τ b r = some s) :
    ∃ a us F1, Step F0 H0 A0 F1 H A ∧ SR K τ σ F1 H A L ∧ v = .ref a ∧ RepL K F1 H s.1 us ∧ ZOk σ τ A H [a] s.2 ∧ (H a = some (.lst us) ∨ (b = true ∧ H a = some (.tup us))) := by
  have gen : ∀ d, dat τ r = some d → noSlot r = true → (∃ ds, d = .lst ds ∨ (d = .tup ds)) → ∃ F1, Step F0 H0 A0 F1 H A ∧ SR K τ σ F1 H A L ∧ Rep K F1 H d v := fun d hd ns _ => by
    refine ⟨frzB F H B, pst.frozen ap.off bn, sr.frozen ap, ?_⟩
    have := VRL.frozen (τ := τ) (rs := [r]) (vs := [v]) (B := B ++ []) (ds := [d]) (frzB_le ap.off) (fun b hb => frzB_in (by simpa using hb)) ⟨v, [], B, [], rfl, rfl, vr, rfl, rfl⟩ (by simp [dats, hd]) (by simp [ns])
    obtain ⟨x, e1, e2⟩ := this.one'
    cases e1
    exact e2
  have zfz : ∀ {a : Addr} {o : HO} {F1 : Hp}, SR K τ σ F1 H A L → F1 a = some o → ∀ b ∈ [a], b ∉ A ∧ ∃ o, H b = some o := fun {a o F1} s1 h1 b hb => by
    rw [List.mem_singleton.mp hb]
    refine ⟨fun z => ?_, o, s1.le a o h1⟩
    rw [s1.off a z] at h1
    cases h1
  have ztup : ∀ {a : Addr} {us : List V}, H a = some (.tup us) → ∀ b ∈ [a], b ∉ A ∧ ∃ o, H b = some o := fun {a us} h1 b hb => by
    rw [List.mem_singleton.mp hb]
    refine ⟨fun z => ?_, _, h1⟩
    obtain ⟨u, q1, q2⟩ := sr.slots.dom a z
    rw [h1] at q1
    cases q1
    exact q2
  have plain : ∀ d, dat τ r = some d → noSlot r = true → (match d with
      | .lst ds => some (ds, none)
      | .tup ds => if b then some (ds, none) else none
      | _ => none) = some s → ∃ a us F1, Step F0 H0 A0 F1 H A ∧ SR K τ σ F1 H A L ∧ v = .ref a ∧ RepL K F1 H s.1 us ∧ ZOk σ τ A H [a] s.2 ∧ (H a = some (.lst us) ∨ (b = true ∧ H a = some (.tup us))) := fun d hd ns es => by
    cases d with
    | lst ds =>
      cases es
      obtain ⟨F1, s1, s2, s3⟩ := gen _ hd ns ⟨ds, .inl rfl⟩
      obtain ⟨a, us, rfl, g1, g2⟩ := s3.lst'
      exact ⟨a, us, F1, s1, s2, rfl, g2, zfz s2 g1, .inl (s2.le _ _ g1)⟩
    | tup ds =>
      simp only at es
      cases b with
      | false => cases es
      | true =>
        cases es
        obtain ⟨F1, s1, s2, s3⟩ := gen _ hd ns ⟨ds, .inr rfl⟩
        obtain ⟨a, us, rfl, g1, g2⟩ := s3.tup'
        exact ⟨a, us, F1, s1, s2, rfl, g2, ztup g1, .inr ⟨rfl, g1⟩⟩
    | _ => cases es
  cases r with
  | fz d => exact plain d rfl rfl (by cases d <;> exact e)
  | own f d => exact plain d rfl rfl (by cases d <;> exact e)
  | slot i =>
    simp only [seqOf] at e
    cases h1 : τ[i]? with
    | none => rw [h1] at e; cases e
    | some s1 =>
      rw [h1] at e
      cases s1 with
      | ow f d =>
        cases d with
        | lst ds =>
          simp only at e
          by_cases hi : immL ds = true
          · rw [if_pos hi] at e
            cases e
            obtain ⟨o, A1, g1, g2, _⟩ := sr.slots.at h1
            obtain ⟨w, rfl, ow⟩ := g2
            have : w = v := Option.some.inj (Option.some.inj (g1.symm.trans vr.2))
            subst this
            have rd := Own.read sr.le ow
            obtain ⟨a, us, rfl, g3, g4⟩ := rd.lst'
            exact ⟨a, us, F, pst, sr, rfl, g4.imm (Tk.refl H) hi, ⟨a, f, ds, [], rfl, fun _ z => (List.not_mem_nil z).elim, g1, h1⟩, .inl g3⟩
          · rw [if_neg hi] at e
            cases e
        | _ => cases e
      | _ => cases e
theorem di_seq {a : E} (h : DI K mg W Γ (.iSeq a) σ H Rr) : iList K (DE K mg W Γ a) σ H Rr ∨ iTup K (DE K mg W Γ a) σ H Rr := by
  obtain ⟨τ, F, A, L, sr, h⟩ := h
  simp only [evI] at h
  cases e : ev Γ a τ with
  | stuck => rw [e] at h; exact h.elim
  | exc c fs =>
    rw [e] at h
    refine .inl ⟨τ, F, A, L, sr, ?_⟩
    rw [e]
    exact h
  | ok x =>
    rw [e] at h
    simp only [R.bind_ok] at h
    cases e2 : seqOf x.2 true x.1 with
    | none => rw [e2] at h; exact h.elim
    | some s =>
      rw [e2] at h
      simp only [R.of_some, R.bind_ok] at h
      -- the data tells which it is
      have key : (∃ ds, dat x.2 x.1 = some (.lst ds)) ∨ ∃ ds, dat x.2 x.1 = some (.tup ds) := by
        cases q : x.1 with
        | fz d =>
          rw [q] at e2
          simp only [seqOf, dat] at e2 ⊢
          cases d <;> first | exact .inl ⟨_, rfl⟩ | exact .inr ⟨_, rfl⟩ | cases e2
        | own f d =>
          rw [q] at e2
          simp only [seqOf, dat] at e2 ⊢
          cases d <;> first | exact .inl ⟨_, rfl⟩ | exact .inr ⟨_, rfl⟩ | cases e2
        | slot i =>
          rw [q] at e2
          simp only [seqOf, dat] at e2 ⊢
          cases h1 : x.2[i]? with
          | none => rw [h1] at e2; cases e2
          | some s1 =>
            rw [h1] at e2
            cases s1 with
            | ow f d =>
              cases d with
              | lst ds => exact .inl ⟨ds, rfl⟩
              | _ => cases e2
            | _ => cases e2
      rcases key with ⟨ds, hd⟩ | ⟨ds, hd⟩
      · refine .inl ⟨τ, F, A, L, sr, ?_⟩
        rw [e]
        intro v F1 H1 A1 B p
        obtain ⟨a, us, F2, s1, s2, rfl, s3, s4, s5⟩ := seq_walk p.st p.sr p.vr p.ap p.bn e2
        rcases s5 with s5 | ⟨_, s5⟩
        · exact ⟨a, rfl, ⟨us, SqL.of s5⟩, h _ F2 H1 A1 [a] s1 s2 (walkD_list s5 s3) s4⟩
        · exfalso
          have := p.vr.read p.sr hd
          obtain ⟨b, ws, e3, g1, _⟩ := this.lst'
          cases e3
          rw [s5] at g1
          cases g1
      · refine .inr ⟨τ, F, A, L, sr, ?_⟩
        rw [e]
        intro v F1 H1 A1 B p
        obtain ⟨a, us, F2, s1, s2, rfl, s3, s4, s5⟩ := seq_walk p.st p.sr p.vr p.ap p.bn e2
        rcases s5 with s5 | ⟨_, s5⟩
        · exfalso
          have := p.vr.read p.sr hd
          obtain ⟨b, ws, e3, g1, _⟩ := this.tup'
          cases e3
          rw [s5] at g1
          cases g1
        · exact ⟨a, rfl, ⟨us, SqT.of s5⟩, h _ F2 H1 A1 [a] s1 s2 (walkD_tup s5 s3) s4⟩
theorem di_rev {a : E} (h : DI K mg W Γ (.iRev a) σ H Rr) : RT.iRevA K (DE K mg W Γ a) σ H Rr := by
  obtain ⟨τ, F, A, L, sr, h⟩ := h
  refine ⟨τ, F, A, L, sr, ?_⟩
  simp only [evI] at h
  cases e : ev Γ a τ with
  | stuck => rw [e] at h; exact h
  | exc c fs => rw [e] at h; exact h
  | ok x =>
    rw [e] at h
    simp only [R.bind_ok] at h ⊢
    intro v F1 H1 A1 B p
    cases e2 : seqOf x.2 true x.1 with
    | none => rw [e2] at h; exact h.elim
    | some s =>
      rw [e2] at h
      simp only [R.of_some, R.bind_ok] at h
      obtain ⟨a, us, F2, s1, s2, rfl, s3, s4, s5⟩ := seq_walk p.st p.sr p.vr p.ap p.bn e2
      rcases s5 with s5 | ⟨_, s5⟩
      · exact ⟨a, us, rfl, .inl ⟨SqL.of s5, h _ F2 H1 A1 [a] s1 s2 (walkD_rev s5 s3) s4⟩⟩
      · exact ⟨a, us, rfl, .inr ⟨SqT.of s5, h _ F2 H1 A1 [a] s1 s2 (walkD_revT s5 s3) s4⟩⟩
theorem di_enum {a : E} (h : DI K mg W Γ (.iEnum a) σ H Rr) : iEnum K (DA K mg W Γ (.cons a .nil)) σ H Rr := by
  obtain ⟨τ, F, A, L, sr, h⟩ := h
  refine ⟨τ, F, A, L, sr, ?_⟩
  simp only [evI] at h
  simp only [evs]
  cases e : ev Γ a τ with
  | stuck => rw [e] at h; exact h
  | exc c fs => rw [e] at h; exact h
  | ok x =>
    rw [e] at h
    simp only [R.bind_ok] at h ⊢
    intro vs F1 H1 A1 B p
    obtain ⟨v, rfl, vr⟩ := p.vr.one
    cases e2 : seqOf x.2 false x.1 with
    | none => rw [e2] at h; exact h.elim
    | some s =>
      rw [e2] at h
      simp only [R.of_some, R.bind_ok] at h
      obtain ⟨a, us, F2, s1, s2, rfl, s3, s4, s5⟩ := seq_walk p.st p.sr vr p.ap p.bn e2
      rcases s5 with s5 | ⟨z, _⟩
      · exact ⟨a, us, rfl, SqL.of s5, h _ F2 H1 A1 [a] s1 s2 (walkD_enum s5 s3) s4⟩
      · cases z
theorem walkD_zip {a b : Addr} {us ws : List V} {xs ys : List D} {Z : List Addr} (za : a ∈ Z) (zb : b ∈ Z) (ha : H a = some (.lst us)) (hb : H b = some (.lst ws)) (rx : RepL K F H xs us) (ry : RepL K F H ys ws) : WalkD K F H (Itz K a b) ((xs.zip ys).map fun p => .tup [p.1, p.2]) Z := by
  have hl := rx.len
  have hm := ry.len
  have le : ((xs.zip ys).map fun p => D.tup [p.1, p.2]).length = min us.length ws.length := by
    rw [List.length_map, List.length_zip]
    omega
  have sq : ∀ H2 : Hp, (∀ c ∈ Z, H2 c = H c) → SqL K H2 a us ∧ SqL K H2 b ws := fun H2 q => ⟨SqL.of ((q a za).trans ha), SqL.of ((q b zb).trans hb)⟩
  have w := walk_zip (K := K) (a := a) (b := b) (xs := us) (ys := ws) rfl
  refine ⟨fun i H2 hi q => w.goes i H2 (by rw [le] at hi; exact hi) (sq H2 q), fun H2 q => ?_, fun i H2 x H3 hi q y => ?_⟩
  · have := w.stops H2 (sq H2 q)
    rw [le]
    exact this
  · rw [le] at hi
    obtain ⟨T, u, z, g1, g2, g3, g4, g5⟩ := w.yields i H2 x H3 hi (sq H2 q) y
    have h1 : i < xs.length := by omega
    have h2 : i < ys.length := by omega
    obtain ⟨u2, k1, k2⟩ := rx.get (List.getElem?_eq_getElem h1)
    obtain ⟨z2, m1, m2⟩ := ry.get (List.getElem?_eq_getElem h2)
    replace g4 : us[i]? = some u := g4
    replace g5 : ws[i]? = some z := g5
    rw [g4] at k1
    rw [g5] at m1
    cases k1
    cases m1
    refine ⟨.tup [xs[i], ys[i]], ?_, .inr ⟨T, _, _, _, _, g1, g2, g3, rfl, k2, m2⟩⟩
    rw [List.getElem?_map, (List.getElem?_zip_eq_some (z := (xs[i], ys[i]))).mpr ⟨List.getElem?_eq_getElem h1, List.getElem?_eq_getElem h2⟩]
    rfl
theorem di_zip {a b : E} (h : DI K mg W Γ (.iZip a b) σ H Rr) : iZip K (DA K mg W Γ (.cons a (.cons b .nil))) σ H Rr := by
  obtain ⟨τ, F, A, L, sr, h⟩ := h
  refine ⟨τ, F, A, L, sr, ?_⟩
  simp only [evI] at h
  simp only [evs]
  cases e : ev Γ a τ with
  | stuck => rw [e] at h; exact h
  | exc c fs => rw [e] at h; exact h
  | ok x =>
    rw [e] at h
    simp only [R.bind_ok] at h ⊢
    cases e2 : ev Γ b x.2 with
    | stuck => rw [e2] at h; exact h
    | exc c fs => rw [e2] at h; exact h
    | ok y =>
      rw [e2] at h
      simp only [R.bind_ok] at h ⊢
      intro vs F1 H1 A1 B p
      by_cases hy : ∃ i, y.1 = .slot i
      · obtain ⟨i, hi⟩ := hy
        rw [hi] at h
        have hv := p.vr
        rw [hi] at hv
        obtain ⟨v1, r1, B1, B2, rfl, rfl, w1, w2⟩ := hv
        obtain ⟨v2, r2, B3, B4, rfl, rfl, w3, w4⟩ := w2
        obtain ⟨rfl, rfl⟩ := w4
        obtain ⟨rfl, w5⟩ := w3
        cases h1 : y.2[i]? with
        | none =>
          simp only [zipOf, h1] at h
          exact h.elim
        | some s1 =>
          cases s1 with
          | ow f d =>
            cases d with
            | lst ys =>
              cases h2 : noSlot x.1 with
              | false =>
                simp only [zipOf, h1, h2] at h
                exact h.elim
              | true =>
                cases h3 : dat y.2 x.1 with
                | none =>
                  simp only [zipOf, h1, h2, h3] at h
                  exact h.elim
                | some dx =>
                  cases dx with
                  | lst xs =>
                    by_cases h4 : immL ys = true
                    · simp only [zipOf, h1, h2, h3, if_pos h4, R.of_some, R.bind_ok] at h
                      have ap : Ap F1 A1 B1 := by
                        have := p.ap
                        simpa using this
                      have bn : ∀ b ∈ B1, b ∈ A ∨ H b = none := fun b hb => p.bn b (List.mem_append_left _ hb)
                      have s2 := p.st.frozen ap.off bn
                      have s3 := p.sr.frozen ap
                      have rp := VRL.frozen (τ := y.2) (rs := [x.1]) (vs := [v1]) (B := B1 ++ []) (ds := [.lst xs]) (frzB_le ap.off) (fun b hb => frzB_in (by simpa using hb)) ⟨v1, [], B1, [], rfl, rfl, w1, rfl, rfl⟩ (by simp [dats, h3]) (by simp [h2])
                      obtain ⟨v1', e1, q1⟩ := rp.one'
                      cases e1
                      obtain ⟨a1, us, rfl, k1, k2⟩ := q1.lst'
                      obtain ⟨o, A2, g1, g2, _⟩ := s3.slots.at h1
                      obtain ⟨v2', rfl, ow⟩ := g2
                      have : v2' = v2 := Option.some.inj (Option.some.inj (g1.symm.trans w5))
                      subst this
                      have rd := Own.read s3.le ow
                      obtain ⟨a2, ws, rfl, g3, g4⟩ := rd.lst'
                      refine ⟨a1, a2, us, ws, rfl, SqL.of (s3.le a1 _ k1), SqL.of g3, h _ _ H1 A1 [a2, a1] s2 s3 (walkD_zip (by simp) (by simp) (s3.le a1 _ k1) g3 k2 (g4.imm (Tk.refl H1) h4)) ⟨a2, f, ys, [a1], rfl, fun c hc => ?_, g1, h1⟩⟩
                      rw [List.mem_singleton.mp hc]
                      refine .inl ⟨fun z => ?_, _, s3.le a1 _ k1⟩
                      rw [s3.off a1 z] at k1
                      cases k1
                    · simp only [zipOf, h1, h2, h3, if_neg h4] at h
                      exact h.elim
                  | _ =>
                    simp only [zipOf, h1, h2, h3] at h
                    exact h.elim
            | _ =>
              simp only [zipOf, h1] at h
              exact h.elim
          | _ =>
            simp only [zipOf, h1] at h
            exact h.elim
      have ez : zipOf y.2 [x.1, y.1] = if [x.1, y.1].all noSlot then ((dats y.2 [x.1, y.1]).bind zip2).map fun ds => (ds, none) else none := by
        unfold zipOf
        split
        · rename_i v i e
          simp only [List.cons.injEq, and_true] at e
          exact (hy ⟨i, e.2⟩).elim
        · rfl
      cases e3 : zipOf y.2 [x.1, y.1] with
      | none => rw [e3] at h; exact h.elim
      | some ds =>
        rw [e3] at h
        simp only [R.of_some, R.bind_ok] at h
        rw [ez] at e3
        split at e3
        · rename_i ns
          cases e4 : dats y.2 [x.1, y.1] with
          | none => rw [e4] at e3; cases e3
          | some dd =>
            rw [e4] at e3
            have rp := VRL.frozen (τ := y.2) (frzB_le p.ap.off) (fun b hb => frzB_in hb) p.vr e4 ns
            have s1 := p.st.frozen p.ap.off p.bn
            have s2 := p.sr.frozen p.ap
            have key : ∃ xs ys, dd = [.lst xs, .lst ys] ∧ ds = ((xs.zip ys).map fun p => .tup [p.1, p.2], none) := by
              simp only [Option.bind_some] at e3
              cases e5 : zip2 dd with
              | none => rw [e5] at e3; cases e3
              | some z =>
                rw [e5] at e3
                cases e3
                unfold zip2 at e5
                split at e5
                · cases e5
                  exact ⟨_, _, rfl, rfl⟩
                · cases e5
            obtain ⟨xs, ys, rfl, rfl⟩ := key
            obtain ⟨v1, v2, rfl, q1, q2⟩ := rp.two
            obtain ⟨a1, us, rfl, k1, k2⟩ := q1.lst'
            obtain ⟨a2, ws, rfl, k3, k4⟩ := q2.lst'
            refine ⟨a1, a2, us, ws, rfl, SqL.of (s2.le a1 _ k1), SqL.of (s2.le a2 _ k3), h _ _ H1 A1 [a1, a2] s1 s2 (walkD_zip (by simp) (by simp) (s2.le a1 _ k1) (s2.le a2 _ k3) k2 k4) fun c hc => ?_⟩
            have hf : ∃ o, frzB F1 H1 B c = some o := by
              rcases List.mem_cons.mp hc with rfl | hc
              · exact ⟨_, k1⟩
              · rw [List.mem_singleton.mp hc]
                exact ⟨_, k3⟩
            obtain ⟨o, ho⟩ := hf
            refine ⟨fun z => ?_, o, s2.le c o ho⟩
            rw [s2.off c z] at ho
            cases ho
        · cases e3
theorem WalkD.more {J : It} {items : List D} {Y Z : List Addr} (w : WalkD K F H J items Y) (h : ∀ a ∈ Y, a ∈ Z) : WalkD K F H J items Z where
  go := fun i H2 hi hz => w.go i H2 hi fun a ha => hz a (h a ha)
  stop := fun H2 hz => w.stop H2 fun a ha => hz a (h a ha)
  yld := fun i H2 x H3 hi hz hy => w.yld i H2 x H3 hi (fun a ha => hz a (h a ha)) hy
theorem di_ix {args : E} (h : DI K mg W Γ (.iIx args) σ H Rr) : DA K mg W Γ args σ H fun vs H' => l2 (rIxA K) vs H' fun x H1 => ∃ a, x = .ref a ∧ (∃ xs, SqL K H1 a xs) ∧ Rr (Itl K a) H1 := by
  obtain ⟨τ, F, A, L, sr, h⟩ := h
  refine ⟨τ, F, A, L, sr, ?_⟩
  simp only [evI] at h
  cases e : evs Γ args τ with
  | stuck => rw [e] at h; exact h
  | exc c fs => rw [e] at h; exact h
  | ok r =>
    rw [e] at h
    simp only [R.bind_ok] at h ⊢
    cases e2 : ixWalk r.2 r.1 with
    | none => rw [e2] at h; exact h.elim
    | some s =>
    rw [e2] at h
    simp only [R.of_some, R.bind_ok] at h
    intro vs F1 H1 A1 B pl
    unfold ixWalk at e2
    split at e2
    · rename_i i j hr
      split at e2
      · rename_i xs hx
        split at e2
        · rename_i ys hy
          by_cases im : immL ys = true
          · rw [if_pos im] at e2
            cases e2
            have pv := pl.vr
            rw [hr] at pv
            obtain ⟨v, w, B1, B2, rfl, rfl, k1, k2⟩ := pv
            obtain ⟨u, w2, B3, B4, rfl, rfl, k3, k4⟩ := k2
            obtain ⟨rfl, _⟩ := k4
            obtain ⟨_, k3⟩ := k3
            obtain rfl := k3.int'
            obtain ⟨_, k1⟩ := k1
            obtain ⟨o, A2, q1, q2, q3⟩ := pl.sr.slots.at hx
            obtain ⟨w, rfl, ow⟩ := q2
            have : w = v := Option.some.inj (Option.some.inj (q1.symm.trans k1))
            subst this
            obtain ⟨a, us, rfl, ha, hu⟩ := (Own.read pl.sr.le ow).lst'
            obtain ⟨z, h3, h4⟩ := atI_rep hu hy
            obtain ⟨b, ws, rfl, hb, hw⟩ := h4.lst'
            refine .inl (.inl ⟨a, us, j, .ref b, rfl, rfl, SqL.of ha, h3, b, rfl, ⟨ws, SqL.of hb⟩, ?_⟩)
            refine h _ F1 H1 A1 [a, b] pl.st pl.sr ((walkD_list hb (hw.imm (Tk.refl H1) im)).more fun c hc => List.mem_cons_of_mem _ hc) ⟨a, true, xs, [b], rfl, fun c hc => .inr fun K' F' C oc nd => ?_, k1, hx⟩
            rw [List.mem_singleton.mp hc]
            unfold Own at oc
            obtain ⟨a', us', C', e1, e2, rfl, kd⟩ := oc
            cases e1
            rw [ha] at e2
            cases e2
            unfold atI at hy h3
            rw [← hu.len] at h3
            cases hn : ixN xs.length j with
            | none => rw [hn] at hy; cases hy
            | some n =>
              rw [hn] at hy h3
              obtain ⟨b2, ws2, C1, Cj, C2, g1, g2, g3, _⟩ := kd.inner hy (List.nodup_cons.mp nd).2
              have h3 : us[n]? = some (.ref b) := h3
              rw [h3] at g1
              cases g1
              rw [g3]
              simp
          · rw [if_neg im] at e2
            cases e2
        · cases e2
      · cases e2
    · cases e2
end
end Rg
namespace Rg
open PySem L2
def gNames : List Nat → TGs
  | [] => gNil
  | i :: r => gCons (gName i) (gNames r)
def gT (K : PySem.W.Frag) (tg : List Nat) (one : Bool) : TG := match one, tg with
  | true, [i] => gName i
  | true, _ => fun _ _ _ _ => False
  | false, tg => gTup K tg.length (gNames tg)
section
variable {K : KP} {mg : Str → Option Value} {W : WX} {Γ : Env1} {σ : L2.St} {F H : Hp} {A : List Addr} {L : Nat → V} {τ : Sts} {Q : VK}
theorem put1_any {i : Nat} {s : Slot} {τ' : Sts} (sr : SR K τ σ F H A L) (e : put1 τ i s = some τ') : ∃ A' s0, SR K (τ.set i .un) σ F H A' L ∧ (∀ a ∈ A', a ∈ A) ∧ τ' = (τ.set i .un).set i s ∧ (τ.set i .un)[i]? = some s0 ∧ s0 = .un ∧ ∃ o, σ[i]? = some o := by
  unfold put1 at e
  cases h : τ[i]? with
  | none => rw [h] at e; cases e
  | some s1 =>
    rw [h] at e
    have hi : (τ.set i Slot.un)[i]? = some .un := by
      rw [List.getElem?_set_self (List.getElem?_eq_some_iff.mp h).1]
    have et : ∀ {x : Slot}, (τ.set i Slot.un).set i x = τ.set i x := List.set_set ..
    obtain ⟨o, A1, g1, g2, _⟩ := sr.slots.at h
    cases s1 with
    | lk f d => cases e
    | un =>
      cases e
      have := sr.slots.into (s := .un) (o := o) (A1 := []) h (fun _ _ z => by cases z) (fun _ _ => rfl) rfl
      rw [set_back g1] at this
      exact ⟨A, .un, ⟨sr.le, this, sr.nd, sr.off⟩, fun _ h => h, et.symm, hi, rfl, o, g1⟩
    | fz d =>
      cases e
      have := sr.slots.into (s := .un) (o := o) (A1 := []) h (fun _ _ z => by cases z) (fun _ _ => rfl) rfl
      rw [set_back g1] at this
      exact ⟨A, .un, ⟨sr.le, this, sr.nd, sr.off⟩, fun _ h => h, et.symm, hi, rfl, o, g1⟩
    | ow f d =>
      cases e
      obtain ⟨v, A2, Ar, k1, k2, k3, k4, _⟩ := sr.out h
      exact ⟨Ar, .un, k4, fun a ha => k3.mem_iff.mpr (List.mem_append_right _ ha), et.symm, hi, rfl, _, k1⟩
theorem put1_fz {i : Nat} {d : D} {v : V} {τ' : Sts} (sr : SR K τ σ F H A L) (hr : Rep K F H d v) (e : put1 τ i (.fz d) = some τ') : ∃ A', SR K τ' (σ.set i (some v)) F H A' L ∧ ∀ a ∈ A', a ∈ A := by
  obtain ⟨A', s0, s1, s2, rfl, s3, rfl, _⟩ := put1_any sr e
  exact ⟨A', s1.giveFz s3 (fun _ _ z => by cases z) hr, s2⟩
theorem put1_ow {i : Nat} {f : Bool} {d : D} {v : V} {B : List Addr} {τ' : Sts} (sr : SR K τ σ F H A L) (hr : Own K F H f d v B) (ap : Ap F A B) (e : put1 τ i (.ow f d) = some τ') : ∃ A', SR K τ' (σ.set i (some v)) F H A' L ∧ ∀ a ∈ A', a ∈ A ∨ a ∈ B := by
  obtain ⟨A', s0, s1, s2, rfl, s3, rfl, _⟩ := put1_any sr e
  exact ⟨B ++ A', s1.give (M := L) s3 (fun _ _ z => by cases z) (fun _ _ => rfl) hr ⟨ap.nd, fun b hb z => ap.a b hb (s2 b z), ap.off⟩, fun a ha => (List.mem_append.mp ha).elim .inr fun z => .inl (s2 a z)⟩
theorem wipe_set {i : Nat} {x : Option V} : ∀ {vs : List Nat} {σ : L2.St}, i ∈ vs → wipe (σ.set i x) vs = wipe σ vs
  | v :: vs, σ, h => by
    show (wipe (σ.set i x) vs).set v none = (wipe σ vs).set v none
    by_cases z : i ∈ vs
    · rw [wipe_set z]
    · rcases List.mem_cons.mp h with rfl | h
      · have : ∀ (us : List Nat) (σ : L2.St), i ∉ us → wipe (σ.set i x) us = (wipe σ us).set i x := by
          intro us
          induction us with
          | nil => intro _ _; rfl
          | cons u us ih =>
            intro σ hu
            show (wipe (σ.set i x) us).set u none = ((wipe σ us).set u none).set i x
            rw [ih σ fun z => hu (List.mem_cons_of_mem _ z), List.set_comm _ _ (fun (z : i = u) => hu (by rw [z]; exact List.mem_cons_self))]
        rw [this vs σ z, List.set_set]
      · exact (z h).elim
theorem putL_ok : ∀ {tg : List Nat} {ds : List D} {vs : List V} {τ τ' : Sts} {σ : L2.St} {A : List Addr}, SR K τ σ F H A L → RepL K F H ds vs → putL τ tg ds = some τ' →
    ∃ A' σ', SR K τ' σ' F H A' L ∧ (∀ a ∈ A', a ∈ A) ∧ (∀ us, (∀ i ∈ tg, i ∈ us) → wipe σ' us = wipe σ us) ∧ vs.length = tg.length ∧ ∀ Q : L2.St → Hp → Prop, Q σ' H → gNames tg vs σ H Q
  | [], [], vs, τ, τ', σ, A, sr, rp, e => by
    cases e
    rw [rp.unnil]
    exact ⟨A, σ, sr, fun _ h => h, fun _ _ => rfl, rfl, fun Q q => ⟨rfl, q⟩⟩
  | [], d :: ds, vs, τ, τ', σ, A, sr, rp, e => by cases e
  | i :: r, [], vs, τ, τ', σ, A, sr, rp, e => by cases e
  | i :: r, d :: ds, vs, τ, τ', σ, A, sr, rp, e => by
    obtain ⟨v, w, rfl, h1, h2⟩ := rp.uncons
    unfold putL at e
    obtain ⟨τ1, e1, e2⟩ := obind e
    obtain ⟨A1, s1, s2⟩ := put1_fz sr h1 e1
    obtain ⟨A2, σ2, t1, t2, t3, t4, t5⟩ := putL_ok s1 h2 e2
    refine ⟨A2, σ2, t1, fun a ha => s2 a (t2 a ha), fun us hu => ?_, by simp [t4], fun Q q => ⟨v, w, rfl, t5 Q q⟩⟩
    rw [t3 us fun j hj => hu j (List.mem_cons_of_mem _ hj), wipe_set (hu i List.mem_cons_self)]
theorem bind_ok {tg : List Nat} {one : Bool} {d : D} {x : V} {τ' : Sts} (sr : SR K τ σ F H A L) (rp : Rep K F H d x) (e : bindTg tg one τ d = some τ') :
    ∃ A' σ', SR K τ' σ' F H A' L ∧ (∀ a ∈ A', a ∈ A) ∧ wipe σ' tg = wipe σ tg ∧ ∀ Q : L2.St → Hp → Prop, Q σ' H → gT K tg one x σ H Q := by
  cases one with
  | true =>
    replace e : putL τ tg [d] = some τ' := by
      cases d <;> exact e
    obtain ⟨A', σ', t1, t2, t3, t4, t5⟩ := putL_ok sr (RepL.one rp) e
    refine ⟨A', σ', t1, t2, t3 tg fun _ h => h, fun Q q => ?_⟩
    cases tg with
    | nil => cases t4
    | cons i r =>
      cases r with
      | nil =>
        obtain ⟨v, w, e1, e2⟩ := t5 Q q
        cases e1
        exact e2.2
      | cons j r => cases t4
  | false =>
    cases d with
    | tup ds =>
      replace e : putL τ tg ds = some τ' := e
      obtain ⟨a, us, rfl, g1, g2⟩ := rp.tup'
      obtain ⟨A', σ', t1, t2, t3, t4, t5⟩ := putL_ok sr g2 e
      exact ⟨A', σ', t1, t2, t3 tg fun _ h => h, fun Q q => ⟨a, us, rfl, SqT.of g1, t4, t5 Q q⟩⟩
    | _ => cases e
theorem unlocked_mem {i : Nat} : ∀ {tg : List Nat}, unlocked τ tg = true → i ∈ tg → τ[i]? = some .un ∨ ∃ d, τ[i]? = some (.fz d) := by
  intro tg h hi
  unfold unlocked at h
  have := List.all_eq_true.mp h i hi
  split at this
  · exact .inl (by assumption)
  · exact .inr ⟨_, by assumption⟩
  · cases this
theorem wipeS_get {j : Nat} : ∀ {tg : List Nat}, (wipeS τ tg)[j]? = if j ∈ tg then (τ[j]?).map fun _ => Slot.un else τ[j]?
  | [] => by simp [wipeS]
  | i :: r => by
    show ((wipeS τ r).set i .un)[j]? = _
    rw [List.getElem?_set]
    by_cases e : i = j
    · subst e
      simp only [List.mem_cons_self, if_true]
      have : ∀ (l : List Nat), (wipeS τ l).length = τ.length := by
        intro l
        induction l with
        | nil => rfl
        | cons k l ih =>
          show ((wipeS τ l).set k .un).length = _
          rw [List.length_set, ih]
      rw [this r]
      by_cases hl : i < τ.length
      · simp [hl]
      · rw [if_neg hl]
        simp [Nat.not_lt.mp hl]
    · rw [if_neg e, wipeS_get (tg := r)]
      have e2 : ¬ j = i := fun z => e z.symm
      simp [e2]
theorem SR.wipe {tg : List Nat} (sr : SR K τ σ F H A L) (h : unlocked τ tg = true) : SR K (wipeS τ tg) (L2.wipe σ tg) F H A L := by
  refine ⟨sr.le, ?_, sr.nd, sr.off⟩
  have : ∀ l : List Nat, (∀ i ∈ l, i ∈ tg) → Sl K F H (wipeS τ l) (L2.wipe σ l) A L := by
    intro l
    induction l with
    | nil => intro _; exact sr.slots
    | cons i r ih =>
      intro hl
      have h1 := ih fun j hj => hl j (List.mem_cons_of_mem _ hj)
      have h2 : ∃ s0, (wipeS τ r)[i]? = some s0 ∧ ∀ f d, s0 ≠ .ow f d := by
        rw [wipeS_get]
        rcases unlocked_mem h (hl i List.mem_cons_self) with q | ⟨d, q⟩
        · rw [q]
          by_cases z : i ∈ r
          · rw [if_pos z]
            exact ⟨_, rfl, fun _ _ z => by cases z⟩
          · rw [if_neg z]
            exact ⟨_, rfl, fun _ _ z => by cases z⟩
        · rw [q]
          by_cases z : i ∈ r
          · rw [if_pos z]
            exact ⟨_, rfl, fun _ _ z => by cases z⟩
          · rw [if_neg z]
            exact ⟨_, rfl, fun _ _ z => by cases z⟩
      obtain ⟨s0, h3, h4⟩ := h2
      have := h1.into (s := .un) (o := none) (A1 := []) (M := L) h3 h4 (fun _ _ => rfl) rfl
      exact this
  exact this tg fun _ h => h
theorem wipe_wipe {tg : List Nat} : wipe (wipe σ tg) tg = wipe σ tg := by
  have : ∀ (l : List Nat), (∀ i ∈ l, i ∈ tg) → wipe (wipe σ l) tg = wipe σ tg := by
    intro l
    induction l with
    | nil => intro _; rfl
    | cons i r ih =>
      intro h
      show wipe ((wipe σ r).set i none) tg = _
      rw [wipe_set (h i List.mem_cons_self), ih fun j hj => h j (List.mem_cons_of_mem _ hj)]
  exact this tg fun _ h => h
theorem SR.unwipe {tg : List Nat} (hl : σ.length = τ.length) (sr : SR K τ (L2.wipe σ tg) F H A L) (h : ∀ i ∈ tg, τ[i]? = some .un) : SR K τ σ F H A L := by
  refine ⟨sr.le, ?_, sr.nd, sr.off⟩
  have : ∀ l : List Nat, (∀ i ∈ l, i ∈ tg) → Sl K F H τ (L2.wipe σ l) A L → Sl K F H τ σ A L := by
    intro l
    induction l with
    | nil => intro _ h; exact h
    | cons i r ih =>
      intro hl2 h1
      refine ih (fun j hj => hl2 j (List.mem_cons_of_mem _ hj)) ?_
      have h3 := h i (hl2 i List.mem_cons_self)
      have h1' : Sl K F H τ ((L2.wipe σ r).set i none) A L := h1
      have hi : i < (L2.wipe σ r).length := by
        rw [wipe_length, hl]
        exact (List.getElem?_eq_some_iff.mp h3).1
      have := h1'.into (s := .un) (o := (L2.wipe σ r)[i]) (A1 := []) (M := L) h3 (fun _ _ z => by cases z) (fun _ _ => rfl) rfl
      rw [set_back h3, List.set_set, List.set_getElem_self] at this
      exact this
  exact this tg (fun _ h => h) sr.slots
abbrev W0 : WX := fun _ _ _ _ => False
theorem calm_ok {α : Type} {x : R α} {a : α} (h : x.calm = .ok a) : x = .ok a := by
  cases x with
  | ok b => exact h
  | exc c fs => cases h
  | stuck => cases h
theorem rbind_ok {α β : Type} {x : R α} {f : α → R β} {b : β} (h : (x >>= f) = .ok b) : ∃ a, x = .ok a ∧ f a = .ok b := by
  cases x with
  | ok a => exact ⟨a, rfl, h⟩
  | exc c fs => cases h
  | stuck => cases h
theorem rof_ok {α : Type} {x : Option α} {a : α} (h : R.of x = .ok a) : x = some a := by
  cases x with
  | none => cases h
  | some b =>
    cases h
    rfl
theorem wipeC_ok {tg : List Nat} {τ' : Sts} (h : wipeC τ tg = some τ') : unlocked τ tg = true ∧ τ' = wipeS τ tg := by
  unfold wipeC at h
  split at h
  · cases h
    exact ⟨by assumption, rfl⟩
  · cases h
def CI (K : KP) (Γ : Env1) (σ0 : L2.St) (tg : List Nat) (one : Bool) (cond elt : E) (L : Nat → V) (F1 H1 : Hp) (A2 : List Addr) (Da : Addr) (items : List D) (q : Bool × List D × Sts) (i : Nat) (H' : Hp) : Prop :=
  ∃ τi Fi Ai accD accV B full, SR K τi σ0 Fi H' Ai L ∧ Step F1 H1 A2 Fi H' Ai ∧ H' Da = some (.lst accV) ∧ Kids K Fi H' full accD accV B ∧ Ap Fi Ai (Da :: B) ∧ (∀ b ∈ B, b ∈ A2 ∨ H1 b = none) ∧
    compGo (compStep Γ tg one cond elt) (items.drop i) accD full τi = .ok q ∧ ∀ j ∈ tg, τi[j]? = some .un
theorem acc_step {F2 H2 : Hp} {A2 B : List Addr} {Da : Addr} {f : Bool} {ds : List D} {vs : List V} (st : Step F H A F2 H2 A2) (hD : H Da = some (.lst vs)) (kd : Kids K F H f ds vs B) (ap : Ap F A (Da :: B)) : H2 Da = some (.lst vs) ∧ Kids K F2 H2 f ds vs B ∧ Ap F2 A2 (Da :: B) := by
  have ow : Own K F H f (.lst ds) (.ref Da) (Da :: B) := by
    unfold Own
    exact ⟨Da, vs, B, rfl, hD, rfl, kd⟩
  obtain ⟨h1, h2⟩ := VR.step (σ := []) (r := .own f (.lst ds)) ow ap st
  replace h1 : Own K F2 H2 f (.lst ds) (.ref Da) (Da :: B) := h1
  unfold Own at h1
  obtain ⟨a, us, C, e1, e2, e3, e4⟩ := h1
  cases e1
  cases e3
  have : us = vs := by
    have := st.frame Da _ hD (ap.a Da List.mem_cons_self)
    rw [e2] at this
    cases this
    rfl
  subst this
  exact ⟨e2, e4, h2⟩
theorem ci_turn {σ0 : L2.St} {tg : List Nat} {one : Bool} {cond elt : E} {F1 H1 : Hp} {A2 Z : List Addr} {Da : Addr} {items : List D} {q : Bool × List D × Sts} {i : Nat} {H' H3 : Hp} {x : V} {d : D} (hD : H1 Da = none) (hw : wipe σ0 tg = σ0) (hi : items[i]? = some d) (ci : CI K Γ σ0 tg one cond elt L F1 H1 A2 Da items q i H') (it : ItemR K F1 H1 d H' x H3) :
    gT K tg one x σ0 H3 fun σ2 H2 => wipe σ2 tg = σ0 ∧ DT K mg W0 Γ cond σ2 H2 fun b H3 =>
      if b = true then DE K mg W0 Γ elt σ2 H3 fun y H4 => ∃ acc, H4 Da = some (.lst acc) ∧ acc.length < sizeLine ∧ CI K Γ σ0 tg one cond elt L F1 H1 A2 Da items q (i + 1) (upd H4 Da (.lst (acc ++ [y]))) else CI K Γ σ0 tg one cond elt L F1 H1 A2 Da items q (i + 1) H3 := by
  obtain ⟨τi, Fi, Ai, accD, accV, B, full, sr, st, hDa, kd, ap, bn, go, un⟩ := ci
  have hlt : i < items.length := (List.getElem?_eq_some_iff.mp hi).1
  have hdrop : items.drop i = d :: items.drop (i + 1) := by
    rw [List.drop_eq_getElem_cons hlt]
    congr 1
    exact (List.getElem?_eq_some_iff.mp hi).2
  rw [hdrop] at go
  unfold compGo at go
  obtain ⟨p, go1, go2⟩ := rbind_ok go
  have go3 := calm_ok go1
  obtain ⟨τ1, b1, b2⟩ := rbind_ok go3
  have b1 := rof_ok b1
  obtain ⟨r, c1, c2⟩ := rbind_ok b2
  obtain ⟨k, k1, k2⟩ := rbind_ok c2
  have k1 := rof_ok k1
  -- the item
  have itm : ∃ H3', H3' = H3 ∧ SR K τi σ0 Fi H3 Ai L ∧ Step F1 H1 A2 Fi H3 Ai ∧ H3 Da = some (.lst accV) ∧ Kids K Fi H3 full accD accV B ∧ Rep K Fi H3 d x := by
    rcases it with ⟨rfl, hr⟩ | ⟨T, u, w, du, dw, rfl, hT, rfl, rfl, h1, h2⟩
    · exact ⟨_, rfl, sr, st, hDa, kd, hr.mono st.mono st.tk⟩
    · have tk := upd_tk (o := .tup [u, w]) hT
      have nD : Da ≠ T := ne_of_none hDa hT
      refine ⟨_, rfl, sr.step hT, st.withLaid hT, ?_, kd.mono (Le.refl _) tk fun b hb => ?_, Rep.ofTup upd_same ?_⟩
      · rw [upd_ne nD]
        exact hDa
      · obtain ⟨o, e, _⟩ := kd.dom b hb
        rw [upd_ne (ne_of_none e hT)]
      · exact RepL.cons ((h1.mono st.mono st.tk).mono (Le.refl _) tk) (RepL.one ((h2.mono st.mono st.tk).mono (Le.refl _) tk))
  obtain ⟨_, _, sr, st, hDa, kd, hx⟩ := itm
  obtain ⟨A3, σ1, s1, s2, s3, s4⟩ := bind_ok sr hx b1
  refine s4 _ ⟨by rw [s3, hw], ?_⟩
  have st1 : Step F1 H1 A2 Fi H3 A3 := st.trans (Step.less s2)
  have ap1 : Ap Fi A3 (Da :: B) := ⟨ap.nd, fun b hb z => ap.a b hb (s2 b z), ap.off⟩
  refine dt_first s1 ?_
  rw [c1]
  simp only [k1]
  intro F4 H4 A4 st4 sr4
  obtain ⟨d4, kd4, ap4⟩ := acc_step st4 hDa kd ap1
  cases k with
  | false =>
    simp only [Bool.false_eq_true, if_false] at k2 ⊢
    obtain ⟨τ2, w1, w2⟩ := rbind_ok k2
    obtain ⟨u1, u2⟩ := wipeC_ok (rof_ok w1)
    cases w2
    simp only at go2
    have srw := sr4.wipe u1
    rw [s3, hw, ← u2] at srw
    refine ⟨τ2, F4, A4, accD, accV, B, full, srw, st1.trans st4, d4, kd4, ap4, bn, go2, fun j hj => ?_⟩
    rw [u2, wipeS_get, if_pos hj]
    rcases unlocked_mem u1 hj with z | ⟨_, z⟩ <;> rw [z] <;> rfl
  | true =>
    simp only [if_true] at k2 ⊢
    obtain ⟨r2, e1, e2⟩ := rbind_ok k2
    obtain ⟨qv, f1, f2⟩ := rbind_ok e2
    obtain ⟨τ2, w1, w2⟩ := rbind_ok f2
    have f1 := rof_ok f1
    obtain ⟨u1, u2⟩ := wipeC_ok (rof_ok w1)
    cases w2
    simp only at go2
    refine ⟨r.2, F4, A4, L, sr4, ?_⟩
    rw [e1]
    intro y F5 H5 A5 B5 p5
    obtain ⟨d5, kd5, ap5⟩ := acc_step p5.st d4 kd4 ap4
    obtain ⟨A6, B6, g1, g2, g3, g4, g5, g6⟩ := sto_ok p5.sr p5.vr p5.ap (show sto r2.2 r2.1 = some (qv.1, qv.2) from f1)
    have hz : accD.length < sizeLine := by
      by_cases hz : accD.length < sizeLine
      · exact hz
      · rw [if_neg hz] at go2
        cases go2
    rw [if_pos hz] at go2
    -- the new item beside the others
    have dj : ∀ b ∈ Da :: B, b ∉ B6 := fun b hb z => by
      rcases g5 b z with z | z
      · rcases p5.bn b z with z | z
        · exact ap4.a b hb z
        · have : ∃ o, H4 b = some o := by
            rcases List.mem_cons.mp hb with rfl | hb
            · exact ⟨_, d4⟩
            · obtain ⟨o, e, _⟩ := kd4.dom b hb
              exact ⟨o, e⟩
          obtain ⟨o, e⟩ := this
          rw [e] at z
          cases z
      · exact ap5.a b hb z
    have ap6 : Ap F5 A6 (Da :: B) := ⟨ap5.nd, fun b hb z => ap5.a b hb (g4 b z), ap5.off⟩
    have ap7 : Ap F5 A6 (Da :: B ++ B6) := ap6.app g3 dj
    have kd6 := (kd5.to (g := full && vFull qv.1) fun z => (Bool.and_eq_true_iff.mp z).1).app (g2.kid (f := full && vFull qv.1) g6 fun z => (Bool.and_eq_true_iff.mp z).2)
    refine ⟨accV, d5, by rw [← kd5.len]; exact hz, ?_⟩
    have tk : Tk H5 (upd H5 Da (.lst (accV ++ [y]))) := own_tk d5 trivial
    have nDa : ∀ b ∈ B ++ B6, b ≠ Da := fun b hb z => by
      have := (List.nodup_cons.mp ap7.nd).1
      exact this (z ▸ hb)
    have srw := g1.wipe u1
    have s3' : wipe σ1 tg = σ0 := by rw [s3, hw]
    rw [s3', ← u2] at srw
    have srU : SR K τ2 σ0 F5 (upd H5 Da (.lst (accV ++ [y]))) A6 L := srw.keep (Le.refl _) (fun b o e => by
      have : b ≠ Da := fun z => by
        rw [z, ap7.off Da List.mem_cons_self] at e
        cases e
      rw [upd_ne this]
      exact srw.le b o e) tk (fun b hb => upd_ne fun z => ap7.a Da List.mem_cons_self (z ▸ hb)) srw.off
    have st5 : Step F1 H1 A2 F5 H5 A6 := ((st1.trans st4).trans p5.st).trans (Step.less g4)
    have st6 : Step F1 H1 A2 F5 (upd H5 Da (.lst (accV ++ [y]))) A6 := ⟨st5.mono, st5.fresh, fun b o e n => by
      rw [upd_ne (ne_of_none e hD)]
      exact st5.frame b o e n, st5.own, fun b e => st5.dom b (upd_dom e), st5.tk.trans tk⟩
    refine ⟨τ2, F5, A6, accD ++ [vD qv.1], accV ++ [y], B ++ B6, full && vFull qv.1, srU, st6, upd_same, kd6.mono (Le.refl _) tk fun b hb => upd_ne (nDa b hb), ap7, fun b hb => ?_, go2, fun j hj => ?_⟩
    · rcases List.mem_append.mp hb with hb | hb
      · exact bn b hb
      · have hst := (st1.trans st4)
        rcases g5 b hb with z | z
        · rcases p5.bn b z with z | z
          · exact hst.own b z
          · exact .inr (hst.dom b z)
        · exact (hst.trans p5.st).own b z
    · rw [u2, wipeS_get, if_pos hj]
      rcases unlocked_mem u1 hj with z | ⟨_, z⟩ <;> rw [z] <;> rfl
end
end Rg
namespace Rg
open PySem L2
section
variable {K : KP} {mg : Str → Option Value} {W : WX} {Γ : Env1} {σ : L2.St} {F H : Hp} {A : List Addr} {L : Nat → V} {τ : Sts} {Q : VK}
theorem lock_ok {Z : List Addr} {lk : Option Nat} (sr : SR K τ σ F H A L) (z : ZOk σ τ A H Z lk) : ∃ A2 L2, SR K (lock τ lk) σ F H A2 L2 ∧ (∀ a ∈ Z, a ∉ A2 ∧ ∃ o, H a = some o) ∧ (∀ a ∈ A2, a ∈ A) ∧
    ∀ τn σn Fn Hn An τ3, SR K τn σn Fn Hn An L2 → Step F H A2 Fn Hn An → unlock τ τn lk = some τ3 → ∃ A3, SR K τ3 σn Fn Hn A3 L ∧ (∀ a ∈ A3, a ∈ An ∨ a ∈ A) ∧ ∀ C, Ap Fn An C → (∀ b ∈ C, b ∈ A2 ∨ H b = none) → Ap Fn A3 C := by
  cases lk with
  | none =>
    refine ⟨A, L, sr, z, fun _ h => h, fun τn σn Fn Hn An τ3 s st e => ?_⟩
    cases e
    exact ⟨An, s, fun _ h => .inl h, fun _ h _ => h⟩
  | some i =>
    obtain ⟨a, f, ds, Y, rfl, zY, z1, z2⟩ := z
    obtain ⟨v, A1, Ar, g1, g2, g3, g4, g5, g6⟩ := sr.out z2
    have el : lock τ (some i) = τ.set i (.lk f (.lst ds)) := by
      simp only [lock]
      rw [z2]
    have ev : v = .ref a := Option.some.inj (Option.some.inj (g1.symm.trans z1))
    subst ev
    have hA1 : ∃ us C, H a = some (.lst us) ∧ A1 = a :: C := by
      unfold Own at g2
      obtain ⟨b, us, C, e1, e2, e3, _⟩ := g2
      cases e1
      exact ⟨us, C, e2, e3⟩
    obtain ⟨us, C, ha, eA⟩ := hA1
    have inA : ∀ b ∈ A1, b ∈ A := fun b hb => g3.mem_iff.mpr (List.mem_append_left _ hb)
    have arA : ∀ b ∈ Ar, b ∈ A := fun b hb => g3.mem_iff.mpr (List.mem_append_right _ hb)
    refine ⟨Ar, _, by rw [el]; exact g6, fun b hb => ?_, arA, fun τn σn Fn Hn An τ3 s st e => ?_⟩
    · rcases List.mem_cons.mp hb with rfl | hb
      · exact ⟨g5.a b (by rw [eA]; exact List.mem_cons_self), _, ha⟩
      · rcases zY b hb with zz | zz
        · exact ⟨fun z => zz.1 (arA b z), zz.2⟩
        · have inB := zz _ _ _ g2 g5.nd
          obtain ⟨o, q1, _⟩ := Own.dom g2 b inB
          exact ⟨g5.a b inB, o, q1⟩
    · simp only [unlock] at e
      cases h1 : τn[i]? with
      | none => rw [h1] at e; cases e
      | some s1 =>
        rw [h1, z2] at e
        cases s1 with
        | lk f' d' =>
          cases e
          obtain ⟨o, B1, k1, k2, _⟩ := s.slots.at h1
          obtain ⟨_, k3⟩ := k2
          rw [if_pos rfl] at k3
          subst k3
          obtain ⟨w1, w2⟩ := VR.step (σ := σ) (r := .own f (.lst ds)) g2 g5 st
          have := s.give (M := L) h1 (fun _ _ z => by cases z) (fun j hj => by rw [if_neg hj]) w1 w2
          rw [set_back k1] at this
          refine ⟨A1 ++ An, this, fun b hb => (List.mem_append.mp hb).elim (fun y => .inr (inA b y)) .inl, fun C apC hC => ⟨apC.nd, fun b hb y => ?_, apC.off⟩⟩
          rcases List.mem_append.mp y with y | y
          · rcases hC b hb with q | q
            · exact g5.a b y q
            · obtain ⟨o, q2, _⟩ := Own.dom g2 b y
              rw [q] at q2
              cases q2
          · exact apC.a b hb y
        | un => cases e
        | fz d => cases e
        | ow f d => cases e
theorem de_comp {tg : List Nat} {one : Bool} {it cond elt : E} (h : DE K mg W Γ (.comp tg one it cond elt) σ H Q) : tLc (DI K mg W Γ it) (gT K tg one) (DT K mg W0 Γ cond) (DE K mg W0 Γ elt) tg σ H Q := by
  obtain ⟨τ, F, A, L, sr, h⟩ := h
  refine ⟨τ, F, A, L, sr, ?_⟩
  simp only [ev] at h
  cases e : evI Γ it τ with
  | stuck => rw [e] at h; exact h
  | exc c fs => rw [e] at h; exact h
  | ok s =>
    rw [e] at h
    simp only [R.bind_ok] at h ⊢
    intro J F1 H1 A1 Z st1 sr1 wd zok Da hDa
    cases e1 : wipeC s.2.2 tg with
    | none => rw [e1] at h; exact h.elim
    | some τ0 =>
      rw [e1] at h
      simp only [R.of_some, R.bind_ok] at h
      obtain ⟨u1, u2⟩ := wipeC_ok e1
      subst u2
      have srw := sr1.wipe u1
      have zok2 : ZOk (wipe σ tg) (wipeS s.2.2 tg) A1 H1 Z s.2.1 := by
        cases q : s.2.1 with
        | none => rw [q] at zok; exact zok
        | some i =>
          rw [q] at zok
          obtain ⟨a, f, ds, Y, z0, zY, z1, z2⟩ := zok
          have ni : i ∉ tg := fun z => by
            rcases unlocked_mem u1 z with y | ⟨_, y⟩ <;> rw [z2] at y <;> cases y
          exact ⟨a, f, ds, Y, z0, zY, by rw [wipe_out ni]; exact z1, by rw [wipeS_get, if_neg ni]; exact z2⟩
      obtain ⟨A2, L2, srL, zA, a2A, back⟩ := lock_ok srw zok2
      cases e2 : compGo (compStep Γ tg one cond elt) s.1 [] true (lock (wipeS s.2.2 tg) s.2.1) with
      | stuck =>
        have h2 := h
        unfold compStep at e2
        rw [e2] at h2
        exact h2.elim
      | exc c fs =>
        exfalso
        have : ∀ (l : List D) (acc : List D) (f : Bool) (t : Sts), compGo (compStep Γ tg one cond elt) l acc f t ≠ .exc c fs := by
          intro l
          induction l with
          | nil => intro acc f t z; cases z
          | cons d l ih =>
            intro acc f t z
            unfold compGo at z
            cases q : compStep Γ tg one cond elt t d with
            | stuck => rw [q] at z; cases z
            | exc c' fs' =>
              unfold compStep at q
              have : ∀ {α : Type} (x : R α), x.calm ≠ .exc c' fs' := fun x => by cases x <;> (intro y; cases y)
              exact this _ q
            | ok p =>
              rw [q] at z
              simp only [R.bind_ok] at z
              cases y : p.1 with
              | none => rw [y] at z; exact ih _ _ _ z
              | some v =>
                rw [y] at z
                simp only at z
                split at z
                · exact ih _ _ _ z
                · cases z
        exact this _ _ _ _ e2
      | ok q =>
        have h2 := h
        have e2' := e2
        unfold compStep at e2'
        rw [e2'] at h2
        simp only [R.bind_ok] at h2
        have hu : ∀ j ∈ tg, (lock (wipeS s.2.2 tg) s.2.1)[j]? = some .un := fun j hj => by
          have base : (wipeS s.2.2 tg)[j]? = some .un := by
            rw [wipeS_get, if_pos hj]
            rcases unlocked_mem u1 hj with z | ⟨_, z⟩ <;> rw [z] <;> rfl
          cases q2 : s.2.1 with
          | none => exact base
          | some i =>
            rw [q2] at zok2
            obtain ⟨a, f, ds, _, _, _, _, z2⟩ := zok2
            have el : lock (wipeS s.2.2 tg) (some i) = (wipeS s.2.2 tg).set i (.lk f (.lst ds)) := by
              simp only [lock]
              rw [z2]
            rw [el, List.getElem?_set_ne (fun (z : i = j) => by
              rw [z, base] at z2
              cases z2)]
            exact base
        have wk : Walk J s.1.length (fun H2 => ∀ a ∈ Z, H2 a = H1 a) (fun i H2 x H3 => ∃ d, s.1[i]? = some d ∧ ItemR K F1 H1 d H2 x H3) := ⟨wd.go, wd.stop, wd.yld⟩
        refine lc_it wk (CI K Γ (wipe σ tg) tg one cond elt L2 F1 H1 A2 Da s.1 q) ?_ ?_ ?_ ?_
        · have off := srL.off_none hDa
          refine ⟨_, F1, A2, [], [], [], true, srL.step hDa, Step.laid hDa, upd_same, Kids.nil, Ap.one off, fun _ z => (List.not_mem_nil z).elim, ?_, hu⟩
          rw [List.drop_zero]
          exact e2
        · intro i H' _ ci a ha
          obtain ⟨τi, Fi, Ai, accD, accV, B, full, _, st, _⟩ := ci
          obtain ⟨n, o, ho⟩ := zA a ha
          rw [ho]
          exact st.frame a o ho n
        · intro i x H' H3 hi ci it
          obtain ⟨d, hd, it⟩ := it
          exact ci_turn (Z := Z) hDa wipe_wipe hd ci it
        · intro H' ci
          obtain ⟨τi, Fi, Ai, accD, accV, B, full, si, st, hD', kd, ap, bn, go, un⟩ := ci
          rw [List.drop_length] at go
          cases go
          simp only at h2
          cases e3 : unlock (wipeS s.2.2 tg) τi s.2.1 with
          | none => rw [e3] at h2; exact h2.elim
          | some τ3 =>
            rw [e3] at h2
            simp only [R.of_some, R.bind_ok] at h2
            obtain ⟨A3, s3, i3, j3⟩ := back _ _ _ _ _ _ si st e3
            have un3 : ∀ j ∈ tg, τ3[j]? = some .un := fun j hj => by
              cases q2 : s.2.1 with
              | none =>
                rw [q2] at e3
                cases e3
                exact un j hj
              | some i =>
                rw [q2] at e3 zok2
                obtain ⟨a, f, ds, _, _, _, _, z2⟩ := zok2
                simp only [unlock] at e3
                rw [z2] at e3
                cases y : τi[i]? with
                | none => rw [y] at e3; cases e3
                | some s1 =>
                  rw [y] at e3
                  cases s1 with
                  | lk f' d' =>
                    cases e3
                    rw [List.getElem?_set_ne (fun (z : i = j) => by
                      rw [z, un j hj] at y
                      cases y)]
                    exact un j hj
                  | un => cases e3
                  | fz d => cases e3
                  | ow f d => cases e3
            have s4 := SR.unwipe (by
              have := s3.slots.len
              rw [wipe_length] at this
              exact this.symm) s3 un3
            have stA : Step F H A Fi H' A3 := by
              have base := st1.trans (Step.less a2A)
              have base2 := base.trans st
              refine ⟨base2.mono, base2.fresh, base2.frame, fun b hb => ?_, base2.dom, base2.tk⟩
              rcases i3 b hb with y | y
              · exact base2.own b y
              · exact st1.own b y
            have apD : Ap Fi A3 (Da :: B) := j3 _ ap fun b hb => by
              rcases List.mem_cons.mp hb with rfl | hb
              · exact .inr hDa
              · exact bn b hb
            refine h2 _ Fi H' A3 (Da :: B) ⟨stA, s4, ?_, apD, fun b hb => ?_⟩
            · show Own K Fi H' _ (.lst _) _ _
              unfold Own
              exact ⟨Da, accV, B, rfl, hD', rfl, kd⟩
            · rcases List.mem_cons.mp hb with rfl | hb
              · exact .inr (st1.dom _ hDa)
              · rcases bn b hb with y | y
                · exact st1.own b (a2A b y)
                · exact .inr (st1.dom b y)
end
end Rg
namespace Rg
open PySem L2
def PIn (P : L2.St → Prop) (tg : List Nat) : Prop := ∀ σ σ', wipe σ' tg = wipe σ tg → P σ → P σ'
def After (K : KP) (mg : Str → Option Value) (P : L2.St → Prop) (W : WX) (Dn : Ends) (L : Nat → V) (F H : Hp) (A : List Addr) : R Fl → Prop
  | .ok (.next τ') => ∀ σ' F' H' A', Step F H A F' H' A' → SR K τ' σ' F' H' A' L → P σ' → Dn.nx σ' H'
  | .ok (.ret r τ') => ∀ v σ' F' H' A' B L', Step F H A F' H' A' → SR K τ' σ' F' H' A' L' → VR K σ' F' H' r v B → Ap F' A' B → (∀ b ∈ B, b ∈ A ∨ H b = none) → P σ' → Dn.rt v H'
  | .exc c fs => ∀ σ' F' H' A', Step F H A F' H' A' → P σ' → XW K mg W c fs σ' H'
  | .stuck => False
def DS (K : KP) (mg : Str → Option Value) (P : L2.St → Prop) (W : WX) (Γ : Env1) (n : Nat) (m : S) : TS := fun Dn σ H => ∃ τ F A L, SR K τ σ F H A L ∧ P σ ∧ After K mg P W Dn L F H A (ex Γ n m τ)
section
variable {K : KP} {mg : Str → Option Value} {P : L2.St → Prop} {W : WX} {Γ : Env1} {n : Nat} {σ : L2.St} {F H : Hp} {A : List Addr} {L : Nat → V} {τ : Sts} {Dn : Ends}
theorem After.later {F1 H1 : Hp} {A1 : List Addr} {r : R Fl} (st : Step F H A F1 H1 A1) (h : After K mg P W Dn L F H A r) : After K mg P W Dn L F1 H1 A1 r := by
  cases r with
  | stuck => exact h
  | exc c fs => exact fun σ' F' H' A' s p => h σ' F' H' A' (st.trans s) p
  | ok f =>
    cases f with
    | next τ' => exact fun σ' F' H' A' s r => h σ' F' H' A' (st.trans s) r
    | ret v τ' => exact fun v σ' F' H' A' B L' s r vr ap bn => h v σ' F' H' A' B L' (st.trans s) r vr ap (fun b hb => (bn b hb).elim (fun z => st.own b z) fun z => .inr (st.dom b z))
theorem ds_seq {a b : S} (h : DS K mg P W Γ n (.seq a b) Dn σ H) : tSeq (DS K mg P W Γ n a) (DS K mg P W Γ n b) Dn σ H := by
  obtain ⟨τ, F, A, L, sr, hP, h⟩ := h
  refine ⟨τ, F, A, L, sr, hP, ?_⟩
  simp only [ex] at h
  cases e : ex Γ n a τ with
  | stuck => rw [e] at h; exact h
  | exc c fs => rw [e] at h; exact h
  | ok f =>
    rw [e] at h
    simp only [R.bind_ok] at h
    cases f with
    | next τ' => exact fun σ' F' H' A' s r z => ⟨τ', F', A', L, r, z, h.later s⟩
    | ret v τ' => exact h
theorem ds_skip (h : DS K mg P W Γ n .skip Dn σ H) : tNext Dn σ H := by
  obtain ⟨τ, F, A, L, sr, hP, h⟩ := h
  simp only [ex] at h
  exact h σ F H A (Step.refl F H A) sr hP
theorem ds_never (h : DS K mg P W Γ n .never Dn σ H) : tNever Dn σ H := by
  obtain ⟨τ, F, A, L, sr, hP, h⟩ := h
  simp only [ex] at h
  exact h
theorem de_in {m : E} {Q : VK} (sr : SR K τ σ F H A L) (hP : P σ) (h : match ev Γ m τ with
      | .ok r => ∀ v F' H' A' B, Post K σ L F H A r.2 F' H' A' r.1 v B → Q v H'
      | .exc c fs => After K mg P W Dn L F H A (.exc c fs)
      | .stuck => False) : DE K mg W Γ m σ H Q := by
  refine ⟨τ, F, A, L, sr, ?_⟩
  cases e : ev Γ m τ with
  | stuck => rw [e] at h; exact h
  | exc c fs => rw [e] at h; exact fun F' H' A' s => h σ F' H' A' s hP
  | ok r => rw [e] at h; exact h
theorem ds_expr {e : E} (h : DS K mg P W Γ n (.expr e) Dn σ H) : tDrop (DE K mg W Γ e) Dn σ H := by
  obtain ⟨τ, F, A, L, sr, hP, h⟩ := h
  refine de_in (P := P) (Dn := Dn) sr hP ?_
  simp only [ex] at h
  cases q : ev Γ e τ with
  | stuck => rw [q] at h; exact h
  | exc c fs => rw [q] at h; exact h
  | ok r =>
    rw [q] at h
    exact fun v F' H' A' B p => h σ F' H' A' p.st p.sr hP
theorem ds_ret {e : E} (h : DS K mg P W Γ n (.ret e) Dn σ H) : tRet (DE K mg W Γ e) Dn σ H := by
  obtain ⟨τ, F, A, L, sr, hP, h⟩ := h
  refine de_in (P := P) (Dn := Dn) sr hP ?_
  simp only [ex] at h
  cases q : ev Γ e τ with
  | stuck => rw [q] at h; exact h
  | exc c fs => rw [q] at h; exact h
  | ok r =>
    rw [q] at h
    exact fun v F' H' A' B p => h v σ F' H' A' B L p.st p.sr p.vr p.ap p.bn hP
theorem ds_asg {i : Nat} {e : E} (pin : PIn P [i]) (h : DS K mg P W Γ n (.asg i e) Dn σ H) : tAsg (DE K mg W Γ e) (gName i) Dn σ H := by
  obtain ⟨τ, F, A, L, sr, hP, h⟩ := h
  refine de_in (P := P) (Dn := Dn) sr hP ?_
  simp only [ex] at h
  cases q : ev Γ e τ with
  | stuck => rw [q] at h; exact h
  | exc c fs => rw [q] at h; exact h
  | ok r =>
    rw [q] at h
    simp only [R.bind_ok] at h ⊢
    intro v F' H' A' B p
    cases q1 : sto r.2 r.1 with
    | none => rw [q1] at h; exact h.elim
    | some w =>
      rw [q1] at h
      simp only [R.of_some, R.bind_ok] at h
      obtain ⟨A2, B2, g1, g2, g3, g4, g5, g6⟩ := sto_ok p.sr p.vr p.ap (show sto r.2 r.1 = some (w.1, w.2) from q1)
      cases q2 : put1 w.2 i (slotOf w.1) with
      | none => rw [q2] at h; exact h.elim
      | some τ' =>
        rw [q2] at h
        simp only [R.of_some, R.bind_ok] at h
        have st2 : ∀ A3 : List Addr, (∀ a ∈ A3, a ∈ A2 ∨ a ∈ B2) → Step F H A F' H' A3 := fun A3 hA => ⟨p.st.mono, p.st.fresh, p.st.frame, fun a ha => by
          rcases hA a ha with z | z
          · exact p.st.own a (g4 a z)
          · rcases g5 a z with z | z
            · exact p.bn a z
            · exact p.st.own a z, p.st.dom, p.st.tk⟩
        show Dn.nx (σ.set i (some v)) H'
        have hP2 : P (σ.set i (some v)) := pin _ _ (wipe_set List.mem_cons_self) hP
        cases q3 : w.1 with
        | fz d =>
          rw [q3] at q2 g2
          obtain ⟨A3, s3, s4⟩ := put1_fz g1 g2.2 q2
          exact h _ F' H' A3 (st2 A3 fun a ha => .inl (s4 a ha)) s3 hP2
        | own f d =>
          rw [q3] at q2 g2
          obtain ⟨A3, s3, s4⟩ := put1_ow g1 g2 g3 q2
          exact h _ F' H' A3 (st2 A3 s4) s3 hP2
        | slot j =>
          rw [q3] at g6
          cases g6
def gU (K : PySem.W.Frag) (tg : List Nat) : TG := fun v σ H Q => gTup K tg.length (gNames tg) v σ H Q ∨ gLst K tg.length (gNames tg) v σ H Q
theorem bindU_ok {tg : List Nat} {d : D} {x : V} {τ' : Sts} (sr : SR K τ σ F H A L) (rp : Rep K F H d x) (e : bindU tg τ d = some τ') :
    ∃ A' σ', SR K τ' σ' F H A' L ∧ (∀ a ∈ A', a ∈ A) ∧ wipe σ' tg = wipe σ tg ∧ ∀ Q : L2.St → Hp → Prop, Q σ' H → gU K tg x σ H Q := by
  cases d with
  | tup ds =>
    obtain ⟨A', σ', t1, t2, t3, t4⟩ := bind_ok (tg := tg) (one := false) sr rp e
    exact ⟨A', σ', t1, t2, t3, fun Q q => .inl (t4 Q q)⟩
  | lst ds =>
    replace e : putL τ tg ds = some τ' := e
    obtain ⟨a, us, rfl, g1, g2⟩ := rp.lst'
    obtain ⟨A', σ', t1, t2, t3, t4, t5⟩ := putL_ok sr g2 e
    exact ⟨A', σ', t1, t2, t3 tg fun _ h => h, fun Q q => .inr ⟨a, us, rfl, SqL.of (sr.le a _ g1), t4, t5 Q q⟩⟩
  | _ => cases e
theorem ds_unpack {tg : List Nat} {e : E} (pin : PIn P tg) (h : DS K mg P W Γ n (.unpack tg e) Dn σ H) : tAsg (DE K mg W Γ e) (gU K tg) Dn σ H := by
  obtain ⟨τ, F, A, L, sr, hP, h⟩ := h
  refine de_in (P := P) (Dn := Dn) sr hP ?_
  simp only [ex] at h
  cases q : ev Γ e τ with
  | stuck => rw [q] at h; exact h
  | exc c fs => rw [q] at h; exact h
  | ok r =>
    rw [q] at h
    simp only [R.bind_ok] at h ⊢
    intro v F' H' A' B p
    have pv := p.vr
    cases q0 : r.1 with
    | fz d =>
      rw [q0] at h pv
      simp only at h
      cases q1 : bindU tg r.2 d with
      | none => rw [q1] at h; exact h.elim
      | some τ' =>
        rw [q1] at h
        simp only [R.of_some, R.bind_ok] at h
        obtain ⟨A2, σ2, s1, s2, s5, s4⟩ := bindU_ok p.sr pv.2 q1
        exact s4 _ (h σ2 F' H' A2 (p.st.trans (Step.less s2)) s1 (pin _ _ s5 hP))
    | own f d =>
      rw [q0] at h pv
      simp only at h
      cases q1 : bindU tg r.2 d with
      | none => rw [q1] at h; exact h.elim
      | some τ' =>
        rw [q1] at h
        simp only [R.of_some, R.bind_ok] at h
        have rp : Rep K (frzB F' H' B) H' d v := Own.freeze (frzB_le p.ap.off) (fun b hb => frzB_in hb) pv
        obtain ⟨A2, σ2, s1, s2, s5, s4⟩ := bindU_ok (p.sr.frozen p.ap) rp q1
        exact s4 _ (h σ2 _ H' A2 ((p.st.frozen p.ap.off p.bn).trans (Step.less s2)) s1 (pin _ _ s5 hP))
    | slot j => rw [q0] at h; exact h.elim
theorem ds_par {i j : Nat} {a b : E} (pi : PIn P [i]) (pj : PIn P [j]) (h : DS K mg P W Γ n (.par i j a b) Dn σ H) : tPar i j (DA K mg W Γ (.cons a (.cons b .nil))) Dn σ H := by
  obtain ⟨τ, F, A, L, sr, hP, h⟩ := h
  refine ⟨τ, F, A, L, sr, ?_⟩
  simp only [ex] at h
  simp only [evs]
  cases e : ev Γ a τ with
  | stuck => rw [e] at h; exact h
  | exc c fs => rw [e] at h; exact fun F' H' A' s => h σ F' H' A' s hP
  | ok x =>
    rw [e] at h
    simp only [R.bind_ok] at h ⊢
    cases e1 : ev Γ b x.2 with
    | stuck => rw [e1] at h; exact h
    | exc c fs => rw [e1] at h; exact fun F' H' A' s => h σ F' H' A' s hP
    | ok y =>
      rw [e1] at h
      simp only [R.bind_ok] at h ⊢
      intro vs F1 H1 A1 B pl
      obtain ⟨v, w, B1, B2, rfl, rfl, v1, v2⟩ := pl.vr.two
      refine ⟨v, w, rfl, ?_⟩
      cases q1 : x.1 with
      | fz d =>
        cases q2 : y.1 with
        | fz d2 =>
          rw [q1, q2] at h
          rw [q1] at v1
          rw [q2] at v2
          simp only at h
          cases q3 : put1 y.2 i (.fz d) with
          | none => rw [q3] at h; exact h.elim
          | some τ1 =>
            rw [q3] at h
            simp only [R.of_some, R.bind_ok] at h
            cases q4 : put1 τ1 j (.fz d2) with
            | none => rw [q4] at h; exact h.elim
            | some τ2 =>
              rw [q4] at h
              simp only [R.of_some, R.bind_ok] at h
              obtain ⟨A2, s1, s2⟩ := put1_fz pl.sr v1.2 q3
              obtain ⟨A3, s3, s4⟩ := put1_fz s1 v2.2 q4
              exact h _ F1 H1 A3 (pl.st.trans (Step.less fun a ha => s2 a (s4 a ha))) s3 (pj _ _ (wipe_set List.mem_cons_self) (pi _ _ (wipe_set List.mem_cons_self) hP))
        | own f d => rw [q1, q2] at h; exact h.elim
        | slot k => rw [q1, q2] at h; exact h.elim
      | own f d => rw [q1] at h; exact h.elim
      | slot k => rw [q1] at h; exact h.elim
theorem ds_if {c : E} {a b : S} (h : DS K mg P W Γ n (.ifs c a b) Dn σ H) : tIfS (DT K mg W Γ c) (DS K mg P W Γ n a) (DS K mg P W Γ n b) Dn σ H := by
  obtain ⟨τ, F, A, L, sr, hP, h⟩ := h
  refine dt_first sr ?_
  simp only [ex] at h
  cases e : ev Γ c τ with
  | stuck => rw [e] at h; exact h
  | exc c fs => rw [e] at h; exact fun F' H' A' s => h σ F' H' A' s hP
  | ok x =>
    rw [e] at h
    simp only [R.bind_ok] at h ⊢
    cases e2 : boolOf x.2 x.1 with
    | none => rw [e2] at h; exact h.elim
    | some k =>
      rw [e2] at h
      simp only [R.of_some, R.bind_ok] at h ⊢
      intro F1 H1 A1 s1 r1
      cases k with
      | true =>
        simp only [if_true] at h ⊢
        exact ⟨x.2, F1, A1, L, r1, hP, h.later s1⟩
      | false =>
        simp only [Bool.false_eq_true, if_false] at h ⊢
        exact ⟨x.2, F1, A1, L, r1, hP, h.later s1⟩
theorem ds_frz {i : Nat} {b : S} (h : DS K mg P W Γ n (.seq (.frz i) b) Dn σ H) : DS K mg P W Γ n b Dn σ H := by
  obtain ⟨τ, F, A, L, sr, hP, h⟩ := h
  simp only [ex] at h
  cases e : τ[i]? with
  | none => rw [e] at h; exact h.elim
  | some s =>
    rw [e] at h
    cases s with
    | ow f d =>
      simp only [R.bind_ok] at h
      obtain ⟨v, A1, Ar, g1, g2, g3, g4, g5, _⟩ := sr.out e
      have s1 := g4.frozen g5
      have rp : Rep K (frzB F H A1) H d v := Own.freeze (frzB_le g5.off) (fun b hb => frzB_in hb) g2
      have hi : (τ.set i Slot.un)[i]? = some .un := by
        rw [List.getElem?_set_self (List.getElem?_eq_some_iff.mp e).1]
      have s2 := s1.giveFz hi (fun _ _ z => by cases z) rp
      rw [set_back g1, List.set_set] at s2
      have st : Step F H A (frzB F H A1) H Ar := by
        have base : Step F H A F H Ar := Step.less fun a ha => g3.mem_iff.mpr (List.mem_append_right _ ha)
        exact base.frozen g5.off fun b hb => .inl (g3.mem_iff.mpr (List.mem_append_left _ hb))
      exact ⟨_, _, Ar, L, s2, hP, h.later st⟩
    | un => exact h.elim
    | fz d =>
      simp only [R.bind_ok] at h
      exact ⟨τ, F, A, L, sr, hP, h⟩
    | lk f d => exact h.elim
theorem SR.forget {i : Nat} {s : Slot} (r : SR K τ σ F H A L) (e : τ[i]? = some s) : ∃ Ar, SR K (τ.set i .un) σ F H Ar L ∧ ∀ a ∈ Ar, a ∈ A := by
  obtain ⟨o, A1, Ar, h1, h2, h3, h5⟩ := r.slots.out e
  have nd' := List.nodup_append.mp (h3.nodup_iff.mp r.nd)
  exact ⟨Ar, ⟨r.le, h5 L .un (fun _ _ => rfl) rfl, nd'.2.1, fun a ha => r.off a (h3.mem_iff.mpr (List.mem_append_right _ ha))⟩, fun a ha => h3.mem_iff.mpr (List.mem_append_right _ ha)⟩
theorem ds_wipe {i : Nat} {b : S} (h : DS K mg P W Γ n (.seq (.wipe i) b) Dn σ H) : DS K mg P W Γ n b Dn σ H := by
  obtain ⟨τ, F, A, L, sr, hP, h⟩ := h
  simp only [ex] at h
  cases e : τ[i]? with
  | none => rw [e] at h; exact h.elim
  | some s =>
    rw [e] at h
    obtain ⟨Ar, s1, s2⟩ := sr.forget e
    have st : Step F H A F H Ar := Step.less s2
    cases s with
    | lk f d => exact h.elim
    | _ =>
      simp only [R.bind_ok] at h
      exact ⟨_, F, Ar, L, s1, hP, h.later st⟩
theorem ds_for {tg : List Nat} {one : Bool} {it : E} {b : S} (pin : PIn P tg) (h : DS K mg P W Γ n (.fors tg one it b) Dn σ H) : tFor (DI K mg W Γ it) (gT K tg one) (DS K mg P W Γ n b) Dn σ H := by
  obtain ⟨τ, F, A, L, sr, hP, h⟩ := h
  refine ⟨τ, F, A, L, sr, ?_⟩
  simp only [ex] at h
  cases e : evI Γ it τ with
  | stuck => rw [e] at h; exact h
  | exc c fs => rw [e] at h; exact fun F' H' A' s => h σ F' H' A' s hP
  | ok s =>
    rw [e] at h
    simp only [R.bind_ok] at h ⊢
    intro J F1 H1 A1 Z st1 sr1 wd zok
    obtain ⟨A2, L2, srL, zA, a2A, back⟩ := lock_ok sr1 zok
    have wk : Walk J s.1.length (fun H2 => ∀ a ∈ Z, H2 a = H1 a) (fun i H2 x H3 => ∃ d, s.1[i]? = some d ∧ ItemR K F1 H1 d H2 x H3) := ⟨wd.go, wd.stop, wd.yld⟩
    have base : Step F H A F1 H1 A2 := st1.trans (Step.less a2A)
    -- what the whole loop gives
    cases er : forGo (forStep Γ n tg one b) s.1 (lock s.2.2 s.2.1) with
    | stuck =>
      have er' := er
      unfold forStep at er'
      rw [er'] at h
      exact h.elim
    | _ =>
      have er' := er
      unfold forStep at er'
      rw [er'] at h
      refine for_it wk (fun i σi Hi => ∃ τi Fi Ai, SR K τi σi Fi Hi Ai L2 ∧ Step F1 H1 A2 Fi Hi Ai ∧ P σi ∧ forGo (forStep Γ n tg one b) (s.1.drop i) τi = forGo (forStep Γ n tg one b) s.1 (lock s.2.2 s.2.1)) ?_ ?_ ?_ ?_
      · exact ⟨_, F1, A2, srL, Step.refl _ _ _, hP, by rw [List.drop_zero]⟩
      · intro i σi Hi _ pv a ha
        obtain ⟨τi, Fi, Ai, _, st, _, _⟩ := pv
        obtain ⟨n, o, ho⟩ := zA a ha
        rw [ho]
        exact st.frame a o ho n
      · intro i x σi Hi H3 hi pv it2
        obtain ⟨τi, Fi, Ai, si, st, hPi, go⟩ := pv
        obtain ⟨d, hd, it2⟩ := it2
        have hdrop : s.1.drop i = d :: s.1.drop (i + 1) := by
          rw [List.drop_eq_getElem_cons hi]
          congr 1
          exact (List.getElem?_eq_some_iff.mp hd).2
        rw [hdrop, er] at go
        unfold forGo at go
        have itm : SR K τi σi Fi H3 Ai L2 ∧ Step F1 H1 A2 Fi H3 Ai ∧ Rep K Fi H3 d x := by
          rcases it2 with ⟨rfl, hr⟩ | ⟨T, u, w, du, dw, rfl, hT, rfl, rfl, h1, h2⟩
          · exact ⟨si, st, hr.mono st.mono st.tk⟩
          · have tk := upd_tk (o := .tup [u, w]) hT
            exact ⟨si.step hT, st.withLaid hT, Rep.ofTup upd_same (RepL.cons ((h1.mono st.mono st.tk).mono (Le.refl _) tk) (RepL.one ((h2.mono st.mono st.tk).mono (Le.refl _) tk)))⟩
        obtain ⟨si, st, hx⟩ := itm
        cases eb : bindTg tg one τi d with
        | none =>
          unfold forStep at go
          rw [eb] at go
          cases go
        | some τ1 =>
          obtain ⟨A3, σ1, s1, s2, s5, s4⟩ := bind_ok si hx eb
          refine s4 _ ⟨τ1, Fi, A3, L2, s1, pin _ _ s5 hPi, ?_⟩
          have stA : Step F1 H1 A2 Fi H3 A3 := st.trans (Step.less s2)
          have ef : forStep Γ n tg one b τi d = ex Γ n b τ1 := by
            unfold forStep
            rw [eb]
            rfl
          rw [ef] at go
          cases ex1 : ex Γ n b τ1 with
          | stuck =>
            rw [ex1] at go
            cases go
          | exc c fs =>
            rw [ex1] at go
            simp only [R.bind_exc] at go
            first
              | (cases go; exact fun σ' F' H' A' s p => h σ' F' H' A' ((base.trans stA).trans s) p)
              | cases go
          | ok f =>
            rw [ex1] at go
            simp only [R.bind_ok] at go
            cases f with
            | next τ' =>
              intro σ' F' H' A' s r z
              exact ⟨τ', F', A', r, stA.trans s, z, by rw [er]; exact go⟩
            | ret v τ' =>
              simp only at go
              first
                | (cases go
                   intro v2 σ' F' H' A' B L' s r vr ap bn
                   exact h v2 σ' F' H' A' B L' ((base.trans stA).trans s) r vr ap (fun b hb => (bn b hb).elim (fun z => (base.trans stA).own b z) fun z => .inr ((base.trans stA).dom b z)))
                | cases go
      · intro σi Hi pv
        obtain ⟨τi, Fi, Ai, si, st, hPi, go⟩ := pv
        rw [List.drop_length, er] at go
        first
          | (cases go
             simp only [R.bind_ok] at h
             cases e3 : unlock s.2.2 τi s.2.1 with
             | none => rw [e3] at h; exact h.elim
             | some τ3 =>
               rw [e3] at h
               simp only [R.of_some, R.bind_ok] at h
               obtain ⟨A3, s3, i3, _⟩ := back _ _ _ _ _ _ si st e3
               have b2 := base.trans st
               refine h σi Fi Hi A3 ⟨b2.mono, b2.fresh, b2.frame, fun c hc => ?_, b2.dom, b2.tk⟩ s3 hPi
               rcases i3 c hc with y | y
               · exact b2.own c y
               · exact st1.own c y)
          | cases go
theorem ds_while {c : E} {b : S} (h : DS K mg P W Γ n (.whl c b) Dn σ H) : tWhile (DT K mg W Γ c) (DS K mg P W Γ n b) Dn σ H := by
  obtain ⟨τ, F, A, L, sr, hP, h⟩ := h
  simp only [ex] at h
  generalize hc : (fun τ => ev Γ c τ >>= fun r => R.of (boolOf r.2 r.1) >>= fun k => R.ok (k, r.2)) = cf at h
  generalize hb : (fun τ => ex Γ n b τ) = bf at h
  have hcf : ∀ τ, cf τ = (ev Γ c τ >>= fun r => R.of (boolOf r.2 r.1) >>= fun k => R.ok (k, r.2)) := fun τ => by rw [← hc]
  have hbf : ∀ τ, bf τ = ex Γ n b τ := fun τ => by rw [← hb]
  refine ⟨fun m σi Hi => ∃ τi Fi Ai, SR K τi σi Fi Hi Ai L ∧ P σi ∧ Step F H A Fi Hi Ai ∧ After K mg P W Dn L F H A (whileGo cf bf m τi), ⟨n, τ, F, A, sr, hP, Step.refl _ _ _, h⟩, fun m σi Hi pv => ?_⟩
  obtain ⟨τi, Fi, Ai, si, hPi, st, af⟩ := pv
  cases m with
  | zero => exact af.elim
  | succ m =>
    unfold whileGo at af
    rw [hcf] at af
    refine dt_first si ?_
    cases e : ev Γ c τi with
    | stuck => rw [e] at af; exact af
    | exc c fs => rw [e] at af; exact fun F' H' A' s => af σi F' H' A' (st.trans s) hPi
    | ok x =>
      rw [e] at af
      simp only [R.bind_ok] at af ⊢
      cases e2 : boolOf x.2 x.1 with
      | none => rw [e2] at af; exact af.elim
      | some k =>
        rw [e2] at af
        simp only [R.of_some, R.bind_ok] at af ⊢
        intro F1 H1 A1 s1 r1
        have stA := st.trans s1
        cases k with
        | false =>
          simp only [Bool.false_eq_true, if_false] at af ⊢
          exact af σi F1 H1 A1 stA r1 hPi
        | true =>
          simp only [if_true] at af ⊢
          refine ⟨fun σ' H' => ∃ τi Fi Ai, SR K τi σ' Fi H' Ai L ∧ P σ' ∧ Step F H A Fi H' Ai ∧ After K mg P W Dn L F H A (whileGo cf bf m τi), fun σ' H' q => ⟨m, Nat.lt_succ_self m, q⟩, x.2, F1, A1, L, r1, hPi, ?_⟩
          rw [hbf] at af
          cases ex1 : ex Γ n b x.2 with
          | stuck => rw [ex1] at af; exact af
          | exc c fs => rw [ex1] at af; exact fun σ' F' H' A' s p => af σ' F' H' A' (stA.trans s) p
          | ok f =>
            rw [ex1] at af
            simp only [R.bind_ok] at af
            cases f with
            | next τ' => exact fun σ' F' H' A' s r z => ⟨τ', F', A', r, z, stA.trans s, af⟩
            | ret v τ' => exact fun v2 σ' F' H' A' B L' s r vr ap bn => af v2 σ' F' H' A' B L' (stA.trans s) r vr ap (fun b hb => (bn b hb).elim (fun z => stA.own b z) fun z => .inr (stA.dom b z))
end
end Rg
namespace Rg
open PySem PySem.Spec PyProof.Rows L2
structure FnQ (P : Program) (w : World) (K : PySem.W.Frag) (mg : Str → Option Value) (base : Heap) (k : Nat) (f : Addr) (fd : FuncData) (ps : List Str) (sp : PX → Sp) : Prop where
  len : ∀ px vs H Q E, sp px vs H Q E → vs.length = ps.length
  run : ∀ (A : Around) (outer : List Env) (s : Shared) (H : Hp) (args : PySem.Args) (us : List Value) (vs : List V) (Q : VK) (E : XK) (p : Addr × Obj) (cls : Value) (d : Option Addr), L2H.RoomH k A → L2H.Hot1 A p → L2N.Zn cls d p.2 → L2H.PinOk outer H s p →
    Env0 P w K mg base A outer s H → BindsTo s fd args (ps.zip us) → Vals vs us → sp (some (p.1, cls, d)) vs H Q E → codeAny (model P w) A (.call (.ref f) args) (CR (L2N.CX P w) outer P w H s Q E) s
section
variable {X : Cx} {k : Nat} {f : Addr} {fd : FuncData} {ps : List Str} {sp : PX → Sp} {E : L2.St → XK} {x : Str} {p pos : Pos} {e : Expr} {es : List Expr} {t : TA} {a : Addr} {cls : Value} {d : Option Addr} {oe : Obj}
theorem pe_callQ (F : FnQ X.prog X.w X.K X.mg X.base k f fd ps sp) (hr : L2H.RoomH k X.A) (hin : (a, oe) ∈ X.pn) (zn : L2N.Zn cls d oe) (hd : ∃ vs, oe.data = .fields vs) (hh : X.A.handled = some (.ref a)) (hg : Gl X x) (hm : X.mg x = some (.ref f)) (hk : PySem.W.keepIn X.K (.ref f) = true) (hb : Binds X.K fd ps [])
    (hx : ∀ σ, PassesAt (L2N.CX X.prog X.w) X σ (E σ)) (ha : PA X (e :: es) t) (hdb : (x == ("__debug__" : Str)) = false) (he : starEach (e :: es) X.env = (false, eval e X.env) :: starEach es X.env) (hpl : (backTo pos (starEach es X.env)).any (·.1) = false) :
    PE X (.Call (.Name x p) (e :: es) [] pos) (fun σ H Q => t σ H fun vs H1 => sp (some (a, cls, d)) vs H1 Q (E σ)) := by
  constructor
  intro pins s σ H Q I h
  refine wpAny_Call_Name_kw (ld_glob I hg hm ?_ hdb)
  refine PySem.W.callWith_K (h₀ := X.base) I.ok.mod.kin hk (thn (ha.run pos pins s σ H _ I h) ?_) he hpl
  rintro us s1 ⟨vs, H1, J, rel, q⟩
  refine ⟨J.kIn, ?_⟩
  have hl : us.length = ps.length := by
    rw [← rel.length]
    exact F.len _ _ _ _ _ q
  have bnd := hb s1 us J.kIn (by rw [List.append_nil]; exact hl)
  rw [List.append_nil] at bnd
  obtain ⟨g1, g2, g3, g4, g5⟩ := J.pin (a, oe) (List.mem_append_left _ hin)
  have pin : L2H.PinOk X.stack H1 s1 (a, oe) := ⟨g1, g2, fun z => (List.mem_cons.mp (J.stkSub a z)).elim g3 g4, g5⟩
  have hot : L2H.Hot1 X.A (a, oe) := by
    obtain ⟨ws, hw⟩ := hd
    exact ⟨hh, ws, hw, zn.2.2 ws hw⟩
  refine wpAny_call (codeAny_mono (F.run X.A X.stack s1 H1 ⟨us, []⟩ us vs Q (E σ) (a, oe) cls d hr hot zn pin J.env0 bnd rel q) ?_)
  intro r s' out
  match r, out with
  | .error er, out => exact hx σ pins H1 s1 er s' J out
  | .ok (.ret u), out => exact J.after out
end
end Rg
namespace Rg
open PySem L2
section
variable {K : PySem.W.Frag} {p p' : PX} {F H : Hp}
mutual
theorem Rep.px : ∀ {d : D} {v : V}, noX d = true → Rep ⟨K, p⟩ F H d v → Rep ⟨K, p'⟩ F H d v
  | .non, _, _, e => e
  | .bl _, _, _, e => e
  | .int _, _, _, e => e
  | .str _, _, _, e => e
  | .tup ds, _, i, e => by
    unfold Rep at e ⊢
    obtain ⟨a, vs, e1, e2, e3⟩ := e
    exact ⟨a, vs, e1, e2, RepL.px (by unfold noX at i; exact i) e3⟩
  | .lst ds, _, i, e => by
    unfold Rep at e ⊢
    obtain ⟨a, vs, e1, e2, e3⟩ := e
    exact ⟨a, vs, e1, e2, RepL.px (by unfold noX at i; exact i) e3⟩
  | .dT ks ds, _, i, e => by
    unfold Rep at e ⊢
    obtain ⟨a, vs, e1, e2, e4, e3⟩ := e
    exact ⟨a, vs, e1, e2, e4, RepL.px (by unfold noX at i; exact i) e3⟩
  | .dK ks ds, _, i, e => by
    unfold Rep at e ⊢
    obtain ⟨a, vs, e1, e2, e4, e3⟩ := e
    exact ⟨a, vs, e1, e2, e4, RepL.px (by unfold noX at i; exact i) e3⟩
  | .scr ns, _, _, e => by
    unfold Rep at e ⊢
    exact e
  | .exn c fn fd, _, i, _ => by unfold noX at i; cases i
theorem RepL.px : ∀ {ds : List D} {vs : List V}, noXL ds = true → RepL ⟨K, p⟩ F H ds vs → RepL ⟨K, p'⟩ F H ds vs
  | [], _, _, e => by unfold RepL at e ⊢; exact e
  | d :: ds, _, i, e => by
    unfold noXL at i
    obtain ⟨i1, i2⟩ := Bool.and_eq_true_iff.mp i
    obtain ⟨v, r, rfl, e2, e3⟩ := e.uncons
    exact RepL.cons (Rep.px i1 e2) (RepL.px i2 e3)
end
mutual
theorem Own.px {f : Bool} : ∀ {d : D} {v : V} {A : List Addr}, noX d = true → Own ⟨K, p⟩ F H f d v A → Own ⟨K, p'⟩ F H f d v A
  | .lst ds, _, _, i, e => by
    unfold Own at e ⊢
    obtain ⟨a, vs, B, e1, e2, rfl, e4⟩ := e
    exact ⟨a, vs, B, e1, e2, rfl, Kids.px (by unfold noX at i; exact i) e4⟩
  | .dT ks ds, _, _, i, e => by
    unfold Own at e ⊢
    obtain ⟨a, vs, B, e1, e2, e5, rfl, e4⟩ := e
    exact ⟨a, vs, B, e1, e2, e5, rfl, Kids.px (by unfold noX at i; exact i) e4⟩
  | .dK ks ds, _, _, i, e => by
    unfold Own at e ⊢
    obtain ⟨a, vs, B, e1, e2, e5, rfl, e4⟩ := e
    exact ⟨a, vs, B, e1, e2, e5, rfl, Kids.px (by unfold noX at i; exact i) e4⟩
  | .non, _, _, _, e => by unfold Own at e; exact e.elim
  | .bl _, _, _, _, e => by unfold Own at e; exact e.elim
  | .int _, _, _, _, e => by unfold Own at e; exact e.elim
  | .str _, _, _, _, e => by unfold Own at e; exact e.elim
  | .tup ds, _, _, i, e => by
    unfold Own at e ⊢
    obtain ⟨a, vs, e1, e2, e4⟩ := e
    exact ⟨a, vs, e1, e2, Kids.px (by unfold noX at i; exact i) e4⟩
  | .scr _, _, _, _, e => by unfold Own at e; exact e.elim
  | .exn _ _ _, _, _, _, e => by unfold Own at e; exact e.elim
theorem Kids.px {f : Bool} : ∀ {ds : List D} {vs : List V} {A : List Addr}, noXL ds = true → Kids ⟨K, p⟩ F H f ds vs A → Kids ⟨K, p'⟩ F H f ds vs A
  | [], _, _, _, e => by unfold Kids at e ⊢; exact e
  | d :: ds, _, _, i, e => by
    unfold noXL at i
    obtain ⟨i1, i2⟩ := Bool.and_eq_true_iff.mp i
    obtain ⟨v, r, A1, A2, rfl, rfl, e3, e4⟩ := e.uncons
    refine Kids.cons ?_ (Kids.px i2 e4)
    rcases e3 with ⟨e5, e6, e7⟩ | e5
    · exact .inl ⟨e5, Rep.px i1 e6, e7⟩
    · exact .inr (Own.px i1 e5)
end
mutual
theorem noX_imm : ∀ {d : D}, imm d = true → noX d = true
  | .non, _ => rfl
  | .bl _, _ => rfl
  | .int _, _ => rfl
  | .str _, _ => rfl
  | .tup ds, i => by
    unfold noX
    exact noXL_imm (by unfold imm at i; exact i)
theorem noXL_imm : ∀ {ds : List D}, immL ds = true → noXL ds = true
  | [], _ => by unfold noXL; rfl
  | d :: ds, i => by
    unfold immL at i
    obtain ⟨i1, i2⟩ := Bool.and_eq_true_iff.mp i
    unfold noXL
    rw [noX_imm i1, noXL_imm i2]
    rfl
end
theorem SlotR.px {v0 : V} {s : Slot} {o : Option V} {A : List Addr} (i : noXS s = true) (h : SlotR ⟨K, p⟩ F H v0 s o A) : SlotR ⟨K, p'⟩ F H v0 s o A := by
  cases s with
  | un => exact h
  | fz d =>
    obtain ⟨h1, v, h2, h3⟩ := h
    exact ⟨h1, v, h2, h3.px i⟩
  | ow f d =>
    obtain ⟨v, h2, h3⟩ := h
    exact ⟨v, h2, h3.px i⟩
  | lk f d => cases i
theorem SlotsR.px {L : Nat → V} : ∀ {n : Nat} {τ : Sts} {σ : L2.St} {A : List Addr}, τ.all noXS = true → SlotsR ⟨K, p⟩ F H L n τ σ A → SlotsR ⟨K, p'⟩ F H L n τ σ A
  | _, [], _, _, _, h => h
  | n, s :: τ, _, _, i, h => by
    simp only [List.all_cons, Bool.and_eq_true] at i
    obtain ⟨o, r, A1, A2, e1, e2, h3, h4⟩ := h
    exact ⟨o, r, A1, A2, e1, e2, h3.px i.1, SlotsR.px i.2 h4⟩
theorem SR.px {L : Nat → V} {τ : Sts} {σ : L2.St} {A : List Addr} (i : τ.all noXS = true) (h : SR ⟨K, p⟩ τ σ F H A L) : SR ⟨K, p'⟩ τ σ F H A L := by
  obtain ⟨A0, s, pm⟩ := h.slots
  exact ⟨h.le, ⟨A0, s.px i, pm⟩, h.nd, h.off⟩
theorem SlotsR.none {K : KP} {L : Nat → V} : ∀ {n : Nat} (σ : L2.St), SlotsR K F H L n (List.replicate σ.length .un) σ []
  | _, [] => ⟨rfl, rfl⟩
  | n, o :: σ => ⟨o, σ, [], [], rfl, rfl, rfl, SlotsR.none σ⟩
theorem SR.none {K : KP} {L : Nat → V} (le : Le F H) (σ : L2.St) : SR K (List.replicate σ.length .un) σ F H [] L :=
  ⟨le, ⟨[], SlotsR.none σ, List.Perm.refl _⟩, List.nodup_nil, fun _ z => (List.not_mem_nil z).elim⟩
end
section
variable {K : KP} {mg : Str → Option Value} {P : L2.St → Prop} {W : WX} {Γ : Env1} {n : Nat} {σ : L2.St} {F H : Hp} {A : List Addr} {L : Nat → V} {τ : Sts} {Dn : Ends}
theorem ds_raise0 {c : String} {e : E} (h : DS K mg P W Γ n (.raise c none e) Dn σ H) : ∃ C, mg (Str.ofString c) = some (.ref C) ∧ W (.ref C) none σ H := by
  obtain ⟨τ, F, A, L, sr, hP, h⟩ := h
  simp only [ex] at h
  exact h σ F H A (Step.refl F H A) hP
theorem ds_raise1 {c : String} {C : Addr} {f : Str} {e : E} (hC : mg (Str.ofString c) = some (.ref C)) (h : DS K mg P W Γ n (.raise c (some f) e) Dn σ H) : DE K mg W Γ e σ H fun v H1 => ∀ d, H1 d = none → W (.ref C) (some d) σ (upd H1 d (.xd [(f, v)])) := by
  obtain ⟨τ, F, A, L, sr, hP, h⟩ := h
  simp only [ex] at h
  refine de_in (P := P) (Dn := Dn) sr hP ?_
  cases e1 : ev Γ e τ with
  | stuck => rw [e1] at h; exact h.elim
  | exc c2 fs => rw [e1] at h; exact h
  | ok r =>
    rw [e1] at h
    simp only [R.bind_ok] at h ⊢
    intro v F1 H1 A1 B p dx hd
    have pv := p.vr
    cases q : r.1 with
    | own g d0 => rw [q] at h; exact h.elim
    | slot j => rw [q] at h; exact h.elim
    | fz d0 =>
      rw [q] at h pv
      simp only at h
      by_cases i : imm d0 = true
      · rw [if_pos i] at h
        obtain ⟨C', g1, g2⟩ := h σ F1 _ A1 (p.st.withLaid (o := .xd [(f, v)]) hd) hP
        have : C' = C := by
          rw [hC] at g1
          cases g1
          rfl
        subst this
        exact g2 dx v upd_same (pv.2.imm (upd_tk hd) i)
      · rw [if_neg i] at h
        exact h.elim
end
theorem wipe_len : ∀ {tg : List Nat} {σ : L2.St}, (wipe σ tg).length = σ.length
  | [], _ => rfl
  | i :: r, σ => by
    first
      | (show (wipe (σ.set i none) r).length = _; rw [wipe_len, List.length_set])
      | (show ((wipe σ r).set i none).length = _; rw [List.length_set, wipe_len])
def PL (P : L2.St → Prop) (m : Nat) : L2.St → Prop := fun σ => P σ ∧ σ.length = m
theorem PL.pin {P : L2.St → Prop} {m : Nat} {tg : List Nat} (h : PIn P tg) : PIn (PL P m) tg := fun σ σ' e z => by
  refine ⟨h σ σ' e z.1, ?_⟩
  have := congrArg List.length e
  rw [wipe_len, wipe_len] at this
  rw [this]
  exact z.2
section
variable {K : PySem.W.Frag} {mg : Str → Option Value} {P : L2.St → Prop} {W : WX} {Γ : Env1} {n : Nat} {σ : L2.St} {F H : Hp} {A : List Addr} {L : Nat → V} {τ : Sts} {Dn : Ends}
theorem suite_ok {k : String} {fs : List (Str × D)} {i : Nat} {s : S} {F' H' : Hp} {A' : List Addr} {a : Addr} {o : Option Addr} {σ' : L2.St} (pin : PIn P [i]) (le : Le F H) (off : ∀ b ∈ A, F b = none) (st : Step F H A F' H' A') (hP : P σ') (hl : σ'.length = τ.length) (hi : i < τ.length)
    (hr : Rep ⟨K, some (a, .ref (He.ga K (Str.ofString k)), o)⟩ F H' (exnD k fs) (.ref a))
    (h : After ⟨K, none⟩ mg P W Dn L F H A (match ex Γ n s ((List.replicate τ.length Slot.un).set i (.fz (exnD k fs))) with
      | .ok (.next τ2) => if (τ2.set i .un).all noXS = true then .ok (.next (τ2.set i .un)) else .stuck
      | _ => .stuck)) :
    DS ⟨K, some (a, .ref (He.ga K (Str.ofString k)), o)⟩ mg (PL P σ'.length) (fun _ _ _ _ => False) Γ n s { nx := fun σ' H' => Dn.nx (σ'.set i none) H', rt := Dn.rt, bk := fun σ' H' => Dn.bk (σ'.set i none) H', ct := fun σ' H' => Dn.ct (σ'.set i none) H' } (σ'.set i (some (.ref a))) H' := by
  have nA : ∀ b x, F b = some x → b ∉ A := fun b x e z => by
    rw [off b z] at e
    cases e
  have leF : Le F H' := fun b x e => st.frame b x (le b x e) (nA b x e)
  have s0 : Step F H A F H' [] := ⟨Le.refl F, fun _ z => .inl z, st.frame, fun _ z => (List.not_mem_nil z).elim, st.dom, st.tk⟩
  have r0 : SR ⟨K, some (a, .ref (He.ga K (Str.ofString k)), o)⟩ (List.replicate σ'.length .un) σ' F H' [] L := SR.none leF σ'
  have r1 := r0.giveFz (i := i) (s0 := .un) (by rw [List.getElem?_replicate, if_pos (by omega)]) (fun _ _ z => by cases z) hr
  rw [hl] at r1
  refine ⟨_, F, [], L, r1, ⟨pin _ _ (wipe_set List.mem_cons_self) hP, List.length_set⟩, ?_⟩
  cases e : ex Γ n s ((List.replicate τ.length Slot.un).set i (.fz (exnD k fs))) with
  | stuck => rw [e] at h; exact h
  | exc c2 fs2 => rw [e] at h; exact h.elim
  | ok f =>
    cases f with
    | ret v τ2 => rw [e] at h; exact h.elim
    | next τ2 =>
      rw [e] at h
      simp only at h
      intro σ2 F2 H2 A2 s2 r2 p2
      by_cases hx : (τ2.set i .un).all noXS = true
      · rw [if_pos hx] at h
        have hi2 : i < τ2.length := by
          rw [r2.slots.len, p2.2]
          omega
        obtain ⟨Ar, q1, q2⟩ := r2.forget (i := i) (List.getElem?_eq_getElem hi2)
        have q3 := (q1.px (p' := none) hx)
        have q4 := q3.slots.into (i := i) (s0 := .un) (s := .un) (o := none) (A1 := []) (M := L) (by rw [List.getElem?_set_self hi2]) (fun _ _ z => by cases z) (fun _ _ => rfl) rfl
        rw [List.set_set, List.nil_append] at q4
        exact h (σ2.set i none) F2 H2 Ar ((s0.trans s2).trans (Step.less q2)) ⟨q3.le, q4, q3.nd, q3.off⟩ (pin _ _ (wipe_set List.mem_cons_self) p2.1)
      · rw [if_neg hx] at h
        exact h.elim
theorem suite_ok0 {k : String} {s : S} {F' H' : Hp} {A' : List Addr} {px : PX} {σ' : L2.St} (le : Le F H) (off : ∀ b ∈ A, F b = none) (st : Step F H A F' H' A') (hP : P σ') (hl : σ'.length = τ.length)
    (h : After ⟨K, none⟩ mg P W Dn L F H A (match ex Γ n s (List.replicate τ.length Slot.un) with
      | .ok (.next τ2) => if τ2.all noXS = true then .ok (.next τ2) else .stuck
      | _ => .stuck)) :
    DS ⟨K, px⟩ mg (PL P σ'.length) (fun _ _ _ _ => False) Γ n s Dn σ' H' := by
  have nA : ∀ b x, F b = some x → b ∉ A := fun b x e z => by
    rw [off b z] at e
    cases e
  have leF : Le F H' := fun b x e => st.frame b x (le b x e) (nA b x e)
  have s0 : Step F H A F H' [] := ⟨Le.refl F, fun _ z => .inl z, st.frame, fun _ z => (List.not_mem_nil z).elim, st.dom, st.tk⟩
  have r1 : SR ⟨K, px⟩ (List.replicate σ'.length .un) σ' F H' [] L := SR.none leF σ'
  rw [hl] at r1
  refine ⟨_, F, [], L, r1, ⟨hP, rfl⟩, ?_⟩
  cases e : ex Γ n s (List.replicate τ.length Slot.un) with
  | stuck => rw [e] at h; exact h
  | exc c2 fs2 => rw [e] at h; exact h.elim
  | ok f =>
    cases f with
    | ret v τ2 => rw [e] at h; exact h.elim
    | next τ2 =>
      rw [e] at h
      simp only at h
      intro σ2 F2 H2 A2 s2 r2 p2
      by_cases hx : τ2.all noXS = true
      · rw [if_pos hx] at h
        exact h σ2 F2 H2 A2 (s0.trans s2) (r2.px hx) p2.1
      · rw [if_neg hx] at h
        exact h.elim
theorem ds_tryAs {b s : S} {cs : List String} {c : String} {cv : Value} {i : Nat} (pin : PIn P [i]) (hx : ∀ k ∈ cs, mg (Str.ofString k) = some (.ref (He.ga K (Str.ofString k))) ∧ PySem.W.exmOne K (.ref (He.ga K (Str.ofString k))) cv = some (subX k c))
    (h : DS ⟨K, none⟩ mg P W Γ n (.try1 b cs c (some i) s) Dn σ H) :
    DS ⟨K, none⟩ mg (PL P σ.length) (wAs K cv i (fun a cls d D σ H => DS ⟨K, some (a, cls, d)⟩ mg (PL P σ.length) (fun _ _ _ _ => False) Γ n s D σ H) W Dn) Γ n b Dn σ H := by
  obtain ⟨τ, F, A, L, sr, hP, h⟩ := h
  refine ⟨τ, F, A, L, sr, ⟨hP, rfl⟩, ?_⟩
  simp only [ex] at h
  cases e : ex Γ n b τ with
  | stuck => rw [e] at h; exact h
  | ok f =>
    rw [e] at h
    cases f with
    | next τ' => exact fun σ' F' H' A' s r p => h σ' F' H' A' s r p.1
    | ret v τ' => exact fun v σ' F' H' A' B L' s r vr ap bn p => h v σ' F' H' A' B L' s r vr ap bn p.1
  | exc k fs =>
    rw [e] at h
    simp only at h
    intro σ' F' H' A' st hp
    by_cases hc : cs.contains k = true ∧ fs.length ≤ 1 ∧ (fs.all fun p => imm p.2) = true
    · rw [if_pos hc] at h
      obtain ⟨g1, g2⟩ := hx k (by simpa using hc.1)
      by_cases hs : subX k c = true
      · rw [if_pos hs] at h
        rw [hs] at g2
        by_cases hi : i < τ.length
        · rw [if_pos hi] at h
          simp only [R.bind_ok] at h
          have hl : σ'.length = τ.length := by rw [hp.2, sr.slots.len]
          refine ⟨_, g1, ?_⟩
          match fs, hc.2.1, hc.2.2 with
          | [], _, _ =>
            refine ⟨true, g2, fun _ a ha => ?_, fun z => by cases z⟩
            simp only [List.length_set]
            refine suite_ok pin sr.le sr.off st hp.1 hl hi ?_ h
            unfold exnD Rep
            exact ⟨a, none, [], rfl, rfl, by unfold RepL; rfl, .inl ⟨rfl, rfl⟩⟩
          | [(f, d)], _, hm =>
            intro dx v hd hr
            refine ⟨true, g2, fun _ a ha => ?_, fun z => by cases z⟩
            simp only [List.length_set]
            refine suite_ok pin sr.le sr.off st hp.1 hl hi ?_ h
            have im : imm d = true := by simpa using hm
            unfold exnD Rep
            exact ⟨a, some dx, [v], rfl, rfl, RepL.one ((hr.imm (Tk.refl H') im).px (noX_imm im)), .inr ⟨dx, rfl, hd⟩⟩
        · rw [if_neg hi] at h
          exact h.elim
      · rw [if_neg hs] at h
        have hs' : subX k c = false := by simpa using hs
        rw [hs'] at g2
        obtain ⟨C, q1, q2⟩ := h σ' F' H' A' st hp.1
        have : C = He.ga K (Str.ofString k) := by
          rw [g1] at q1
          cases q1
          rfl
        subst this
        refine ⟨_, g1, ?_⟩
        match fs, hc.2.1, q2 with
        | [], _, q2 => exact ⟨false, g2, (fun z => by cases z), fun _ => q2⟩
        | [(f, d)], _, q2 => exact fun a v ha hr => ⟨false, g2, (fun z => by cases z), fun _ => q2 a v ha hr⟩
    · rw [if_neg hc] at h
      exact h.elim
theorem ds_try0 {b s : S} {cs : List String} {c : String} {cv : Value} (hx : ∀ k ∈ cs, mg (Str.ofString k) = some (.ref (He.ga K (Str.ofString k))) ∧ PySem.W.exmOne K (.ref (He.ga K (Str.ofString k))) cv = some (subX k c))
    (h : DS ⟨K, none⟩ mg P W Γ n (.try1 b cs c none s) Dn σ H) :
    DS ⟨K, none⟩ mg (PL P σ.length) (wMany K W Dn [(cv, fun a cls d D σ H => DS ⟨K, some (a, cls, d)⟩ mg (PL P σ.length) (fun _ _ _ _ => False) Γ n s D σ H)]) Γ n b Dn σ H := by
  obtain ⟨τ, F, A, L, sr, hP, h⟩ := h
  refine ⟨τ, F, A, L, sr, ⟨hP, rfl⟩, ?_⟩
  simp only [ex] at h
  cases e : ex Γ n b τ with
  | stuck => rw [e] at h; exact h
  | ok f =>
    rw [e] at h
    cases f with
    | next τ' => exact fun σ' F' H' A' s r p => h σ' F' H' A' s r p.1
    | ret v τ' => exact fun v σ' F' H' A' B L' s r vr ap bn p => h v σ' F' H' A' B L' s r vr ap bn p.1
  | exc k fs =>
    rw [e] at h
    simp only at h
    intro σ' F' H' A' st hp
    by_cases hc : cs.contains k = true ∧ fs.length ≤ 1 ∧ (fs.all fun p => imm p.2) = true
    · rw [if_pos hc] at h
      obtain ⟨g1, g2⟩ := hx k (by simpa using hc.1)
      by_cases hs : subX k c = true
      · rw [if_pos hs] at h
        rw [hs] at g2
        simp only [R.bind_ok] at h
        have hl : σ'.length = τ.length := by rw [hp.2, sr.slots.len]
        refine ⟨_, g1, ?_⟩
        match fs, hc.2.1 with
        | [], _ => exact ⟨true, g2, fun _ a ha => suite_ok0 (k := k) sr.le sr.off st hp.1 hl h, fun z => by cases z⟩
        | [(f, d)], _ => exact fun dx v hd hr => ⟨true, g2, fun _ a ha => suite_ok0 (k := k) sr.le sr.off st hp.1 hl h, fun z => by cases z⟩
      · rw [if_neg hs] at h
        have hs' : subX k c = false := by simpa using hs
        rw [hs'] at g2
        obtain ⟨C, q1, q2⟩ := h σ' F' H' A' st hp.1
        have : C = He.ga K (Str.ofString k) := by
          rw [g1] at q1
          cases q1
          rfl
        subst this
        refine ⟨_, g1, ?_⟩
        match fs, hc.2.1, q2 with
        | [], _, q2 => exact ⟨false, g2, (fun z => by cases z), fun _ => q2⟩
        | [(f, d)], _, q2 => exact fun a v ha hr => ⟨false, g2, (fun z => by cases z), fun _ => q2 a v ha hr⟩
    · rw [if_neg hc] at h
      exact h.elim
theorem keep_ge {τ : Sts} {j : Nat} : ∀ {k : Nat} {b : Sts}, k ≤ j → (keepS k τ b)[j]? = b[j]?
  | 0, _, _ => rfl
  | k + 1, b, h => by
    unfold keepS
    split
    · split
      · rw [List.getElem?_set_ne (by omega)]
        exact keep_ge (by omega)
      · exact keep_ge (by omega)
    · exact keep_ge (by omega)
theorem set_same {α : Type} {l : List α} {k : Nat} {v : α} (h : l[k]? = some v) : l.set k v = l := by
  refine List.ext_getElem? fun j => ?_
  rw [List.getElem?_set]
  by_cases e : k = j
  · subst e
    rw [if_pos rfl, if_pos (List.getElem?_eq_some_iff.mp h).1, h]
  · rw [if_neg e]
theorem keep_ok {px : PX} {H' : Hp} {σ' : L2.St} (sr : SR ⟨K, none⟩ τ σ F H A L) (leF : Le F H') (tk : Tk H H') (hl : σ'.length = τ.length) : ∀ {k : Nat}, (∀ j, j < k → σ'[j]? = σ[j]?) → SR ⟨K, px⟩ (keepS k τ (List.replicate τ.length .un)) σ' F H' [] L
  | 0, _ => by
    unfold keepS
    rw [← hl]
    exact SR.none leF σ'
  | k + 1, hs => by
    have ih := keep_ok (px := px) sr leF tk hl (k := k) fun j hj => hs j (by omega)
    unfold keepS
    split
    · rename_i d hd
      split
      · rename_i im
        obtain ⟨o, A1, q1, q2, _⟩ := sr.slots.at hd
        obtain ⟨_, v, rfl, hr⟩ := q2
        have hv : σ'[k]? = some (some v) := (hs k (by omega)).trans q1
        have lt := (List.getElem?_eq_some_iff.mp hd).1
        have r := ih.giveFz (i := k) (s0 := .un) (by rw [keep_ge (Nat.le_refl k), List.getElem?_replicate, if_pos lt]) (fun _ _ z => by cases z) ((hr.imm (F' := F) tk im).px (noX_imm im))
        rw [set_same hv] at r
        exact r
      · exact ih
    · exact ih
theorem suite_okK {k : Nat} {e : String} {fs : List (Str × D)} {i : Nat} {s : S} {F' H' : Hp} {A' : List Addr} {a : Addr} {o : Option Addr} {σ' : L2.St} (pin : PIn P [i]) (sr : SR ⟨K, none⟩ τ σ F H A L) (st : Step F H A F' H' A') (hP : P σ') (hl : σ'.length = τ.length) (hs : ∀ j, j < k → σ'[j]? = σ[j]?) (hk : k ≤ i) (hi : i < τ.length)
    (hr : Rep ⟨K, some (a, .ref (He.ga K (Str.ofString e)), o)⟩ F H' (exnD e fs) (.ref a))
    (h : After ⟨K, none⟩ mg P W Dn L F H A (match ex Γ n s ((keepS k τ (List.replicate τ.length Slot.un)).set i (.fz (exnD e fs))) with
      | .ok (.next τ2) => if (τ2.set i .un).all noXS = true then .ok (.next (τ2.set i .un)) else .stuck
      | _ => .stuck)) :
    DS ⟨K, some (a, .ref (He.ga K (Str.ofString e)), o)⟩ mg (PL P σ'.length) (fun _ _ _ _ => False) Γ n s { nx := fun σ' H' => Dn.nx (σ'.set i none) H', rt := Dn.rt, bk := fun σ' H' => Dn.bk (σ'.set i none) H', ct := fun σ' H' => Dn.ct (σ'.set i none) H' } (σ'.set i (some (.ref a))) H' := by
  have nA : ∀ b x, F b = some x → b ∉ A := fun b x e z => by
    rw [sr.off b z] at e
    cases e
  have leF : Le F H' := fun b x e => st.frame b x (sr.le b x e) (nA b x e)
  have s0 : Step F H A F H' [] := ⟨Le.refl F, fun _ z => .inl z, st.frame, fun _ z => (List.not_mem_nil z).elim, st.dom, st.tk⟩
  have r0 := keep_ok (px := some (a, .ref (He.ga K (Str.ofString e)), o)) sr leF st.tk hl hs
  have r1 := r0.giveFz (i := i) (s0 := .un) (by rw [keep_ge hk, List.getElem?_replicate, if_pos (by omega)]) (fun _ _ z => by cases z) hr
  refine ⟨_, F, [], L, r1, ⟨pin _ _ (wipe_set List.mem_cons_self) hP, List.length_set⟩, ?_⟩
  cases e : ex Γ n s ((keepS k τ (List.replicate τ.length Slot.un)).set i (.fz (exnD e fs))) with
  | stuck => rw [e] at h; exact h
  | exc c2 fs2 => rw [e] at h; exact h.elim
  | ok f =>
    cases f with
    | ret v τ2 => rw [e] at h; exact h.elim
    | next τ2 =>
      rw [e] at h
      simp only at h
      intro σ2 F2 H2 A2 s2 r2 p2
      by_cases hx : (τ2.set i .un).all noXS = true
      · rw [if_pos hx] at h
        have hi2 : i < τ2.length := by
          rw [r2.slots.len, p2.2]
          omega
        obtain ⟨Ar, q1, q2⟩ := r2.forget (i := i) (List.getElem?_eq_getElem hi2)
        have q3 := (q1.px (p' := none) hx)
        have q4 := q3.slots.into (i := i) (s0 := .un) (s := .un) (o := none) (A1 := []) (M := L) (by rw [List.getElem?_set_self hi2]) (fun _ _ z => by cases z) (fun _ _ => rfl) rfl
        rw [List.set_set, List.nil_append] at q4
        exact h (σ2.set i none) F2 H2 Ar ((s0.trans s2).trans (Step.less q2)) ⟨q3.le, q4, q3.nd, q3.off⟩ (pin _ _ (wipe_set List.mem_cons_self) p2.1)
      · rw [if_neg hx] at h
        exact h.elim
def PK (P : L2.St → Prop) (k : Nat) (σ0 : L2.St) : L2.St → Prop := fun σ => P σ ∧ σ.length = σ0.length ∧ ∀ j, j < k → σ[j]? = σ0[j]?
theorem wipe_at {j : Nat} : ∀ {tg : List Nat} {σ : L2.St}, j ∉ tg → (wipe σ tg)[j]? = σ[j]?
  | [], _, _ => rfl
  | i :: r, σ, h => by
    have h1 : i ≠ j := fun z => h (z ▸ List.mem_cons_self)
    have h2 : j ∉ r := fun z => h (List.mem_cons_of_mem _ z)
    first
      | (show (wipe (σ.set i none) r)[j]? = _; rw [wipe_at h2, List.getElem?_set_ne h1])
      | (show ((wipe σ r).set i none)[j]? = _; rw [List.getElem?_set_ne h1, wipe_at h2])
theorem PK.pin {P : L2.St → Prop} {k : Nat} {σ0 : L2.St} {tg : List Nat} (h : PIn P tg) (hk : ∀ i ∈ tg, k ≤ i) : PIn (PK P k σ0) tg := fun σ σ' e z => by
  refine ⟨h σ σ' e z.1, ?_, fun j hj => ?_⟩
  · have := congrArg List.length e
    rw [wipe_len, wipe_len] at this
    rw [this]
    exact z.2.1
  · have hn : j ∉ tg := fun q => by have := hk j q; omega
    have : (wipe σ' tg)[j]? = (wipe σ tg)[j]? := by rw [e]
    rw [wipe_at hn, wipe_at hn] at this
    rw [this]
    exact z.2.2 j hj
theorem ds_tryK {k : Nat} {b s : S} {cs : List String} {c : String} {cv : Value} {i : Nat} (pin : PIn P [i]) (hx : ∀ k ∈ cs, mg (Str.ofString k) = some (.ref (He.ga K (Str.ofString k))) ∧ PySem.W.exmOne K (.ref (He.ga K (Str.ofString k))) cv = some (subX k c))
    (h : DS ⟨K, none⟩ mg P W Γ n (.tryK k b cs c i s) Dn σ H) :
    DS ⟨K, none⟩ mg (PK P k σ) (wAs K cv i (fun a cls d D σ H => DS ⟨K, some (a, cls, d)⟩ mg (PL P σ.length) (fun _ _ _ _ => False) Γ n s D σ H) W Dn) Γ n b Dn σ H := by
  obtain ⟨τ, F, A, L, sr, hP, h⟩ := h
  refine ⟨τ, F, A, L, sr, ⟨hP, rfl, fun _ _ => rfl⟩, ?_⟩
  simp only [ex] at h
  cases e : ex Γ n b τ with
  | stuck => rw [e] at h; exact h
  | ok f =>
    rw [e] at h
    cases f with
    | next τ' => exact fun σ' F' H' A' s r p => h σ' F' H' A' s r p.1
    | ret v τ' => exact fun v σ' F' H' A' B L' s r vr ap bn p => h v σ' F' H' A' B L' s r vr ap bn p.1
  | exc k2 fs =>
    rw [e] at h
    simp only at h
    intro σ' F' H' A' st hp
    by_cases hc : cs.contains k2 = true ∧ fs.length ≤ 1 ∧ (fs.all fun p => imm p.2) = true
    · rw [if_pos hc] at h
      obtain ⟨g1, g2⟩ := hx k2 (by simpa using hc.1)
      by_cases hs : subX k2 c = true
      · rw [if_pos hs] at h
        rw [hs] at g2
        by_cases hi : k ≤ i ∧ i < τ.length
        · rw [if_pos hi] at h
          have hl : σ'.length = τ.length := by rw [hp.2.1, sr.slots.len]
          refine ⟨_, g1, ?_⟩
          match fs, hc.2.1, hc.2.2 with
          | [], _, _ =>
            refine ⟨true, g2, fun _ a ha => ?_, fun z => by cases z⟩
            simp only [List.length_set]
            refine suite_okK pin sr st hp.1 hl hp.2.2 hi.1 hi.2 ?_ h
            unfold exnD Rep
            exact ⟨a, none, [], rfl, rfl, by unfold RepL; rfl, .inl ⟨rfl, rfl⟩⟩
          | [(f, d)], _, hm =>
            intro dx v hd hr
            refine ⟨true, g2, fun _ a ha => ?_, fun z => by cases z⟩
            simp only [List.length_set]
            refine suite_okK pin sr st hp.1 hl hp.2.2 hi.1 hi.2 ?_ h
            have im : imm d = true := by simpa using hm
            unfold exnD Rep
            exact ⟨a, some dx, [v], rfl, rfl, RepL.one ((hr.imm (Tk.refl H') im).px (noX_imm im)), .inr ⟨dx, rfl, hd⟩⟩
        · rw [if_neg hi] at h
          exact h.elim
      · rw [if_neg hs] at h
        have hs' : subX k2 c = false := by simpa using hs
        rw [hs'] at g2
        obtain ⟨C, q1, q2⟩ := h σ' F' H' A' st hp.1
        have : C = He.ga K (Str.ofString k2) := by
          rw [g1] at q1
          cases q1
          rfl
        subst this
        refine ⟨_, g1, ?_⟩
        match fs, hc.2.1, q2 with
        | [], _, q2 => exact ⟨false, g2, (fun z => by cases z), fun _ => q2⟩
        | [(f, d)], _, q2 => exact fun a v ha hr => ⟨false, g2, (fun z => by cases z), fun _ => q2 a v ha hr⟩
    · rw [if_neg hc] at h
      exact h.elim
end
end Rg
namespace Rg
open PySem PySem.Spec PyProof.Rows L2
structure XcK (K : PySem.W.Frag) (C : Addr) : Prop where
  keep : PySem.W.keepIn K (.ref C) = true
  sub : PySem.W.subIn K (.ref C) (.type "BaseException") = some true
  ty : PySem.W.typeIn K (.ref C) = some (.type "type")
  cl : (PySem.W.clsIn K C).isSome = true
  ga : PySem.W.findIn K (.ref C) "__getattribute__" = some (some (.builtin "BaseException.__getattribute__"))
  gt : PySem.W.findIn K (.ref C) "__getattr__" = some none
  ca : PySem.W.findIn K (.ref C) "__class__" = some (some (.builtin "object.__class__"))
  sp : PySem.W.specialIn K (.builtin "object.__class__") "__get__" = some (some (.builtin "getset_descriptor.__get__"))
  tk : PySem.W.takesIn K (.builtin "object.__class__") = some true
  mo : PySem.W.mroIn K C (.type "object") = some true
  hd : PySem.W.hasDictIn K C = true
def XDict (H : Hp) (d : Option Addr) : Prop := d = none ∨ ∃ dx fs, d = some dx ∧ H dx = some (.xd fs)
def rIsX (K : PySem.W.Frag) (a C : Addr) (d : Option Addr) : List V → Hp → VK → Prop := fun xs H Q => ∃ (c : V) (cv : Value) (b : Bool), xs = [.ref a, c] ∧ (∀ u, RelV c u → u = cv) ∧ PySem.W.kitOne K (.ref C) cv = some b ∧ XDict H d ∧ Q (.bl b) H
section
variable {X : Cx} {a C : Addr} {d : Option Addr} {oe : Obj}
theorem inst_at {pins : List (Addr × Obj)} {σ : L2.St} {H : Hp} {s : Shared} (hin : (a, oe) ∈ X.pn) (zn : L2N.Zn (.ref C) d oe) (hd : ∃ vs, oe.data = .fields vs) (I : Inv X pins σ H s) (hx : XDict H d) : ∃ od, PySem.W.InstAt s.heap a oe C od := by
  obtain ⟨ha, _⟩ := I.pin (a, oe) (List.mem_append_left _ hin)
  obtain ⟨vs, hv⟩ := hd
  have nc : PySem.W.notCls oe = true := by
    unfold PySem.W.notCls
    rw [hv] <;> rfl
  rcases hx with rfl | ⟨dx, fs, rfl, hf⟩
  · exact ⟨none, ha, zn.1, nc, by rw [zn.2.1]; trivial⟩
  · obtain ⟨o, ho⟩ := objOk_get (I.hok dx _ hf)
    exact ⟨some o, ha, zn.1, nc, by rw [zn.2.1]; exact ho⟩
theorem call_isX (T : XcK X.K C) (hin : (a, oe) ∈ X.pn) (zn : L2N.Zn (.ref C) d oe) (hd : ∃ vs, oe.data = .fields vs) : CallR X (.builtin "isinstance") (rIsX X.K a C d) := by
  intro pins s σ H xs us Q I r h
  obtain ⟨c, cv, b, rfl, hcv, e, hx, q⟩ := h
  obtain ⟨od, J⟩ := inst_at hin zn hd I hx
  cases r with
  | cons rx rr =>
    cases rr with
    | cons rt rr =>
      cases rr
      cases rx
      have ec := hcv _ rt
      subst ec
      exact PySem.W.kia_one (PySem.W.kitx_exc T.cl T.ga T.gt T.sub T.ca T.sp T.tk T.mo) I.kIn J e (fun z => nomatch z) fun tk => ⟨.bl b, H, I.kept (t' := tk) fun _ _ z => z, rfl, q⟩
theorem pe_attrX {e : Expr} {te : TE} {pos : Pos} {n : Str} (T : XcK X.K C) (hno : PySem.W.findIn X.K (.ref C) n = some none) (hin : (a, oe) ∈ X.pn) (zn : L2N.Zn (.ref C) d oe) (hd : ∃ vs, oe.data = .fields vs) (he : PE X e te) (hb : attributeBase e n X.env (eval e X.env) = eval e X.env) :
    PE X (.Attribute e n pos) (fun σ H Q => te σ H fun x H1 => x = .ref a ∧ ∃ (dx : Addr) (fs : List (Str × V)) (v : V), d = some dx ∧ H1 dx = some (.xd fs) ∧ fs.lookup n = some v ∧ Q v H1) := by
  constructor
  intro pins s σ H Q I h
  refine attr_of hb (thn (he.run pins s σ H _ I h) ?_)
  rintro u s1 ⟨x, H1, J, rx, rfl, dx, fs, v, rfl, hf, l, q⟩
  obtain rfl : u = Value.ref a := rx
  obtain ⟨ha, _⟩ := J.pin (a, oe) (List.mem_append_left _ hin)
  obtain ⟨vs, hv⟩ := hd
  have ok : ObjOk X.prog X.w H1 s1.heap dx (.xd fs) := J.hok dx _ hf
  obtain ⟨mA, ns, rel⟩ := ok
  obtain ⟨od, ho, hl⟩ := lookIn_ns ns
  obtain ⟨u, hu, ru⟩ := RelO.some_of (v := v) (o := mA n) (by rw [← l]; exact rel n)
  have nc : PySem.W.notCls oe = true := by
    unfold PySem.W.notCls
    rw [hv] <;> rfl
  have K1 : PySem.W.InstAt s1.heap a oe C (some od) := ⟨ha, zn.1, nc, by rw [zn.2.1]; exact ho⟩
  exact HandSPX.exc_get J.kIn K1 T.ga T.gt T.sub (PySem.W.findObj_own T.hd hno rfl (by rw [hl, hu])) (handed_of ru) ⟨v, H1, J.tok _, ru, q⟩
end
section
variable {K : PySem.W.Frag} {px : PX} {mg : Str → Option Value} {W : WX} {Γ : Env1} {σ : L2.St} {H : Hp} {Q : VK}
theorem de_isx {t : String} {cs : List String} {m : E} (h : DE ⟨K, px⟩ mg W Γ (.isx t cs m) σ H Q) : DE ⟨K, px⟩ mg W Γ m σ H fun v H1 => ∃ c a d, c ∈ cs ∧ v = .ref a ∧ px = some (a, .ref (He.ga K (Str.ofString c)), d) ∧ XDict H1 d ∧ Q (.bl (subX c t)) H1 := by
  obtain ⟨τ, F, A, L, sr, h⟩ := h
  refine ⟨τ, F, A, L, sr, ?_⟩
  simp only [ev] at h
  cases e : ev Γ m τ with
  | stuck => rw [e] at h; exact h
  | exc c fs => rw [e] at h; exact h
  | ok r =>
    rw [e] at h
    simp only [R.bind_ok] at h ⊢
    intro v F1 H1 A1 B p
    have pv := p.vr
    cases q : r.1 with
    | own g d0 => rw [q] at h; exact h.elim
    | slot j => rw [q] at h; exact h.elim
    | fz d0 =>
      rw [q] at h pv
      cases d0 with
      | exn c fn fd =>
        simp only at h
        by_cases hc : cs.contains c = true
        · rw [if_pos hc] at h
          obtain ⟨_, rp⟩ := pv
          unfold Rep at rp
          obtain ⟨a, o, vs, g1, g2, g3, g4⟩ := rp
          refine ⟨c, a, o, by simpa using hc, g1, g2, ?_, h _ F1 H1 A1 [] ⟨p.st, p.sr, ⟨rfl, by unfold Rep; rfl⟩, Ap.nil, fun _ z => (List.not_mem_nil z).elim⟩⟩
          rcases g4 with ⟨_, g4⟩ | ⟨dx, g4, g5⟩
          · exact .inl g4
          · exact .inr ⟨dx, _, g4, g5⟩
        · rw [if_neg hc] at h
          exact h.elim
      | _ => exact h.elim
theorem de_attr {f : Str} {cs : List String} {m : E} (h : DE ⟨K, px⟩ mg W Γ (.attr m f cs) σ H Q) : DE ⟨K, px⟩ mg W Γ m σ H fun v H1 => ∃ c a dx w, c ∈ cs ∧ v = .ref a ∧ px = some (a, .ref (He.ga K (Str.ofString c)), some dx) ∧ H1 dx = some (.xd [(f, w)]) ∧ Q w H1 := by
  obtain ⟨τ, F, A, L, sr, h⟩ := h
  refine ⟨τ, F, A, L, sr, ?_⟩
  simp only [ev] at h
  cases e : ev Γ m τ with
  | stuck => rw [e] at h; exact h
  | exc c fs => rw [e] at h; exact h
  | ok r =>
    rw [e] at h
    simp only [R.bind_ok] at h ⊢
    intro v F1 H1 A1 B p
    have pv := p.vr
    cases q : r.1 with
    | own g d0 => rw [q] at h; exact h.elim
    | slot j => rw [q] at h; exact h.elim
    | fz d0 =>
      rw [q] at h pv
      cases d0 with
      | exn c fn fd =>
        cases fn with
        | nil => exact h.elim
        | cons g fn =>
          cases fn with
          | cons _ _ => exact h.elim
          | nil =>
            cases fd with
            | nil => exact h.elim
            | cons d fd =>
              cases fd with
              | cons _ _ => exact h.elim
              | nil =>
                simp only at h
                by_cases hc : cs.contains c = true ∧ g = f ∧ imm d = true
                · rw [if_pos hc] at h
                  obtain ⟨h1, rfl, h3⟩ := hc
                  obtain ⟨_, rp⟩ := pv
                  unfold Rep at rp
                  obtain ⟨a, o, vs, g1, g2, g3, g4⟩ := rp
                  rcases g4 with ⟨g4, _⟩ | ⟨dx, g4, g5⟩
                  · cases g4
                  · obtain ⟨w, rw_, rfl, g6, g7⟩ := g3.uncons
                    rw [g7.unnil] at g5
                    subst g4
                    exact ⟨c, a, dx, w, by simpa using h1, g1, g2, g5, h w F1 H1 A1 [] ⟨p.st, p.sr, ⟨rfl, g6⟩, Ap.nil, fun _ z => (List.not_mem_nil z).elim⟩⟩
                · rw [if_neg hc] at h
                  exact h.elim
      | _ => exact h.elim
end
end Rg
namespace Rg
open PySem PySem.Spec PyProof.Rows L2
def spI (C : Addr) (f : Str) : Sp := fun vs H Q _ => ∃ (a : Addr) (y : V), vs = [.ref a, y] ∧ H a = some (exo a C none) ∧ ∀ dx, H dx = none → dx ≠ a → Q .non (upd (upd H dx (exd dx [(f, y)])) a (exo a C (some dx)))
section
variable {X : Cx} {e : Expr} {es : List Expr} {ta : TA} {p p1 p2 pos : Pos}
theorem pmk_init {x f : Str} {C fI : Addr} {k : Nat} {fd : FuncData} {ps : List Str} (T : OexC X.K C) (iC : PySem.W.findIn X.K (.ref C) "__init__" = some (some (.ref fI))) (tI : PySem.W.typeIn X.K (.ref fI) = some (.type "function"))
    (F1 : FnOk X.prog X.w X.K X.mg X.base (L2N.CX X.prog X.w) k fI fd ps (spI C f)) (hr : Room (k + 1) X.A) (hb : Binds X.K fd ps []) (hx : Passes (L2N.CX X.prog X.w) X (fun _ _ _ => False)) (hg : Gl X x) (hm : X.mg x = some (.ref C)) (ha : PA X (e :: es) ta)
    (hdb : (x == ("__debug__" : Str)) = false) (he : starEach (e :: es) X.env = (false, eval e X.env) :: starEach es X.env) (hpl : (backTo pos (starEach es X.env)).any (·.1) = false) :
    L2N.PMk X (.Call (.Name x p) (e :: es) [] pos) (fun σ H Q => ta σ H fun vs H1 => ∃ y, vs = [y] ∧ ∀ d, H1 d = none → Q (.ref C) (some d) (upd H1 d (.xd [(f, y)]))) := by
  intro pins s σ H Q I h
  obtain ⟨nm, q, N, bs, bm, sn, sub, ab, col, dd, k0, k1, k2, k3, k5, hC, hbm⟩ := T.cls
  refine wpAny_Call_Name_kw (ld_glob I hg hm ?_ hdb)
  refine PySem.W.callWith_K (h₀ := X.base) I.ok.mod.kin T.kC (thn (ha.run pos pins s σ H _ I h) ?_) he hpl
  rintro us s1 ⟨vs, H1, J, rel, y, rfl, want⟩
  refine ⟨J.kIn, ?_⟩
  show wpAny _ _ (call (.ref C) us) _ _ _
  obtain ⟨hp, g, dr, tk, os⟩ := s1
  generalize hn0 : hp.objs.size + 1 = new
  have hle : hp.objs.size ≤ new := by omega
  have fresh : H1 new = none := J.hok.fresh hle
  have keep : ∀ b o, hp.get? b = some o → ((hp.push (PySem.W.kdv_tup us)).push (PySem.HandSPX.excO C hp.objs.size)).get? b = some o := fun b o z => Heap.get?_push_of_some _ (Heap.get?_push_of_some _ z)
  have got : ((hp.push (PySem.W.kdv_tup us)).push (PySem.HandSPX.excO C hp.objs.size)).get? new = some (PySem.HandSPX.excO C hp.objs.size) := by
    subst hn0
    heap_get
  have J2 : Inv X pins σ (upd H1 new (exo new C none)) ⟨(hp.push (PySem.W.kdv_tup us)).push (PySem.HandSPX.excO C hp.objs.size), g, dr, tk, os⟩ :=
    J.laid (t' := tk) (a := new) (o := exo new C none) (h' := (hp.push (PySem.W.kdv_tup us)).push (PySem.HandSPX.excO C hp.objs.size)) keep hle (exo_ok got)
  have rel2 : Vals [V.ref new, y] (Value.ref new :: us) := .cons rfl rel
  have sp : spI C f [.ref new, y] (upd H1 new (exo new C none)) (fun v H2 => v = .non ∧ ∃ dx, H1 dx = none ∧ dx ≠ new ∧ H2 = upd (upd (upd H1 new (exo new C none)) dx (exd dx [(f, y)])) new (exo new C (some dx))) (fun _ _ _ => False) := by
    refine ⟨new, y, rfl, upd_same, fun dx h1 h2 => ⟨rfl, dx, ?_, h2, rfl⟩⟩
    rw [upd_ne h2] at h1
    exact h1
  have len2 : (Value.ref new :: us).length = ps.length := by
    rw [← rel2.length]
    exact F1.len _ _ _ _ sp
  have bnd := hb ⟨(hp.push (PySem.W.kdv_tup us)).push (PySem.HandSPX.excO C hp.objs.size), g, dr, tk, os⟩ (Value.ref new :: us) J2.kIn (by rw [List.append_nil]; exact len2)
  rw [List.append_nil] at bnd
  have few : us.length ≤ sizeLine := by
    rw [← Paired.length rel, sizeLine_eq]
    show 1 ≤ _
    omega
  subst hn0
  refine wpAny_call (PySem.HandSPX.call_own F.excBase_ValueError (fun Y => PySem.HandSPX.refsVE_contains Y bm hbm) (J.kIn _ _ hC) (PySem.W.looks_findIn J.kIn iC) (fun self => PySem.W.bind_fn J.kIn self tI) few
    (codeAny_mono (F1.run _ X.stack _ _ ⟨Value.ref (hp.objs.size + 1) :: us, []⟩ (Value.ref (hp.objs.size + 1) :: us) _ _ (fun _ _ _ => False) (hr.make C us []) (J2.env0.make C us []) bnd rel2 sp) ?_))
  intro r s' out
  match r, out with
  | .error er, out => exact hx pins σ _ _ er s' J2 out
  | .ok (.ret u), out =>
    obtain ⟨v, H2, os2, bare2, un2, hok2, rv, rfl, dx, e1, e2, rfl⟩ := out
    obtain ⟨h2, g2, d2, t2, os'⟩ := s'
    refine ⟨rv, ?_⟩
    have ea : (upd (upd (upd H1 (hp.objs.size + 1) (exo (hp.objs.size + 1) C none)) dx (exd dx [(f, y)])) (hp.objs.size + 1) (exo (hp.objs.size + 1) C (some dx))) (hp.objs.size + 1) = some (exo (hp.objs.size + 1) C (some dx)) := upd_same
    have ed : (upd (upd (upd H1 (hp.objs.size + 1) (exo (hp.objs.size + 1) C none)) dx (exd dx [(f, y)])) (hp.objs.size + 1) (exo (hp.objs.size + 1) C (some dx))) dx = some (exd dx [(f, y)]) := by
      rw [upd_ne e2, upd_same]
    obtain ⟨t0, G, JG, kG, gn, hoe, na⟩ := mk_end0 (d2 := d2) (t2 := t2) J hle keep un2 hok2 os2 bare2 ea ed e1
    have eH : upd (del (upd (upd (upd H1 (hp.objs.size + 1) (exo (hp.objs.size + 1) C none)) dx (exd dx [(f, y)])) (hp.objs.size + 1) (exo (hp.objs.size + 1) C (some dx))) (hp.objs.size + 1)) dx (.xd [(f, y)]) = upd H1 dx (.xd [(f, y)]) := by
      funext b
      by_cases h1 : b = dx
      · rw [h1, upd_same, upd_same]
      · rw [upd_ne h1, upd_ne h1]
        by_cases h2 : b = hp.objs.size + 1
        · rw [h2, del_same, fresh]
        · rw [del_ne h2, upd_ne h2, upd_ne h1, upd_ne h2]
    rw [eH] at JG na
    exact ⟨_, _, _, ⟨G, g2, d2, t2, os'⟩, _, .ref C, some dx, rfl, JG, kG, gn, hoe, ⟨rfl, rfl, fun ws ew => by cases ew; rfl⟩, rfl, rfl, na, rfl, bare2, raises_own T.exC T.tyC, want dx e1⟩
end
end Rg
namespace Rg
open PySem PySem.Spec PyProof.Rows L2 HotX
section
variable {prog : Program} {w : World} {A : Around} {E : Value → Shared → Prop} {s : Shared}
theorem list_end_hot {it l x1 : Addr} {i : Nat} {items : Array Value} {o1 : Obj} {vs1 : Array Value} {Q : Option Value → Shared → Prop} (hh : A.handled = some (.ref x1)) (h1 : s.heap.get? x1 = some o1) (d1 : o1.data = .fields vs1) (c1 : vs1[2]? = some .none) (hxi : x1 ≠ it)
    (hit : s.heap.IsListIter it l i) (hl : s.heap.IsList l items) (hx : items[i]? = none)
    (hQ : ∀ h', Heap.ExtBut it s.heap h' → Q none { s with heap := h' }) : wpAny (model prog w) A (pyNext (.ref it)) Q E s := by
  have hT := hit.typeIs
  obtain ⟨o, ho, hc, hd⟩ := id hit
  obtain ⟨ol, hol, _, nl, hdl⟩ := hl
  unfold pyNext
  refine wpAny_bind (wpAny_attempt (wpAny_callSpecial?_slot (name := Str.ofString "__next__") hT slot_listiter_next (wpAny_call_entry slot_listiter_next hT entry_listiter_next ?_ (args_listiter_next _))))
  show wpAny _ _ (field (.ref it) 0 >>= _) _ _ s
  refine wpAny_bind (wpAny_field ho hd (x := .ref l) rfl ?_)
  show wpAny _ _ (if (Value.ref l == Value.none) = true then _ else _) _ _ s
  rw [if_neg (by intro z; exact absurd (show (false : Bool) = true from z) Bool.false_ne_true)]
  show wpAny _ _ (field (.ref it) 1 >>= _) _ _ s
  refine wpAny_bind (wpAny_field ho hd (x := .int i 0) rfl ?_)
  show wpAny _ _ (seqItems? (.ref l) >>= _) _ _ s
  refine wpAny_bind (wpAny_seqItems hol hdl ?_)
  simp only [Int.toNat_natCast, hx]
  refine wpAny_bind (wpAny_rule (wpAny_bind (wpAny_setField ho hd (by simp) ?_)))
  show wpAny _ _ (newExc (.type "StopIteration") [] >>= _) _ _ _
  refine wpAny_bind ?_
  simp only [newExc, newTuple]
  refine wpAny_bind (wpAny_newObj_type ?_ (by size_fits))
  refine wpAny_bind (m := firstArgMember _ _) (wpAny_of_eq (a := Value.none) (by first | rfl | (simp only [firstArgMember]; rfl)) ?_)
  refine wpAny_newObj_type ?_ (by size_fits)
  have k1 : (s.heap.update it (Obj.mapFields (·.setIfInBounds 0 .none))).get? x1 = some o1 := (Heap.get?_update_other _ _ (Ne.symm hxi)).trans h1
  refine raiseNew_hot ⟨hh, o1, vs1, Heap.get?_push_of_some _ (Heap.get?_push_of_some _ k1), d1, c1⟩ (Nat.ne_of_lt (Heap.lt_size (Heap.get?_push_of_some _ k1))) (Heap.get?_push_size _ rfl) rfl (by first | (simp; done) | (simp; omega) | (simp only [Array.size_append]; simp; omega)) ?_
  refine wpAny_bind (wpAny_isInstance (T := "StopIteration") (b := true) ⟨_, Heap.get?_update_self _ (Heap.get?_push_size _ rfl) rfl, rfl⟩ isSubtype_stop ?_)
  refine wpAny_pure (hQ _ fun b u hb e => ?_)
  have e0 : (s.heap.update it (Obj.mapFields (·.setIfInBounds 0 .none))).get? b = some u := (Heap.get?_update_other _ _ (Ne.symm hb)).trans e
  rw [Heap.get?_update_other _ _ (Nat.ne_of_gt (Heap.lt_size (Heap.get?_push_of_some _ e0)))]
  exact Heap.get?_push_of_some _ (Heap.get?_push_of_some _ e0)
theorem walks_hot {x1 : Addr} {o1 : Obj} {vs1 : Array Value} (hh : A.handled = some (.ref x1)) (d1 : o1.data = .fields vs1) (c1 : vs1[2]? = some .none) (I ax : Addr) (hne : ax ≠ I) (hx : x1 ≠ I) (items : Array Value) :
    Walks prog w A I [I, ax, x1] [I] items.size (fun i v => items[i]? = some v) (fun i h => h.IsListIter I ax i ∧ h.IsList ax items ∧ h.get? x1 = some o1) where
  sub := fun b hb => by simp at hb; simp [hb]
  frame := fun _ _ _ st hk => ⟨st.1.at fun o e => hk I (by simp) o e, st.2.1.at fun o e => hk ax (by simp) o e, hk x1 (by simp) _ st.2.2⟩
  item := fun i s Q E hi st hQ => by
    refine wpAny_pyNext_list_item st.1 st.2.1 (x := items[i]) (by simp [hi]) fun h' hit' hs' => ?_
    exact hQ _ h' s.toks (by simp [hi]) ⟨hit', st.2.1.extBut hs'.extBut hne, hs'.extBut x1 _ hx st.2.2⟩ fun b o hb e => hs'.extBut b o (fun h => hb (by simp [h])) e
  done := fun s Q E st hQ => list_end_hot hh st.2.2 d1 c1 hx st.1 st.2.1 (by simp) fun h' he' => hQ h' s.toks fun b o hb e => he' b o (fun h => hb (by simp [h])) e
  self := fun _ _ _ _ st hQ => wpAny_pyIter_listiter st.1 hQ
end
theorem cr_anyHot {X : Cx} {a0 : Addr} {oe : Obj} {cls : Value} {d : Option Addr} (hin : (a0, oe) ∈ X.pn) (zn : L2N.Zn cls d oe) (hd : ∃ vs, oe.data = .fields vs) (hh : X.A.handled = some (.ref a0)) : CallR X (.builtin "any") (rAny X.K) := by
  intro pins s σ H vs us Q I r h
  obtain ⟨a, bs, rfl, hs, q⟩ := h
  obtain ⟨its, rv, hl, _⟩ := I.list hs
  obtain ⟨ws, hw⟩ := hd
  have c1 := zn.2.2 ws hw
  obtain ⟨ha, _⟩ := I.pin (a0, oe) (List.mem_append_left _ hin)
  rw [Vals.ref1 r]
  have hb := rv.bls
  refine call_any_walk (iter_any hl.isList fun s₂ e2 st hne => ?_)
  subst e2
  have hx : a0 ≠ s.heap.objs.size := Nat.ne_of_lt (Heap.lt_size ha)
  refine ⟨_, _, _, _, _, _, _, rfl, walks_hot (A := X.A.in1) hh hw c1 _ a hne hx its.toArray, ⟨st.1, st.2, Heap.get?_push_of_some _ ha⟩, truth_bools hb, fun h' tk hk => ?_⟩
  refine ⟨.bl _, H, I.kept fun b o eo => hk b o (fun hmem => ?_) (Heap.get?_push_of_some _ eo), ?_, q⟩
  · rcases List.mem_cons.mp hmem with e1 | hmem
    · exact absurd (e1 ▸ Heap.lt_size eo) (Nat.lt_irrefl _)
    · cases hmem
  · show Value.bool _ = Value.bool _
    rw [← L2.any_range, hb, List.size_toArray, List.length_map]
end Rg
namespace Rg
open PySem L2
def FnIn (X : Cx) (x : Str) (f : Fn) : Prop := ∃ a fd ps, X.mg x = some (.ref a) ∧ PySem.W.keepIn X.K (.ref a) = true ∧ Binds X.K fd ps [] ∧ FnOk X.prog X.w X.K X.mg X.base (L2N.CX X.prog X.w) f.lv a fd ps (spOf ⟨X.K, none⟩ X.mg f) ∧ Room f.lv X.A
def HotIn (X : Cx) (x : Str) (f : Fn) : Prop := ∃ a fd ps, X.mg x = some (.ref a) ∧ PySem.W.keepIn X.K (.ref a) = true ∧ Binds X.K fd ps [] ∧ FnQ X.prog X.w X.K X.mg X.base f.lv a fd ps (fun px => spOf ⟨X.K, px⟩ X.mg f) ∧ L2H.RoomH f.lv X.A
def clsV (K : PySem.W.Frag) (t : String) : Value := if t = "ValueError" then .type "ValueError" else .ref (He.ga K (Str.ofString t))
structure XcIn (K : PySem.W.Frag) (mg : Str → Option Value) (xc xt : List String) : Prop where
  g : ∀ n ∈ xc, mg (Str.ofString n) = some (.ref (He.ga K (Str.ofString n)))
  k : ∀ n ∈ xc, XcK K (He.ga K (Str.ofString n))
  n : ∀ t ∈ xt, (t = "ValueError" ∧ mg (Str.ofString t) = none) ∨ (t ≠ "ValueError" ∧ mg (Str.ofString t) = some (.ref (He.ga K (Str.ofString t))))
  is : ∀ n ∈ xc, ∀ t ∈ xt, PySem.W.kitOne K (.ref (He.ga K (Str.ofString n))) (clsV K t) = some (subX n t)
  ex : ∀ n ∈ xc, ∀ t ∈ xt, PySem.W.exmOne K (.ref (He.ga K (Str.ofString n))) (clsV K t) = some (subX n t)
def XiK (P : Program) (w : World) (K : PySem.W.Frag) (mg : Str → Option Value) (base : Heap) (n : String) (f : Str) : Prop := mg (Str.ofString n) = some (.ref (He.ga K (Str.ofString n))) ∧ OexC K (He.ga K (Str.ofString n)) ∧ PySem.W.findIn K (.ref (He.ga K (Str.ofString n))) f = some none ∧
  ∃ fI fd ps, PySem.W.findIn K (.ref (He.ga K (Str.ofString n))) "__init__" = some (some (.ref fI)) ∧ PySem.W.typeIn K (.ref fI) = some (.type "function") ∧ Binds K fd ps [] ∧ FnOk P w K mg base (L2N.CX P w) 1 fI fd ps (spI (He.ga K (Str.ofString n)) f)
def XrK (K : PySem.W.Frag) (mg : Str → Option Value) (n : String) : Prop := mg (Str.ofString n) = some (.ref (He.ga K (Str.ofString n))) ∧ PySem.W.excIn K (He.ga K (Str.ofString n)) He.veBase "ValueError.__new__" = true ∧ PySem.W.keepIn K (.ref (He.ga K (Str.ofString n))) = true ∧ PySem.W.subIn K (.ref (He.ga K (Str.ofString n))) (.type "BaseException") = some true ∧ PySem.W.typeIn K (.ref (He.ga K (Str.ofString n))) = some (.type "type")
structure Xc where
  xc : List String
  xt : List String
  xr : List String
  xi : List (String × Str)
  hq : List Str
def Xc.no : Xc := ⟨[], [], [], [], []⟩
structure Cf where
  N : List Str
  sc : Scope
  st : List Str
  Γ : Env1
  GL : List (Str × D)
  fr : List Str
  hot : Bool
  x : Xc
structure Cxt (X : Cx) (W : WX) (px : PX) (c : Cf) : Prop where
  hN : X.N = c.N
  nd : c.N.Nodup
  hsc : X.env.scope = c.sc
  fk : c.sc.kind = .function
  calm : c.hot = false → X.calm = true
  sto : ∀ x, x ∈ c.st → (c.sc.names.lookup x = some .local ∨ c.sc.names.lookup x = some .cell) ∧ (X.fn x = true ∨ c.sc.names.lookup x = some .local)
  fns : c.hot = false → ∀ (k : Nat) (x : Str) (f : Fn), c.Γ[k]? = some (x, f) → FnIn X x f
  hfn : ∀ (k : Nat) (x : Str) (f : Fn), c.Γ[k]? = some (x, f) → x ∈ c.x.hq → HotIn X x f
  gl : ∀ x d, (x, d) ∈ c.GL → ∃ u v, X.mg x = some u ∧ RelV v u ∧ ∀ px F H, Rep ⟨X.K, px⟩ F H d v
  fr : ∀ x, x ∈ c.fr → X.mg x = none
  un : X.A.units + 70 < cLine
  tk : L2N.Takes X W
  cold : c.hot = false → px = none
  hotx : c.hot = true → ∃ a cls d oe, px = some (a, cls, d) ∧ (a, oe) ∈ X.pn ∧ L2N.Zn cls d oe ∧ (∃ vs, oe.data = .fields vs) ∧ X.A.handled = some (.ref a)
  xin : XcIn X.K X.mg c.x.xc c.x.xt
  xr : ∀ n ∈ c.x.xr, XrK X.K X.mg n
  xi : ∀ n f, (n, f) ∈ c.x.xi → XiK X.prog X.w X.K X.mg X.base n f ∧ (c.hot = false → Room 2 X.A)
def visB (sc : Scope) (x : Str) : Bool := match sc.names.lookup x with
  | some .local => true
  | some .cell => true
  | some .free => true
  | _ => false
def glB (sc : Scope) (x : Str) : Bool := match sc.names.lookup x with
  | some .globalImplicit => true
  | _ => false
section
variable {X : Cx} {W : WX} {px : PX} {c : Cf}
theorem Cxt.vis (k : Cxt X W px c) {x : Str} (h : visB c.sc x = true) : Vis X.env.scope x := by
  rw [k.hsc]
  unfold visB at h
  split at h
  · exact .inl (by assumption)
  · exact .inr (.inl (by assumption))
  · exact .inr (.inr (by assumption))
  · cases h
theorem Cxt.glo (k : Cxt X W px c) {x : Str} (h : glB c.sc x = true) : Gl X x := by
  show X.env.scope.names.lookup x = _
  rw [k.hsc]
  unfold glB at h
  split at h
  · assumption
  · cases h
theorem Cxt.loc (k : Cxt X W px c) {x : Str} (h : x ∈ c.st) : L2.Loc X.env.scope x := by
  rw [k.hsc]
  exact (k.sto x h).1
theorem Cxt.fnl (k : Cxt X W px c) {x : Str} (h : x ∈ c.st) : X.fn x = true ∨ X.env.scope.names.lookup x = some .local := by
  rw [k.hsc]
  exact (k.sto x h).2
end
def isStar : Expr → Bool
  | .Starred _ _ => true
  | _ => false
def isComp : Expr → Bool
  | .ListComp _ _ _ _ => true
  | .SetComp _ _ _ _ => true
  | .DictComp _ _ _ _ _ => true
  | _ => false
def isSet : Expr → Bool
  | .Set _ _ _ => true
  | _ => false
def isSlice : Expr → Bool
  | .Slice _ _ _ _ => true
  | _ => false
def isTup : Expr → Bool
  | .Tuple _ _ _ => true
  | _ => false
def plainT : Expr → Bool
  | .UnaryOp .Not _ _ => false
  | .BoolOp _ _ _ => false
  | .IfExp _ _ _ _ => false
  | .Compare _ _ _ _ => false
  | _ => true
theorem star_cons {e : Expr} (es : List Expr) (env : Env) (h : isStar e = false) : starEach (e :: es) env = (false, eval e env) :: starEach es env := by
  cases e <;> first | rfl | cases h
theorem star_any (pos : Pos) (env : Env) : ∀ {es : List Expr}, es.any isStar = false → (backTo pos (starEach es env)).any (·.1) = false
  | [], _ => rfl
  | e :: es, h => by
    simp only [List.any_cons, Bool.or_eq_false_iff] at h
    rw [star_cons es env h.1]
    have := star_any pos env h.2
    unfold backTo at this ⊢
    simpa using this
theorem star_all (pos : Pos) (env : Env) : ∀ {es : List Expr}, es.any isStar = false → (backTo pos (starEach es env)).all (fun x => !x.1) = true
  | [], _ => rfl
  | e :: es, h => by
    simp only [List.any_cons, Bool.or_eq_false_iff] at h
    rw [star_cons es env h.1]
    have := star_all pos env h.2
    unfold backTo at this ⊢
    simpa using this
theorem folded_no {e : Expr} (h : isSet e = false) (env : Env) (x : Value) : foldedSetIterable e env x = pure x := by
  cases e <;> first | rfl | cases h
theorem swap_no {e : Expr} (h : isComp e = false) (t : Option Expr) (l : Nat) (env : Env) : swapsWith e t l env = pure false := by
  cases e <;> first | rfl | cases h
theorem plain_ix {e : Expr} (h : isSlice e = false) : PlainIx e := by
  intro o i
  cases e <;> first | rfl | cases h
theorem plain_test {e : Expr} (h : plainT e = true) (env : Env) (whole : Sem Value) : isTrue e env whole = (do let v ← whole; standAt e.pos; holding [v] (truthy v)) := by
  cases e with
  | UnaryOp op a p => cases op <;> first | rfl | cases h
  | BoolOp _ _ _ => cases h
  | IfExp _ _ _ _ => cases h
  | Compare _ _ _ _ => cases h
  | _ => rfl
theorem swapped_no {t e : Expr} (h : isTup e = false) (env : Env) : swappedStores [t] e env = pure none := by
  unfold swappedStores
  cases e <;> first | (cases t <;> rfl) | cases h
def binOp : Prim → Option Operator
  | .add => some .Add
  | .sub => some .Sub
  | .mul => some .Mult
  | .fdiv => some .FloorDiv
  | .mod => some .Mod
  | .pow => some .Pow
  | _ => none
theorem bin_rule {X : Cx} {px : PX} {p : Prim} {op : Operator} (h : binOp p = some op) : ∃ r, OpR X (binaryOp op) r ∧ PrimOk ⟨X.K, px⟩ p (l2 r) := by
  cases p <;> cases h
  · exact ⟨_, op_addA, ok_add⟩
  · exact ⟨_, op_sub, ok_sub⟩
  · exact ⟨_, op_mulA, ok_mul⟩
  · exact ⟨_, op_divA, ok_fdiv⟩
  · exact ⟨_, op_modA, ok_mod⟩
  · exact ⟨_, op_pow, ok_pow⟩
def cmpOp : Prim → Option CmpOp
  | .lt => some .Lt
  | .le => some .LtE
  | .gt => some .Gt
  | .ge => some .GtE
  | .eq => some .Eq
  | .ne => some .NotEq
  | .isN => some .Is
  | .notN => some .IsNot
  | .isB => some .Is
  | .notB => some .IsNot
  | .inn => some .In
  | .nin => some .NotIn
  | _ => none
theorem cmp_rule {X : Cx} {W : WX} {px : PX} {c : Cf} (k : Cxt X W px c) {p : Prim} {op : CmpOp} (h : cmpOp p = some op) : ∃ r, OpR X (compareOp op) r ∧ PrimOk ⟨X.K, px⟩ p (l2 r) := by
  have u := k.un
  cases p <;> cases h
  · exact ⟨_, op_lt, ok_lt⟩
  · exact ⟨_, op_le, ok_le⟩
  · exact ⟨_, op_gt, ok_gt⟩
  · exact ⟨_, op_ge, ok_ge⟩
  · exact ⟨_, op_eqA (by omega), ok_eq⟩
  · exact ⟨_, op_neA (by omega), ok_ne⟩
  · exact ⟨_, op_isN, ok_isN⟩
  · exact ⟨_, op_notN, ok_notN⟩
  · exact ⟨_, op_is_bl, ok_isB⟩
  · exact ⟨_, op_isnot_bl, ok_notB⟩
  · exact ⟨_, op_inA (by omega), ok_inn⟩
  · exact ⟨_, op_notInA (by omega), ok_nin⟩
def biOf : Prim → Option (String × Bool)
  | .len => some ("len", false)
  | .min2 => some ("min", false)
  | .max2 => some ("max", false)
  | .minL => some ("min", false)
  | .maxL => some ("max", false)
  | .abs => some ("abs", false)
  | .sum => some ("sum", false)
  | .sorted => some ("sorted", false)
  | .tup => some ("tuple", true)
  | .list => some ("list", true)
  | .intOf => some ("int", true)
  | .strOf => some ("str", true)
  | .anyB => some ("any", false)
  | .allB => some ("all", false)
  | _ => none
theorem bi_rule {X : Cx} {W : WX} {px : PX} {c : Cf} (k : Cxt X W px c) (hc : c.hot = false) {p : Prim} {n : String} (h : biOf p = some (n, false)) : ∃ r, CallR X (.builtin n) r ∧ PrimOk ⟨X.K, px⟩ p r ∧ bootBuiltins (Str.ofString n) = some (.builtin n) ∧ Str.ofString n ≠ "__name__" ∧ (Str.ofString n == ("__debug__" : Str)) = false := by
  cases p <;> cases h
  · exact ⟨_, call_lenA, ok_len, by decide +kernel, by decide +kernel, by decide +kernel⟩
  · exact ⟨_, call_min2 (k.calm hc), ok_min2, by decide +kernel, by decide +kernel, by decide +kernel⟩
  · exact ⟨_, call_max2 (k.calm hc), ok_max2, by decide +kernel, by decide +kernel, by decide +kernel⟩
  · exact ⟨_, call_abs, ok_abs, by decide +kernel, by decide +kernel, by decide +kernel⟩
  · exact ⟨_, cr_sum (k.calm hc), ok_sum, by decide +kernel, by decide +kernel, by decide +kernel⟩
  · exact ⟨_, cr_minA (k.calm hc) (by have := k.un; omega), ok_minL, by decide +kernel, by decide +kernel, by decide +kernel⟩
  · exact ⟨_, cr_maxA (k.calm hc) (by have := k.un; omega), ok_maxL, by decide +kernel, by decide +kernel, by decide +kernel⟩
  · exact ⟨_, cr_sortA (k.calm hc) (by have := k.un; omega), ok_sortedA, by decide +kernel, by decide +kernel, by decide +kernel⟩
  · exact ⟨_, cr_any (k.calm hc), ok_anyB, by decide +kernel, by decide +kernel, by decide +kernel⟩
  · exact ⟨_, cr_all (k.calm hc), ok_allB, by decide +kernel, by decide +kernel, by decide +kernel⟩
theorem ty_rule {X : Cx} {W : WX} {px : PX} {c : Cf} (k : Cxt X W px c) (hc : c.hot = false) {p : Prim} {n : String} (h : biOf p = some (n, true)) : ∃ r, CallR X (.type n) r ∧ PrimOk ⟨X.K, px⟩ p r ∧ bootBuiltins (Str.ofString n) = some (.type n) ∧ Str.ofString n ≠ "__name__" ∧ (Str.ofString n == ("__debug__" : Str)) = false := by
  cases p <;> cases h
  · exact ⟨_, call_tuple_of, ok_tup, by decide +kernel, by decide +kernel, by decide +kernel⟩
  · exact ⟨_, cr_listA (k.calm hc), ok_listA, by decide +kernel, by decide +kernel, by decide +kernel⟩
  · exact ⟨_, cr_intA, ok_intOf, by decide +kernel, by decide +kernel, by decide +kernel⟩
  · exact ⟨_, call_str_int, ok_strOf, by decide +kernel, by decide +kernel, by decide +kernel⟩
end Rg
namespace Rg
open PySem PySem.Spec PyProof.Rows L2 RT
section
variable {prog : Program} {w : World} {A : Around} {E : Value → Shared → Prop} {s : Shared}
theorem extend_rev {R : Result → Shared → Prop} (hh : A.handled = none) {it l : Addr} {items : Array Value} (hit : s.heap.IsRevIter it l ((items.size : Int) - 1)) (hl : s.heap.IsList l items) (hne : l ≠ it) (hn : items.size ≤ sizeLine) (S : Addr) (hSi : S ≠ it) (hSl : S ≠ l) (res : Value) (c₀ : Nat) (hS : s.heap.get? S = some { cls := .type "list", data := .seq #[] c₀ })
    (hR : ∀ h' tk acc' c', (∀ b o, b ≠ S → b ≠ it → s.heap.get? b = some o → h'.get? b = some o) → h'.get? S = some { cls := .type "list", dict := none, data := .seq acc' c', slots := #[] } →
      ItemsOf (fun i v => items[items.size - 1 - i]? = some v) acc' items.size → R (.ok (.ret res)) { s with heap := h', toks := tk }) :
    wpAny (model prog w) A.in1 (Builtin.List.listExtendWith (.ref S) (.ref it) res)
      (fun fin s' => match fin with | .done f => R (.ok f) s' | .again c' => c'.quiet = true ∧ codeAny (model prog w) A c' R s') (fun e s' => R (.error e) s') s := by
  have W := (Walks.listRev (prog := prog) (w := w) (A := A.in1) hh it l hne items).toS
  have hSf : S ∉ [it, l] := by simp only [List.mem_cons, List.not_mem_nil, or_false, not_or]; exact ⟨hSi, hSl⟩
  have hT : s.TypeIs (.ref it) "list_reverseiterator" := Heap.IsRevIter.typeIs (s := s) hit
  have h1 : Builtin.List.listSameRef (.ref S) (.ref it) = false := by simp [Builtin.List.listSameRef, hSi]
  unfold Builtin.List.listExtendWith
  refine wpAny_bind (wpAny_typeOf hT ?_)
  rw [if_neg (by rw [h1]; decide)]
  refine wpAny_bind (wpAny_pyIter_revIter (s := s) hit ?_)
  refine wpAny_bind (wpAny_holding ?_)
  unfold Builtin.List.listLengthHint
  refine wpAny_bind (wpAny_specialOf hT nolen_lri ?_)
  show wpAny _ A.in1 (specialOf (Value.ref it) (Str.ofString "__length_hint__") >>= _) _ _ _
  refine wpAny_bind (wpAny_specialOf hT hint_lri ?_)
  generalize hid : ("list_reverseiterator.__length_hint__" : String) = id0
  wp_delta
  rw [show splitId id0 = some ("list_reverseiterator", "__length_hint__") from by subst hid; decide +kernel]
  subst hid
  refine wpAny_bind (wpAny_isInstance (b := true) hT (by rw [isSubtype_type]; kernel_rfl) ?_)
  refine wpAny_pure ?_
  rw [if_neg (by decide)]
  have e0 : ((items.size : Nat) : Int) - 1 - ((0 : Nat) : Int) = (items.size : Int) - 1 := by omega
  refine wpAny_pure ⟨plainId_quiet F.plain_extend_loop _, codeAny_extend_loopS W hn _ hSf _ items.size 0 _ _ _ rfl (Nat.zero_le _) ⟨Nat.zero_le _, by rw [e0]; exact hit, hl⟩ hS (ItemsOf.nil _) fun s' acc' c' hm hS' hacc => ?_⟩
  rw [Moved.eq_with hm]
  refine hR s'.heap s'.toks acc' c' (fun b o hb hb2 e => hm.heap b o (fun hmem => ?_) e) hS' hacc
  rcases List.mem_cons.mp hmem with e' | hmem
  · exact hb e'
  · exact hb2 (List.mem_singleton.mp hmem)
theorem list_init_rev {R : Result → Shared → Prop} (hh : A.handled = none) {it l : Addr} {items : Array Value} (hit : s.heap.IsRevIter it l ((items.size : Int) - 1)) (hl : s.heap.IsList l items) (hne : l ≠ it) (hn : items.size ≤ sizeLine) (S : Addr) (hSi : S ≠ it) (hSl : S ≠ l) (hS : s.heap.get? S = some { cls := .type "list", data := .seq #[] })
    (hR : ∀ h' tk acc' c', (∀ b o, b ≠ S → b ≠ it → s.heap.get? b = some o → h'.get? b = some o) → h'.get? S = some { cls := .type "list", dict := none, data := .seq acc' c', slots := #[] } →
      ItemsOf (fun i v => items[items.size - 1 - i]? = some v) acc' items.size → R (.ok (.ret .none)) { s with heap := h', toks := tk }) :
    wpAny (model prog w) A.in1 (Builtin.«list.__init__» ⟨[.ref S, .ref it], []⟩)
      (fun fin s' => match fin with | .done f => R (.ok f) s' | .again c' => c'.quiet = true ∧ codeAny (model prog w) A c' R s') (fun e s' => R (.error e) s') s := by
  show wpAny _ _ (do let old ← Builtin.List.listItems (.ref S); Builtin.List.listUpdate (.ref S) (fun _ => #[]); letGo old.toList.reverse; Builtin.List.listExtendWith (.ref S) (.ref it) .none) _ _ s
  refine wpAny_bind ?_
  unfold Builtin.List.listItems
  refine wpAny_bind (wpAny_seqItems hS rfl (wpAny_pure ?_))
  show wpAny _ _ (updateSeq S (fun _ => #[]) >>= fun _ => letGo (#[] : Array Value).toList.reverse >>= fun _ => Builtin.List.listExtendWith (.ref S) (.ref it) .none) _ _ s
  refine wpAny_bind (wpAny_updateSeq hS rfl ?_)
  have hS₂ := Heap.get?_update_self (Obj.mapSeq (fun _ => (#[] : Array Value))) hS rfl
  have oth : ∀ b o, b ≠ S → s.heap.get? b = some o → (s.heap.update S (Obj.mapSeq (fun _ => (#[] : Array Value)))).get? b = some o :=
    fun b o hb e => (Heap.get?_update_other _ _ (Ne.symm hb)).trans e
  refine wpAny_bind (wpAny_letGo ?_)
  have hit2 : (s.heap.update S (Obj.mapSeq (fun _ => (#[] : Array Value)))).IsRevIter it l ((items.size : Int) - 1) := hit.at fun o e => oth it o (Ne.symm hSi) e
  have hl2 : (s.heap.update S (Obj.mapSeq (fun _ => (#[] : Array Value)))).IsList l items := by
    obtain ⟨o, ho, r⟩ := hl
    exact ⟨o, oth l o (Ne.symm hSl) ho, r⟩
  refine extend_rev (s := { s with heap := s.heap.update S (Obj.mapSeq (fun _ => (#[] : Array Value))) }) hh hit2 hl2 hne hn S hSi hSl .none _ hS₂ (fun h' tk acc' c' hk hS' hacc => ?_)
  exact hR h' tk acc' c' (fun b o hb hb2 e => hk b o hb hb2 (oth b o hb e)) hS' hacc
theorem call_list_rev {it l : Addr} {items : Array Value} {Q : Value → Shared → Prop} (hh : A.handled = none) (hit : s.heap.IsRevIter it l ((items.size : Int) - 1)) (hl : s.heap.IsList l items) (hne : l ≠ it) (hn : items.size ≤ sizeLine)
    (hQ : ∀ h' tk acc' c', (∀ b o, b ≠ it → s.heap.get? b = some o → h'.get? b = some o) →
      h'.get? s.heap.objs.size = some { cls := .type "list", dict := none, data := .seq acc' c', slots := #[] } → ItemsOf (fun i v => items[items.size - 1 - i]? = some v) acc' items.size → Q (.ref s.heap.objs.size) { s with heap := h', toks := tk }) :
    wpAny (model prog w) A (call (.type "list") [.ref it]) Q E s := by
  refine callType_codes (Q₁ := fun obj s₁ => obj = .ref s.heap.objs.size ∧ s₁ = { s with heap := s.heap.push { cls := .type "list", data := .seq #[] } }) PySem.F.called_list (PySem.F.typeCall_list_1 _) PySem.F.entry_list_init
    (code_list_new _ ⟨rfl, rfl⟩) fun obj s₁ h₁ => ?_
  obtain ⟨rfl, rfl⟩ := h₁
  have hS : (s.heap.push { cls := .type "list", data := .seq #[] }).get? s.heap.objs.size = some { cls := .type "list", data := .seq #[] } := Heap.get?_push_size _ rfl
  obtain ⟨oi, hoi, _⟩ := id hit
  obtain ⟨ol, hol, _⟩ := id hl
  have hSi : s.heap.objs.size ≠ it := Nat.ne_of_gt (Heap.lt_size hoi)
  have hSl : s.heap.objs.size ≠ l := Nat.ne_of_gt (Heap.lt_size hol)
  have hit1 : (s.heap.push { cls := .type "list", data := .seq #[] }).IsRevIter it l ((items.size : Int) - 1) := hit.at fun o e => Heap.get?_push_of_some _ e
  have hl1 : (s.heap.push { cls := .type "list", data := .seq #[] }).IsList l items := hl.push _
  refine ⟨⟨_, hS, rfl⟩, PySem.F.args_list_init_2 _ _, list_init_rev (A := A.in1) (s := { s with heap := s.heap.push { cls := .type "list", data := .seq #[] } }) hh hit1 hl1 hne hn _ hSi hSl hS (fun h' tk acc' c' hk hS' hacc => ?_)⟩
  exact ⟨rfl, hQ h' tk acc' c' (fun b o hb e => hk b o (Nat.ne_of_lt (Heap.lt_size e)) hb (Heap.get?_push_of_some _ e)) hS' hacc⟩
end
def tLstRev (K : PySem.W.Frag) (te : TE) : TE := fun σ H Q => te σ H fun v H1 => ∃ (a : Addr) (xs : List V), v = .ref a ∧ SqL K H1 a xs ∧ ∀ q, H1 q = none → Q (.ref q) (upd H1 q (.lst xs.reverse))
theorem pe_listRev {X : Cx} {e : Expr} {te : TE} {p p2 pos pos2 : Pos} (hc : X.calm = true) (hg : Gl X "list") (hm : X.mg "list" = none) (hg2 : Gl X "reversed") (hm2 : X.mg "reversed" = none) (he : PE X e te)
    (hs : starEach [e] X.env = (false, eval e X.env) :: starEach [] X.env)
    (hs2 : starEach [.Call (.Name "reversed" p2) [e] [] pos2] X.env = (false, eval (.Call (.Name "reversed" p2) [e] [] pos2) X.env) :: starEach [] X.env) :
    PE X (.Call (.Name "list" p) [.Call (.Name "reversed" p2) [e] [] pos2] [] pos) (tLstRev X.K te) := by
  refine ⟨fun pins s σ H Q I h => ?_⟩
  refine Call_ (ld_blt I hg hm boot_list (PyProof.Rows.callWith_type1 (args_cons (Call_ (ld_blt I hg2 hm2 PyProof.Rows.boot_reversed (PyProof.Rows.callWith_type1 (args_cons (thn (he.run pins s σ H _ I h) fun u s1 ⟨v, H1, I1, r1, q1⟩ => args_nil ?_) hs) hs rfl))) hs2) hs2 rfl))
  obtain ⟨a, xs, ev, hq, q⟩ := q1
  subst ev
  obtain rfl : u = Value.ref a := r1
  obtain ⟨its, rv, p', hz⟩ := I1.list hq
  refine call_reversed_list p'.isList (args_nil ?_)
  have k0 : ∀ b o, s1.heap.get? b = some o → (s1.heap.push (revObj a ((its.toArray.size : Int) - 1))).get? b = some o := fun b o e => Heap.get?_push_of_some _ e
  have I2 : Inv X pins σ H1 { s1 with heap := s1.heap.push (revObj a ((its.toArray.size : Int) - 1)) } := I1.kept (t' := s1.toks) k0
  obtain ⟨f0, f1, f2, f3, f4, f5⟩ := I1.fpOk (H' := H1) (b := s1.heap.objs.size) (Nat.le_refl _) (I1.hok.fresh (Nat.le_refl _))
  have hl := p'.isList
  obtain ⟨ol, hol, _⟩ := id hl
  have hne : a ≠ s1.heap.objs.size := Nat.ne_of_lt (Heap.lt_size hol)
  have hn : its.toArray.size ≤ sizeLine := by rw [List.size_toArray, ← rv.length]; exact hz
  refine call_list_rev (s := { s1 with heap := s1.heap.push (revObj a ((its.toArray.size : Int) - 1)) }) (I1.ok.hd hc) ⟨_, Heap.get?_push_size _ rfl, rfl, rfl⟩ (hl.push _) hne hn fun h' tk acc c' hk e' hi => ?_
  have hsz : (s1.heap.push (revObj a ((its.toArray.size : Int) - 1))).objs.size = s1.heap.objs.size + 1 := Heap.size_push _ _
  have fr : H1 (s1.heap.push (revObj a ((its.toArray.size : Int) - 1))).objs.size = none := I2.hok.fresh (Nat.le_refl _)
  refine ⟨.ref (s1.heap.push (revObj a ((its.toArray.size : Int) - 1))).objs.size, upd H1 (s1.heap.push (revObj a ((its.toArray.size : Int) - 1))).objs.size (.lst xs.reverse), I1.laid (t' := tk) (fun b o e => hk b o (Nat.ne_of_lt (Heap.lt_size e)) (Heap.get?_push_of_some _ e)) (by rw [hsz]; exact Nat.le_succ _) (show ObjOk X.prog X.w _ _ _ (.lst xs.reverse) from ⟨by rw [List.length_reverse]; exact hz, acc.toList, c', vals_rev rv hi, by rw [Array.toArray_toList]; exact e'⟩), rfl, q _ fr⟩
end Rg
namespace Rg
open PySem L2
section
variable {K : KP} {mg : Str → Option Value} {W : WX} {Γ : Env1} {σ : L2.St} {F H : Hp} {A : List Addr} {L : Nat → V} {τ : Sts} {Q : VK}
theorem de_tupO {args : E} (h : DE K mg W Γ (.tupO args) σ H Q) : tTup (DA K mg W Γ args) σ H Q := by
  obtain ⟨τ, F, A, L, sr, h⟩ := h
  refine da_kept sr ?_
  simp only [ev] at h
  cases e : evs Γ args τ with
  | stuck => rw [e] at h; exact h
  | exc c fs => rw [e] at h; exact h
  | ok x =>
    rw [e] at h
    simp only [R.bind_ok] at h ⊢
    cases e2 : stos x.2 x.1 with
    | none => rw [e2] at h; exact h.elim
    | some q =>
      rw [e2] at h
      simp only [R.of_some, R.bind_ok] at h ⊢
      intro vs F1 H1 A1 B1 pl ns
      by_cases hz : q.1.length ≤ sizeLine
      · rw [if_pos hz] at h
        refine ⟨by rw [← pl.vr.len]; exact hz, fun p hp => ?_⟩
        have kd : Kids K F1 H1 (q.1.all vFull) (q.1.map vD) vs B1 := pl.vr.kids ns fun z => z
        have nb : ∀ b ∈ B1, b ≠ p := fun b hb z => by
          obtain ⟨o, e, _⟩ := pl.vr.dom b hb
          rw [z, hp] at e
          cases e
        have kd2 : Kids K F1 (upd H1 p (.tup vs)) (q.1.all vFull) (q.1.map vD) vs B1 := kd.mono (Le.refl _) (upd_tk hp) fun b hb => upd_ne (nb b hb)
        refine h _ F1 _ A1 B1 ⟨pl.st.withLaid hp, pl.sr.step hp, ?_, pl.ap, pl.bn⟩
        show Own K F1 _ _ (.tup _) _ _
        unfold Own
        exact ⟨p, vs, rfl, upd_same, kd2⟩
      · rw [if_neg hz] at h
        exact h.elim
theorem callD_ok {f : Fn} {z : List Val × Sts} {vs : List V} {F1 H1 : Hp} {A1 B : List Addr} (pl : PostL K σ L F H A z.2 F1 H1 A1 z.1 vs B)
    (h : match callD f z.1 z.2 with
      | .ok r => ∀ v F' H' A' B, Post K σ L F H A r.2 F' H' A' r.1 v B → Q v H'
      | .exc c fs => ∀ F' H' A', Step F H A F' H' A' → XW K mg W c fs σ H'
      | .stuck => False) : spOf K mg f vs H1 Q (fun cls d H' => W cls d σ H') := by
  rcases callD_cases f z.1 z.2 with ⟨d, r, e1, h1, e2⟩ | e2
  · rw [e2] at h
    rw [e1] at pl
    exact callO_ok (mg := mg) (W := W) h1 pl h
  · rw [e2] at h
    exact callS_ok (mg := mg) (W := W) pl h
theorem PostL.after {τ2 : Sts} {F1 F2 H1 H2 : Hp} {A1 A2 B : List Addr} {rs : List Val} {vs : List V} (st : Step F H A F1 H1 A1) (pl : PostL K σ L F1 H1 A1 τ2 F2 H2 A2 rs vs B) : PostL K σ L F H A τ2 F2 H2 A2 rs vs B :=
  ⟨st.trans pl.st, pl.sr, pl.vr, pl.ap, fun b hb => (pl.bn b hb).elim (fun z => st.own b z) fun z => .inr (st.dom b z)⟩
theorem de_callI {ks : List Nat} {i args : E} (h : DE K mg W Γ (.callI ks i args) σ H Q) (p : Addr) (us : List V) (hp : H p = none) : DE K mg W Γ i σ (upd H p (.lst us)) fun y H1 => ∃ j n k f, y = .int j ∧ H1 p = some (.lst us) ∧ ixN ks.length j = some n ∧ ks[n]? = some k ∧ Γ[k]? = some f ∧ DA K mg W Γ args σ H1 fun vs H2 => spOf K mg f.2 vs H2 Q (fun cls d H' => W cls d σ H') := by
  obtain ⟨τ, F, A, L, sr, h⟩ := h
  refine ⟨τ, F, A, L, sr.step hp, ?_⟩
  simp only [ev] at h
  have st0 : Step F H A F (upd H p (.lst us)) A := Step.laid hp
  have off := sr.off_none hp
  cases e : ev Γ i τ with
  | stuck => rw [e] at h; exact h
  | exc c fs => rw [e] at h; exact fun F' H' A' s => h F' H' A' (st0.trans s)
  | ok ri =>
    rw [e] at h
    simp only [R.bind_ok] at h ⊢
    intro v F1 H1 A1 B1 p1
    cases e1 : ri.1 with
    | fz d =>
      cases d with
      | int j =>
        rw [e1] at h
        simp only at h
        have pv := p1.vr
        rw [e1] at pv
        cases e2 : ixN ks.length j with
        | none => rw [e2] at h; exact h.elim
        | some n =>
          cases e3 : ks[n]? with
          | none => simp only [e2, e3, Option.bind_some, Option.bind_none] at h
          | some k =>
            cases e4 : Γ[k]? with
            | none => simp only [e2, e3, e4, Option.bind_some, Option.bind_none] at h
            | some f =>
              simp only [e2, e3, e4, Option.bind_some] at h
              refine ⟨j, n, k, f, pv.2.int', p1.st.frame p _ upd_same off.1, e2, e3, e4, ri.2, F1, A1, L, p1.sr, ?_⟩
              have st1 := st0.trans p1.st
              cases e5 : evs Γ args ri.2 with
              | stuck => rw [e5] at h; exact h
              | exc c fs => rw [e5] at h; exact fun F' H' A' s => h F' H' A' (st1.trans s)
              | ok z =>
                rw [e5] at h
                simp only [R.bind_ok] at h ⊢
                intro vs F2 H2 A2 B2 pl
                exact callD_ok (mg := mg) (W := W) (pl.after st1) h
      | _ => rw [e1] at h; exact h.elim
    | own f d => rw [e1] at h; exact h.elim
    | slot i => rw [e1] at h; exact h.elim
theorem OwnsL.snoc : ∀ {es : List D} {vs : List V} {A1 A2 : List Addr} {d : D} {v : V}, OwnsL K F H es vs A1 → Own K F H true d v A2 → OwnsL K F H (es ++ [d]) (vs ++ [v]) (A1 ++ A2)
  | [], _, _, A2, d, v, h, k => by
    obtain ⟨rfl, rfl⟩ := h
    exact ⟨v, [], A2, [], rfl, (List.append_nil _).symm, k, rfl, rfl⟩
  | e :: es, _, _, A2, d, v, h, k => by
    obtain ⟨w, r, B1, B2, rfl, rfl, h1, h2⟩ := h
    exact ⟨w, r ++ [v], B1, B2 ++ A2, rfl, List.append_assoc _ _ _, h1, OwnsL.snoc h2 k⟩
theorem ownV1_at {rs : List Val} {d : D} {vs : List V} {B : List Addr} (e : ownV1 rs = some d) (h : VRL K σ F H rs vs B) : ∃ v, vs = [v] ∧ Own K F H true d v B := by
  unfold ownV1 at e
  split at e
  · cases e
    obtain ⟨v, w, B1, B2, rfl, rfl, h1, h2⟩ := h
    obtain ⟨rfl, rfl⟩ := h2
    exact ⟨v, rfl, by rw [List.append_nil]; exact h1⟩
  · cases e
theorem callM_ok {f : Fn} {z : List Val × Sts} {vs : List V} {F1 H1 : Hp} {A1 B : List Addr} (pl : PostL K σ L F H A z.2 F1 H1 A1 z.1 vs B)
    (h : match callM f z.1 z.2 with
      | .ok r => ∀ v F' H' A' B, Post K σ L F H A r.2 F' H' A' r.1 v B → Q v H'
      | .exc c fs => ∀ F' H' A', Step F H A F' H' A' → XW K mg W c fs σ H'
      | .stuck => False) : spOf K mg f vs H1 Q (fun cls d H' => W cls d σ H') := by
    unfold callM at h
    cases e1 : slotsOf (z.1.take f.io) with
    | none => rw [e1] at h; exact h.elim
    | some ios =>
     cases e0 : ownV1 ((z.1.drop f.io).take 1) with
     | none => rw [e1, e0] at h; exact h.elim
     | some d =>
      cases e2 : dats z.2 (z.1.drop (f.io + 1)) with
      | none => rw [e1, e0, e2] at h; exact h.elim
      | some ds =>
        rw [e1, e0, e2] at h
        simp only at h
        by_cases hc : ios.Nodup ∧ (z.1.drop (f.io + 1)).any (slotIn ios) = false ∧ z.1.length = f.ar ∧ f.io + 1 ≤ f.ar ∧ f.ow = f.io + 1
        · rw [if_pos hc] at h
          obtain ⟨nd, nio, har, hle, how⟩ := hc
          cases e3 : ioData z.2 ios with
          | none => rw [e3] at h; exact h.elim
          | some es =>
            rw [e3] at h
            simp only at h
            have lv := pl.vr.len
            have lio : ios.length = f.io := by
              rw [slotsOf_len e1, List.length_take]
              omega
            have les : es.length = f.io := (ioData_len e3).trans lio
            have lds : ds.length = z.1.length - (f.io + 1) := by rw [dats_len e2, List.length_drop]
            obtain ⟨B1, B2, eB, vt, vd⟩ := pl.vr.take f.io
            obtain ⟨ats, eB1⟩ := slots_at e1 vt
            subst eB1
            have eB2 : B = B2 := by rw [eB]; rfl
            subst eB2
            obtain ⟨C1, C2, eC, vo, vd2⟩ := vd.take 1
            rw [List.drop_drop, List.drop_drop] at vd2
            obtain ⟨v0, ev0, ow0⟩ := ownV1_at e0 vo
            have apC1 : Ap F1 A1 C1 := (eC ▸ pl.ap).left
            have apC2 : Ap F1 A1 C2 := (eC ▸ pl.ap).right
            have djC : ∀ c ∈ C1, c ∉ C2 := fun c hc y => (List.nodup_append.mp (eC ▸ pl.ap).nd).2.2 c hc c y rfl
            obtain ⟨Aio, Ar, pm, srU, own, apIo⟩ := take_io pl.sr nd e3 ats
            have inA : ∀ a ∈ Aio, a ∈ A1 := fun a ha => pm.mem_iff.mpr (List.mem_append_left _ ha)
            have arA : ∀ a ∈ Ar, a ∈ A1 := fun a ha => pm.mem_iff.mpr (List.mem_append_right _ ha)
            have djI : ∀ c ∈ Aio, c ∉ C1 := fun c hc y => apC1.a c y (inA c hc)
            -- what the callee may change
            have gle : Le (hideIo H1 (Aio ++ C1)) H1 := fun a o q => by
              unfold hideIo at q
              split at q
              · cases q
              · exact q
            have gout : ∀ a, a ∉ Aio ++ C1 → hideIo H1 (Aio ++ C1) a = H1 a := fun a ha => by
              unfold hideIo
              rw [if_neg ha]
            have fle : Le F1 (hideIo H1 (Aio ++ C1)) := fun a o q => by
              rw [gout a fun z => by
                rcases List.mem_append.mp z with z | z
                · rw [pl.sr.off a (inA a z)] at q
                  cases q
                · rw [apC1.off a z] at q
                  cases q]
              exact pl.sr.le a o q
            have ro : RepL K (hideIo H1 (Aio ++ C1)) H1 ds (vs.drop (f.io + 1)) := VRL.readG srU fle (fun a ha => gout a fun z => by
              rcases List.mem_append.mp z with z | z
              · exact apIo.a a z ha
              · exact apC1.a a z (arA a ha)) (fun b hb => gout b fun z => by
              rcases List.mem_append.mp z with z | z
              · exact apC2.a b hb (inA b z)
              · exact djC b z hb) vd2 e2 nio
            have et : (es ++ (d :: ds)).take (f.io + 1) = es ++ [d] := by
              rw [← les, List.take_append, List.take_of_length_le (by omega)]
              simp
            have ed : (es ++ (d :: ds)).drop (f.io + 1) = ds := by
              rw [← les, List.drop_append, List.drop_of_length_le (by omega)]
              simp
            have evt : vs.take (f.io + 1) = vs.take f.io ++ [v0] := by
              rw [← ev0, ← List.take_add]
            have ag : Args K (hideIo H1 (Aio ++ C1)) H1 (f.io + 1) (es ++ (d :: ds)) vs (Aio ++ C1) := by
              refine ⟨gle, ?_, fun a ha => ?_, ?_, ?_, ?_⟩
              · exact List.nodup_append.mpr ⟨apIo.nd, apC1.nd, fun a ha b hb e => djI a ha (e ▸ hb)⟩
              · unfold hideIo
                rw [if_pos ha]
              · rw [et, evt]
                exact OwnsL.snoc (own.refull (Tk.refl H1) fun _ _ => rfl) (ow0.refull (Tk.refl H1) fun _ _ => rfl)
              · rw [ed]
                exact ro
              · rw [List.length_append, List.length_cons]
                omega
            refine ⟨es ++ (d :: ds), hideIo H1 (Aio ++ C1), Aio ++ C1, by rw [how]; exact ag, by rw [List.length_append, List.length_cons]; omega, ?_⟩
            have oldC1 : ∀ a ∈ C1, a ∈ A ∨ H a = none := fun a ha => pl.bn a (by rw [eC]; exact List.mem_append_left _ ha)
            have oldIo : ∀ a ∈ Aio ++ C1, a ∈ A ∨ H a = none := fun a ha => by
              rcases List.mem_append.mp ha with ha | ha
              · exact pl.st.own a (inA a ha)
              · exact oldC1 a ha
            cases e4 : f.run (es ++ (d :: ds)) with
            | stuck => rw [e4] at h; exact h.elim
            | exc c fs =>
              rw [e4] at h
              simp only [R.bind_exc] at h ⊢
              intro F' H' A' st
              refine XE1.of (h F1 H' (A1.filter fun a => decide (a ∈ Ar)) ?_)
              refine ⟨pl.st.mono, pl.st.fresh, fun a o q n => ?_, fun a ha => pl.st.own a (List.mem_filter.mp ha).1, fun a q => pl.st.dom a (st.dom a q), pl.st.tk.trans st.tk⟩
              have q1 := pl.st.frame a o q n
              refine st.frame a o q1 fun z => ?_
              rcases oldIo a z with y | y
              · exact n y
              · rw [q] at y
                cases y
            | ok r =>
              rw [e4] at h
              simp only [R.bind_ok] at h ⊢
              intro v F' H' A' B' lf
              cases e5 : setIo z.2 ios r.2 with
              | none => rw [e5] at h; exact h.elim
              | some τ' =>
                rw [e5] at h
                simp only [R.of_some, R.bind_ok] at h
                have tk := lf.st.tk
                have arN : ∀ a ∈ Ar, a ∉ Aio ++ C1 := fun a ha z => by
                  rcases List.mem_append.mp z with z | z
                  · exact apIo.a a z ha
                  · exact apC1.a a z (arA a ha)
                have keepR : ∀ a ∈ Ar, H' a = H1 a := fun a ha => by
                  obtain ⟨o, q, _⟩ := srU.slots.dom a ha
                  rw [q]
                  exact lf.st.frame a o q (arN a ha)
                have le2 : Le F1 (joinF F1 H1 F') := fun a o q => by
                  rw [joinF_old (pl.sr.le a o q)]
                  exact q
                have leH : Le (joinF F1 H1 F') H' := fun a o q => by
                  cases y : H1 a with
                  | none =>
                    rw [joinF_new y] at q
                    exact lf.le a o q
                  | some u =>
                    rw [joinF_old y] at q
                    have := pl.sr.le a o q
                    exact lf.st.frame a o this fun z => by
                      rcases List.mem_append.mp z with z | z
                      · rw [pl.sr.off a (inA a z)] at q
                        cases q
                      · rw [apC1.off a z] at q
                        cases q
                have offR : ∀ a ∈ Ar, joinF F1 H1 F' a = none := fun a ha => by
                  obtain ⟨o, q, _⟩ := srU.slots.dom a ha
                  rw [joinF_old q]
                  exact srU.off a ha
                have srU2 : SR K (unIo z.2 ios) σ (joinF F1 H1 F') H' Ar L := srU.keep le2 leH tk keepR offR
                have own2 : OwnsL K (joinF F1 H1 F') H' r.2 (vs.take f.io) A' := lf.io.refull (Tk.refl H') fun _ _ => rfl
                have nd2 := List.nodup_append.mp lf.nd
                have fresh2 : ∀ b, (b ∈ Aio ++ C1 ∨ H1 b = none) → b ∉ Ar := fun b hb y => by
                  rcases hb with hb | hb
                  · exact arN b y hb
                  · exact (srU.off_none hb).1 y
                have offA' : ∀ b, (b ∈ Aio ++ C1 ∨ H1 b = none) → F' b = none → joinF F1 H1 F' b = none := fun b hb q => by
                  cases y : H1 b with
                  | none => rw [joinF_new y]; exact q
                  | some u =>
                    rw [joinF_old y]
                    rcases hb with hb | hb
                    · rcases List.mem_append.mp hb with hb | hb
                      · exact apIo.off b hb
                      · exact apC1.off b hb
                    · rw [hb] at y
                      cases y
                have ap2 : Ap (joinF F1 H1 F') Ar A' := ⟨nd2.1, fun b hb => fresh2 b (lf.st.own b hb), fun b hb => offA' b (lf.st.own b hb) (lf.off b (List.mem_append_left _ hb))⟩
                have ili : ∀ i ∈ ios, (unIo z.2 ios)[i]? = some .un := fun i hi => by
                  refine unIo_in hi ?_
                  have : ∀ (l : List Nat) (es : List D), ioData z.2 l = some es → ∀ i ∈ l, i < z.2.length := by
                    intro l
                    induction l with
                    | nil => intro _ _ _ h; cases h
                    | cons j l ih =>
                      intro es q i hi
                      simp only [ioData] at q
                      cases y : z.2[j]? with
                      | none => rw [y] at q; cases q
                      | some s =>
                        rcases List.mem_cons.mp hi with rfl | hi
                        · exact (List.getElem?_eq_some_iff.mp y).1
                        · rw [y] at q
                          cases s with
                          | ow g d =>
                            cases g with
                            | false => cases q
                            | true =>
                              simp only at q
                              cases y2 : ioData z.2 l with
                              | none => rw [y2] at q; cases q
                              | some es2 => exact ih es2 y2 i hi
                          | un => cases q
                          | fz d => cases q
                          | lk g d => cases q
                  exact this ios es e3 i hi
                obtain ⟨A3, sr3, pm3⟩ := put_io srU2 nd ili own2 ap2 ats (setIo_un e5 nd)
                have st3 : Step F H A (joinF F1 H1 F') H' A3 := by
                  refine ⟨pl.st.mono.trans le2, fun a q => ?_, fun a o q n => ?_, fun a ha => ?_, fun a q => pl.st.dom a (lf.st.dom a q), pl.st.tk.trans tk⟩
                  · cases y : H1 a with
                    | none => exact .inr (.inl (pl.st.dom a y))
                    | some u =>
                      rw [joinF_old y] at q
                      exact pl.st.fresh a q
                  · refine lf.st.frame a o (pl.st.frame a o q n) fun z => ?_
                    rcases oldIo a z with y | y
                    · exact n y
                    · rw [q] at y
                      cases y
                  · rcases List.mem_append.mp (pm3.mem_iff.mp ha) with y | y
                    · rcases lf.st.own a y with y | y
                      · exact oldIo a y
                      · exact .inr (pl.st.dom a y)
                    · exact pl.st.own a (arA a y)
                have res2 := lf.res.re (F' := joinF F1 H1 F') (Tk.refl H') fun _ _ => rfl
                have apB : Ap (joinF F1 H1 F') A3 B' := by
                  refine ⟨nd2.2.1, fun b hb z => ?_, fun b hb => offA' b (lf.bn b hb) (lf.off b (List.mem_append_right _ hb))⟩
                  rcases List.mem_append.mp (pm3.mem_iff.mp z) with y | y
                  · exact nd2.2.2 b y b hb rfl
                  · exact fresh2 b (lf.bn b hb) y
                have bnB : ∀ b ∈ B', b ∈ A ∨ H b = none := fun b hb => (lf.bn b hb).elim (fun q => oldIo b q) fun q => .inr (pl.st.dom b q)
                rcases res2 with ⟨i1, i2, i3⟩ | i1
                · subst i2
                  simp only [i1, if_true] at h
                  exact h v _ H' A3 [] ⟨st3, sr3, ⟨rfl, i3⟩, Ap.nil, fun _ z => (List.not_mem_nil z).elim⟩
                · by_cases i2 : imm r.1 = true
                  · obtain ⟨e0, i3⟩ := Own.ofImm i2 i1
                    subst e0
                    simp only [i2, if_true] at h
                    exact h v _ H' A3 [] ⟨st3, sr3, ⟨rfl, i3⟩, Ap.nil, fun _ z => (List.not_mem_nil z).elim⟩
                  · simp only [i2] at h
                    exact h v _ H' A3 B' ⟨st3, sr3, i1, apB, bnB⟩
        · rw [if_neg hc] at h
          exact h.elim
theorem de_callM {k : Nat} {x : Str} {f : Fn} {args : E} (hk : Γ[k]? = some (x, f)) (h : DE K mg W Γ (.callM k args) σ H Q) : DA K mg W Γ args σ H fun vs H1 => spOf K mg f vs H1 Q (fun cls d H' => W cls d σ H') := by
  obtain ⟨τ, F, A, L, sr, h⟩ := h
  refine ⟨τ, F, A, L, sr, ?_⟩
  simp only [ev] at h
  cases e : evs Γ args τ with
  | stuck => rw [e] at h; exact h
  | exc c fs => rw [e] at h; exact h
  | ok z =>
    rw [e] at h
    simp only [R.bind_ok, hk] at h ⊢
    intro vs F1 H1 A1 B pl
    by_cases hio : f.io = 0
    · rw [if_pos hio] at h
      cases e7 : stos z.2 z.1 with
      | none => rw [e7] at h; exact h.elim
      | some q =>
        rw [e7] at h
        simp only [R.of_some, R.bind_ok] at h
        obtain ⟨A2, B2, s2, v2, a2, i1, i2, _⟩ := stos_ok pl.sr pl.vr pl.ap e7
        refine callM_ok (mg := mg) (W := W) (z := q) (A1 := A2) (B := B2) ⟨pl.st.trans (Step.less i1), s2, v2, a2, fun b hb => ?_⟩ h
        rcases i2 b hb with y | y
        · exact pl.bn b y
        · exact pl.st.own b y
    · rw [if_neg hio] at h
      exact callM_ok (mg := mg) (W := W) pl h
theorem Kids.take {f : Bool} : ∀ (n : Nat) {ds : List D} {vs : List V} {A : List Addr}, Kids K F H f ds vs A → ∃ B, Kids K F H f (ds.take n) (vs.take n) B ∧ B.Sublist A
  | 0, _, _, A, h => ⟨[], Kids.nil, List.nil_sublist _⟩
  | n + 1, [], _, A, h => by
    obtain ⟨rfl, rfl⟩ := h.unnil
    exact ⟨[], Kids.nil, List.Sublist.refl _⟩
  | n + 1, d :: ds, _, A, h => by
    obtain ⟨v, r, A1, A2, rfl, rfl, h1, h2⟩ := h.uncons
    obtain ⟨B, k1, k2⟩ := Kids.take n h2
    exact ⟨A1 ++ B, Kids.cons h1 k1, (List.Sublist.refl A1).append k2⟩
theorem de_catO {i : Nat} {b : E} (h : DE K mg W Γ (.catO i b) σ H Q) : tVar i σ H fun x H1 => DE K mg W Γ b σ H1 fun y H2 => rAddA K x y H2 Q := by
  obtain ⟨τ, F, A, L, sr, h⟩ := h
  simp only [ev] at h
  cases e0 : τ[i]? with
  | none => rw [e0] at h; exact h.elim
  | some s0 =>
    rw [e0] at h
    cases s0 with
    | ow f0 d0 =>
      simp only at h
      obtain ⟨o, A0, h1, h2, _⟩ := sr.slots.at e0
      obtain ⟨v, rfl, _⟩ := h2
      refine ⟨v, h1, τ, F, A, L, sr, ?_⟩
      cases e : ev Γ b τ with
      | stuck => rw [e] at h; exact h
      | exc c fs => rw [e] at h; exact h
      | ok r =>
        rw [e] at h
        simp only [R.bind_ok] at h ⊢
        intro w F1 H1 A1 B1 p1
        have pv := p1.vr
        cases e1 : r.1 with
        | fz d => rw [e1] at h; exact h.elim
        | slot j => rw [e1] at h; exact h.elim
        | own g d =>
          rw [e1] at h pv
          cases d with
          | lst ys =>
            cases e2 : r.2[i]? with
            | none => rw [e2] at h; exact h.elim
            | some s1 =>
              rw [e2] at h
              cases s1 with
              | ow f d =>
                cases d with
                | lst xs =>
                  simp only at h
                  by_cases hz : xs.length + ys.length ≤ sizeLine
                  · rw [if_pos hz] at h
                    obtain ⟨v2, C, Ar, g1, g2, g3, g4, g5, _⟩ := p1.sr.out e2
                    have : v2 = v := Option.some.inj (Option.some.inj (g1.symm.trans h1))
                    subst this
                    have ow2 : Own K F1 H1 g (.lst ys) w B1 := pv
                    unfold Own at g2 ow2
                    obtain ⟨a, us, C1, rfl, ha, rfl, ka⟩ := g2
                    obtain ⟨c, ws, C2, rfl, hb, rfl, kb⟩ := ow2
                    have arA : ∀ x ∈ Ar, x ∈ A1 := fun x hx => g3.mem_iff.mpr (List.mem_append_right _ hx)
                    have inA : ∀ x ∈ a :: C1, x ∈ A1 := fun x hx => g3.mem_iff.mpr (List.mem_append_left _ hx)
                    refine .inr (.inr (.inr ⟨a, c, us, ws, rfl, rfl, ha, hb, by rw [← ka.len, ← kb.len]; exact hz, fun p hp => ?_⟩))
                    have nb : ∀ x ∈ C1 ++ C2, x ≠ p := fun x hx z => by
                      rcases List.mem_append.mp hx with hx | hx
                      · obtain ⟨o, ho, _⟩ := Kids.dom ka x hx
                        rw [z, hp] at ho
                        cases ho
                      · obtain ⟨o, ho, _⟩ := Kids.dom kb x hx
                        rw [z, hp] at ho
                        cases ho
                    have kab := (ka.to (g := f && g) fun z => (Bool.and_eq_true_iff.mp z).1).app (kb.to (g := f && g) fun z => (Bool.and_eq_true_iff.mp z).2)
                    have kab2 : Kids K F1 (upd H1 p (.lst (us ++ ws))) (f && g) (xs ++ ys) (us ++ ws) (C1 ++ C2) := kab.mono (Le.refl _) (upd_tk hp) fun x hx => upd_ne (nb x hx)
                    have off := g4.off_none hp
                    have apC1 : Ap F1 Ar C1 := ⟨(List.nodup_cons.mp g5.nd).2, fun x hx => g5.a x (List.mem_cons_of_mem _ hx), fun x hx => g5.off x (List.mem_cons_of_mem _ hx)⟩
                    have apC2 : Ap F1 Ar C2 := ⟨(List.nodup_cons.mp p1.ap.nd).2, fun x hx z => p1.ap.a x (List.mem_cons_of_mem _ hx) (arA x z), fun x hx => p1.ap.off x (List.mem_cons_of_mem _ hx)⟩
                    have dj : ∀ x ∈ C1, x ∉ C2 := fun x hx z => p1.ap.a x (List.mem_cons_of_mem _ z) (inA x (List.mem_cons_of_mem _ hx))
                    refine h _ F1 _ Ar (p :: (C1 ++ C2)) ⟨(p1.st.trans (Step.less arA)).withLaid hp, g4.step hp, ?_, (Ap.one off).app (apC1.app apC2 dj) fun x hx z => nb x z (List.mem_singleton.mp hx), fun x hx => ?_⟩
                    · show Own K F1 _ _ (.lst _) _ _
                      unfold Own
                      exact ⟨p, _, _, rfl, upd_same, rfl, kab2⟩
                    · rcases List.mem_cons.mp hx with rfl | hx
                      · exact .inr (p1.st.dom _ hp)
                      · rcases List.mem_append.mp hx with hx | hx
                        · exact p1.st.own x (inA x (List.mem_cons_of_mem _ hx))
                        · exact p1.bn x (List.mem_cons_of_mem _ hx)
                  · rw [if_neg hz] at h
                    exact h.elim
                | _ => exact h.elim
              | un => exact h.elim
              | fz d => exact h.elim
              | lk f d => exact h.elim
          | _ => exact h.elim
    | un => exact h.elim
    | fz d => exact h.elim
    | lk f d => exact h.elim
theorem de_takeO {i : Nat} {b : E} (h : DE K mg W Γ (.takeO i b) σ H Q) : tVar i σ H fun x H1 => DE K mg W Γ b σ H1 fun y H2 => ∃ k, y = .int k ∧ rSlAll K x none (some k) H2 Q := by
  obtain ⟨τ, F, A, L, sr, h⟩ := h
  simp only [ev] at h
  cases e0 : τ[i]? with
  | none => rw [e0] at h; exact h.elim
  | some s0 =>
    rw [e0] at h
    cases s0 with
    | ow f0 d0 =>
      simp only at h
      obtain ⟨o, A0, h1, h2, _⟩ := sr.slots.at e0
      obtain ⟨v, rfl, _⟩ := h2
      refine ⟨v, h1, τ, F, A, L, sr, ?_⟩
      cases e : ev Γ b τ with
      | stuck => rw [e] at h; exact h
      | exc c fs => rw [e] at h; exact h
      | ok r =>
        rw [e] at h
        simp only [R.bind_ok] at h ⊢
        intro w F1 H1 A1 B1 p1
        have pv := p1.vr
        cases e1 : r.1 with
        | own g d => rw [e1] at h; exact h.elim
        | slot j => rw [e1] at h; exact h.elim
        | fz d =>
          rw [e1] at h pv
          cases d with
          | int k =>
            cases e2 : r.2[i]? with
            | none => rw [e2] at h; exact h.elim
            | some s1 =>
              rw [e2] at h
              cases s1 with
              | ow f d =>
                cases d with
                | lst xs =>
                  simp only at h
                  obtain ⟨v2, C, Ar, g1, g2, g3, g4, g5, _⟩ := p1.sr.out e2
                  have : v2 = v := Option.some.inj (Option.some.inj (g1.symm.trans h1))
                  subst this
                  unfold Own at g2
                  obtain ⟨a, us, C1, rfl, ha, rfl, ka⟩ := g2
                  have arA : ∀ x ∈ Ar, x ∈ A1 := fun x hx => g3.mem_iff.mpr (List.mem_append_right _ hx)
                  have inA : ∀ x ∈ a :: C1, x ∈ A1 := fun x hx => g3.mem_iff.mpr (List.mem_append_left _ hx)
                  refine ⟨k, pv.2.int', .inl ⟨a, us, rfl, SqL.of ha, fun p hp => ?_⟩⟩
                  have ec : cutL xs none (some k) = xs.take (HT.sIx xs.length xs.length (some k)) := by
                    unfold cutL
                    have : HT.sIx xs.length 0 none = 0 := rfl
                    rw [this, List.drop_zero, Nat.sub_zero]
                  have ev2 : cutV us none (some k) = us.take (HT.sIx xs.length xs.length (some k)) := by
                    unfold cutV
                    have : HT.sIx us.length 0 none = 0 := rfl
                    rw [this, List.drop_zero, Nat.sub_zero, ka.len]
                  obtain ⟨B, kB, sB⟩ := ka.take (HT.sIx xs.length xs.length (some k))
                  rw [ev2]
                  rw [ec] at h
                  have nb : ∀ x ∈ B, x ≠ p := fun x hx z => by
                    obtain ⟨o, ho, _⟩ := Kids.dom kB x hx
                    rw [z, hp] at ho
                    cases ho
                  have kB2 := kB.mono (H' := upd H1 p (.lst (us.take (HT.sIx xs.length xs.length (some k))))) (Le.refl _) (upd_tk hp) fun x hx => upd_ne (nb x hx)
                  have off := g4.off_none hp
                  have inC : ∀ x ∈ B, x ∈ a :: C1 := fun x hx => List.mem_cons_of_mem _ (sB.subset hx)
                  have apB : Ap F1 Ar B := ⟨sB.nodup (List.nodup_cons.mp g5.nd).2, fun x hx => g5.a x (inC x hx), fun x hx => g5.off x (inC x hx)⟩
                  refine h _ F1 _ Ar (p :: B) ⟨(p1.st.trans (Step.less arA)).withLaid hp, g4.step hp, ?_, (Ap.one off).app apB fun x hx z => nb x z (List.mem_singleton.mp hx), fun x hx => ?_⟩
                  · show Own K F1 _ _ (.lst _) _ _
                    unfold Own
                    exact ⟨p, _, _, rfl, upd_same, rfl, kB2⟩
                  · rcases List.mem_cons.mp hx with rfl | hx
                    · exact .inr (p1.st.dom _ hp)
                    · exact p1.st.own x (inA x (inC x hx))
                | _ => exact h.elim
              | un => exact h.elim
              | fz d => exact h.elim
              | lk f d => exact h.elim
          | _ => exact h.elim
    | un => exact h.elim
    | fz d => exact h.elim
    | lk f d => exact h.elim
theorem strs_rep : ∀ {ds : List D} {ys : List Str} {vs : List V}, strsOf ds = some ys → RepL K F H ds vs → vs = ys.map V.str
  | [], _, _, e, r => by
    cases e
    rw [r.unnil]
    rfl
  | .str b :: ds, _, _, e, r => by
    simp only [strsOf] at e
    cases q : strsOf ds with
    | none => rw [q] at e; cases e
    | some ns =>
      rw [q] at e
      cases e
      obtain ⟨v, w, rfl, r1, r2⟩ := r.uncons
      rw [strs_rep q r2, r1.str']
      rfl
  | .non :: ds, _, _, e, _ => by cases e
  | .bl _ :: ds, _, _, e, _ => by cases e
  | .int _ :: ds, _, _, e, _ => by cases e
  | .tup _ :: ds, _, _, e, _ => by cases e
  | .lst _ :: ds, _, _, e, _ => by cases e
  | .dT _ _ :: ds, _, _, e, _ => by cases e
  | .dK _ _ :: ds, _, _, e, _ => by cases e
  | .scr _ :: ds, _, _, e, _ => by cases e
  | .exn _ _ _ :: ds, _, _, e, _ => by cases e
def rJoin (K : PySem.W.Frag) : V → List V → Hp → VK → Prop := fun x xs H Q => ∃ a p, ∃ ys : List Str, x = .str a ∧ xs = [.ref p] ∧ (SqL K H p (ys.map V.str) ∨ SqT K H p (ys.map V.str)) ∧ (ys.map (·.length)).sum + ys.length * a.length ≤ 16777216 ∧ Q (.str (Txt.join a ys)) H
theorem ok_join : PrimOk K .join (lm (rJoin K)) := by
  intro ds res vs H G Q le rp e k
  replace e : pJoin ds = some res := e
  unfold pJoin at e
  split at e
  · rename_i a xs
    obtain ⟨ys, e1, e2⟩ := obind e
    split at e2
    · rename_i hz
      cases e2
      obtain ⟨x, y, rfl, h1, h2⟩ := rp.two
      obtain ⟨p, us, rfl, ha, hu⟩ := h2.lst'
      exact ⟨a, p, ys, h1.str', rfl, .inl (strs_rep e1 hu ▸ SqL.of (le _ _ ha)), hz, k _ (Rep.ofStr _)⟩
    · cases e2
  · cases e
theorem strs_of : ∀ ys : List Str, RepL K F H (ys.map D.str) (ys.map V.str)
  | [] => RepL.nil
  | y :: ys => RepL.cons (Rep.ofStr y) (strs_of ys)
theorem mt_sidx {X : Cx} : MtR X "str.index" (fun x xs H Q => ∃ a b i r, x = .str a ∧ xs = [.str b] ∧ Builtin.Str.occurrences a b 0 a.length 1 = i :: r ∧ Q (.int (i : Nat)) H) := by
  intro pins s σ H x xs v us Q I rx rs h
  obtain ⟨a, b, i, r, rfl, rfl, ho, h⟩ := h
  obtain ⟨t, rfl⟩ := rx
  cases rs with
  | cons r1 rs =>
    cases rs
    obtain ⟨u, rfl⟩ := r1
    exact SC.index ho ⟨.int (i : Nat), H, I.tok _, ⟨_, rfl⟩, h⟩
def rSidx : V → List V → Hp → VK → Prop := fun x xs H Q => ∃ a b i r, x = .str a ∧ xs = [.str b] ∧ Builtin.Str.occurrences a b 0 a.length 1 = i :: r ∧ Q (.int (i : Nat)) H
theorem ok_sidx : PrimOk K .sidx (lm rSidx) := by
  intro ds res vs H G Q le rp e k
  replace e : pSidx ds = some res := e
  unfold pSidx at e
  split at e
  · rename_i a b
    split at e
    · rename_i i r ho
      cases e
      obtain ⟨x, y, rfl, h1, h2⟩ := rp.two
      exact ⟨a, b, i, r, h1.str', by rw [h2.str'], ho, k _ (Rep.ofInt _)⟩
    · cases e
  · cases e
def rSplit : V → List V → Hp → VK → Prop := fun x xs H Q => ∃ a b, x = .str a ∧ xs = [.str b] ∧ (b.length == 0) = false ∧ a.length + 2 ≤ sizeLine ∧ rNewStrs (Txt.split a b) H Q
theorem ok_split : PrimOk K .split (lm rSplit) := by
  intro ds res vs H G Q le rp e k
  replace e : pSplit ds = some res := e
  unfold pSplit at e
  split at e
  · rename_i a b
    split at e
    · rename_i hz
      cases e
      obtain ⟨x, y, rfl, h1, h2⟩ := rp.two
      refine ⟨a, b, h1.str', by rw [h2.str'], hz.1, hz.2, fun p hp => k p _ hp (strs_of _)⟩
    · cases e
  · cases e
variable (K) in
def DP (m : E) : TE := fun σ H Q => ∃ τ F A L d, SR K τ σ F H A L ∧ pev m τ = some d ∧ ∀ v H', Le H H' → Rep K H' H' d v → Q v H'
variable (K) in
def DPs (m : E) : TA := fun σ H Q => ∃ τ F A L ds, SR K τ σ F H A L ∧ pevs m τ = some ds ∧ ∀ vs H', Le H H' → RepL K H' H' ds vs → Q vs H'
theorem Le.tk {H H' : Hp} (h : Le H H') : Tk H H' := ⟨fun a xs e => h a _ e, fun a xs e => h a _ e⟩
theorem SR.ext {H' : Hp} (r : SR K τ σ F H A L) (h : Le H H') : SR K τ σ F H' A L := r.keep (Le.refl F) (r.le.trans h) h.tk (fun a ha => by
  obtain ⟨u, e, _⟩ := r.slots.dom a ha
  rw [e]
  exact h a u e) r.off
theorem dp_var {i : Nat} (h : DP K (.var i) σ H Q) : tVar i σ H Q := by
  obtain ⟨τ, F, A, L, d, sr, e, h⟩ := h
  simp only [pev] at e
  cases q : τ[i]? with
  | none => rw [q] at e; cases e
  | some s =>
    rw [q] at e
    obtain ⟨o, A1, g1, g2, _⟩ := sr.slots.at q
    cases s with
    | fz d0 =>
      cases e
      obtain ⟨_, v, rfl, r⟩ := g2
      exact ⟨v, g1, h v H (Le.refl H) (r.mono sr.le (Tk.refl H))⟩
    | ow f d0 =>
      cases e
      obtain ⟨v, rfl, r⟩ := g2
      exact ⟨v, g1, h v H (Le.refl H) (r.read sr.le)⟩
    | un => cases e
    | lk f d0 => cases e
theorem dp_cst {d : D} {v : V} (hv : ∀ F H, Rep K F H d v) (h : DP K (.cst d) σ H Q) : tC v σ H Q := by
  obtain ⟨τ, F, A, L, d, sr, e, h⟩ := h
  cases e
  exact h v H (Le.refl H) (hv H H)
theorem dp_split {a r : E} {Q : List V → Hp → Prop} (h : DPs K (.cons a r) σ H Q) : DP K a σ H fun v H1 => DPs K r σ H1 fun vs H2 => Q (v :: vs) H2 := by
  obtain ⟨τ, F, A, L, ds, sr, e, h⟩ := h
  simp only [pevs] at e
  obtain ⟨x, e1, e⟩ := obind e
  obtain ⟨y, e2, e⟩ := obind e
  cases e
  exact ⟨τ, F, A, L, x, sr, e1, fun v H1 l1 r1 => ⟨τ, F, A, L, y, sr.ext l1, e2, fun vs H2 l2 r2 => h _ H2 (l1.trans l2) (RepL.cons (r1.mono l2 l2.tk) r2)⟩⟩
theorem dp_nil {Q : List V → Hp → Prop} (h : DPs K .nil σ H Q) : Q [] H := by
  obtain ⟨τ, F, A, L, ds, sr, e, h⟩ := h
  cases e
  exact h [] H (Le.refl H) RepL.nil
theorem dp_mono {a : E} {Q Q' : VK} (h : DP K a σ H Q) (k : ∀ v H', Q v H' → Q' v H') : DP K a σ H Q' := by
  obtain ⟨τ, F, A, L, d, sr, e, h⟩ := h
  exact ⟨τ, F, A, L, d, sr, e, fun v H' l r => k _ _ (h v H' l r)⟩
theorem res_read {p : Prim} {r : List V → Hp → VK → Prop} {ds : List D} {q : Res} {vs : List V} {H1 : Hp} (ok : PrimOk K p r) (l1 : Le H H1) (r1 : RepL K H1 H1 ds vs) (e : primD p ds = some q) (h : ∀ v H', Le H H' → Rep K H' H' (resD q) v → Q v H') : r vs H1 Q := by
  refine ok ds q vs H1 H1 Q (Le.refl H1) r1 e ?_
  cases q with
  | old d => exact fun v hv => h v H1 l1 hv
  | nt es =>
    intro v H2 hh hv
    rcases hh with rfl | ⟨p, ws, hp, rfl⟩
    · exact h v _ l1 hv
    · exact h v _ (l1.trans (upd_le hp)) (hv.mono (upd_le hp) (Tk.refl _))
  | nu es =>
    intro p ws hp hw
    refine h _ _ (l1.trans (upd_le hp)) ?_
    show Rep K _ _ (.lst es) _
    unfold Rep
    exact ⟨p, ws, rfl, upd_same, hw.mono (upd_le hp) (upd_le hp).tk⟩
theorem dp_prim {p : Prim} {args : E} {r : List V → Hp → VK → Prop} (ok : PrimOk K p r) (h : DP K (.prim p args) σ H Q) : DPs K args σ H fun vs H' => r vs H' Q := by
  obtain ⟨τ, F, A, L, d, sr, e, h⟩ := h
  simp only [pev] at e
  obtain ⟨ds, e1, e⟩ := obind e
  obtain ⟨q, e2, e⟩ := obind e
  cases e
  exact ⟨τ, F, A, L, ds, sr, e1, fun vs H1 l1 r1 => res_read ok l1 r1 e2 h⟩
theorem dp_slcL {a lo : E} (h : DP K (.slcL a lo) σ H Q) : DP K a σ H fun x H1 => DP K lo σ H1 fun y H2 => ∃ i, y = .int i ∧ rSlAll K x (some i) none H2 Q := by
  obtain ⟨τ, F, A, L, d, sr, e, h⟩ := h
  simp only [pev] at e
  obtain ⟨x, e1, e⟩ := obind e
  obtain ⟨l, e2, e⟩ := obind e
  obtain ⟨_, e3, e⟩ := obind e
  obtain ⟨q, e4, e⟩ := obind e
  cases e
  cases l with
  | int i =>
    refine ⟨τ, F, A, L, x, sr, e1, fun v H1 l1 r1 => ⟨τ, F, A, L, _, sr.ext l1, e2, fun w H2 l2 r2 => ⟨i, r2.int', ?_⟩⟩⟩
    have := res_read (Q := Q) (ok_slc true false) (l1.trans l2) (RepL.cons (r1.mono l2 l2.tk) (RepL.one r2)) e4 h
    rw [r2.int'] at this
    exact this
  | _ => cases e3
theorem de_rd {p : Prim} {args : E} {r : List V → Hp → VK → Prop} (ok : PrimOk K p r) (h : DE K mg W Γ (.rd p args) σ H Q) : DPs K args σ H fun vs H' => r vs H' Q := by
  obtain ⟨τ, F, A, L, sr, h⟩ := h
  simp only [ev] at h
  cases e1 : pevs args τ with
  | none => rw [e1] at h; exact h.elim
  | some ds =>
    rw [e1] at h
    simp only [R.of_some, R.bind_ok] at h
    cases e2 : primD p ds with
    | none => rw [e2] at h; exact h.elim
    | some q =>
      rw [e2] at h
      simp only [R.of_some, R.bind_ok] at h
      refine ⟨τ, F, A, L, ds, sr, e1, fun vs H1 l1 r1 => ?_⟩
      have sr1 := sr.ext l1
      have st1 : Step F H A F H1 A := ⟨Le.refl F, fun _ h => .inl h, fun a o q _ => l1 a o q, fun _ h => .inl h, (fun a q => by
        cases y : H a with
        | none => rfl
        | some o => rw [l1 a o y] at q; cases q), l1.tk⟩
      refine ok ds q vs H1 H1 Q (Le.refl H1) r1 e2 ?_
      cases q with
      | old d =>
        by_cases i : imm d = true
        · simp only [resV, i, Bool.false_or, if_true, R.of_some, R.bind_ok] at h
          exact fun v hv => h v F H1 A [] ⟨st1, sr1, ⟨rfl, hv.imm (Tk.refl H1) i⟩, Ap.nil, fun _ z => (List.not_mem_nil z).elim⟩
        · simp only [resV, i, Bool.false_or, if_true, R.of_none, R.bind_stuck] at h
          exact h.elim
      | nt es =>
        by_cases i : immL es = true
        · simp only [resV, i, Bool.false_or, if_true, R.of_some, R.bind_ok] at h
          intro v H2 hh hv
          have i2 : imm (.tup es) = true := by unfold imm; exact i
          rcases hh with rfl | ⟨p, ws, hp, rfl⟩
          · exact h v F _ A [] ⟨st1, sr1, ⟨rfl, hv.imm (Tk.refl _) i2⟩, Ap.nil, fun _ z => (List.not_mem_nil z).elim⟩
          · exact h v F _ A [] ⟨st1.withLaid hp, sr1.step hp, ⟨rfl, hv.imm (Tk.refl _) i2⟩, Ap.nil, fun _ z => (List.not_mem_nil z).elim⟩
        · simp only [resV, i, Bool.false_or, R.of_none, R.bind_stuck] at h
          exact h.elim
      | nu es =>
        by_cases i : immL es = true
        · simp only [resV, i, if_true, R.of_some, R.bind_ok] at h
          intro p ws hp hw
          have off := sr1.off_none hp
          refine h _ F _ A [p] ⟨st1.withLaid hp, sr1.step hp, Own.newList hp (hw.imm (Tk.refl H1) i) fun _ => i, Ap.one off, fun b hb => ?_⟩
          rw [List.mem_singleton.mp hb]
          exact .inr (st1.dom p hp)
        · simp only [resV, i, R.of_none, R.bind_stuck] at h
          exact h.elim
end
section
variable {K : KP} {mg : Str → Option Value} {P : L2.St → Prop} {W : WX} {Γ : Env1} {n : Nat} {σ : L2.St} {F H : Hp} {A : List Addr} {L : Nat → V} {τ : Sts} {Dn : Ends}
theorem ds_dropL {i : Nat} (h : DS K mg P W Γ n (.dropL i) Dn σ H) : ∃ a xs v ys, σ[i]? = some (some (.ref a)) ∧ H a = some (.lst xs) ∧ xs = ys ++ [v] ∧ Dn.nx σ (upd H a (.lst ys)) := by
  obtain ⟨τ, F, A, L, sr, hP, h⟩ := h
  simp only [ex] at h
  cases e : τ[i]? with
  | none => rw [e] at h; exact h.elim
  | some s =>
    rw [e] at h
    cases s with
    | ow f d =>
      cases d with
      | lst xs =>
        simp only at h
        by_cases hx : xs = []
        · rw [if_pos hx] at h
          exact h.elim
        · rw [if_neg hx] at h
          obtain ⟨v, A1, Ar, hv, ow, pm, srU, ap, _⟩ := sr.out e
          unfold Own at ow
          obtain ⟨a, us, C, rfl, ha, rfl, kd⟩ := ow
          have hxs : xs = xs.dropLast ++ [xs.getLast hx] := (List.dropLast_concat_getLast hx).symm
          rw [hxs] at kd
          obtain ⟨v1, v2, C1, C2, rfl, rfl, k1, k2⟩ := kd.split
          obtain ⟨w, r, D1, D2, rfl, rfl, k3, k4⟩ := k2.uncons
          obtain ⟨rfl, rfl⟩ := k4.unnil
          refine ⟨a, v1 ++ [w], w, v1, hv, ha, rfl, ?_⟩
          have nd := List.nodup_cons.mp ap.nd
          have na : ∀ b ∈ C1, b ≠ a := fun b hb z => nd.1 (by rw [← z]; exact List.mem_append_left _ hb)
          have apN : Ap F Ar (a :: C1) := ⟨List.nodup_cons.mpr ⟨fun z => nd.1 (List.mem_append_left _ z), (List.nodup_append.mp nd.2).1⟩, fun b hb => ap.a b (by
            rcases List.mem_cons.mp hb with rfl | hb
            · exact List.mem_cons_self
            · exact List.mem_cons_of_mem _ (List.mem_append_left _ hb)), fun b hb => ap.off b (by
            rcases List.mem_cons.mp hb with rfl | hb
            · exact List.mem_cons_self
            · exact List.mem_cons_of_mem _ (List.mem_append_left _ hb))⟩
          have own' : Own K F (upd H a (.lst v1)) f (.lst xs.dropLast) (.ref a) (a :: C1) := by
            unfold Own
            exact ⟨a, v1, C1, rfl, upd_same, rfl, k1.upd ha trivial na⟩
          have hs : ∃ s, (τ.set i Slot.un)[i]? = some s := ⟨.un, by rw [List.getElem?_set_self (List.getElem?_eq_some_iff.mp e).1]⟩
          have sr2 := SR.change (f := f) (d := .lst xs) (B := []) (u := .lst (v1 ++ [w])) hv hs srU ap ha trivial apN own'
          have inA : ∀ b ∈ a :: (C1 ++ (D1 ++ [])), b ∈ A := fun b hb => pm.mem_iff.mpr (List.mem_append_left _ hb)
          refine h σ F _ _ ⟨Le.refl F, fun _ z => .inl z, fun b o q nb => ?_, fun b hb => .inl ?_, fun b q => ?_, own_tk ha trivial⟩ sr2 hP
          · rw [upd_ne fun z => nb (by rw [z]; exact inA a List.mem_cons_self)]
            exact q
          · rcases List.mem_append.mp hb with hb | hb
            · exact inA b (by
                rcases List.mem_cons.mp hb with rfl | hb
                · exact List.mem_cons_self
                · exact List.mem_cons_of_mem _ (List.mem_append_left _ hb))
            · exact pm.mem_iff.mpr (List.mem_append_right _ hb)
          · by_cases z : b = a
            · subst z
              rw [upd_same] at q
              cases q
            · rw [upd_ne z] at q
              exact q
      | _ => exact h.elim
    | un => exact h.elim
    | fz d => exact h.elim
    | lk f d => exact h.elim
theorem ds_set2L {i kk y g : Nat} {v : E} (h : DS K mg P W Γ n (.set2L i kk y g v) Dn σ H) : ∃ m : Nat, DA K mg W Γ (.cons v .nil) σ H fun vs0 H0 => ∃ a, σ[i]? = some (some (.ref a)) ∧ DE K mg W Γ (.var kk) σ H0 fun y1 H1 => ∃ us b xs j0, y1 = .int j0 ∧ H1 a = some (.lst us) ∧ atI us j0 = some (.ref b) ∧ H1 b = some (.lst xs) ∧ xs.length = m ∧ DA K mg W Γ (.cons (.call g (.cons (.var y) (.cons (.cst (.int m)) .nil))) .nil) σ H1 fun vs H2 => rSet2 b (vs0 ++ vs) H2 (fun H' => Dn.nx σ H') := by
  obtain ⟨τ, F, A, L, sr, hP, h⟩ := h
  simp only [ex] at h
  cases e0 : (evs Γ (.cons v .nil) τ >>= fun r0 => R.of (stos r0.2 r0.1)) with
  | stuck => rw [e0] at h; exact h.elim
  | exc c fs => rw [e0] at h; exact h.elim
  | ok q0 =>
    rw [e0] at h
    simp only at h
    cases e1 : q0.2[i]? with
    | none => rw [e1] at h; exact h.elim
    | some s1 =>
      cases e2 : q0.2[kk]? with
      | none => rw [e1, e2] at h; cases s1 <;> (try exact h.elim) <;> (split at h <;> first | exact h.elim | (rename_i z; cases z))
      | some s2 =>
        rw [e1, e2] at h
        split at h
        · rename_i xs j0 z1 z2
          cases z1
          cases z2
          split at h
          · rename_i ys z3
            by_cases hk : kk = i
            · rw [if_pos hk] at h
              exact h.elim
            · rw [if_neg hk] at h
              obtain ⟨j, z4, z5⟩ := Option.bind_eq_some_iff.mp z3
              refine ⟨ys.length, de_mut2n (Ln := fun l => l = ys.length) (mut_setAt (Qn := fun H' => Dn.nx σ H')) ⟨τ, F, A, L, sr, fun x q0' xs' rk j0' j' ys' w1 w2 w3 w4 w5 w6 w7 => ?_, ?_⟩⟩
              · rw [w1] at e0
                simp only [R.bind_ok, w2, R.of_some] at e0
                cases e0
                rw [e1] at w3
                cases w3
                simp only [ev] at w4
                rw [List.getElem?_set_ne (fun z => hk z.symm), e2] at w4
                cases w4
                cases w5
                rw [z4] at w6
                cases w6
                rw [z5] at w7
                cases w7
                rfl
              · cases q : ev Γ (.mut2 .setAt i (.cons v .nil) (.var kk) (.cons (.call g (.cons (.var y) (.cons (.cst (.int ys.length)) .nil))) .nil)) τ with
                | stuck => rw [q] at h; exact h
                | exc c fs => rw [q] at h; exact fun F' H' A' s => h σ F' H' A' s hP
                | ok r =>
                  rw [q] at h
                  exact fun v F' H' A' B p => h σ F' H' A' p.st p.sr hP
          · exact h.elim
        · exact h.elim
theorem ds_spoilT {i k : Nat} {m : Int} (h : DS K mg P W Γ n (.spoilT i k m) Dn σ H) : ∃ t vs b ys, σ[i]? = some (some (.ref t)) ∧ H t = some (.tup vs) ∧ vs[k]? = some (.ref b) ∧ H b = some (.lst ys) ∧ ys.length < sizeLine ∧ Dn.nx σ (upd H b (.lst (ys ++ [.int m]))) := by
  obtain ⟨τ, F, A, L, sr, hP, h⟩ := h
  simp only [ex] at h
  cases e : τ[i]? with
  | none => rw [e] at h; exact h.elim
  | some s =>
    rw [e] at h
    cases s with
    | ow f d =>
      cases f with
      | false => exact h.elim
      | true =>
        cases d with
        | tup xs =>
          simp only at h
          cases e2 : xs[k]? with
          | none => rw [e2] at h; exact h.elim
          | some dy =>
            rw [e2] at h
            cases dy with
            | lst ys =>
              simp only at h
              by_cases hy : ys.length < sizeLine
              · rw [if_pos hy] at h
                obtain ⟨v, A1, Ar, hv, ow, pm, srU, ap, _⟩ := sr.out e
                unfold Own at ow
                obtain ⟨t, vs, rfl, ht, kd⟩ := ow
                obtain ⟨b, ws, C1, Cj, C2, g1, g2, g3, g4, _⟩ := kd.inner e2 ap.nd
                refine ⟨t, vs, b, ws, hv, ht, g1, g2, by rw [← g4.len]; exact hy, ?_⟩
                have bA1 : b ∈ A1 := by rw [g3]; simp
                have bA : b ∈ A := pm.mem_iff.mpr (List.mem_append_left _ bA1)
                have sr2 : SR K (τ.set i .un) σ F (upd H b (.lst (ws ++ [.int m]))) Ar L := srU.keep (Le.refl F) (fun c q y => by
                  rw [upd_ne (fun z => by rw [z, ap.off b bA1] at y; cases y)]
                  exact srU.le c q y) (own_tk g2 trivial) (fun c hc => upd_ne fun z => ap.a b bA1 (z ▸ hc)) srU.off
                refine h σ F _ Ar ⟨Le.refl F, fun _ z => .inl z, fun c o q nb => ?_, fun c hc => .inl (pm.mem_iff.mpr (List.mem_append_right _ hc)), fun c q => ?_, own_tk g2 trivial⟩ sr2 hP
                · rw [upd_ne fun z => nb (by rw [z]; exact bA)]
                  exact q
                · by_cases z : c = b
                  · subst z
                    rw [upd_same] at q
                    cases q
                  · rw [upd_ne z] at q
                    exact q
              · rw [if_neg hy] at h
                exact h.elim
            | _ => exact h.elim
        | _ => exact h.elim
    | un => exact h.elim
    | fz d => exact h.elim
    | lk f d => exact h.elim
def forOStep (Γ : Env1) (n i : Nat) (b : S) (τ : Sts) (d : D) : R Fl := if imm d then .stuck else R.of (put1 τ i (.ow true d)) >>= fun τ' => ex Γ n b τ'
theorem ds_forO {i : Nat} {it : E} {b : S} (pin : PIn P [i]) (h : DS K mg P W Γ n (.forO i it b) Dn σ H) : tFor (iList K (DE K mg W Γ it)) (gName i) (DS K mg P W Γ n b) Dn σ H := by
  obtain ⟨τ, F, A, L, sr, hP, h⟩ := h
  refine de_in (P := P) (Dn := Dn) sr hP ?_
  simp only [ex] at h
  cases e : ev Γ it τ with
  | stuck => rw [e] at h; exact h
  | exc c fs => rw [e] at h; exact h
  | ok r =>
    rw [e] at h
    simp only [R.bind_ok] at h ⊢
    intro v F1 H1 A1 B1 p1
    cases e1 : r.1 with
    | fz d => rw [e1] at h; exact h.elim
    | slot j => rw [e1] at h; exact h.elim
    | own f d =>
      rw [e1] at h
      cases f with
      | false => exact h.elim
      | true =>
        cases d with
        | lst ds =>
          simp only at h
          have pv := p1.vr
          rw [e1] at pv
          have ow : Own K F1 H1 true (.lst ds) v B1 := pv
          unfold Own at ow
          obtain ⟨p, us, C, rfl, hp, rfl, kd⟩ := ow
          refine ⟨p, rfl, ⟨us, SqL.of hp⟩, ?_⟩
          have hl : ds.length = us.length := kd.len
          have st1 := p1.st
          change After K mg P W Dn L F H A (forGo (forOStep Γ n i b) ds r.2) at h
          have pN : p ∉ A1 := p1.ap.a p List.mem_cons_self
          refine for_it (walk_list (xs := us)) (fun k σk Hk => ∃ τk Fk Ak Ck, SR K τk σk Fk Hk Ak L ∧ Step F H A Fk Hk Ak ∧ P σk ∧ Kids K Fk Hk true (ds.drop k) (us.drop k) Ck ∧ Ap Fk Ak Ck ∧ (∀ c ∈ Ck, c ∈ C) ∧ p ∉ Ak ∧ Hk p = some (.lst us) ∧ After K mg P W Dn L F H A (forGo (forOStep Γ n i b) (ds.drop k) τk)) ?_ ?_ ?_ ?_
          · exact ⟨r.2, F1, A1, C, p1.sr, st1, hP, kd, ⟨(List.nodup_cons.mp p1.ap.nd).2, fun b hb => p1.ap.a b (List.mem_cons_of_mem _ hb), fun b hb => p1.ap.off b (List.mem_cons_of_mem _ hb)⟩, fun _ z => z, pN, hp, h⟩
          · rintro k σk Hk _ ⟨τk, Fk, Ak, Ck, _, _, _, _, _, _, _, hpk, _⟩
            exact SqL.of hpk
          · rintro k x σk Hk H3 hk ⟨τk, Fk, Ak, Ck, sk, stk, hPk, kk, apk, sub, pAk, hpk, go⟩ ⟨rfl, hx⟩
            have hkd : k < ds.length := by omega
            have hdrop : ds.drop k = ds[k] :: ds.drop (k + 1) := List.drop_eq_getElem_cons hkd
            have hdropu : us.drop k = us[k] :: us.drop (k + 1) := List.drop_eq_getElem_cons hk
            rw [hdrop, hdropu] at kk
            rw [hdrop] at go
            obtain ⟨w, rr, C1, C2, ew, rfl, k3, k4⟩ := kk.uncons
            obtain ⟨rfl, rfl⟩ := List.cons.inj ew
            have ex0 : us[k] = x := Option.some.inj ((List.getElem?_eq_getElem hk).symm.trans hx)
            rw [ex0] at k3
            unfold forGo at go
            unfold forOStep at go
            by_cases him : imm ds[k] = true
            · rw [if_pos him] at go
              exact go.elim
            · rw [if_neg him] at go
              rcases k3 with ⟨_, _, z⟩ | own
              · exact (him (z rfl)).elim
              · cases q : put1 τk i (.ow true ds[k]) with
                | none => rw [q] at go; exact go.elim
                | some τ' =>
                  rw [q] at go
                  simp only [R.of_some, R.bind_ok] at go
                  obtain ⟨A3, s3, s4⟩ := put1_ow sk own apk.left q
                  show DS K mg P W Γ n b _ (σk.set i (some x)) H3
                  have nC2 : ∀ c ∈ C2, c ∉ A3 := fun c hc z => by
                    rcases s4 c z with y | y
                    · exact apk.right.a c hc y
                    · exact (List.nodup_append.mp apk.nd).2.2 c y c hc rfl
                  have domC2 : ∀ c ∈ C2, ∃ o, H3 c = some o ∧ Nt o := Kids.dom k4
                  have pA3 : p ∉ A3 := fun z => by
                    rcases s4 p z with y | y
                    · exact pAk y
                    · exact (List.nodup_cons.mp p1.ap.nd).1 (sub p (List.mem_append_left _ y))
                  -- from here, as seen from the loop's start
                  have oldC1 : ∀ c ∈ C1, c ∈ A ∨ H c = none := fun c hc => p1.bn c (List.mem_cons_of_mem _ (sub c (List.mem_append_left _ hc)))
                  have stA : Step F H A Fk H3 A3 := by
                    refine ⟨stk.mono, stk.fresh, stk.frame, fun c hc => ?_, stk.dom, stk.tk⟩
                    rcases s4 c hc with y | y
                    · exact stk.own c y
                    · exact oldC1 c y
                  refine ⟨τ', Fk, A3, L, s3, pin _ _ (wipe_set List.mem_cons_self) hPk, ?_⟩
                  cases eb : ex Γ n b τ' with
                  | stuck => rw [eb] at go; exact go
                  | exc c fs =>
                    rw [eb] at go
                    exact fun σ' F' H' A' s hp' => go σ' F' H' A' (stA.trans s) hp'
                  | ok fl =>
                    rw [eb] at go
                    simp only [R.bind_ok] at go
                    cases fl with
                    | ret rv τ2 =>
                      simp only at go
                      exact fun v σ' F' H' A' B L' s rr vr ap bn => go v σ' F' H' A' B L' (stA.trans s) rr vr ap fun b hb => (bn b hb).elim (fun z => stA.own b z) fun z => .inr (stA.dom b z)
                    | next τ2 =>
                      simp only at go
                      intro σ' F' H' A' s s2 hP2
                      have hp' : H' p = some (.lst us) := s.frame p _ hpk pA3
                      have same : ∀ c ∈ C2, H' c = H3 c := fun c hc => by
                        obtain ⟨o, ho, _⟩ := domC2 c hc
                        rw [ho]
                        exact s.frame c o ho (nC2 c hc)
                      have ap2 : Ap F' A' C2 := ⟨apk.right.nd, (fun c hc z => by
                        rcases s.own c z with y | y
                        · exact nC2 c hc y
                        · obtain ⟨o, ho, _⟩ := domC2 c hc
                          rw [ho] at y
                          cases y), fun c hc => by
                        cases q2 : F' c with
                        | none => rfl
                        | some o =>
                          obtain ⟨u, ho, _⟩ := domC2 c hc
                          rcases s.fresh c (by rw [q2]; intro z; cases z) with z | z | z
                          · exact (z (apk.right.off c hc)).elim
                          · rw [ho] at z
                            cases z
                          · exact (nC2 c hc z).elim⟩
                      refine ⟨τ2, F', A', C2, s2, stA.trans s, hP2, k4.mono s.mono s.tk same, ap2, fun c hc => sub c (List.mem_append_right _ hc), fun z => ?_, hp', go⟩
                      rcases s.own p z with y | y
                      · exact pA3 y
                      · rw [hpk] at y
                        cases y
          · rintro σk Hk ⟨τk, Fk, Ak, Ck, sk, stk, hPk, kk, apk, sub, _, hpk, go⟩
            rw [← hl, List.drop_length] at go
            unfold forGo at go
            exact go σk Fk Hk Ak stk sk hPk
        | _ => exact h.elim
theorem da_cst {d : D} {r : E} {v : V} {G : Hp} {Q : List V → Hp → Prop} (i : imm d = true) (hv : Rep K G H d v) (h : DA K mg W Γ (.cons (.cst d) r) σ H Q) : DA K mg W Γ r σ H fun vs H1 => Q (v :: vs) H1 := by
  obtain ⟨τ, F, A, L, sr, h⟩ := h
  refine ⟨τ, F, A, L, sr, ?_⟩
  simp only [evs, ev, R.bind_ok] at h
  cases e : evs Γ r τ with
  | stuck => rw [e] at h; exact h
  | exc c fs => rw [e] at h; exact h
  | ok y =>
    rw [e] at h
    simp only [R.bind_ok] at h
    intro vs F' H' A' B pl
    exact h (v :: vs) F' H' A' ([] ++ B) (PostL.cons (Post.fz sr (hv.imm (Tk.refl H) i)) pl)
theorem ds_swp {i : Nat} {k l a b : E} (h : DS K mg P W Γ n (.swp i k l a b) Dn σ H) : tAsg (tTup (DA K mg W Γ (.cons a (.cons b .nil)))) (gTup K 2 (gCons (gSub (tVar i) (DE K mg W Γ k) rSetL) (gCons (gSub (tVar i) (DE K mg W Γ l) rSetL) gNil))) Dn σ H := by
  obtain ⟨τ, F, A, L, sr, hP, h⟩ := h
  refine ⟨τ, F, A, L, sr, ?_⟩
  simp only [ex] at h
  simp only [evs]
  cases e : ev Γ a τ with
  | stuck => rw [e] at h; exact h
  | exc c fs => rw [e] at h; exact fun F' H' A' s => h σ F' H' A' s hP
  | ok x =>
    rw [e] at h
    simp only [R.bind_ok] at h ⊢
    cases e1 : ev Γ b x.2 with
    | stuck => rw [e1] at h; exact h
    | exc c fs => rw [e1] at h; exact fun F' H' A' s => h σ F' H' A' s hP
    | ok y =>
      rw [e1] at h
      simp only [R.bind_ok] at h ⊢
      intro vs F1 H1 A1 B pl
      obtain ⟨v, w, B1, B2, rfl, rfl, v1, v2⟩ := pl.vr.two
      refine ⟨by rw [sizeLine_eq]; simp, fun p hp => ?_⟩
      cases q1 : x.1 with
      | fz da =>
        cases q2 : y.1 with
        | fz db =>
          rw [q1, q2] at h
          rw [q1] at v1
          rw [q2] at v2
          simp only at h
          by_cases hi : (imm da && imm db) = true
          · rw [if_pos hi] at h
            obtain ⟨i1, i2⟩ := Bool.and_eq_true_iff.mp hi
            have sr1 := pl.sr.step (o := .tup [v, w]) hp
            have st1 : Step F H A F1 (upd H1 p (.tup [v, w])) A1 := pl.st.withLaid hp
            have rv : Rep K F1 (upd H1 p (.tup [v, w])) da v := v1.2.imm (upd_tk hp) i1
            have rw0 : Rep K F1 (upd H1 p (.tup [v, w])) db w := v2.2.imm (upd_tk hp) i2
            have d1 : DE K mg W Γ (.mut .setAt i (.cons (.cst da) (.cons k .nil))) σ (upd H1 p (.tup [v, w])) fun _ H2 => Rep K F1 H2 db w ∧ DE K mg W Γ (.mut .setAt i (.cons (.cst db) (.cons l .nil))) σ H2 fun _ H3 => Dn.nx σ H3 := by
              refine ⟨y.2, F1, A1, L, sr1, ?_⟩
              cases e3 : ev Γ (.mut .setAt i (.cons (.cst da) (.cons k .nil))) y.2 with
              | stuck => rw [e3] at h; exact h
              | exc c fs => rw [e3] at h; exact fun F' H' A' s => h σ F' H' A' (st1.trans s) hP
              | ok r1 =>
                rw [e3] at h
                simp only [R.bind_ok] at h ⊢
                intro _ F2 H2 A2 _ p2
                refine ⟨rw0.imm p2.st.tk i2, r1.2, F2, A2, L, p2.sr, ?_⟩
                cases e4 : ev Γ (.mut .setAt i (.cons (.cst db) (.cons l .nil))) r1.2 with
                | stuck => rw [e4] at h; exact h
                | exc c fs => rw [e4] at h; exact fun F' H' A' s => h σ F' H' A' ((st1.trans p2.st).trans s) hP
                | ok r2 =>
                  rw [e4] at h
                  simp only [R.bind_ok] at h ⊢
                  intro _ F3 H3 A3 _ p3
                  exact h σ F3 H3 A3 ((st1.trans p2.st).trans p3.st) p3.sr hP
            obtain ⟨ad, g1, g2⟩ := de_setAt d1
            refine ⟨p, [v, w], rfl, SqT.of upd_same, rfl, v, [w], rfl, .ref ad, g1, ?_⟩
            refine de_mono (da_one (da_cst i1 rv g2)) fun u H2 z => ?_
            obtain ⟨z1, z2, z3, z4, z5, z6, z7, z8, z9⟩ := z
            refine ⟨z1, z2, z3, z4, z5, z6, z7, z8, w, [], rfl, ?_⟩
            obtain ⟨ad2, g3, g4⟩ := de_setAt z9.2
            exact ⟨.ref ad2, g3, de_mono (da_one (da_cst i2 z9.1 g4)) fun u3 H4 y2 => by
              obtain ⟨y1, y2, y3, y4, y5, y6, y7, y8, y9⟩ := y2
              exact ⟨y1, y2, y3, y4, y5, y6, y7, y8, rfl, y9⟩⟩
          · rw [if_neg hi] at h
            exact h.elim
        | own f d => rw [q1, q2] at h; exact h.elim
        | slot k => rw [q1, q2] at h; exact h.elim
      | own f d => rw [q1] at h; exact h.elim
      | slot k => rw [q1] at h; exact h.elim
end
end Rg
namespace Rg
open PySem PySem.Spec PyProof.Rows L2
def tDispTs (trs : List (TE × TE)) : TE := fun σ H Q => ∀ p, H p = none → tPairs trs σ (upd H p (.dT [])) fun ps H2 => H2 p = some (.dT []) ∧ ∃ kvs : List (List Key × V), (kvs.map (·.1)).Nodup ∧ kvs.length ≤ 15 ∧
  Paired (fun (q : V × V) (e : List Key × V) => (∃ b, q.1 = .ref b ∧ H2 b = some (.tup (e.1.map kV))) ∧ q.2 = e.2) ps kvs ∧ Q (.ref p) (upd H2 p (.dT kvs))
theorem stored_unlike {K : Type} [DecidableEq K] : ∀ (ps xs : List (K × Addr × Value)), ((xs ++ ps).map (·.1)).Nodup → storedAllH xs ps = xs ++ ps
  | [], xs, _ => by simp [storedAllH]
  | p :: ps, xs, h => by
    have e : storedH xs p.1 p.2.1 p.2.2 = xs ++ [p] := by
      have hn : p.1 ∉ xs.map (·.1) := fun z => by
        rw [List.map_append, List.map_cons] at h
        exact (List.nodup_append.mp h).2.2 _ z _ List.mem_cons_self rfl
      refine storedH_new (atKey_none_of_get fun j q z => hn ?_) _ _
      exact List.mem_map.mpr ⟨_, List.mem_of_getElem? z, rfl⟩
    have ih := stored_unlike ps (xs ++ [p]) (by simpa using h)
    show storedAllH (storedH xs p.1 p.2.1 p.2.2) ps = _
    rw [e, ih]
    simp
theorem carry_of {X : Cx} {H2 : Hp} {h : Heap} (ok : HOk X.prog X.w H2 h) : ∀ {ps : List (V × V)} {ws : List (Value × Value)} {kvs : List (List Key × V)}, VV ps ws → Paired (fun (q : V × V) (e : List Key × V) => (∃ b, q.1 = .ref b ∧ H2 b = some (.tup (e.1.map kV))) ∧ q.2 = e.2) ps kvs →
    ∃ xs : List (List Key × Addr × Value), CarriesH (tupleKind (mixKind X.prog X.w)) h ws xs ∧ KT H2 kvs xs ∧ xs.map (·.1) = kvs.map (·.1)
  | [], _, _, r, k => by
    cases r
    cases k
    exact ⟨[], trivial, .nil, rfl⟩
  | q :: ps, _, _, r, k => by
    cases r with
    | @cons _ w _ ws hr rt =>
      cases k with
      | @cons _ e _ kvs hk kt =>
        obtain ⟨xs, c, t, m⟩ := carry_of ok rt kt
        obtain ⟨⟨b, e1, e2⟩, e3⟩ := hk
        obtain ⟨w1, w2⟩ := w
        obtain ⟨r1, r2⟩ := hr
        rw [e1] at r1
        obtain rfl : w1 = Value.ref b := r1
        rw [e3] at r2
        exact ⟨(e.1, b, w2) :: xs, ⟨rfl, rfl, key_of ok e2, c⟩, .cons ⟨rfl, e2, r2⟩ t, by rw [List.map_cons, List.map_cons, m]⟩
theorem pe_dispTs {X : Cx} {pos : Pos} {keys : List (Option Expr)} {values : List Expr} {trs : List (TE × TE)} (hu : X.A.units + 1 < cLine) (pr : PPs X pos keys values trs) (hall : keys.all (·.isSome) = true) (hl : keys.length = values.length) (h0 : keys ≠ []) (h15 : keys.length ≤ 15) : PE X (.Dict keys values pos) (tDispTs trs) := by
  refine ⟨fun pins s σ H Q I q => ?_⟩
  have hn := I.hok.fresh (Nat.le_refl s.heap.objs.size)
  have I1 := I.laid (a := s.heap.objs.size) (o := .dT []) (h' := s.heap.push { cls := .type "dict", data := .dict #[] }) (t' := s.toks) (fun _ _ q => Heap.get?_push_of_some _ q) (Nat.le_refl _) (dt_empty s.heap I.big)
  have pl := pairTrees_length keys values X.env pos hall hl
  rw [arm_eval_Dict, zip_pairTrees keys values X.env pos hall hl, dictDisplay_pairs _ (by
    intro z
    have := congrArg List.length z
    rw [pl] at this
    exact h0 (List.length_eq_zero_iff.mp this)) (by rw [pl]; omega)]
  refine wpAny_bind (wpAny_standAt (wpAny_bind (wpAny_subDictH (knd := tupleKind (mixKind X.prog X.w)) (Q := fun d s' => wpAny (model X.prog X.w) X.A (pure (Value.ref d)) (EP X pins σ Q) X.xe s') (show X.A.units < cLine by omega) (by rw [pl]; exact h15) ?_)))
  have q0 := q _ hn
  refine wpAny_mono (pr.run pins _ σ _ _ I1 q0) (fun ws s2 ⟨ps, H2, I2, rel, hb⟩ => ?_) fun _ _ z => z
  obtain ⟨e1, kvs, nd, k15, pk, q2⟩ := hb
  obtain ⟨z, hd, xs0, r0, dd⟩ := L2.dt_of I2.hok e1
  cases r0
  obtain ⟨xs, c, t, m⟩ := carry_of I2.hok rel pk
  refine ⟨xs, c, dd, fun h' tk hm hs => wpAny_pure ⟨.ref s.heap.objs.size, _, ?_, rfl, q2⟩⟩
  have se : storedAllH [] xs = xs := by
    have := stored_unlike xs [] (by rw [List.nil_append, m]; exact nd)
    rwa [List.nil_append] at this
  rw [se] at hm
  have hm' : h'.DictOfH (tupleKind (mixKind X.prog X.w)) s.heap.objs.size xs := hm
  have he : ∃ q, h'.get? s.heap.objs.size = some q := let ⟨q, _, _, hq, _⟩ := hm'; ⟨q, hq⟩
  refine d_write I2 (by rw [e1]; exact True.intro) hs he ⟨by rw [sizeLine_eq]; omega, hd, xs, ?_, ?_⟩
  · refine Paired.mapP t fun a b hab => ⟨hab.1, ?_, hab.2.2⟩
    have nb : b.2.1 ≠ s.heap.objs.size := fun z => by
      have := hab.2.1
      rw [z, e1] at this
      cases this
    rw [upd_ne nb]
    exact hab.2.1
  · obtain ⟨o, es, ep, a1, a2, a3, a4, a5, a6⟩ := hm'
    exact ⟨o, es, ep, a1, a2, a3, a4, a6⟩
def tTupI (k : List Int) : TE := fun _ H Q => ∀ q, H q = none → Q (.ref q) (upd H q (.tup (k.map V.int)))
def kvI (p : List Int × Int) : List Key × V := (p.1.map Sum.inl, .int p.2)
theorem pairs_ok {σ : L2.St} : ∀ (ps : List (List Int × Int)) (H : Hp) (R : List (V × V) → Hp → Prop), (∀ qs H2, Le H H2 → (∀ a, H2 a = none → H a = none) → Paired (fun (q : V × V) (e : List Key × V) => (∃ b, q.1 = .ref b ∧ H2 b = some (.tup (e.1.map kV))) ∧ q.2 = e.2) qs (ps.map kvI) → R qs H2) → tPairs (ps.map fun p => (tTupI p.1, tC (.int p.2))) σ H R
  | [], H, R, h => h [] H (Le.refl H) (fun _ z => z) .nil
  | p :: ps, H, R, h => by
    intro q hq
    show tPairs (ps.map fun p => (tTupI p.1, tC (.int p.2))) σ (upd H q (.tup (p.1.map V.int))) fun qs H3 => R ((.ref q, .int p.2) :: qs) H3
    refine pairs_ok ps _ _ fun qs H2 le dom pk => h _ H2 (fun a o e => ?_) (fun a z => ?_) (.cons ⟨⟨q, rfl, ?_⟩, rfl⟩ pk)
    · refine le a o ?_
      rw [upd_ne (fun z => by rw [z, hq] at e; cases e)]
      exact e
    · have := dom a z
      by_cases c : a = q
      · rw [c]; exact hq
      · rwa [upd_ne c] at this
    · have e : (kvI p).1.map kV = p.1.map V.int := by
        unfold kvI
        simp only [List.map_map]
        rfl
      rw [e]
      exact le q _ upd_same
theorem kids_ints {K : KP} {F H : Hp} : ∀ ps : List (List Int × Int), Kids K F H true (ps.map fun p => .int p.2) (ps.map fun p => V.int p.2) []
  | [] => Kids.nil
  | p :: ps => Kids.cons (A := []) (.inl ⟨rfl, by unfold Rep; rfl, fun _ => rfl⟩) (kids_ints ps)
theorem disp_ok {K : KP} {σ : L2.St} {H F : Hp} {A : List Addr} {L : Nat → V} {τ : Sts} {Q : VK} {ps : List (List Int × Int)} (nd : (ps.map (·.1)).Nodup) (hl : ps.length ≤ 15) (sr : SR K τ σ F H A L) (h : ∀ v F' H' A' B, Post K σ L F H A τ F' H' A' (.own true (.dT (ps.map fun p => p.1.map Sum.inl) (ps.map fun p => .int p.2))) v B → Q v H') : tDispTs (ps.map fun p => (tTupI p.1, tC (.int p.2))) σ H Q := by
  intro p hp
  refine pairs_ok ps (upd H p (.dT [])) _ fun qs H2 le dom pk => ⟨le p _ upd_same, ps.map kvI, ?_, by rw [List.length_map]; exact hl, pk, ?_⟩
  · have e : (ps.map kvI).map (·.1) = (ps.map (·.1)).map fun k => k.map Sum.inl := by
      rw [List.map_map, List.map_map]
      rfl
    rw [e]
    refine List.Pairwise.map _ (fun a b hab z => hab ?_) nd
    have : ∀ {a b : List Int}, a.map (Sum.inl (β := Str)) = b.map Sum.inl → a = b := by
      intro a
      induction a with
      | nil => intro b h; cases b with | nil => rfl | cons => cases h
      | cons x a ih =>
        intro b h
        cases b with
        | nil => cases h
        | cons y b =>
          simp only [List.map_cons, List.cons.injEq, Sum.inl.injEq] at h
          rw [h.1, ih h.2]
    exact this z
  · have keep : ∀ a o, H a = some o → (upd H2 p (.dT (ps.map kvI))) a = some o := fun a o e => by
      have na : a ≠ p := fun z => by rw [z, hp] at e; cases e
      rw [upd_ne na]
      exact le a o (by rw [upd_ne na]; exact e)
    have tk : Tk H (upd H2 p (.dT (ps.map kvI))) := ⟨fun a xs e => keep a _ e, fun a fs e => keep a _ e⟩
    have inA : ∀ a ∈ A, ∃ o, H a = some o := fun a ha => by
      obtain ⟨u, e, _⟩ := sr.slots.dom a ha
      exact ⟨u, e⟩
    refine h _ F _ A [p] ⟨⟨Le.refl F, fun _ z => .inl z, fun a o e _ => keep a o e, fun _ z => .inl z, fun a z => ?_, tk⟩, sr.keep (Le.refl F) (fun a o e => keep a o (sr.le a o e)) tk (fun a ha => ?_) sr.off, ?_, ⟨List.nodup_cons.mpr ⟨List.not_mem_nil, List.nodup_nil⟩, fun b hb z => ?_, fun b hb => ?_⟩, fun b hb => by rw [List.mem_singleton.mp hb]; exact .inr hp⟩
    · cases e : H a with
      | none => rfl
      | some o =>
        have := keep a o e
        rw [z] at this
        cases this
    · obtain ⟨o, e⟩ := inA a ha
      rw [e]
      exact keep a o e
    · show Own K F _ true (.dT _ _) (.ref p) [p]
      unfold Own
      refine ⟨p, ps.map fun p => V.int p.2, [], rfl, ?_, by rw [List.length_map, List.length_map], rfl, kids_ints ps⟩
      rw [upd_same]
      congr 2
      rw [List.zip_map']
      rfl
    · rw [List.mem_singleton.mp hb] at z
      obtain ⟨o, e⟩ := inA p z
      rw [hp] at e
      cases e
    · rw [List.mem_singleton.mp hb]
      cases e : F p with
      | none => rfl
      | some o =>
        have := sr.le p o e
        rw [hp] at this
        cases this
theorem de_dispC {K : KP} {mg : Str → Option Value} {W : WX} {Γ : Env1} {σ : L2.St} {H : Hp} {Q : VK} {ps : List (List Int × Int)} (h : DE K mg W Γ (.dispC ps) σ H Q) : tDispTs (ps.map fun p => (tTupI p.1, tC (.int p.2))) σ H Q := by
  obtain ⟨τ, F, A, L, sr, h⟩ := h
  simp only [ev] at h
  by_cases c : (ps.map (·.1)).Nodup ∧ ps.length ≤ 15
  · rw [if_pos c] at h
    exact disp_ok c.1 c.2 sr h
  · rw [if_neg c] at h
    exact h.elim
def tCs : List Int → TA
  | [] => tNil
  | i :: k => tCons (tC (.int i)) (tCs k)
theorem tCs_run {σ : L2.St} {H : Hp} : ∀ (k : List Int) (Q : List V → Hp → Prop), Q (k.map V.int) H → tCs k σ H Q
  | [], Q, h => h
  | i :: k, Q, h => tCs_run k (fun xs H2 => Q (.int i :: xs) H2) h
theorem repL_range {K : KP} {F H : Hp} : ∀ l : List Nat, RepL K F H (l.map fun k => D.int (k : Nat)) (l.map fun k => V.int ((0 : Int) + (k : Nat)))
  | [] => RepL.nil
  | k :: l => by
    refine RepL.cons ?_ (repL_range l)
    show Rep K F H (.int (k : Nat)) (.int ((0 : Int) + (k : Nat)))
    rw [Int.zero_add]
    exact Rep.ofInt _
theorem de_tupR {K : KP} {mg : Str → Option Value} {W : WX} {Γ : Env1} {σ : L2.St} {H : Hp} {Q : VK} {a : E} (h : DE K mg W Γ (.tupR a) σ H Q) : tTupRg (tRg1 (DE K mg W Γ a)) σ H Q := by
  obtain ⟨τ, F, A, L, sr, h⟩ := h
  refine ⟨τ, F, A, L, sr, ?_⟩
  simp only [ev] at h
  cases e : ev Γ a τ with
  | stuck => rw [e] at h; exact h
  | exc c fs => rw [e] at h; exact h
  | ok x =>
    rw [e] at h
    simp only [R.bind_ok] at h ⊢
    intro v F1 H1 A1 B p
    have pv := p.vr
    cases q : x.1 with
    | own g d0 => rw [q] at h; exact h.elim
    | slot j => rw [q] at h; exact h.elim
    | fz d0 =>
      rw [q] at h pv
      cases d0 with
      | int n =>
        simp only at h
        have hv : v = .int n := pv.2
        subst hv
        by_cases c : 0 ≤ n ∧ n ≤ 1000000
        · rw [if_pos c] at h
          refine ⟨n, rfl, RgOk.of_le (Int.le_refl _) (by omega) (by omega) c.1, fun q hq => ?_⟩
          have er : rgV 0 n = (List.range n.toNat).map fun k => V.int ((0 : Int) + (k : Nat)) := by
            unfold rgV
            rw [Int.sub_zero]
          rw [er]
          exact h _ F1 _ A1 [] ⟨p.st.withLaid hq, p.sr.step hq, ⟨rfl, Rep.ofTup upd_same (repL_range _)⟩, Ap.nil, fun _ z => (List.not_mem_nil z).elim⟩
        · rw [if_neg c] at h
          exact h.elim
      | _ => exact h.elim
theorem Kids.ofPerm {K : KP} {F H : Hp} {f : Bool} {P P' : List (V × D)} (h : P.Perm P') : ∀ {B : List Addr}, Kids K F H f (P.map (·.2)) (P.map (·.1)) B → ∃ B', B'.Perm B ∧ Kids K F H f (P'.map (·.2)) (P'.map (·.1)) B' := by
  induction h with
  | nil => exact fun k => ⟨_, List.Perm.refl _, k⟩
  | cons x h ih =>
    intro B k
    obtain ⟨v, r, A1, A2, e1, rfl, k1, k2⟩ := k.uncons
    rw [List.map_cons, List.cons.injEq] at e1
    obtain ⟨rfl, rfl⟩ := e1
    obtain ⟨B', pm, k3⟩ := ih k2
    exact ⟨A1 ++ B', List.Perm.append_left A1 pm, Kids.cons k1 k3⟩
  | swap x y l =>
    intro B k
    obtain ⟨v, r, A1, A2, e1, rfl, k1, k2⟩ := k.uncons
    rw [List.map_cons, List.cons.injEq] at e1
    obtain ⟨rfl, rfl⟩ := e1
    obtain ⟨v2, r2, A3, A4, e2, rfl, k3, k4⟩ := k2.uncons
    rw [List.map_cons, List.cons.injEq] at e2
    obtain ⟨rfl, rfl⟩ := e2
    refine ⟨A3 ++ (A1 ++ A4), ?_, Kids.cons k3 (Kids.cons k1 k4)⟩
    rw [← List.append_assoc, ← List.append_assoc]
    exact (List.perm_append_comm (l₁ := A3) (l₂ := A1)).append_right A4
  | trans h1 h2 ih1 ih2 =>
    intro B k
    obtain ⟨B1, p1, k1⟩ := ih1 k
    obtain ⟨B2, p2, k2⟩ := ih2 k1
    exact ⟨B2, p2.trans p1, k2⟩
theorem sort_core {K : KP} {G H : Hp} {Q : VK} {xs : List D} {us : List V} {a : Addr} (le : Le G H) (ha : H a = some (.lst us)) (hu : RepL K G H xs us) (hok : sortOk xs = true) (q : ∀ p, H p = none → Q (.ref p) (upd H p (.lst (((us.zip xs).mergeSort fun x y => leD x.2 y.2).map (·.1))))) : rSortD K [.ref a] H Q := by
  obtain ⟨hz, hlen⟩ := hu.zip
  have hf : (us.zip xs).map (·.1) = us := List.map_fst_zip (by omega)
  have hsd : (us.zip xs).map (·.2) = xs := List.map_snd_zip (by omega)
  unfold sortOk at hok
  simp only [Bool.and_eq_true, List.all_eq_true, Bool.or_eq_true, decide_eq_true_eq] at hok
  obtain ⟨⟨h2, h3⟩, h4⟩ := hok
  have hmem : ∀ b ∈ us.zip xs, b.2 ∈ xs := fun b hb => by
    have := List.mem_map_of_mem (f := (·.2)) hb
    rw [hsd] at this
    exact this
  have hsh : ∀ d ∈ xs, (toPy d).depth ≤ 64 := fun d hd => by
    have := (h2 d hd).1
    unfold SeqAt.shaped at this
    simp only [Bool.and_eq_true, decide_eq_true_eq] at this
    exact this.2
  have emap : ((us.zip xs).map fun b => (b.1, toPy b.2)).map (·.2) = xs.map toPy := by
    rw [List.map_map, ← congrArg (List.map toPy) hsd, List.map_map]
    rfl
  refine ⟨a, (us.zip xs).map fun b => (b.1, toPy b.2), rfl, ?_, ?_, ?_, ?_, ?_, fun p hp => ?_⟩
  · rw [List.map_map]
    show SqL K H a ((us.zip xs).map (·.1))
    rw [hf]
    exact SqL.of ha
  · intro b hb
    obtain ⟨b0, hb0, rfl⟩ := List.mem_map.mp hb
    exact ⟨(hz b0 hb0).dp le (SeqAt.canLay_of_shaped (h2 _ (hmem b0 hb0)).1), hsh _ (hmem b0 hb0)⟩
  · rw [emap]
    intro d hd d' hd'
    obtain ⟨x, hx, rfl⟩ := List.mem_map.mp hd
    obtain ⟨y, hy, rfl⟩ := List.mem_map.mp hd'
    exact (h2 x hx).2 y hy
  · rw [emap]
    rcases h3 with h3 | h3
    · refine .inl fun d hd => ?_
      obtain ⟨x, hx, rfl⟩ := List.mem_map.mp hd
      have := h3 x hx
      unfold tupNe at this
      split at this
      · exact ⟨_, _, by unfold toPy toPyL; rfl⟩
      · cases this
    · refine .inr fun d hd => ?_
      obtain ⟨x, hx, rfl⟩ := List.mem_map.mp hd
      have := h3 x hx
      cases x <;> first | (cases this; done) | exact ⟨(by unfold toPy; exact fun z => nomatch z), (by unfold toPy; exact fun _ z => nomatch z)⟩
  · rw [List.length_map, List.length_zip]
    omega
  · have e1 : ((us.zip xs).map fun b => (b.1, toPy b.2)).mergeSort (PySem.W.dataLe false (·.2)) = ((us.zip xs).mergeSort fun x y => leD x.2 y.2).map fun b => (b.1, toPy b.2) :=
      (List.map_mergeSort (r := fun x y : V × D => leD x.2 y.2) (s := PySem.W.dataLe false (·.2)) (f := fun b : V × D => (b.1, toPy b.2)) (fun a _ b _ => rfl)).symm
    rw [e1, List.map_map]
    exact q p hp
theorem de_sortO {K : KP} {mg : Str → Option Value} {W : WX} {Γ : Env1} {σ : L2.St} {H : Hp} {Q : VK} {i : Nat} (h : DE K mg W Γ (.sortO i) σ H Q) : tVar i σ H fun x H1 => rSortD K [x] H1 Q := by
  obtain ⟨τ, F, A, L, sr, h⟩ := h
  simp only [ev] at h
  cases e0 : τ[i]? with
  | none => rw [e0] at h; exact h.elim
  | some s0 =>
    rw [e0] at h
    cases s0 with
    | ow f d =>
      cases d with
      | lst xs =>
        simp only at h
        by_cases ok : sortOk xs = true
        · rw [if_pos ok] at h
          obtain ⟨v, C, Ar, g1, g2, g3, g4, g5, _⟩ := sr.out e0
          refine ⟨v, g1, ?_⟩
          have rd := Own.read sr.le g2
          unfold Own at g2
          obtain ⟨a, us, C1, rfl, ha, rfl, ka⟩ := g2
          have hu : RepL K H H xs us := by
            unfold Rep at rd
            obtain ⟨a2, us2, z1, z2, z3⟩ := rd
            cases z1
            rw [ha] at z2
            cases z2
            exact z3
          refine sort_core (Le.refl H) ha hu ok fun p hp => ?_
          have hl := ka.len
          have hf : (us.zip xs).map (·.1) = us := List.map_fst_zip (by omega)
          have hs : (us.zip xs).map (·.2) = xs := List.map_snd_zip (by omega)
          have pm : (us.zip xs).Perm ((us.zip xs).mergeSort fun x y => leD x.2 y.2) := (List.mergeSort_perm _ _).symm
          have ka' : Kids K F H f ((us.zip xs).map (·.2)) ((us.zip xs).map (·.1)) C1 := by rw [hf, hs]; exact ka
          obtain ⟨B, pB, kB⟩ := Kids.ofPerm pm ka'
          have e2 : ((us.zip xs).mergeSort fun x y => leD x.2 y.2).map (·.2) = xs.mergeSort leD := by
            rw [List.map_mergeSort (r := fun x y : V × D => leD x.2 y.2) (s := leD) (f := fun b : V × D => b.2) (fun a _ b _ => rfl), hs]
          rw [e2] at kB
          generalize ((us.zip xs).mergeSort fun x y => leD x.2 y.2).map (·.1) = ws at *
          have arA : ∀ x ∈ Ar, x ∈ A := fun x hx => g3.mem_iff.mpr (List.mem_append_right _ hx)
          have inA : ∀ x ∈ a :: C1, x ∈ A := fun x hx => g3.mem_iff.mpr (List.mem_append_left _ hx)
          have nb : ∀ x ∈ B, x ≠ p := fun x hx z => by
            obtain ⟨o, ho, _⟩ := Kids.dom kB x hx
            rw [z, hp] at ho
            cases ho
          have kB2 := kB.mono (H' := upd H p (.lst ws)) (Le.refl _) (upd_tk hp) fun x hx => upd_ne (nb x hx)
          have off := g4.off_none hp
          have inC : ∀ x ∈ B, x ∈ a :: C1 := fun x hx => List.mem_cons_of_mem _ (pB.mem_iff.mp hx)
          have apB : Ap F Ar B := ⟨pB.nodup_iff.mpr (List.nodup_cons.mp g5.nd).2, fun x hx => g5.a x (inC x hx), fun x hx => g5.off x (inC x hx)⟩
          refine h _ F _ Ar (p :: B) ⟨((Step.less arA).withLaid hp), g4.step hp, ?_, (Ap.one off).app apB fun x hx z => nb x z (List.mem_singleton.mp hx), fun x hx => ?_⟩
          · show Own K F _ _ (.lst _) _ _
            unfold Own
            exact ⟨p, _, _, rfl, upd_same, rfl, kB2⟩
          · rcases List.mem_cons.mp hx with rfl | hx
            · exact .inr hp
            · exact .inl (inA x (inC x hx))
        · rw [if_neg ok] at h
          exact h.elim
      | _ => exact h.elim
    | _ => exact h.elim
end Rg
namespace L2
open PySem PySem.Spec PyProof.Rows
section
variable {P : Program} {w : World} {A : Around} {E : Value → Shared → Prop} {s : Shared}
theorem call_set_lstI {l : Addr} {items : Array Value} (ns : List Int) {Q : Value → Shared → Prop} (hh : A.handled = none) (hl : s.heap.IsList l items) (hit : IntsAre items.toList ns) (hb : ns.length + 1 < scanBound)
    (h : ∀ (h' : Heap) (tk c : Nat), SetR w h' s.heap.objs.size (fun j => decide (j ∈ ns)) c → c ≤ ns.length → (∀ b o, s.heap.get? b = some o → h'.get? b = some o) → Q (.ref s.heap.objs.size) { s with heap := h', toks := tk }) :
    wpAny (model P w) A (call (.type "set") [.ref l]) Q E s := by
  have hisz : items.size = ns.length := by
    have q := IntsAre.length hit
    rw [Array.length_toList] at q
    exact q
  obtain ⟨c, tl, hmro⟩ := F.called_set.mro
  have hmade := F.called_set.made
  have hsub := F.called_set.sub
  refine wpAny_call (codeAny_of_tree ?_)
  show wpAny _ _ (callAny (.type "set") _) _ _ _
  refine wpAny_pure ⟨Code.quiet_builtin _ (by decide +kernel), codeAny_builtin F.entry_type_call ?_⟩
  rw [Around.under_plain (weight_type_call_type "set" [.ref l] []) rfl]
  have h1 := F.called_set.notType
  have h2 := F.called_set.canCreate
  have hct := F.typeCall_set_1 (.ref l)
  repeat (any_goals (first | assumption | wp_step))

  refine codeAny_mono (code_set_led1 (.ref l) (E := E) (Q₁ := fun obj s₁ => obj = .ref s.heap.objs.size ∧ s₁ = { s with heap := s.heap.push { cls := .type "set", dict := none, data := .set #[] 0 (.fresh 0 0 (!w.params.followText "set-order")) } }) ⟨rfl, rfl⟩) fun r s₁ hr => ?_
  cases r with
  | error e => exact hr
  | ok fl =>
    cases fl with
    | ret obj =>
      obtain ⟨rfl, rfl⟩ := hr
      have hS : (s.heap.push { cls := .type "set", dict := none, data := .set #[] 0 (.fresh 0 0 (!w.params.followText "set-order")) }).get? s.heap.objs.size = some { cls := .type "set", dict := none, data := .set #[] 0 (.fresh 0 0 (!w.params.followText "set-order")) } := Heap.get?_push_size _ rfl
      have hT : Shared.TypeIs { s with heap := s.heap.push { cls := .type "set", dict := none, data := .set #[] 0 (.fresh 0 0 (!w.params.followText "set-order")) } } (.ref s.heap.objs.size) "set" := ⟨_, hS, rfl⟩
      have hli := F.called_set.init.lookup
      have hbi := F.called_set.init.bind (.ref s.heap.objs.size)
      repeat (any_goals (first | assumption | wp_step))

      refine codeAny_mono (codeAny_call_builtin (R := wants (fun r s₂ => r = .none ∧ ∃ h' tk c, s₂ = { s with heap := h', toks := tk } ∧ SetR w h' s.heap.objs.size (fun j => decide (j ∈ ns)) c ∧ c ≤ ns.length ∧
          (∀ b o, s.heap.get? b = some o → h'.get? b = some o)) E) F.called_set.init.plain F.entry_set_init (check_set_init_1 hT ?_)) fun r₂ s₂ hr₂ => ?_
      · obtain ⟨ol, hol, hcl, nl, hdl⟩ := hl
        obtain ⟨ocls, odict, odata, oslots⟩ := ol
        simp only at hcl hdl
        subst hcl; subst hdl
        have hol' : (s.heap.push { cls := .type "set", dict := none, data := .set #[] 0 (.fresh 0 0 (!w.params.followText "set-order")) }).get? l = some { cls := .type "list", dict := odict, data := .seq items nl, slots := oslots } := Heap.get?_push_of_some _ hol
        have hsls := F.sub_list_set
        have hslf := F.sub_list_frozenset
        have hne : (Value.type "list" == Value.type "dict") = false := by decide
        have hl1 : (s.heap.push { cls := .type "set", dict := none, data := .set #[] 0 (.fresh 0 0 (!w.params.followText "set-order")) }).IsList l items := ⟨_, hol', rfl, nl, rfl⟩
        unfold Builtin.«set.__init__» noKeywords Builtin.Frozenset.updateFrom
        generalize hPI : pyIter = PI
        wp_walk
        subst hPI

        refine wpAny_pyIter_list hl1 ?_
        refine wpAny_bind (wpAny_runValue ?_)
        have hlS : l < s.heap.objs.size := Heap.lt_size hol
        have hh3 : A.in1.in1.in1.handled = none := by simp [hh]
        have hneI : l ≠ (s.heap.push { cls := .type "set", dict := none, data := .set #[] 0 (.fresh 0 0 (!w.params.followText "set-order")) }).objs.size := by
          rw [Heap.size_push]; exact Nat.ne_of_lt (Nat.lt_succ_of_lt hlS)
        have hSf : s.heap.objs.size ∉ [(s.heap.push { cls := .type "set", dict := none, data := .set #[] 0 (.fresh 0 0 (!w.params.followText "set-order")) }).objs.size, l] := by
          rw [Heap.size_push]; simp only [List.mem_cons, List.mem_singleton, List.not_mem_nil, or_false, not_or]
          exact ⟨Nat.ne_of_lt (Nat.lt_succ_self _), Nat.ne_of_gt hlS⟩
        have hval : ∀ (i : Nat) (v : Value), items[i]? = some v → ∃ k t, ns[i]? = some k ∧ v = .int k t := fun i v hv => by
          have hi : i < ns.length := by rw [← hisz]; exact (Array.getElem?_eq_some_iff.mp hv).1
          obtain ⟨t, e⟩ := PyProof.Rows.IntsAre.int_at hit i v (by rw [Array.getElem?_toList]; exact hv)
          refine ⟨ns[i], t, List.getElem?_eq_getElem hi, ?_⟩
          rw [e, List.getD_eq_getElem?_getD, List.getElem?_eq_getElem hi] <;> rfl
        refine set_update_ints ((Walks.list hh3 _ l hneI items).toS) s.heap.objs.size
          hSf ns hisz hb hval (items.size - 0) 0 _ (by omega) (Nat.zero_le _)
          ⟨⟨_, Heap.get?_push_size _ rfl, rfl, rfl⟩, (hl1.push _)⟩ ?hS0 ?hR
        case hS0 =>
          have hget : ((s.heap.push { cls := .type "set", dict := none, data := .set #[] 0 (.fresh 0 0 (!w.params.followText "set-order")) }).push { cls := .type "list_iterator", data := .fields #[.ref l, .int 0 0] }).get? s.heap.objs.size
              = some { cls := .type "set", dict := none, data := .set #[] 0 (.fresh 0 0 (!w.params.followText "set-order")) } := Heap.get?_push_of_some _ hS
          exact ⟨0, Nat.le_refl 0, setR_new_at hget⟩
        case hR =>
          intro s' c' hm hc' hS'
          obtain ⟨h', g2, d', tk', os'⟩ := s'
          have eg : g2 = s.gens := hm.gens
          have ed : d' = s.drawn := hm.drawn
          have eo : os' = s.os := hm.os
          subst eg; subst ed; subst eo
          show wpAny _ _ _ _ _ _
          refine wpAny_pure ?_
          show wpAny _ _ (ret Value.none) _ _ _
          rw [hisz] at hc'
          refine wpAny_pure ⟨rfl, h', tk', c', rfl, hS', hc', fun b o e => ?_⟩
          have hb0 : b < s.heap.objs.size := Heap.lt_size e
          have hb1 : b ≠ s.heap.objs.size := Nat.ne_of_lt hb0
          have hb2 : b ≠ (s.heap.push { cls := .type "set", dict := none, data := .set #[] 0 (.fresh 0 0 (!w.params.followText "set-order")) }).objs.size := by
            rw [Heap.size_push]; exact Nat.ne_of_lt (Nat.lt_succ_of_lt hb0)
          exact hm.heap b o (by simp only [List.mem_cons, List.mem_singleton, List.not_mem_nil, or_false, not_or]; exact ⟨hb1, hb2⟩) (Heap.get?_push_of_some _ (Heap.get?_push_of_some _ e))

      · cases r₂ with
        | error e => exact hr₂
        | ok fl₂ =>
          cases fl₂ with
          | ret r =>
            obtain ⟨rfl, h', tk, c', rfl, hS', hc', hk'⟩ := hr₂
            repeat (any_goals (first | assumption | wp_step))
            exact h _ _ _ hS' hc' hk'
          | _ => exact hr₂.elim
    | _ => exact hr.elim
end
def rSetLI (K : PySem.W.Frag) (w : World) : List V → Hp → VK → Prop := fun xs H Q => ∃ (l : Addr) (ns : List Int), xs = [V.ref l] ∧ SqL K H l (ns.map V.int) ∧ ns.length < 64 ∧ ∀ p c, c ≤ ns.length → H p = none → Q (.ref p) (upd H p (SetO w p (fun j => decide (j ∈ ns)) c))
theorem cr_setLI {X : Cx} (hc : X.calm = true) : CallR X (.type "set") (rSetLI X.K X.w) := by
  intro pins s σ H xs us Q I r h
  obtain ⟨l, ns, rfl, hl, hf, q⟩ := h
  rw [Vals.ref1 r]
  obtain ⟨its, rv, pl, hz⟩ := I.list hl
  have hn : H s.heap.objs.size = none := I.hok.fresh (Nat.le_refl _)
  refine call_set_lstI ns (I.ok.hd hc) pl.isList (by simpa using rv.ints) (by unfold scanBound; omega) fun h' tk c R hc' k => ?_
  exact ⟨.ref s.heap.objs.size, _, I.laid (t' := tk) k (Nat.le_refl _) (setO_new R), rfl, q _ c hc' hn⟩
end L2
namespace Rg
open PySem PySem.Spec PyProof.Rows L2
theorem intsL_eq : ∀ {xs : List D} {ns : List Int}, intsL xs = some ns → xs = ns.map D.int
  | [], ns, h => by
    have : ns = [] := (Option.some.inj h).symm
    subst this
    rfl
  | d :: r, ns, h => by
    cases d with
    | int n =>
      unfold intsL at h
      cases e : intsL r with
      | none => rw [e] at h; cases h
      | some l =>
        rw [e] at h
        have : ns = n :: l := (Option.some.inj h).symm
        subst this
        rw [intsL_eq e]
        rfl
    | _ => cases h
theorem mem_insI {x k : Int} : ∀ {l : List Int}, k ∈ insI x l ↔ k = x ∨ k ∈ l
  | [] => by simp [insI]
  | y :: l => by
    unfold insI
    split
    · simp
    · split
      · rename_i h1 h2
        subst h2
        simp
      · rw [List.mem_cons, mem_insI, List.mem_cons]
        constructor
        · rintro (h | h | h)
          · exact .inr (.inl h)
          · exact .inl h
          · exact .inr (.inr h)
        · rintro (h | h | h)
          · exact .inr (.inl h)
          · exact .inl h
          · exact .inr (.inr h)
theorem insI_rise {x : Int} : ∀ {l : List Int}, l.Pairwise (· < ·) → (insI x l).Pairwise (· < ·)
  | [], _ => by simp [insI]
  | y :: l, h => by
    obtain ⟨h1, h2⟩ := List.pairwise_cons.mp h
    unfold insI
    split
    · rename_i c
      refine List.pairwise_cons.mpr ⟨fun z hz => ?_, h⟩
      rcases List.mem_cons.mp hz with rfl | hz
      · exact c
      · have := h1 z hz
        omega
    · split
      · exact h
      · rename_i c1 c2
        refine List.pairwise_cons.mpr ⟨fun z hz => ?_, insI_rise h2⟩
        rcases mem_insI.mp hz with rfl | hz
        · omega
        · exact h1 z hz
theorem setI_rise : ∀ l : List Int, (setI l).Pairwise (· < ·)
  | [] => List.Pairwise.nil
  | _ :: l => insI_rise (setI_rise l)
theorem mem_setI {k : Int} : ∀ {l : List Int}, k ∈ setI l ↔ k ∈ l
  | [] => Iff.rfl
  | x :: l => by
    show k ∈ insI x (setI l) ↔ _
    rw [mem_insI, mem_setI, List.mem_cons]
theorem rise_eq : ∀ {a b : List Int}, a.Pairwise (· < ·) → b.Pairwise (· < ·) → (∀ k, k ∈ a ↔ k ∈ b) → a = b := fun {a b} ha hb h =>
  List.Perm.eq_of_pairwise (le := fun x y : Int => x < y) (fun x y _ _ h1 h2 => by omega) ha hb ((List.perm_ext_iff_of_nodup (ha.imp fun {x y} h e => by omega) (hb.imp fun {x y} h e => by omega)).mpr h)
theorem repL_intsU {K : KP} {F H : Hp} : ∀ (ns : List Int), RepL K F H (ns.map D.int) (ns.map V.int)
  | [] => RepL.nil
  | n :: ns => RepL.cons (Rep.ofInt n) (repL_intsU ns)
theorem repL_intsU_eq {K : KP} {F H : Hp} : ∀ {ns : List Int} {vs : List V}, RepL K F H (ns.map D.int) vs → vs = ns.map V.int
  | [], vs, h => by
    unfold RepL at h
    exact h
  | n :: ns, vs, h => by
    rw [List.map_cons] at h
    unfold RepL at h
    obtain ⟨v, r, rfl, h1, h2⟩ := h
    rw [repL_intsU_eq h2]
    have : v = .int n := h1
    rw [this]
    rfl
theorem immL_intsU : ∀ ns : List Int, immL (ns.map D.int) = true
  | [] => rfl
  | n :: ns => by
    show (imm (.int n) && immL (ns.map D.int)) = true
    rw [immL_intsU ns]
    rfl
def tSortSet (K : PySem.W.Frag) (w : World) (te : TE) : TE := tCB (rSortedSet w) (tCons (tCB (rSetLI K w) (tCons te tNil)) tNil)
theorem de_sortSet {K : KP} {w : World} {mg : Str → Option Value} {W : WX} {Γ : Env1} {σ : L2.St} {H : Hp} {Q : VK} {a : E} (h : DE K mg W Γ (.sortSet a) σ H Q) : tSortSet K w (DE K mg W Γ a) σ H Q := by
  obtain ⟨τ, F, A, L, sr, h⟩ := h
  refine ⟨τ, F, A, L, sr, ?_⟩
  simp only [ev] at h
  cases e : ev Γ a τ with
  | stuck => rw [e] at h; exact h
  | exc c fs => rw [e] at h; exact h
  | ok x =>
    rw [e] at h
    simp only [R.bind_ok] at h ⊢
    intro v F1 H1 A1 B p
    have pv := p.vr
    cases q : x.1 with
    | own g d0 => rw [q] at h; exact h.elim
    | slot j => rw [q] at h; exact h.elim
    | fz d0 =>
      rw [q] at h pv
      cases d0 with
      | lst xs =>
        simp only at h
        cases ei : intsL xs with
        | none => rw [ei] at h; exact h.elim
        | some ns =>
          rw [ei] at h
          simp only at h
          by_cases c : ns.length < 64
          · rw [if_pos c] at h
            have ex := intsL_eq ei
            obtain ⟨_, rp⟩ := pv
            rw [ex] at rp
            unfold Rep at rp
            obtain ⟨l, vs, rfl, hl, hr⟩ := rp
            have ev := repL_intsU_eq hr
            subst ev
            refine ⟨l, ns, rfl, .inl (.inl (p.sr.le _ _ hl)), c, fun p1 cc hcc h1 => ?_⟩
            refine ⟨p1, _, cc, rfl, upd_same, by omega, fun ns' p2 k1 k2 k3 h2 => ?_⟩
            have e2 : ns' = setI ns := rise_eq k1 (setI_rise ns) fun k => by
              rw [k2 k, mem_setI, decide_eq_true_eq]
            subst e2
            have sr1 := p.sr.step (o := SetO w p1 (fun j => decide (j ∈ ns)) cc) h1
            have st1 := p.st.withLaid (o := SetO w p1 (fun j => decide (j ∈ ns)) cc) h1
            refine h _ F1 _ A1 [p2] ⟨st1.withLaid h2, sr1.step h2, Own.newList h2 (repL_intsU _) fun _ => immL_intsU _, Ap.one (sr1.off_none h2), fun b hb => ?_⟩
            rw [List.mem_singleton.mp hb]
            exact .inr (st1.dom _ h2)
          · rw [if_neg c] at h
            exact h.elim
      | _ => exact h.elim
end Rg
namespace Rg
open PySem L2
abbrev OkE (c : Cf) (m : E) (x : Expr) : Prop := ∀ (X : Cx) (W : WX) (px : PX), Cxt X W px c → PE X x (DE ⟨X.K, px⟩ X.mg W c.Γ m)
abbrev OkT (c : Cf) (m : E) (x : Expr) : Prop := ∀ (X : Cx) (W : WX) (px : PX), Cxt X W px c → PT X x (DT ⟨X.K, px⟩ X.mg W c.Γ m)
abbrev OkW (c : Cf) (m : E) (x : Expr) : Prop := ∀ (X : Cx) (W : WX) (px : PX), Cxt X W px c → PW X x (DT ⟨X.K, px⟩ X.mg W c.Γ m)
abbrev OkA (c : Cf) (m : E) (xs : List Expr) : Prop := ∀ (X : Cx) (W : WX) (px : PX), Cxt X W px c → PA X xs (DA ⟨X.K, px⟩ X.mg W c.Γ m)
abbrev OkI (c : Cf) (m : E) (tg x : Expr) : Prop := ∀ (X : Cx) (W : WX) (px : PX), Cxt X W px c → PI X tg x (DI ⟨X.K, px⟩ X.mg W c.Γ m)
abbrev One (c : Cf) (m : E) (x : Expr) : Prop := ∀ (X : Cx) (W : WX) (px : PX), Cxt X W px c → ∃ t, PE X x t ∧ ∀ σ H Q, DA ⟨X.K, px⟩ X.mg W c.Γ m σ H Q → t σ H fun v H1 => Q [v] H1
abbrev Two (c : Cf) (m : E) (x y : Expr) : Prop := ∀ (X : Cx) (W : WX) (px : PX), Cxt X W px c → ∃ t u, PE X x t ∧ PE X y u ∧ (∀ σ H (Q Q' : VK), t σ H Q → (∀ v H', Q v H' → Q' v H') → t σ H Q') ∧ ∀ σ H Q, DA ⟨X.K, px⟩ X.mg W c.Γ m σ H Q → t σ H fun v H1 => u σ H1 fun w H2 => Q [v, w] H2
abbrev LcOk (c : Cf) (m : E) (elt tg iter : Expr) (ifs : List Expr) (scope : Scope) : Prop := ∀ (X : Cx) (W : WX) (px : PX), Cxt X W px c → ∃ (wi : TI) (g : TG) (tt : TT) (te : TE) (own : List (Str × Nat)), PI X tg iter wi ∧ BlkOk X.N X.env.scope scope own ∧
  (∀ (s : Shared) (H : Hp) (C : Addr) (cl : List (Str × Addr)) (fp : List Addr), PG (X.blk s H scope (compEnvC scope cl C X.env) fp) tg g) ∧
  (∀ (s : Shared) (H : Hp) (C : Addr) (cl : List (Str × Addr)) (fp : List Addr), PTs (X.blk s H scope (compEnvC scope cl C X.env) fp) ifs tt) ∧
  (∀ (s : Shared) (H : Hp) (C : Addr) (cl : List (Str × Addr)) (fp : List Addr), PE (X.blk s H scope (compEnvC scope cl C X.env) fp) elt te) ∧
  (∀ x, foldedSetIterable iter X.env x = pure x) ∧ ∀ σ H Q, DE ⟨X.K, px⟩ X.mg W c.Γ m σ H Q → tLc wi g tt te (own.map (·.2)) σ H Q
abbrev Pf (p : Prop) := Option (PLift p)
def gd (b : Bool) {p : Prop} (f : b = true → Pf p) : Pf p := if e : b = true then f e else none
def Pf.and {p r : Prop} (x : Pf p) (f : p → Pf r) : Pf r := match x with
  | some h => f h.down
  | none => none
def yes {p : Prop} (h : p) : Pf p := some ⟨h⟩
structure Ck (c : Cf) (m : E) where
  e : (x : Expr) → Pf (OkE c m x)
  t : (x : Expr) → Pf (OkT c m x)
  w : (op : BoolOp) → (es : List Expr) → (pos : Pos) → Pf (OkW c m (.BoolOp op es pos))
  b : (op : BoolOp) → (es : List Expr) → (pos : Pos) → Pf (OkE c m (.BoolOp op es pos))
  a : (es : List Expr) → Pf (OkA c m es)
  one : (x : Expr) → Pf (One c m x)
  two : (x y : Expr) → Pf (Two c m x y)
  i : (tg x : Expr) → Pf (OkI c m tg x)
  lc : (elt tg iter : Expr) → (ifs : List Expr) → (scope : Scope) → Pf (LcOk c m elt tg iter ifs scope)
section
variable {c : Cf} {m : E}
theorem okT_val {x : Expr} (h : OkE c m x) (p : plainT x = true) : OkT c m x := fun X W px k => PT.imp (pt_val (h X W px k) (plain_test p X.env)) fun σ H Q q => dt_of q
def tOf (e : (x : Expr) → Pf (OkE c m x)) (x : Expr) : Pf (OkT c m x) := (e x).and fun h => gd (plainT x) fun p => yes (okT_val h p)
theorem okW_and1 {x : Expr} {pos : Pos} (h : OkT c m x) : OkW c m (.BoolOp .And [x] pos) := fun X W px k => pw_and1 (h X W px k)
theorem okW_or1 {x : Expr} {pos : Pos} (h : OkT c m x) : OkW c m (.BoolOp .Or [x] pos) := fun X W px k => pw_or1 (h X W px k)
def wOf (t : (x : Expr) → Pf (OkT c m x)) : (op : BoolOp) → (es : List Expr) → (pos : Pos) → Pf (OkW c m (.BoolOp op es pos))
  | .And, [x], _ => (t x).and fun h => yes (okW_and1 h)
  | .Or, [x], _ => (t x).and fun h => yes (okW_or1 h)
  | _, _, _ => none
theorem okB1 {op : BoolOp} {x : Expr} {pos : Pos} (h : OkE c m x) : OkE c m (.BoolOp op [x] pos) := fun X W px k => pe_one (h X W px k)
def bOf (e : (x : Expr) → Pf (OkE c m x)) : (op : BoolOp) → (es : List Expr) → (pos : Pos) → Pf (OkE c m (.BoolOp op es pos))
  | op, [x], _ => (e x).and fun h => yes (okB1 h)
  | _, _, _ => none
def Ck.of (e : (x : Expr) → Pf (OkE c m x)) (t : (x : Expr) → Pf (OkT c m x)) : Ck c m := ⟨e, t, wOf t, bOf e, fun _ => none, fun _ => none, fun _ _ => none, fun _ _ => none, fun _ _ _ _ _ => none⟩
def Ck.val (e : (x : Expr) → Pf (OkE c m x)) : Ck c m := Ck.of e (tOf e)
def Ck.args (a : (es : List Expr) → Pf (OkA c m es)) (o : (x : Expr) → Pf (One c m x)) (w : (x y : Expr) → Pf (Two c m x y)) : Ck c m := ⟨fun _ => none, fun _ => none, fun _ _ _ => none, fun _ _ _ => none, a, o, w, fun _ _ => none, fun _ _ _ _ _ => none⟩
def Ck.iter (i : (tg x : Expr) → Pf (OkI c m tg x)) : Ck c m := ⟨fun _ => none, fun _ => none, fun _ _ _ => none, fun _ _ _ => none, fun _ => none, fun _ => none, fun _ _ => none, i, fun _ _ _ _ _ => none⟩
def Ck.no : Ck c m := Ck.iter fun _ _ => none
end
section
variable {c : Cf}
theorem ok_var {i : Nat} {x : Str} {pos : Pos} (h1 : decide (c.N[i]? = some x) = true) (h2 : visB c.sc x = true) (h3 : decide ((x == ("__debug__" : Str)) = false ∧ (x == ("__classdict__" : Str)) = false) = true) : OkE c (.var i) (.Name x pos) := fun X W px k => by
  obtain ⟨h3, h4⟩ := of_decide_eq_true h3
  exact PE.imp (pe_var (i := i) (by rw [k.hN]; exact of_decide_eq_true h1) (k.vis h2) h3 h4) fun σ H Q q => de_var q
def ckVar (i : Nat) : (x : Expr) → Pf (OkE c (.var i) x)
  | .Name x pos => gd _ fun h1 => gd _ fun h2 => gd _ fun h3 => yes (ok_var h1 h2 h3)
  | _ => none
theorem ok_cInt {i : Int} {j : Nat} {pos : Pos} : OkE c (.cst (.int i)) (.Constant (.int i) j pos) := fun X W px k => PE.imp pe_int fun σ H Q q => de_cst (fun F H => by unfold Rep; rfl) q
theorem ok_cStr {i : Str} {j : Nat} {pos : Pos} : OkE c (.cst (.str i)) (.Constant (.str i) j pos) := fun X W px k => PE.imp pe_str fun σ H Q q => de_cst (fun F H => by unfold Rep; rfl) q
theorem ok_cBl {i : Bool} {j : Nat} {pos : Pos} : OkE c (.cst (.bl i)) (.Constant (.bool i) j pos) := fun X W px k => PE.imp pe_bl fun σ H Q q => de_cst (fun F H => by unfold Rep; rfl) q
theorem ok_cNon {j : Nat} {pos : Pos} : OkE c (.cst .non) (.Constant .none j pos) := fun X W px k => PE.imp pe_non fun σ H Q q => de_cst (fun F H => by unfold Rep; rfl) q
def ckCst : (d : D) → (x : Expr) → Pf (OkE c (.cst d) x)
  | .int i, .Constant (.int i') j pos => if h : i = i' then yes (h ▸ ok_cInt) else none
  | .str i, .Constant (.str i') j pos => if h : i = i' then yes (h ▸ ok_cStr) else none
  | .bl i, .Constant (.bool i') j pos => if h : i = i' then yes (h ▸ ok_cBl) else none
  | .non, .Constant .none j pos => yes ok_cNon
  | _, _ => none
theorem ok_glb {d : D} {x : Str} {pos : Pos} (h1 : (x, d) ∈ c.GL) (h2 : glB c.sc x = true) (h3 : decide ((x == ("__debug__" : Str)) = false) = true) : OkE c (.glb x d) (.Name x pos) := fun X W px k => by
  obtain ⟨u, v, g1, g2, g3⟩ := k.gl x d h1
  exact PE.imp (pe_glob (k.glo h2) g1 g2 (of_decide_eq_true h3)) fun σ H Q q => de_glb (g3 px) q
def glIn (x : Str) (k : Int) : (l : List (Str × D)) → Pf ((x, D.int k) ∈ l)
  | [] => none
  | (y, .int j) :: r => if h : y = x ∧ j = k then yes (by rw [h.1, h.2]; exact List.mem_cons_self) else (glIn x k r).and fun h => yes (List.mem_cons_of_mem _ h)
  | _ :: r => (glIn x k r).and fun h => yes (List.mem_cons_of_mem _ h)
def glInS (x : Str) (k : Str) : (l : List (Str × D)) → Pf ((x, D.str k) ∈ l)
  | [] => none
  | (y, .str j) :: r => if h : y = x ∧ j = k then yes (by rw [h.1, h.2]; exact List.mem_cons_self) else (glInS x k r).and fun h => yes (List.mem_cons_of_mem _ h)
  | _ :: r => (glInS x k r).and fun h => yes (List.mem_cons_of_mem _ h)
def ckGlb (x : Str) : (d : D) → (e : Expr) → Pf (OkE c (.glb x d) e)
  | .int k, .Name y pos => if e : x = y then (glIn x k c.GL).and fun h1 => gd _ fun h2 => gd _ fun h3 => yes (e ▸ ok_glb h1 h2 h3) else none
  | .str k, .Name y pos => if e : x = y then (glInS x k c.GL).and fun h1 => gd _ fun h2 => gd _ fun h3 => yes (e ▸ ok_glb h1 h2 h3) else none
  | _, _ => none
theorem ok_and {a b : E} {x y : Expr} {r : List Expr} {pos : Pos} (h1 : OkE c a x) (h2 : OkE c b (.BoolOp .And (y :: r) pos)) : OkE c (.and a b) (.BoolOp .And (x :: y :: r) pos) := fun X W px k => PE.imp (pe_and (h1 X W px k) (h2 X W px k)) fun σ H Q q => de_and q
theorem ok_or {a b : E} {x y : Expr} {r : List Expr} {pos : Pos} (h1 : OkE c a x) (h2 : OkE c b (.BoolOp .Or (y :: r) pos)) : OkE c (.or a b) (.BoolOp .Or (x :: y :: r) pos) := fun X W px k => PE.imp (pe_or (h1 X W px k) (h2 X W px k)) fun σ H Q q => de_or q
theorem ok_andW {a b : E} {x y : Expr} {r : List Expr} {pos : Pos} (h1 : OkT c a x) (h2 : OkW c b (.BoolOp .And (y :: r) pos)) : OkW c (.and a b) (.BoolOp .And (x :: y :: r) pos) := fun X W px k => ⟨fun whole pins s σ H Q I q => (pw_and (h1 X W px k) (h2 X W px k)).run whole pins s σ H Q I (dt_and q)⟩
theorem ok_orW {a b : E} {x y : Expr} {r : List Expr} {pos : Pos} (h1 : OkT c a x) (h2 : OkW c b (.BoolOp .Or (y :: r) pos)) : OkW c (.or a b) (.BoolOp .Or (x :: y :: r) pos) := fun X W px k => ⟨fun whole pins s σ H Q I q => (pw_or (h1 X W px k) (h2 X W px k)).run whole pins s σ H Q I (dt_or q)⟩
theorem ok_ofW {m : E} {x : Expr} (h : OkW c m x) : OkT c m x := fun X W px k => (h X W px k).pt
def ckAndB {a b : E} (A : Ck c a) (B : Ck c b) : (op : BoolOp) → (es : List Expr) → (pos : Pos) → Pf (OkE c (.and a b) (.BoolOp op es pos))
  | .And, x :: y :: r, pos => (A.e x).and fun h1 => (B.b .And (y :: r) pos).and fun h2 => yes (ok_and h1 h2)
  | _, _, _ => none
def ckOrB {a b : E} (A : Ck c a) (B : Ck c b) : (op : BoolOp) → (es : List Expr) → (pos : Pos) → Pf (OkE c (.or a b) (.BoolOp op es pos))
  | .Or, x :: y :: r, pos => (A.e x).and fun h1 => (B.b .Or (y :: r) pos).and fun h2 => yes (ok_or h1 h2)
  | _, _, _ => none
def ckAndW {a b : E} (A : Ck c a) (B : Ck c b) : (op : BoolOp) → (es : List Expr) → (pos : Pos) → Pf (OkW c (.and a b) (.BoolOp op es pos))
  | .And, x :: y :: r, pos => (A.t x).and fun h1 => (B.w .And (y :: r) pos).and fun h2 => yes (ok_andW h1 h2)
  | _, _, _ => none
def ckOrW {a b : E} (A : Ck c a) (B : Ck c b) : (op : BoolOp) → (es : List Expr) → (pos : Pos) → Pf (OkW c (.or a b) (.BoolOp op es pos))
  | .Or, x :: y :: r, pos => (A.t x).and fun h1 => (B.w .Or (y :: r) pos).and fun h2 => yes (ok_orW h1 h2)
  | _, _, _ => none
def ofBool {m : E} (b : (op : BoolOp) → (es : List Expr) → (pos : Pos) → Pf (OkE c m (.BoolOp op es pos))) : (x : Expr) → Pf (OkE c m x)
  | .BoolOp op es pos => b op es pos
  | _ => none
def ofBoolT {m : E} (b : (op : BoolOp) → (es : List Expr) → (pos : Pos) → Pf (OkW c m (.BoolOp op es pos))) : (x : Expr) → Pf (OkT c m x)
  | .BoolOp op es pos => (b op es pos).and fun h => yes (ok_ofW h)
  | _ => none
def orElse {p : Prop} (x y : Pf p) : Pf p := match x with
  | some h => some h
  | none => y
def Ck.bool {m : E} (b : (op : BoolOp) → (es : List Expr) → (pos : Pos) → Pf (OkE c m (.BoolOp op es pos))) (w : (op : BoolOp) → (es : List Expr) → (pos : Pos) → Pf (OkW c m (.BoolOp op es pos))) : Ck c m :=
  ⟨ofBool b, ofBoolT w, fun op es pos => orElse (w op es pos) (wOf (ofBoolT w) op es pos), fun op es pos => orElse (b op es pos) (bOf (ofBool b) op es pos), fun _ => none, fun _ => none, fun _ _ => none, fun _ _ => none, fun _ _ _ _ _ => none⟩
theorem ok_not {a : E} {x : Expr} {pos : Pos} (h : OkE c a x) : OkE c (.not a) (.UnaryOp .Not x pos) := fun X W px k => PE.imp (pe_not (h X W px k)) fun σ H Q q => de_not q
theorem ok_notT {a : E} {x : Expr} {pos : Pos} (h : OkT c a x) : OkT c (.not a) (.UnaryOp .Not x pos) := fun X W px k => PT.imp (pt_not (h X W px k)) fun σ H Q q => dt_not q
def ckNot {a : E} (A : Ck c a) : (x : Expr) → Pf (OkE c (.not a) x)
  | .UnaryOp .Not x pos => (A.e x).and fun h => yes (ok_not h)
  | _ => none
def ckNotT {a : E} (A : Ck c a) : (x : Expr) → Pf (OkT c (.not a) x)
  | .UnaryOp .Not x pos => (A.t x).and fun h => yes (ok_notT h)
  | _ => none
theorem ok_ite {q a b : E} {x y z : Expr} {pos : Pos} (h1 : OkT c q x) (h2 : OkE c a y) (h3 : OkE c b z) : OkE c (.ite q a b) (.IfExp x y z pos) := fun X W px k => PE.imp (pe_ifExp (h1 X W px k) (h2 X W px k) (h3 X W px k)) fun σ H Q q => de_ite q
def ckIte {q a b : E} (Q : Ck c q) (A : Ck c a) (B : Ck c b) : (x : Expr) → Pf (OkE c (.ite q a b) x)
  | .IfExp x y z pos => (Q.t x).and fun h1 => (A.e y).and fun h2 => (B.e z).and fun h3 => yes (ok_ite h1 h2 h3)
  | _ => none
theorem ok_nil : OkA c .nil [] := fun X W px k => PA.imp pa_nil fun σ H Q q => da_nil q
def ckNil : (es : List Expr) → Pf (OkA c .nil es)
  | [] => yes ok_nil
  | _ => none
theorem ok_cons {a r : E} {x : Expr} {xs : List Expr} (h1 : OkE c a x) (h2 : OkA c r xs) (h3 : isStar x = false) : OkA c (.cons a r) (x :: xs) := fun X W px k => PA.imp (pa_cons (h1 X W px k) (h2 X W px k) (star_cons xs X.env h3)) fun σ H Q q => da_split q
def ckCons {a r : E} (A : Ck c a) (B : Ck c r) : (es : List Expr) → Pf (OkA c (.cons a r) es)
  | x :: xs => (A.e x).and fun h1 => (B.a xs).and fun h2 => if h3 : isStar x = false then yes (ok_cons h1 h2 h3) else none
  | _ => none
theorem ok_one {a : E} {x : Expr} (h : OkE c a x) : One c (.cons a .nil) x := fun X W px k => ⟨_, h X W px k, fun σ H Q q => da_one q⟩
def ckOne {a : E} (A : Ck c a) : (r : E) → (x : Expr) → Pf (One c (.cons a r) x)
  | .nil, x => (A.e x).and fun h => yes (ok_one h)
  | _, _ => none
theorem ok_two {a r : E} {x y : Expr} (h : OkE c a x) (h2 : One c r y) : Two c (.cons a r) x y := fun X W px k => by
  obtain ⟨u, p, q⟩ := h2 X W px k
  exact ⟨_, u, h X W px k, p, fun σ H Q Q' a b => de_mono a b, fun σ H Q z => de_mono (da_split z) fun v H1 z => q _ _ _ z⟩
def ckTwo {a r : E} (A : Ck c a) (B : Ck c r) (x y : Expr) : Pf (Two c (.cons a r) x y) := (A.e x).and fun h1 => (B.one y).and fun h2 => yes (ok_two h1 h2)
theorem ok_bin {p : Prim} {args : E} {op : Operator} {x y : Expr} {pos : Pos} (h : binOp p = some op) (h2 : Two c args x y) : OkE c (.prim p args) (.BinOp x op y pos) := fun X W px k => by
  obtain ⟨r, o, ok⟩ := bin_rule (X := X) (px := px) h
  obtain ⟨t, u, p1, p2, _, p3⟩ := h2 X W px k
  exact PE.imp (pe_op o p1 p2) fun σ H Q q => p3 _ _ _ (de_prim ok q)
theorem marks_no {y : Expr} (h : isSet y = false) (op : CmpOp) : behindInMarks op y = false := by cases y <;> first | rfl | cases h
theorem ok_cmp {p : Prim} {args : E} {op : CmpOp} {x y : Expr} {pos : Pos} (h : cmpOp p = some op) (h2 : Two c args x y) (h3 : isSet y = false) : OkE c (.prim p args) (.Compare x [op] [y] pos) := fun X W px k => by
  obtain ⟨r, o, ok⟩ := cmp_rule k h
  obtain ⟨t, u, p1, p2, _, p3⟩ := h2 X W px k
  exact PE.imp (pe_cmpR o p1 p2 (marks_no h3 op)) fun σ H Q q => p3 _ _ _ (de_prim ok q)
theorem ok_cmpT {p : Prim} {args : E} {op : CmpOp} {x y : Expr} {pos : Pos} (h : cmpOp p = some op) (h2 : Two c args x y) (h3 : isSet y = false) : OkT c (.prim p args) (.Compare x [op] [y] pos) := fun X W px k => by
  obtain ⟨r, o, ok⟩ := cmp_rule k h
  obtain ⟨t, u, p1, p2, _, p3⟩ := h2 X W px k
  exact PT.imp (pt_cmpR o p1 p2 (marks_no h3 op)) fun σ H Q q => p3 _ _ _ (de_prim ok (dt_of q))
theorem ok_neg1 {args : E} {x : Expr} {pos : Pos} (h : One c args x) : OkE c (.prim .neg args) (.UnaryOp .USub x pos) := fun X W px k => by
  obtain ⟨t, p1, p3⟩ := h X W px k
  exact PE.imp (pe_un un_neg p1) fun σ H Q q => p3 _ _ _ (de_prim ok_neg q)
theorem ok_sub2 {args : E} {x y : Expr} {pos : Pos} (h : Two c args x y) (h2 : isSlice y = false) : OkE c (.prim .ix args) (.Subscript x y pos) := fun X W px k => by
  obtain ⟨t, u, p1, p2, _, p3⟩ := h X W px k
  exact PE.imp (pe_ix (ix_any (by have := k.un; omega)) p1 p2 (plain_ix h2)) fun σ H Q q => p3 _ _ _ (de_prim ok_ix q)
theorem ok_bi (hc : c.hot = false) {p : Prim} {args : E} {n : String} {x : Str} {e : Expr} {es : List Expr} {po pos : Pos} (h : biOf p = some (n, false)) (hx : x = Str.ofString n) (hg : glB c.sc x = true) (hf : decide (x ∈ c.fr) = true) (h2 : OkA c args (e :: es)) (hs : (e :: es).any isStar = false) : OkE c (.prim p args) (.Call (.Name x po) (e :: es) [] pos) := fun X W px k => by
  subst hx
  obtain ⟨r, o, ok, b1, b2, b3⟩ := bi_rule k hc h
  simp only [List.any_cons, Bool.or_eq_false_iff] at hs
  exact PE.imp (pe_callB o (k.glo hg) (k.fr _ (of_decide_eq_true hf)) b1 (h2 X W px k) b2 b3 (star_cons es X.env hs.1) (star_any pos X.env hs.2)) fun σ H Q q => de_prim ok q
theorem ok_ty (hc : c.hot = false) {p : Prim} {args : E} {n : String} {x : Str} {e : Expr} {es : List Expr} {po pos : Pos} (h : biOf p = some (n, true)) (hx : x = Str.ofString n) (hg : glB c.sc x = true) (hf : decide (x ∈ c.fr) = true) (h2 : OkA c args (e :: es)) (hs : (e :: es).any isStar = false) : OkE c (.prim p args) (.Call (.Name x po) (e :: es) [] pos) := fun X W px k => by
  subst hx
  obtain ⟨r, o, ok, b1, b2, b3⟩ := ty_rule k hc h
  simp only [List.any_cons, Bool.or_eq_false_iff] at hs
  exact PE.imp (pe_callTy o (k.glo hg) (k.fr _ (of_decide_eq_true hf)) b1 (h2 X W px k) b2 b3 (star_cons es X.env hs.1) (star_any pos X.env hs.2)) fun σ H Q q => de_prim ok q
theorem ok_anyQ (hc : c.hot = true) {args : E} {x : Str} {e : Expr} {es : List Expr} {po pos : Pos} (hx : x = ("any" : Str)) (hg : glB c.sc x = true) (hf : decide (x ∈ c.fr) = true) (h2 : OkA c args (e :: es)) (hs : (e :: es).any isStar = false) : OkE c (.prim .anyB args) (.Call (.Name x po) (e :: es) [] pos) := fun X W px k => by
  subst hx
  obtain ⟨ax, cls, d, oe, rfl, k1, k2, k3, k4⟩ := k.hotx hc
  simp only [List.any_cons, Bool.or_eq_false_iff] at hs
  exact PE.imp (pe_callB (cr_anyHot k1 k2 k3 k4) (k.glo hg) (k.fr _ (of_decide_eq_true hf)) (by decide +kernel) (h2 X W _ k) (by decide +kernel) (by decide +kernel) (star_cons es X.env hs.1) (star_any pos X.env hs.2)) fun σ H Q q => de_prim ok_anyB q
theorem ok_isaE {args : E} {t : String} {x y : Str} {e : Expr} {po p2 pos : Pos} (hx : x = ("isinstance" : Str)) (hy : y = Str.ofString t) (hg : glB c.sc x = true) (hf : decide (x ∈ c.fr) = true) (hg2 : glB c.sc y = true) (hf2 : decide (y ∈ c.fr) = true) (hb : (match bootBuiltins y with | some (.type u) => decide (u = t) | _ => false) = true) (hn : decide (y ≠ "__name__" ∧ (y == ("__debug__" : Str)) = false) = true) (h2 : One c args e) (hs : isStar e = false) : OkE c (.prim (.isa t) args) (.Call (.Name x po) [e, .Name y p2] [] pos) := fun X W px k => by
  subst hx
  obtain ⟨te, p1, p3⟩ := h2 X W px k
  obtain ⟨hn1, hn2⟩ := of_decide_eq_true hn
  have hbt : bootBuiltins y = some (.type t) := by
    split at hb
    · rename_i u e
      rw [e, of_decide_eq_true hb]
    · cases hb
  have pt : PE X (.Name y p2) (tC (.ty t)) := pe_bltn (k.glo hg2) (k.fr _ (of_decide_eq_true hf2)) hbt (show RelV (.ty t) (.type t) from rfl) hn1 hn2
  exact PE.imp (pe_callB call_isi (k.glo hg) (k.fr _ (of_decide_eq_true hf)) (by decide +kernel) (pa_cons p1 (pa_cons pt pa_nil (star_cons [] X.env rfl)) (star_cons _ X.env hs)) (by decide +kernel) (by decide +kernel) (star_cons _ X.env hs) (star_any pos X.env rfl)) fun σ H Q q => by
    have := p3 _ _ _ (de_prim ok_isa q)
    exact this
def ckIsa (t : String) {args : E} (A : Ck c args) : (x : Expr) → Pf (OkE c (.prim (.isa t) args) x)
  | .Call (.Name x po) [e, .Name y p2] [] pos => if hx : x = ("isinstance" : Str) then (if hy : y = Str.ofString t then gd _ fun h1 => gd _ fun h2 => gd _ fun h3 => gd _ fun h4 => gd _ fun h5 => gd _ fun h6 => (A.one e).and fun h7 => (if hs : isStar e = false then yes (ok_isaE hx hy h1 h2 h3 h4 h5 h6 h7 hs) else none) else none) else none
  | _ => none
theorem RepL.rev {K : KP} {G H : Hp} : ∀ {ds : List D} {vs : List V}, RepL K G H ds vs → RepL K G H ds.reverse vs.reverse
  | [], _, h => by rw [h.unnil]; exact RepL.nil
  | d :: ds, _, h => by
    obtain ⟨v, r, rfl, h1, h2⟩ := h.uncons
    rw [List.reverse_cons, List.reverse_cons]
    exact (RepL.rev h2).app (RepL.one h1)
def rRevL (K : PySem.W.Frag) : V → Hp → VK → Prop := fun x H Q => ∃ (a : Addr) (xs : List V), x = .ref a ∧ SqL K H a xs ∧ ∀ q, H q = none → Q (.ref q) (upd H q (.lst xs.reverse))
theorem ok_rev {K : KP} : PrimOk K .rev (l1 (rRevL K)) := by
  intro ds res vs H G Q le rp e k
  replace e : pRev ds = some res := e
  unfold pRev at e
  split at e
  · cases e
    obtain ⟨x, rfl, h1⟩ := rp.one'
    obtain ⟨a, us, rfl, ha, hu⟩ := h1.lst'
    exact ⟨a, us, rfl, SqL.of (le _ _ ha), fun q hq => k q _ hq hu.rev⟩
  · cases e
theorem ok_revE (hc : c.hot = false) {args : E} {n n2 : Str} {e : Expr} {p p2 pos pos2 : Pos} (hn : n = ("list" : Str)) (hn2 : n2 = ("reversed" : Str)) (hg : glB c.sc n = true) (hf : decide (n ∈ c.fr) = true) (hg2 : glB c.sc n2 = true) (hf2 : decide (n2 ∈ c.fr) = true) (h : One c args e) (hs : isStar e = false) : OkE c (.prim .rev args) (.Call (.Name n p) [.Call (.Name n2 p2) [e] [] pos2] [] pos) := fun X W px k => by
  subst hn hn2
  obtain ⟨te, p1, p3⟩ := h X W px k
  exact PE.imp (pe_listRev (k.calm hc) (k.glo hg) (k.fr _ (of_decide_eq_true hf)) (k.glo hg2) (k.fr _ (of_decide_eq_true hf2)) p1 (star_cons [] X.env hs) (star_cons [] X.env rfl)) fun σ H Q q => p3 _ _ _ (de_prim ok_rev q)
def ckRevL {args : E} (A : Ck c args) : (x : Expr) → Pf (OkE c (.prim .rev args) x)
  | .Call (.Name n p) [.Call (.Name n2 p2) [e] [] pos2] [] pos => if hn : n = ("list" : Str) then (if hn2 : n2 = ("reversed" : Str) then gd _ fun h1 => gd _ fun h2 => gd _ fun h3 => gd _ fun h4 => (A.one e).and fun h5 => (if hs : isStar e = false then (if hc : c.hot = false then yes (ok_revE hc hn hn2 h1 h2 h3 h4 h5 hs) else none) else none) else none) else none
  | _ => none
def ckPrim {args : E} (p : Prim) (A : Ck c args) : (x : Expr) → Pf (OkE c (.prim p args) x)
  | .BinOp x op y pos => (A.two x y).and fun h2 => if h : binOp p = some op then yes (ok_bin h h2) else none
  | .Compare x [op] [y] pos => (A.two x y).and fun h2 => if h : cmpOp p = some op then (if h3 : isSet y = false then yes (ok_cmp h h2 h3) else none) else none
  | .UnaryOp .USub x pos => if h : p = .neg then (A.one x).and fun h2 => yes (h ▸ ok_neg1 h2) else none
  | .Subscript x y pos => if h : p = .ix then (A.two x y).and fun h2 => (if h3 : isSlice y = false then yes (h ▸ ok_sub2 h2 h3) else none) else none
  | .Call (.Name x po) (e :: es) [] pos => match h : biOf p with
    | some (n, false) => (A.a (e :: es)).and fun h2 => if hx : x = Str.ofString n then gd _ fun h3 => gd _ fun h4 => (if hs : (e :: es).any isStar = false then (if hc : c.hot = false then yes (ok_bi hc h hx h3 h4 h2 hs) else (if hq : c.hot = true then (if hp : p = .anyB then (if hy : x = ("any" : Str) then yes (by subst hp; exact ok_anyQ hq hy h3 h4 h2 hs) else none) else none) else none)) else none) else none
    | some (n, true) => (A.a (e :: es)).and fun h2 => if hx : x = Str.ofString n then gd _ fun h3 => gd _ fun h4 => (if hs : (e :: es).any isStar = false then (if hc : c.hot = false then yes (ok_ty hc h hx h3 h4 h2 hs) else none) else none) else none
    | none => none
  | _ => none
def ckPrimT {args : E} (p : Prim) (A : Ck c args) : (x : Expr) → Pf (OkT c (.prim p args) x)
  | .Compare x [op] [y] pos => (A.two x y).and fun h2 => if h : cmpOp p = some op then (if h3 : isSet y = false then yes (ok_cmpT h h2 h3) else none) else none
  | x => tOf (ckPrim p A) x
theorem ok_chain {p q : Prim} {op op' : CmpOp} {a b d : E} {x y z : Expr} {pos : Pos} (h : cmpOp p = some op) (h' : cmpOp q = some op') (h1 : OkE c a x) (h2 : OkE c b y) (h3 : OkE c d z) (h4 : isSet z = false) : OkE c (.chain p q a b d) (.Compare x [op, op'] [y, z] pos) := fun X W px k => by
  obtain ⟨r, o, ok⟩ := cmp_rule k h
  obtain ⟨r', o', ok'⟩ := cmp_rule k h'
  exact PE.imp (pe_chain o o' (h1 X W px k) (h2 X W px k) (h3 X W px k) (marks_no h4 op')) fun σ H Q q => de_chain ok ok' q
theorem ok_chainT {p q : Prim} {op op' : CmpOp} {a b d : E} {x y z : Expr} {pos : Pos} (h : cmpOp p = some op) (h' : cmpOp q = some op') (h1 : OkE c a x) (h2 : OkE c b y) (h3 : OkE c d z) (h4 : isSet z = false) : OkT c (.chain p q a b d) (.Compare x [op, op'] [y, z] pos) := fun X W px k => by
  obtain ⟨r, o, ok⟩ := cmp_rule k h
  obtain ⟨r', o', ok'⟩ := cmp_rule k h'
  exact PT.imp (pt_chain o o' (h1 X W px k) (h2 X W px k) (h3 X W px k) (marks_no h4 op')) fun σ H Q q => de_chain ok ok' (dt_of q)
def ckChain {a b d : E} (p q : Prim) (A : Ck c a) (B : Ck c b) (C : Ck c d) : (x : Expr) → Pf (OkE c (.chain p q a b d) x)
  | .Compare x [op, op'] [y, z] pos => (A.e x).and fun h1 => (B.e y).and fun h2 => (C.e z).and fun h3 => if h : cmpOp p = some op then (if h' : cmpOp q = some op' then (if h4 : isSet z = false then yes (ok_chain h h' h1 h2 h3 h4) else none) else none) else none
  | _ => none
def ckChainT {a b d : E} (p q : Prim) (A : Ck c a) (B : Ck c b) (C : Ck c d) : (x : Expr) → Pf (OkT c (.chain p q a b d) x)
  | .Compare x [op, op'] [y, z] pos => (A.e x).and fun h1 => (B.e y).and fun h2 => (C.e z).and fun h3 => if h : cmpOp p = some op then (if h' : cmpOp q = some op' then (if h4 : isSet z = false then yes (ok_chainT h h' h1 h2 h3 h4) else none) else none) else none
  | _ => none
theorem ok_tupE {args : E} {es : List Expr} {j : Nat} {pos : Pos} (h : OkA c args es) : OkE c (.tup args) (.Tuple es j pos) := fun X W px k => PE.imp (pe_tup (h X W px k)) fun σ H Q q => de_tup q
def ckTup {args : E} (A : Ck c args) : (x : Expr) → Pf (OkE c (.tup args) x)
  | .Tuple es j pos => (A.a es).and fun h => yes (ok_tupE h)
  | _ => none
theorem ok_lstE {args : E} {es : List Expr} {pos : Pos} (h : OkA c args es) : OkE c (.lst args) (.List es pos) := fun X W px k => PE.imp (pe_lst (h X W px k)) fun σ H Q q => de_lst q
def ckLst {args : E} (A : Ck c args) : (x : Expr) → Pf (OkE c (.lst args) x)
  | .List es pos => (A.a es).and fun h => yes (ok_lstE h)
  | _ => none
theorem ok_dT {pos : Pos} : OkE c .dnewT (.Dict [] [] pos) := fun X W px k => PE.imp pe_dnewT fun σ H Q q => de_dnewT q
theorem ok_dK {pos : Pos} : OkE c .dnewK (.Dict [] [] pos) := fun X W px k => PE.imp pe_dnewK fun σ H Q q => de_dnewK q
def ckDT : (x : Expr) → Pf (OkE c .dnewT x)
  | .Dict [] [] pos => yes ok_dT
  | _ => none
def ckDK : (x : Expr) → Pf (OkE c .dnewK x)
  | .Dict [] [] pos => yes ok_dK
  | _ => none
theorem ok_dlit {a b : E} {x y : Expr} {pos : Pos} (h1 : OkE c a x) (h2 : OkE c b y) : OkE c (.dlit a b) (.Dict [some x] [y] pos) := fun X W px k => PE.imp (pe_dispT (by have := k.un; omega) (h1 X W px k) (h2 X W px k)) fun σ H Q q => de_dlit q
def ckDlit {a b : E} (A : Ck c a) (B : Ck c b) : (x : Expr) → Pf (OkE c (.dlit a b) x)
  | .Dict [some x] [y] pos => (A.e x).and fun h1 => (B.e y).and fun h2 => yes (ok_dlit h1 h2)
  | _ => none
theorem ok_slcL {a b : E} {x y : Expr} {p2 pos : Pos} (h1 : OkE c a x) (h2 : OkE c b y) : OkE c (.slcL a b) (.Subscript x (.Slice (some y) none none p2) pos) := fun X W px k => PE.imp (pe_slice sl_all (h1 X W px k) (po_some (h2 X W px k)) po_none) fun σ H Q q => de_slcL q
theorem ok_slcU {a b : E} {x y : Expr} {p2 pos : Pos} (h1 : OkE c a x) (h2 : OkE c b y) : OkE c (.slcU a b) (.Subscript x (.Slice none (some y) none p2) pos) := fun X W px k => PE.imp (pe_slice sl_all (h1 X W px k) po_none (po_some (h2 X W px k))) fun σ H Q q => de_slcU q
theorem ok_slcB {a b d : E} {x y z : Expr} {p2 pos : Pos} (h1 : OkE c a x) (h2 : OkE c b y) (h3 : OkE c d z) : OkE c (.slcB a b d) (.Subscript x (.Slice (some y) (some z) none p2) pos) := fun X W px k => PE.imp (pe_slice sl_all (h1 X W px k) (po_some (h2 X W px k)) (po_some (h3 X W px k))) fun σ H Q q => de_slcB q
def ckSlcL {a b : E} (A : Ck c a) (B : Ck c b) : (x : Expr) → Pf (OkE c (.slcL a b) x)
  | .Subscript x (.Slice (some y) none none p2) pos => (A.e x).and fun h1 => (B.e y).and fun h2 => yes (ok_slcL h1 h2)
  | _ => none
def ckSlcU {a b : E} (A : Ck c a) (B : Ck c b) : (x : Expr) → Pf (OkE c (.slcU a b) x)
  | .Subscript x (.Slice none (some y) none p2) pos => (A.e x).and fun h1 => (B.e y).and fun h2 => yes (ok_slcU h1 h2)
  | _ => none
def ckSlcB {a b d : E} (A : Ck c a) (B : Ck c b) (C : Ck c d) : (x : Expr) → Pf (OkE c (.slcB a b d) x)
  | .Subscript x (.Slice (some y) (some z) none p2) pos => (A.e x).and fun h1 => (B.e y).and fun h2 => (C.e z).and fun h3 => yes (ok_slcB h1 h2 h3)
  | _ => none
def baseOk : Expr → Bool
  | .Call (.Name _ _) [] [] _ => false
  | _ => true
theorem base_ok {o : Expr} {n : Str} {env : Env} (h : baseOk o = true) : attributeBase o n env (eval o env) = eval o env := by
  cases o with
  | Call f args kw pos =>
    cases f with
    | Name x p =>
      cases args with
      | nil =>
        cases kw with
        | nil => cases h
        | cons _ _ => rfl
      | cons _ _ => rfl
    | _ => rfl
  | _ => rfl
theorem few_ok {e : Expr} {es : List Expr} {cp : Pos} {env : Env} (hs : (e :: es).any isStar = false) (hl : decide ((e :: es).length < 30) = true) : ((backTo cp (starEach (e :: es) env)).all (fun x => !x.1) && (backToKw cp (keywordEach [] env)).all (fun x => x.1.isSome) && decide ((e :: es).length + ([] : List Keyword).length + (if ([] : List Keyword).isEmpty then 0 else 1) < 30)) = true := by
  rw [star_all cp env hs]
  have hl := of_decide_eq_true hl
  simp only [List.length_cons] at hl
  simp [backToKw, keywordEach, hl]
theorem ok_get {a args : E} {o e : Expr} {es : List Expr} {n : Str} {ap cp : Pos} (hn : n = ("get" : Str)) (h1 : OkE c a o) (h : OkA c args (e :: es)) (hb : baseOk o = true) (hp : (ap.endLine == cp.line) = true) (hs : (e :: es).any isStar = false) (hl : decide ((e :: es).length < 30) = true) : OkE c (.meth .getd a args) (.Call (.Attribute o n ap) (e :: es) [] cp) := fun X W px k => by
  subst hn
  have hs' := hs
  simp only [List.any_cons, Bool.or_eq_false_iff] at hs
  refine PE.imp (pe_bm PySem.F.plainAttrs_dict PySem.F.slot_dict_get PySem.F.type_dict_get (mt_get2 (by have := k.un; omega)) (h1 X W px k) (h X W px k) (base_ok hb) (few_ok hs' hl) hp (star_cons es X.env hs.1) (star_any cp X.env hs.2)) fun σ H Q q => ?_
  exact de_meth (T := tyV X.K "dict") ok_getd (fun d v H hm hr => by
    cases d with
    | dT ks ds =>
      obtain ⟨a, us, rfl, ha, _⟩ := hr.dT'
      exact .inr (.inr (.inl ⟨rfl, .inr ⟨_, ha⟩⟩))
    | dK ks ds =>
      obtain ⟨a, us, rfl, ha, _⟩ := hr.dK'
      exact .inr (.inr (.inl ⟨rfl, .inl ⟨_, ha⟩⟩))
    | _ => cases hm) q
theorem ok_index {K : KP} : PrimOk K .index (lm (rIndexD K)) := by
  intro ds res vs H G Q le rp e k
  replace e : pIndex ds = some res := e
  unfold pIndex at e
  split at e
  · rename_i xs x
    split at e
    · rename_i hs
      obtain ⟨j, e3, e4⟩ := obind e
      cases e4
      have hs := Bool.and_eq_true_iff.mp hs
      obtain ⟨u, v, rfl, h1, h2⟩ := rp.two
      obtain ⟨a, us, rfl, ha, hu⟩ := h1.lst'
      obtain ⟨hj, hz, hno⟩ := List.findIdx?_eq_some_iff_getElem.mp e3
      have dl := h1.dp le (SeqAt.canLay_of_shaped (show SeqAt.shaped (toPy (.lst xs)) = true from hs.2))
      refine ⟨a, v, toPy x, toPyL xs, j, (toPyL xs)[j], rfl, rfl, dl, h2.dp le (SeqAt.canLay_of_shaped hs.1), hs.2, hs.1, List.getElem?_eq_getElem hj, hz, fun m z' hm hz' => ?_, k _ (Rep.ofInt _)⟩
      have hml : m < (toPyL xs).length := Nat.lt_trans hm hj
      rw [List.getElem?_eq_getElem hml] at hz'
      cases hz'
      have := hno m hm
      simpa using this
    · cases e
  · cases e
theorem ok_ixm {a args : E} {o e : Expr} {es : List Expr} {n : Str} {ap cp : Pos} (hn : n = ("index" : Str)) (h1 : OkE c a o) (h : OkA c args (e :: es)) (hb : baseOk o = true) (hp : (ap.endLine == cp.line) = true) (hs : (e :: es).any isStar = false) (hl : decide ((e :: es).length < 30) = true) : OkE c (.meth .index a args) (.Call (.Attribute o n ap) (e :: es) [] cp) := fun X W px k => by
  subst hn
  have hs' := hs
  simp only [List.any_cons, Bool.or_eq_false_iff] at hs
  refine PE.imp (pe_bm PySem.F.plainAttrs_list PySem.F.slot_list_index PySem.F.type_list_index (mt_indexD (by have := k.un; omega)) (h1 X W px k) (h X W px k) (base_ok hb) (few_ok hs' hl) hp (star_cons es X.env hs.1) (star_any cp X.env hs.2)) fun σ H Q q => ?_
  exact de_meth (T := tyV X.K "list") ok_index (fun d v H hm hr => by
    cases d with
    | lst ds =>
      obtain ⟨a, us, rfl, ha, _⟩ := hr.lst'
      exact .inl ⟨rfl, us, SqL.of ha⟩
    | _ => cases hm) q
theorem ok_joinE {a args : E} {o e : Expr} {es : List Expr} {n : Str} {ap cp : Pos} (hn : n = ("join" : Str)) (h1 : OkE c a o) (h : OkA c args (e :: es)) (hb : baseOk o = true) (hp : (ap.endLine == cp.line) = true) (hs : (e :: es).any isStar = false) (hl : decide ((e :: es).length < 30) = true) : OkE c (.meth .join a args) (.Call (.Attribute o n ap) (e :: es) [] cp) := fun X W px k => by
  subst hn
  have hs' := hs
  simp only [List.any_cons, Bool.or_eq_false_iff] at hs
  refine PE.imp (pe_bm PySem.F.plainAttrs_str PySem.F.slot_str_join PySem.F.type_str_join mt_join (h1 X W px k) (h X W px k) (base_ok hb) (few_ok hs' hl) hp (star_cons es X.env hs.1) (star_any cp X.env hs.2)) fun σ H Q q => ?_
  exact de_meth (T := tyV X.K "str") ok_join (fun d v H hm hr => by
    cases d with
    | str z => rw [hr.str']; rfl
    | _ => cases hm) q
theorem ok_splitE {a args : E} {o e : Expr} {es : List Expr} {n : Str} {ap cp : Pos} (hn : n = ("split" : Str)) (h1 : OkE c a o) (h : OkA c args (e :: es)) (hb : baseOk o = true) (hp : (ap.endLine == cp.line) = true) (hs : (e :: es).any isStar = false) (hl : decide ((e :: es).length < 30) = true) : OkE c (.meth .split a args) (.Call (.Attribute o n ap) (e :: es) [] cp) := fun X W px k => by
  subst hn
  have hs' := hs
  simp only [List.any_cons, Bool.or_eq_false_iff] at hs
  refine PE.imp (pe_bm PySem.F.plainAttrs_str PySem.F.slot_str_split PySem.F.type_str_split mt_split (h1 X W px k) (h X W px k) (base_ok hb) (few_ok hs' hl) hp (star_cons es X.env hs.1) (star_any cp X.env hs.2)) fun σ H Q q => ?_
  exact de_meth (T := tyV X.K "str") ok_split (fun d v H hm hr => by
    cases d with
    | str z => rw [hr.str']; rfl
    | _ => cases hm) q
theorem ok_sidxE {a args : E} {o e : Expr} {es : List Expr} {n : Str} {ap cp : Pos} (hn : n = ("index" : Str)) (h1 : OkE c a o) (h : OkA c args (e :: es)) (hb : baseOk o = true) (hp : (ap.endLine == cp.line) = true) (hs : (e :: es).any isStar = false) (hl : decide ((e :: es).length < 30) = true) : OkE c (.meth .sidx a args) (.Call (.Attribute o n ap) (e :: es) [] cp) := fun X W px k => by
  subst hn
  have hs' := hs
  simp only [List.any_cons, Bool.or_eq_false_iff] at hs
  refine PE.imp (pe_bm PySem.F.plainAttrs_str PySem.F.slot_str_index PySem.F.type_str_index mt_sidx (h1 X W px k) (h X W px k) (base_ok hb) (few_ok hs' hl) hp (star_cons es X.env hs.1) (star_any cp X.env hs.2)) fun σ H Q q => ?_
  exact de_meth (T := tyV X.K "str") ok_sidx (fun d v H hm hr => by
    cases d with
    | str z => rw [hr.str']; rfl
    | _ => cases hm) q
def ckMeth {a args : E} (A : Ck c a) (B : Ck c args) : (p : Prim) → (x : Expr) → Pf (OkE c (.meth p a args) x)
  | .getd, .Call (.Attribute o n ap) (e :: es) [] cp => if hn : n = ("get" : Str) then (A.e o).and fun h1 => (B.a (e :: es)).and fun h2 => gd _ fun h3 => gd _ fun h4 => (if hs : (e :: es).any isStar = false then gd _ fun h5 => yes (ok_get hn h1 h2 h3 h4 hs h5) else none) else none
  | .index, .Call (.Attribute o n ap) (e :: es) [] cp => if hn : n = ("index" : Str) then (A.e o).and fun h1 => (B.a (e :: es)).and fun h2 => gd _ fun h3 => gd _ fun h4 => (if hs : (e :: es).any isStar = false then gd _ fun h5 => yes (ok_ixm hn h1 h2 h3 h4 hs h5) else none) else none
  | .join, .Call (.Attribute o n ap) (e :: es) [] cp => if hn : n = ("join" : Str) then (A.e o).and fun h1 => (B.a (e :: es)).and fun h2 => gd _ fun h3 => gd _ fun h4 => (if hs : (e :: es).any isStar = false then gd _ fun h5 => yes (ok_joinE hn h1 h2 h3 h4 hs h5) else none) else none
  | .sidx, .Call (.Attribute o n ap) (e :: es) [] cp => if hn : n = ("index" : Str) then (A.e o).and fun h1 => (B.a (e :: es)).and fun h2 => gd _ fun h3 => gd _ fun h4 => (if hs : (e :: es).any isStar = false then gd _ fun h5 => yes (ok_sidxE hn h1 h2 h3 h4 hs h5) else none) else none
  | .split, .Call (.Attribute o n ap) (e :: es) [] cp => if hn : n = ("split" : Str) then (A.e o).and fun h1 => (B.a (e :: es)).and fun h2 => gd _ fun h3 => gd _ fun h4 => (if hs : (e :: es).any isStar = false then gd _ fun h5 => yes (ok_splitE hn h1 h2 h3 h4 hs h5) else none) else none
  | _, _ => none
theorem ok_call (hc : c.hot = false) {i : Nat} {args : E} {x : Str} {f : Fn} {e : Expr} {es : List Expr} {po pos : Pos} (h : c.Γ[i]? = some (x, f)) (hg : glB c.sc x = true) (hd : decide ((x == ("__debug__" : Str)) = false) = true) (h2 : OkA c args (e :: es)) (hs : (e :: es).any isStar = false) : OkE c (.call i args) (.Call (.Name x po) (e :: es) [] pos) := fun X W px k => by
  obtain rfl : px = none := k.cold hc
  obtain ⟨a, fd, ps, g1, g2, g3, g4, g5⟩ := k.fns hc i x f h
  simp only [List.any_cons, Bool.or_eq_false_iff] at hs
  exact PE.imp (pe_callS g4 g5 (k.glo hg) g1 g2 g3 (fun σ => L2N.passAt k.tk σ) (h2 X W _ k) (of_decide_eq_true hd) (star_cons es X.env hs.1) (star_any pos X.env hs.2)) fun σ H Q q => de_call h q
theorem pe_callS0 {X : Cx} {CX : CXT} {k : Nat} {f : Addr} {fd : FuncData} {ps : List Str} {sp : Sp} {E : L2.St → XK} {x : Str} {p pos : Pos} (F : FnOk X.prog X.w X.K X.mg X.base CX k f fd ps sp) (hr : Room k X.A) (hg : Gl X x) (hm : X.mg x = some (.ref f)) (hk : PySem.W.keepIn X.K (.ref f) = true) (hb : Binds X.K fd ps []) (hx : ∀ σ, PassesAt CX X σ (E σ)) (hdb : (x == ("__debug__" : Str)) = false) : PE X (.Call (.Name x p) [] [] pos) (tCallS sp E tNil) := by
  refine ⟨fun pins s σ H Q I h => ?_⟩
  refine wpAny_Call_Name_kw (ld_glob I hg hm ?_ hdb)
  exact PySem.W.callWith_K0 I.kIn hk (run_fnS (us := []) F hr hb (hx σ) I .nil h)
theorem ok_call0 (hc : c.hot = false) {i : Nat} {x : Str} {f : Fn} {po pos : Pos} (h : c.Γ[i]? = some (x, f)) (hg : glB c.sc x = true) (hd : decide ((x == ("__debug__" : Str)) = false) = true) : OkE c (.call i .nil) (.Call (.Name x po) [] [] pos) := fun X W px k => by
  obtain rfl : px = none := k.cold hc
  obtain ⟨a, fd, ps, g1, g2, g3, g4, g5⟩ := k.fns hc i x f h
  exact PE.imp (pe_callS0 g4 g5 (k.glo hg) g1 g2 g3 (fun σ => L2N.passAt k.tk σ) (of_decide_eq_true hd)) fun σ H Q q => da_nil (de_call h q)
theorem ok_callQ (hc : c.hot = true) {i : Nat} {args : E} {x : Str} {f : Fn} {e : Expr} {es : List Expr} {po pos : Pos} (h : c.Γ[i]? = some (x, f)) (hq : decide (x ∈ c.x.hq) = true) (hg : glB c.sc x = true) (hd : decide ((x == ("__debug__" : Str)) = false) = true) (h2 : OkA c args (e :: es)) (hs : (e :: es).any isStar = false) : OkE c (.call i args) (.Call (.Name x po) (e :: es) [] pos) := fun X W px k => by
  obtain ⟨a, fd, ps, g1, g2, g3, g4, g5⟩ := k.hfn i x f h (of_decide_eq_true hq)
  obtain ⟨ax, cls, d, oe, rfl, k1, k2, k3, k4⟩ := k.hotx hc
  simp only [List.any_cons, Bool.or_eq_false_iff] at hs
  exact PE.imp (pe_callQ g4 g5 k1 k2 k3 k4 (k.glo hg) g1 g2 g3 (fun σ => L2N.passAt k.tk σ) (h2 X W _ k) (of_decide_eq_true hd) (star_cons es X.env hs.1) (star_any pos X.env hs.2)) fun σ H Q q => de_call h q
def ckCall0 (i : Nat) : (x : Expr) → Pf (OkE c (.call i .nil) x)
  | .Call (.Name x po) [] [] pos => match h : c.Γ[i]? with
    | some (y, f) => if hx : y = x then gd _ fun h3 => gd _ fun h4 => (if hc : c.hot = false then yes (ok_call0 hc (hx ▸ h) h3 h4) else none) else none
    | none => none
  | _ => none
def ckCall {args : E} (i : Nat) (A : Ck c args) : (x : Expr) → Pf (OkE c (.call i args) x)
  | .Call (.Name x po) (e :: es) [] pos => match h : c.Γ[i]? with
    | some (y, f) => if hx : y = x then gd _ fun h3 => gd _ fun h4 => (A.a (e :: es)).and fun h2 => (if hs : (e :: es).any isStar = false then (if hc : c.hot = false then yes (ok_call hc (hx ▸ h) h3 h4 h2 hs) else (if hc : c.hot = true then gd _ fun hq => yes (ok_callQ hc (hx ▸ h) hq h3 h4 h2 hs) else none)) else none) else none
    | none => none
  | _ => none
theorem ok_isx {t : String} {cs : List String} {m : E} {x y : Str} {e : Expr} {po p2 pos : Pos} (hx : x = ("isinstance" : Str)) (hy : y = Str.ofString t) (hg : glB c.sc x = true) (hf : decide (x ∈ c.fr) = true) (hg2 : glB c.sc y = true) (hcs : decide (∀ n ∈ cs, n ∈ c.x.xc) = true) (ht : decide (t ∈ c.x.xt) = true) (hn : decide (y ≠ "__name__" ∧ (y == ("__debug__" : Str)) = false) = true) (h2 : OkE c m e) (hs : isStar e = false) : OkE c (.isx t cs m) (.Call (.Name x po) [e, .Name y p2] [] pos) := fun X W px k => by
  subst hx
  obtain ⟨hn1, hn2⟩ := of_decide_eq_true hn
  have hcs := of_decide_eq_true hcs
  have ht := of_decide_eq_true ht
  constructor
  intro pins s σ H Q I q
  have q2 := de_isx q
  obtain ⟨v, cv, pt, hv⟩ : ∃ (v : V) (cv : Value), PE X (.Name y p2) (tC v) ∧ (∀ u, RelV v u → u = cv) ∧ cv = clsV X.K t := by
    rcases k.xin.n t ht with ⟨h1, h3⟩ | ⟨h1, h3⟩
    · subst h1 hy
      exact ⟨.ty "ValueError", .type "ValueError", pe_bltn (k.glo hg2) h3 PyProof.Rows.Boot.«ValueError» (show RelV (.ty "ValueError") (.type "ValueError") from rfl) hn1 hn2, fun u r => r, by unfold clsV; rw [if_pos rfl]⟩
    · subst hy
      exact ⟨.ref _, .ref _, pe_glob (k.glo hg2) h3 (show RelV (.ref _) (.ref _) from rfl) hn2, fun u r => r, by unfold clsV; rw [if_neg h1]⟩
  obtain ⟨hv, rfl⟩ := hv
  have vac : (∀ v H1, (∃ n a d, n ∈ cs ∧ v = V.ref a ∧ px = some (a, .ref (He.ga X.K (Str.ofString n)), d) ∧ XDict H1 d ∧ Q (.bl (subX n t)) H1) → False) → wpAny (model X.prog X.w) X.A (eval (.Call (.Name "isinstance" po) [e, .Name y p2] [] pos) X.env) (EP X pins σ Q) X.xe s := fun no => by
    have r := pe_callB (p := po) (pos := pos) (r := fun _ _ _ => False) (show CallR X (.builtin "isinstance") (fun _ _ _ => False) from fun pins s σ H xs us Q I r h => h.elim) (k.glo hg) (k.fr _ (of_decide_eq_true hf)) (by decide +kernel) (pa_cons (h2 X W _ k) (pa_cons pt pa_nil (star_cons [] X.env rfl)) (star_cons _ X.env hs)) (by decide +kernel) (by decide +kernel) (star_cons _ X.env hs) (star_any pos X.env rfl)
    exact r.run pins s σ H Q I (de_mono q2 fun v1 H1 z => (no v1 H1 z).elim)
  by_cases hot : c.hot = true
  · obtain ⟨ax, cls, d, oe, rfl, k1, k2, k3, k4⟩ := k.hotx hot
    by_cases hC : ∃ n ∈ cs, cls = .ref (He.ga X.K (Str.ofString n))
    · obtain ⟨n, hn0, rfl⟩ := hC
      have r := pe_callB (p := po) (pos := pos) (call_isX (k.xin.k n (hcs n hn0)) k1 k2 k3) (k.glo hg) (k.fr _ (of_decide_eq_true hf)) (by decide +kernel) (pa_cons (h2 X W _ k) (pa_cons pt pa_nil (star_cons [] X.env rfl)) (star_cons _ X.env hs)) (by decide +kernel) (by decide +kernel) (star_cons _ X.env hs) (star_any pos X.env rfl)
      refine r.run pins s σ H Q I (de_mono q2 fun v1 H1 z => ?_)
      obtain ⟨n2, a2, d2, m1, rfl, m3, m4, m5⟩ := z
      simp only [Option.some.injEq, Prod.mk.injEq] at m3
      obtain ⟨rfl, m6, rfl⟩ := m3
      exact ⟨v, clsV X.K t, subX n2 t, rfl, hv, by rw [m6]; exact k.xin.is n2 (hcs n2 m1) t ht, m4, m5⟩
    · refine vac fun v1 H1 z => hC ?_
      obtain ⟨n2, a2, d2, m1, rfl, m3, m4, m5⟩ := z
      simp only [Option.some.injEq, Prod.mk.injEq] at m3
      exact ⟨n2, m1, m3.2.1⟩
  · refine vac fun v1 H1 z => ?_
    obtain ⟨n2, a2, d2, m1, rfl, m3, m4, m5⟩ := z
    rw [k.cold (by simpa using hot)] at m3
    cases m3
def ckIsx (t : String) (cs : List String) {m : E} (A : Ck c m) : (x : Expr) → Pf (OkE c (.isx t cs m) x)
  | .Call (.Name x po) [e, .Name y p2] [] pos => if hx : x = ("isinstance" : Str) then (if hy : y = Str.ofString t then gd _ fun h1 => gd _ fun h2 => gd _ fun h3 => gd _ fun h4 => gd _ fun h5 => gd _ fun h6 => (A.e e).and fun h7 => (if hs : isStar e = false then yes (ok_isx hx hy h1 h2 h3 h4 h5 h6 h7 hs) else none) else none) else none
  | _ => none
theorem ok_attr {f : Str} {cs : List String} {m : E} {e : Expr} {pos : Pos} (hcs : decide (∀ n ∈ cs, n ∈ c.x.xc ∧ (n, f) ∈ c.x.xi) = true) (h2 : OkE c m e) (hb : baseOk e = true) : OkE c (.attr m f cs) (.Attribute e f pos) := fun X W px k => by
  have hcs := of_decide_eq_true hcs
  constructor
  intro pins s σ H Q I q
  have q2 := de_attr q
  have any : ∀ (px' : Prop), True := fun _ => trivial
  by_cases hot : c.hot = true
  · obtain ⟨ax, cls, d, oe, rfl, k1, k2, k3, k4⟩ := k.hotx hot
    by_cases hC : ∃ n ∈ cs, cls = .ref (He.ga X.K (Str.ofString n))
    · obtain ⟨n, hn0, rfl⟩ := hC
      have r := pe_attrX (pos := pos) (n := f) (k.xin.k n (hcs n hn0).1) (k.xi n f (hcs n hn0).2).1.2.2.1 k1 k2 k3 (h2 X W _ k) (base_ok hb)
      refine r.run pins s σ H Q I (de_mono q2 fun v1 H1 z => ?_)
      obtain ⟨n2, a2, dx, w, m1, rfl, m3, m4, m5⟩ := z
      simp only [Option.some.injEq, Prod.mk.injEq] at m3
      obtain ⟨rfl, m6, rfl⟩ := m3
      exact ⟨rfl, dx, _, w, rfl, m4, by simp [List.lookup], m5⟩
    · refine attr_of (base_ok hb) (thn ((h2 X W _ k).run pins s σ H _ I (de_mono (Q' := fun _ _ => False) q2 fun v1 H1 z => hC ?_)) fun u s1 z => ?_)
      · obtain ⟨n2, a2, dx, w, m1, rfl, m3, m4, m5⟩ := z
        simp only [Option.some.injEq, Prod.mk.injEq] at m3
        exact ⟨n2, m1, m3.2.1⟩
      · obtain ⟨_, _, _, _, z⟩ := z
        exact z.elim
  · refine attr_of (base_ok hb) (thn ((h2 X W _ k).run pins s σ H _ I (de_mono (Q' := fun _ _ => False) q2 fun v1 H1 z => ?_)) fun u s1 z => ?_)
    · obtain ⟨n2, a2, dx, w, m1, rfl, m3, m4, m5⟩ := z
      rw [k.cold (by simpa using hot)] at m3
      cases m3
    · obtain ⟨_, _, _, _, z⟩ := z
      exact z.elim
def ckAttr (f : Str) (cs : List String) {m : E} (A : Ck c m) : (x : Expr) → Pf (OkE c (.attr m f cs) x)
  | .Attribute e f' pos => if hf : f' = f then gd _ fun h1 => (A.e e).and fun h2 => gd _ fun h3 => yes (by subst hf; exact ok_attr h1 h2 h3) else none
  | _ => none
theorem ok_callM (hc : c.hot = false) {i : Nat} {args : E} {x : Str} {f : Fn} {e : Expr} {es : List Expr} {po pos : Pos} (h : c.Γ[i]? = some (x, f)) (hg : glB c.sc x = true) (hd : decide ((x == ("__debug__" : Str)) = false) = true) (h2 : OkA c args (e :: es)) (hs : (e :: es).any isStar = false) : OkE c (.callM i args) (.Call (.Name x po) (e :: es) [] pos) := fun X W px k => by
  obtain rfl : px = none := k.cold hc
  obtain ⟨a, fd, ps, g1, g2, g3, g4, g5⟩ := k.fns hc i x f h
  simp only [List.any_cons, Bool.or_eq_false_iff] at hs
  exact PE.imp (pe_callS g4 g5 (k.glo hg) g1 g2 g3 (fun σ => L2N.passAt k.tk σ) (h2 X W _ k) (of_decide_eq_true hd) (star_cons es X.env hs.1) (star_any pos X.env hs.2)) fun σ H Q q => de_callM h q
def ckCallM {args : E} (i : Nat) (A : Ck c args) : (x : Expr) → Pf (OkE c (.callM i args) x)
  | .Call (.Name x po) (e :: es) [] pos => match h : c.Γ[i]? with
    | some (y, f) => if hx : y = x then gd _ fun h3 => gd _ fun h4 => (A.a (e :: es)).and fun h2 => (if hs : (e :: es).any isStar = false then (if hc : c.hot = false then yes (ok_callM hc (hx ▸ h) h3 h4 h2 hs) else none) else none) else none
    | none => none
  | _ => none
def nmOk (c : Cf) : List Nat → List Expr → Bool
  | [], [] => true
  | k :: ks, .Name x po :: ns => (match c.Γ[k]? with
    | some (y, f) => decide (y = x)
    | none => false) && (glB c.sc x && (decide ((x == ("__debug__" : Str)) = false) && nmOk c ks ns))
  | _, _ => false
theorem nm_ok (hc : c.hot = false) {X : Cx} {W : WX} {px : PX} (k : Cxt X W px c) : ∀ {ks : List Nat} {ns : List Expr}, nmOk c ks ns = true → ∃ us : List V, PA X ns (fun _ H Q => Q us H) ∧ us.length = ks.length ∧ ∀ (n kk : Nat) (x : Str) (f : Fn), ks[n]? = some kk → c.Γ[kk]? = some (x, f) → ∃ a fd ps, us[n]? = some (.ref a) ∧ PySem.W.keepIn X.K (.ref a) = true ∧ Binds X.K fd ps [] ∧ FnOk X.prog X.w X.K X.mg X.base (L2N.CX X.prog X.w) f.lv a fd ps (spOf ⟨X.K, none⟩ X.mg f) ∧ Room f.lv X.A
  | [], [], _ => ⟨[], PA.imp pa_nil fun _ _ _ q => q, rfl, fun n kk x f h => by cases h⟩
  | kk :: ks, .Name x po :: ns, h => by
    unfold nmOk at h
    obtain ⟨h1, h⟩ := Bool.and_eq_true_iff.mp h
    obtain ⟨h2, h⟩ := Bool.and_eq_true_iff.mp h
    obtain ⟨h3, h4⟩ := Bool.and_eq_true_iff.mp h
    obtain ⟨us, g1, g2, g3⟩ := nm_ok hc k h4
    cases e : c.Γ[kk]? with
    | none => rw [e] at h1; cases h1
    | some yf =>
      obtain ⟨y, f⟩ := yf
      rw [e] at h1
      obtain rfl := of_decide_eq_true h1
      obtain ⟨a, fd, ps, m1, m2, m3, m4, m5⟩ := k.fns hc kk y f e
      refine ⟨.ref a :: us, PA.imp (pa_cons (pe_glob (k.glo h2) m1 (show RelV (.ref a) (.ref a) from rfl) (of_decide_eq_true h3)) g1 (star_cons ns X.env rfl)) fun σ H Q q => q, by simp [g2], fun n kk2 x2 f2 hk hf => ?_⟩
      cases n with
      | zero =>
        simp at hk
        subst hk
        rw [e] at hf
        cases hf
        exact ⟨a, fd, ps, rfl, m2, m3, m4, m5⟩
      | succ n => exact g3 n kk2 x2 f2 (by simpa using hk) hf
theorem ok_callI (hc : c.hot = false) {ks : List Nat} {i args : E} {ns : List Expr} {ie e : Expr} {es : List Expr} {lp sp pos : Pos} (hn : nmOk c ks ns = true) (hz : decide (ks.length < 100) = true) (hi : OkE c i ie) (hsl : isSlice ie = false) (h2 : OkA c args (e :: es)) (hs : (e :: es).any isStar = false) : OkE c (.callI ks i args) (.Call (.Subscript (.List ns lp) ie sp) (e :: es) [] pos) := fun X W px k => by
  obtain rfl : px = none := k.cold hc
  obtain ⟨us, g1, g2, g3⟩ := nm_ok hc k hn
  simp only [List.any_cons, Bool.or_eq_false_iff] at hs
  have hf := pe_ix (pos := sp) (ix_any (X := X) (by have := k.un; omega)) (pe_lst (pos := lp) g1) (hi X W _ k) (plain_ix hsl)
  refine ⟨fun pins s σ H Q I q => ?_⟩
  have q1 := de_callI q
  refine PyProof.Rows.Call_ (thn (hf.run pins s σ H (fun y H1 => ∃ f a fd ps, y = .ref a ∧ PySem.W.keepIn X.K (.ref a) = true ∧ Binds X.K fd ps [] ∧ FnOk X.prog X.w X.K X.mg X.base (L2N.CX X.prog X.w) f.lv a fd ps (spOf ⟨X.K, none⟩ X.mg f) ∧ Room f.lv X.A ∧ DA ⟨X.K, none⟩ X.mg W c.Γ args σ H1 fun vs H2 => spOf ⟨X.K, none⟩ X.mg f vs H2 Q (fun cls d H' => W cls d σ H')) I ?_) fun u s1 z => ?_) rfl
  · refine ⟨by rw [g2, sizeLine_eq]; have := of_decide_eq_true hz; omega, fun p hp => de_mono (q1 p us hp) fun y H2 z => ?_⟩
    obtain ⟨j, n, kk, f, rfl, z1, z2, z3, z4, z5⟩ := z
    obtain ⟨x, f⟩ := f
    obtain ⟨a, fd, ps, m1, m2, m3, m4, m5⟩ := g3 n kk x f z3 z4
    refine .inl (.inl ⟨p, us, j, .ref a, rfl, rfl, SqL.of z1, ?_, f, a, fd, ps, rfl, m2, m3, m4, m5, z5⟩)
    unfold atI
    rw [g2, z2]
    exact m1
  · obtain ⟨y, H1, I1, ry, f, a, fd, ps, rfl, m2, m3, m4, m5, z5⟩ := z
    obtain rfl : u = Value.ref a := ry
    refine PySem.W.callWith_K (h₀ := X.base) I.ok.mod.kin m2 (thn ((h2 X W _ k).run pos pins s1 σ H1 _ I1 z5) fun us2 s2 ⟨vs, H2, I2, r, q2⟩ => ⟨I2.kIn, ?_⟩) (star_cons es X.env hs.1) (star_any pos X.env hs.2)
    exact run_fnS (E := fun σ cls d H' => W cls d σ H') m4 m5 m3 (L2N.passAt k.tk σ) I2 r q2
def ckCallI (ks : List Nat) {i args : E} (I : Ck c i) (A : Ck c args) : (x : Expr) → Pf (OkE c (.callI ks i args) x)
  | .Call (.Subscript (.List ns lp) ie sp) (e :: es) [] pos => gd _ fun h1 => gd _ fun h2 => (I.e ie).and fun h3 => (A.a (e :: es)).and fun h4 => (if h5 : isSlice ie = false then (if hs : (e :: es).any isStar = false then (if hc : c.hot = false then yes (ok_callI hc h1 h2 h3 h5 h4 hs) else none) else none) else none)
  | _ => none
abbrev IntsE (k : List Int) (es : List Expr) : Prop := ∀ X : Cx, PA X es (tCs k)
theorem ints_nil : IntsE [] [] := fun X => pa_nil
theorem ints_cons {i : Int} {j : Nat} {pos : Pos} {k : List Int} {es : List Expr} (h : IntsE k es) : IntsE (i :: k) (.Constant (.int i) j pos :: es) := fun X => pa_cons pe_int (h X) (star_cons es X.env rfl)
def ckInts : (k : List Int) → (es : List Expr) → Pf (IntsE k es)
  | [], [] => yes ints_nil
  | i :: k, .Constant (.int i') j pos :: es => if h : i = i' then (ckInts k es).and fun h2 => yes (h ▸ ints_cons h2) else none
  | _, _ => none
abbrev DispE (ps : List (List Int × Int)) (keys : List (Option Expr)) (values : List Expr) : Prop := ∀ (X : Cx) (pos : Pos), PPs X pos keys values (ps.map fun p => (tTupI p.1, tC (.int p.2)))
theorem disp_nil : DispE [] [] [] := fun X pos => pps_nil
theorem disp_cons {k : List Int} {v : Int} {ps : List (List Int × Int)} {keys : List (Option Expr)} {values : List Expr} {es : List Expr} {j jj : Nat} {p1 p2 : Pos} (hk : decide (k.length ≤ 1000) = true) (h1 : IntsE k es) (h : DispE ps keys values) : DispE ((k, v) :: ps) (some (.Tuple es j p1) :: keys) (.Constant (.int v) jj p2 :: values) := fun X pos => pps_cons (PE.imp (pe_tup (h1 X)) fun σ H Q q => tCs_run k _ ⟨by rw [List.length_map, sizeLine_eq]; have := of_decide_eq_true hk; omega, q⟩) pe_int (h X pos)
theorem ok_tupR (hc : c.hot = false) {a : E} {x : Expr} {n m : Str} {p q pos pos2 : Pos} (hn : n = ("tuple" : Str)) (hm : m = ("range" : Str)) (hg : glB c.sc n = true) (hf : decide (n ∈ c.fr) = true) (hg2 : glB c.sc m = true) (hf2 : decide (m ∈ c.fr) = true) (h : OkE c a x) (hs : isStar x = false) : OkE c (.tupR a) (.Call (.Name n p) [.Call (.Name m q) [x] [] pos2] [] pos) := fun X W px k => by
  subst hn
  subst hm
  exact PE.imp (pe_tupRg (k.calm hc) (k.glo hg) (k.fr _ (of_decide_eq_true hf)) (prg_1 (k.glo hg2) (k.fr _ (of_decide_eq_true hf2)) (h X W px k) (star_cons [] X.env hs)) (star_cons [] X.env rfl)) fun σ H Q q => de_tupR q
def ckTupR {a : E} (A : Ck c a) : (x : Expr) → Pf (OkE c (.tupR a) x)
  | .Call (.Name n p) [.Call (.Name m q) [x] [] pos2] [] pos => if hn : n = ("tuple" : Str) then (if hm : m = ("range" : Str) then (if hc : c.hot = false then gd _ fun h1 => gd _ fun h2 => gd _ fun h3 => gd _ fun h4 => (A.e x).and fun h => (if hs : isStar x = false then yes (ok_tupR hc hn hm h1 h2 h3 h4 h hs) else none) else none) else none) else none
  | _ => none
def ckDispL : (ps : List (List Int × Int)) → (keys : List (Option Expr)) → (values : List Expr) → Pf (DispE ps keys values)
  | [], [], [] => yes disp_nil
  | (k, v) :: ps, some (.Tuple es j p1) :: keys, .Constant (.int v') jj p2 :: values => if h : v = v' then gd _ fun h0 => (ckInts k es).and fun h1 => (ckDispL ps keys values).and fun h2 => yes (h ▸ disp_cons h0 h1 h2) else none
  | _, _, _ => none
theorem ok_dispC {ps : List (List Int × Int)} {keys : List (Option Expr)} {values : List Expr} {pos : Pos} (h : DispE ps keys values) (hall : keys.all (·.isSome) = true) (hl : decide (keys.length = values.length ∧ keys ≠ [] ∧ keys.length ≤ 15) = true) : OkE c (.dispC ps) (.Dict keys values pos) := fun X W px k => by
  obtain ⟨l1, l2, l3⟩ := of_decide_eq_true hl
  exact PE.imp (pe_dispTs (by have := k.un; omega) (h X pos) hall l1 l2 l3) fun σ H Q q => de_dispC q
def ckDispC (ps : List (List Int × Int)) : (x : Expr) → Pf (OkE c (.dispC ps) x)
  | .Dict keys values pos => (ckDispL ps keys values).and fun h => gd _ fun h1 => gd _ fun h2 => yes (ok_dispC h h1 h2)
  | _ => none
theorem ok_tupOE {args : E} {es : List Expr} {j : Nat} {pos : Pos} (h : OkA c args es) : OkE c (.tupO args) (.Tuple es j pos) := fun X W px k => PE.imp (pe_tup (h X W px k)) fun σ H Q q => de_tupO q
def ckTupO {args : E} (A : Ck c args) : (x : Expr) → Pf (OkE c (.tupO args) x)
  | .Tuple es j pos => (A.a es).and fun h => yes (ok_tupOE h)
  | _ => none
abbrev OkP (c : Cf) (m : E) (x : Expr) : Prop := ∀ (X : Cx) (W : WX) (px : PX), Cxt X W px c → PE X x (DP ⟨X.K, px⟩ m)
abbrev OkPA (c : Cf) (m : E) (xs : List Expr) : Prop := ∀ (X : Cx) (W : WX) (px : PX), Cxt X W px c → PA X xs (DPs ⟨X.K, px⟩ m)
abbrev TwoP (c : Cf) (m : E) (x y : Expr) : Prop := ∀ (X : Cx) (W : WX) (px : PX), Cxt X W px c → ∃ t u, PE X x t ∧ PE X y u ∧ ∀ σ H Q, DPs ⟨X.K, px⟩ m σ H Q → t σ H fun v H1 => u σ H1 fun w H2 => Q [v, w] H2
structure CkP (c : Cf) (m : E) where
  e : (x : Expr) → Pf (OkP c m x)
  a : (es : List Expr) → Pf (OkPA c m es)
  two : (x y : Expr) → Pf (TwoP c m x y)
theorem okp_var {i : Nat} {x : Str} {pos : Pos} (h1 : decide (c.N[i]? = some x) = true) (h2 : visB c.sc x = true) (h3 : decide ((x == ("__debug__" : Str)) = false ∧ (x == ("__classdict__" : Str)) = false) = true) : OkP c (.var i) (.Name x pos) := fun X W px k => by
  obtain ⟨h3, h4⟩ := of_decide_eq_true h3
  exact PE.imp (pe_var (i := i) (by rw [k.hN]; exact of_decide_eq_true h1) (k.vis h2) h3 h4) fun σ H Q q => dp_var q
def ckpVar (i : Nat) : (x : Expr) → Pf (OkP c (.var i) x)
  | .Name x pos => gd _ fun h1 => gd _ fun h2 => gd _ fun h3 => yes (okp_var h1 h2 h3)
  | _ => none
theorem okp_int {i : Int} {j : Nat} {pos : Pos} : OkP c (.cst (.int i)) (.Constant (.int i) j pos) := fun X W px k => PE.imp pe_int fun σ H Q q => dp_cst (fun F H => by unfold Rep; rfl) q
def ckpCst : (d : D) → (x : Expr) → Pf (OkP c (.cst d) x)
  | .int i, .Constant (.int i') j pos => if h : i = i' then yes (h ▸ okp_int) else none
  | _, _ => none
theorem okp_nil : OkPA c .nil [] := fun X W px k => PA.imp pa_nil fun σ H Q q => dp_nil q
theorem okp_cons {a r : E} {x : Expr} {xs : List Expr} (h1 : OkP c a x) (h2 : OkPA c r xs) (h3 : isStar x = false) : OkPA c (.cons a r) (x :: xs) := fun X W px k => PA.imp (pa_cons (h1 X W px k) (h2 X W px k) (star_cons xs X.env h3)) fun σ H Q q => dp_split q
theorem okp_two {a b : E} {x y : Expr} (h1 : OkP c a x) (h2 : OkP c b y) : TwoP c (.cons a (.cons b .nil)) x y := fun X W px k => ⟨_, _, h1 X W px k, h2 X W px k, fun σ H Q q => dp_mono (dp_split q) fun v H1 z => dp_mono (dp_split z) fun w H2 z => dp_nil z⟩
theorem okp_ix {args : E} {x y : Expr} {pos : Pos} (h : TwoP c args x y) (h2 : isSlice y = false) : OkP c (.prim .ix args) (.Subscript x y pos) := fun X W px k => by
  obtain ⟨t, u, p1, p2, p3⟩ := h X W px k
  exact PE.imp (pe_ix (ix_any (by have := k.un; omega)) p1 p2 (plain_ix h2)) fun σ H Q q => p3 _ _ _ (dp_prim ok_ix q)
theorem okp_slcL {a b : E} {x y : Expr} {p2 pos : Pos} (h1 : OkP c a x) (h2 : OkP c b y) : OkP c (.slcL a b) (.Subscript x (.Slice (some y) none none p2) pos) := fun X W px k => PE.imp (pe_slice sl_all (h1 X W px k) (po_some (h2 X W px k)) po_none) fun σ H Q q => by
  refine dp_mono (dp_slcL q) fun v H1 z => ?_
  refine dp_mono z fun w H2 z => ?_
  obtain ⟨i, rfl, z⟩ := z
  exact ⟨i, rfl, z⟩
def ckpIx {args : E} (A : CkP c args) : (x : Expr) → Pf (OkP c (.prim .ix args) x)
  | .Subscript x y pos => (A.two x y).and fun h => (if h2 : isSlice y = false then yes (okp_ix h h2) else none)
  | _ => none
def ckpSlcL {a b : E} (A : CkP c a) (B : CkP c b) : (x : Expr) → Pf (OkP c (.slcL a b) x)
  | .Subscript x (.Slice (some y) none none p2) pos => (A.e x).and fun h1 => (B.e y).and fun h2 => yes (okp_slcL h1 h2)
  | _ => none
def ckpNil : (es : List Expr) → Pf (OkPA c .nil es)
  | [] => yes okp_nil
  | _ => none
def ckpCons {a r : E} (A : CkP c a) (B : CkP c r) : (es : List Expr) → Pf (OkPA c (.cons a r) es)
  | x :: xs => (A.e x).and fun h1 => (B.a xs).and fun h2 => if h3 : isStar x = false then yes (okp_cons h1 h2 h3) else none
  | _ => none
def ckP : (m : E) → (c : Cf) → CkP c m
  | .var i, c => ⟨ckpVar i, fun _ => none, fun _ _ => none⟩
  | .cst d, c => ⟨ckpCst d, fun _ => none, fun _ _ => none⟩
  | .prim .ix args, c => ⟨ckpIx (ckP args c), fun _ => none, fun _ _ => none⟩
  | .slcL a b, c => ⟨ckpSlcL (ckP a c) (ckP b c), fun _ => none, fun _ _ => none⟩
  | .nil, c => ⟨fun _ => none, ckpNil, fun _ _ => none⟩
  | .cons a (.cons b .nil), c => ⟨fun _ => none, ckpCons (ckP a c) (ckP (.cons b .nil) c), fun x y => ((ckP a c).e x).and fun h1 => ((ckP b c).e y).and fun h2 => yes (okp_two h1 h2)⟩
  | .cons a r, c => ⟨fun _ => none, ckpCons (ckP a c) (ckP r c), fun _ _ => none⟩
  | _, c => ⟨fun _ => none, fun _ => none, fun _ _ => none⟩
theorem ok_rdCmp {p : Prim} {args : E} {op : CmpOp} {x y : Expr} {pos : Pos} (h : cmpOp p = some op) (h2 : TwoP c args x y) (h3 : isSet y = false) : OkE c (.rd p args) (.Compare x [op] [y] pos) := fun X W px k => by
  obtain ⟨r, o, ok⟩ := cmp_rule k h
  obtain ⟨t, u, p1, p2, p3⟩ := h2 X W px k
  exact PE.imp (pe_cmpR o p1 p2 (marks_no h3 op)) fun σ H Q q => p3 _ _ _ (de_rd ok q)
theorem ok_rdCmpT {p : Prim} {args : E} {op : CmpOp} {x y : Expr} {pos : Pos} (h : cmpOp p = some op) (h2 : TwoP c args x y) (h3 : isSet y = false) : OkT c (.rd p args) (.Compare x [op] [y] pos) := fun X W px k => by
  obtain ⟨r, o, ok⟩ := cmp_rule k h
  obtain ⟨t, u, p1, p2, p3⟩ := h2 X W px k
  exact PT.imp (pt_cmpR o p1 p2 (marks_no h3 op)) fun σ H Q q => p3 _ _ _ (de_rd ok (dt_of q))
theorem ok_rdTy (hc : c.hot = false) {p : Prim} {args : E} {n : String} {x : Str} {e : Expr} {es : List Expr} {po pos : Pos} (h : biOf p = some (n, true)) (hx : x = Str.ofString n) (hg : glB c.sc x = true) (hf : decide (x ∈ c.fr) = true) (h2 : OkPA c args (e :: es)) (hs : (e :: es).any isStar = false) : OkE c (.rd p args) (.Call (.Name x po) (e :: es) [] pos) := fun X W px k => by
  subst hx
  obtain ⟨r, o, ok, b1, b2, b3⟩ := ty_rule k hc h
  simp only [List.any_cons, Bool.or_eq_false_iff] at hs
  exact PE.imp (pe_callTy o (k.glo hg) (k.fr _ (of_decide_eq_true hf)) b1 (h2 X W px k) b2 b3 (star_cons es X.env hs.1) (star_any pos X.env hs.2)) fun σ H Q q => de_rd ok q
theorem ok_rdBi (hc : c.hot = false) {p : Prim} {args : E} {n : String} {x : Str} {e : Expr} {es : List Expr} {po pos : Pos} (h : biOf p = some (n, false)) (hx : x = Str.ofString n) (hg : glB c.sc x = true) (hf : decide (x ∈ c.fr) = true) (h2 : OkPA c args (e :: es)) (hs : (e :: es).any isStar = false) : OkE c (.rd p args) (.Call (.Name x po) (e :: es) [] pos) := fun X W px k => by
  subst hx
  obtain ⟨r, o, ok, b1, b2, b3⟩ := bi_rule k hc h
  simp only [List.any_cons, Bool.or_eq_false_iff] at hs
  exact PE.imp (pe_callB o (k.glo hg) (k.fr _ (of_decide_eq_true hf)) b1 (h2 X W px k) b2 b3 (star_cons es X.env hs.1) (star_any pos X.env hs.2)) fun σ H Q q => de_rd ok q
def ckRd {args : E} (p : Prim) (A : CkP c args) : (x : Expr) → Pf (OkE c (.rd p args) x)
  | .Compare x [op] [y] pos => (A.two x y).and fun h2 => if h : cmpOp p = some op then (if h3 : isSet y = false then yes (ok_rdCmp h h2 h3) else none) else none
  | .Call (.Name x po) (e :: es) [] pos => match h : biOf p with
    | some (n, true) => (A.a (e :: es)).and fun h2 => if hx : x = Str.ofString n then gd _ fun h3 => gd _ fun h4 => (if hs : (e :: es).any isStar = false then (if hc : c.hot = false then yes (ok_rdTy hc h hx h3 h4 h2 hs) else none) else none) else none
    | some (n, false) => (A.a (e :: es)).and fun h2 => if hx : x = Str.ofString n then gd _ fun h3 => gd _ fun h4 => (if hs : (e :: es).any isStar = false then (if hc : c.hot = false then yes (ok_rdBi hc h hx h3 h4 h2 hs) else none) else none) else none
    | none => none
  | _ => none
def ckRdT {args : E} (p : Prim) (A : CkP c args) : (x : Expr) → Pf (OkT c (.rd p args) x)
  | .Compare x [op] [y] pos => (A.two x y).and fun h2 => if h : cmpOp p = some op then (if h3 : isSet y = false then yes (ok_rdCmpT h h2 h3) else none) else none
  | x => tOf (ckRd p A) x
theorem pv_of {X : Cx} {W : WX} {px : PX} (k : Cxt X W px c) {i : Nat} {x : Str} {pos : Pos} (h1 : decide (c.N[i]? = some x) = true) (h2 : visB c.sc x = true) (h3 : decide ((x == ("__debug__" : Str)) = false ∧ (x == ("__classdict__" : Str)) = false) = true) : PE X (.Name x pos) (tVar i) := by
  obtain ⟨h3, h4⟩ := of_decide_eq_true h3
  exact pe_var (i := i) (by rw [k.hN]; exact of_decide_eq_true h1) (k.vis h2) h3 h4
theorem ok_catO {i : Nat} {b : E} {x : Str} {y : Expr} {p1 pos : Pos} (h1 : decide (c.N[i]? = some x) = true) (h2 : visB c.sc x = true) (h3 : decide ((x == ("__debug__" : Str)) = false ∧ (x == ("__classdict__" : Str)) = false) = true) (h : OkE c b y) : OkE c (.catO i b) (.BinOp (.Name x p1) .Add y pos) := fun X W px k =>
  PE.imp (pe_op op_addA (pv_of k h1 h2 h3) (h X W px k)) fun σ H Q q => de_catO q
def ckCatO (i : Nat) {b : E} (B : Ck c b) : (x : Expr) → Pf (OkE c (.catO i b) x)
  | .BinOp (.Name x p1) .Add y pos => gd _ fun h1 => gd _ fun h2 => gd _ fun h3 => (B.e y).and fun h => yes (ok_catO h1 h2 h3 h)
  | _ => none
theorem ok_takeO {i : Nat} {b : E} {x : Str} {y : Expr} {p1 p2 pos : Pos} (h1 : decide (c.N[i]? = some x) = true) (h2 : visB c.sc x = true) (h3 : decide ((x == ("__debug__" : Str)) = false ∧ (x == ("__classdict__" : Str)) = false) = true) (h : OkE c b y) : OkE c (.takeO i b) (.Subscript (.Name x p1) (.Slice none (some y) none p2) pos) := fun X W px k =>
  PE.imp (pe_slice sl_all (pv_of k h1 h2 h3) po_none (po_some (h X W px k))) fun σ H Q q => by
    obtain ⟨v, e, z⟩ := de_takeO q
    exact ⟨v, e, de_mono z fun w H2 z => by
      obtain ⟨kk, rfl, z⟩ := z
      exact ⟨kk, rfl, z⟩⟩
def ckTakeO (i : Nat) {b : E} (B : Ck c b) : (x : Expr) → Pf (OkE c (.takeO i b) x)
  | .Subscript (.Name x p1) (.Slice none (some y) none p2) pos => gd _ fun h1 => gd _ fun h2 => gd _ fun h3 => (B.e y).and fun h => yes (ok_takeO h1 h2 h3 h)
  | _ => none
theorem ok_sortO (hc : c.hot = false) {i : Nat} {n x : Str} {po p1 pos : Pos} (hn : n = ("sorted" : Str)) (hg : glB c.sc n = true) (hf : decide (n ∈ c.fr) = true) (h1 : decide (c.N[i]? = some x) = true) (h2 : visB c.sc x = true) (h3 : decide ((x == ("__debug__" : Str)) = false ∧ (x == ("__classdict__" : Str)) = false) = true) : OkE c (.sortO i) (.Call (.Name n po) [.Name x p1] [] pos) := fun X W px k => by
  subst hn
  exact PE.imp (pe_callB (cr_sortD (X := X) (by have := k.un; omega)) (k.glo hg) (k.fr _ (of_decide_eq_true hf)) (by decide +kernel) (pa_cons (pv_of k h1 h2 h3) pa_nil (by rfl)) (by decide +kernel) (by decide +kernel) (by rfl) (by rfl)) fun σ H Q q => by
    obtain ⟨v, e, z⟩ := de_sortO q
    exact ⟨v, e, z⟩
def ckSortO (i : Nat) : (x : Expr) → Pf (OkE c (.sortO i) x)
  | .Call (.Name n po) [.Name x p1] [] pos => if hn : n = ("sorted" : Str) then (if hc : c.hot = false then gd _ fun h1 => gd _ fun h2 => gd _ fun h3 => gd _ fun h4 => gd _ fun h5 => yes (ok_sortO hc hn h1 h2 h3 h4 h5) else none) else none
  | _ => none
theorem ok_sortSet (hc : c.hot = false) {a : E} {x : Expr} {n m : Str} {p q pos pos2 : Pos} (hn : n = ("sorted" : Str)) (hm : m = ("set" : Str)) (hg : glB c.sc n = true) (hf : decide (n ∈ c.fr) = true) (hg2 : glB c.sc m = true) (hf2 : decide (m ∈ c.fr) = true) (h : OkE c a x) (hs : isStar x = false) : OkE c (.sortSet a) (.Call (.Name n p) [.Call (.Name m q) [x] [] pos2] [] pos) := fun X W px k => by
  subst hn
  subst hm
  exact PE.imp (pe_callB (cr_sortedSet (k.calm hc)) (k.glo hg) (k.fr _ (of_decide_eq_true hf)) (by decide +kernel)
    (pa_cons (pe_callTy (cr_setLI (k.calm hc)) (k.glo hg2) (k.fr _ (of_decide_eq_true hf2)) (by decide +kernel) (pa_cons (h X W px k) pa_nil (star_cons [] X.env hs)) (by decide +kernel) (by decide +kernel) (star_cons [] X.env hs) (by rfl)) pa_nil (by rfl)) (by decide +kernel) (by decide +kernel) (by rfl) (by rfl)) fun σ H Q q => de_sortSet q
def ckSortSet {a : E} (A : Ck c a) : (x : Expr) → Pf (OkE c (.sortSet a) x)
  | .Call (.Name n p) [.Call (.Name m q) [x] [] pos2] [] pos => if hn : n = ("sorted" : Str) then (if hm : m = ("set" : Str) then (if hc : c.hot = false then gd _ fun h1 => gd _ fun h2 => gd _ fun h3 => gd _ fun h4 => (A.e x).and fun h => (if hs : isStar x = false then yes (ok_sortSet hc hn hm h1 h2 h3 h4 h hs) else none) else none) else none) else none
  | _ => none
end
end Rg
namespace Rg
open PySem L2
section
variable {c : Cf}
theorem tOp_mono {X : Cx} {W : WX} {px : PX} {i : Nat} {ke : E} {r : R2} {σ : L2.St} {H : Hp} {Q Q' : VK} (hr : ∀ x y H (Q Q' : VK), r x y H Q → (∀ v H', Q v H' → Q' v H') → r x y H Q') (h : tOp r (tVar i) (DE ⟨X.K, px⟩ X.mg W c.Γ ke) σ H Q) (k : ∀ v H', Q v H' → Q' v H') : tOp r (tVar i) (DE ⟨X.K, px⟩ X.mg W c.Γ ke) σ H Q' := by
  obtain ⟨v, g1, g2⟩ := h
  exact ⟨v, g1, de_mono g2 fun y H1 z => hr _ _ _ _ _ z k⟩
theorem rIxA_mono {K : PySem.W.Frag} (x y : V) (H : Hp) (Q Q' : VK) (h : rIxA K x y H Q) (k : ∀ v H', Q v H' → Q' v H') : rIxA K x y H Q' := by
  rcases h with (⟨p, xs, i, v, a1, a2, a3, a4, a5⟩ | ⟨p, xs, i, v, a1, a2, a3, a4, a5⟩ | ⟨z, i, cc, a1, a2, a3, a4, a5⟩) | ⟨a, v, a1, a2, a3⟩
  · exact .inl (.inl ⟨p, xs, i, v, a1, a2, a3, a4, k _ _ a5⟩)
  · exact .inl (.inr (.inl ⟨p, xs, i, v, a1, a2, a3, a4, k _ _ a5⟩))
  · exact .inl (.inr (.inr ⟨z, i, cc, a1, a2, a3, a4, k _ _ a5⟩))
  · exact .inr ⟨a, v, a1, a2, k _ _ a3⟩
theorem ok_app {i : Nat} {args : E} {x n : Str} {p ap cp : Pos} {e : Expr} {es : List Expr} (hn : n = ("append" : Str)) (hv : OkE c (.var i) (.Name x p)) (hx : decide (c.N[i]? = some x) = true) (h2 : visB c.sc x = true) (h3 : decide ((x == ("__debug__" : Str)) = false ∧ (x == ("__classdict__" : Str)) = false) = true) (h : OkA c args (e :: es)) (hp : (ap.endLine == cp.line) = true) (hs : (e :: es).any isStar = false) (hl : decide ((e :: es).length < 30) = true) : OkE c (.mut .append i args) (.Call (.Attribute (.Name x p) n ap) (e :: es) [] cp) := fun X W px k => by
  subst hn
  obtain ⟨h3, h4⟩ := of_decide_eq_true h3
  have sa := star_all cp X.env hs
  have hs' := hs
  simp only [List.any_cons, Bool.or_eq_false_iff] at hs
  refine PE.imp (pe_bm PySem.F.plainAttrs_list PySem.F.slot_list_append PySem.F.type_list_append mt_append (pe_var (i := i) (by rw [k.hN]; exact of_decide_eq_true hx) (k.vis h2) h3 h4) (h X W px k) rfl ?_ hp (star_cons es X.env hs.1) (star_any cp X.env hs.2)) fun σ H Q q => de_append q
  rw [sa]
  have hl := of_decide_eq_true hl
  simp only [List.length_cons] at hl
  simp [backToKw, keywordEach, hl]
theorem ok_pop0 {i : Nat} {x n : Str} {p ap cp : Pos} (hn : n = ("pop" : Str)) (hx : decide (c.N[i]? = some x) = true) (h2 : visB c.sc x = true) (h3 : decide ((x == ("__debug__" : Str)) = false ∧ (x == ("__classdict__" : Str)) = false) = true) (hp : (ap.endLine == cp.line) = true) : OkE c (.mut .pop i .nil) (.Call (.Attribute (.Name x p) n ap) [] [] cp) := fun X W px k => by
  subst hn
  obtain ⟨h3, h4⟩ := of_decide_eq_true h3
  exact PE.imp (pe_bm0 PySem.F.plainAttrs_list PySem.F.slot_list_pop PySem.F.type_list_pop mt_pop (pe_var (i := i) (by rw [k.hN]; exact of_decide_eq_true hx) (k.vis h2) h3 h4) rfl hp) fun σ H Q q => de_pop q
theorem ok_clear0 {i : Nat} {x n : Str} {p ap cp : Pos} (hn : n = ("clear" : Str)) (hx : decide (c.N[i]? = some x) = true) (h2 : visB c.sc x = true) (h3 : decide ((x == ("__debug__" : Str)) = false ∧ (x == ("__classdict__" : Str)) = false) = true) (hp : (ap.endLine == cp.line) = true) : OkE c (.mut .clear i .nil) (.Call (.Attribute (.Name x p) n ap) [] [] cp) := fun X W px k => by
  subst hn
  obtain ⟨h3, h4⟩ := of_decide_eq_true h3
  exact PE.imp (pe_bm0 PySem.F.plainAttrs_list PySem.F.slot_list_clear PySem.F.type_list_clear mt_clear (pe_var (i := i) (by rw [k.hN]; exact of_decide_eq_true hx) (k.vis h2) h3 h4) rfl hp) fun σ H Q q => de_clear q
theorem ok_popAt {i : Nat} {args : E} {x n : Str} {p ap cp : Pos} {e : Expr} {es : List Expr} (hn : n = ("pop" : Str)) (hx : decide (c.N[i]? = some x) = true) (h2 : visB c.sc x = true) (h3 : decide ((x == ("__debug__" : Str)) = false ∧ (x == ("__classdict__" : Str)) = false) = true) (h : OkA c args (e :: es)) (hp : (ap.endLine == cp.line) = true) (hs : (e :: es).any isStar = false) (hl : decide ((e :: es).length < 30) = true) : OkE c (.mut .popAt i args) (.Call (.Attribute (.Name x p) n ap) (e :: es) [] cp) := fun X W px k => by
  subst hn
  obtain ⟨h3, h4⟩ := of_decide_eq_true h3
  have hs' := hs
  simp only [List.any_cons, Bool.or_eq_false_iff] at hs
  refine PE.imp (pe_bm PySem.F.plainAttrs_list PySem.F.slot_list_pop PySem.F.type_list_pop mt_popAt (pe_var (i := i) (by rw [k.hN]; exact of_decide_eq_true hx) (k.vis h2) h3 h4) (h X W px k) rfl (few_ok hs' hl) hp (star_cons es X.env hs.1) (star_any cp X.env hs.2)) fun σ H Q q => ?_
  obtain ⟨a, xs, g1, g2, g3⟩ := de_mut mut_popAt q
  exact ⟨.ref a, g1, .inl ⟨rfl, xs, SqL.of g2⟩, g3⟩
theorem ok_remove {i : Nat} {args : E} {x n : Str} {p ap cp : Pos} {e : Expr} {es : List Expr} (hn : n = ("remove" : Str)) (hx : decide (c.N[i]? = some x) = true) (h2 : visB c.sc x = true) (h3 : decide ((x == ("__debug__" : Str)) = false ∧ (x == ("__classdict__" : Str)) = false) = true) (h : OkA c args (e :: es)) (hp : (ap.endLine == cp.line) = true) (hs : (e :: es).any isStar = false) (hl : decide ((e :: es).length < 30) = true) : OkE c (.mut .remove i args) (.Call (.Attribute (.Name x p) n ap) (e :: es) [] cp) := fun X W px k => by
  subst hn
  obtain ⟨h3, h4⟩ := of_decide_eq_true h3
  have hs' := hs
  simp only [List.any_cons, Bool.or_eq_false_iff] at hs
  refine PE.imp (pe_bm PySem.F.plainAttrs_list PySem.F.slot_list_remove PySem.F.type_list_remove mt_remove (pe_var (i := i) (by rw [k.hN]; exact of_decide_eq_true hx) (k.vis h2) h3 h4) (h X W px k) rfl (few_ok hs' hl) hp (star_cons es X.env hs.1) (star_any cp X.env hs.2)) fun σ H Q q => ?_
  obtain ⟨a, xs, g1, g2, g3⟩ := de_mut mut_remove q
  exact ⟨.ref a, g1, .inl ⟨rfl, xs, SqL.of g2⟩, g3⟩
theorem ok_insert {i : Nat} {args : E} {x n : Str} {p ap cp : Pos} {e : Expr} {es : List Expr} (hn : n = ("insert" : Str)) (hx : decide (c.N[i]? = some x) = true) (h2 : visB c.sc x = true) (h3 : decide ((x == ("__debug__" : Str)) = false ∧ (x == ("__classdict__" : Str)) = false) = true) (h : OkA c args (e :: es)) (hp : (ap.endLine == cp.line) = true) (hs : (e :: es).any isStar = false) (hl : decide ((e :: es).length < 30) = true) : OkE c (.mut .insert i args) (.Call (.Attribute (.Name x p) n ap) (e :: es) [] cp) := fun X W px k => by
  subst hn
  obtain ⟨h3, h4⟩ := of_decide_eq_true h3
  have hs' := hs
  simp only [List.any_cons, Bool.or_eq_false_iff] at hs
  refine PE.imp (pe_bm PySem.F.plainAttrs_list PySem.F.slot_list_insert PySem.F.type_list_insert mt_insert (pe_var (i := i) (by rw [k.hN]; exact of_decide_eq_true hx) (k.vis h2) h3 h4) (h X W px k) rfl (few_ok hs' hl) hp (star_cons es X.env hs.1) (star_any cp X.env hs.2)) fun σ H Q q => ?_
  obtain ⟨a, xs, g1, g2, g3⟩ := de_mut mut_insert q
  exact ⟨.ref a, g1, .inl ⟨rfl, xs, SqL.of g2⟩, g3⟩
theorem ok_extend {i : Nat} {args : E} {x n : Str} {p ap cp : Pos} {e : Expr} {es : List Expr} (hn : n = ("extend" : Str)) (hx : decide (c.N[i]? = some x) = true) (h2 : visB c.sc x = true) (h3 : decide ((x == ("__debug__" : Str)) = false ∧ (x == ("__classdict__" : Str)) = false) = true) (h : OkA c args (e :: es)) (hp : (ap.endLine == cp.line) = true) (hs : (e :: es).any isStar = false) (hl : decide ((e :: es).length < 30) = true) : OkE c (.mut .extend i args) (.Call (.Attribute (.Name x p) n ap) (e :: es) [] cp) := fun X W px k => by
  subst hn
  obtain ⟨h3, h4⟩ := of_decide_eq_true h3
  have hs' := hs
  simp only [List.any_cons, Bool.or_eq_false_iff] at hs
  refine PE.imp (pe_bm PySem.F.plainAttrs_list PySem.F.slot_list_extend PySem.F.type_list_extend mt_extend (pe_var (i := i) (by rw [k.hN]; exact of_decide_eq_true hx) (k.vis h2) h3 h4) (h X W px k) rfl (few_ok hs' hl) hp (star_cons es X.env hs.1) (star_any cp X.env hs.2)) fun σ H Q q => ?_
  obtain ⟨a, xs, g1, g2, g3⟩ := de_mut mut_extend q
  exact ⟨.ref a, g1, .inl ⟨rfl, xs, SqL.of g2⟩, g3⟩
theorem mut2_recv {X : Cx} {W : WX} {px : PX} {i : Nat} {k args : E} {m : Mut1} {G : Addr → List V → Hp → Prop} {σ : L2.St} {H : Hp} {Q : VK} (hg : MutOk ⟨X.K, px⟩ σ m G Q) (q : DE ⟨X.K, px⟩ X.mg W c.Γ (.mut2 m i .nil k args) σ H Q) :
    tOp (rIxA X.K) (tVar i) (DE ⟨X.K, px⟩ X.mg W c.Γ k) σ H fun x H1 => tyV X.K "list" x H1 ∧ ∃ b, x = .ref b ∧ DA ⟨X.K, px⟩ X.mg W c.Γ args σ H1 fun vs H2 => G b vs H2 := by
  obtain ⟨a, g1, g2⟩ := da_nil (de_mut2 hg q)
  refine ⟨.ref a, g1, de_mono g2 fun y H1 z => ?_⟩
  obtain ⟨us, b, xs, j0, rfl, z1, z2, z3, z4⟩ := z
  exact .inl (.inl ⟨a, us, j0, .ref b, rfl, rfl, SqL.of z1, z2, .inl ⟨rfl, xs, SqL.of z3⟩, b, rfl, z4⟩)
theorem ok_mut2 {i : Nat} {ke args : E} {x n : Str} {p ps ap cp : Pos} {kx e : Expr} {es : List Expr} (hn : n = ("append" : Str) ∨ n = ("pop" : Str)) (hx : decide (c.N[i]? = some x) = true) (h2 : visB c.sc x = true) (h3 : decide ((x == ("__debug__" : Str)) = false ∧ (x == ("__classdict__" : Str)) = false) = true) (hk : OkE c ke kx) (hsl : isSlice kx = false) (h : OkA c args (e :: es)) (hp : (ap.endLine == cp.line) = true) (hs : (e :: es).any isStar = false) (hl : decide ((e :: es).length < 30) = true) : OkE c (.mut2 (if n = ("append" : Str) then .append else .popAt) i .nil ke args) (.Call (.Attribute (.Subscript (.Name x p) kx ps) n ap) (e :: es) [] cp) := fun X W px k => by
  obtain ⟨h3, h4⟩ := of_decide_eq_true h3
  have hs' := hs
  simp only [List.any_cons, Bool.or_eq_false_iff] at hs
  have pr := pe_ix (pos := ps) (ix_any (X := X) (by have := k.un; omega)) (pe_var (X := X) (i := i) (pos := p) (by rw [k.hN]; exact of_decide_eq_true hx) (k.vis h2) h3 h4) (hk X W px k) (plain_ix hsl)
  rcases hn with rfl | rfl
  · rw [if_pos rfl]
    refine PE.imp (pe_bm PySem.F.plainAttrs_list PySem.F.slot_list_append PySem.F.type_list_append mt_append pr (h X W px k) rfl (few_ok hs' hl) hp (star_cons es X.env hs.1) (star_any cp X.env hs.2)) fun σ H Q q => ?_
    exact tOp_mono rIxA_mono (mut2_recv mut_append q) fun x H1 z => by
      obtain ⟨z1, b, rfl, z2⟩ := z
      exact ⟨z1, z2⟩
  · rw [if_neg (by decide)]
    refine PE.imp (pe_bm PySem.F.plainAttrs_list PySem.F.slot_list_pop PySem.F.type_list_pop mt_popAt pr (h X W px k) rfl (few_ok hs' hl) hp (star_cons es X.env hs.1) (star_any cp X.env hs.2)) fun σ H Q q => ?_
    exact tOp_mono rIxA_mono (mut2_recv mut_popAt q) fun x H1 z => by
      obtain ⟨z1, b, rfl, z2⟩ := z
      exact ⟨z1, z2⟩
theorem ok_mut20 {i : Nat} {ke : E} {x n : Str} {p ps ap cp : Pos} {kx : Expr} (hn : n = ("clear" : Str) ∨ n = ("pop" : Str)) (hx : decide (c.N[i]? = some x) = true) (h2 : visB c.sc x = true) (h3 : decide ((x == ("__debug__" : Str)) = false ∧ (x == ("__classdict__" : Str)) = false) = true) (hk : OkE c ke kx) (hsl : isSlice kx = false) (hp : (ap.endLine == cp.line) = true) : OkE c (.mut2 (if n = ("clear" : Str) then .clear else .pop) i .nil ke .nil) (.Call (.Attribute (.Subscript (.Name x p) kx ps) n ap) [] [] cp) := fun X W px k => by
  obtain ⟨h3, h4⟩ := of_decide_eq_true h3
  have pr := pe_ix (pos := ps) (ix_any (X := X) (by have := k.un; omega)) (pe_var (X := X) (i := i) (pos := p) (by rw [k.hN]; exact of_decide_eq_true hx) (k.vis h2) h3 h4) (hk X W px k) (plain_ix hsl)
  rcases hn with rfl | rfl
  · rw [if_pos rfl]
    refine PE.imp (pe_bm0 PySem.F.plainAttrs_list PySem.F.slot_list_clear PySem.F.type_list_clear mt_clear pr rfl hp) fun σ H Q q => ?_
    exact tOp_mono rIxA_mono (mut2_recv mut_clear q) fun x H1 z => by
      obtain ⟨z1, b, rfl, z2⟩ := z
      exact ⟨z1, da_nil z2⟩
  · rw [if_neg (by decide)]
    refine PE.imp (pe_bm0 PySem.F.plainAttrs_list PySem.F.slot_list_pop PySem.F.type_list_pop mt_pop pr rfl hp) fun σ H Q q => ?_
    exact tOp_mono rIxA_mono (mut2_recv mut_pop q) fun x H1 z => by
      obtain ⟨z1, b, rfl, z2⟩ := z
      exact ⟨z1, da_nil z2⟩
def ckMut2 (i : Nat) : (m : Mut1) → (pre : E) → {k : E} → Ck c k → (args : E) → Ck c args → (x : Expr) → Pf (OkE c (.mut2 m i pre k args) x)
  | m, .nil, _, A, args, B, .Call (.Attribute (.Subscript (.Name x p) kx ps) n ap) (e :: es) [] cp => if hn : n = ("append" : Str) ∨ n = ("pop" : Str) then (if hm : m = (if n = ("append" : Str) then .append else .popAt) then gd _ fun h1 => gd _ fun h2 => gd _ fun h3 => (A.e kx).and fun h4 => (if h5 : isSlice kx = false then (B.a (e :: es)).and fun h6 => gd _ fun h7 => (if hs : (e :: es).any isStar = false then gd _ fun h8 => yes (hm ▸ ok_mut2 hn h1 h2 h3 h4 h5 h6 h7 hs h8) else none) else none) else none) else none
  | m, .nil, _, A, .nil, B, .Call (.Attribute (.Subscript (.Name x p) kx ps) n ap) [] [] cp => if hn : n = ("clear" : Str) ∨ n = ("pop" : Str) then (if hm : m = (if n = ("clear" : Str) then .clear else .pop) then gd _ fun h1 => gd _ fun h2 => gd _ fun h3 => (A.e kx).and fun h4 => (if h5 : isSlice kx = false then gd _ fun h7 => yes (hm ▸ ok_mut20 hn h1 h2 h3 h4 h5 h7) else none) else none) else none
  | _, _, _, _, _, _, _ => none
def ckMut (i : Nat) : (m : Mut1) → (args : E) → Ck c args → (x : Expr) → Pf (OkE c (.mut m i args) x)
  | .append, args, A, .Call (.Attribute (.Name x p) n ap) (e :: es) [] cp => if hn : n = ("append" : Str) then gd _ fun h1 => gd _ fun h2 => gd _ fun h3 => (A.a (e :: es)).and fun h => gd _ fun h4 => (if hs : (e :: es).any isStar = false then gd _ fun h5 => yes (ok_app hn (ok_var h1 h2 h3) h1 h2 h3 h h4 hs h5) else none) else none
  | .popAt, args, A, .Call (.Attribute (.Name x p) n ap) (e :: es) [] cp => if hn : n = ("pop" : Str) then gd _ fun h1 => gd _ fun h2 => gd _ fun h3 => (A.a (e :: es)).and fun h => gd _ fun h4 => (if hs : (e :: es).any isStar = false then gd _ fun h5 => yes (ok_popAt hn h1 h2 h3 h h4 hs h5) else none) else none
  | .insert, args, A, .Call (.Attribute (.Name x p) n ap) (e :: es) [] cp => if hn : n = ("insert" : Str) then gd _ fun h1 => gd _ fun h2 => gd _ fun h3 => (A.a (e :: es)).and fun h => gd _ fun h4 => (if hs : (e :: es).any isStar = false then gd _ fun h5 => yes (ok_insert hn h1 h2 h3 h h4 hs h5) else none) else none
  | .extend, args, A, .Call (.Attribute (.Name x p) n ap) (e :: es) [] cp => if hn : n = ("extend" : Str) then gd _ fun h1 => gd _ fun h2 => gd _ fun h3 => (A.a (e :: es)).and fun h => gd _ fun h4 => (if hs : (e :: es).any isStar = false then gd _ fun h5 => yes (ok_extend hn h1 h2 h3 h h4 hs h5) else none) else none
  | .remove, args, A, .Call (.Attribute (.Name x p) n ap) (e :: es) [] cp => if hn : n = ("remove" : Str) then gd _ fun h1 => gd _ fun h2 => gd _ fun h3 => (A.a (e :: es)).and fun h => gd _ fun h4 => (if hs : (e :: es).any isStar = false then gd _ fun h5 => yes (ok_remove hn h1 h2 h3 h h4 hs h5) else none) else none
  | .pop, .nil, A, .Call (.Attribute (.Name x p) n ap) [] [] cp => if hn : n = ("pop" : Str) then gd _ fun h1 => gd _ fun h2 => gd _ fun h3 => gd _ fun h4 => yes (ok_pop0 hn h1 h2 h3 h4) else none
  | .clear, .nil, A, .Call (.Attribute (.Name x p) n ap) [] [] cp => if hn : n = ("clear" : Str) then gd _ fun h1 => gd _ fun h2 => gd _ fun h3 => gd _ fun h4 => yes (ok_clear0 hn h1 h2 h3 h4) else none
  | _, _, _, _ => none
abbrev OkG (c : Cf) (tg : List Nat) (one : Bool) (x : Expr) : Prop := ∀ (X : Cx) (W : WX) (px : PX), Cxt X W px c → PG X x (gT X.K tg one)
abbrev OkGs (c : Cf) (tg : List Nat) (xs : List Expr) : Prop := ∀ (X : Cx) (W : WX) (px : PX), Cxt X W px c → PGs X xs (gNames tg) ∧ (assignEach xs X.env).length = tg.length ∧ (assignEach xs X.env).findIdx? (·.1) = none
theorem ok_gname {i : Nat} {x : Str} {p : Pos} (h1 : decide (c.N[i]? = some x) = true) (h2 : decide (x ∈ c.st) = true) : ∀ (X : Cx) (W : WX) (px : PX), Cxt X W px c → PG X (.Name x p) (gName i) := fun X W px k =>
  pg_name (by rw [k.hN]; exact k.nd) (by rw [k.hN]; exact of_decide_eq_true h1) (k.loc (of_decide_eq_true h2)) (k.fnl (of_decide_eq_true h2))
theorem ok_gcons {i : Nat} {r : List Nat} {x : Str} {p : Pos} {xs : List Expr} (h1 : decide (c.N[i]? = some x) = true) (h2 : decide (x ∈ c.st) = true) (h : OkGs c r xs) : OkGs c (i :: r) (.Name x p :: xs) := fun X W px k => by
  obtain ⟨a, b, d⟩ := h X W px k
  have e : assignEach (.Name x p :: xs) X.env = (false, assign (.Name x p) X.env) :: assignEach xs X.env := rfl
  refine ⟨pgs_cons (ok_gname h1 h2 X W px k) a (by rw [e]; rfl), by rw [e, List.length_cons, List.length_cons, b], ?_⟩
  rw [e, List.findIdx?_cons]
  simp only [Bool.false_eq_true, if_false, d, Option.map_none]
theorem ok_gnil : OkGs c [] [] := fun X W px k => ⟨pgs_nil, rfl, rfl⟩
def ckGs : (tg : List Nat) → (xs : List Expr) → Pf (OkGs c tg xs)
  | [], [] => yes ok_gnil
  | i :: r, .Name x p :: xs => gd _ fun h1 => gd _ fun h2 => (ckGs r xs).and fun h => yes (ok_gcons h1 h2 h)
  | _, _ => none
theorem ok_gtup (hc : c.hot = false) {tg : List Nat} {xs : List Expr} {j : Nat} {p : Pos} (h : OkGs c tg xs) : OkG c tg false (.Tuple xs j p) := fun X W px k => by
  obtain ⟨a, b, d⟩ := h X W px k
  exact pg_tup (k.calm hc) a b d
abbrev OkU (c : Cf) (tg : List Nat) (x : Expr) : Prop := ∀ (X : Cx) (W : WX) (px : PX), Cxt X W px c → PG X x (gU X.K tg)
theorem ok_gu (hc : c.hot = false) {tg : List Nat} {xs : List Expr} {j : Nat} {p : Pos} (h : OkGs c tg xs) : OkU c tg (.Tuple xs j p) := fun X W px k => by
  obtain ⟨a, b, d⟩ := h X W px k
  exact ⟨fun pins s σ H v u Q I r hw => hw.elim (fun z => (pg_tup (k.calm hc) a b d).run pins s σ H v u Q I r z) fun z => (pg_lst (k.calm hc) a b d).run pins s σ H v u Q I r z⟩
def ckU : (tg : List Nat) → (x : Expr) → Pf (OkU c tg x)
  | tg, .Tuple xs j p => (ckGs tg xs).and fun h => if hc : c.hot = false then yes (ok_gu hc h) else none
  | _, _ => none
def ckG : (tg : List Nat) → (one : Bool) → (x : Expr) → Pf (OkG c tg one x)
  | [i], true, .Name x p => gd _ fun h1 => gd _ fun h2 => yes (ok_gname h1 h2)
  | tg, false, .Tuple xs j p => (ckGs tg xs).and fun h => if hc : c.hot = false then yes (ok_gtup hc h) else none
  | _, _, _ => none
def ownOf (c : Cf) (tg : List Nat) : List (Str × Nat) := tg.map fun i => ((c.N[i]?).getD "", i)
def inBlk (c : Cf) (scope : Scope) (tg : List Nat) : Cf := { c with sc := relS scope c.sc, st := tg.map fun i => (c.N[i]?).getD "" }
def stoB (scope : Scope) (c' : Cf) : Bool := c'.st.all fun x => match c'.sc.names.lookup x with
  | some .local => true
  | some .cell => scope.names.lookup x == some .cell
  | _ => false
theorem cxt_blk (hc : c.hot = false) {X : Cx} {W : WX} {px : PX} {scope : Scope} {tg : List Nat} (k : Cxt X W px c) (hb : blkC c.N c.sc scope (ownOf c tg) = true) (hs : stoB scope (inBlk c scope tg) = true) (s : Shared) (H : Hp) (C : Addr) (cl : List (Str × Addr)) (fp : List Addr) : Cxt (X.blk s H scope (compEnvC scope cl C X.env) fp) W0 px (inBlk c scope tg) where
  hN := k.hN
  nd := k.nd
  hsc := by
    show relabel scope X.env = relS scope c.sc
    rw [← k.hsc]
    rfl
  fk := (blkOk_by hb).kind
  calm := k.calm
  sto := fun x hx => by
    have := List.all_eq_true.mp hs x hx
    split at this
    · rename_i e
      exact ⟨.inl e, .inr e⟩
    · rename_i e
      exact ⟨.inr e, .inl this⟩
    · cases this
  fns := k.fns
  hfn := k.hfn
  gl := k.gl
  fr := k.fr
  un := k.un
  tk := fun u s' ⟨a, B, sI, pins, σ, H, cls, d, e, I, nb, up, sky, na, os, ag, w⟩ => w.elim
  cold := k.cold
  hotx := fun z => by
    have z' : c.hot = true := z
    rw [hc] at z'
    cases z'
  xin := k.xin
  xr := k.xr
  xi := k.xi
theorem ok_lc (hc : c.hot = false) {tg : List Nat} {one : Bool} {it cond elt : E} {x g iter : Expr} {ifs : List Expr} {scope : Scope} (hb : blkC c.N c.sc scope (ownOf c tg) = true) (hs : stoB scope (inBlk c scope tg) = true) (h1 : OkI c it g iter) (h2 : OkG (inBlk c scope tg) tg one g)
    (h3 : ∀ (X : Cx) (W : WX) (px : PX), Cxt X W px (inBlk c scope tg) → PTs X ifs (DT ⟨X.K, px⟩ X.mg W c.Γ cond)) (h4 : OkE (inBlk c scope tg) elt x) (h5 : isSet iter = false) : LcOk c (.comp tg one it cond elt) x g iter ifs scope := fun X W px k => by
  refine ⟨DI ⟨X.K, px⟩ X.mg W c.Γ it, gT X.K tg one, DT ⟨X.K, px⟩ X.mg W0 c.Γ cond, DE ⟨X.K, px⟩ X.mg W0 c.Γ elt, ownOf c tg, h1 X W px k, ?_, fun s H C cl fp => h2 _ _ _ (cxt_blk hc k hb hs s H C cl fp), fun s H C cl fp => h3 _ _ _ (cxt_blk hc k hb hs s H C cl fp), fun s H C cl fp => h4 _ _ _ (cxt_blk hc k hb hs s H C cl fp), folded_no h5 X.env, fun σ H Q q => ?_⟩
  · rw [k.hN, k.hsc]
    exact blkOk_by hb
  · have e : (ownOf c tg).map (·.2) = tg := by unfold ownOf; rw [List.map_map]; exact List.map_id tg
    rw [e]
    exact de_comp q
theorem pts_yes {c' : Cf} : ∀ (X : Cx) (W : WX) (px : PX), Cxt X W px c' → PTs X [] (DT ⟨X.K, px⟩ X.mg W c.Γ .yes) := fun X W px k => ⟨fun pins s σ H Q I q => pts_nil.run pins s σ H Q I (by
  obtain ⟨τ, F, A, L, sr, h⟩ := q
  simp only [ev, R.bind_ok, boolOf, dat, R.of_some] at h
  exact h F H A (Step.refl F H A) sr)⟩
def ckIfs {c' : Cf} (hc : c'.Γ = c.Γ) : (cond : E) → Ck c' cond → (ifs : List Expr) → Pf (∀ (X : Cx) (W : WX) (px : PX), Cxt X W px c' → PTs X ifs (DT ⟨X.K, px⟩ X.mg W c.Γ cond))
  | .yes, _, [] => yes (pts_yes (c := c))
  | m, A, [x] => (A.t x).and fun h => yes fun X W px k => pts_one (hc ▸ h X W px k)
  | _, _, _ => none
def ckLc (tg : List Nat) (one : Bool) {it cond elt : E} (I : Ck c it) (C : (c : Cf) → Ck c cond) (L : (c : Cf) → Ck c elt) (x g iter : Expr) (ifs : List Expr) (scope : Scope) : Pf (LcOk c (.comp tg one it cond elt) x g iter ifs scope) :=
  gd _ fun hb => gd _ fun hs => (I.i g iter).and fun h1 => (ckG (c := inBlk c scope tg) tg one g).and fun h2 => (ckIfs (c := c) (c' := inBlk c scope tg) rfl cond (C (inBlk c scope tg)) ifs).and fun h3 => ((L (inBlk c scope tg)).e x).and fun h4 => if h5 : isSet iter = false then (if hc : c.hot = false then yes (ok_lc hc hb hs h1 h2 h3 h4 h5) else none) else none
theorem ok_comp (hc : c.hot = false) {m : E} {x g iter : Expr} {ifs : List Expr} {scope : Scope} {pos : Pos} (h : LcOk c m x g iter ifs scope) : OkE c m (.ListComp x [⟨g, iter, ifs, 0⟩] scope pos) := fun X W px k => by
  obtain ⟨wi, gg, tt, te, own, a1, a2, a3, a4, a5, a6, a7⟩ := h X W px k
  exact PE.imp (pe_lc (k.calm hc) (by rw [k.hN]; exact k.nd) a1 a2 a3 a4 a5 a6) a7
def eLc {m : E} (lc : (elt tg iter : Expr) → (ifs : List Expr) → (scope : Scope) → Pf (LcOk c m elt tg iter ifs scope)) : (x : Expr) → Pf (OkE c m x)
  | .ListComp x [⟨g, iter, ifs, 0⟩] scope pos => (lc x g iter ifs scope).and fun h => if hc : c.hot = false then yes (ok_comp hc h) else none
  | _ => none
def Ck.comp {m : E} (lc : (elt tg iter : Expr) → (ifs : List Expr) → (scope : Scope) → Pf (LcOk c m elt tg iter ifs scope)) : Ck c m := ⟨eLc lc, fun _ => none, fun _ _ _ => none, fun _ _ _ => none, fun _ => none, fun _ => none, fun _ _ => none, fun _ _ => none, lc⟩
theorem ok_iR1 {a : E} {tg x : Expr} {n : Str} {p pos : Pos} (hn : n = ("range" : Str)) (hg : glB c.sc n = true) (hf : decide (n ∈ c.fr) = true) (h : OkE c a x) (hs : isStar x = false) : OkI c (.iRange a) tg (.Call (.Name n p) [x] [] pos) := fun X W px k => by
  subst hn
  have r := pi_range1 (tg := tg) (p := p) (pos := pos) (k.glo hg) (k.fr _ (of_decide_eq_true hf)) (ok_cons h ok_nil hs X W px k) (star_cons [] X.env hs)
  exact ⟨fun pins s σ H R I q => r.run pins s σ H R I (di_range q)⟩
theorem ok_iR2 {a b : E} {tg x y : Expr} {n : Str} {p pos : Pos} (hn : n = ("range" : Str)) (hg : glB c.sc n = true) (hf : decide (n ∈ c.fr) = true) (h : OkE c a x) (h' : OkE c b y) (hs : isStar x = false) (hs' : isStar y = false) : OkI c (.iRange2 a b) tg (.Call (.Name n p) [x, y] [] pos) := fun X W px k => by
  subst hn
  have r := pi_range2 (tg := tg) (p := p) (pos := pos) (k.glo hg) (k.fr _ (of_decide_eq_true hf)) (ok_cons h (ok_cons h' ok_nil hs') hs X W px k) (by rw [star_cons _ _ hs, star_cons _ _ hs']; rfl) (star_cons [] X.env hs')
  exact ⟨fun pins s σ H R I q => r.run pins s σ H R I (di_range2 q)⟩
theorem ok_iRev {a : E} {tg x : Expr} {n : Str} {p pos : Pos} (hn : n = ("reversed" : Str)) (hg : glB c.sc n = true) (hf : decide (n ∈ c.fr) = true) (h : OkE c a x) (hs : isStar x = false) : OkI c (.iRev a) tg (.Call (.Name n p) [x] [] pos) := fun X W px k => by
  subst hn
  have r := RT.pi_revA (tg := tg) (p := p) (pos := pos) (k.glo hg) (k.fr _ (of_decide_eq_true hf)) (h X W px k) (star_cons [] X.env hs)
  exact ⟨fun pins s σ H R I q => r.run pins s σ H R I (di_rev q)⟩
theorem ok_iEnum {a : E} {ts : List Expr} {j : Nat} {tp : Pos} {x : Expr} {n : Str} {p pos : Pos} (hn : n = ("enumerate" : Str)) (hg : glB c.sc n = true) (hf : decide (n ∈ c.fr) = true) (h : OkE c a x) (hs : isStar x = false) : OkI c (.iEnum a) (.Tuple ts j tp) (.Call (.Name n p) [x] [] pos) := fun X W px k => by
  subst hn
  have r := pi_enum (elts := ts) (kk := j) (tpos := tp) (p := p) (pos := pos) (k.glo hg) (k.fr _ (of_decide_eq_true hf)) (ok_cons h ok_nil hs X W px k) (star_cons [] X.env hs)
  exact ⟨fun pins s σ H R I q => r.run pins s σ H R I (di_enum q)⟩
theorem ok_iZip {a b : E} {ts : List Expr} {j : Nat} {tp : Pos} {x y : Expr} {n : Str} {p pos : Pos} (hn : n = ("zip" : Str)) (hg : glB c.sc n = true) (hf : decide (n ∈ c.fr) = true) (h : OkE c a x) (h' : OkE c b y) (hs : isStar x = false) (hs' : isStar y = false) : OkI c (.iZip a b) (.Tuple ts j tp) (.Call (.Name n p) [x, y] [] pos) := fun X W px k => by
  subst hn
  have r := pi_zip (elts := ts) (kk := j) (tpos := tp) (p := p) (pos := pos) (k.glo hg) (k.fr _ (of_decide_eq_true hf)) (ok_cons h (ok_cons h' ok_nil hs') hs X W px k) (star_cons [y] X.env hs) (by rw [star_cons [] X.env hs']; rfl)
  exact ⟨fun pins s σ H R I q => r.run pins s σ H R I (di_zip q)⟩
theorem ok_iSeq {a : E} {tg x : Expr} (h : OkE c a x) : OkI c (.iSeq a) tg x := fun X W px k => ⟨fun pins s σ H R I q => (di_seq q).elim (fun q => (pi_list (h X W px k)).run pins s σ H R I q) fun q => (pi_tup (h X W px k)).run pins s σ H R I q⟩
theorem ok_iStr {a : E} {tg x : Expr} (h : OkE c a x) : OkI c (.iStr a) tg x := fun X W px k => ⟨fun pins s σ H R I q => (pi_str (h X W px k)).run pins s σ H R I (di_str q)⟩
theorem ok_iIx {args : E} {tg x y : Expr} {pos : Pos} (h : Two c args x y) (h2 : isSlice y = false) : OkI c (.iIx args) tg (.Subscript x y pos) := fun X W px k => by
  obtain ⟨t, u, p1, p2, _, p3⟩ := h X W px k
  have pe := pe_ix (pos := pos) (ix_any (X := X) (by have := k.un; omega)) p1 p2 (plain_ix h2)
  exact ⟨fun pins s σ H R I q => (pi_list pe).run pins s σ H R I (p3 _ _ _ (di_ix q))⟩
def ckIx {args : E} (A : Ck c args) (tg : Expr) : (x : Expr) → Pf (OkI c (.iIx args) tg x)
  | .Subscript x y pos => (A.two x y).and fun h => (if h2 : isSlice y = false then yes (ok_iIx h h2) else none)
  | _ => none
def ckR1 {a : E} (A : Ck c a) (tg : Expr) : (x : Expr) → Pf (OkI c (.iRange a) tg x)
  | .Call (.Name n p) [x] [] pos => if hn : n = ("range" : Str) then gd _ fun h1 => gd _ fun h2 => (A.e x).and fun h => (if hs : isStar x = false then yes (ok_iR1 hn h1 h2 h hs) else none) else none
  | _ => none
def ckR2 {a b : E} (A : Ck c a) (B : Ck c b) (tg : Expr) : (x : Expr) → Pf (OkI c (.iRange2 a b) tg x)
  | .Call (.Name n p) [x, y] [] pos => if hn : n = ("range" : Str) then gd _ fun h1 => gd _ fun h2 => (A.e x).and fun h => (B.e y).and fun h' => (if hs : isStar x = false then (if hs' : isStar y = false then yes (ok_iR2 hn h1 h2 h h' hs hs') else none) else none) else none
  | _ => none
def ckRev {a : E} (A : Ck c a) (tg : Expr) : (x : Expr) → Pf (OkI c (.iRev a) tg x)
  | .Call (.Name n p) [x] [] pos => if hn : n = ("reversed" : Str) then gd _ fun h1 => gd _ fun h2 => (A.e x).and fun h => (if hs : isStar x = false then yes (ok_iRev hn h1 h2 h hs) else none) else none
  | _ => none
def ckEnum {a : E} (A : Ck c a) : (tg x : Expr) → Pf (OkI c (.iEnum a) tg x)
  | .Tuple ts j tp, .Call (.Name n p) [x] [] pos => if hn : n = ("enumerate" : Str) then gd _ fun h1 => gd _ fun h2 => (A.e x).and fun h => (if hs : isStar x = false then yes (ok_iEnum hn h1 h2 h hs) else none) else none
  | _, _ => none
def ckZip {a b : E} (A : Ck c a) (B : Ck c b) : (tg x : Expr) → Pf (OkI c (.iZip a b) tg x)
  | .Tuple ts j tp, .Call (.Name n p) [x, y] [] pos => if hn : n = ("zip" : Str) then gd _ fun h1 => gd _ fun h2 => (A.e x).and fun h => (B.e y).and fun h' => (if hs : isStar x = false then (if hs' : isStar y = false then yes (ok_iZip hn h1 h2 h h' hs hs') else none) else none) else none
  | _, _ => none
def ckStr {a : E} (A : Ck c a) (tg x : Expr) : Pf (OkI c (.iStr a) tg x) := (A.e x).and fun h => yes (ok_iStr h)
def ckSeq {a : E} (A : Ck c a) (tg x : Expr) : Pf (OkI c (.iSeq a) tg x) := (A.e x).and fun h => yes (ok_iSeq h)
end
def ckE : (m : E) → (c : Cf) → Ck c m
  | .prim (.isa t) args, c => Ck.val (ckIsa t (ckE args c))
  | .prim .rev args, c => Ck.val (ckRevL (ckE args c))
  | .var i, c => Ck.val (ckVar i)
  | .cst d, c => Ck.val (ckCst d)
  | .glb x d, c => Ck.val (ckGlb x d)
  | .prim p args, c => Ck.of (ckPrim p (ckE args c)) (ckPrimT p (ckE args c))
  | .and a b, c => Ck.bool (ckAndB (ckE a c) (ckE b c)) (ckAndW (ckE a c) (ckE b c))
  | .or a b, c => Ck.bool (ckOrB (ckE a c) (ckE b c)) (ckOrW (ckE a c) (ckE b c))
  | .not a, c => Ck.of (ckNot (ckE a c)) (ckNotT (ckE a c))
  | .ite q a b, c => Ck.val (ckIte (ckE q c) (ckE a c) (ckE b c))
  | .chain p q a b d, c => Ck.of (ckChain p q (ckE a c) (ckE b c) (ckE d c)) (ckChainT p q (ckE a c) (ckE b c) (ckE d c))
  | .tup args, c => Ck.val (ckTup (ckE args c))
  | .lst args, c => Ck.val (ckLst (ckE args c))
  | .dnewT, c => Ck.val ckDT
  | .dnewK, c => Ck.val ckDK
  | .call k .nil, c => Ck.val (ckCall0 k)
  | .call i args, c => Ck.val (ckCall i (ckE args c))
  | .mut m i args, c => Ck.val (ckMut i m args (ckE args c))
  | .mut2 m i pre k args, c => Ck.val (ckMut2 i m pre (ckE k c) args (ckE args c))
  | .dput _ _, c => Ck.no
  | .dlit a b, c => Ck.val (ckDlit (ckE a c) (ckE b c))
  | .dispC ps, c => Ck.val (ckDispC ps)
  | .tupR a, c => Ck.val (ckTupR (ckE a c))
  | .sortO i, c => Ck.val (ckSortO i)
  | .sortSet a, c => Ck.val (ckSortSet (ckE a c))
  | .meth p a args, c => Ck.val (ckMeth (ckE a c) (ckE args c) p)
  | .slcL a b, c => Ck.val (ckSlcL (ckE a c) (ckE b c))
  | .slcU a b, c => Ck.val (ckSlcU (ckE a c) (ckE b c))
  | .slcB a b d, c => Ck.val (ckSlcB (ckE a c) (ckE b c) (ckE d c))
  | .iKeys _, c => Ck.no
  | .comp tg one it cond elt, c => Ck.comp (ckLc tg one (ckE it c) (ckE cond) (ckE elt))
  | .yes, c => Ck.no
  | .nil, c => Ck.args ckNil (fun _ => none) (fun _ _ => none)
  | .cons a r, c => Ck.args (ckCons (ckE a c) (ckE r c)) (ckOne (ckE a c) r) (ckTwo (ckE a c) (ckE r c))
  | .iRange a, c => Ck.iter (ckR1 (ckE a c))
  | .iRange2 a b, c => Ck.iter (ckR2 (ckE a c) (ckE b c))
  | .iSeq a, c => Ck.iter (ckSeq (ckE a c))
  | .iStr a, c => Ck.iter (ckStr (ckE a c))
  | .iIx args, c => Ck.iter (ckIx (ckE args c))
  | .iRev a, c => Ck.iter (ckRev (ckE a c))
  | .iEnum a, c => Ck.iter (ckEnum (ckE a c))
  | .iZip a b, c => Ck.iter (ckZip (ckE a c) (ckE b c))
  | .isx t cs a, c => Ck.val (ckIsx t cs (ckE a c))
  | .attr a f cs, c => Ck.val (ckAttr f cs (ckE a c))
  | .callI ks i args, c => Ck.val (ckCallI ks (ckE i c) (ckE args c))
  | .callM k args, c => Ck.val (ckCallM k (ckE args c))
  | .catO i b, c => Ck.val (ckCatO i (ckE b c))
  | .takeO i b, c => Ck.val (ckTakeO i (ckE b c))
  | .tupO args, c => Ck.val (ckTupO (ckE args c))
  | .rd p args, c => Ck.of (ckRd p (ckP args c)) (ckRdT p (ckP args c))
end Rg
namespace Rg
open PySem L2
structure SCx (X : Cx) : Prop where
  po : PassesOwn (model X.prog X.w) X.A X.env X.xe
  hs : X.stack = X.env :: X.outer
  hf : X.env.frame = some X.env.locals
abbrev OkS (c : Cf) (io : Nat) (m : S) (st : Stmt) : Prop := ∀ (X : Cx) (W : WX) (px : PX) (P : L2.St → Prop) (n : Nat), Cxt X W px c → SCx X → (∀ tg : List Nat, (∀ i ∈ tg, io ≤ i) → PIn P tg) → PS X st (DS ⟨X.K, px⟩ X.mg P W c.Γ n m)
abbrev OkB (c : Cf) (io : Nat) (m : S) (st : List Stmt) : Prop := ∀ (X : Cx) (W : WX) (px : PX) (P : L2.St → Prop) (n : Nat), Cxt X W px c → SCx X → (∀ tg : List Nat, (∀ i ∈ tg, io ≤ i) → PIn P tg) → PSs X st (DS ⟨X.K, px⟩ X.mg P W c.Γ n m)
theorem PS.imp {X : Cx} {e : Stmt} {t t' : TS} (h : PS X e t) (k : ∀ D σ H, t' D σ H → t D σ H) : PS X e t' := ⟨fun pins s σ H D I q => h.run pins s σ H D I (k D σ H q)⟩
theorem PSs.imp {X : Cx} {e : List Stmt} {t t' : TS} (h : PSs X e t) (k : ∀ D σ H, t' D σ H → t D σ H) : PSs X e t' := ⟨fun pins s σ H D I q => h.run pins s σ H D I (k D σ H q)⟩
structure CkS (c : Cf) (io : Nat) (m : S) where
  s : (x : Stmt) → Pf (OkS c io m x)
  b : (x : List Stmt) → Pf (OkB c io m x)
section
variable {c : Cf} {io : Nat}
def CkS.one {m : S} (s : (x : Stmt) → Pf (OkS c io m x)) : CkS c io m := ⟨s, fun _ => none⟩
theorem ok_never {st : Stmt} : OkS c io .never st := fun X W ph P n k po pn => PS.imp ps_never fun D σ H q => ds_never q
theorem ok_neverB {st : List Stmt} : OkB c io .never st := fun X W ph P n k po pn => PSs.imp pss_never fun D σ H q => ds_never q
theorem ok_pass {pos : Pos} : OkS c io .skip (.Pass pos) := fun X W ph P n k po pn => PS.imp ps_pass fun D σ H q => ds_skip q
theorem ok_doc {x : Str} {j : Nat} {p pos : Pos} : OkS c io .skip (.Expr (.Constant (.str x) j p) pos) := fun X W ph P n k po pn => PS.imp ps_doc fun D σ H q => ds_skip q
theorem ok_end : OkB c io .skip [] := fun X W ph P n k po pn => PSs.imp pss_nil fun D σ H q => ds_skip q
def ckSkipS : (x : Stmt) → Pf (OkS c io .skip x)
  | .Pass pos => yes ok_pass
  | .Expr (.Constant (.str x) j p) pos => yes ok_doc
  | _ => none
def ckSkipB : (x : List Stmt) → Pf (OkB c io .skip x)
  | [] => yes ok_end
  | _ => none
theorem ok_seq {a b : S} {st : Stmt} {r : List Stmt} (h1 : OkS c io a st) (h2 : OkB c io b r) : OkB c io (.seq a b) (st :: r) := fun X W ph P n k po pn => PSs.imp (pss_cons (h1 X W ph P n k po pn) (h2 X W ph P n k po pn)) fun D σ H q => ds_seq q
theorem ok_frz {i : Nat} {b : S} {r : List Stmt} (h2 : OkB c io b r) : OkB c io (.seq (.frz i) b) r := fun X W ph P n k po pn => PSs.imp (h2 X W ph P n k po pn) fun D σ H q => ds_frz q
theorem ok_wipe {i : Nat} {b : S} {r : List Stmt} (h2 : OkB c io b r) : OkB c io (.seq (.wipe i) b) r := fun X W ph P n k po pn => PSs.imp (h2 X W ph P n k po pn) fun D σ H q => ds_wipe q
def ckSeqB {b : S} (B : CkS c io b) : (a : S) → CkS c io a → (x : List Stmt) → Pf (OkB c io (.seq a b) x)
  | .frz i, _, x => (B.b x).and fun h => yes (ok_frz h)
  | .wipe i, _, x => (B.b x).and fun h => yes (ok_wipe h)
  | a, A, st :: r => (A.s st).and fun h1 => (B.b r).and fun h2 => yes (ok_seq h1 h2)
  | _, _, _ => none
theorem ok_expr {e : E} {x : Expr} {pos : Pos} (h : OkE c e x) (hs : isComp x = false) : OkS c io (.expr e) (.Expr x pos) := fun X W ph P n k po pn => PS.imp (ps_expr (h X W ph k) (swap_no hs none pos.line X.env)) fun D σ H q => ds_expr q
theorem sw_sub (e : Expr) (a b : Expr) (p : Pos) (l : Nat) (env : Env) : swapsWith e (some (.Subscript a b p)) l env = pure false := by
  cases e <;> first | rfl | (unfold swapsWith; rfl)
theorem swapped_sub (a b : Expr) (p : Pos) (e : Expr) (env : Env) : swappedStores [.Subscript a b p] e env = pure none := by
  unfold swappedStores
  cases e <;> rfl
theorem ok_setAt {i : Nat} {args : E} {x : Str} {px ps pos : Pos} {ke ve : Expr} (h1 : decide (c.N[i]? = some x) = true) (h2 : visB c.sc x = true) (h3 : decide ((x == ("__debug__" : Str)) = false ∧ (x == ("__classdict__" : Str)) = false) = true) (h : Two c args ve ke) (hk : isSlice ke = false) : OkS c io (.expr (.mut .setAt i args)) (.Assign [.Subscript (.Name x px) ke ps] ve pos) := fun X W ph P n k po pn => by
  obtain ⟨h3, h4⟩ := of_decide_eq_true h3
  obtain ⟨t, u, p1, p2, mt, p3⟩ := h X W ph k
  have pv := pe_var (X := X) (i := i) (pos := px) (by rw [k.hN]; exact of_decide_eq_true h1) (k.vis h2) h3 h4
  refine PS.imp (ps_asg p1 (pg_sub (pos := ps) pv p2 set_list (by intro v; cases ke <;> first | rfl | cases hk)) (show swapsWithSole [.Subscript (.Name x px) ke ps] ve pos.line X.env = pure false from sw_sub ve (.Name x px) ke ps pos.line X.env) (swapped_sub _ _ _ _ X.env) rfl) fun D σ H q => ?_
  obtain ⟨a, e1, e2⟩ := de_setAt (ds_expr q)
  exact mt _ _ _ _ (p3 _ _ _ e2) fun v H1 z => ⟨_, e1, z⟩
theorem ok_dput {i : Nat} {args : E} {x : Str} {px ps pos : Pos} {ke ve : Expr} (h1 : decide (c.N[i]? = some x) = true) (h2 : visB c.sc x = true) (h3 : decide ((x == ("__debug__" : Str)) = false ∧ (x == ("__classdict__" : Str)) = false) = true) (h : Two c args ve ke) (hs : isComp ve = false) : OkS c io (.expr (.dput i args)) (.Assign [.Subscript (.Name x px) ke ps] ve pos) := fun X W ph P n k po pn => by
  obtain ⟨h3, h4⟩ := of_decide_eq_true h3
  obtain ⟨t, u, p1, p2, mt, p3⟩ := h X W ph k
  have pv := pe_var (X := X) (i := i) (pos := px) (by rw [k.hN]; exact of_decide_eq_true h1) (k.vis h2) h3 h4
  refine PS.imp (ps_dput (pos' := ps) (by have := k.un; omega) pv p2 p1 (swap_no hs (some (.Subscript (.Name x px) ke ps)) pos.line X.env)) fun D σ H q => ?_
  obtain ⟨a, e1, e2⟩ := de_dput (ds_expr q)
  exact mt _ _ _ _ (p3 _ _ _ e2) fun v H1 z => ⟨_, e1, z⟩
def ckExpr {e : E} (A : Ck c e) : (x : Stmt) → Pf (OkS c io (.expr e) x)
  | .Expr x pos => (A.e x).and fun h => if hs : isComp x = false then yes (ok_expr h hs) else none
  | _ => none
def ckDput (i : Nat) {args : E} (A : Ck c args) : (x : Stmt) → Pf (OkS c io (.expr (.dput i args)) x)
  | .Assign [.Subscript (.Name x px) ke ps] ve pos => gd _ fun h1 => gd _ fun h2 => gd _ fun h3 => (A.two ve ke).and fun h => if hs : isComp ve = false then yes (ok_dput h1 h2 h3 h hs) else none
  | _ => none
theorem ok_set2 {i : Nat} {v ke je : E} {x : Str} {px pk ps pos : Pos} {kx jx ve : Expr} (h1 : decide (c.N[i]? = some x) = true) (h2 : visB c.sc x = true) (h3 : decide ((x == ("__debug__" : Str)) = false ∧ (x == ("__classdict__" : Str)) = false) = true) (hv : OkE c v ve) (hk : OkE c ke kx) (hj : OkE c je jx) (hs : isComp ve = false) (hsk : isSlice kx = false) (hsj : isSlice jx = false) (ht : isTup ve = false) : OkS c io (.expr (.mut2 .setAt i (.cons v .nil) ke (.cons je .nil))) (.Assign [.Subscript (.Subscript (.Name x px) kx pk) jx ps] ve pos) := fun X W ph P n k po pn => by
  obtain ⟨h3, h4⟩ := of_decide_eq_true h3
  have pr := pe_ix (pos := pk) (ix_any (X := X) (by have := k.un; omega)) (pe_var (X := X) (i := i) (pos := px) (by rw [k.hN]; exact of_decide_eq_true h1) (k.vis h2) h3 h4) (hk X W ph k) (plain_ix hsk)
  refine PS.imp (ps_asg (hv X W ph k) (pg_sub (pos := ps) pr (hj X W ph k) set_list (by intro v; cases jx <;> first | rfl | cases hsj)) (show swapsWithSole [.Subscript (.Subscript (.Name x px) kx pk) jx ps] ve pos.line X.env = pure false from swap_no hs (some (.Subscript (.Subscript (.Name x px) kx pk) jx ps)) pos.line X.env) (swapped_no ht X.env) rfl) fun D σ H q => ?_
  have q1 := de_mut2 (mut_setAt (Qn := fun H' => D.nx σ H')) (ds_expr q)
  refine de_mono (da_one q1) fun v0 H0 z => ?_
  obtain ⟨a, g1, g2⟩ := z
  refine ⟨.ref a, g1, de_mono g2 fun y H1 z => ?_⟩
  obtain ⟨us, b, xs, j0, rfl, z1, z2, z3, z4⟩ := z
  refine .inl (.inl ⟨a, us, j0, .ref b, rfl, rfl, SqL.of z1, z2, ?_⟩)
  exact de_mono (da_one z4) fun w H2 z => z
def ckSet2 (i : Nat) {v ke je : E} (V : Ck c v) (A : Ck c ke) (J : Ck c je) : (x : Stmt) → Pf (OkS c io (.expr (.mut2 .setAt i (.cons v .nil) ke (.cons je .nil))) x)
  | .Assign [.Subscript (.Subscript (.Name x px) kx pk) jx ps] ve pos => gd _ fun h1 => gd _ fun h2 => gd _ fun h3 => (V.e ve).and fun hv => (A.e kx).and fun hk => (J.e jx).and fun hj => if hs : isComp ve = false then (if hsk : isSlice kx = false then (if hsj : isSlice jx = false then (if ht : isTup ve = false then yes (ok_set2 h1 h2 h3 hv hk hj hs hsk hsj ht) else none) else none) else none) else none
  | _ => none
def ckSetAt (i : Nat) {args : E} (A : Ck c args) : (x : Stmt) → Pf (OkS c io (.expr (.mut .setAt i args)) x)
  | .Assign [.Subscript (.Name x px) ke ps] ve pos => gd _ fun h1 => gd _ fun h2 => gd _ fun h3 => (A.two ve ke).and fun h => (if hk : isSlice ke = false then yes (ok_setAt h1 h2 h3 h hk) else none)
  | _ => none
theorem ok_ret {e : E} {x : Expr} {pos : Pos} (h : OkE c e x) : OkS c io (.ret e) (.Return (some x) pos) := fun X W ph P n k po pn => PS.imp (ps_ret (h X W ph k)) fun D σ H q => ds_ret q
theorem ok_retN {pos : Pos} : OkS c io (.ret (.cst .non)) (.Return none pos) := fun X W ph P n k po pn => PS.imp ps_retN fun D σ H q => by
  have := ds_ret q
  exact de_cst (v := .non) (fun F H => by unfold Rep; rfl) this
def ckRet {e : E} (A : Ck c e) : (x : Stmt) → Pf (OkS c io (.ret e) x)
  | .Return (some x) pos => (A.e x).and fun h => yes (ok_ret h)
  | _ => none
def ckRetN : (e : E) → (x : Stmt) → Pf (OkS c io (.ret e) x)
  | .cst .non, .Return none pos => yes ok_retN
  | _, _ => none
theorem pin1 {P : L2.St → Prop} {i : Nat} (pn : ∀ tg : List Nat, (∀ i ∈ tg, io ≤ i) → PIn P tg) (h : decide (io ≤ i) = true) : PIn P [i] := pn [i] fun j hj => by
  rw [List.mem_singleton.mp hj]
  exact of_decide_eq_true h
theorem pinL {P : L2.St → Prop} {tg : List Nat} (pn : ∀ tg : List Nat, (∀ i ∈ tg, io ≤ i) → PIn P tg) (h : (tg.all fun i => decide (io ≤ i)) = true) : PIn P tg := pn tg fun j hj => of_decide_eq_true (List.all_eq_true.mp h j hj)
def swB (c : Cf) (y : Str) (py : Pos) (line : Nat) (scope : Scope) : Bool := (c.sc.names.lookup y == some .local) && (py.line == line) && !(scope.names.any fun (n, k) => n == y && (k == .local || k == .cell))
theorem sw_eq {X : Cx} {W : WX} {px : PX} (k : Cxt X W px c) {elt tg iter : Expr} {ifs : List Expr} {scope : Scope} {pos py : Pos} {y : Str} {l : Nat} : swapsWith (.ListComp elt [⟨tg, iter, ifs, 0⟩] scope pos) (some (.Name y py)) l X.env = pure (swB c y py pos.line scope) := by
  have h1 : X.env.blockKind = .function := by
    unfold Env.blockKind
    rw [k.hsc, k.fk]
    rfl
  have h2 : X.env.kindOf y = c.sc.names.lookup y := by
    rw [← k.hsc]
    rfl
  show (pure (X.env.blockKind == .function && X.env.kindOf y == some .local && py.line == pos.line && !(scope.names.any fun (n, k) => n == y && (k == .local || k == .cell))) : Sem Bool) = _
  rw [h1, h2]
  rfl
theorem ok_asg {i : Nat} {e : E} {y : Str} {py pos : Pos} {x : Expr} (h1 : decide (c.N[i]? = some y) = true) (h2 : decide (y ∈ c.st) = true) (h3 : decide (io ≤ i) = true) (h : OkE c e x) (hs : isComp x = false) : OkS c io (.asg i e) (.Assign [.Name y py] x pos) := fun X W ph P n k po pn =>
  PS.imp (ps_set (by rw [k.hN]; exact k.nd) (by rw [k.hN]; exact of_decide_eq_true h1) (k.loc (of_decide_eq_true h2)) (h X W ph k) (swap_no hs _ _ _) (k.fnl (of_decide_eq_true h2))) fun D σ H q => ds_asg (pin1 pn h3) q
theorem ok_asgLc (hc : c.hot = false) {i : Nat} {e : E} {y : Str} {py pos lp : Pos} {elt tg iter : Expr} {ifs : List Expr} {scope : Scope} (h1 : decide (c.N[i]? = some y) = true) (h2 : decide (y ∈ c.st) = true) (h3 : decide (io ≤ i) = true) (h : LcOk c e elt tg iter ifs scope) (hs : swB c y py lp.line scope = true) : OkS c io (.asg i e) (.Assign [.Name y py] (.ListComp elt [⟨tg, iter, ifs, 0⟩] scope lp) pos) := fun X W ph P n k po pn => by
  obtain ⟨wi, gg, tt, te, own, a1, a2, a3, a4, a5, a6, a7⟩ := h X W ph k
  have hl : X.env.scope.names.lookup y = some .local := by
    rw [k.hsc]
    unfold swB at hs
    simp only [Bool.and_eq_true, beq_iff_eq] at hs
    exact hs.1.1
  exact PS.imp (ps_setLc (k.calm hc) (by rw [k.hN]; exact k.nd) (by rw [k.hN]; exact of_decide_eq_true h1) hl (by rw [sw_eq k, hs]) a1 a2 a3 a4 a5 a6) fun D σ H q => a7 _ _ _ (ds_asg (pin1 pn h3) q)
theorem ok_asgLc2 (hc : c.hot = false) {i : Nat} {e : E} {y : Str} {py pos lp : Pos} {elt tg iter : Expr} {ifs : List Expr} {scope : Scope} (h1 : decide (c.N[i]? = some y) = true) (h2 : decide (y ∈ c.st) = true) (h3 : decide (io ≤ i) = true) (h : LcOk c e elt tg iter ifs scope) (hs : swB c y py lp.line scope = false) : OkS c io (.asg i e) (.Assign [.Name y py] (.ListComp elt [⟨tg, iter, ifs, 0⟩] scope lp) pos) := fun X W ph P n k po pn =>
  PS.imp (ps_set (by rw [k.hN]; exact k.nd) (by rw [k.hN]; exact of_decide_eq_true h1) (k.loc (of_decide_eq_true h2)) (ok_comp hc h X W ph k) (by rw [sw_eq k, hs]) (k.fnl (of_decide_eq_true h2))) fun D σ H q => ds_asg (pin1 pn h3) q
theorem ok_unpack {tg : List Nat} {e : E} {xs : List Expr} {j : Nat} {tp pos : Pos} {x : Expr} (h1 : OkU c tg (.Tuple xs j tp)) (h3 : (tg.all fun i => decide (io ≤ i)) = true) (h : OkE c e x) (hs : isComp x = false) (ht : isTup x = false) : OkS c io (.unpack tg e) (.Assign [.Tuple xs j tp] x pos) := fun X W ph P n k po pn =>
  PS.imp (ps_asg (h X W ph k) (h1 X W ph k) (show swapsWithSole [.Tuple xs j tp] x pos.line X.env = pure false from swap_no hs (some (.Tuple xs j tp)) pos.line X.env) (swapped_no ht X.env) rfl) fun D σ H q => ds_unpack (pinL pn h3) q
def ckAsg (i : Nat) {e : E} (A : Ck c e) : (x : Stmt) → Pf (OkS c io (.asg i e) x)
  | .Assign [.Name y py] (.ListComp elt [⟨tg, iter, ifs, 0⟩] scope lp) pos => gd _ fun h1 => gd _ fun h2 => gd _ fun h3 => (A.lc elt tg iter ifs scope).and fun h => match hs : swB c y py lp.line scope with
    | true => if hc : c.hot = false then yes (ok_asgLc hc h1 h2 h3 h hs) else none
    | false => if hc : c.hot = false then yes (ok_asgLc2 hc h1 h2 h3 h hs) else none
  | .Assign [.Name y py] x pos => gd _ fun h1 => gd _ fun h2 => gd _ fun h3 => (A.e x).and fun h => if hs : isComp x = false then yes (ok_asg h1 h2 h3 h hs) else none
  | _ => none
theorem swapped_const {ts vs : List Expr} {k1 k2 : Nat} {p1 p2 : Pos} (h : vs.all (foldedForSure 8) = true) (env : Env) : swappedStores [.Tuple ts k1 p1] (.Tuple vs k2 p2) env = pure none := by
  unfold swappedStores
  simp only
  split
  · rfl
  · split
    · rfl
    · split
      · rfl
      · first
        | rfl
        | (rw [if_pos h]; done)
        | (rw [if_pos h]; rfl)
theorem ok_unpackC {tg : List Nat} {e : E} {xs vs : List Expr} {j k2 : Nat} {tp pos p2 : Pos} (h1 : OkU c tg (.Tuple xs j tp)) (h3 : (tg.all fun i => decide (io ≤ i)) = true) (h : OkE c e (.Tuple vs k2 p2)) (ht : vs.all (foldedForSure 8) = true) : OkS c io (.unpack tg e) (.Assign [.Tuple xs j tp] (.Tuple vs k2 p2) pos) := fun X W ph P n k po pn =>
  PS.imp (ps_asg (h X W ph k) (h1 X W ph k) (show swapsWithSole [.Tuple xs j tp] (.Tuple vs k2 p2) pos.line X.env = pure false from swap_no (e := .Tuple vs k2 p2) rfl (some (.Tuple xs j tp)) pos.line X.env) (swapped_const ht X.env) rfl) fun D σ H q => ds_unpack (pinL pn h3) q
def ckUnpack (tg : List Nat) {e : E} (A : Ck c e) : (x : Stmt) → Pf (OkS c io (.unpack tg e) x)
  | .Assign [.Tuple xs j tp] (.Tuple vs k2 p2) pos => (ckU (c := c) tg (.Tuple xs j tp)).and fun h1 => gd _ fun h3 => (A.e (.Tuple vs k2 p2)).and fun h => gd _ fun ht => yes (ok_unpackC h1 h3 h ht)
  | .Assign [.Tuple xs j tp] x pos => (ckU (c := c) tg (.Tuple xs j tp)).and fun h1 => gd _ fun h3 => (A.e x).and fun h => if hs : isComp x = false then (if ht : isTup x = false then yes (ok_unpack h1 h3 h hs ht) else none) else none
  | _ => none
theorem ite_ff {α : Type} {p : Prop} [Decidable p] {a b r : α} (h : ¬ p) (k : b = r) : (if p then a else b) = r := by
  rw [if_neg h]
  exact k
def isSt : Expr → Bool := fun | .Starred .. => true | _ => false
theorem isSt_eq (e : Expr) : isSt e = isStar e := by cases e <;> rfl
theorem any_star {es : List Expr} (h : es.any isStar = false) : es.any isSt = false := by
  rw [← h, show isSt = isStar from funext isSt_eq]
theorem par_sw {env : Env} {x y : Str} {px py tp tp2 : Pos} {k1 k2 : Nat} {ea eb : Expr} (hb : env.blockKind = .function) (hx : env.kindOf x = some .local) (hy : env.kindOf y = some .local) (hl : (py.line == px.line) = true) (hne : x ≠ y) (hst : [ea, eb].any isStar = false) (hf : [ea, eb].all (foldedForSure 8) = false) (hc : [ea, eb].all (constantsAlone 8) = false) :
    swappedStores [.Tuple [.Name x px, .Name y py] k1 tp] (.Tuple [ea, eb] k2 tp2) env = pure (some [x, y]) := by
  have e1 := any_star hst
  have hl2 : py.line = px.line := by simpa using hl
  have hn : ([x, y] : List Str).eraseDups.length = 2 := by
    rw [List.eraseDups_cons]
    have : ([y] : List Str).filter (fun b => !b == x) = [y] := by simp [Ne.symm hne]
    rw [this]
    rfl
  have hn2 : (([.Name x px, .Name y py] : List Expr).filterMap fun
      | .Name id pos => if env.kindOf id == some .local && pos.line == (([Expr.Name x px, Expr.Name y py] : List Expr).head?.map (·.pos.line)).getD 0 then some id else none
      | _ => none) = [x, y] := by
    simp [hx, hy, hl2, Expr.pos]
  unfold swappedStores
  simp only [hb]
  refine ite_ff (fun z => by cases z) (ite_ff (fun z => Bool.false_ne_true (e1.symm.trans z)) ?_)
  have key : ∀ l : List Str, l = [x, y] → (l.length != 2 || l.eraseDups.length != l.length) = false := fun l hl => by
    rw [hl, hn]
    rfl
  refine ite_ff (fun z => Bool.false_ne_true ((key _ hn2).symm.trans z)) (ite_ff (fun z => Bool.false_ne_true (hf.symm.trans z)) (ite_ff (fun z => Bool.false_ne_true (hc.symm.trans z)) ?_))
  exact congrArg (fun l => (pure (some l) : Sem (Option (List Str)))) hn2
theorem ok_par (hh : c.hot = false) {i j : Nat} {a b : E} {x y : Str} {px py tp tp2 pos : Pos} {k1 k2 : Nat} {ea eb : Expr} (h1 : decide (c.N[i]? = some x) = true) (h2 : decide (c.N[j]? = some y) = true) (hne : decide (i ≠ j ∧ x ≠ y) = true) (hl1 : decide (c.sc.names.lookup x = some .local) = true) (hl2 : decide (c.sc.names.lookup y = some .local) = true) (hi : decide (io ≤ i) = true) (hj : decide (io ≤ j) = true) (ha : OkE c a ea) (hb : OkE c b eb) (hst : [ea, eb].any isStar = false) (hln : (py.line == px.line) = true) (hf : [ea, eb].all (foldedForSure 8) = false) (hc : [ea, eb].all (constantsAlone 8) = false) : OkS c io (.par i j a b) (.Assign [.Tuple [.Name x px, .Name y py] k1 tp] (.Tuple [ea, eb] k2 tp2) pos) := fun X W ph P n k po pn => by
  have hs1 : isStar ea = false := by
    simp only [List.any_cons, Bool.or_eq_false_iff] at hst
    exact hst.1
  have hs2 : isStar eb = false := by
    simp only [List.any_cons, Bool.or_eq_false_iff] at hst
    exact hst.2.1
  have kx : X.env.scope.names.lookup x = some .local := by rw [k.hsc]; exact of_decide_eq_true hl1
  have ky : X.env.scope.names.lookup y = some .local := by rw [k.hsc]; exact of_decide_eq_true hl2
  have hbk : X.env.blockKind = .function := by
    unfold Env.blockKind
    rw [k.hsc, k.fk]
    rfl
  obtain ⟨n1, n2⟩ := of_decide_eq_true hne
  exact PS.imp (ps_par (i := i) (j := j) (k.calm hh) (by rw [k.hN]; exact k.nd) (by rw [k.hN]; exact of_decide_eq_true h1) (by rw [k.hN]; exact of_decide_eq_true h2) n1 kx ky (ok_cons ha (ok_cons hb ok_nil hs2) hs1 X W ph k) (par_sw hbk kx ky hln n2 hst hf hc)) fun D σ H q => ds_par (pin1 pn hi) (pin1 pn hj) q
def ckPar (i j : Nat) {a b : E} (A : Ck c a) (B : Ck c b) : (x : Stmt) → Pf (OkS c io (.par i j a b) x)
  | .Assign [.Tuple [.Name x px, .Name y py] k1 tp] (.Tuple [ea, eb] k2 tp2) pos => gd _ fun h1 => gd _ fun h2 => gd _ fun h3 => gd _ fun h4 => gd _ fun h5 => gd _ fun h6 => gd _ fun h7 => (A.e ea).and fun h8 => (B.e eb).and fun h9 => gd _ fun h10 => (if hst : [ea, eb].any isStar = false then (if hf : [ea, eb].all (foldedForSure 8) = false then (if hc : [ea, eb].all (constantsAlone 8) = false then (if hh : c.hot = false then yes (ok_par hh h1 h2 h3 h4 h5 h6 h7 h8 h9 hst h10 hf hc) else none) else none) else none) else none)
  | _ => none
theorem ok_if {q : E} {a b : S} {x : Expr} {xs ys : List Stmt} {pos : Pos} (h1 : OkT c q x) (h2 : OkB c io a xs) (h3 : OkB c io b ys) : OkS c io (.ifs q a b) (.If x xs ys pos) := fun X W ph P n k po pn => PS.imp (ps_if (h1 X W ph k) (h2 X W ph P n k po pn) (h3 X W ph P n k po pn)) fun D σ H q => ds_if q
def ckIf {q : E} {a b : S} (Q : Ck c q) (A : CkS c io a) (B : CkS c io b) : (x : Stmt) → Pf (OkS c io (.ifs q a b) x)
  | .If x xs ys pos => (Q.t x).and fun h1 => (A.b xs).and fun h2 => (B.b ys).and fun h3 => yes (ok_if h1 h2 h3)
  | _ => none
theorem ok_for (hc : c.hot = false) {tg : List Nat} {one : Bool} {it : E} {b : S} {g iter : Expr} {xs : List Stmt} {pos : Pos} (h1 : OkI c it g iter) (h2 : OkG c tg one g) (h3 : OkB c io b xs) (h4 : (tg.all fun i => decide (io ≤ i)) = true) (h5 : isSet iter = false) : OkS c io (.fors tg one it b) (.For g iter xs [] pos) := fun X W ph P n k po pn =>
  PS.imp (ps_for po.po (k.calm hc) (h1 X W ph k) (h2 X W ph k) (h3 X W ph P n k po pn) (folded_no h5 X.env)) fun D σ H q => ds_for (pinL pn h4) q
def ckFor (tg : List Nat) (one : Bool) {it : E} {b : S} (I : Ck c it) (B : CkS c io b) : (x : Stmt) → Pf (OkS c io (.fors tg one it b) x)
  | .For g iter xs [] pos => (I.i g iter).and fun h1 => (ckG (c := c) tg one g).and fun h2 => (B.b xs).and fun h3 => gd _ fun h4 => if h5 : isSet iter = false then (if hc : c.hot = false then yes (ok_for hc h1 h2 h3 h4 h5) else none) else none
  | _ => none
theorem ok_while {q : E} {b : S} {x : Expr} {xs : List Stmt} {pos : Pos} (h1 : OkT c q x) (h3 : OkB c io b xs) : OkS c io (.whl q b) (.While x xs [] pos) := fun X W ph P n k po pn => PS.imp (ps_while po.po (h1 X W ph k) (h3 X W ph P n k po pn)) fun D σ H q => ds_while q
def ckWhile {q : E} {b : S} (Q : Ck c q) (B : CkS c io b) : (x : Stmt) → Pf (OkS c io (.whl q b) x)
  | .While x xs [] pos => (Q.t x).and fun h1 => (B.b xs).and fun h3 => yes (ok_while h1 h3)
  | _ => none
theorem ok_dropL {i : Nat} {x n : Str} {px ap cp pos : Pos} (h1 : decide (c.N[i]? = some x) = true) (h2 : visB c.sc x = true) (h3 : decide ((x == ("__debug__" : Str)) = false ∧ (x == ("__classdict__" : Str)) = false) = true) (hn : n = ("pop" : Str)) (hp : (ap.endLine == cp.line) = true) : OkS c io (.dropL i) (.Expr (.Call (.Attribute (.Name x px) n ap) [] [] cp) pos) := fun X W ph P m k po pn => by
  subst hn
  obtain ⟨h3, h4⟩ := of_decide_eq_true h3
  have pv := pe_var (X := X) (i := i) (pos := px) (by rw [k.hN]; exact of_decide_eq_true h1) (k.vis h2) h3 h4
  refine PS.imp (ps_expr (pe_bm0 PySem.F.plainAttrs_list PySem.F.slot_list_pop PySem.F.type_list_pop mt_pop pv rfl hp) rfl) fun D σ H q => ?_
  obtain ⟨a, xs, v, ys, q1, q2, rfl, q4⟩ := ds_dropL q
  exact ⟨.ref a, q1, .inl ⟨rfl, _, SqL.of q2⟩, a, ys ++ [v], v, rfl, rfl, q2, by simp, by rw [List.dropLast_concat]; exact q4⟩
def ckDropL (i : Nat) : (x : Stmt) → Pf (OkS c io (.dropL i) x)
  | .Expr (.Call (.Attribute (.Name x px) n ap) [] [] cp) pos => gd _ fun h1 => gd _ fun h2 => gd _ fun h3 => (if hn : n = ("pop" : Str) then gd _ fun h4 => yes (ok_dropL h1 h2 h3 hn h4) else none)
  | _ => none
theorem ok_spoilT {i kk : Nat} {m : Int} {x n : Str} {j1 j2 : Nat} {i2 : Int} {px p2 p3 p4 ap cp pos : Pos} (h1 : decide (c.N[i]? = some x) = true) (h2 : visB c.sc x = true) (h3 : decide ((x == ("__debug__" : Str)) = false ∧ (x == ("__classdict__" : Str)) = false) = true) (hn : n = ("append" : Str)) (hp : (ap.endLine == cp.line) = true) (hk : i2 = (kk : Int)) : OkS c io (.spoilT i kk m) (.Expr (.Call (.Attribute (.Subscript (.Name x px) (.Constant (.int i2) j1 p2) p3) n ap) [.Constant (.int m) j2 p4] [] cp) pos) := fun X W ph P mm k po pn => by
  subst hn hk
  obtain ⟨h3, h4⟩ := of_decide_eq_true h3
  have pv := pe_var (X := X) (i := i) (pos := px) (by rw [k.hN]; exact of_decide_eq_true h1) (k.vis h2) h3 h4
  refine PS.imp (ps_expr (pe_bm PySem.F.plainAttrs_list PySem.F.slot_list_append PySem.F.type_list_append mt_append (pe_ix (pos := p3) (ix_any (X := X) (by have := k.un; omega)) pv (pe_int (i := (kk : Int)) (j := j1) (pos := p2)) (plain_ix rfl)) (pa_cons (pe_int (i := m) (j := j2) (pos := p4)) pa_nil (star_cons [] X.env rfl)) rfl rfl hp (star_cons [] X.env rfl) (star_any cp X.env rfl)) rfl) fun D σ H q => ?_
  obtain ⟨t, vs, b, ys, q1, q2, q3, q4, q5, q6⟩ := ds_spoilT q
  refine ⟨.ref t, q1, .inl (.inr (.inl ⟨t, vs, (kk : Int), .ref b, rfl, rfl, SqT.of q2, ?_, ?_⟩))⟩
  · unfold atI ixN
    have : kk < vs.length := (List.getElem?_eq_some_iff.mp q3).1
    rw [if_pos (by omega), if_pos (by omega)]
    simpa using q3
  · exact ⟨.inl ⟨rfl, ys, SqL.of q4⟩, b, ys, .int m, rfl, rfl, q4, q5, q6⟩
def ckSpoilT (i kk : Nat) (m : Int) : (x : Stmt) → Pf (OkS c io (.spoilT i kk m) x)
  | .Expr (.Call (.Attribute (.Subscript (.Name x px) (.Constant (.int i2) j1 p2) p3) n ap) [.Constant (.int m2) j2 p4] [] cp) pos => gd _ fun h1 => gd _ fun h2 => gd _ fun h3 => (if hn : n = ("append" : Str) then gd (ap.endLine == cp.line) fun h4 => (if hk : i2 = (kk : Int) then (if hm : m2 = m then yes (by subst hm; exact ok_spoilT h1 h2 h3 hn h4 hk) else none) else none) else none)
  | _ => none
theorem ok_set2L (hc : c.hot = false) {i kk y g : Nat} {v : E} {f : Fn} {x kn yn gn ln : Str} {px px2 pk pk0 pk2 pg py pl p5 p6 cp ps pos : Pos} {ve : Expr} (h1 : decide (c.N[i]? = some x) = true) (h2 : visB c.sc x = true) (h3 : decide ((x == ("__debug__" : Str)) = false ∧ (x == ("__classdict__" : Str)) = false) = true) (h4 : decide (c.N[kk]? = some kn) = true) (h5 : visB c.sc kn = true) (h6 : decide ((kn == ("__debug__" : Str)) = false ∧ (kn == ("__classdict__" : Str)) = false) = true) (h7 : decide (c.N[y]? = some yn) = true) (h8 : visB c.sc yn = true) (h9 : decide ((yn == ("__debug__" : Str)) = false ∧ (yn == ("__classdict__" : Str)) = false) = true) (hv : OkE c v ve) (hs : isComp ve = false) (ht : isTup ve = false) (hq : c.Γ[g]? = some (gn, f)) (hg : glB c.sc gn = true) (hd : decide ((gn == ("__debug__" : Str)) = false) = true) (hl : ln = Str.ofString "len") (hlg : glB c.sc ln = true) (hlf : decide (ln ∈ c.fr) = true) : OkS c io (.set2L i kk y g v) (.Assign [.Subscript (.Subscript (.Name x px) (.Name kn pk0) pk) (.Call (.Name gn pg) [.Name yn py, .Call (.Name ln pl) [.Subscript (.Name x px2) (.Name kn pk2) p5] [] p6] [] cp) ps] ve pos) := fun X W ph P n k po pn => by
  subst hl
  obtain ⟨h3, h3'⟩ := of_decide_eq_true h3
  obtain ⟨h6, h6'⟩ := of_decide_eq_true h6
  obtain ⟨h9, h9'⟩ := of_decide_eq_true h9
  obtain rfl : ph = none := k.cold hc
  obtain ⟨r0, o, ok0, b1, b2, b3⟩ := bi_rule k hc (p := .len) (n := "len") rfl
  obtain ⟨a, fd, pss, g1, g2, g3, g4, g5⟩ := k.fns hc g gn f hq
  have vx : ∀ p, PE X (.Name x p) (tVar i) := fun p => pe_var (X := X) (i := i) (pos := p) (by rw [k.hN]; exact of_decide_eq_true h1) (k.vis h2) h3 h3'
  have vk : ∀ p, PE X (.Name kn p) (tVar kk) := fun p => pe_var (X := X) (i := kk) (pos := p) (by rw [k.hN]; exact of_decide_eq_true h4) (k.vis h5) h6 h6'
  have vy := pe_var (X := X) (i := y) (pos := py) (by rw [k.hN]; exact of_decide_eq_true h7) (k.vis h8) h9 h9'
  have ix := fun p0 p1 p2 => pe_ix (pos := p0) (ix_any (X := X) (by have := k.un; omega)) (vx p1) (vk p2) (plain_ix rfl)
  have lenE := pe_callB (p := pl) (pos := p6) (call_lenA (X := X)) (k.glo hlg) (k.fr _ (of_decide_eq_true hlf)) b1 (pa_cons (ix p5 px2 pk2) pa_nil (star_cons [] X.env rfl)) b2 b3 (star_cons [] X.env rfl) (star_any p6 X.env rfl)
  have callE := pe_callS (p := pg) (pos := cp) g4 g5 (k.glo hg) g1 g2 g3 (fun σ => L2N.passAt k.tk σ) (pa_cons vy (pa_cons lenE pa_nil (star_cons [] X.env rfl)) (star_cons _ X.env rfl)) (of_decide_eq_true hd) (star_cons _ X.env rfl) (star_any cp X.env rfl)
  refine PS.imp (ps_asg (hv X W none k) (pg_sub (pos := ps) (ix pk px pk0) callE set_list (by intro v; rfl)) (swap_no hs (some (.Subscript (.Subscript (.Name x px) (.Name kn pk0) pk) (.Call (.Name gn pg) [.Name yn py, .Call (.Name (Str.ofString "len") pl) [.Subscript (.Name x px2) (.Name kn pk2) p5] [] p6] [] cp) ps)) pos.line X.env) (swapped_no ht X.env) rfl) fun D σ H q => ?_
  obtain ⟨m, q1⟩ := ds_set2L q
  refine de_mono (da_one q1) fun v0 H0 z => ?_
  obtain ⟨a1, e1, z⟩ := z
  obtain ⟨y1, e2, us, b, xs, j0, rfl, z1, z2, z3, z4, z5⟩ := de_var z
  refine ⟨.ref a1, e1, .int j0, e2, .inl (.inl ⟨a1, us, j0, .ref b, rfl, rfl, SqL.of z1, z2, ?_⟩)⟩
  have q2 := da_split (de_call hq (da_one z5))
  obtain ⟨vy, e3, q3⟩ := de_var q2
  have q4 := de_cst (v := .int m) (fun F H => by unfold Rep; rfl) (da_one q3)
  refine ⟨vy, e3, .ref a1, e1, .int j0, e2, .inl (.inl ⟨a1, us, j0, .ref b, rfl, rfl, SqL.of z1, z2, ?_⟩)⟩
  refine .inl ⟨b, xs, rfl, .inl (SqL.of z3), ?_⟩
  rw [z4]
  exact q4
def ckSet2L (i kk y g : Nat) {v : E} (V : Ck c v) : (x : Stmt) → Pf (OkS c io (.set2L i kk y g v) x)
  | .Assign [.Subscript (.Subscript (.Name x px) (.Name kn pk0) pk) (.Call (.Name gn pg) [.Name yn py, .Call (.Name ln pl) [.Subscript (.Name x2 px2) (.Name kn2 pk2) p5] [] p6] [] cp) ps] ve pos => match hq : c.Γ[g]? with
    | some (gn', f) => if hn : gn = gn' then (if hx : x2 = x then (if hk : kn2 = kn then (if hc : c.hot = false then (if hs : isComp ve = false then (if ht : isTup ve = false then (if hl : ln = Str.ofString "len" then gd _ fun h1 => gd _ fun h2 => gd _ fun h3 => gd _ fun h4 => gd _ fun h5 => gd _ fun h6 => gd _ fun h7 => gd _ fun h8 => gd _ fun h9 => gd _ fun hg => gd _ fun hd => gd _ fun hlg => gd _ fun hlf => (V.e ve).and fun hv => yes (by subst hn hx hk; exact ok_set2L hc h1 h2 h3 h4 h5 h6 h7 h8 h9 hv hs ht hq hg hd hl hlg hlf) else none) else none) else none) else none) else none) else none) else none
    | none => none
  | _ => none
theorem ok_forO (hc : c.hot = false) {i : Nat} {it : E} {b : S} {y : Str} {py pos : Pos} {iter : Expr} {xs : List Stmt} (h1 : decide (c.N[i]? = some y) = true) (h2 : decide (y ∈ c.st) = true) (h4 : decide (io ≤ i) = true) (hi : OkE c it iter) (h3 : OkB c io b xs) (h5 : isSet iter = false) : OkS c io (.forO i it b) (.For (.Name y py) iter xs [] pos) := fun X W ph P n k po pn =>
  PS.imp (ps_for po.po (k.calm hc) (pi_list (hi X W ph k)) (pg_name (i := i) (by rw [k.hN]; exact k.nd) (by rw [k.hN]; exact of_decide_eq_true h1) (k.loc (of_decide_eq_true h2)) (k.fnl (of_decide_eq_true h2))) (h3 X W ph P n k po pn) (folded_no h5 X.env)) fun D σ H q => ds_forO (pin1 pn h4) q
def ckForO (i : Nat) {it : E} {b : S} (I : Ck c it) (B : CkS c io b) : (x : Stmt) → Pf (OkS c io (.forO i it b) x)
  | .For (.Name y py) iter xs [] pos => gd _ fun h1 => gd _ fun h2 => gd _ fun h4 => (I.e iter).and fun hi => (B.b xs).and fun h3 => if h5 : isSet iter = false then (if hc : c.hot = false then yes (ok_forO hc h1 h2 h4 hi h3 h5) else none) else none
  | _ => none
theorem swapped_subs {t1 t2 e : Expr} {a1 b1 a2 b2 : Expr} {p1 p2 : Pos} {k1 k2 : Nat} {tp vp : Pos} {vs : List Expr} (env : Env) : swappedStores [.Tuple [.Subscript a1 b1 p1, .Subscript a2 b2 p2] k1 tp] (.Tuple vs k2 vp) env = pure none := by
  unfold swappedStores
  simp only
  split
  · rfl
  · split
    · rfl
    · rfl
theorem ok_swp (hh : c.hot = false) {i : Nat} {k l a b : E} {x x2 : Str} {px px2 ps ps2 tp tp2 pos : Pos} {k1 k2 : Nat} {ek el ea eb : Expr} (h1 : decide (c.N[i]? = some x) = true) (h2 : visB c.sc x = true) (h3 : decide ((x == ("__debug__" : Str)) = false ∧ (x == ("__classdict__" : Str)) = false) = true) (hx : x2 = x) (hk : OkE c k ek) (hl : OkE c l el) (ha : OkE c a ea) (hb : OkE c b eb) (hsk : isSlice ek = false) (hsl : isSlice el = false) (hs1 : isStar ea = false) (hs2 : isStar eb = false) : OkS c io (.swp i k l a b) (.Assign [.Tuple [.Subscript (.Name x px) ek ps, .Subscript (.Name x2 px2) el ps2] k1 tp] (.Tuple [ea, eb] k2 tp2) pos) := fun X W ph P n kx po pn => by
  subst hx
  obtain ⟨h3, h4⟩ := of_decide_eq_true h3
  have pv : ∀ q : Pos, PE X (.Name x2 q) (tVar i) := fun q => pe_var (X := X) (i := i) (pos := q) (by rw [kx.hN]; exact of_decide_eq_true h1) (kx.vis h2) h3 h4
  have g1 := pg_sub (pos := ps) (pv px) (hk X W ph kx) (set_list (X := X)) (by intro v; cases ek <;> first | rfl | cases hsk)
  have g2 := pg_sub (pos := ps2) (pv px2) (hl X W ph kx) (set_list (X := X)) (by intro v; cases el <;> first | rfl | cases hsl)
  refine PS.imp (ps_asg (pe_tup (ok_cons ha (ok_cons hb ok_nil hs2) hs1 X W ph kx)) (pg_tup (k := k1) (pos := tp) (n := 2) (kx.calm hh) (pgs_cons g1 (pgs_cons g2 pgs_nil rfl) rfl) rfl rfl) ?_ (swapped_subs (t1 := ea) (t2 := ea) (e := ea) X.env) rfl) fun D σ H q => ds_swp q
  rfl
def ckSwp (i : Nat) {k l a b : E} (K : Ck c k) (L : Ck c l) (A : Ck c a) (B : Ck c b) : (x : Stmt) → Pf (OkS c io (.swp i k l a b) x)
  | .Assign [.Tuple [.Subscript (.Name x px) ek ps, .Subscript (.Name x2 px2) el ps2] k1 tp] (.Tuple [ea, eb] k2 tp2) pos => gd _ fun h1 => gd _ fun h2 => gd _ fun h3 => (if hx : x2 = x then (K.e ek).and fun g1 => (L.e el).and fun g2 => (A.e ea).and fun g3 => (B.e eb).and fun g4 => (if hsk : isSlice ek = false then (if hsl : isSlice el = false then (if hs1 : isStar ea = false then (if hs2 : isStar eb = false then (if hh : c.hot = false then yes (ok_swp hh h1 h2 h3 hx g1 g2 g3 g4 hsk hsl hs1 hs2) else none) else none) else none) else none) else none) else none)
  | _ => none
theorem ok_raise0 (hc : c.hot = false) {n : String} {e : E} {x m : Str} {j : Nat} {p p2 cp pos : Pos} (hx : x = Str.ofString n) (hr : decide (n ∈ c.x.xr) = true) (hg : glB c.sc x = true) (hd : decide ((x == ("__debug__" : Str)) = false) = true) : OkS c io (.raise n none e) (.Raise (some (.Call (.Name x p) [.Constant (.str m) j p2] [] cp)) none pos) := fun X W px P k0 k po pn => by
  subst hx
  obtain ⟨g1, g2, g3, g4, g5⟩ := k.xr n (of_decide_eq_true hr)
  refine PS.imp (L2N.ps_raise (k.calm hc) k.tk (L2N.pmk_own PySem.F.excBase_ValueError g2 g1 g3 (raises_own g4 g5) (k.glo hg) (of_decide_eq_true hd))) fun D σ H q => ?_
  obtain ⟨C, q1, q2⟩ := ds_raise0 q
  rw [g1] at q1
  cases q1
  exact q2
theorem ok_raise1 (hc : c.hot = false) {n : String} {f : Str} {a : E} {x : Str} {e : Expr} {p cp pos : Pos} (hx : x = Str.ofString n) (hr : decide ((n, f) ∈ c.x.xi) = true) (hg : glB c.sc x = true) (hd : decide ((x == ("__debug__" : Str)) = false) = true) (h : OkE c a e) (hs : isStar e = false) : OkS c io (.raise n (some f) a) (.Raise (some (.Call (.Name x p) [e] [] cp)) none pos) := fun X W px P k0 k po pn => by
  subst hx
  obtain ⟨⟨g1, g2, g3, fI, fd, ps, g4, g5, g6, g7⟩, hroom⟩ := k.xi n f (of_decide_eq_true hr)
  refine PS.imp (L2N.ps_raise (k.calm hc) k.tk (pmk_init g2 g4 g5 g7 (hroom hc) g6 (L2N.passes_call (E := fun _ _ _ => False) k.tk fun _ _ _ _ z => z.elim) (k.glo hg) g1 (pa_cons (h X W px k) pa_nil (star_cons [] X.env hs)) (of_decide_eq_true hd) (star_cons [] X.env hs) (star_any cp X.env rfl))) fun D σ H q => ?_
  have q1 := ds_raise1 g1 q
  exact de_mono q1 fun v H1 z => ⟨v, rfl, z⟩
def ckRaise (n : String) : (f : Option Str) → {a : E} → Ck c a → (x : Stmt) → Pf (OkS c io (.raise n f a) x)
  | none, _, _, .Raise (some (.Call (.Name x p) [.Constant (.str m) j p2] [] cp)) none pos => if hx : x = Str.ofString n then gd _ fun h1 => gd _ fun h2 => gd _ fun h3 => (if hc : c.hot = false then yes (ok_raise0 hc hx h1 h2 h3) else none) else none
  | some f, _, A, .Raise (some (.Call (.Name x p) [e] [] cp)) none pos => if hx : x = Str.ofString n then gd _ fun h1 => gd _ fun h2 => gd _ fun h3 => (A.e e).and fun h4 => (if hs : isStar e = false then (if hc : c.hot = false then yes (ok_raise1 hc hx h1 h2 h3 h4 hs) else none) else none) else none
  | _, _, _, _ => none
def Cf.inSuite (c : Cf) : Cf := { c with hot := true }
theorem cxt_tr {X : Cx} {W W' : WX} {px : PX} {pn : List (Addr × Obj)} {xe : Value → Shared → Prop} (hc : c.hot = false) (k : Cxt X W px c) (tk : L2N.Takes (X.tr pn xe) W') : Cxt (X.tr pn xe) W' px c :=
  ⟨k.hN, k.nd, k.hsc, k.fk, k.calm, k.sto, k.fns, k.hfn, k.gl, k.fr, k.un, tk, k.cold, (fun z => by rw [hc] at z; cases z), k.xin, k.xr, k.xi⟩
theorem cxt_suite {X : Cx} {W : WX} {px : PX} {pn : List (Addr × Obj)} {a : Addr} {oe : Obj} {cls : Value} {d : Option Addr} (k : Cxt X W px c) (zn : L2N.Zn cls d oe) (hd : ∃ vs, oe.data = .fields vs) : Cxt (X.suite a ((a, oe) :: pn)) (fun _ _ _ _ => False) (some (a, cls, d)) c.inSuite where
  hN := k.hN
  nd := k.nd
  hsc := k.hsc
  fk := k.fk
  calm := fun z => by cases z
  sto := k.sto
  fns := fun z => by cases z
  hfn := fun i x f h hq => by
    obtain ⟨a, fd, ps, g1, g2, g3, g4, g5⟩ := k.hfn i x f h hq
    exact ⟨a, fd, ps, g1, g2, g3, g4, ⟨g5.dp, g5.un⟩⟩
  gl := k.gl
  fr := k.fr
  un := k.un
  tk := fun u s' ⟨a, B, sI, pins, σ, H, cls, d, e, I, nb, up, sky, na, os, ag, w⟩ => w.elim
  cold := fun z => by cases z
  hotx := fun _ => ⟨a, cls, d, oe, rfl, List.mem_cons_self, zn, hd, rfl⟩
  xin := k.xin
  xr := k.xr
  xi := fun n f h => ⟨(k.xi n f h).1, fun z => by cases z⟩
theorem names_of {X : Cx} {W : WX} {px : PX} (k : Cxt X W px c) {y : String} {x : Str} (hx : x = Str.ofString y) (ht : y ∈ c.x.xt) (hg : glB c.sc x = true) (hn : x ≠ "__name__" ∧ (x == ("__debug__" : Str)) = false) : Names X x (clsV X.K y) := by
  subst hx
  refine ⟨k.glo hg, hn.2, ?_⟩
  rcases k.xin.n y ht with ⟨rfl, h3⟩ | ⟨h1, h3⟩
  · exact .inr ⟨h3, by unfold clsV; rw [if_pos rfl]; exact PyProof.Rows.Boot.«ValueError», hn.1⟩
  · exact .inl (by unfold clsV; rw [if_neg h1]; exact h3)
theorem xin_of {X : Cx} {W : WX} {px : PX} (k : Cxt X W px c) {y : String} {cs : List String} (hcs : ∀ n ∈ cs, n ∈ c.x.xc) (ht : y ∈ c.x.xt) : ∀ n ∈ cs, X.mg (Str.ofString n) = some (.ref (He.ga X.K (Str.ofString n))) ∧ PySem.W.exmOne X.K (.ref (He.ga X.K (Str.ofString n))) (clsV X.K y) = some (subX n y) :=
  fun n hn => ⟨k.xin.g n (hcs n hn), k.xin.ex n (hcs n hn) y ht⟩
theorem ok_tryAs (hc : c.hot = false) {b s : S} {cs : List String} {y : String} {i : Nat} {x n : Str} {np pos' pos : Pos} {body suite : List Stmt} {b0 : Stmt} (hx : x = Str.ofString y) (ht : decide (y ∈ c.x.xt) = true) (hcs : decide (∀ n ∈ cs, n ∈ c.x.xc) = true) (hg : glB c.sc x = true) (hn : decide (x ≠ "__name__" ∧ (x == ("__debug__" : Str)) = false) = true) (hi : decide (c.N[i]? = some n) = true) (hl : decide (c.sc.names.lookup n = some .local) = true) (hio : decide (io ≤ i) = true)
    (hb : OkB c io b body) (hsu : OkB c.inSuite io s (b0 :: suite)) : OkS c io (.try1 b cs y (some i) s) (.Try body [.ExceptHandler (some (.Name x np)) (some n) (b0 :: suite) pos'] [] [] pos) := fun X W px P m k po pn => by
  obtain rfl : px = none := k.cold hc
  have ht := of_decide_eq_true ht
  have hcs := of_decide_eq_true hcs
  have hN : X.N.Nodup := by rw [k.hN]; exact k.nd
  have hi' : X.N[i]? = some n := by rw [k.hN]; exact of_decide_eq_true hi
  have hl' : X.env.kindOf n = some .local := by
    show X.env.scope.names.lookup n = _
    rw [k.hsc]
    exact of_decide_eq_true hl
  refine PS.imp (L2N.ps_try_as (Wout := W) (tb := fun W' D σ H => DS ⟨X.K, none⟩ X.mg (PL P σ.length) W' c.Γ m b D σ H) (ts := fun a cls d D σ H => DS ⟨X.K, some (a, cls, d)⟩ X.mg (PL P σ.length) (fun _ _ _ _ => False) c.Γ m s D σ H) po.hs po.hf hN hi' hl' (names_of k hx ht hg (of_decide_eq_true hn)) k.tk ?_ ?_) fun D σ H q => ds_tryAs (pin1 pn hio) (xin_of k hcs ht) q
  · intro W' pn' xe tk' po'
    constructor
    intro pins s1 σ H D I q
    exact (hb (X.tr pn' xe) W' none (PL P σ.length) m (cxt_tr hc k tk') ⟨po', po.hs, po.hf⟩ fun tg h => PL.pin (pn tg h)).run pins s1 σ H D I q
  · intro a oe cls d pn' zn hd
    constructor
    intro pins s1 σ H D I q
    exact (hsu _ _ _ (PL P σ.length) m (cxt_suite k zn hd) ⟨PassesOwn.never, po.hs, po.hf⟩ fun tg h => PL.pin (pn tg h)).run pins s1 σ H D I q
theorem ok_try0 (hc : c.hot = false) {b s : S} {cs : List String} {y : String} {x : Str} {np pos' pos : Pos} {body suite : List Stmt} {b0 : Stmt} (hx : x = Str.ofString y) (ht : decide (y ∈ c.x.xt) = true) (hcs : decide (∀ n ∈ cs, n ∈ c.x.xc) = true) (hg : glB c.sc x = true) (hn : decide (x ≠ "__name__" ∧ (x == ("__debug__" : Str)) = false) = true)
    (hb : OkB c io b body) (hsu : OkB c.inSuite io s (b0 :: suite)) : OkS c io (.try1 b cs y none s) (.Try body [.ExceptHandler (some (.Name x np)) none (b0 :: suite) pos'] [] [] pos) := fun X W px P m k po pn => by
  obtain rfl : px = none := k.cold hc
  have ht := of_decide_eq_true ht
  have hcs := of_decide_eq_true hcs
  refine PS.imp (L2N.ps_try_many (Wout := W) (tb := fun W' D σ H => DS ⟨X.K, none⟩ X.mg (PL P σ.length) W' c.Γ m b D σ H) po.hs po.hf k.tk ?_ (L2N.HdsOk.cons (ts := fun a cls d D σ H => DS ⟨X.K, some (a, cls, d)⟩ X.mg (PL P σ.length) (fun _ _ _ _ => False) c.Γ m s D σ H) (names_of k hx ht hg (of_decide_eq_true hn)) ?_ .nil)) fun D σ H q => ds_try0 (xin_of k hcs ht) q
  · intro W' pn' xe tk' po'
    constructor
    intro pins s1 σ H D I q
    exact (hb (X.tr pn' xe) W' none (PL P σ.length) m (cxt_tr hc k tk') ⟨po', po.hs, po.hf⟩ fun tg h => PL.pin (pn tg h)).run pins s1 σ H D I q
  · intro a oe cls d pn' zn hd
    constructor
    intro pins s1 σ H D I q
    exact (hsu _ _ _ (PL P σ.length) m (cxt_suite k zn hd) ⟨PassesOwn.never, po.hs, po.hf⟩ fun tg h => PL.pin (pn tg h)).run pins s1 σ H D I q
theorem ok_tryK (hc : c.hot = false) {k0 : Nat} {b s : S} {cs : List String} {y : String} {i : Nat} {x n : Str} {np pos' pos : Pos} {body suite : List Stmt} {b0 : Stmt} (hk : decide (io ≤ k0) = true) (hx : x = Str.ofString y) (ht : decide (y ∈ c.x.xt) = true) (hcs : decide (∀ n ∈ cs, n ∈ c.x.xc) = true) (hg : glB c.sc x = true) (hn : decide (x ≠ "__name__" ∧ (x == ("__debug__" : Str)) = false) = true) (hi : decide (c.N[i]? = some n) = true) (hl : decide (c.sc.names.lookup n = some .local) = true) (hio : decide (io ≤ i) = true)
    (hb : OkB c k0 b body) (hsu : OkB c.inSuite io s (b0 :: suite)) : OkS c io (.tryK k0 b cs y i s) (.Try body [.ExceptHandler (some (.Name x np)) (some n) (b0 :: suite) pos'] [] [] pos) := fun X W px P m k po pn => by
  obtain rfl : px = none := k.cold hc
  have ht := of_decide_eq_true ht
  have hcs := of_decide_eq_true hcs
  have hk := of_decide_eq_true hk
  have hN : X.N.Nodup := by rw [k.hN]; exact k.nd
  have hi' : X.N[i]? = some n := by rw [k.hN]; exact of_decide_eq_true hi
  have hl' : X.env.kindOf n = some .local := by
    show X.env.scope.names.lookup n = _
    rw [k.hsc]
    exact of_decide_eq_true hl
  refine PS.imp (L2N.ps_try_as (Wout := W) (tb := fun W' D σ H => DS ⟨X.K, none⟩ X.mg (PK P k0 σ) W' c.Γ m b D σ H) (ts := fun a cls d D σ H => DS ⟨X.K, some (a, cls, d)⟩ X.mg (PL P σ.length) (fun _ _ _ _ => False) c.Γ m s D σ H) po.hs po.hf hN hi' hl' (names_of k hx ht hg (of_decide_eq_true hn)) k.tk ?_ ?_) fun D σ H q => by
    exact ds_tryK (pin1 pn hio) (xin_of k hcs ht) q
  · intro W' pn' xe tk' po'
    constructor
    intro pins s1 σ H D I q
    exact (hb (X.tr pn' xe) W' none (PK P k0 σ) m (cxt_tr hc k tk') ⟨po', po.hs, po.hf⟩ fun tg h => PK.pin (pn tg fun j hj => Nat.le_trans hk (h j hj)) h).run pins s1 σ H D I q
  · intro a oe cls d pn' zn hd
    constructor
    intro pins s1 σ H D I q
    exact (hsu _ _ _ (PL P σ.length) m (cxt_suite k zn hd) ⟨PassesOwn.never, po.hs, po.hf⟩ fun tg h => PL.pin (pn tg h)).run pins s1 σ H D I q
def ckTryK (cs : List String) (y : String) (k0 i : Nat) {b s : S} (B : CkS c k0 b) (U : CkS c.inSuite io s) : (x : Stmt) → Pf (OkS c io (.tryK k0 b cs y i s) x)
  | .Try body [.ExceptHandler (some (.Name x np)) (some n) (b0 :: suite) pos'] [] [] pos => if hx : x = Str.ofString y then (if hc : c.hot = false then gd _ fun h0 => gd _ fun h1 => gd _ fun h2 => gd _ fun h3 => gd _ fun h4 => gd _ fun h5 => gd _ fun h6 => gd _ fun h7 => (B.b body).and fun hb => (U.b (b0 :: suite)).and fun hu => yes (ok_tryK hc h0 hx h1 h2 h3 h4 h5 h6 h7 hb hu) else none) else none
  | _ => none
def ckTry (cs : List String) (y : String) : (i : Option Nat) → {b s : S} → CkS c io b → CkS c.inSuite io s → (x : Stmt) → Pf (OkS c io (.try1 b cs y i s) x)
  | some i, _, _, B, U, .Try body [.ExceptHandler (some (.Name x np)) (some n) (b0 :: suite) pos'] [] [] pos => if hx : x = Str.ofString y then (if hc : c.hot = false then gd _ fun h1 => gd _ fun h2 => gd _ fun h3 => gd _ fun h4 => gd _ fun h5 => gd _ fun h6 => gd _ fun h7 => (B.b body).and fun hb => (U.b (b0 :: suite)).and fun hu => yes (ok_tryAs hc hx h1 h2 h3 h4 h5 h6 h7 hb hu) else none) else none
  | none, _, _, B, U, .Try body [.ExceptHandler (some (.Name x np)) none (b0 :: suite) pos'] [] [] pos => if hx : x = Str.ofString y then (if hc : c.hot = false then gd _ fun h1 => gd _ fun h2 => gd _ fun h3 => gd _ fun h4 => (B.b body).and fun hb => (U.b (b0 :: suite)).and fun hu => yes (ok_try0 hc hx h1 h2 h3 h4 hb hu) else none) else none
  | _, _, _, _, _, _ => none
end
def ckSt : (m : S) → (c : Cf) → (io : Nat) → CkS c io m
  | .skip, c, io => ⟨ckSkipS, ckSkipB⟩
  | .seq a b, c, io => ⟨fun _ => none, ckSeqB (ckSt b c io) a (ckSt a c io)⟩
  | .asg i e, c, io => CkS.one (ckAsg i (ckE e c))
  | .unpack tg e, c, io => CkS.one (ckUnpack tg (ckE e c))
  | .expr (.mut .setAt i args), c, io => CkS.one (ckSetAt i (ckE args c))
  | .expr (.dput i args), c, io => CkS.one (ckDput i (ckE args c))
  | .expr (.mut2 .setAt i (.cons v .nil) k (.cons j .nil)), c, io => CkS.one (ckSet2 i (ckE v c) (ckE k c) (ckE j c))
  | .expr e, c, io => CkS.one (ckExpr (ckE e c))
  | .ret e, c, io => CkS.one fun x => orElse (ckRet (ckE e c) x) (ckRetN e x)
  | .ifs q a b, c, io => CkS.one (ckIf (ckE q c) (ckSt a c io) (ckSt b c io))
  | .fors tg one it b, c, io => CkS.one (ckFor tg one (ckE it c) (ckSt b c io))
  | .whl q b, c, io => CkS.one (ckWhile (ckE q c) (ckSt b c io))
  | .never, c, io => ⟨fun _ => yes ok_never, fun _ => yes ok_neverB⟩
  | .par i j a b, c, io => CkS.one (ckPar i j (ckE a c) (ckE b c))
  | .raise n f a, c, io => CkS.one (ckRaise n f (ckE a c))
  | .try1 b cs y i s, c, io => CkS.one (ckTry cs y i (ckSt b c io) (ckSt s c.inSuite io))
  | .tryK k b cs y i s, c, io => CkS.one (ckTryK cs y k i (ckSt b c k) (ckSt s c.inSuite io))
  | .dropL i, c, io => CkS.one (ckDropL i)
  | .spoilT i k m, c, io => CkS.one (ckSpoilT i k m)
  | .set2L i kk y g v, c, io => CkS.one (ckSet2L i kk y g (ckE v c))
  | .forO i it b, c, io => CkS.one (ckForO i (ckE it c) (ckSt b c io))
  | .swp i k l a b, c, io => CkS.one (ckSwp i (ckE k c) (ckE l c) (ckE a c) (ckE b c))
  | .frz _, c, io => CkS.one fun _ => none
  | .wipe _, c, io => CkS.one fun _ => none
def ckS (c : Cf) (io : Nat) (m : S) : CkS c io m := ckSt m c io
end Rg
namespace Rg
open PySem L2
section
variable {K : KP} {mg : Str → Option Value} {σ : L2.St} {F G H : Hp} {A : List Addr} {L : Nat → V} {τ : Sts}
theorem slots_un : ∀ (m k : Nat), SlotsR K G H L k (List.replicate m .un) (List.replicate m none) []
  | 0, k => ⟨rfl, rfl⟩
  | m + 1, k => ⟨none, List.replicate m none, [], [], rfl, rfl, rfl, slots_un m (k + 1)⟩
theorem slots_fz : ∀ {ds : List D} {vs : List V} (k : Nat), RepL K G H ds vs → (∀ k, SlotsR K G H L k τ σ A) → SlotsR K G H L k (ds.map .fz ++ τ) (vs.map some ++ σ) A
  | [], vs, k, h, r => by
    rw [h.unnil]
    exact r k
  | d :: ds, vs, k, h, r => by
    obtain ⟨v, w, rfl, h1, h2⟩ := h.uncons
    exact ⟨some v, w.map some ++ σ, [], A, rfl, rfl, ⟨rfl, v, rfl, h1⟩, slots_fz (k + 1) h2 r⟩
theorem slots_ow : ∀ {ds : List D} {vs : List V} {A1 : List Addr} (k : Nat), OwnsL K G H ds vs A1 → (∀ k, SlotsR K G H L k τ σ A) → SlotsR K G H L k (ds.map (.ow true) ++ τ) (vs.map some ++ σ) (A1 ++ A)
  | [], vs, A1, k, h, r => by
    obtain ⟨rfl, rfl⟩ := h
    exact r k
  | d :: ds, vs, A1, k, h, r => by
    obtain ⟨v, w, B1, B2, rfl, rfl, h1, h2⟩ := h
    exact ⟨some v, w.map some ++ σ, B1, B2 ++ A, rfl, by rw [List.append_assoc], ⟨v, rfl, h1⟩, slots_ow (k + 1) h2 r⟩
theorem entry_ok {io n : Nat} {ds : List D} {vs : List V} (a : Args K G H io ds vs A) (N : List Str) (hn : N.length = n) : SR K (entry io n ds) (L2.start N vs) G H A L := by
  refine ⟨a.le, ⟨A, ?_, List.Perm.refl _⟩, a.nd, a.off⟩
  have h1 : ∀ k, SlotsR K G H L k ((ds.drop io).map .fz ++ List.replicate (n - ds.length) .un) ((vs.drop io).map some ++ List.replicate (n - ds.length) none) [] := fun k => slots_fz k a.ro fun k => slots_un _ k
  have h2 := slots_ow (L := L) 0 a.io h1
  have e : L2.start N vs = (vs.take io).map some ++ ((vs.drop io).map some ++ List.replicate (n - ds.length) none) := by
    unfold L2.start
    rw [← List.append_assoc, ← List.map_append, List.take_append_drop, hn, a.len]
  rw [e, entry, List.append_assoc]
  rw [List.append_nil] at h2
  exact h2
theorem wipe_get {i : Nat} : ∀ {tg : List Nat} {σ : L2.St}, i ∉ tg → (wipe σ tg)[i]? = σ[i]?
  | [], _, _ => rfl
  | j :: r, σ, h => by
    show ((wipe σ r).set j none)[i]? = _
    rw [List.getElem?_set_ne fun (z : j = i) => h (by rw [z]; exact List.mem_cons_self), wipe_get fun z => h (List.mem_cons_of_mem _ z)]
def Pins (io : Nat) (vs : List V) : L2.St → Prop := fun σ => ∀ i v, i < io → vs[i]? = some v → σ[i]? = some (some v)
theorem pins_in {io : Nat} {vs : List V} (tg : List Nat) (h : ∀ i ∈ tg, io ≤ i) : PIn (Pins io vs) tg := fun σ σ' e p i v hi hv => by
  have ni : i ∉ tg := fun z => by
    have := h i z
    omega
  rw [← wipe_get ni, e, wipe_get ni]
  exact p i v hi hv
theorem pins_start {io : Nat} {vs : List V} (N : List Str) : Pins io vs (L2.start N vs) := fun i v _ hv => by
  unfold L2.start
  have hl : i < vs.length := (List.getElem?_eq_some_iff.mp hv).1
  rw [List.getElem?_append_left (by rw [List.length_map]; exact hl), List.getElem?_map, hv]
  rfl
theorem atS_of : ∀ {ios : List Nat} {vs : List V}, ios.length = vs.length → (∀ (j i : Nat) (v : V), ios[j]? = some i → vs[j]? = some v → σ[i]? = some (some v)) → AtS σ ios vs
  | [], vs, hl, _ => by
    cases vs with
    | nil => rfl
    | cons _ _ => cases hl
  | i :: r, vs, hl, h => by
    cases vs with
    | nil => cases hl
    | cons v w => exact ⟨v, w, rfl, h 0 i v rfl rfl, atS_of (Nat.succ.inj hl) fun j i v h1 h2 => h (j + 1) i v h1 h2⟩
theorem atS_range {io : Nat} {vs : List V} (h : Pins io vs σ) (hl : io ≤ vs.length) : AtS σ (List.range io) (vs.take io) := by
  refine atS_of (by rw [List.length_range, List.length_take]; omega) fun j i v h1 h2 => ?_
  obtain ⟨k1, k2⟩ := List.getElem?_eq_some_iff.mp h1
  rw [List.getElem_range] at k2
  subst k2
  rw [List.length_range] at k1
  rw [List.getElem?_take, if_pos k1] at h2
  exact h j v k1 h2
theorem ioData_set {i : Nat} {s : Slot} : ∀ {ios : List Nat}, i ∉ ios → ioData (τ.set i s) ios = ioData τ ios
  | [], _ => rfl
  | j :: r, h => by
    have : (τ.set i s)[j]? = τ[j]? := List.getElem?_set_ne fun (z : i = j) => h (by rw [z]; exact List.mem_cons_self)
    unfold ioData
    rw [this, ioData_set fun z => h (List.mem_cons_of_mem _ z)]
theorem outV_sto {io : Nat} {r : Val} {d : D} (h : outV io τ r = some d) : ∃ q τ2, sto τ r = some (q, τ2) ∧ ((q = .fz d ∧ imm d = true) ∨ q = .own true d) ∧ ioData τ2 (List.range io) = ioData τ (List.range io) := by
  cases r with
  | fz d' =>
    simp only [outV] at h
    split at h
    · rename_i hi
      cases h
      exact ⟨_, τ, rfl, .inl ⟨rfl, hi⟩, rfl⟩
    · cases h
  | own f d' =>
    cases f with
    | true =>
      cases h
      exact ⟨_, τ, rfl, .inr rfl, rfl⟩
    | false => cases h
  | slot i =>
    simp only [outV] at h
    split at h
    · cases h
    · rename_i hi
      cases e : τ[i]? with
      | none => rw [e] at h; cases h
      | some s =>
        rw [e] at h
        cases s with
        | ow f d' =>
          cases f with
          | true =>
            cases h
            refine ⟨.own true d, τ.set i .un, ?_, .inr rfl, ioData_set fun z => hi (List.mem_range.mp z)⟩
            simp only [sto, e]
          | false => cases h
        | un => cases h
        | fz _ => cases h
        | lk _ _ => cases h
theorem left_of {io : Nat} {vs : List V} {q : Val} {v : V} {d : D} {es : List D} {F' H' : Hp} {A' B : List Addr} (st : Step G H A F' H' A') (sr : SR K τ σ F' H' A' L) (pn : Pins io vs σ) (hl : io ≤ vs.length) (hr : (q = .fz d ∧ imm d = true) ∨ q = .own true d) (vr : VR K σ F' H' q v B) (ap : Ap F' A' B) (bn : ∀ b ∈ B, b ∈ A ∨ H b = none) (e : ioData τ (List.range io) = some es) :
    ∃ Aio, Left K G H A io vs d es v F' H' Aio B := by
  obtain ⟨Aio, Ar, p1, p2, p3, p4⟩ := take_io sr List.nodup_range e (atS_range pn hl)
  have sub : ∀ a ∈ Aio, a ∈ A' := fun a ha => p1.mem_iff.mpr (List.mem_append_left _ ha)
  refine ⟨Aio, ⟨st.trans (Step.less sub), sr.le, p3, ?_, ?_, bn, ?_⟩⟩
  · rcases hr with ⟨rfl, hi⟩ | rfl
    · exact .inl ⟨hi, vr.1, vr.2⟩
    · exact .inr vr
  · refine List.nodup_append.mpr ⟨p4.nd, ap.nd, fun a ha b hb e => ?_⟩
    subst e
    exact ap.a a hb (sub a ha)
  · intro a ha
    rcases List.mem_append.mp ha with ha | ha
    · exact p4.off a ha
    · exact ap.off a ha
end
def GFn (P : Program) (w : World) (K : PySem.W.Frag) (mg : Str → Option Value) (base : Heap) (x : Str) (f : Fn) : Prop := ∃ a fd ps, mg x = some (.ref a) ∧ PySem.W.keepIn K (.ref a) = true ∧ Binds K fd ps [] ∧ FnOk P w K mg base (L2N.CX P w) f.lv a fd ps (spOf ⟨K, none⟩ mg f)
def GQ (P : Program) (w : World) (K : PySem.W.Frag) (mg : Str → Option Value) (base : Heap) (x : Str) (f : Fn) : Prop := ∃ a fd ps, mg x = some (.ref a) ∧ PySem.W.keepIn K (.ref a) = true ∧ Binds K fd ps [] ∧ FnQ P w K mg base f.lv a fd ps (fun px => spOf ⟨K, px⟩ mg f)
structure MF (P : Program) (w : World) (K : PySem.W.Frag) (mg : Str → Option Value) (base : Heap) (GL : List (Str × D)) (fr : List Str) (x : Xc) : Prop where
  gl : ∀ x d, (x, d) ∈ GL → ∃ u v, mg x = some u ∧ RelV v u ∧ ∀ px F H, Rep ⟨K, px⟩ F H d v
  fr : ∀ x ∈ fr, mg x = none
  xin : XcIn K mg x.xc x.xt
  xr : ∀ n ∈ x.xr, XrK K mg n
  xi : ∀ n f, (n, f) ∈ x.xi → XiK P w K mg base n f
def Xc.le (a b : Xc) : Bool := decide (∀ n ∈ a.xc, n ∈ b.xc) && (decide (∀ n ∈ a.xt, n ∈ b.xt) && (decide (∀ n ∈ a.xr, n ∈ b.xr) && decide (∀ n ∈ a.xi, n ∈ b.xi)))
section
variable {P : Program} {w : World} {K : PySem.W.Frag} {mg : Str → Option Value} {base : Heap} {GL : List (Str × D)} {fr : List Str}
theorem MF.sub {x y : Xc} (m : MF P w K mg base GL fr x) (h : y.le x = true) : MF P w K mg base GL fr y := by
  unfold Xc.le at h
  simp only [Bool.and_eq_true, decide_eq_true_eq] at h
  obtain ⟨h1, h2, h3, h4⟩ := h
  exact ⟨m.gl, m.fr, ⟨fun n hn => m.xin.g n (h1 n hn), fun n hn => m.xin.k n (h1 n hn), fun t ht => m.xin.n t (h2 t ht), fun n hn t ht => m.xin.is n (h1 n hn) t (h2 t ht), fun n hn t ht => m.xin.ex n (h1 n hn) t (h2 t ht)⟩, fun n hn => m.xr n (h3 n hn), fun n f hn => m.xi n f (h4 _ hn)⟩
end
theorem end_of {K : KP} {mg : Str → Option Value} {G H : Hp} {A0 : List Addr} {io ow : Nat} {N : List Str} {ds : List D} {vs : List V} {Q : VK} {E : XK} {Γ : Env1} {n : Nat} {b : S} (a : Args K G H ow ds vs A0) (hv : io ≤ vs.length)
    (h : match endOf io (ex Γ n b (entry ow N.length ds)) with
      | .ok r => ∀ v F' H' A' B, Left K G H A0 io vs r.1 r.2 v F' H' A' B → Q v H'
      | .exc c fs => ∀ F' H' A', Step G H A0 F' H' A' → XE1 K mg E c fs H'
      | .stuck => False) : DS K mg (Pins io vs) (fun cls d _ H' => E cls d H') Γ n b { nx := fun _ H' => Q .non H', rt := Q } (L2.start N vs) H := by
  refine ⟨entry ow N.length ds, G, A0, fun _ => .non, entry_ok a N rfl, pins_start N, ?_⟩
  cases e : ex Γ n b (entry ow N.length ds) with
  | stuck => rw [e] at h; exact h
  | exc c fs => rw [e] at h; exact fun σ' F' H' A' s _ => h F' H' A' s
  | ok fl =>
    rw [e] at h
    cases fl with
    | next τ' =>
      simp only [endOf] at h
      cases e2 : ioData τ' (List.range io) with
      | none => rw [e2] at h; exact h.elim
      | some es =>
        rw [e2] at h
        intro σ' F' H' A' s r pn
        obtain ⟨Aio, lf⟩ := left_of (d := .non) (q := .fz .non) (v := .non) (B := []) s r pn hv (.inl ⟨rfl, rfl⟩) ⟨rfl, by unfold Rep; rfl⟩ Ap.nil (fun _ z => (List.not_mem_nil z).elim) e2
        exact h .non F' H' Aio [] lf
    | ret v τ' =>
      simp only [endOf] at h
      cases e1 : outV io τ' v with
      | none => rw [e1] at h; exact h.elim
      | some d =>
        rw [e1] at h
        cases e2 : ioData τ' (List.range io) with
        | none => rw [e2] at h; exact h.elim
        | some es =>
          rw [e2] at h
          intro u σ' F' H' A' B L' s r vr ap bn pn
          obtain ⟨q, τ2, k1, k2, k3⟩ := outV_sto e1
          obtain ⟨A2, B2, g1, g2, g3, g4, g5, g6⟩ := sto_ok r vr ap k1
          obtain ⟨Aio, lf⟩ := left_of (s.trans (Step.less g4)) g1 pn hv k2 g2 g3 (fun b hb => (g5 b hb).elim (bn b) fun z => s.own b z) (by rw [k3]; exact e2)
          exact h u F' H' Aio B2 lf
theorem fn_okW {P : Program} {w : World} {K : PySem.W.Frag} {mg : Str → Option Value} {base : Heap} {x qual : Str} {params : Arguments} {body : List Stmt} {scope : Scope} {f : Addr} {fd : FuncData} {N ps st fr : List Str} {Γ : Env1} {GL : List (Str × D)} {xc : Xc} {b : S} {fuel : List D → Nat} {lv io ow : Nat}
    (F : FunD K x qual params body scope [] [] f fd) (hS : C8.scC N ps scope = true) (hst : (st.all fun x => match scope.names.lookup x with | some .local => true | some .cell => true | _ => false) = true) (hio : decide (io ≤ ps.length ∧ (xc.xi = [] ∨ 2 ≤ lv)) = true)
    (hck : ((ckS ⟨N, scope, st, Γ, GL, fr, false, xc⟩ io b).b body).isSome = true)
    (hfn : ∀ p ∈ Γ, GFn P w K mg base p.1 p.2 ∧ p.2.lv ≤ lv) (hfq : ∀ p ∈ Γ, p.1 ∈ xc.hq → GQ P w K mg base p.1 p.2)
    (mf : MF P w K mg base GL fr xc) :
    FnOk P w K mg base (L2N.CX P w) (lv + 1) f fd ps (spOf ⟨K, none⟩ mg (Fn.ofW ow Γ (lv + 1) io ps.length N.length b fuel)) := by
  have S := C8.fnScope_by hS
  refine F.ok S ?_ ?_
  · rintro vs H Q E ⟨ds, G, A, a, hl, _⟩
    rw [← a.len, hl]
    rfl
  · rintro cdv A outer s H vs Q E room ⟨ds, G, A0, a, hl, h⟩
    refine ⟨DS ⟨K, none⟩ mg (Pins io vs) (fun cls d _ H' => E cls d H') Γ (fuel ds) b, ?_, ?_⟩
    · have hk : Cxt (cxOf (L2N.CX P w) P w K mg base N qual scope f cdv A outer s H E) (fun cls d _ H' => E cls d H') none ⟨N, scope, st, Γ, GL, fr, false, xc⟩ := {
        hN := rfl
        nd := S.nd
        hsc := rfl
        fk := S.kind
        calm := fun _ => rfl
        sto := fun x hx => by
          refine ⟨?_, .inl rfl⟩
          have := List.all_eq_true.mp hst x hx
          split at this
          · exact .inl (by assumption)
          · exact .inr (by assumption)
          · cases this
        fns := fun _ k y g e => by
          obtain ⟨⟨a, fd, ps, g1, g2, g3, g4⟩, g5⟩ := hfn _ (List.mem_of_getElem? e)
          exact ⟨a, fd, ps, g1, g2, g3, g4, room.mono g5⟩
        hfn := fun k y g e hq => by
          obtain ⟨a, fd, ps, g1, g2, g3, g4⟩ := hfq _ (List.mem_of_getElem? e) hq
          exact ⟨a, fd, ps, g1, g2, g3, g4, L2H.roomH_of (room.mono (hfn _ (List.mem_of_getElem? e)).2)⟩
        gl := mf.gl
        fr := mf.fr
        un := by
          have := room.un
          show (A.deeper _).units + 70 < cLine
          omega
        tk := L2N.takes_of rfl rfl rfl rfl
        cold := fun _ => rfl
        hotx := fun z => by cases z
        xin := mf.xin
        xr := mf.xr
        xi := fun n g hg => ⟨mf.xi n g hg, fun _ => room.mono (by
          rcases (of_decide_eq_true hio).2 with z | z
          · rw [show (xc.xi : List (String × Str)) = [] from z] at hg
            cases hg
          · exact z)⟩ }
      cases e : (ckS ⟨N, scope, st, Γ, GL, fr, false, xc⟩ io b).b body with
      | none => rw [e] at hck; cases hck
      | some ok => exact ok.down _ _ _ (Pins io vs) (fuel ds) hk ⟨passes_of rfl, rfl, rfl⟩ fun tg ht => pins_in tg ht
    · have hl2 : ds.length = ps.length := hl
      have hv : io ≤ vs.length := by
        have := (of_decide_eq_true hio).1
        rw [← a.len, hl2]
        exact this
      simp only [Fn.ofW, hl2, if_true] at h
      exact end_of a hv h
theorem fn_ok {P : Program} {w : World} {K : PySem.W.Frag} {mg : Str → Option Value} {base : Heap} {x qual : Str} {params : Arguments} {body : List Stmt} {scope : Scope} {f : Addr} {fd : FuncData} {N ps st fr : List Str} {Γ : Env1} {GL : List (Str × D)} {xc : Xc} {b : S} {fuel : List D → Nat} {lv io : Nat}
    (F : FunD K x qual params body scope [] [] f fd) (hS : C8.scC N ps scope = true) (hst : (st.all fun x => match scope.names.lookup x with | some .local => true | some .cell => true | _ => false) = true) (hio : decide (io ≤ ps.length ∧ (xc.xi = [] ∨ 2 ≤ lv)) = true)
    (hck : ((ckS ⟨N, scope, st, Γ, GL, fr, false, xc⟩ io b).b body).isSome = true)
    (hfn : ∀ p ∈ Γ, GFn P w K mg base p.1 p.2 ∧ p.2.lv ≤ lv) (hfq : ∀ p ∈ Γ, p.1 ∈ xc.hq → GQ P w K mg base p.1 p.2)
    (mf : MF P w K mg base GL fr xc) :
    FnOk P w K mg base (L2N.CX P w) (lv + 1) f fd ps (spOf ⟨K, none⟩ mg (Fn.of Γ (lv + 1) io ps.length N.length b fuel)) := fn_okW (ow := io) F hS hst hio hck hfn hfq mf
structure HeK (K : PySem.W.Frag) (mg : Str → Option Value) (bx : Str) (B : Addr) : Prop where
  g : mg bx = some (.ref B)
  ga : PySem.W.specialIn K (.ref B) "__getattribute__" = some (some (.builtin "type.__getattribute__"))
  rd : PySem.W.readsIn K B (.type "type") = true
  fi : PySem.W.findCls K (.ref B) (.type "type") "__init__" = some (.val (.builtin "ValueError.__init__"))
end Rg
namespace Rg
open PySem L2
section
variable {P : Program} {w : World} {K : PySem.W.Frag} {mg : Str → Option Value} {base : Heap}
theorem fr_nil : ∀ x ∈ ([] : List Str), mg x = none := fun _ h => (List.not_mem_nil h).elim
theorem fr_cons {y : Str} {r : List Str} (h : mg y = none) (t : ∀ x ∈ r, mg x = none) : ∀ x ∈ y :: r, mg x = none := fun x hx => by
  rcases List.mem_cons.mp hx with rfl | hx
  · exact h
  · exact t x hx
theorem gl_nil : ∀ x d, (x, d) ∈ ([] : List (Str × D)) → ∃ u v, mg x = some u ∧ RelV v u ∧ ∀ px F H, Rep ⟨K, px⟩ F H d v := fun _ _ h => (List.not_mem_nil h).elim
theorem fns_nil {lv : Nat} : ∀ p ∈ ([] : Env1), GFn P w K mg base p.1 p.2 ∧ p.2.lv ≤ lv := fun _ h => (List.not_mem_nil h).elim
theorem fns_cons {lv : Nat} {x : Str} {f : Fn} {r : Env1} (h : GFn P w K mg base x f) (hl : f.lv ≤ lv) (t : ∀ p ∈ r, GFn P w K mg base p.1 p.2 ∧ p.2.lv ≤ lv) : ∀ p ∈ (x, f) :: r, GFn P w K mg base p.1 p.2 ∧ p.2.lv ≤ lv := fun p hp => by
  rcases List.mem_cons.mp hp with rfl | hp
  · exact ⟨h, hl⟩
  · exact t p hp
theorem law_sp {f : Fn} {ns : List Int} {H : Hp} {a : Addr} {E : XK} (h0 : f.io = 0) (ha : f.ar = 1) (h : f.run [.scr ns] = .ok (.bl true, [])) (hS : SqL K H a (ns.map V.int)) (hw : f.ow = f.io := by rfl) : spOf ⟨K, none⟩ mg f [.ref a] H (fun v _ => v = .bl true) E := by
  refine ⟨[.scr ns], H, [], ⟨Le.refl H, List.nodup_nil, fun _ z => (List.not_mem_nil z).elim, ?_, ?_, rfl⟩, by rw [ha]; rfl, ?_⟩
  · rw [hw, h0]
    exact ⟨rfl, rfl⟩
  · rw [hw, h0]
    exact RepL.one (by unfold Rep; exact ⟨a, rfl, hS⟩)
  · rw [h]
    intro v F' H' A' B lf
    rcases lf.res with ⟨_, _, r⟩ | r
    · unfold Rep at r
      exact r
    · unfold Own at r
      exact r.elim
theorem noExc {P : Program} {w : World} {H : Hp} {s : Shared} {e : Value} {s' : Shared} (h : L2N.CX P w [] H s (fun _ _ _ => False) e s') : False := by
  obtain ⟨_, _, _, _, _, _, _, _, _, _, _, _, z⟩ := h
  exact z.elim
end
theorem walk_ofX {l : PySem.W.OpenLaw} {most lvl : Nat} {prg : Program} {ls : List Str} {XP : (Str → Option Value) → Heap → Prop} {YP : World → Heap → Prop} {dr : DefRec} {par : Str}
    (hn : l.most = some most) (hn2 : most ≤ sizeLine) (hdf : dr.params.defaults = []) (hr : Room lvl callerA)
    (F : ∀ (w : World) (mg : Str → Option Value) (at_ : Addr) (hp : Heap), YP w hp → hp.Ns mainGlobals mg → mg dr.name = some (.ref at_) →
      ∃ (K : PySem.W.Frag) (dat : FuncData) (pr : Sp), K.In hp ∧ (∀ (s : Shared) (arg : Value), BindsTo s dat ⟨[arg], []⟩ [(par, arg)]) ∧
        (∀ (H : Hp) (a : Addr) (nums : List Int), nums.length ≤ most → Only H → SqL K H a (nums.map V.int) → pr [.ref a] H (fun v _ => v = .bl true) fun _ _ _ => False) ∧
        ∀ below : Heap, K.In below → below.Ns mainGlobals mg → FnOk l.prog w K mg below (L2N.CX l.prog w) lvl at_ dat [par] pr) :
    PySem.W.WalkO prg ls XP YP l.row.toRowW dr [] (fun g us => PySem.call g us) := by
  apply Att.attach_call hn hdf
  intro w t0 t1 mg mb at_ ob pm cd doc a us nums G Y k1 k2 k3 k4 k5 k6 k7 k8
  obtain ⟨K, dat, pr, inn, bnd, prm, okf⟩ := F w mg at_ _ Y G.T.g k4
  exact law_call inn G.T.g G.T.b G.T.builtins G.T.nolimit k8 k5 k6 (Nat.le_trans k7 hn2) hr okf bnd (fun H hO hS => prm H a nums k7 hO hS) fun H e t2 z => noExc z
end Rg
namespace Rg
open PySem PySem.Spec PyProof.Rows L2
theorem b2 {a b : Bool} (h : (a && b) = true) : a = true ∧ b = true := Bool.and_eq_true_iff.mp h
def oexB (K : PySem.W.Frag) (C : Addr) : Bool := (match K.lookup C with
  | some ⟨.type t, _, .cls cd, sl⟩ => (match cd.mro, sl.toList with
    | .ref C' :: bm, [_, _, _, _, some (.builtin n), _] => decide (t = "type") && (decide (C' = C) && (decide (n = "ValueError.__new__") && (!cd.hasDel && (cd.hasDict && PySem.HandSPX.refsVE bm))))
    | _, _ => false)
  | _ => false) && (decide (PySem.W.findIn K (.ref C) "__setattr__" = some (some (.builtin "object.__setattr__"))) && (decide (PySem.W.subIn K (.ref C) (.type "BaseException") = some true) && (decide (PySem.W.typeIn K (.ref C) = some (.type "type")) && PySem.W.keepIn K (.ref C))))
def xckB (K : PySem.W.Frag) (C : Addr) : Bool := PySem.W.keepIn K (.ref C) && (decide (PySem.W.subIn K (.ref C) (.type "BaseException") = some true) && (decide (PySem.W.typeIn K (.ref C) = some (.type "type")) && ((PySem.W.clsIn K C).isSome &&
  (decide (PySem.W.findIn K (.ref C) "__getattribute__" = some (some (.builtin "BaseException.__getattribute__"))) && (decide (PySem.W.findIn K (.ref C) "__getattr__" = some none) && (decide (PySem.W.findIn K (.ref C) "__class__" = some (some (.builtin "object.__class__"))) &&
  (decide (PySem.W.specialIn K (.builtin "object.__class__") "__get__" = some (some (.builtin "getset_descriptor.__get__"))) && (decide (PySem.W.takesIn K (.builtin "object.__class__") = some true) && (decide (PySem.W.mroIn K C (.type "object") = some true) && PySem.W.hasDictIn K C)))))))))
theorem xckB_ok {K : PySem.W.Frag} {C : Addr} (h : xckB K C = true) : XcK K C := by
  unfold xckB at h
  obtain ⟨h1, h⟩ := b2 h
  obtain ⟨h2, h⟩ := b2 h
  obtain ⟨h3, h⟩ := b2 h
  obtain ⟨h4, h⟩ := b2 h
  obtain ⟨h5, h⟩ := b2 h
  obtain ⟨h6, h⟩ := b2 h
  obtain ⟨h7, h⟩ := b2 h
  obtain ⟨h8, h⟩ := b2 h
  obtain ⟨h9, h⟩ := b2 h
  obtain ⟨h10, h11⟩ := b2 h
  exact ⟨h1, of_decide_eq_true h2, of_decide_eq_true h3, h4, of_decide_eq_true h5, of_decide_eq_true h6, of_decide_eq_true h7, of_decide_eq_true h8, of_decide_eq_true h9, of_decide_eq_true h10, h11⟩
def gA (K : PySem.W.Frag) (n : String) : Addr := He.ga K (Str.ofString n)
def gloB (K : PySem.W.Frag) (n : String) : Bool := decide (PySem.W.nsIn K mainGlobals (Str.ofString n) = some (some (.ref (gA K n))))
def xinB (K : PySem.W.Frag) (x : Xc) : Bool := (x.xc.all fun n => gloB K n && xckB K (gA K n)) && ((x.xt.all fun t => if t = "ValueError" then decide (PySem.W.nsIn K mainGlobals (Str.ofString t) = some none) else gloB K t) &&
  (x.xc.all fun n => x.xt.all fun t => decide (PySem.W.kitOne K (.ref (gA K n)) (clsV K t) = some (subX n t)) && decide (PySem.W.exmOne K (.ref (gA K n)) (clsV K t) = some (subX n t))))
def xrB (K : PySem.W.Frag) (n : String) : Bool := gloB K n && (PySem.W.excIn K (gA K n) He.veBase "ValueError.__new__" && (PySem.W.keepIn K (.ref (gA K n)) && (decide (PySem.W.subIn K (.ref (gA K n)) (.type "BaseException") = some true) && decide (PySem.W.typeIn K (.ref (gA K n)) = some (.type "type")))))
def xiB (K : PySem.W.Frag) (p : String × Str) : Bool := gloB K p.1 && (oexB K (gA K p.1) && (decide (PySem.W.findIn K (.ref (gA K p.1)) p.2 = some none) && (decide (PySem.W.findIn K (.ref (gA K p.1)) "__init__" = some (some (.ref (He.ma K (gA K p.1) "__init__")))) && decide (PySem.W.typeIn K (.ref (He.ma K (gA K p.1) "__init__")) = some (.type "function")))))
def fiB (K : PySem.W.Frag) (B : Addr) : Bool := match PySem.W.findCls K (.ref B) (.type "type") "__init__" with
  | some (.val v) => decide (v = .builtin "ValueError.__init__")
  | _ => false
def heB (K : PySem.W.Frag) (bx : String) : Bool := gloB K bx && (decide (PySem.W.specialIn K (.ref (gA K bx)) "__getattribute__" = some (some (.builtin "type.__getattribute__"))) && (PySem.W.readsIn K (gA K bx) (.type "type") && fiB K (gA K bx)))
def xB (x : Xc) (K : PySem.W.Frag) : Bool := xinB K x && (x.xr.all (xrB K) && (x.xi.all (xiB K) && (x.xi.isEmpty || heB K "HeightError")))
section
variable {K : PySem.W.Frag} {h : Heap} {mg : Str → Option Value}
theorem gloB_ok (X : K.In h) (G : h.Ns mainGlobals mg) {n : String} (c : gloB K n = true) : mg (Str.ofString n) = some (.ref (He.ga K (Str.ofString n))) := PySem.W.mg_of X G (of_decide_eq_true c)
theorem xinB_ok (X : K.In h) (G : h.Ns mainGlobals mg) {x : Xc} (c : xinB K x = true) : XcIn K mg x.xc x.xt := by
  unfold xinB at c
  obtain ⟨c1, c⟩ := b2 c
  obtain ⟨c2, c3⟩ := b2 c
  rw [List.all_eq_true] at c1 c2 c3
  refine ⟨fun n hn => gloB_ok X G (b2 (c1 n hn)).1, fun n hn => xckB_ok (b2 (c1 n hn)).2, fun t ht => ?_, fun n hn t ht => ?_, fun n hn t ht => ?_⟩
  · have := c2 t ht
    by_cases e : t = "ValueError"
    · rw [if_pos e] at this
      exact .inl ⟨e, PySem.W.mg_none_of X G (of_decide_eq_true this)⟩
    · rw [if_neg e] at this
      exact .inr ⟨e, gloB_ok X G this⟩
  · have := c3 n hn
    rw [List.all_eq_true] at this
    exact of_decide_eq_true (b2 (this t ht)).1
  · have := c3 n hn
    rw [List.all_eq_true] at this
    exact of_decide_eq_true (b2 (this t ht)).2
theorem xrB_ok (X : K.In h) (G : h.Ns mainGlobals mg) {n : String} (c : xrB K n = true) : XrK K mg n := by
  unfold xrB at c
  obtain ⟨c1, c⟩ := b2 c
  obtain ⟨c2, c⟩ := b2 c
  obtain ⟨c3, c⟩ := b2 c
  obtain ⟨c4, c5⟩ := b2 c
  exact ⟨gloB_ok X G c1, c2, c3, of_decide_eq_true c4, of_decide_eq_true c5⟩
end
def asM (g : Addr → Option Obj) (n : Nat) : List Addr := He.asD g n ++ [cStatics]
def obsM (n : Nat) (fa : List He.Fa) (fn : List He.DefD) (ex : PySem.W.Frag → Bool) (g : Addr → Option Obj) : He.AlD × Bool := (He.obsD fa fn (He.frG g (asM g n)), ex (He.frG g (asM g n)))
def hookM (n : Nat) (fa : List He.Fa) (fn : List He.DefD) (ex : PySem.W.Frag → Bool) : PySem.W.Hook where
  α := He.AlD × Bool
  obs := fun s => obsM n fa fn ex s.heap.get?
  val := fun _ => (He.valD fn, true)
  says := fun _ h => ∃ K : PySem.W.Frag, K.In h ∧ He.SaysD fa fn K ∧ ex K = true
  of := fun _ _ e => ⟨_, He.frG_in, congrArg (fun z : He.AlD × Bool => z.1) e, congrArg (fun z : He.AlD × Bool => z.2) e⟩
  keeps := fun _ _ _ ⟨K, hK, c⟩ k => ⟨K, PySem.W.Frag.In.keeps hK k, c⟩
theorem obsM_eq {n : Nat} {fa : List He.Fa} {fn : List He.DefD} {ex : PySem.W.Frag → Bool} {g : Addr → Option Obj} {s : Shared} (h : ∀ a, g a = s.heap.get? a) : obsM n fa fn ex g = (hookM n fa fn ex).obs s := by
  have e : g = s.heap.get? := funext h
  rw [e] <;> rfl
end Rg
namespace Rg
open PySem PySem.Spec PyProof.Rows L2
section
variable {P : Program} {w : World} {K : PySem.W.Frag} {mg : Str → Option Value} {base : Heap} {hq : List Str}
theorem xi_nil : ∀ n f, (n, f) ∈ ([] : List (String × Str)) → XiK P w K mg base n f := fun _ _ h => (List.not_mem_nil h).elim
theorem fq_nil : ∀ p ∈ ([] : Env1), p.1 ∈ hq → GQ P w K mg base p.1 p.2 := fun _ h => (List.not_mem_nil h).elim
theorem fq_cons {x : Str} {f : Fn} {r : Env1} (h : x ∈ hq → GQ P w K mg base x f) (t : ∀ p ∈ r, p.1 ∈ hq → GQ P w K mg base p.1 p.2) : ∀ p ∈ (x, f) :: r, p.1 ∈ hq → GQ P w K mg base p.1 p.2 := fun p hp => by
  rcases List.mem_cons.mp hp with rfl | hp
  · exact h
  · exact t p hp
end
end Rg
namespace Lwk63
open PySem PySem.Spec PyProof.Rows L2 Rg Hr
def top (i : Nat) : Stmt := PySem.Challenge.pw_heightrings_k63_least_kept.main.body.getD i (.Pass ⟨0, 0, 0, 0⟩)
def dd (x : Str) (i : Nat) : He.DefD := ⟨(x, none), x, x, defArgs (top i), defBody (top i), defScope (top i), [], []⟩
def XX : Xc := ⟨[], [], [], [], []⟩
def fn : List He.DefD := [dd "_law_feed" 7, dd "_law_draw" 8, dd "_law_points" 9, dd "is_near" 1, dd "all_near" 2, dd "fewest_to" 4, dd "least_kept" 5, dd "_law_near" 10, dd "_law_lets" 11, dd "_law_least" 12, dd "_law_right" 13, dd "law" 14]
def fa0 : List He.Fa := [.glo "_law_feed", .glo "_law_draw", .glo "_law_points", .glo "is_near", .glo "all_near", .glo "fewest_to", .glo "least_kept", .glo "_law_near", .glo "_law_lets", .glo "_law_least", .glo "_law_right", .glo "law", .free "abs", .free "bool", .free "int", .free "isinstance", .free "len", .free "list", .free "max", .free "min", .free "range", .free "set", .free "sorted", .free "tuple"]
def fa : List He.Fa := fa0
def lo0 : List PySem.Str := ["is_near", "all_near", "fewest_to", "least_kept", "_law_feed", "_law_draw", "_law_points", "_law_near", "_law_lets", "_law_least", "_law_right"]
def lo : List PySem.Str := lo0
abbrev R0 : PySem.W.OpenRow := PySem.W.OpenLaw.row PySem.Challenge.rw_heightrings_k63_least_kept
abbrev hk : PySem.W.Hook := hookM 4 fa fn (xB XX)
def ob (s : PySem.W.SharedT) : He.AlD × Bool := obsM 4 fa fn (xB XX) (HandSHeadRun.getT s)
theorem ob_eq (s : PySem.W.SharedT) : ob s = hk.obs s.abs := obsM_eq (HandSHeadRun.getT_eq s)
theorem run (w : World) : HandSHeadRun.RunEq R0 (PySem.W.view R0.prog [14]) hk ob 4000 lo w := by
  intro os
  kernel_rfl
def fr : List Str := ["abs", "bool", "int", "isinstance", "len", "list", "max", "min", "range", "set", "sorted", "tuple"]
def GL : List (Str × D) := []
section
variable {P : Program} {w : World} {K : PySem.W.Frag} {h : Heap} {mg : Str → Option Value} {base : Heap}
theorem hfr (X : K.In h) (G : h.Ns mainGlobals mg) (c : He.SaysD fa fn K) : ∀ x ∈ fr, mg x = none := (fr_cons (He.free_ok X G (c.fact 12 (f := .free "abs") rfl)) (fr_cons (He.free_ok X G (c.fact 13 (f := .free "bool") rfl)) (fr_cons (He.free_ok X G (c.fact 14 (f := .free "int") rfl)) (fr_cons (He.free_ok X G (c.fact 15 (f := .free "isinstance") rfl)) (fr_cons (He.free_ok X G (c.fact 16 (f := .free "len") rfl)) (fr_cons (He.free_ok X G (c.fact 17 (f := .free "list") rfl)) (fr_cons (He.free_ok X G (c.fact 18 (f := .free "max") rfl)) (fr_cons (He.free_ok X G (c.fact 19 (f := .free "min") rfl)) (fr_cons (He.free_ok X G (c.fact 20 (f := .free "range") rfl)) (fr_cons (He.free_ok X G (c.fact 21 (f := .free "set") rfl)) (fr_cons (He.free_ok X G (c.fact 22 (f := .free "sorted") rfl)) (fr_cons (He.free_ok X G (c.fact 23 (f := .free "tuple") rfl)) fr_nil))))))))))))
theorem hgl (X : K.In h) (G : h.Ns mainGlobals mg) (c : He.SaysD fa fn K) : ∀ x d, (x, d) ∈ GL → ∃ u v, mg x = some u ∧ RelV v u ∧ ∀ px F H, Rep ⟨K, px⟩ F H d v := gl_nil
theorem mf (X : K.In h) (G : h.Ns mainGlobals mg) (c : He.SaysD fa fn K) (ce : xB XX K = true) : MF P w K mg base GL fr XX := ⟨hgl X G c, hfr X G c, xinB_ok X G (b2 ce).1, fun n hn => xrB_ok X G (List.all_eq_true.mp (b2 (b2 ce).2).1 n hn), xi_nil⟩
def x__law_feed : Xc := ⟨[], [], [], [], []⟩
theorem ck__law_feed : ((ckS ⟨["_law_script", "_law_k", "_law_cell"], defScope (top 7), ["_law_script", "_law_k", "_law_cell"], g__law_feed, GL, fr, false, x__law_feed⟩ 0 m__law_feed).b (defBody (top 7))).isSome = true := by kernel_rfl
theorem ok__law_feed (X : K.In h) (G : h.Ns mainGlobals mg) (c : He.SaysD fa fn K) (ce : xB XX K = true) : GFn P w K mg base "_law_feed" f__law_feed := by
  obtain ⟨fd, F⟩ := c.def_ 0 (d := dd "_law_feed" 7) rfl
  exact ⟨_, fd, ["_law_script", "_law_k"], He.glo_ok X G (c.fact 0 (f := .glo "_law_feed") rfl), F.kp, FunD.bindsN F (fun _ _ _ _ _ _ us hl => match us, hl with | [_, _], _ => rfl),
    fn_ok (lv := 0) (io := 0) (N := ["_law_script", "_law_k", "_law_cell"]) (ps := ["_law_script", "_law_k"]) (st := ["_law_script", "_law_k", "_law_cell"]) (fuel := (fun _ => 0)) F (by decide +kernel) (by decide +kernel) (by decide +kernel) ck__law_feed fns_nil fq_nil ((mf X G c ce).sub (by decide))⟩
def x__law_draw : Xc := ⟨[], [], [], [], []⟩
theorem ck__law_draw : ((ckS ⟨["_law_feed_here", "_law_many", "_law_found"], defScope (top 8), ["_law_feed_here", "_law_many", "_law_found"], g__law_draw, GL, fr, false, x__law_draw⟩ 1 m__law_draw).b (defBody (top 8))).isSome = true := by kernel_rfl
theorem ok__law_draw (X : K.In h) (G : h.Ns mainGlobals mg) (c : He.SaysD fa fn K) (ce : xB XX K = true) : GFn P w K mg base "_law_draw" f__law_draw := by
  obtain ⟨fd, F⟩ := c.def_ 1 (d := dd "_law_draw" 8) rfl
  exact ⟨_, fd, ["_law_feed_here", "_law_many"], He.glo_ok X G (c.fact 1 (f := .glo "_law_draw") rfl), F.kp, FunD.bindsN F (fun _ _ _ _ _ _ us hl => match us, hl with | [_, _], _ => rfl),
    fn_ok (lv := 0) (io := 1) (N := ["_law_feed_here", "_law_many", "_law_found"]) (ps := ["_law_feed_here", "_law_many"]) (st := ["_law_feed_here", "_law_many", "_law_found"]) (fuel := (fun _ => 0)) F (by decide +kernel) (by decide +kernel) (by decide +kernel) ck__law_draw fns_nil fq_nil ((mf X G c ce).sub (by decide))⟩
def x__law_points : Xc := ⟨[], [], [], [], []⟩
theorem ck__law_points : ((ckS ⟨["_law_feed_here", "_law_most", "_law_many", "_law_wide", "_law_high", "_law_on", "_law_points_here", "_law_k", "_law_by", "_law_far", "_law_x", "_law_y"], defScope (top 9), ["_law_feed_here", "_law_most", "_law_many", "_law_wide", "_law_high", "_law_on", "_law_points_here", "_law_k", "_law_by", "_law_far"], g__law_points, GL, fr, false, x__law_points⟩ 1 m__law_points).b (defBody (top 9))).isSome = true := by kernel_rfl
theorem ok__law_points (X : K.In h) (G : h.Ns mainGlobals mg) (c : He.SaysD fa fn K) (ce : xB XX K = true) : GFn P w K mg base "_law_points" f__law_points := by
  obtain ⟨fd, F⟩ := c.def_ 2 (d := dd "_law_points" 9) rfl
  exact ⟨_, fd, ["_law_feed_here", "_law_most"], He.glo_ok X G (c.fact 2 (f := .glo "_law_points") rfl), F.kp, FunD.bindsN F (fun _ _ _ _ _ _ us hl => match us, hl with | [_, _], _ => rfl),
    fn_ok (lv := 1) (io := 1) (N := ["_law_feed_here", "_law_most", "_law_many", "_law_wide", "_law_high", "_law_on", "_law_points_here", "_law_k", "_law_by", "_law_far", "_law_x", "_law_y"]) (ps := ["_law_feed_here", "_law_most"]) (st := ["_law_feed_here", "_law_most", "_law_many", "_law_wide", "_law_high", "_law_on", "_law_points_here", "_law_k", "_law_by", "_law_far"]) (fuel := (fun _ => 0)) F (by decide +kernel) (by decide +kernel) (by decide +kernel) ck__law_points (fns_cons (ok__law_draw X G c ce) (by decide) fns_nil) (fq_cons (fun h => absurd h (by decide)) fq_nil) ((mf X G c ce).sub (by decide))⟩
def x_is_near : Xc := ⟨[], [], [], [], []⟩
theorem ck_is_near : ((ckS ⟨["one", "other", "point", "bound", "wide", "high", "right", "down", "along", "whole", "far"], defScope (top 1), ["one", "other", "point", "bound", "wide", "high", "right", "down", "along", "whole", "far"], g_is_near, GL, fr, false, x_is_near⟩ 0 m_is_near).b (defBody (top 1))).isSome = true := by kernel_rfl
theorem ok_is_near (X : K.In h) (G : h.Ns mainGlobals mg) (c : He.SaysD fa fn K) (ce : xB XX K = true) : GFn P w K mg base "is_near" f_is_near := by
  obtain ⟨fd, F⟩ := c.def_ 3 (d := dd "is_near" 1) rfl
  exact ⟨_, fd, ["one", "other", "point", "bound"], He.glo_ok X G (c.fact 3 (f := .glo "is_near") rfl), F.kp, FunD.bindsN F (fun _ _ _ _ _ _ us hl => match us, hl with | [_, _, _, _], _ => rfl),
    fn_ok (lv := 0) (io := 0) (N := ["one", "other", "point", "bound", "wide", "high", "right", "down", "along", "whole", "far"]) (ps := ["one", "other", "point", "bound"]) (st := ["one", "other", "point", "bound", "wide", "high", "right", "down", "along", "whole", "far"]) (fuel := (fun _ => 0)) F (by decide +kernel) (by decide +kernel) (by decide +kernel) ck_is_near fns_nil fq_nil ((mf X G c ce).sub (by decide))⟩
def x_all_near : Xc := ⟨[], [], [], [], []⟩
theorem ck_all_near : ((ckS ⟨["one", "other", "points", "bound", "point"], defScope (top 2), ["one", "other", "points", "bound", "point"], g_all_near, GL, fr, false, x_all_near⟩ 0 m_all_near).b (defBody (top 2))).isSome = true := by kernel_rfl
theorem ok_all_near (X : K.In h) (G : h.Ns mainGlobals mg) (c : He.SaysD fa fn K) (ce : xB XX K = true) : GFn P w K mg base "all_near" f_all_near := by
  obtain ⟨fd, F⟩ := c.def_ 4 (d := dd "all_near" 2) rfl
  exact ⟨_, fd, ["one", "other", "points", "bound"], He.glo_ok X G (c.fact 4 (f := .glo "all_near") rfl), F.kp, FunD.bindsN F (fun _ _ _ _ _ _ us hl => match us, hl with | [_, _, _, _], _ => rfl),
    fn_ok (lv := 1) (io := 0) (N := ["one", "other", "points", "bound", "point"]) (ps := ["one", "other", "points", "bound"]) (st := ["one", "other", "points", "bound", "point"]) (fuel := (fun _ => 0)) F (by decide +kernel) (by decide +kernel) (by decide +kernel) ck_all_near (fns_cons (ok_is_near X G c ce) (by decide) fns_nil) (fq_cons (fun h => absurd h (by decide)) fq_nil) ((mf X G c ce).sub (by decide))⟩
def x_fewest_to : Xc := ⟨[], [], [], [], []⟩
theorem ck_fewest_to : ((ckS ⟨["points", "bound", "many", "ahead", "k", "best", "j"], defScope (top 4), ["points", "bound", "many", "ahead", "k", "best", "j"], g_fewest_to, GL, fr, false, x_fewest_to⟩ 0 m_fewest_to).b (defBody (top 4))).isSome = true := by kernel_rfl
theorem ok_fewest_to (X : K.In h) (G : h.Ns mainGlobals mg) (c : He.SaysD fa fn K) (ce : xB XX K = true) : GFn P w K mg base "fewest_to" f_fewest_to := by
  obtain ⟨fd, F⟩ := c.def_ 5 (d := dd "fewest_to" 4) rfl
  exact ⟨_, fd, ["points", "bound"], He.glo_ok X G (c.fact 5 (f := .glo "fewest_to") rfl), F.kp, FunD.bindsN F (fun _ _ _ _ _ _ us hl => match us, hl with | [_, _], _ => rfl),
    fn_ok (lv := 2) (io := 0) (N := ["points", "bound", "many", "ahead", "k", "best", "j"]) (ps := ["points", "bound"]) (st := ["points", "bound", "many", "ahead", "k", "best", "j"]) (fuel := (fun _ => 0)) F (by decide +kernel) (by decide +kernel) (by decide +kernel) ck_fewest_to (fns_cons (ok_all_near X G c ce) (by decide) fns_nil) (fq_cons (fun h => absurd h (by decide)) fq_nil) ((mf X G c ce).sub (by decide))⟩
def x_least_kept : Xc := ⟨[], [], [], [], []⟩
theorem ck_least_kept : ((ckS ⟨["points", "bound", "at", "kept", "many", "ahead"], defScope (top 5), ["points", "bound", "at", "kept", "many", "ahead"], g_least_kept, GL, fr, false, x_least_kept⟩ 0 m_least_kept).b (defBody (top 5))).isSome = true := by kernel_rfl
theorem ok_least_kept (X : K.In h) (G : h.Ns mainGlobals mg) (c : He.SaysD fa fn K) (ce : xB XX K = true) : GFn P w K mg base "least_kept" f_least_kept := by
  obtain ⟨fd, F⟩ := c.def_ 6 (d := dd "least_kept" 5) rfl
  exact ⟨_, fd, ["points", "bound"], He.glo_ok X G (c.fact 6 (f := .glo "least_kept") rfl), F.kp, FunD.bindsN F (fun _ _ _ _ _ _ us hl => match us, hl with | [_, _], _ => rfl),
    fn_ok (lv := 3) (io := 0) (N := ["points", "bound", "at", "kept", "many", "ahead"]) (ps := ["points", "bound"]) (st := ["points", "bound", "at", "kept", "many", "ahead"]) (fuel := (fun ds => match ds with | [.lst ps, _] => ps.length + 2 | _ => 0)) F (by decide +kernel) (by decide +kernel) (by decide +kernel) ck_least_kept (fns_cons (ok_fewest_to X G c ce) (by decide) fns_nil) (fq_cons (fun h => absurd h (by decide)) fq_nil) ((mf X G c ce).sub (by decide))⟩
def x__law_near : Xc := ⟨[], [], [], [], []⟩
theorem ck__law_near : ((ckS ⟨["_law_one", "_law_other", "_law_point", "_law_bound", "_law_wide", "_law_high", "_law_whole", "_law_along", "_law_over", "_law_down"], defScope (top 10), ["_law_one", "_law_other", "_law_point", "_law_bound", "_law_wide", "_law_high", "_law_whole", "_law_along", "_law_over", "_law_down"], g__law_near, GL, fr, false, x__law_near⟩ 0 m__law_near).b (defBody (top 10))).isSome = true := by kernel_rfl
theorem ok__law_near (X : K.In h) (G : h.Ns mainGlobals mg) (c : He.SaysD fa fn K) (ce : xB XX K = true) : GFn P w K mg base "_law_near" f__law_near := by
  obtain ⟨fd, F⟩ := c.def_ 7 (d := dd "_law_near" 10) rfl
  exact ⟨_, fd, ["_law_one", "_law_other", "_law_point", "_law_bound"], He.glo_ok X G (c.fact 7 (f := .glo "_law_near") rfl), F.kp, FunD.bindsN F (fun _ _ _ _ _ _ us hl => match us, hl with | [_, _, _, _], _ => rfl),
    fn_ok (lv := 0) (io := 0) (N := ["_law_one", "_law_other", "_law_point", "_law_bound", "_law_wide", "_law_high", "_law_whole", "_law_along", "_law_over", "_law_down"]) (ps := ["_law_one", "_law_other", "_law_point", "_law_bound"]) (st := ["_law_one", "_law_other", "_law_point", "_law_bound", "_law_wide", "_law_high", "_law_whole", "_law_along", "_law_over", "_law_down"]) (fuel := (fun _ => 0)) F (by decide +kernel) (by decide +kernel) (by decide +kernel) ck__law_near fns_nil fq_nil ((mf X G c ce).sub (by decide))⟩
def x__law_lets : Xc := ⟨[], [], [], [], []⟩
theorem ck__law_lets : ((ckS ⟨["_law_points_here", "_law_j", "_law_k", "_law_bound", "_law_at"], defScope (top 11), ["_law_points_here", "_law_j", "_law_k", "_law_bound", "_law_at"], g__law_lets, GL, fr, false, x__law_lets⟩ 0 m__law_lets).b (defBody (top 11))).isSome = true := by kernel_rfl
theorem ok__law_lets (X : K.In h) (G : h.Ns mainGlobals mg) (c : He.SaysD fa fn K) (ce : xB XX K = true) : GFn P w K mg base "_law_lets" f__law_lets := by
  obtain ⟨fd, F⟩ := c.def_ 8 (d := dd "_law_lets" 11) rfl
  exact ⟨_, fd, ["_law_points_here", "_law_j", "_law_k", "_law_bound"], He.glo_ok X G (c.fact 8 (f := .glo "_law_lets") rfl), F.kp, FunD.bindsN F (fun _ _ _ _ _ _ us hl => match us, hl with | [_, _, _, _], _ => rfl),
    fn_ok (lv := 1) (io := 0) (N := ["_law_points_here", "_law_j", "_law_k", "_law_bound", "_law_at"]) (ps := ["_law_points_here", "_law_j", "_law_k", "_law_bound"]) (st := ["_law_points_here", "_law_j", "_law_k", "_law_bound", "_law_at"]) (fuel := (fun _ => 0)) F (by decide +kernel) (by decide +kernel) (by decide +kernel) ck__law_lets (fns_cons (ok__law_near X G c ce) (by decide) fns_nil) (fq_cons (fun h => absurd h (by decide)) fq_nil) ((mf X G c ce).sub (by decide))⟩
def x__law_least : Xc := ⟨[], [], [], [], []⟩
theorem ck__law_least : ((ckS ⟨["_law_points_here", "_law_bound", "_law_last", "_law_many", "_law_back", "_law_j", "_law_best", "_law_k", "_law_point"], defScope (top 12), ["_law_points_here", "_law_bound", "_law_last", "_law_many", "_law_back", "_law_j", "_law_best", "_law_k"], g__law_least, GL, fr, false, x__law_least⟩ 0 m__law_least).b (defBody (top 12))).isSome = true := by kernel_rfl
theorem ok__law_least (X : K.In h) (G : h.Ns mainGlobals mg) (c : He.SaysD fa fn K) (ce : xB XX K = true) : GFn P w K mg base "_law_least" f__law_least := by
  obtain ⟨fd, F⟩ := c.def_ 9 (d := dd "_law_least" 12) rfl
  exact ⟨_, fd, ["_law_points_here", "_law_bound"], He.glo_ok X G (c.fact 9 (f := .glo "_law_least") rfl), F.kp, FunD.bindsN F (fun _ _ _ _ _ _ us hl => match us, hl with | [_, _], _ => rfl),
    fn_ok (lv := 2) (io := 0) (N := ["_law_points_here", "_law_bound", "_law_last", "_law_many", "_law_back", "_law_j", "_law_best", "_law_k", "_law_point"]) (ps := ["_law_points_here", "_law_bound"]) (st := ["_law_points_here", "_law_bound", "_law_last", "_law_many", "_law_back", "_law_j", "_law_best", "_law_k"]) (fuel := (fun _ => 0)) F (by decide +kernel) (by decide +kernel) (by decide +kernel) ck__law_least (fns_cons (ok__law_lets X G c ce) (by decide) fns_nil) (fq_cons (fun h => absurd h (by decide)) fq_nil) ((mf X G c ce).sub (by decide))⟩
def x__law_right : Xc := ⟨[], [], [], [], []⟩
theorem ck__law_right : ((ckS ⟨["_law_points_here", "_law_bound", "_law_found", "_law_at", "_law_many", "_law_places"], defScope (top 13), ["_law_points_here", "_law_bound", "_law_found", "_law_at", "_law_many", "_law_places"], g__law_right, GL, fr, false, x__law_right⟩ 0 m__law_right).b (defBody (top 13))).isSome = true := by kernel_rfl
theorem ok__law_right (X : K.In h) (G : h.Ns mainGlobals mg) (c : He.SaysD fa fn K) (ce : xB XX K = true) : GFn P w K mg base "_law_right" f__law_right := by
  obtain ⟨fd, F⟩ := c.def_ 10 (d := dd "_law_right" 13) rfl
  exact ⟨_, fd, ["_law_points_here", "_law_bound", "_law_found"], He.glo_ok X G (c.fact 10 (f := .glo "_law_right") rfl), F.kp, FunD.bindsN F (fun _ _ _ _ _ _ us hl => match us, hl with | [_, _, _], _ => rfl),
    fn_ok (lv := 3) (io := 0) (N := ["_law_points_here", "_law_bound", "_law_found", "_law_at", "_law_many", "_law_places"]) (ps := ["_law_points_here", "_law_bound", "_law_found"]) (st := ["_law_points_here", "_law_bound", "_law_found", "_law_at", "_law_many", "_law_places"]) (fuel := (fun _ => 0)) F (by decide +kernel) (by decide +kernel) (by decide +kernel) ck__law_right (fns_cons (ok__law_lets X G c ce) (by decide) (fns_cons (ok__law_least X G c ce) (by decide) fns_nil)) (fq_cons (fun h => absurd h (by decide)) (fq_cons (fun h => absurd h (by decide)) fq_nil)) ((mf X G c ce).sub (by decide))⟩
def x_law : Xc := ⟨[], [], [], [], []⟩
theorem ck_law : ((ckS ⟨["_law_script", "_law_k", "_law_feed_here", "_law_bound", "_law_kept", "_law_found", "_law_due", "_law_by", "_law_points_here"], defScope (top 14), ["_law_script", "_law_k", "_law_feed_here", "_law_bound", "_law_kept", "_law_found", "_law_due", "_law_by", "_law_points_here"], g_law, GL, fr, false, x_law⟩ 0 m_law).b (defBody (top 14))).isSome = true := by kernel_rfl
end
theorem facts {P : Program} {w : World} {K : PySem.W.Frag} {h : Heap} {mg : Str → Option Value} {f : Addr} (X : K.In h) (G : h.Ns mainGlobals mg) (hfa : mg ("law" : Str) = some (.ref f)) (c : He.SaysD fa fn K) (ce : xB XX K = true) :
    ∃ fd : FuncData, (∀ (s : Shared) (v : Value), BindsTo s fd ⟨[v], []⟩ [("_law_script", v)]) ∧ ∀ base : Heap, K.In base → base.Ns mainGlobals mg → FnOk P w K mg base (L2N.CX P w) 5 f fd ["_law_script"] (spOf ⟨K, none⟩ mg f_law) := by
  obtain ⟨fd, F⟩ := c.def_ 11 (d := dd "law" 14) rfl
  have e := hfa.symm.trans (He.glo_ok X G (c.fact 11 (f := .glo "law") rfl))
  cases e
  have b := FunD.bindsA (ps := ["_law_script"]) F fun _ _ _ _ _ _ us hl => match us, hl with | [_], _ => rfl
  refine ⟨fd, fun s v => b s [v] rfl, fun base _ _ => ?_⟩
  exact fn_ok (lv := 4) (io := 0) (N := ["_law_script", "_law_k", "_law_feed_here", "_law_bound", "_law_kept", "_law_found", "_law_due", "_law_by", "_law_points_here"]) (ps := ["_law_script"]) (st := ["_law_script", "_law_k", "_law_feed_here", "_law_bound", "_law_kept", "_law_found", "_law_due", "_law_by", "_law_points_here"]) (fuel := (fun _ => 0)) F (by decide +kernel) (by decide +kernel) (by decide +kernel) ck_law (fns_cons (ok__law_feed X G c ce) (by decide) (fns_cons (ok__law_points X G c ce) (by decide) (fns_cons (ok__law_draw X G c ce) (by decide) (fns_cons (ok_least_kept X G c ce) (by decide) (fns_cons (ok__law_right X G c ce) (by decide) fns_nil))))) (fq_cons (fun h => absurd h (by decide)) (fq_cons (fun h => absurd h (by decide)) (fq_cons (fun h => absurd h (by decide)) (fq_cons (fun h => absurd h (by decide)) (fq_cons (fun h => absurd h (by decide)) fq_nil))))) ((mf X G c ce).sub (by decide))
end Lwk63
open PySem PySem.W PySem.Calls PyProof.Rows
theorem PySem.Challenge.cw_heightrings_k63_least_kept_holds : PySem.Challenge.rw_heightrings_k63_least_kept.Holds := by
  w_on; o_law
  refine HandSHeadRun.head_any (r := OpenLaw.row PySem.Challenge.rw_heightrings_k63_least_kept) (q := view (OpenLaw.row PySem.Challenge.rw_heightrings_k63_least_kept).prog [14]) (H := Lwk63.hk) (ob := Lwk63.ob) (M := 4000) (loose := Lwk63.lo) (d := HandSHeadRun.topDef (OpenLaw.row PySem.Challenge.rw_heightrings_k63_least_kept).prog 14) (kwd := []) Lwk63.ob_eq
    (by kernel_rfl) (fun s => by kernel_rfl) Lwk63.run (by kernel_rfl) (by kernel_rfl) (by kernel_rfl) (by rfl) (by first | assumption | decide +kernel) (by decide +kernel) ⟨rfl, rfl, rfl, rfl, rfl, by decide +kernel⟩ ?hw ?hc
  case hw => w_witness2
  case hc =>
    refine Rg.walk_ofX (l := PySem.Challenge.rw_heightrings_k63_least_kept) (most := 63) (lvl := 5) (par := "_law_script") rfl (by decide) (by kernel_rfl) ⟨rfl, by decide, by decide⟩ ?F
    intro w mg fa h Y G hmg0
    obtain ⟨K, KX, c, ce⟩ := Y
    have hmg : mg ("law" : PySem.Str) = some (.ref fa) := by
      have e : (HandSHeadRun.topDef (OpenLaw.row PySem.Challenge.rw_heightrings_k63_least_kept).prog 14).name = ("law" : PySem.Str) := by kernel_rfl
      rw [← e]
      exact hmg0
    obtain ⟨fd, hb, hF⟩ := Lwk63.facts (P := (PySem.Challenge.rw_heightrings_k63_least_kept).prog) (w := w) KX G hmg c ce
    exact ⟨K, fd, Rg.spOf ⟨K, none⟩ mg Lwk63.f_law, KX, hb, fun H a ns hl _ hS => Rg.law_sp rfl rfl (Lwk63.law_true ns hl) hS, hF⟩
